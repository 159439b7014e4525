import PyProof.Rows.All
import Wide.All
import OpenK.AllK
import Wide.FinOn
import HandS.TupMul
import HandS.ForMost
import HandS.Base
import HandS.ExcInit
import HandS.Lambda
import HandS.Nested
import KE.KNest
import HandS.Exc
import HandS.IsInst
import HandS.TupAny
import HandS.Style
import HandS.Wide
import HandS.ExcOwn
import HandS.RaiseMore
import HandS.Gcd
import KE.KMathG
import KE.DataMinMax
import HandS.Ends
import HandS.EndTab
import HandS.Iter
import KE.SortData
import HandS.ExcField
import HandS.Zip
import HandS.Deep
import HandS.Conv
import HandS.DictComp
import HandS.TryMany
import KE.GoesMore
import KE.GoesEnum
import KE.KDictSum
import PyProof.Transfer
import HandS.NoneIn
import HandS.ExcValue
import KE.KExcIs
import HandS.NestedK
import PySem.Challenge.RW_sixtylines_k06_whole_rows_and_products
set_option Elab.async false
set_option linter.all false
section
set_option Elab.async false
set_option linter.all false
set_option maxRecDepth 100000
set_option maxHeartbeats 4000000
/-! YPm: tuple * k for k = 1 and for k <= 0. -/
namespace Yz
open PySem PySem.Spec PyProof.Rows L2
theorem tuple_mul0 (l : Addr) (items : Array Value) (n : Nat) (dd : Option Addr) (sl : Array (Option Value)) (x : Int) (u : Tok) (c0 : (decide (x < -(2 ^ 63)) || decide (x ≥ 2 ^ 63)) = false) (c1 : (items.isEmpty || x == 1) = false) (c2 : (decide (x ≤ 0) || items.isEmpty) = true) :
    Meets (Builtin.«tuple.__mul__» ⟨[.ref l, .int x u], []⟩) (fun _ R s => s.heap.get? l = some { cls := .type "tuple", dict := dd, data := .seq items n, slots := sl } ∧
      R (.ok (.ret (Value.ref s.heap.objs.size))) { s with heap := s.heap.push { cls := Value.type "tuple", data := Data.seq #[] }, toks := s.toks }) :=
  .of_wp fun prog w A R s h => by
    obtain ⟨hp, g, d, tk, os⟩ := s
    obtain ⟨hl, h⟩ := h
    have f1 := AutoSeq1.idx_int
    wp_walk using wpAny_loadPart' hl
    repeat (first
      | (refine wpAny_ite_false (decide_eq_false (by rw [c0]; exact Bool.false_ne_true)) ?_; wp_walk using wpAny_loadPart' hl)
      | (refine wpAny_ite_false (decide_eq_false (by rw [c1]; exact Bool.false_ne_true)) ?_; wp_walk using wpAny_loadPart' hl)
      | (refine wpAny_ite_true (decide_eq_true c2) ?_; wp_walk using wpAny_loadPart' hl))
    exact ⟨_, rfl, h⟩
theorem tuple_mul1 (l : Addr) (items : Array Value) (n : Nat) (dd : Option Addr) (sl : Array (Option Value)) (u : Tok) :
    Meets (Builtin.«tuple.__mul__» ⟨[.ref l, .int 1 u], []⟩) (fun _ R s => s.heap.get? l = some { cls := .type "tuple", dict := dd, data := .seq items n, slots := sl } ∧
      R (.ok (.ret (Value.ref l))) s) :=
  .of_wp fun prog w A R s h => by
    obtain ⟨hp, g, d, tk, os⟩ := s
    obtain ⟨hl, h⟩ := h
    have f1 := AutoSeq1.idx_int
    have c1 : (items.isEmpty || (1 : Int) == 1) = true := by simp
    wp_walk using wpAny_loadPart' hl
    repeat (first
      | (refine wpAny_ite_true (decide_eq_true c1) ?_; wp_walk using wpAny_loadPart' hl))
    exact ⟨_, rfl, h⟩
def rRepA (K : PySem.W.Frag) : R2 := fun x y H Q => ∃ l k xs, x = .ref l ∧ y = .int k ∧ SqT K H l xs ∧ xs ≠ [] ∧ -1000 ≤ k ∧ k ≤ 1 ∧ (k = 1 → Q (.ref l) H) ∧ (k ≤ 0 → ∀ p, H p = none → Q (.ref p) (upd H p (.tup [])))
theorem op_repA {X : Cx} : OpR X (binaryOp .Mult) (rRepA X.K) := by
  intro pins s σ H x y v u Q I rx ry h
  obtain ⟨l, k, xs, rfl, rfl, hT, hne, k0, k1, q1, q0⟩ := h
  cases rx
  obtain ⟨t, rfl⟩ := ry
  obtain ⟨its, r, ⟨⟨cls, dd, data, sl⟩, ho, hc, n, hd⟩, hs⟩ := I.tuple hT
  simp only at hc hd
  subst hc hd
  have hi : its.toArray.isEmpty = false := by
    cases its with
    | nil => exact absurd (List.eq_nil_of_length_eq_zero r.length) hne
    | cons a b => rfl
  by_cases e1 : k = 1
  · subst e1
    refine wpAny_binaryOp_repeat_ref (T := "tuple") (U := "int") (by decide) ⟨_, ho, rfl⟩ (fun s' => typeIs_int s' 1 t) noFill_tuple_mul F.fills_int_mul F.slot_int_rmul repeat_tuple F.slot_int_index.lookup
      (call_meets F.slot_int_rmul (typeIs_int s 1 t) F.entry_int_rmul (F.args_int_rmul_2 _ _) (int_rmul_tuple 1 t l its.toArray n dd sl)
        ⟨ho, rfl, ⟨_, ho, rfl⟩, call_meets F.slot_tuple_mul ⟨_, ho, rfl⟩ F.entry_tuple_mul (F.args_tuple_mul_2 _ _) (tuple_mul1 l its.toArray n dd sl t) ⟨ho, ?_⟩⟩)
    exact ⟨.ref l, H, I, rfl, q1 rfl⟩
  · have c0 : (decide (k < -(2 ^ 63)) || decide (k ≥ 2 ^ 63)) = false := by
      rw [decide_eq_false (by omega), decide_eq_false (by omega)] <;> rfl
    have c1 : (its.toArray.isEmpty || k == 1) = false := by
      rw [hi, Bool.false_or]
      exact beq_eq_false_iff_ne.mpr (by omega)
    have c2 : (decide (k ≤ 0) || its.toArray.isEmpty) = true := by
      rw [decide_eq_true (by omega)] <;> rfl
    refine wpAny_binaryOp_repeat_ref (T := "tuple") (U := "int") (by decide) ⟨_, ho, rfl⟩ (fun s' => typeIs_int s' k t) noFill_tuple_mul F.fills_int_mul F.slot_int_rmul repeat_tuple F.slot_int_index.lookup
      (call_meets F.slot_int_rmul (typeIs_int s k t) F.entry_int_rmul (F.args_int_rmul_2 _ _) (int_rmul_tuple k t l its.toArray n dd sl)
        ⟨ho, rfl, ⟨_, ho, rfl⟩, call_meets F.slot_tuple_mul ⟨_, ho, rfl⟩ F.entry_tuple_mul (F.args_tuple_mul_2 _ _) (tuple_mul0 l its.toArray n dd sl k t c0 c1 c2) ⟨ho, ?_⟩⟩)
    refine ⟨.ref s.heap.objs.size, _, I.laid (t' := s.toks) (o := .tup []) (fun b ob q => Heap.get?_push_of_some _ q) (Nat.le_refl _) ?_, rfl, q0 (by omega) _ (I.hok.fresh (Nat.le_refl _))⟩
    exact ⟨Nat.zero_le _, [], .nil, IsTup.new _ _⟩
end Yz
end

section
set_option Elab.async false
set_option linter.all false
/-! YA: the pure part of Y: values, the list-heap, and a computable meaning for each construct. -/
namespace Y
open PySem L2

/-- values: tuples and frozen lists are pure data, what is mutable is a place of the heap -/
inductive D where
  | non | bl (b : Bool) | int (i : Int) | str (x : Str)
  | tup (xs : List D) | fl (xs : List D) | sq (xs : List D) | loc (k : Nat)
  /-- an object of a class of the program (by its name) that is never changed any more -/
  | obj (c : Str) (ns : List Str) (ds : List D)
  /-- a def of the module, as a value -/
  | gfn (x : Str)

mutual
def D.beq : D → D → Bool
  | .non, .non => true
  | .bl a, .bl b => a == b
  | .int a, .int b => decide (a = b)
  | .str a, .str b => decide (a = b)
  | .tup a, .tup b => D.beqL a b
  | .fl a, .fl b => D.beqL a b
  | .sq a, .sq b => D.beqL a b
  | .loc a, .loc b => decide (a = b)
  | .obj c ns a, .obj c' ns' b => decide (c = c') && decide (ns = ns') && D.beqL a b
  | .gfn a, .gfn b => decide (a = b)
  | _, _ => false
def D.beqL : List D → List D → Bool
  | [], [] => true
  | a :: as, b :: bs => D.beq a b && D.beqL as bs
  | _, _ => false
end
mutual
theorem D.beq_refl : ∀ a : D, D.beq a a = true
  | .non => by simp [D.beq]
  | .bl b => by simp [D.beq]
  | .int i => by simp [D.beq]
  | .str x => by simp [D.beq]
  | .tup xs => by simp [D.beq, D.beqL_refl xs]
  | .fl xs => by simp [D.beq, D.beqL_refl xs]
  | .sq xs => by simp [D.beq, D.beqL_refl xs]
  | .loc k => by simp [D.beq]
  | .obj c ns xs => by simp [D.beq, D.beqL_refl xs]
  | .gfn x => by simp [D.beq]
theorem D.beqL_refl : ∀ a : List D, D.beqL a a = true
  | [] => by simp [D.beqL]
  | a :: as => by simp [D.beqL, D.beq_refl a, D.beqL_refl as]
end
mutual
theorem D.eq_of : ∀ (a b : D), D.beq a b = true → a = b
  | .non, b, h => by cases b <;> simp_all [D.beq]
  | .bl _, b, h => by cases b <;> simp_all [D.beq]
  | .int _, b, h => by cases b <;> simp_all [D.beq]
  | .str _, b, h => by cases b <;> simp_all [D.beq]
  | .tup xs, b, h => by
    cases b <;> simp [D.beq] at h
    rename_i ys
    rw [D.eqL_of xs ys h]
  | .fl xs, b, h => by
    cases b <;> simp [D.beq] at h
    rename_i ys
    rw [D.eqL_of xs ys h]
  | .sq xs, b, h => by
    cases b <;> simp [D.beq] at h
    rename_i ys
    rw [D.eqL_of xs ys h]
  | .loc _, b, h => by cases b <;> simp_all [D.beq]
  | .obj c ns xs, b, h => by
    cases b <;> simp [D.beq] at h
    rename_i c' ns' ys
    rw [D.eqL_of xs ys h.2, h.1.1, h.1.2]
  | .gfn _, b, h => by cases b <;> simp_all [D.beq]
theorem D.eqL_of : ∀ (a b : List D), D.beqL a b = true → a = b
  | [], b, h => by cases b <;> simp_all [D.beqL]
  | a :: as, b, h => by
    cases b with
    | nil => simp [D.beqL] at h
    | cons c cs =>
      simp [D.beqL] at h
      rw [D.eq_of a c h.1, D.eqL_of as cs h.2]
end
instance : DecidableEq D := fun a b => if h : D.beq a b = true then .isTrue (D.eq_of a b h) else .isFalse fun e => h (e ▸ D.beq_refl a)

/-- what is mutable -/
inductive Ob where
  | lst (xs : List D) | dct (kvs : List (Key × D)) | dtu (kvs : List (List Key × D))
  deriving DecidableEq
abbrev Hm := List Ob
abbrev Sl := List (Option D)
structure Exn where
  cls : Str
  fs : List (Str × D)
/-- how an evaluation ends; bad: not served (nothing is said then) -/
inductive Rs (α : Type) where
  | ok (a : α) (h : Hm) | ex (e : Exn) (h : Hm) | bad
def Rs.bind {α β : Type} (r : Rs α) (k : α → Hm → Rs β) : Rs β := match r with
  | .ok a h => k a h
  | .ex e h => .ex e h
  | .bad => .bad
/-- within a comprehension nothing is raised -/
def Rs.bindN {α β : Type} (r : Rs α) (k : α → Hm → Rs β) : Rs β := match r with
  | .ok a h => k a h
  | _ => .bad
def ofO {α : Type} (o : Option α) (h : Hm) : Rs α := match o with
  | some a => .ok a h
  | none => .bad
abbrev Ev := Sl → Hm → Rs D
abbrev Tv := Sl → Hm → Rs Bool
/-- a list that nobody else holds yet -/
abbrev Lv := Sl → Hm → Rs (List D)
abbrev Av := Sl → Hm → Rs (List D)
inductive Out where
  | nx (σ : Sl) (h : Hm) | rt (d : D) (h : Hm) | rl (ds : List D) (h : Hm) | bk (σ : Sl) (h : Hm) | ct (σ : Sl) (h : Hm) | ex (e : Exn) (σ : Sl) (h : Hm) | bad
abbrev Sv := Sl → Hm → Out
abbrev Fn := List D → Hm → Rs D
abbrev FnL := List D → Hm → Rs (List D)

/-! ### reading -/
def lstOf (h : Hm) : D → Option (List D)
  | .fl xs => some xs
  | .sq xs => some xs
  | .loc k => match h[k]? with
    | some (.lst xs) => some xs
    | _ => none
  | _ => none
def seqOf (h : Hm) : D → Option (List D)
  | .tup xs => some xs
  | d => lstOf h d
/-- a list of the program's own making -/
def ownL (h : Hm) : D → Option (List D)
  | .fl xs => some xs
  | .loc k => match h[k]? with
    | some (.lst xs) => some xs
    | _ => none
  | _ => none
def line : Nat := 16777216
def big : Int := 18446744073709551616

/-! ### expressions -/
def eC (d : D) : Ev := fun _ h => .ok d h
def eV (i : Nat) : Ev := fun σ h => match σ[i]? with
  | some (some d) => .ok d h
  | _ => .bad
def e1 (o : Hm → D → Option D) (f : Ev) : Ev := fun σ h => (f σ h).bind fun x h1 => ofO (o h1 x) h1
def e2 (o : Hm → D → D → Option D) (f g : Ev) : Ev := fun σ h => (f σ h).bind fun x h1 => (g σ h1).bind fun y h2 => ofO (o h2 x y) h2
def aN : Av := fun _ h => .ok [] h
def aC (f : Ev) (g : Av) : Av := fun σ h => (f σ h).bind fun x h1 => (g σ h1).bind fun xs h2 => .ok (x :: xs) h2
def eTup (a : Av) : Ev := fun σ h => (a σ h).bind fun xs h1 => if xs.length ≤ line then .ok (.tup xs) h1 else .bad
def lLst (a : Av) : Lv := fun σ h => (a σ h).bind fun xs h1 => if xs.length ≤ line then .ok xs h1 else .bad
/-- a fresh list, held for good as it is -/
def eFrz (f : Lv) : Ev := fun σ h => (f σ h).bind fun xs h1 => .ok (.fl xs) h1
/-- a fresh list that will be changed -/
def eMut (f : Lv) : Ev := fun σ h => (f σ h).bind fun xs h1 => .ok (.loc h1.length) (h1 ++ [.lst xs])

/-! ### operators -/
def oAdd (h : Hm) : D → D → Option D
  | .int i, .int j => some (.int (i + j))
  | .str a, .str b => if a.length + b.length ≤ line then some (.str (a ++ b)) else none
  | .tup xs, .tup ys => if xs.length + ys.length ≤ line then some (.tup (xs ++ ys)) else none
  | x, y => match ownL h x, ownL h y with
    | some xs, some ys => if xs.length + ys.length ≤ line then some (.fl (xs ++ ys)) else none
    | _, _ => none
def oSub (_ : Hm) : D → D → Option D
  | .int i, .int j => some (.int (i - j))
  | _, _ => none
def mulOk (i j : Int) : Bool := ((decide (-big < i) && decide (i < big)) || (decide (-big < j) && decide (j < big))) || decide (i.natAbs.log2 + j.natAbs.log2 < 1000000)
/-- x *= y of numbers -/
def oMulI (_ : Hm) : D → D → Option D
  | .int i, .int j => if mulOk i j then some (.int (i * j)) else none
  | _, _ => none
def oMul (_ : Hm) : D → D → Option D
  | .int i, .int j => if mulOk i j then some (.int (i * j)) else none
  | .tup xs, .int k => if -1000 ≤ k ∧ k ≤ 1000 ∧ xs ≠ [] ∧ xs.length ≤ 1000 then some (.tup (List.replicate k.toNat xs).flatten) else none
  | _, _ => none
def oDiv (_ : Hm) : D → D → Option D
  | .int i, .int j => if 0 < j ∧ (j < 1073741824 ∨ j.natAbs.log2 < 9000) then some (.int (i / j)) else if j < 0 ∧ -1073741824 < j then some (.int (i.fdiv j)) else none
  | _, _ => none
def oMod (_ : Hm) : D → D → Option D
  | .int i, .int j => if 0 < j then some (.int (i % j)) else if j < 0 then some (.int (i.fmod j)) else none
  | _, _ => none
def oPow (_ : Hm) : D → D → Option D
  | .int i, .int j => if 0 ≤ j ∧ j ≤ 1000000 ∧ -big < i ∧ i < big then some (.int (i ^ j.toNat)) else none
  | _, _ => none
def uNeg (_ : Hm) : D → Option D
  | .int i => some (.int (-i))
  | _ => none

/-! ### comparisons -/
mutual
/-- as plain data -/
def py (h : Hm) : D → Option PyData
  | .non => some .none
  | .bl b => some (.bool b)
  | .int i => some (.int i)
  | .str x => some (.str x)
  | .tup xs => (pyL h xs).map .tuple
  | .fl xs => (pyL h xs).map .list
  | .sq xs => (pyL h xs).map .list
  | .loc _ => none
  | .obj _ _ _ => none
  | .gfn _ => none
def pyL (h : Hm) : List D → Option (List PyData)
  | [] => some []
  | x :: xs => match py h x, pyL h xs with
    | some a, some b => some (a :: b)
    | _, _ => none
end
/-- a list of one's own is read as it stands -/
def pyE (h : Hm) : D → Option PyData
  | .loc k => match h[k]? with
    | some (.lst xs) => (pyL h xs).map .list
    | _ => none
  | d => py h d
def eqD (h : Hm) (x y : D) : Option Bool := match x, y with
  | .int i, .int j => some (decide (i = j))
  | .str i, .str j => some (decide (i = j))
  | .bl i, .bl j => some (i == j)
  | x, y => match pyE h x, pyE h y with
    | some a, some b => if SeqAt.shaped a && SeqAt.shaped b then some (PyData.eqv a b) else none
    | _, _ => none
def oEq (h : Hm) (x y : D) : Option D := (eqD h x y).map .bl
def oNe (h : Hm) (x y : D) : Option D := (eqD h x y).map fun b => .bl (!b)
def intsOf : List D → Option (List Int)
  | [] => some []
  | .int i :: r => (intsOf r).map (i :: ·)
  | _ => none
def oLt (_ : Hm) : D → D → Option D
  | .int i, .int j => some (.bl (decide (i < j)))
  | .tup xs, .tup ys => match intsOf xs, intsOf ys with
    | some a, some b => some (.bl (HT.lexLt a b))
    | _, _ => none
  | _, _ => none
def oLe (_ : Hm) : D → D → Option D
  | .int i, .int j => some (.bl (decide (i ≤ j)))
  | _, _ => none
def oGt (_ : Hm) : D → D → Option D
  | .int i, .int j => some (.bl (decide (j < i)))
  | _, _ => none
def oGe (_ : Hm) : D → D → Option D
  | .int i, .int j => some (.bl (decide (j ≤ i)))
  | _, _ => none
def isN : D → Bool
  | .non => true
  | _ => false
/-- x is None, True, False -/
def oIs (_ : Hm) : D → D → Option D
  | x, .non => some (.bl (isN x))
  | .bl a, .bl b => some (.bl (decide (a = b)))
  | _, _ => none
def oIsNot (_ : Hm) : D → D → Option D
  | x, .non => some (.bl (!isN x))
  | .bl a, .bl b => some (.bl (!decide (a = b)))
  | _, _ => none
/-- a < b < c: b once -/
def eCh (o o' : Hm → D → D → Option D) (f g k : Ev) : Ev := fun σ h => (f σ h).bind fun x h1 => (g σ h1).bind fun y h2 => match o h2 x y with
  | some (.bl true) => (k σ h2).bind fun z h3 => ofO (o' h3 y z) h3
  | some (.bl false) => .ok (.bl false) h2
  | _ => .bad

/-! ### truth -/
def truth (h : Hm) : D → Option Bool
  | .non => some false
  | .bl b => some b
  | .int i => some (decide (i ≠ 0))
  | .str x => if x.length ≤ line then some (decide (x.length ≠ 0)) else none
  | .tup xs => some (!xs.isEmpty)
  | d => (lstOf h d).map fun xs => !xs.isEmpty
/-- an expression that gives a bool, as a test -/
def tB (f : Ev) : Tv := fun σ h => (f σ h).bind fun x h1 => match x with
  | .bl b => .ok b h1
  | _ => .bad
/-- of any value -/
def tT (f : Ev) : Tv := fun σ h => (f σ h).bind fun x h1 => ofO (truth h1 x) h1
def tAnd (a b : Tv) : Tv := fun σ h => (a σ h).bind fun c h1 => if c = true then b σ h1 else .ok false h1
def tOr (a b : Tv) : Tv := fun σ h => (a σ h).bind fun c h1 => if c = true then .ok true h1 else b σ h1
def tNot (a : Tv) : Tv := fun σ h => (a σ h).bind fun c h1 => .ok (!c) h1
/-- a and b, a or b, not a, as values (all but the last a bool) -/
def eAnd (a b : Ev) : Ev := fun σ h => (a σ h).bind fun x h1 => match x with
  | .bl true => b σ h1
  | .bl false => .ok (.bl false) h1
  | _ => .bad
def eOr (a b : Ev) : Ev := fun σ h => (a σ h).bind fun x h1 => match x with
  | .bl false => b σ h1
  | .bl true => .ok (.bl true) h1
  | _ => .bad
def uNot (_ : Hm) : D → Option D
  | .bl b => some (.bl (!b))
  | _ => none
def eIf (c : Tv) (a b : Ev) : Ev := fun σ h => (c σ h).bind fun t h1 => if t = true then a σ h1 else b σ h1

/-! ### places -/
def ixD (h : Hm) : D → D → Option D
  | .str x, .int i => if x.length ≤ line then (atI x.cps.toList i).map fun c => .str ⟨#[c]⟩ else none
  | d, .int i => (seqOf h d).bind fun xs => atI xs i
  | _, _ => none
def keyOf : D → Option Key
  | .int i => some (.inl i)
  | .str x => some (.inr x)
  | _ => none
def keysOf : List D → Option (List Key)
  | [] => some []
  | x :: xs => match keyOf x, keysOf xs with
    | some k, some ks => some (k :: ks)
    | _, _ => none
/-- a tuple as a key -/
def tkOf : D → Option (List Key)
  | .tup xs => keysOf xs
  | _ => none
def dtuOf (h : Hm) : D → Option (List (List Key × D))
  | .loc k => match h[k]? with
    | some (.dtu kvs) => some kvs
    | _ => none
  | _ => none
def dctOf (h : Hm) : D → Option (List (Key × D))
  | .loc k => match h[k]? with
    | some (.dct kvs) => some kvs
    | _ => none
  | _ => none
def getK {κ : Type} [DecidableEq κ] (kvs : List (κ × D)) (k : κ) : Option D := (kvs.find? fun kv => decide (kv.1 = k)).map (·.2)
def setK {κ : Type} [DecidableEq κ] (kvs : List (κ × D)) (k : κ) (v : D) : List (κ × D) :=
  if (kvs.any fun kv => decide (kv.1 = k)) = true then kvs.map (fun kv => if kv.1 = k then (kv.1, v) else kv) else kvs ++ [(k, v)]
def oDget (h : Hm) (x y : D) : Option D := match dctOf h x, keyOf y with
  | some kvs, some k => getK kvs k
  | _, _ => none
/-- x[y] -/
def oIx (h : Hm) (x y : D) : Option D := match dctOf h x with
  | some _ => oDget h x y
  | none => ixD h x y
/-- isinstance of a built-in class -/
inductive Ty where | int | bool | tuple | list | str | dict
def instD (h : Hm) : Ty → D → Option Bool
  | .int, d => match d with | .obj _ _ _ => none | .gfn _ => none | .int _ => some true | .bl _ => some true | .loc k => (h[k]?).map fun _ => false | _ => some false
  | .bool, d => match d with | .obj _ _ _ => none | .gfn _ => none | .bl _ => some true | .loc k => (h[k]?).map fun _ => false | _ => some false
  | .str, d => match d with | .obj _ _ _ => none | .gfn _ => none | .str _ => some true | .loc k => (h[k]?).map fun _ => false | _ => some false
  | .tuple, d => match d with | .obj _ _ _ => none | .gfn _ => none | .tup _ => some true | .loc k => (h[k]?).map fun _ => false | _ => some false
  | .list, d => match d with | .obj _ _ _ => none | .gfn _ => none | .fl _ => some true | .sq _ => some true | .loc k => (match h[k]? with | some (.lst _) => some true | some (.dct _) => some false | some (.dtu _) => some false | none => none) | _ => some false
  | .dict, d => match d with | .obj _ _ _ => none | .gfn _ => none | .loc k => (match h[k]? with | some (.lst _) => some false | some (.dct _) => some true | some (.dtu _) => some true | none => none) | _ => some false
def eIs (T : Ty) (f : Ev) : Ev := e1 (fun h x => (instD h T x).map .bl) f

/-! ### calls -/
def bLen (h : Hm) : List D → Option D
  | [.str x] => if x.length ≤ line then some (.int x.length) else none
  | [d] => (seqOf h d).map fun xs => .int xs.length
  | _ => none
def bInt (_ : Hm) : List D → Option D
  | [.int i] => some (.int i)
  | [.bl b] => some (.int (if b then 1 else 0))
  | _ => none
def bAbs (_ : Hm) : List D → Option D
  | [.int i] => some (.int (if i < 0 then -i else i))
  | _ => none
def bools : List D → Option (List Bool)
  | [] => some []
  | .bl b :: r => (bools r).map (b :: ·)
  | _ => none
def bAll (h : Hm) : List D → Option D
  | [d] => match (lstOf h d).bind bools with
    | some bs => some (.bl (bs.all id))
    | none => none
  | _ => none
def bAny (h : Hm) : List D → Option D
  | [d] => match (lstOf h d).bind bools with
    | some bs => some (.bl (bs.any id))
    | none => none
  | _ => none
def bSum (h : Hm) : List D → Option D
  | [d] => match (lstOf h d).bind intsOf with
    | some ns => some (.int ns.sum)
    | none => none
  | _ => none
/-- f(..), f a built-in that makes nothing -/
def eB (o : Hm → List D → Option D) (a : Av) : Ev := fun σ h => (a σ h).bind fun xs h1 => ofO (o h1 xs) h1
/-- f(..), f a built-in that makes a list, a tuple -/
def lB (o : Hm → List D → Option (List D)) (a : Av) : Lv := fun σ h => (a σ h).bind fun xs h1 => ofO (o h1 xs) h1
def mList (h : Hm) : List D → Option (List D)
  | [d] => seqOf h d
  | _ => none
def bTuple (h : Hm) : List D → Option D
  | [.tup xs] => some (.tup xs)
  | [d] => (lstOf h d).map .tup
  | _ => none
/-- the same of a list that was just made (all, any, sum, tuple, len, sorted ..) -/
def eBL (o : List D → Option D) (f : Lv) : Ev := fun σ h => (f σ h).bind fun xs h1 => ofO (o xs) h1
def eCall (F : Fn) (a : Av) : Ev := fun σ h => (a σ h).bind fun xs h1 => F xs h1
def lCall (F : FnL) (a : Av) : Lv := fun σ h => (a σ h).bind fun xs h1 => F xs h1

/-! ### targets, loops, comprehensions -/
abbrev Gv := D → Sl → Option Sl
def gN (i : Nat) : Gv := fun d σ => some (σ.set i (some d))
def gTs : List Gv → List D → Sl → Option Sl
  | [], [], σ => some σ
  | g :: gs, d :: ds, σ => (g d σ).bind (gTs gs ds)
  | _, _, _ => none
def gT (gs : List Gv) : Gv := fun d σ => match d with
  | .tup xs => gTs gs xs σ
  | _ => none
def unset (σ : Sl) : List Nat → Sl
  | [] => σ
  | v :: vs => (unset σ vs).set v none
/-- what a for or a comprehension walks: its items -/
abbrev Iv := Sl → Hm → Rs (List D)
def iT (f : Ev) : Iv := fun σ h => (f σ h).bind fun x h1 => match x with
  | .tup xs => .ok xs h1
  | _ => .bad
def iF (f : Ev) : Iv := fun σ h => (f σ h).bind fun x h1 => match x with
  | .fl xs => .ok xs h1
  | .sq xs => .ok xs h1
  | _ => .bad
def small (i : Int) : Bool := decide (i.natAbs.log2 < 62)
def rangeD (lo : Int) (n : Nat) : List D := (List.range n).map fun i => .int (lo + (i : Nat))
def iR1 (a : Av) : Iv := fun σ h => (a σ h).bind fun xs h1 => match xs with
  | [.int j] => if small j then .ok (rangeD 0 j.toNat) h1 else .bad
  | _ => .bad
def iR2 (a : Av) : Iv := fun σ h => (a σ h).bind fun xs h1 => match xs with
  | [.int i, .int j] => if small i && small j then .ok (rangeD i (j - i).toNat) h1 else .bad
  | _ => .bad
def forL (g : Gv) (b : Sv) : List D → Sv
  | [], σ, h => .nx σ h
  | d :: ds, σ, h => match g d σ with
    | none => .bad
    | some σ1 => match b σ1 h with
      | .nx σ2 h2 => forL g b ds σ2 h2
      | .ct σ2 h2 => forL g b ds σ2 h2
      | .bk σ2 h2 => .nx σ2 h2
      | o => o
def compL (g : Gv) (c : Tv) (e : Ev) (σ : Sl) : List D → Hm → Rs (List D)
  | [], h => .ok [] h
  | d :: ds, h => match g d σ with
    | none => .bad
    | some σ1 => (c σ1 h).bindN fun t h1 => if t = true then (e σ1 h1).bindN fun y h2 => (compL g c e σ ds h2).bindN fun ys h3 => .ok (y :: ys) h3 else compL g c e σ ds h1
/-- the same over a list of one's own (or any), that must stand as it was at each step -/
def forG (G : Hm → Bool) (g : Gv) (b : Sv) : List D → Sv
  | [], σ, h => if G h = true then .nx σ h else .bad
  | d :: ds, σ, h => if G h = true then (match g d σ with
    | none => .bad
    | some σ1 => match b σ1 h with
      | .nx σ2 h2 => forG G g b ds σ2 h2
      | .ct σ2 h2 => forG G g b ds σ2 h2
      | .bk σ2 h2 => .nx σ2 h2
      | o => o) else .bad
def compG (G : Hm → Bool) (g : Gv) (c : Tv) (e : Ev) (σ : Sl) : List D → Hm → Rs (List D)
  | [], h => if G h = true then .ok [] h else .bad
  | d :: ds, h => if G h = true then (match g d σ with
    | none => .bad
    | some σ1 => (c σ1 h).bindN fun t h1 => if t = true then (e σ1 h1).bindN fun y h2 => (compG G g c e σ ds h2).bindN fun ys h3 => .ok (y :: ys) h3 else compG G g c e σ ds h1) else .bad
theorem forG_yes {G : Hm → Bool} (hG : ∀ h, G h = true) {g : Gv} {b : Sv} : ∀ (ds : List D) (σ : Sl) (h : Hm), forG G g b ds σ h = forL g b ds σ h
  | [], σ, h => by simp [forG, forL, hG]
  | d :: ds, σ, h => by
    have ih := forG_yes hG (g := g) (b := b) ds
    simp only [forG, forL, hG, if_true]
    cases g d σ with
    | none => rfl
    | some σ1 => cases e : b σ1 h <;> simp [e, ih]
theorem compG_yes {G : Hm → Bool} (hG : ∀ h, G h = true) {g : Gv} {c : Tv} {e : Ev} {σ : Sl} : ∀ (ds : List D) (h : Hm), compG G g c e σ ds h = compL g c e σ ds h
  | [], h => by simp [compG, compL, hG]
  | d :: ds, h => by
    have ih := compG_yes hG (g := g) (c := c) (e := e) (σ := σ) ds
    simp only [compG, compL, hG, if_true, ih]
abbrev Iv2 := Sl → Hm → Rs (Option Nat × List D)
def gd (s : Option Nat) (ds : List D) (h : Hm) : Bool := match s with
  | none => true
  | some k => decide (h[k]? = some (.lst ds))
/-- any sequence, walked -/
def iX (f : Ev) : Iv2 := fun σ h => (f σ h).bind fun x h1 => match x with
  | .tup xs => .ok (none, xs) h1
  | .fl xs => .ok (none, xs) h1
  | .sq xs => .ok (none, xs) h1
  | .loc k => match h1[k]? with
    | some (.lst xs) => .ok (some k, xs) h1
    | _ => .bad
  | _ => .bad
/-- a pure walk as one that may be of one's own -/
def iP (f : Iv) : Iv2 := fun σ h => (f σ h).bind fun xs h1 => .ok (none, xs) h1
def tYes : Tv := fun _ h => .ok true h
/-- [e for g in it if c], its own names at vs -/
def lComp (it : Iv) (g : Gv) (c : Tv) (e : Ev) (vs : List Nat) : Lv := fun σ h => (it σ h).bind fun ds h1 => (compL g c e (unset σ vs) ds h1).bind fun ys h2 => if ys.length ≤ line then .ok ys h2 else .bad

/-! ### statements -/
def sPass : Sv := fun σ h => .nx σ h
def sBk : Sv := fun σ h => .bk σ h
def sCt : Sv := fun σ h => .ct σ h
def sNever : Sv := fun _ _ => .bad
def sSeq (a b : Sv) : Sv := fun σ h => match a σ h with
  | .nx σ1 h1 => b σ1 h1
  | o => o
/-- an evaluation within a statement -/
def Rs.out {α : Type} (r : Rs α) (σ : Sl) (k : α → Hm → Out) : Out := match r with
  | .ok a h => k a h
  | .ex e h => .ex e σ h
  | .bad => .bad
def outO (o : Option Sl) (h : Hm) : Out := match o with
  | some σ => .nx σ h
  | none => .bad
def sIf (c : Tv) (a b : Sv) : Sv := fun σ h => (c σ h).out σ fun t h1 => if t = true then a σ h1 else b σ h1
def sRet (f : Ev) : Sv := fun σ h => (f σ h).out σ fun d h1 => .rt d h1
def sRetL (f : Lv) : Sv := fun σ h => (f σ h).out σ fun d h1 => .rl d h1
def sRetN : Sv := fun _ h => .rt .non h
def sAsg (g : Gv) (f : Ev) : Sv := fun σ h => (f σ h).out σ fun d h1 => outO (g d σ) h1
def sExpr (f : Ev) : Sv := fun σ h => (f σ h).out σ fun _ h1 => .nx σ h1
/-- a, b = x, y -/
def sPar (i j : Nat) (a : Av) : Sv := fun σ h => (a σ h).out σ fun xs h1 => match xs with
  | [x, y] => .nx ((σ.set i (some x)).set j (some y)) h1
  | _ => .bad
/-- o[k] = v, by values -/
def setD (h : Hm) : D → D → D → Option Hm
  | .loc p, k, v => match h[p]? with
    | some (.dct kvs) => match keyOf k with
      | some k => if kvs.length < line then some (h.set p (.dct (setK kvs k v))) else none
      | none => none
    | some (.lst xs) => match k with
      | .int i => (ixN xs.length i).map fun j => h.set p (.lst (xs.set j v))
      | _ => none
    | some (.dtu _) => none
    | none => none
  | _, _, _ => none
/-- o[k] = e -/
def sStore (fo fk fe : Ev) : Sv := fun σ h => (fe σ h).out σ fun v h1 => (fo σ h1).out σ fun o h2 => (fk σ h2).out σ fun k h3 => match setD h3 o k v with
  | some h4 => .nx σ h4
  | none => .bad
/-- o.append(e) -/
def isLst (h : Hm) : D → Bool
  | .loc p => match h[p]? with
    | some (.lst _) => true
    | _ => false
  | _ => false
def appD (h : Hm) : D → D → Option Hm
  | .loc p, v => match h[p]? with
    | some (.lst xs) => if xs.length < line then some (h.set p (.lst (xs ++ [v]))) else none
    | _ => none
  | _, _ => none
def sApp (fo fe : Ev) : Sv := fun σ h => (fo σ h).out σ fun o h1 => if isLst h1 o = true then (fe σ h1).out σ fun v h2 => match appD h2 o v with
  | some h3 => .nx σ h3
  | none => .bad
  else .bad
/-- x op= e, x a name -/
def sAug (i : Nat) (o : Hm → D → D → Option D) (f : Ev) : Sv := fun σ h => match σ[i]? with
  | some (some x) => (f σ h).out σ fun y h1 => match o h1 x y with
    | some z => .nx (σ.set i (some z)) h1
    | none => .bad
  | _ => .bad
def sFor (it : Iv) (g : Gv) (b : Sv) : Sv := fun σ h => (it σ h).out σ fun ds h1 => forL g b ds σ h1
def sForX (it : Iv2) (g : Gv) (b : Sv) : Sv := fun σ h => (it σ h).out σ fun p h1 => forG (gd p.1 p.2) g b p.2 σ h1
def lCompX (it : Iv2) (g : Gv) (c : Tv) (e : Ev) (vs : List Nat) : Lv := fun σ h => (it σ h).bind fun p h1 => (compG (gd p.1 p.2) g c e (unset σ vs) p.2 h1).bind fun ys h2 => if ys.length ≤ line then .ok ys h2 else .bad
def whileL (c : Tv) (b : Sv) : Nat → Sv
  | 0, _, _ => .bad
  | n + 1, σ, h => match c σ h with
    | .ok t h1 => if t = true then (match b σ h1 with
      | .nx σ2 h2 => whileL c b n σ2 h2
      | .ct σ2 h2 => whileL c b n σ2 h2
      | .bk σ2 h2 => .nx σ2 h2
      | o => o) else .nx σ h1
    | .ex e h1 => .ex e σ h1
    | .bad => .bad
def sWhile (c : Tv) (b : Sv) : Sv := fun σ h => whileL c b 1000000000000 σ h
/-- {k: v, ..}, written, that will be changed -/
def mergeD (kvs more : List (Key × D)) : List (Key × D) := more.foldl (fun acc kv => setK acc kv.1 kv.2) kvs
def kvsOf : List D → Option (List (Key × D))
  | [] => some []
  | k :: v :: r => match keyOf k, kvsOf r with
    | some k, some l => some ((k, v) :: l)
    | _, _ => none
  | _ => none
def pN : Av := fun _ h => .ok [] h
def pC (f g : Ev) (r : Av) : Av := fun σ h => (f σ h).bind fun k h1 => (g σ h1).bind fun v h2 => (r σ h2).bind fun l h3 => .ok (k :: v :: l) h3
def eDct (a : Av) : Ev := fun σ h => (a σ h).bind fun l h1 => match kvsOf l with
  | some kvs => if kvs.length ≤ 15 then .ok (.loc h1.length) (h1 ++ [.dct (mergeD [] kvs)]) else .bad
  | none => .bad

/-! ### a def -/
mutual
def D.low (n : Nat) : D → Bool
  | .loc k => decide (k < n)
  | .tup xs => D.lowL n xs
  | .fl xs => D.lowL n xs
  | .sq xs => D.lowL n xs
  | .obj _ _ xs => D.lowL n xs
  | _ => true
def D.lowL (n : Nat) : List D → Bool
  | [] => true
  | d :: ds => D.low n d && D.lowL n ds
end
def Ob.low (n : Nat) : Ob → Bool
  | .lst xs => D.lowL n xs
  | .dct kvs => D.lowL n (kvs.map (·.2))
  | .dtu kvs => D.lowL n (kvs.map (·.2))
/-- the elder objects name no younger one -/
def sealed (n : Nat) (h0 h' : Hm) : Bool := ((h'.take n).zip h0).all fun p => decide (p.1 = p.2) || Ob.low n p.1
/-- a def's end: what it made for itself is forgotten -/
def finP (h0 : Hm) (d : D) (h' : Hm) : Rs D :=
  if h'.length = h0.length then .ok d h' else if D.low h0.length d && sealed h0.length h0 h' && decide (h0.length ≤ h'.length) then .ok d (h'.take h0.length) else .bad
/-- .. it hands back an object of its own -/
def finK (_ : Hm) (d : D) (h' : Hm) : Rs D := .ok d h'
/-- .. it hands back a list of its own that nobody else holds -/
def finL (h0 : Hm) (o : Out) : Rs (List D) := match o with
  | .rl ds h' => if h'.length = h0.length then .ok ds h' else if D.lowL h0.length ds && sealed h0.length h0 h' && decide (h0.length ≤ h'.length) then .ok ds (h'.take h0.length) else .bad
  | .rt (.loc k) h' => match h'[k]? with
    | some (.lst ds) => if D.lowL h0.length ds && sealed h0.length h0 h' && decide (h0.length ≤ k) then .ok ds (h'.take h0.length) else .bad
    | _ => .bad
  | .ex e _ h' => .ex e h'
  | _ => .bad
def startD (n : Nat) (ds : List D) : Sl := ds.map some ++ List.replicate (n - ds.length) none
def fnP (n : Nat) (b : Sv) : Fn := fun ds h => match b (startD n ds) h with
  | .rt d h' => finP h d h'
  | .nx _ h' => finP h .non h'
  | .ex e _ h' => .ex e h'
  | _ => .bad
def fnK (n : Nat) (b : Sv) : Fn := fun ds h => match b (startD n ds) h with
  | .rt d h' => .ok d h'
  | .nx _ h' => .ok .non h'
  | .ex e _ h' => .ex e h'
  | _ => .bad
def fnL (n : Nat) (b : Sv) : FnL := fun ds h => finL h (b (startD n ds) h)
end Y
end

section
namespace Y
/-- the defs that make lambdas -/
def lamN : List PySem.Str := ["_law_errors_right"]
end Y
end

section
set_option Elab.async false
set_option linter.all false
set_option maxRecDepth 100000
set_option maxHeartbeats 2000000
/-! YB: how Y's values stand in HandS's abstract heap; the judgements over Y. -/
namespace Y
open PySem PySem.Spec PyProof.Rows L2

/-- the complete lists of field names of the own classes whose objects never change -/
def fullN (ns : List Str) : Bool := decide (ns ∈ ([["places", "ties", "near"]] : List (List Str)))
/-- the own classes of exceptions -/
def excN (c : Str) : Bool := decide (c ∈ (["BadText", "BadNumber", "BadName", "NoName", "TakenName", "BadWeb", "BadTable", "BadRow", "BadRows", "BadSystem", "BadRoot", "BadPaper", "NotKept", "NothingToUndo", "NothingToRedo"] : List Str))
/-- what never changes stands on -/
structure Per (H H' : Hp) : Prop where
  tup : ∀ b xs, H b = some (.tup xs) → H' b = some (.tup xs)
  frz : ∀ b o u, H b = some (.frz o u) → H' b = some (.frz o u)
  ins : ∀ b C dx (fs : List (Str × V)), fullN (fs.map (·.1)) = true → H b = some (.ins C dx fs) → H' b = some (.ins C dx fs)
  ext : ∀ b ψ, H b = some (.ext ψ) → H' b = some (.ext ψ)
theorem Per.refl (H : Hp) : Per H H := ⟨fun _ _ h => h, fun _ _ _ h => h, fun _ _ _ _ _ h => h, fun _ _ h => h⟩
theorem Per.trans {H H1 H2 : Hp} (a : Per H H1) (b : Per H1 H2) : Per H H2 := ⟨fun c xs h => b.tup c xs (a.tup c xs h), fun c o u h => b.frz c o u (a.frz c o u h), fun c C dx fs f h => b.ins c C dx fs f (a.ins c C dx fs f h), fun c ψ h => b.ext c ψ (a.ext c ψ h)⟩
theorem Per.new {H : Hp} {p : Addr} {o : HO} (h : H p = none) : Per H (upd H p o) :=
  ⟨fun b xs e => by rw [upd_ne (ne_of_none e h)]; exact e, fun b u xs e => by rw [upd_ne (ne_of_none e h)]; exact e, fun b C dx fs _ e => by rw [upd_ne (ne_of_none e h)]; exact e, fun b ψ e => by rw [upd_ne (ne_of_none e h)]; exact e⟩
def mutO : HO → Bool
  | .lst _ => true
  | .dK _ => true
  | .dT _ => true
  | .ins _ _ fs => !fullN (fs.map (·.1))
  | _ => false
theorem Per.wr {H : Hp} {p : Addr} {o o' : HO} (h : H p = some o) (m : mutO o = true) : Per H (upd H p o') := by
  constructor
  · intro b xs e
    have : b ≠ p := fun z => by rw [z, h] at e; cases e; cases m
    rw [upd_ne this]; exact e
  · intro b u xs e
    have : b ≠ p := fun z => by rw [z, h] at e; cases e; cases m
    rw [upd_ne this]; exact e
  · intro b C dx fs hf e
    have : b ≠ p := fun z => by rw [z, h] at e; cases e; simp [mutO, hf] at m
    rw [upd_ne this]; exact e
  · intro b ψ e
    have : b ≠ p := fun z => by rw [z, h] at e; cases e; cases m
    rw [upd_ne this]; exact e

/-- a list that is frozen: known to the object, or the module's own -/
def FzL (K : PySem.W.Frag) (H : Hp) (a : Addr) (xs : List V) : Prop := (∃ o, H a = some (.frz o (.lst xs))) ∨ SqL K (fun _ => none) a xs
theorem FzL.sq {K : PySem.W.Frag} {H : Hp} {a : Addr} {xs : List V} (h : FzL K H a xs) : SqL K H a xs := by
  rcases h with ⟨o, h⟩ | h
  · exact .inl (.inr ⟨o, h⟩)
  · rcases h with (h | ⟨_, h⟩) | h
    · cases h
    · cases h
    · exact .inr h
theorem FzL.per {K : PySem.W.Frag} {H H' : Hp} {a : Addr} {xs : List V} (h : FzL K H a xs) (p : Per H H') : FzL K H' a xs := by
  rcases h with ⟨o, h⟩ | h
  · exact .inl ⟨o, p.frz _ _ _ h⟩
  · exact .inr h
theorem SqT.per {K : PySem.W.Frag} {H H' : Hp} {a : Addr} {xs : List V} (h : SqT K H a xs) (p : Per H H') : SqT K H' a xs := by
  rcases h with (h | ⟨o, h⟩) | h
  · exact .inl (.inl (p.tup _ _ h))
  · exact .inl (.inr ⟨o, p.frz _ _ _ h⟩)
  · exact .inr h

mutual
inductive Rep (K : PySem.W.Frag) (φ : List Addr) (H : Hp) : D → V → Prop
  | non : Rep K φ H .non .non
  | bl (b : Bool) : Rep K φ H (.bl b) (.bl b)
  | int (i : Int) : Rep K φ H (.int i) (.int i)
  | str (x : Str) : Rep K φ H (.str x) (.str x)
  | tup {a : Addr} {ds : List D} {vs : List V} (h : H a = some (.tup vs)) (r : RepL K φ H ds vs) : Rep K φ H (.tup ds) (.ref a)
  | fl {a : Addr} {o : Obj} {ds : List D} {vs : List V} (h : H a = some (.frz o (.lst vs))) (r : RepL K φ H ds vs) : Rep K φ H (.fl ds) (.ref a)
  | sq {a : Addr} {ds : List D} {vs : List V} (h : FzL K H a vs) (r : RepL K φ H ds vs) : Rep K φ H (.sq ds) (.ref a)
  | loc {k : Nat} {a : Addr} (h : φ[k]? = some a) : Rep K φ H (.loc k) (.ref a)
  | obj {a C dx : Addr} {c : Str} {ns : List Str} {fs : List (Str × V)} {ds : List D} {vs : List V} (hc : PySem.W.nsIn K mainGlobals c = some (some (.ref C))) (h : H a = some (.ins C dx fs)) (e1 : fs.map (·.1) = ns) (e2 : fs.map (·.2) = vs) (r : RepL K φ H ds vs) (hf : fullN (fs.map (·.1)) = true) : Rep K φ H (.obj c ns ds) (.ref a)
  | exo {a C : Addr} {c : Str} {ns : List Str} {d : Option Addr} {fs : List (Str × V)} {ds : List D} {vs : List V} {ψ : Heap → Prop} (hc : PySem.W.nsIn K mainGlobals c = some (some (.ref C))) (he : excN c = true) (h : H a = some (.ext ψ))
      (hψ : ∀ hp, ψ hp → ∃ oe xs, hp.get? a = some oe ∧ Zc (.ref C) d oe ∧ oe.data = .fields xs) (hd : (d = none ∧ fs = []) ∨ ∃ dx, d = some dx ∧ H dx = some (exd dx fs)) (e1 : fs.map (·.1) = ns) (e2 : fs.map (·.2) = vs) (r : RepL K φ H ds vs) : Rep K φ H (.obj c ns ds) (.ref a)
  | gfn {a : Addr} {x : Str} (h : PySem.W.nsIn K mainGlobals x = some (some (.ref a))) : Rep K φ H (.gfn x) (.ref a)
inductive RepL (K : PySem.W.Frag) (φ : List Addr) (H : Hp) : List D → List V → Prop
  | nil : RepL K φ H [] []
  | cons {d : D} {v : V} {ds : List D} {vs : List V} (h : Rep K φ H d v) (r : RepL K φ H ds vs) : RepL K φ H (d :: ds) (v :: vs)
end
section
variable {K : PySem.W.Frag} {φ φ' : List Addr} {H H' : Hp}
theorem pre_get {k : Nat} {a : Addr} (p : φ <+: φ') (h : φ[k]? = some a) : φ'[k]? = some a := by
  obtain ⟨t, rfl⟩ := p
  rw [List.getElem?_append_left (List.getElem?_eq_some_iff.mp h).1]
  exact h
mutual
theorem Rep.mono (p : φ <+: φ') (q : Per H H') : ∀ (d : D) (v : V), Rep K φ H d v → Rep K φ' H' d v
  | .non, _, h => by cases h; exact .non
  | .bl b, _, h => by cases h; exact .bl b
  | .int b, _, h => by cases h; exact .int b
  | .str b, _, h => by cases h; exact .str b
  | .tup ds, _, h => by
    cases h with
    | tup h r => exact .tup (q.tup _ _ h) (RepL.mono p q ds _ r)
  | .fl ds, _, h => by
    cases h with
    | fl h r => exact .fl (q.frz _ _ _ h) (RepL.mono p q ds _ r)
  | .sq ds, _, h => by
    cases h with
    | sq h r => exact .sq (h.per q) (RepL.mono p q ds _ r)
  | .loc k, _, h => by
    cases h with
    | loc h => exact .loc (pre_get p h)
  | .gfn x, _, h => by
    cases h with
    | gfn h => exact .gfn h
  | .obj c ns ds, _, h => by
    cases h with
    | obj hc h e1 e2 r hf => exact .obj hc (q.ins _ _ _ _ hf h) e1 e2 (RepL.mono p q ds _ r) hf
    | exo hc he h hψ hd e1 e2 r => exact .exo hc he (q.ext _ _ h) hψ (hd.elim .inl fun ⟨dx, a1, a2⟩ => .inr ⟨dx, a1, q.ext _ _ a2⟩) e1 e2 (RepL.mono p q ds _ r)
theorem RepL.mono (p : φ <+: φ') (q : Per H H') : ∀ (d : List D) (v : List V), RepL K φ H d v → RepL K φ' H' d v
  | [], _, h => by cases h; exact .nil
  | d :: ds, _, h => by
    cases h with
    | cons h r => exact .cons (Rep.mono p q d _ h) (RepL.mono p q ds _ r)
end
mutual
/-- what names no younger place -/
theorem Rep.cut (n : Nat) : ∀ (d : D) (v : V), D.low n d = true → Rep K φ H d v → Rep K (φ.take n) H d v
  | .non, _, _, h => by cases h; exact .non
  | .bl b, _, _, h => by cases h; exact .bl b
  | .int b, _, _, h => by cases h; exact .int b
  | .str b, _, _, h => by cases h; exact .str b
  | .tup ds, _, l, h => by
    cases h with
    | tup h r => exact .tup h (RepL.cut n ds _ (by simpa [D.low] using l) r)
  | .fl ds, _, l, h => by
    cases h with
    | fl h r => exact .fl h (RepL.cut n ds _ (by simpa [D.low] using l) r)
  | .sq ds, _, l, h => by
    cases h with
    | sq h r => exact .sq h (RepL.cut n ds _ (by simpa [D.low] using l) r)
  | .loc k, _, l, h => by
    cases h with
    | loc h =>
      have : k < n := by simpa [D.low] using l
      exact .loc (by rw [List.getElem?_take_of_lt this]; exact h)
  | .gfn x, _, _, h => by
    cases h with
    | gfn h => exact .gfn h
  | .obj c ns ds, _, l, h => by
    cases h with
    | obj hc h e1 e2 r hf => exact .obj hc h e1 e2 (RepL.cut n ds _ (by simpa [D.low] using l) r) hf
    | exo hc he h hψ hd e1 e2 r => exact .exo hc he h hψ hd e1 e2 (RepL.cut n ds _ (by simpa [D.low] using l) r)
theorem RepL.cut (n : Nat) : ∀ (d : List D) (v : List V), D.lowL n d = true → RepL K φ H d v → RepL K (φ.take n) H d v
  | [], _, _, h => by cases h; exact .nil
  | d :: ds, _, l, h => by
    simp [D.lowL] at l
    cases h with
    | cons h r => exact .cons (Rep.cut n d _ l.1 h) (RepL.cut n ds _ l.2 r)
end
theorem RepL.length : ∀ {ds : List D} {vs : List V}, RepL K φ H ds vs → ds.length = vs.length
  | [], _, h => by cases h; rfl
  | d :: ds, _, h => by
    cases h with
    | cons _ r => simp [RepL.length r]
theorem RepL.get : ∀ {ds : List D} {vs : List V} {i : Nat} {d : D}, RepL K φ H ds vs → ds[i]? = some d → ∃ v, vs[i]? = some v ∧ Rep K φ H d v
  | [], _, _, _, _, e => by simp at e
  | c :: ds, _, 0, d, h, e => by
    cases h with
    | cons q _ => exact ⟨_, rfl, by simp at e; exact e ▸ q⟩
  | c :: ds, _, i + 1, d, h, e => by
    cases h with
    | cons _ r =>
      obtain ⟨v, h1, h2⟩ := RepL.get (i := i) r (by simpa using e)
      exact ⟨v, by simpa using h1, h2⟩
theorem RepL.get' : ∀ {ds : List D} {vs : List V} {i : Nat} {v : V}, RepL K φ H ds vs → vs[i]? = some v → ∃ d, ds[i]? = some d ∧ Rep K φ H d v
  | _, [], _, _, _, e => by simp at e
  | _, c :: vs, 0, v, h, e => by
    cases h with
    | cons q _ => exact ⟨_, rfl, by simp at e; exact e ▸ q⟩
  | _, c :: vs, i + 1, v, h, e => by
    cases h with
    | cons _ r =>
      obtain ⟨d, h1, h2⟩ := RepL.get' (i := i) r (by simpa using e)
      exact ⟨d, by simpa using h1, h2⟩
theorem RepL.append : ∀ {ds es : List D} {vs us : List V}, RepL K φ H ds vs → RepL K φ H es us → RepL K φ H (ds ++ es) (vs ++ us)
  | [], _, _, _, h, q => by cases h; exact q
  | _ :: _, _, _, _, h, q => by
    cases h with
    | cons h r => exact .cons h (RepL.append r q)
theorem RepL.set {d : D} {v : V} (h : Rep K φ H d v) : ∀ {ds : List D} {vs : List V} (i : Nat), RepL K φ H ds vs → RepL K φ H (ds.set i d) (vs.set i v)
  | [], _, _, r => by cases r; exact .nil
  | _ :: _, _, 0, r => by
    cases r with
    | cons _ r => exact .cons h r
  | _ :: _, _, i + 1, r => by
    cases r with
    | cons q r => exact .cons q (RepL.set h i r)
theorem RepL.nil_iff {ds : List D} {vs : List V} (r : RepL K φ H ds vs) : ds = [] ↔ vs = [] := by
  cases r <;> simp
theorem RepL.empty {ds : List D} {vs : List V} (r : RepL K φ H ds vs) : vs.isEmpty = ds.isEmpty := by
  cases r <;> rfl
theorem RepL.intsOf : ∀ {ds : List D} {vs : List V} {ns : List Int}, RepL K φ H ds vs → intsOf ds = some ns → vs = ns.map V.int
  | [], _, ns, h, e => by
    cases h
    simp [Y.intsOf] at e
    subst e; rfl
  | d :: ds, _, ns, h, e => by
    cases h with
    | cons h r =>
      cases d <;> simp [Y.intsOf] at e
      obtain ⟨a, ha, rfl⟩ := e
      cases h
      rw [RepL.intsOf r ha]; rfl
theorem RepL.bools : ∀ {ds : List D} {vs : List V} {ns : List Bool}, RepL K φ H ds vs → bools ds = some ns → vs = ns.map V.bl
  | [], _, ns, h, e => by
    cases h
    simp [Y.bools] at e
    subst e; rfl
  | d :: ds, _, ns, h, e => by
    cases h with
    | cons h r =>
      cases d <;> simp [Y.bools] at e
      obtain ⟨a, ha, rfl⟩ := e
      cases h
      rw [RepL.bools r ha]; rfl

/-- a dict's pairs -/
abbrev RepK {κ : Type} (K : PySem.W.Frag) (φ : List Addr) (H : Hp) : List (κ × D) → List (κ × V) → Prop := Paired fun p q => p.1 = q.1 ∧ Rep K φ H p.2 q.2
theorem RepK.mono {κ : Type} (p : φ <+: φ') (q : Per H H') {a : List (κ × D)} {b : List (κ × V)} (r : RepK K φ H a b) : RepK K φ' H' a b := Paired.mapP r fun _ _ z => ⟨z.1, Rep.mono p q _ _ z.2⟩
theorem RepK.get {κ : Type} [DecidableEq κ] {a : List (κ × D)} {b : List (κ × V)} (r : RepK K φ H a b) (k : κ) : (getK a k = none ∧ valV b k = none) ∨ ∃ d v, getK a k = some d ∧ valV b k = some v ∧ Rep K φ H d v := by
  induction r with
  | nil => exact .inl ⟨rfl, rfl⟩
  | @cons p q a b h _ ih =>
    by_cases e : p.1 = k
    · exact .inr ⟨p.2, q.2, by simp [getK, List.find?_cons, e], by simp [valV, List.find?_cons, ← h.1, e], h.2⟩
    · have e1 : getK (p :: a) k = getK a k := by simp [getK, List.find?_cons, e]
      have e2 : valV (q :: b) k = valV b k := valV_neg (by rw [← h.1]; exact e)
      rw [e1, e2]
      exact ih
theorem RepK.any {κ : Type} [DecidableEq κ] {a : List (κ × D)} {b : List (κ × V)} (r : RepK K φ H a b) (k : κ) : (a.any fun kv => decide (kv.1 = k)) = (b.any fun kv => decide (kv.1 = k)) := by
  induction r with
  | nil => rfl
  | @cons p q a b h _ ih => simp only [List.any_cons, ih, h.1]
theorem RepK.map {κ : Type} [DecidableEq κ] {a : List (κ × D)} {b : List (κ × V)} (r : RepK K φ H a b) (k : κ) {d : D} {v : V} (h : Rep K φ H d v) :
    RepK K φ H (a.map fun kv => if kv.1 = k then (kv.1, d) else kv) (b.map fun kv => if kv.1 = k then (kv.1, v) else kv) := by
  induction r with
  | nil => exact .nil
  | @cons p q a b z _ ih =>
    refine .cons ?_ ih
    by_cases e : p.1 = k
    · have e' : q.1 = k := by rw [← z.1]; exact e
      simp only [if_pos e, if_pos e']
      exact ⟨z.1, h⟩
    · have e' : ¬ q.1 = k := by rw [← z.1]; exact e
      simp only [if_neg e, if_neg e']
      exact z
theorem Paired.app {α β : Type} {F : α → β → Prop} : ∀ {a : List α} {b : List β} {c : List α} {d : List β}, Paired F a b → Paired F c d → Paired F (a ++ c) (b ++ d)
  | _, _, _, _, .nil, h => h
  | _, _, _, _, .cons r t, h => .cons r (Paired.app t h)
theorem RepK.set {κ : Type} [DecidableEq κ] {a : List (κ × D)} {b : List (κ × V)} (r : RepK K φ H a b) (k : κ) {d : D} {v : V} (h : Rep K φ H d v) : RepK K φ H (setK a k d) (putK b k v) := by
  unfold setK putK
  rw [r.any k]
  split
  · exact r.map k h
  · exact Paired.app r (.cons ⟨rfl, h⟩ .nil)

/-- an object of the list-heap, at its address -/
inductive ObR (K : PySem.W.Frag) (φ : List Addr) (H : Hp) (a : Addr) : Ob → Prop
  | lst {xs : List D} {vs : List V} (h : H a = some (.lst vs)) (r : RepL K φ H xs vs) : ObR K φ H a (.lst xs)
  | dct {xs : List (Key × D)} {vs : List (Key × V)} (h : H a = some (.dK vs)) (r : RepK K φ H xs vs) : ObR K φ H a (.dct xs)
  | dtu {xs : List (List Key × D)} {vs : List (List Key × V)} (h : H a = some (.dT vs)) (r : RepK K φ H xs vs) : ObR K φ H a (.dtu xs)
/-- the name of the lambdas of the def x -/
def lq (x : Str) : Str := x ++ ".<locals>." ++ "<lambda>"
/-- the tables of the defs that make lambdas -/
def TbAll (K : PySem.W.Frag) (H : Hp) : Prop := ∀ x c P, x ∈ lamN → PySem.W.tabIn K x = some (c, P) → LamX.TabS H P (lq x)
theorem TbAll.new {p : Addr} {o : HO} (t : TbAll K H) (n : H p = none) : TbAll K (upd H p o) := fun x c P m e => (t x c P m e).ext fun b u q => by rw [upd_ne (ne_of_none q n)]; exact q
theorem TbAll.wr {p : Addr} {u o : HO} (t : TbAll K H) (n : H p = some u) (m : mutO u = true) : TbAll K (upd H p o) := fun x c P mm e => by
  obtain ⟨ps, h1, h2, h3⟩ := t x c P mm e
  refine ⟨ps, ?_, h2, fun pos cv hc => ?_⟩
  · rw [upd_ne (fun z => by rw [z, n] at h1; cases h1; cases m)]; exact h1
  · obtain ⟨c0, e1, e2⟩ := h3 pos cv hc
    exact ⟨c0, e1, by rw [upd_ne (fun z => by rw [z, n] at e2; unfold LamX.CodeO at e2; cases e2; cases m)]; exact e2⟩
structure HR (K : PySem.W.Frag) (φ : List Addr) (H : Hp) (h : Hm) : Prop where
  len : φ.length = h.length
  nd : φ.Nodup
  tab : TbAll K H
  ob : ∀ (k : Nat) a o, φ[k]? = some a → h[k]? = some o → ObR K φ H a o
/-- an object stands on; a table may have grown -/
def Stays (H' : Hp) (b : Addr) (o : HO) : Prop := H' b = some o ∨ ∃ ps qs, o = .tbl ps ∧ H' b = some (.tbl qs)
/-- later: ours may have changed, some have come; all else stands -/
structure Lat (φ : List Addr) (H : Hp) (φ' : List Addr) (H' : Hp) : Prop where
  pre : φ <+: φ'
  per : Per H H'
  keepT : ∀ b o, H b = some o → b ∉ φ → Stays H' b o
  fresh : ∀ b ∈ φ', b ∈ φ ∨ H b = none
theorem Lat.refl (φ : List Addr) (H : Hp) : Lat φ H φ H := ⟨List.prefix_refl _, Per.refl _, fun _ _ h _ => .inl h, fun _ h => .inl h⟩
theorem Lat.keep (l : Lat φ H φ' H') (b : Addr) (o : HO) (h : H b = some o) (n : b ∉ φ) (nt : ∀ ps, o ≠ .tbl ps := by intro _ z; cases z) : H' b = some o := by
  rcases l.keepT b o h n with z | ⟨ps, _, e, _⟩
  · exact z
  · exact absurd e (nt ps)
theorem Lat.out {b : Addr} {o : HO} (a : Lat φ H φ' H') (h : H b = some o) (n : b ∉ φ) : b ∉ φ' := fun m => by
  rcases a.fresh b m with z | z
  · exact n z
  · rw [h] at z; cases z
theorem Lat.trans {φ1 φ2 : List Addr} {H1 H2 : Hp} (a : Lat φ H φ1 H1) (b : Lat φ1 H1 φ2 H2) : Lat φ H φ2 H2 := by
  refine ⟨a.pre.trans b.pre, a.per.trans b.per, fun c o h n => ?_, fun c m => ?_⟩
  · rcases a.keepT c o h n with z | ⟨ps, qs, e, z⟩
    · exact b.keepT c o z (a.out h n)
    · rcases b.keepT c _ z (a.out h n) with y | ⟨ps2, qs2, _, y⟩
      · exact .inr ⟨ps, qs, e, y⟩
      · exact .inr ⟨ps, qs2, e, y⟩
  rcases b.fresh c m with z | z
  · exact a.fresh c z
  · cases e : H c with
    | none => exact .inr rfl
    | some o =>
      by_cases n : c ∈ φ
      · exact .inl n
      · rcases a.keepT c o e n with y | ⟨_, _, _, y⟩ <;> (rw [y] at z; cases z)
theorem Lat.new {p : Addr} {v : HO} (e : H p = none) : Lat φ H φ (upd H p v) := ⟨List.prefix_refl _, Per.new e, fun b o h _ => .inl (by rw [upd_ne (ne_of_none h e)]; exact h), fun _ h => .inl h⟩
theorem Lat.wr {p : Addr} {u v : HO} (e : H p = some u) (m : mutO u = true) (i : p ∈ φ) : Lat φ H φ (upd H p v) :=
  ⟨List.prefix_refl _, Per.wr e m, fun b o h n => .inl (by rw [upd_ne (fun z => by subst z; exact n i)]; exact h), fun _ h => .inl h⟩
/-- a later state, where one's own lists may have changed -/
structure Wk (φ : List Addr) (H : Hp) (φ' : List Addr) (H' : Hp) : Prop where
  pre : φ <+: φ'
  per : Per H H'
/-- a function that a def got: where it stands, and the state at which it was made -/
structure Pin where
  a : Addr
  φ : List Addr
  H : Hp
abbrev Cl := Nat → Option Pin
abbrev noCl : Cl := fun _ => none
/-- the slot i holds the function at p.a -/
def pinCl (i : Nat) (p : Pin) : Cl := fun j => if j = i then some p else none
theorem ObR.tr {a : Addr} {o : Ob} (x : ObR K φ H a o) (p : φ <+: φ') (q : Per H H') (e : H' a = H a) : ObR K φ' H' a o := by
  cases x with
  | lst h r => exact .lst (e.trans h) (RepL.mono p q _ _ r)
  | dct h r => exact .dct (e.trans h) (r.mono p q)
  | dtu h r => exact .dtu (e.trans h) (r.mono p q)
theorem ObR.some {a : Addr} {o : Ob} (x : ObR K φ H a o) : ∃ u, H a = some u ∧ mutO u = true := by
  cases x with
  | lst h r => exact ⟨_, h, rfl⟩
  | dct h r => exact ⟨_, h, rfl⟩
  | dtu h r => exact ⟨_, h, rfl⟩
theorem HR.at {h : Hm} (x : HR K φ H h) {k : Nat} {a : Addr} (e : φ[k]? = some a) : ∃ o, h[k]? = some o ∧ ObR K φ H a o := by
  have lt : k < h.length := by rw [← x.len]; exact (List.getElem?_eq_some_iff.mp e).1
  exact ⟨h[k], List.getElem?_eq_getElem lt, x.ob k a _ e (List.getElem?_eq_getElem lt)⟩
/-- something new that is not tracked by us -/
theorem HR.new {h : Hm} (x : HR K φ H h) {p : Addr} {o : HO} (n : H p = none) : HR K φ (upd H p o) h := by
  refine ⟨x.len, x.nd, x.tab.new n, fun k a u e1 e2 => ?_⟩
  obtain ⟨w, hw, _⟩ := (x.ob k a u e1 e2).some
  exact (x.ob k a u e1 e2).tr (List.prefix_refl _) (Per.new n) (upd_ne (ne_of_none hw n))
theorem HR.add {h : Hm} (x : HR K φ H h) {p : Addr} {o : Ob} (n : p ∉ φ) (q : ObR K (φ ++ [p]) H p o) : HR K (φ ++ [p]) H (h ++ [o]) := by
  refine ⟨by simp [x.len], ?_, x.tab, fun k a u e1 e2 => ?_⟩
  · rw [List.nodup_append]
    refine ⟨x.nd, by simp, fun a ha b hb => ?_⟩
    simp at hb
    subst hb
    exact fun e => n (e ▸ ha)
  · by_cases lt : k < h.length
    · rw [List.getElem?_append_left (by rw [x.len]; exact lt)] at e1
      rw [List.getElem?_append_left lt] at e2
      exact (x.ob k a u e1 e2).tr (List.prefix_append _ _) (Per.refl _) rfl
    · have hk : k = h.length := by
        have := (List.getElem?_eq_some_iff.mp e2).1
        simp at this
        omega
      subst hk
      rw [List.getElem?_append_right (by rw [x.len]; exact Nat.le_refl _)] at e1
      rw [List.getElem?_append_right (Nat.le_refl _)] at e2
      simp [x.len] at e1 e2
      subst e1; subst e2
      exact q
theorem HR.notin {h : Hm} (x : HR K φ H h) {p : Addr} (n : H p = none) : p ∉ φ := fun m => by
  obtain ⟨k, e⟩ := List.getElem?_of_mem m
  obtain ⟨o, _, q⟩ := x.at e
  obtain ⟨u, hu, _⟩ := q.some
  rw [n] at hu; cases hu
/-- one of ours is written -/
theorem HR.wr {h : Hm} (x : HR K φ H h) {k : Nat} {p : Addr} {o : Ob} {u : HO} (e : φ[k]? = some p) (q : ObR K φ (upd H p u) p o) : HR K φ (upd H p u) (h.set k o) := by
  obtain ⟨w, e2, hw⟩ := x.at e
  obtain ⟨v, hv, m⟩ := hw.some
  refine ⟨by simp [x.len], x.nd, x.tab.wr hv m, fun j a y f1 f2 => ?_⟩
  by_cases hj : j = k
  · subst hj
    rw [e] at f1; cases f1
    rw [List.getElem?_set_self (by rw [← x.len]; exact (List.getElem?_eq_some_iff.mp e).1)] at f2
    cases f2
    exact q
  · rw [List.getElem?_set_ne (Ne.symm hj)] at f2
    have ne : a ≠ p := fun z => by
      subst z
      obtain ⟨l1, g1⟩ := List.getElem?_eq_some_iff.mp e
      obtain ⟨l2, g2⟩ := List.getElem?_eq_some_iff.mp f1
      exact hj ((List.getElem_inj x.nd).mp (g2.trans g1.symm))
    exact (x.ob j a y f1 f2).tr (List.prefix_refl _) (Per.wr hv m) (upd_ne ne)
theorem low_mem {κ : Type} {n : Nat} {kvs : List (κ × D)} (h : D.lowL n (kvs.map (·.2)) = true) : ∀ p ∈ kvs, D.low n p.2 = true := by
  induction kvs with
  | nil => intro p hp; cases hp
  | cons q r ih =>
    simp [D.lowL] at h
    intro p hp
    rcases List.mem_cons.mp hp with rfl | hp
    · exact h.1
    · exact ih h.2 p hp
theorem RepK.cut {κ : Type} {n : Nat} {a : List (κ × D)} {b : List (κ × V)} (r : RepK K φ H a b) (l : ∀ p ∈ a, D.low n p.2 = true) : RepK K (φ.take n) H a b := by
  induction r with
  | nil => exact .nil
  | @cons p q a b z _ ih => exact .cons ⟨z.1, Rep.cut n _ _ (l p List.mem_cons_self) z.2⟩ (ih fun p hp => l p (List.mem_cons_of_mem _ hp))
theorem ObR.cut {n : Nat} {a : Addr} {o : Ob} (x : ObR K φ H a o) (l : Ob.low n o = true) : ObR K (φ.take n) H a o := by
  cases x with
  | lst h r => exact .lst h (RepL.cut n _ _ l r)
  | dct h r => exact .dct h (r.cut (low_mem l))
  | dtu h r => exact .dtu h (r.cut (low_mem l))
end
end Y
end

section
set_option Elab.async false
set_option linter.all false
set_option maxRecDepth 100000
set_option maxHeartbeats 2000000
/-! YC: the judgements over Y, and the rules of expressions. -/
namespace Y
open PySem PySem.Spec PyProof.Rows L2

/-- fields of an exception -/
abbrev RepF (K : PySem.W.Frag) (φ : List Addr) (H : Hp) : List (Str × D) → List (Str × V) → Prop := Paired fun p q => p.1 = q.1 ∧ Rep K φ H p.2 q.2
/-- an exception: its class, its dict -/
def ER (K : PySem.W.Frag) (cl : Cl) (φ : List Addr) (H : Hp) (e : Exn) (c : Value) (d : Option Addr) : Prop :=
  (∃ C, c = .ref C ∧ PySem.W.nsIn K mainGlobals e.cls = some (some (.ref C))) ∧ ((e.fs = [] ∧ d = none) ∨ ∃ dd fs, d = some dd ∧ H dd = some (.xd fs) ∧ RepF K φ H e.fs fs)
structure SR (K : PySem.W.Frag) (cl : Cl) (φ : List Addr) (H : Hp) (st : Sl) (σ : L2.St) : Prop where
  len : st.length = σ.length
  /-- a slot that is told to be a function that the def got: it stands there as long as nothing else is known of it -/
  fn : ∀ (i : Nat) (p : Pin), cl i = some p → Wk p.φ p.H φ H ∧ (st[i]? = some none → σ[i]? = some (some (.ref p.a)))
  get : ∀ (i : Nat) (d : D), st[i]? = some (some d) → ∃ v, σ[i]? = some (some v) ∧ Rep K φ H d v
section
variable {K : PySem.W.Frag} {cl : Cl} {φ φ' : List Addr} {H H' : Hp} {st : Sl} {σ : L2.St}
theorem SR.mono (x : SR K cl φ H st σ) (l : Lat φ H φ' H') : SR K cl φ' H' st σ :=
  ⟨x.len, fun i p e => ⟨⟨(x.fn i p e).1.pre.trans l.pre, (x.fn i p e).1.per.trans l.per⟩, (x.fn i p e).2⟩, fun i d e => let ⟨v, h1, h2⟩ := x.get i d e; ⟨v, h1, Rep.mono l.pre l.per _ _ h2⟩⟩
theorem SR.set (x : SR K cl φ H st σ) {d : D} {v : V} (i : Nat) (h : Rep K φ H d v) : SR K cl φ H (st.set i (some d)) (σ.set i (some v)) := by
  refine ⟨by simp [x.len], fun j p e => ⟨(x.fn j p e).1, fun q => ?_⟩, fun j c e => ?_⟩
  · by_cases hj : j = i
    · subst hj
      rw [List.getElem?_set] at q
      split at q <;> (try split at q) <;> first | cases q | contradiction
    · rw [List.getElem?_set_ne (Ne.symm hj)] at q ⊢
      exact (x.fn j p e).2 q
  by_cases hj : j = i
  · subst hj
    have lt : j < st.length := by
      have := (List.getElem?_eq_some_iff.mp e).1
      simpa using this
    rw [List.getElem?_set_self lt] at e
    cases e
    exact ⟨v, List.getElem?_set_self (by rw [← x.len]; exact lt), h⟩
  · rw [List.getElem?_set_ne (Ne.symm hj)] at e
    rw [List.getElem?_set_ne (Ne.symm hj)]
    exact x.get j c e
theorem SR.off (x : SR K cl φ H st σ) (i : Nat) (hi : cl i = none) : SR K cl φ H (st.set i none) (σ.set i none) := by
  refine ⟨by simp [x.len], fun j p e => ⟨(x.fn j p e).1, fun q => ?_⟩, fun j c e => ?_⟩
  · by_cases hj : j = i
    · subst hj
      rw [hi] at e; cases e
    · rw [List.getElem?_set_ne (Ne.symm hj)] at q ⊢
      exact (x.fn j p e).2 q
  by_cases hj : j = i
  · subst hj
    have lt : j < st.length := by
      have := (List.getElem?_eq_some_iff.mp e).1
      simpa using this
    rw [List.getElem?_set_self lt] at e
    cases e
  · rw [List.getElem?_set_ne (Ne.symm hj)] at e
    rw [List.getElem?_set_ne (Ne.symm hj)]
    exact x.get j c e
theorem SR.unset (x : SR K cl φ H st σ) : ∀ vs : List Nat, (∀ v ∈ vs, cl v = none) → SR K cl φ H (unset st vs) (wipe σ vs)
  | [], _ => x
  | v :: vs, h => (x.unset vs fun w m => h w (List.mem_cons_of_mem _ m)).off v (h v List.mem_cons_self)

abbrev WE' := Value → Option Addr → Hp → Prop
/-- how a value stands: the heap at the start, ours, the heap -/
abbrev RT (α β : Type) := Hp → List Addr → Hp → α → β → Prop
/-- what stands so, from a later start, stands so from the elder one -/
class Back {α β : Type} (Rel : RT α β) : Prop where
  back : ∀ {H φ H1 φ1 φ' H' a b}, Lat φ H φ1 H1 → Lat φ1 H1 φ' H' → Rel H1 φ' H' a b → Rel H φ' H' a b
def RR (K : PySem.W.Frag) : RT D V := fun _ => Rep K
def RL (K : PySem.W.Frag) : RT (List D) (List V) := fun _ => RepL K
def RBool : RT Bool Bool := fun _ _ _ a b => a = b
/-- a list that was just made and that nobody holds -/
def Fresh (K : PySem.W.Frag) : RT (List D) V := fun H0 φ H ds v => ∃ p vs, v = .ref p ∧ H0 p = none ∧ p ∉ φ ∧ H p = some (.lst vs) ∧ RepL K φ H ds vs
instance : Back (RR K) := ⟨fun _ _ h => h⟩
instance : Back (RL K) := ⟨fun _ _ h => h⟩
instance : Back RBool := ⟨fun _ _ h => h⟩
theorem Lat.gone {p : Addr} (a : Lat φ H φ' H') (n : p ∉ φ') (h : H' p = none) : H p = none := by
  cases e : H p with
  | none => rfl
  | some o =>
    have m : p ∉ φ := fun m => n (let ⟨k, q⟩ := List.getElem?_of_mem m; List.mem_of_getElem? (pre_get a.pre q))
    rcases a.keepT p o e m with y | ⟨_, _, _, y⟩ <;> (rw [y] at h; cases h)
theorem pre_notin {p : Addr} (q : φ <+: φ') (n : p ∉ φ') : p ∉ φ := fun m => n (let ⟨_, z⟩ := List.getElem?_of_mem m; List.mem_of_getElem? (pre_get q z))
instance : Back (Fresh K) := ⟨fun l1 l2 ⟨p, vs, e, h0, n, h, r⟩ => ⟨p, vs, e, l1.gone (pre_notin l2.pre n) h0, n, h, r⟩⟩
def Post {α β : Type} (K : PySem.W.Frag) (cl : Cl) (φ : List Addr) (H : Hp) (Rel : RT α β) (r : Rs α) (Q : β → Hp → Prop) (We : WE') : Prop := match r with
  | .ok a h' => ∀ φ' H' b, Lat φ H φ' H' → HR K φ' H' h' → Rel H φ' H' a b → Q b H'
  | .ex e h' => ∀ φ' H' c d, Lat φ H φ' H' → HR K φ' H' h' → ER K cl φ' H' e c d → We c d H'
  | .bad => False
theorem Post.lat {α β : Type} {Rel : RT α β} [Back Rel] {r : Rs α} {Q : β → Hp → Prop} {We : WE'} (p : Post K cl φ H Rel r Q We) (l : Lat φ H φ' H') : Post K cl φ' H' Rel r Q We := by
  cases r with
  | ok a h => exact fun φ2 H2 b l2 x q => p φ2 H2 b (l.trans l2) x (Back.back l l2 q)
  | ex e h => exact fun φ2 H2 c d l2 => p φ2 H2 c d (l.trans l2)
  | bad => exact p
theorem Post.seq {α α' β β' : Type} {R1 : RT α β} {R2 : RT α' β'} [Back R2] {r : Rs α} {k : α → Hm → Rs α'} {Q1 : β → Hp → Prop} {Q2 : β' → Hp → Prop} {We : WE'} (p : Post K cl φ H R2 (r.bind k) Q2 We)
    (h : ∀ a h1 φ1 H1 b, Lat φ H φ1 H1 → HR K φ1 H1 h1 → R1 H φ1 H1 a b → Post K cl φ1 H1 R2 (k a h1) Q2 We → Q1 b H1) : Post K cl φ H R1 r Q1 We := by
  cases r with
  | ok a h0 => exact fun φ1 H1 b l x r => h a h0 φ1 H1 b l x r (Post.lat (show Post K cl φ H R2 (k a h0) Q2 We from p) l)
  | ex e h0 => exact p
  | bad => exact p
def tG {α β : Type} (K : PySem.W.Frag) (cl : Cl) (W : WX) (Rel : RT α β) (f : Sl → Hm → Rs α) : L2.St → Hp → (β → Hp → Prop) → Prop := fun σ H Q =>
  ∃ φ st h, SR K cl φ H st σ ∧ HR K φ H h ∧ Post K cl φ H Rel (f st h) Q fun c d H' => W c d σ H'
def PostS (K : PySem.W.Frag) (cl : Cl) (φ : List Addr) (H : Hp) (o : Out) (D : Ends) (W : WX) : Prop := match o with
  | .nx σ h' => ∀ φ' H' τ, Lat φ H φ' H' → HR K φ' H' h' → SR K cl φ' H' σ τ → D.nx τ H'
  | .bk σ h' => ∀ φ' H' τ, Lat φ H φ' H' → HR K φ' H' h' → SR K cl φ' H' σ τ → D.bk τ H'
  | .ct σ h' => ∀ φ' H' τ, Lat φ H φ' H' → HR K φ' H' h' → SR K cl φ' H' σ τ → D.ct τ H'
  | .rt d h' => ∀ φ' H' v, Lat φ H φ' H' → HR K φ' H' h' → Rep K φ' H' d v → D.rt v H'
  | .rl d h' => ∀ φ' H' v, Lat φ H φ' H' → HR K φ' H' h' → Fresh K H φ' H' d v → D.rt v H'
  | .ex e σ h' => ∀ φ' H' c d τ, Lat φ H φ' H' → HR K φ' H' h' → SR K cl φ' H' σ τ → ER K cl φ' H' e c d → W c d τ H'
  | .bad => False
theorem PostS.lat {o : Out} {D : Ends} {W : WX} (p : PostS K cl φ H o D W) (l : Lat φ H φ' H') : PostS K cl φ' H' o D W := by
  cases o with
  | nx _ _ => exact fun φ2 H2 b l2 => p φ2 H2 b (l.trans l2)
  | bk _ _ => exact fun φ2 H2 b l2 => p φ2 H2 b (l.trans l2)
  | ct _ _ => exact fun φ2 H2 b l2 => p φ2 H2 b (l.trans l2)
  | rt _ _ => exact fun φ2 H2 b l2 => p φ2 H2 b (l.trans l2)
  | rl _ _ => exact fun φ2 H2 b l2 x q => p φ2 H2 b (l.trans l2) x (Back.back l l2 q)
  | ex _ _ _ => exact fun φ2 H2 c d τ l2 => p φ2 H2 c d τ (l.trans l2)
  | bad => exact p
def tSt (K : PySem.W.Frag) (cl : Cl) (W : WX) (f : Sv) : TS := fun D σ H => ∃ φ st h, SR K cl φ H st σ ∧ HR K φ H h ∧ PostS K cl φ H (f st h) D W
end

abbrev SE (X : Cx) (cl : Cl) (W : WX) (e : Expr) (f : Ev) : Prop := PE X e (tG X.K cl W (RR X.K) f)
abbrev ST (X : Cx) (cl : Cl) (W : WX) (e : Expr) (f : Tv) : Prop := PT X e (tG X.K cl W RBool f)
abbrev SW (X : Cx) (cl : Cl) (W : WX) (e : Expr) (f : Tv) : Prop := PW X e (tG X.K cl W RBool f)
abbrev SA (X : Cx) (cl : Cl) (W : WX) (es : List Expr) (f : Av) : Prop := PA X es (tG X.K cl W (RL X.K) f)
abbrev SL (X : Cx) (cl : Cl) (W : WX) (e : Expr) (f : Lv) : Prop := PE X e (tG X.K cl W (Fresh X.K) f)
abbrev SS (X : Cx) (cl : Cl) (W : WX) (s : Stmt) (f : Sv) : Prop := PS X s (tSt X.K cl W f)
abbrev SSs (X : Cx) (cl : Cl) (W : WX) (s : List Stmt) (f : Sv) : Prop := PSs X s (tSt X.K cl W f)

section
variable {X : Cx} {cl : Cl} {W : WX} {e a b : Expr} {es : List Expr} {f g : Ev} {pos : Pos}
theorem PE.of {t t' : TE} (h : PE X e t) (i : ∀ σ H Q, t' σ H Q → t σ H Q) : PE X e t' := ⟨fun pins s σ H Q I q => h.run pins s σ H Q I (i σ H Q q)⟩
theorem PT.of {t t' : TT} (h : PT X e t) (i : ∀ σ H Q, t' σ H Q → t σ H Q) : PT X e t' := ⟨fun pins s σ H Q I q => h.run pins s σ H Q I (i σ H Q q)⟩
theorem PW.of {t t' : TT} (h : PW X e t) (i : ∀ σ H Q, t' σ H Q → t σ H Q) : PW X e t' := ⟨fun wh pins s σ H Q I q => h.run wh pins s σ H Q I (i σ H Q q)⟩
theorem PA.of {t t' : TA} (h : PA X es t) (i : ∀ σ H Q, t' σ H Q → t σ H Q) : PA X es t' := ⟨fun pos pins s σ H Q I q => h.run pos pins s σ H Q I (i σ H Q q)⟩
theorem PS.of {st : Stmt} {t t' : TS} (h : PS X st t) (i : ∀ D σ H, t' D σ H → t D σ H) : PS X st t' := ⟨fun pins s σ H D I q => h.run pins s σ H D I (i D σ H q)⟩
theorem PSs.of {st : List Stmt} {t t' : TS} (h : PSs X st t) (i : ∀ D σ H, t' D σ H → t D σ H) : PSs X st t' := ⟨fun pins s σ H D I q => h.run pins s σ H D I (i D σ H q)⟩
/-- two in a row, then a value without more -/
theorem seq2 {α β : Type} {σ : L2.St} {H : Hp} {Q : β → Hp → Prop} {Rel : RT α β} [Back Rel] {k : D → D → Hm → Rs α} {R : V → V → Hp → Prop}
    (p : tG X.K cl W Rel (fun σ h => (f σ h).bind fun x h1 => (g σ h1).bind fun y h2 => k x y h2) σ H Q)
    (h : ∀ φ H2 h2 x y v u, HR X.K φ H2 h2 → Rep X.K φ H2 x v → Rep X.K φ H2 y u → Post X.K cl φ H2 Rel (k x y h2) Q (fun c d H' => W c d σ H') → R v u H2) :
    tG X.K cl W (RR X.K) f σ H fun v H1 => tG X.K cl W (RR X.K) g σ H1 fun u H2 => R v u H2 := by
  obtain ⟨φ, st, h0, S, R0, P⟩ := p
  exact ⟨φ, st, h0, S, R0, P.seq fun x h1 φ1 H1 v l1 r1 q1 P1 => ⟨φ1, st, h1, S.mono l1, r1, P1.seq fun y h2 φ2 H2 u l2 r2 q2 P2 => h φ2 H2 h2 x y v u r2 (Rep.mono l2.pre l2.per _ _ q1) q2 P2⟩⟩
theorem seq1 {α β γ δ : Type} {R1 : RT γ δ} {f : Sl → Hm → Rs γ} {σ : L2.St} {H : Hp} {Q : β → Hp → Prop} {Rel : RT α β} [Back Rel] {k : γ → Hm → Rs α} {R : δ → Hp → Prop}
    (p : tG X.K cl W Rel (fun σ h => (f σ h).bind fun x h1 => k x h1) σ H Q)
    (h : ∀ φ H1 h1 x v, HR X.K φ H1 h1 → R1 H φ H1 x v → Post X.K cl φ H1 Rel (k x h1) Q (fun c d H' => W c d σ H') → R v H1) :
    tG X.K cl W R1 f σ H R := by
  obtain ⟨φ, st, h0, S, R0, P⟩ := p
  exact ⟨φ, st, h0, S, R0, P.seq fun x h1 φ1 H1 v l1 r1 q1 P1 => h φ1 H1 h1 x v r1 q1 P1⟩
/-- .. where the start matters -/
theorem seq0 {α β γ δ : Type} {R1 : RT γ δ} {f : Sl → Hm → Rs γ} {σ : L2.St} {H : Hp} {Q : β → Hp → Prop} {Rel : RT α β} [Back Rel] {k : γ → Hm → Rs α} {R : δ → Hp → Prop}
    (p : tG X.K cl W Rel (fun σ h => (f σ h).bind fun x h1 => k x h1) σ H Q)
    (h : ∀ φ0 φ H1 h1 x v, Lat φ0 H φ H1 → HR X.K φ H1 h1 → R1 H φ H1 x v → (∀ a h2, k x h1 = .ok a h2 → ∀ φ' H' b, Lat φ0 H φ' H' → HR X.K φ' H' h2 → Rel H φ' H' a b → Q b H') → (∃ a h2, k x h1 = .ok a h2) → R v H1) (hk : ∀ x h1, (∃ a h2, k x h1 = .ok a h2) ∨ k x h1 = .bad) :
    tG X.K cl W R1 f σ H R := by
  obtain ⟨φ, st, h0, S, R0, P⟩ := p
  refine ⟨φ, st, h0, S, R0, ?_⟩
  cases e : f st h0 with
  | bad => simp only [e, Rs.bind] at P; exact P
  | ex _ _ => simp only [e, Rs.bind] at P; exact P
  | ok x h1 =>
    simp only [e, Rs.bind] at P
    intro φ1 H1 v l1 r1 q1
    rcases hk x h1 with ⟨a, h2, e2⟩ | e2
    · refine h φ φ1 H1 h1 x v l1 r1 q1 (fun a' h2' e' => ?_) ⟨a, h2, e2⟩
      rw [e'] at P
      exact P
    · rw [e2] at P; exact P.elim
/-- what a Post of a given value says -/
theorem Post.val {α β : Type} {K : PySem.W.Frag} {φ : List Addr} {H : Hp} {Rel : RT α β} {a : α} {h : Hm} {Q : β → Hp → Prop} {We : WE'} (p : Post K cl φ H Rel (.ok a h) Q We) (r : HR K φ H h) {b : β} (q : Rel H φ H a b) : Q b H :=
  p φ H b (Lat.refl _ _) r q

/-! ### constants, names -/
theorem s_c {d : D} {v : V} (h : PE X e (L2.tC v)) (r : ∀ φ H, Rep X.K φ H d v) : SE X cl W e (eC d) := PE.of h fun σ H Q ⟨φ, st, h0, S, R, P⟩ => P.val R (r φ H)
theorem s_int {i j} : SE X cl W (.Constant (.int i) j pos) (eC (.int i)) := s_c pe_int fun _ _ => .int i
theorem s_str {x j} : SE X cl W (.Constant (.str x) j pos) (eC (.str x)) := s_c pe_str fun _ _ => .str x
theorem s_bl {x j} : SE X cl W (.Constant (.bool x) j pos) (eC (.bl x)) := s_c pe_bl fun _ _ => .bl x
theorem s_non {j} : SE X cl W (.Constant .none j pos) (eC .non) := s_c pe_non fun _ _ => .non
theorem s_v (i : Nat) {x : Str} (hN : X.N[i]? = some x := by rfl) (hv : Vis X.env.scope x := by first | exact Or.inl rfl | exact Or.inr (Or.inl rfl) | exact Or.inr (Or.inr rfl)) (hd : (x == ("__debug__" : Str)) = false := by decide)
    (hcd : (x == ("__classdict__" : Str)) = false := by decide) : SE X cl W (.Name x pos) (eV i) := PE.of (pe_var hN hv hd hcd) fun σ H Q ⟨φ, st, h0, S, R, P⟩ => by
  unfold eV at P
  cases e : st[i]? with
  | none => rw [e] at P; exact P.elim
  | some o =>
    cases o with
    | none => rw [e] at P; exact P.elim
    | some d =>
      rw [e] at P
      obtain ⟨v, h1, h2⟩ := S.get i d e
      exact ⟨v, h1, P.val R h2⟩

/-! ### operators, by values -/
/-- an operator's meaning -/
def OpY (X : Cx) (F : Value → Value → Sem Value) (o : Hm → D → D → Option D) : Prop := ∀ (cl : Cl) (We : WE') (Q : VK) (φ : List Addr) (H : Hp) (h : Hm) (x y : D) (v u : V),
  ∀ (pins : List (Addr × Obj)) (s : Shared) (σ : L2.St) (vv uu : Value), Inv X pins σ H s → RelV v vv → RelV u uu →
  HR X.K φ H h → Rep X.K φ H x v → Rep X.K φ H y u → Post X.K cl φ H (RR X.K) (ofO (o h x y) h) Q We → wpAny (model X.prog X.w) X.A (F vv uu) (EP X pins σ Q) X.xe s
/-- from a rule of HandS for one shape -/
theorem opY_of {F : Value → Value → Sem Value} {o : Hm → D → D → Option D}
    (h : ∀ (cl : Cl) (We : WE') (Q : VK) (φ : List Addr) (H : Hp) (h : Hm) (x y : D) (v u : V), HR X.K φ H h → Rep X.K φ H x v → Rep X.K φ H y u → Post X.K cl φ H (RR X.K) (ofO (o h x y) h) Q We → ∃ r, OpR X F r ∧ r v u H Q) : OpY X F o :=
  fun cl We Q φ H h0 x y v u pins s σ vv uu I rv ru R rx ry P => by
    obtain ⟨r, hr, q⟩ := h cl We Q φ H h0 x y v u R rx ry P
    exact hr pins s σ H v u vv uu Q I rv ru q
def tO2 (X : Cx) (cl : Cl) (W : WX) (o : Hm → D → D → Option D) (f g : Ev) : TE := tG X.K cl W (RR X.K) (e2 o f g)
theorem s_op {op : Operator} {o : Hm → D → D → Option D} (ho : OpY X (binaryOp op) o) (ha : SE X cl W a f) (hb : SE X cl W b g) : SE X cl W (.BinOp a op b pos) (e2 o f g) := by
  refine ⟨fun pins s σ H Q I p => ?_⟩
  refine wpAny_BinOp (bin ha hb I (seq2 (R := fun v u H2 => ∃ φ h x y, HR X.K φ H2 h ∧ Rep X.K φ H2 x v ∧ Rep X.K φ H2 y u ∧ Post X.K cl φ H2 (RR X.K) (ofO (o h x y) h) Q fun c d H' => W c d σ H') p
    fun φ H2 h2 x y v u r q1 q2 P2 => ⟨φ, h2, x, y, r, q1, q2, P2⟩) fun v u s2 x y H2 I2 rx ry q => ?_)
  obtain ⟨φ, h, dx, dy, r, q1, q2, P⟩ := q
  exact ho cl _ Q φ H2 h dx dy x y pins s2 σ v u I2 rx ry r q1 q2 P
theorem s_cmp {op : CmpOp} {o : Hm → D → D → Option D} (ho : OpY X (compareOp op) o) (ha : SE X cl W a f) (hb : SE X cl W b g) (hm : behindInMarks op b = false) : SE X cl W (.Compare a [op] [b] pos) (e2 o f g) := by
  refine ⟨fun pins s σ H Q I p => ?_⟩
  refine wpAny_Compare1 (bin ha hb I (seq2 (R := fun v u H2 => ∃ φ h x y, HR X.K φ H2 h ∧ Rep X.K φ H2 x v ∧ Rep X.K φ H2 y u ∧ Post X.K cl φ H2 (RR X.K) (ofO (o h x y) h) Q fun c d H' => W c d σ H') p
    fun φ H2 h2 x y v u r q1 q2 P2 => ⟨φ, h2, x, y, r, q1, q2, P2⟩) fun v u s2 x y H2 I2 rx ry q => ?_) hm
  obtain ⟨φ, h, dx, dy, r, q1, q2, P⟩ := q
  exact ho cl _ Q φ H2 h dx dy x y pins s2 σ v u I2 rx ry r q1 q2 P
/-- a test whose expression has a value that is a bool: a comparison -/
theorem t_cmp {op : CmpOp} {o : Hm → D → D → Option D} (ho : OpY X (compareOp op) o) (ha : SE X cl W a f) (hb : SE X cl W b g) (hm : behindInMarks op b = false) : ST X cl W (.Compare a [op] [b] pos) (tB (e2 o f g)) := by
  refine ⟨fun pins s σ H Q I p => ?_⟩
  have p' : tG X.K cl W (RR X.K) (e2 o f g) σ H fun x H1 => ∃ k, x = .bl k ∧ Q k H1 := by
    refine seq1 (k := fun x h1 => match x with | .bl b => .ok b h1 | _ => .bad) p fun φ H1 h1 x v r q P => ?_
    cases q with
    | bl b => exact ⟨b, rfl, P.val r rfl⟩
    | _ => exact P.elim
  refine wpAny_isTrue_Compare1 (bin ha hb I (seq2 (R := fun v u H2 => ∃ φ h x y, HR X.K φ H2 h ∧ Rep X.K φ H2 x v ∧ Rep X.K φ H2 y u ∧ Post X.K cl φ H2 (RR X.K) (ofO (o h x y) h) (fun x H1 => ∃ k, x = .bl k ∧ Q k H1) fun c d H' => W c d σ H') p'
    fun φ H2 h2 x y v u r q1 q2 P2 => ⟨φ, h2, x, y, r, q1, q2, P2⟩) fun v u s2 x y H2 I2 rx ry q => ?_) hm
  obtain ⟨φ, h, dx, dy, r, q1, q2, P⟩ := q
  refine thn (ho cl _ _ φ H2 h dx dy x y pins s2 σ v u I2 rx ry r q1 q2 P) fun w s3 ⟨y3, H3, I3, r3, k, e3, q3⟩ => ?_
  subst e3
  obtain rfl : w = Value.bool k := r3
  exact wpAny_truthy_bool ⟨H3, I3, q3⟩
theorem t_val (h : SE X cl W e f) (he : ∀ whole, isTrue e X.env whole = (do let v ← whole; standAt e.pos; holding [v] (truthy v)) := by intro _; rfl) : ST X cl W e (tB f) := by
  refine PT.of (pt_val h he) fun σ H Q p => ?_
  refine seq1 (k := fun x h1 => match x with | .bl b => .ok b h1 | _ => .bad) p fun φ H1 h1 x v r q P => ?_
  cases q with
  | bl b => exact ⟨b, rfl, P.val r rfl⟩
  | _ => exact P.elim
end
end Y
end

section
set_option Elab.async false
set_option linter.all false
set_option maxRecDepth 100000
set_option maxHeartbeats 2000000
/-! YD: operators, places, built-in calls. -/
namespace Y
open PySem PySem.Spec PyProof.Rows L2

/-- what a rule of Y wants of the context -/
structure Cs (k : Nat) (X : Cx) : Prop where
  room : Room k X.A
  gd : X.A.guards = some []
  calm : X.calm = true
  nd : X.N.Nodup
theorem Cs.mono {j k : Nat} {X : Cx} (c : Cs k X) (h : j ≤ k) : Cs j X := ⟨c.room.mono h, c.gd, c.calm, c.nd⟩
theorem Cs.hu {k : Nat} {X : Cx} (c : Cs k X) : X.A.units + 1 < cLine := hu_of c.room

/-! ### a list is frozen: the ghost step -/
section
variable {X : Cx} {pins : List (Addr × Obj)} {σ : L2.St} {H : Hp} {s : Shared} {p : Addr} {vs : List V}
theorem inv_frz (I : L2.Inv X pins σ H s) (h : H p = some (.lst vs)) : ∃ o, L2.Inv X pins σ (upd H p (.frz o (.lst vs))) s := by
  have okp := I.hok p _ h
  obtain ⟨hz, its, n, rv, hg⟩ := okp
  refine ⟨_, I.un (t' := s.toks) (h' := s.heap) (H' := upd H p (.frz { cls := .type "list", data := .seq its.toArray n } (.lst vs))) ⟨fun b o e _ _ _ => e, fun b o e _ _ _ => ⟨o.slots, e⟩, fun b o _ e _ => ?_, fun b o e _ => ⟨o, e⟩, fun b xs e => ?_, fun b o u e => ?_, fun b ps e => ⟨#[], ?_⟩⟩ fun b o e => ?_⟩
  · rw [upd_ne (fun z => by rw [z, h] at e; cases e)]; exact e
  · rw [upd_ne (fun z => by rw [z, h] at e; cases e)]; exact e
  · rw [upd_ne (fun z => by rw [z, h] at e; cases e)]; exact e
  · rw [upd_ne (fun z => by rw [z, h] at e; cases e), e]; simp
  · by_cases hb : b = p
    · subst hb
      rw [upd_same] at e
      cases e
      exact ⟨hg, hz, its, n, rv, hg⟩
    · rw [upd_ne hb] at e
      refine (I.hok b o e).stay (fun _ _ _ q => q) (fun c q => ?_) fun c xs q => ?_
      · rw [upd_ne (fun z => by rw [z, h] at q; cases q)]; exact q
      · rw [upd_ne (fun z => by rw [z, h] at q; cases q)]; exact q
end
section
variable {K : PySem.W.Frag} {φ : List Addr} {H : Hp} {h : Hm}
theorem HR.out (x : HR K φ H h) {p : Addr} {u v : HO} (n : p ∉ φ) (e : H p = some u) (m : mutO u = true) : HR K φ (upd H p v) h := by
  refine ⟨x.len, x.nd, x.tab.wr e m, fun k a o e1 e2 => ?_⟩
  refine (x.ob k a o e1 e2).tr (List.prefix_refl _) (Per.wr e m) (upd_ne fun z => n ?_)
  subst z
  exact List.mem_of_getElem? e1
/-- fresh, then frozen -/
theorem Fresh.frz {φ0 : List Addr} {H0 : Hp} {ds : List D} {p : Addr} {vs : List V} {o : Obj} (l : Lat φ0 H0 φ H) (h0 : H0 p = none) (x : HR K φ H h) (n : p ∉ φ) (e : H p = some (.lst vs)) (r : RepL K φ H ds vs) :
    Lat φ0 H0 φ (upd H p (.frz o (.lst vs))) ∧ HR K φ (upd H p (.frz o (.lst vs))) h ∧ Rep K φ (upd H p (.frz o (.lst vs))) (.fl ds) (.ref p) :=
  ⟨⟨l.pre, l.per.trans (Per.wr e rfl), fun b u q m => by unfold Stays; rw [upd_ne (ne_of_none q h0)]; exact l.keepT b u q m, l.fresh⟩, x.out n e rfl, .fl upd_same (RepL.mono (List.prefix_refl _) (Per.wr e rfl) _ _ r)⟩
/-- fresh, then one of ours -/
theorem Fresh.mut {φ0 : List Addr} {H0 : Hp} {ds : List D} {p : Addr} {vs : List V} (l : Lat φ0 H0 φ H) (h0 : H0 p = none) (x : HR K φ H h) (n : p ∉ φ) (e : H p = some (.lst vs)) (r : RepL K φ H ds vs) :
    Lat φ0 H0 (φ ++ [p]) H ∧ HR K (φ ++ [p]) H (h ++ [.lst ds]) ∧ Rep K (φ ++ [p]) H (.loc h.length) (.ref p) := by
  refine ⟨⟨l.pre.trans (List.prefix_append _ _), l.per, l.keepT, fun b m => ?_⟩, x.add n (.lst e (RepL.mono (List.prefix_append _ _) (Per.refl _) _ _ r)), .loc ?_⟩
  · rcases List.mem_append.mp m with m | m
    · exact l.fresh b m
    · simp at m
      subst m
      exact .inr h0
  rw [List.getElem?_append_right (by rw [x.len]; exact Nat.le_refl _)]
  simp [x.len]
end

section
variable {X : Cx} {cl : Cl} {W : WX} {e a b c : Expr} {es : List Expr} {f g k : Ev} {fl : Lv} {pos : Pos}
theorem s_frz (h : SL X cl W e fl) : SE X cl W e (eFrz fl) := by
  refine ⟨fun pins s σ H Q I p => ?_⟩
  refine thn (h.run pins s σ H (fun v H1 => ∃ p vs, v = .ref p ∧ H1 p = some (.lst vs) ∧ ∀ o, Q v (upd H1 p (.frz o (.lst vs)))) I
    (seq0 (R1 := Fresh X.K) (k := fun xs h1 => Rs.ok (D.fl xs) h1) p (fun φ0 φ H1 h1 ds v l r q P _ => ?_) fun _ _ => .inl ⟨_, _, rfl⟩)) fun u s1 ⟨v, H1, I1, rv, p, vs, e1, e2, q⟩ => ?_
  · obtain ⟨p, vs, rfl, h0, n, e, rr⟩ := q
    refine ⟨p, vs, rfl, e, fun o => ?_⟩
    obtain ⟨l, x, y⟩ := Fresh.frz (o := o) l h0 r n e rr
    exact P _ _ rfl φ _ _ l x y
  · subst e1
    obtain ⟨o, I2⟩ := inv_frz I1 e2
    exact ⟨_, _, I2, rv, q o⟩
theorem s_mut (h : SL X cl W e fl) : SE X cl W e (eMut fl) := PE.of h fun σ H Q p =>
  seq0 (R1 := Fresh X.K) (k := fun xs h1 => Rs.ok (D.loc h1.length) (h1 ++ [Ob.lst xs])) p (fun φ0 φ H1 h1 ds v l r q P _ => by
    obtain ⟨p, vs, rfl, h0, n, e, rr⟩ := q
    obtain ⟨l, x, y⟩ := Fresh.mut l h0 r n e rr
    exact P _ _ rfl _ _ _ l x y) fun _ _ => .inl ⟨_, _, rfl⟩

/-! ### operators -/
theorem line_eq : line = sizeLine := by rw [sizeLine_eq]; rfl
/-- the rule of HandS that a meaning gives -/
def rY (K : PySem.W.Frag) (o : Hm → D → D → Option D) : R2 := fun v u H Q => ∃ (cl : Cl) (We : WE') (φ : List Addr) (h : Hm) (x y : D), HR K φ H h ∧ Rep K φ H x v ∧ Rep K φ H y u ∧ Post K cl φ H (RR K) (ofO (o h x y) h) Q We
theorem OpY.r {F : Value → Value → Sem Value} {o : Hm → D → D → Option D} (h : OpY X F o) : OpR X F (rY X.K o) := fun pins s σ H x y v u Q I rx ry ⟨cl, We, φ, hh, dx, dy, R, q1, q2, P⟩ =>
  h cl We Q φ H hh dx dy x y pins s σ v u I rx ry R q1 q2 P
/-- an operator whose result is plain -/
theorem opY1 {F : Value → Value → Sem Value} {o : Hm → D → D → Option D}
    (h : ∀ (Q : VK) (φ : List Addr) (H : Hp) (h : Hm) (x y : D) (v u : V) (z : D), HR X.K φ H h → Rep X.K φ H x v → Rep X.K φ H y u → o h x y = some z → (∀ w, Rep X.K φ H z w → Q w H) → ∃ r, OpR X F r ∧ r v u H Q) : OpY X F o :=
  opY_of fun cl We Q φ H h0 x y v u R rx ry P => by
    cases e : o h0 x y with
    | none => rw [e] at P; exact P.elim
    | some z =>
      rw [e] at P
      exact h Q φ H h0 x y v u z R rx ry e fun w hw => P.val R hw
theorem y_sub : OpY X (binaryOp .Sub) oSub := opY1 fun Q φ H h x y v u z R rx ry e q => by
  cases rx <;> cases ry <;> simp [oSub] at e
  subst e
  exact ⟨_, op_sub, _, _, rfl, rfl, q _ (.int _)⟩
theorem big_eq : big = 2 ^ 64 := by decide
theorem RepL.app {K : PySem.W.Frag} {φ : List Addr} {H : Hp} {ds es : List D} {vs ws : List V} (r : RepL K φ H ds vs) (r2 : RepL K φ H es ws) : RepL K φ H (ds ++ es) (vs ++ ws) := by
  induction ds generalizing vs with
  | nil => cases r; exact r2
  | cons d ds ih => cases r with | cons a b => exact .cons a (ih b)
theorem RepL.rpt {K : PySem.W.Frag} {φ : List Addr} {H : Hp} {ds : List D} {vs : List V} (r : RepL K φ H ds vs) : ∀ n : Nat, RepL K φ H (List.replicate n ds).flatten (List.replicate n vs).flatten
  | 0 => .nil
  | n + 1 => by
    simp only [List.replicate_succ, List.flatten_cons]
    exact r.app (RepL.rpt r n)
theorem y_mul : OpY X (binaryOp .Mult) oMul := opY_of fun cl We Q φ H h0 x y v u R rx ry P => by
  cases e : oMul h0 x y with
  | none => rw [e] at P; exact P.elim
  | some z =>
    rw [e] at P
    cases rx <;> cases ry <;> simp only [oMul] at e <;> try (cases e; done)
    · split at e
      · rename_i c
        cases e
        simp only [mulOk, Bool.or_eq_true, Bool.and_eq_true, decide_eq_true_eq, big_eq] at c
        rcases c with c | c
        · exact ⟨_, op_mul, _, _, rfl, rfl, c, P.val R (.int _)⟩
        · exact ⟨_, op_mulW, _, _, rfl, rfl, c, P.val R (.int _)⟩
      · cases e
    · rename_i g1 g2 k
      split at e
      · rename_i c
        cases e
        obtain ⟨c1, c2, c3, c4⟩ := c
        have ne := fun q => c3 (List.eq_nil_of_length_eq_zero (g2.length.trans (List.length_eq_zero_iff.mpr q)))
        by_cases k2 : 2 ≤ k
        · refine ⟨_, op_repT, _, _, _, rfl, rfl, SqT.of g1, ne, k2, c2, by rw [← g2.length]; exact c4, fun p hp => ?_⟩
          exact P φ _ _ (Lat.new hp) (R.new hp) (.tup upd_same (RepL.mono (List.prefix_refl _) (Per.new hp) _ _ (g2.rpt _)))
        · refine ⟨_, Yz.op_repA, _, _, _, rfl, rfl, SqT.of g1, ne, c1, by omega, fun e1 => ?_, fun e0 p hp => ?_⟩
          · subst e1
            refine P.val R ?_
            simp only [Int.toNat_one, List.replicate_one, List.flatten_cons, List.flatten_nil, List.append_nil]
            exact .tup g1 g2
          · have e2 : k.toNat = 0 := by omega
            refine P φ _ _ (Lat.new hp) (R.new hp) ?_
            rw [e2]
            exact .tup upd_same .nil
      · cases e
theorem y_div : OpY X (binaryOp .FloorDiv) oDiv := opY1 fun Q φ H h x y v u z R rx ry e q => by
  cases rx <;> cases ry <;> simp only [oDiv] at e <;> try (cases e; done)
  split at e
  · rename_i c
    cases e
    rcases c with ⟨c1, c2 | c2⟩
    · exact ⟨_, op_fdiv, _, _, rfl, rfl, ⟨c1, c2⟩, q _ (.int _)⟩
    · exact ⟨_, op_fdivW, _, _, rfl, rfl, ⟨c1, c2⟩, q _ (.int _)⟩
  · split at e
    · rename_i c
      cases e
      exact ⟨_, op_fdivN, _, _, rfl, rfl, ⟨by omega, by omega⟩, q _ (.int _)⟩
    · cases e
theorem y_mod : OpY X (binaryOp .Mod) oMod := opY1 fun Q φ H h x y v u z R rx ry e q => by
  cases rx <;> cases ry <;> simp only [oMod] at e <;> try (cases e; done)
  split at e
  · rename_i c
    cases e
    exact ⟨_, op_mod, _, _, rfl, rfl, c, q _ (.int _)⟩
  · split at e
    · rename_i c
      cases e
      exact ⟨_, op_modN, _, _, rfl, rfl, by omega, q _ (.int _)⟩
    · cases e
theorem y_pow : OpY X (binaryOp .Pow) oPow := opY1 fun Q φ H h x y v u z R rx ry e q => by
  cases rx <;> cases ry <;> simp only [oPow] at e <;> try (cases e; done)
  split at e
  · rename_i c
    cases e
    refine ⟨_, op_pow, _, _, rfl, rfl, ⟨c.1, c.2.1, ?_⟩, q _ (.int _)⟩
    have h1 := c.2.2.1
    have h2 := c.2.2.2
    rw [big_eq] at h1 h2
    omega
  · cases e
/-- the list that stands there, ours or frozen -/
theorem own_at {φ : List Addr} {H : Hp} {h : Hm} (R : HR X.K φ H h) {x : D} {v : V} (rx : Rep X.K φ H x v) {xs : List D} (e : ownL h x = some xs) : ∃ a vs, v = .ref a ∧ Rd H a (.lst vs) ∧ RepL X.K φ H xs vs := by
  cases rx <;> simp only [ownL] at e <;> try (cases e; done)
  case fl a o ds vs hf r => cases e; exact ⟨a, vs, rfl, .inr ⟨o, hf⟩, r⟩
  case loc k a hk =>
    obtain ⟨ob, h1, h2⟩ := R.at hk
    rw [h1] at e
    cases ob <;> simp at e
    subst e
    cases h2 with
    | lst hh r => exact ⟨a, _, rfl, .inl hh, r⟩
theorem lst_at {φ : List Addr} {H : Hp} {h : Hm} (R : HR X.K φ H h) {x : D} {v : V} (rx : Rep X.K φ H x v) {xs : List D} (e : lstOf h x = some xs) : ∃ a vs, v = .ref a ∧ SqL X.K H a vs ∧ RepL X.K φ H xs vs := by
  cases rx <;> simp only [lstOf] at e <;> try (cases e; done)
  case fl a o ds vs hf r => cases e; exact ⟨a, vs, rfl, .inl (.inr ⟨o, hf⟩), r⟩
  case sq a ds vs hf r => cases e; exact ⟨a, vs, rfl, hf.sq, r⟩
  case loc k a hk =>
    obtain ⟨ob, h1, h2⟩ := R.at hk
    rw [h1] at e
    cases ob <;> simp at e
    subst e
    cases h2 with
    | lst hh r => exact ⟨a, _, rfl, .of hh, r⟩
/-- list + list, each ours or frozen -/
def rCatR : R2 := fun x y H Q => ∃ l b xs zs, x = .ref l ∧ y = .ref b ∧ Rd H l (.lst xs) ∧ Rd H b (.lst zs) ∧ xs.length + zs.length ≤ sizeLine ∧ ∀ p, H p = none → Q (.ref p) (upd H p (.lst (xs ++ zs)))
theorem op_catR : OpR X (binaryOp .Add) rCatR := fun pins s σ H x y v u Q I rx ry h => by
  obtain ⟨l, b, xs, zs, rfl, rfl, h1, h2, hz, q⟩ := h
  cases rx
  cases ry
  obtain ⟨z1, i1, n1, r1, e1⟩ := h1.ok I.hok
  obtain ⟨z2, i2, n2, r2, e2⟩ := h2.ok I.hok
  have l1 := r1.length
  have l2 := r2.length
  refine PySem.P.add_list e1 e2 ?_ (by rw [List.size_toArray, List.size_toArray]; omega)
  rw [show i1.toArray ++ i2.toArray = (i1 ++ i2).toArray by simp]
  exact ⟨.ref _, _, I.lnew (t' := s.toks) (r1.append r2) (by rw [List.length_append]; omega), rfl, q _ I.fresh⟩
theorem y_add : OpY X (binaryOp .Add) oAdd := by
  intro cl We Q φ H h x y v u pins s σ vv uu I rv ru R rx ry P
  cases e : oAdd h x y with
  | none => rw [e] at P; exact P.elim
  | some z =>
    rw [e] at P
    have lists : ∀ xs ys, ownL h x = some xs → ownL h y = some ys → xs.length + ys.length ≤ line → z = .fl (xs ++ ys) → wpAny (model X.prog X.w) X.A (binaryOp .Add vv uu) (EP X pins σ Q) X.xe s := by
      intro xs ys e1 e2 hz ez
      subst ez
      obtain ⟨l, vs, rfl, h1, q1⟩ := own_at R rx e1
      obtain ⟨b, us, rfl, h2, q2⟩ := own_at R ry e2
      refine thn (op_catR pins s σ H _ _ vv uu (fun v H1 => ∃ p, v = .ref p ∧ H p = none ∧ H1 = upd H p (.lst (vs ++ us))) I rv ru ⟨l, b, vs, us, rfl, rfl, h1, h2, by rw [← q1.length, ← q2.length, ← line_eq]; exact hz, fun p hp => ⟨p, rfl, hp, rfl⟩⟩) fun w s1 ⟨w1, H1, I1, rw1, p, e1, hp, e3⟩ => ?_
      subst e1; subst e3
      obtain ⟨o, I2⟩ := inv_frz I1 upd_same
      have R1 : HR X.K φ (upd H p (.lst (vs ++ us))) h := R.new hp
      have rr : RepL X.K φ (upd H p (.lst (vs ++ us))) (xs ++ ys) (vs ++ us) := RepL.mono (List.prefix_refl _) (Per.new hp) _ _ (q1.append q2)
      obtain ⟨l1, x1, y1⟩ := Fresh.frz (o := o) (Lat.new hp) hp R1 (R.notin hp) upd_same rr
      exact ⟨_, _, I2, rw1, P φ _ _ l1 x1 y1⟩
    have gen : (match ownL h x, ownL h y with | some xs, some ys => if xs.length + ys.length ≤ line then some (D.fl (xs ++ ys)) else none | _, _ => none) = some z → wpAny (model X.prog X.w) X.A (binaryOp .Add vv uu) (EP X pins σ Q) X.xe s := by
      intro e
      cases e1 : ownL h x with
      | none => rw [e1] at e; cases e
      | some xs =>
        cases e2 : ownL h y with
        | none => rw [e1, e2] at e; cases e
        | some ys =>
          rw [e1, e2] at e
          simp only at e
          split at e
          · exact lists xs ys e1 e2 (by assumption) (Option.some.inj e).symm
          · cases e
    cases rx <;> cases ry <;> first
      | (simp only [oAdd] at e; exact gen e)
      | skip
    · simp [oAdd] at e
      subst e
      exact op_add pins s σ H _ _ vv uu Q I rv ru ⟨_, _, rfl, rfl, P.val R (.int _)⟩
    · simp only [oAdd] at e
      split at e
      · cases e
        exact op_add_str pins s σ H _ _ vv uu Q I rv ru ⟨_, _, rfl, rfl, by rw [← line_eq]; assumption, P.val R (.str _)⟩
      · cases e
    · rename_i a1 d1 v1 h1 r1 a2 d2 v2 h2 r2
      simp only [oAdd] at e
      split at e
      · rename_i hz
        cases e
        refine op_catA pins s σ H _ _ vv uu Q I rv ru ⟨a1, a2, v1, v2, rfl, rfl, SqT.of h1, SqT.of h2, by rw [← r1.length, ← r2.length, ← line_eq]; exact hz, fun z => ?_, fun _ z => ?_, fun _ _ p hp => ?_⟩
        · obtain rfl := r1.nil_iff.mpr z
          exact P.val R (.tup h2 r2)
        · obtain rfl := r2.nil_iff.mpr z
          rw [List.append_nil] at P
          exact P.val R (.tup h1 r1)
        · refine P φ _ _ (Lat.new hp) (R.new hp) (.tup upd_same (RepL.mono (List.prefix_refl _) (Per.new hp) _ _ (r1.append r2)))
      · cases e
end
end Y
end

section
set_option Elab.async false
set_option linter.all false
set_option maxRecDepth 100000
set_option maxHeartbeats 2000000
/-! YE: comparisons, tests, displays, places, built-ins. -/
namespace Y
open PySem PySem.Spec PyProof.Rows L2

section
variable {K : PySem.W.Frag} {φ : List Addr} {H : Hp} {h : Hm}
mutual
theorem Rep.dp : ∀ (d : D) (v : V) (p : PyData), py h d = some p → Rep K φ H d v → Dp K H v p
  | .non, _, _, e, r => by cases r; simp [py] at e; subst e; exact .non
  | .bl _, _, _, e, r => by cases r; simp [py] at e; subst e; exact .bl _
  | .int _, _, _, e, r => by cases r; simp [py] at e; subst e; exact .int _
  | .str _, _, _, e, r => by cases r; simp [py] at e; subst e; exact .str _
  | .tup ds, _, _, e, r => by
    simp [py] at e
    obtain ⟨a, ha, rfl⟩ := e
    cases r with
    | tup h r => exact .tup (SqT.of h) (RepL.dp ds _ _ ha r)
  | .fl ds, _, _, e, r => by
    simp [py] at e
    obtain ⟨a, ha, rfl⟩ := e
    cases r with
    | fl h r => exact .lst (.inl (.inr ⟨_, h⟩)) (RepL.dp ds _ _ ha r)
  | .sq ds, _, _, e, r => by
    simp [py] at e
    obtain ⟨a, ha, rfl⟩ := e
    cases r with
    | sq h r => exact .lst h.sq (RepL.dp ds _ _ ha r)
  | .loc _, _, _, e, _ => by simp [py] at e
theorem RepL.dp : ∀ (d : List D) (v : List V) (p : List PyData), pyL h d = some p → RepL K φ H d v → DpAll K H v p
  | [], _, _, e, r => by cases r; simp [pyL] at e; subst e; exact .nil
  | d :: ds, _, _, e, r => by
    cases r with
    | cons q r =>
      simp only [pyL] at e
      cases e1 : py h d with
      | none => rw [e1] at e; cases e
      | some a =>
        cases e2 : pyL h ds with
        | none => rw [e1, e2] at e; cases e
        | some b =>
          rw [e1, e2] at e
          cases e
          exact .cons (Rep.dp d _ a e1 q) (RepL.dp ds _ b e2 r)
end
end

section
variable {X : Cx} {k : Nat}
theorem dec_bool {P Q : Prop} [Decidable P] [Decidable Q] (h : P ↔ Q) : decide P = decide Q := by
  by_cases p : P
  · rw [decide_eq_true p, decide_eq_true (h.mp p)]
  · rw [decide_eq_false p, decide_eq_false fun q => p (h.mpr q)]
def EqOk (X : Cx) (H : Hp) (v u : V) (b : Bool) : Prop :=
    (∀ Q : VK, Q (.bl b) H → ∃ r, OpR X (compareOp .Eq) r ∧ r v u H Q) ∧ ∀ Q : VK, Q (.bl (!b)) H → ∃ r, OpR X (compareOp .NotEq) r ∧ r v u H Q
theorem dpE {φ : List Addr} {H : Hp} {h : Hm} (R : HR X.K φ H h) {x : D} {v : V} {a : PyData} (e : pyE h x = some a) (rx : Rep X.K φ H x v) : Dp X.K H v a := by
  by_cases hl : ∃ k, x = .loc k
  · obtain ⟨k, rfl⟩ := hl
    cases rx with
    | loc hk =>
      obtain ⟨ob, h1, h2⟩ := R.at hk
      simp only [pyE] at e
      rw [h1] at e
      cases h2 with
      | lst hh r =>
        simp only [Option.map_eq_some_iff] at e
        obtain ⟨p, e1, rfl⟩ := e
        exact .lst (.inl (.inl hh)) (RepL.dp _ _ _ e1 r)
      | _ => cases e
  · have e' : py h x = some a := by cases x <;> first | exact e | exact absurd ⟨_, rfl⟩ hl
    exact Rep.dp x v a e' rx
theorem eqD_sound (c : Cs k X) {φ : List Addr} {H : Hp} {h : Hm} {x y : D} {v u : V} {b : Bool} (R : HR X.K φ H h) (rx : Rep X.K φ H x v) (ry : Rep X.K φ H y u) (e : eqD h x y = some b) : EqOk X H v u b := by
  have gen : (match pyE h x, pyE h y with | some a, some b => if SeqAt.shaped a && SeqAt.shaped b then some (PyData.eqv a b) else none | _, _ => none) = some b → EqOk X H v u b := by
    intro e
    cases e1 : pyE h x with
    | none => rw [e1] at e; cases e
    | some a =>
      cases e2 : pyE h y with
      | none => rw [e1, e2] at e; cases e
      | some d =>
        rw [e1, e2] at e
        simp only at e
        split at e
        · rename_i hs
          cases e
          rw [Bool.and_eq_true] at hs
          have d1 := dpE R e1 rx
          have d2 := dpE R e2 ry
          exact ⟨fun Q q => ⟨_, op_eqD c.room.units, a, d, d1, d2, hs.1, hs.2, q⟩, fun Q q => ⟨_, op_neD c.room.units, a, d, d1, d2, hs.1, hs.2, q⟩⟩
        · cases e
  cases rx <;> cases ry <;> first
    | (simp only [eqD] at e; exact gen e)
    | (simp only [eqD] at e
       cases e
       refine ⟨fun Q q => ⟨_, op_eq, rfl, ?_⟩, fun Q q => ⟨_, op_ne, rfl, ?_⟩⟩ <;>
       (simpa using q))
theorem y_eq (c : Cs k X) : OpY X (compareOp .Eq) oEq := opY1 fun Q φ H h x y v u z R rx ry e q => by
  simp only [oEq, Option.map_eq_some_iff] at e
  obtain ⟨b, e, rfl⟩ := e
  exact (eqD_sound c R rx ry e).1 Q (q _ (.bl b))
theorem y_ne (c : Cs k X) : OpY X (compareOp .NotEq) oNe := opY1 fun Q φ H h x y v u z R rx ry e q => by
  simp only [oNe, Option.map_eq_some_iff] at e
  obtain ⟨b, e, rfl⟩ := e
  exact (eqD_sound c R rx ry e).2 Q (q _ (.bl (!b)))
theorem y_lt (c : Cs k X) : OpY X (compareOp .Lt) oLt := opY1 fun Q φ H h x y v u z R rx ry e q => by
  cases rx <;> cases ry <;> simp only [oLt] at e <;> try (cases e; done)
  · cases e
    exact ⟨_, op_lt, _, _, rfl, rfl, q _ (.bl _)⟩
  · rename_i a1 d1 v1 h1 r1 a2 d2 v2 h2 r2
    cases e1 : intsOf d1 with
    | none => rw [e1] at e; cases e
    | some ns =>
      cases e2 : intsOf d2 with
      | none => rw [e1, e2] at e; cases e
      | some ms =>
        rw [e1, e2] at e
        cases e
        rw [r1.intsOf e1] at h1
        rw [r2.intsOf e2] at h2
        exact ⟨_, op_ltT c.room.units0, a1, a2, ns, ms, rfl, rfl, SqT.of h1, SqT.of h2, q _ (.bl _)⟩
theorem y_le : OpY X (compareOp .LtE) oLe := opY1 fun Q φ H h x y v u z R rx ry e q => by
  cases rx <;> cases ry <;> simp only [oLe] at e <;> try (cases e; done)
  cases e
  exact ⟨_, op_le, _, _, rfl, rfl, q _ (.bl _)⟩
theorem y_gt : OpY X (compareOp .Gt) oGt := opY1 fun Q φ H h x y v u z R rx ry e q => by
  cases rx <;> cases ry <;> simp only [oGt] at e <;> try (cases e; done)
  cases e
  exact ⟨_, op_gt, _, _, rfl, rfl, q _ (.bl _)⟩
theorem y_ge : OpY X (compareOp .GtE) oGe := opY1 fun Q φ H h x y v u z R rx ry e q => by
  cases rx <;> cases ry <;> simp only [oGe] at e <;> try (cases e; done)
  cases e
  exact ⟨_, op_ge, _, _, rfl, rfl, q _ (.bl _)⟩
theorem isN_of {φ : List Addr} {H : Hp} {x : D} {v : V} (r : Rep X.K φ H x v) : isN x = decide (v = .non) := by cases r <;> simp [isN]
theorem y_is : OpY X (compareOp .Is) oIs := opY1 fun Q φ H h x y v u z R rx ry e q => by
  have n := isN_of rx
  cases ry <;> simp only [oIs] at e
  case non =>
    cases e
    refine ⟨_, op_isN, rfl, ?_⟩
    rw [← n]
    exact q _ (.bl _)
  case bl b =>
    cases rx <;> simp at e
    subst e
    exact ⟨_, op_isBl, _, _, rfl, rfl, q _ (.bl _)⟩
  all_goals (cases x <;> cases e)
theorem y_isNot : OpY X (compareOp .IsNot) oIsNot := opY1 fun Q φ H h x y v u z R rx ry e q => by
  have n := isN_of rx
  cases ry <;> simp only [oIsNot] at e
  case non =>
    cases e
    refine ⟨_, op_notN, rfl, ?_⟩
    rw [← n]
    exact q _ (.bl _)
  case bl b =>
    cases rx <;> simp at e
    subst e
    exact ⟨_, op_notBl, _, _, rfl, rfl, q _ (.bl _)⟩
  all_goals (cases x <;> cases e)
end

section
variable {X : Cx} {cl : Cl} {W : WX} {e a b c : Expr} {es : List Expr} {f g q : Ev} {fa : Av} {t t' : Tv} {pos : Pos} {k : Nat}
/-! ### one operand -/
theorem s_neg (ha : SE X cl W a f) : SE X cl W (.UnaryOp .USub a pos) (e1 uNeg f) := PE.of (pe_un un_neg ha) fun σ H Q p =>
  seq1 (k := fun x h1 => ofO (uNeg h1 x) h1) p fun φ H1 h1 x v r q P => by
    cases q <;> first | exact P.elim | exact ⟨_, rfl, P.val r (.int _)⟩
theorem s_not (ha : SE X cl W a f) : SE X cl W (.UnaryOp .Not a pos) (e1 uNot f) := PE.of (pe_not ha) fun σ H Q p =>
  seq1 (k := fun x h1 => ofO (uNot h1 x) h1) p fun φ H1 h1 x v r q P => by
    cases q <;> first | exact P.elim | exact ⟨_, rfl, P.val r (.bl _)⟩
/-! ### and, or, if as values -/
theorem tG.later {α β : Type} {K : PySem.W.Frag} {Rel : RT α β} {f : Sl → Hm → Rs α} {φ : List Addr} {st : Sl} {σ : L2.St} {H : Hp} {h : Hm} {Q : β → Hp → Prop} (S : SR K cl φ H st σ) (R : HR K φ H h) (P : Post K cl φ H Rel (f st h) Q fun c d H' => W c d σ H') : tG K cl W Rel f σ H Q := ⟨φ, st, h, S, R, P⟩
/-- an evaluation, then what hangs on it, the slots at hand -/
theorem seqS {α β γ δ : Type} {R1 : RT γ δ} {f : Sl → Hm → Rs γ} {σ : L2.St} {H : Hp} {Q : β → Hp → Prop} {Rel : RT α β} [Back Rel] {k : Sl → γ → Hm → Rs α} {R : δ → Hp → Prop}
    (p : tG X.K cl W Rel (fun σ h => (f σ h).bind fun x h1 => k σ x h1) σ H Q)
    (h : ∀ φ st H1 h1 x v, SR X.K cl φ H1 st σ → HR X.K φ H1 h1 → R1 H φ H1 x v → Post X.K cl φ H1 Rel (k st x h1) Q (fun c d H' => W c d σ H') → R v H1) :
    tG X.K cl W R1 f σ H R := by
  obtain ⟨φ, st, h0, S, R0, P⟩ := p
  exact ⟨φ, st, h0, S, R0, P.seq fun x h1 φ1 H1 v l1 r1 q1 P1 => h φ1 st H1 h1 x v (S.mono l1) r1 q1 P1⟩
variable {rest : List Expr}
theorem s_one {op} (h : SE X cl W a f) : SE X cl W (.BoolOp op [a] pos) f := pe_one h
theorem s_and (ha : SE X cl W a f) (hb : SE X cl W (.BoolOp .And (b :: rest) pos) g) : SE X cl W (.BoolOp .And (a :: b :: rest) pos) (eAnd f g) := PE.of (pe_and ha hb) fun σ H Q p =>
  seqS (k := fun σ x h1 => match x with | .bl true => g σ h1 | .bl false => .ok (.bl false) h1 | _ => .bad) p fun φ st H1 h1 x v S r q P => by
    cases q <;> first | exact P.elim | skip
    rename_i b
    cases b with
    | true => exact ⟨true, rfl, φ, st, h1, S, r, P⟩
    | false => exact ⟨false, rfl, P.val r (.bl _)⟩
theorem s_or (ha : SE X cl W a f) (hb : SE X cl W (.BoolOp .Or (b :: rest) pos) g) : SE X cl W (.BoolOp .Or (a :: b :: rest) pos) (eOr f g) := PE.of (pe_or ha hb) fun σ H Q p =>
  seqS (k := fun σ x h1 => match x with | .bl false => g σ h1 | .bl true => .ok (.bl true) h1 | _ => .bad) p fun φ st H1 h1 x v S r q P => by
    cases q <;> first | exact P.elim | skip
    rename_i b
    cases b with
    | false => exact ⟨false, rfl, φ, st, h1, S, r, P⟩
    | true => exact ⟨true, rfl, P.val r (.bl _)⟩
theorem s_if (hc : ST X cl W c t) (ha : SE X cl W a f) (hb : SE X cl W b g) : SE X cl W (.IfExp c a b pos) (eIf t f g) := PE.of (pe_ifExp hc ha hb) fun σ H Q p =>
  seqS (k := fun σ x h1 => if x = true then f σ h1 else g σ h1) p fun φ st H1 h1 x v S r q P => by
    cases (show x = v from q)
    cases x with
    | true => exact ⟨φ, st, h1, S, r, P⟩
    | false => exact ⟨φ, st, h1, S, r, P⟩
/-! ### tests -/
theorem w_and1 (ha : ST X cl W a t) : SW X cl W (.BoolOp .And [a] pos) t := pw_and1 ha
theorem w_or1 (ha : ST X cl W a t) : SW X cl W (.BoolOp .Or [a] pos) t := pw_or1 ha
theorem w_and (ha : ST X cl W a t) (hb : SW X cl W (.BoolOp .And (b :: rest) pos) t') : SW X cl W (.BoolOp .And (a :: b :: rest) pos) (tAnd t t') := PW.of (pw_and ha hb) fun σ H Q p =>
  seqS (k := fun σ x h1 => if x = true then t' σ h1 else .ok false h1) p fun φ st H1 h1 x v S r q P => by
    cases (show x = v from q)
    cases x with
    | true => exact ⟨φ, st, h1, S, r, P⟩
    | false => exact P.val r rfl
theorem w_or (ha : ST X cl W a t) (hb : SW X cl W (.BoolOp .Or (b :: rest) pos) t') : SW X cl W (.BoolOp .Or (a :: b :: rest) pos) (tOr t t') := PW.of (pw_or ha hb) fun σ H Q p =>
  seqS (k := fun σ x h1 => if x = true then .ok true h1 else t' σ h1) p fun φ st H1 h1 x v S r q P => by
    cases (show x = v from q)
    cases x with
    | true => exact P.val r rfl
    | false => exact ⟨φ, st, h1, S, r, P⟩
theorem t_w (h : SW X cl W e t) : ST X cl W e t := PW.pt h
theorem t_not (ha : ST X cl W a t) : ST X cl W (.UnaryOp .Not a pos) (tNot t) := PT.of (pt_not ha) fun σ H Q p =>
  seq1 (k := fun x h1 => .ok (!x) h1) p fun φ H1 h1 x v r q P => by
    cases (show x = v from q)
    exact P.val r rfl
theorem truth_sound {φ : List Addr} {H : Hp} {h : Hm} (R : HR X.K φ H h) {x : D} {v : V} (rx : Rep X.K φ H x v) {b : Bool} (e : truth h x = some b) : TruV X.K v H b := by
  have lists : ∀ xs, lstOf h x = some xs → b = !xs.isEmpty → TruV X.K v H b := by
    intro xs e1 e2
    obtain ⟨a, vs, rfl, hq, r⟩ := lst_at R rx e1
    exact .inl ⟨vs, hq, by rw [e2, r.empty]⟩
  have wrap : Option.map (fun xs => !List.isEmpty xs) (lstOf h x) = some b → TruV X.K v H b := fun e => by
    obtain ⟨xs, e1, e2⟩ := Option.map_eq_some_iff.mp e
    exact lists xs e1 e2.symm
  cases rx
  case non => simp only [truth] at e; cases e; rfl
  case bl => simp only [truth] at e; cases e; rfl
  case int =>
    simp only [truth] at e; cases e
    show _ = _
    rw [Bool.eq_iff_iff]
    simp
  case str x =>
    simp only [truth] at e
    split at e
    · rename_i hx
      cases e
      refine ⟨by rw [← line_eq]; exact hx, ?_⟩
      rw [Bool.eq_iff_iff]
      simp <;> omega
    · cases e
  case tup a ds vs h r =>
    simp only [truth] at e
    cases e
    exact .inr (.inl ⟨vs, SqT.of h, by rw [r.empty]⟩)
  case fl => exact wrap e
  case sq => exact wrap e
  case loc => exact wrap e
  case obj => exact wrap e
  case exo => exact wrap e
  case gfn => exact wrap e
theorem t_tr (ha : SE X cl W a f) (he : ∀ whole, isTrue a X.env whole = (do let v ← whole; standAt a.pos; holding [v] (truthy v)) := by intro _; rfl) : ST X cl W a (tT f) := PT.of (pt_truth ha he) fun σ H Q p =>
  seq1 (k := fun x h1 => ofO (truth h1 x) h1) p fun φ H1 h1 x v r q P => by
    cases e : truth h1 x with
    | none => rw [e] at P; exact P.elim
    | some b =>
      rw [e] at P
      exact ⟨b, truth_sound r q e, P.val r rfl⟩
/-! ### a chain of two comparisons -/
theorem chain_imp {o o' : Hm → D → D → Option D} {σ : L2.St} {H : Hp} {Q : VK} (p : tG X.K cl W (RR X.K) (eCh o o' f g q) σ H Q) : tChain (rY X.K o) (rY X.K o') (tG X.K cl W (RR X.K) f) (tG X.K cl W (RR X.K) g) (tG X.K cl W (RR X.K) q) σ H Q := by
  obtain ⟨φ, st, h0, S, R0, P⟩ := p
  refine ⟨φ, st, h0, S, R0, P.seq fun x h1 φ1 H1 v l1 r1 q1 P1 => ⟨φ1, st, h1, S.mono l1, r1, P1.seq fun y h2 φ2 H2 u l2 r2 q2 P2 => ?_⟩⟩
  refine ⟨cl, fun c d H' => W c d σ H', φ2, h2, x, y, r2, Rep.mono l2.pre l2.per _ _ q1, q2, ?_⟩
  cases e : o h2 x y with
  | none => rw [e] at P2; exact P2.elim
  | some z =>
    rw [e] at P2
    intro φ3 H3 w l3 r3 q3
    cases q3 <;> first | exact P2.elim | skip
    rename_i bb
    refine ⟨bb, rfl, ?_⟩
    cases bb with
    | false => exact P2 φ3 H3 _ l3 r3 (.bl _)
    | true =>
      rw [if_pos rfl]
      have P3 := Post.lat P2 l3
      refine ⟨φ3, st, h2, S.mono (l1.trans (l2.trans l3)), r3, P3.seq fun z h4 φ4 H4 w l4 r4 q4 P4 => ?_⟩
      exact ⟨cl, fun c d H' => W c d σ H', φ4, h4, y, z, r4, Rep.mono (l3.trans l4).pre (l3.trans l4).per _ _ q2, q4, P4⟩
theorem s_chain {op op' : CmpOp} {o o' : Hm → D → D → Option D} (ho : OpY X (compareOp op) o) (ho' : OpY X (compareOp op') o') (ha : SE X cl W a f) (hb : SE X cl W b g) (hc : SE X cl W c q)
    (hm : lastMarks [op, op'] [b, c] = false := by with_unfolding_all rfl) : SE X cl W (.Compare a [op, op'] [b, c] pos) (eCh o o' f g q) := PE.of (pe_chain ho.r ho'.r ha hb hc hm) fun σ H Q p => chain_imp p
theorem t_chain {op op' : CmpOp} {o o' : Hm → D → D → Option D} (ho : OpY X (compareOp op) o) (ho' : OpY X (compareOp op') o') (ha : SE X cl W a f) (hb : SE X cl W b g) (hc : SE X cl W c q)
    (hm : lastMarks [op, op'] [b, c] = false := by with_unfolding_all rfl) : ST X cl W (.Compare a [op, op'] [b, c] pos) (tB (eCh o o' f g q)) := PT.of (pt_chain ho.r ho'.r ha hb hc hm) fun σ H Q p => by
  refine chain_imp ?_
  refine seq1 (k := fun x h1 => match x with | .bl b => .ok b h1 | _ => .bad) p fun φ H1 h1 x v r q P => ?_
  cases q with
  | bl b => exact ⟨b, rfl, P.val r rfl⟩
  | _ => exact P.elim

/-! ### argument lists, displays -/
theorem a_nil : SA X cl W [] aN := PA.of pa_nil fun σ H Q ⟨φ, st, h0, S, R, P⟩ => P.val R .nil
theorem a_cons (ha : SE X cl W e f) (hr : SA X cl W es fa) (hs : starEach (e :: es) X.env = (false, eval e X.env) :: starEach es X.env := by rfl) : SA X cl W (e :: es) (aC f fa) := PA.of (pa_cons ha hr hs) fun σ H Q p => by
  obtain ⟨φ, st, h0, S, R0, P⟩ := p
  refine ⟨φ, st, h0, S, R0, P.seq fun x h1 φ1 H1 v l1 r1 q1 P1 => ⟨φ1, st, h1, S.mono l1, r1, P1.seq fun xs h2 φ2 H2 vs l2 r2 q2 P2 => ?_⟩⟩
  exact P2.val r2 (.cons (Rep.mono l2.pre l2.per _ _ q1) q2)
theorem s_tup {x1} (h : SA X cl W es fa) : SE X cl W (.Tuple es x1 pos) (eTup fa) := PE.of (pe_tup h) fun σ H Q p =>
  seq1 (k := fun xs h1 => if xs.length ≤ line then Rs.ok (D.tup xs) h1 else .bad) p fun φ H1 h1 xs vs r q P => by
    split at P
    · rename_i hz
      refine ⟨by rw [← q.length, ← line_eq]; exact hz, fun p hp => P φ _ _ (Lat.new hp) (r.new hp) (.tup upd_same (RepL.mono (List.prefix_refl _) (Per.new hp) _ _ q))⟩
    · exact P.elim
theorem fresh_new {φ : List Addr} {H : Hp} {h : Hm} (r : HR X.K φ H h) {p : Addr} (hp : H p = none) {ds : List D} {vs : List V} (q : RepL X.K φ H ds vs) : Fresh X.K H φ (upd H p (.lst vs)) ds (.ref p) :=
  ⟨p, vs, rfl, hp, r.notin hp, upd_same, RepL.mono (List.prefix_refl _) (Per.new hp) _ _ q⟩
theorem l_lst (h : SA X cl W es fa) : SL X cl W (.List es pos) (lLst fa) := PE.of (pe_lst h) fun σ H Q p =>
  seq1 (k := fun xs h1 => if xs.length ≤ line then Rs.ok xs h1 else .bad) p fun φ H1 h1 xs vs r q P => by
    split at P
    · rename_i hz
      exact ⟨by rw [← q.length, ← line_eq]; exact hz, fun p hp => P φ _ _ (Lat.new hp) (r.new hp) (fresh_new r hp q)⟩
    · exact P.elim
end
end Y
end

section
set_option Elab.async false
set_option linter.all false
set_option maxRecDepth 100000
set_option maxHeartbeats 2000000
/-! YF: places, built-in calls, targets, loops, comprehensions, statements. -/
namespace Y
open PySem PySem.Spec PyProof.Rows L2

section
variable {X : Cx} {cl : Cl} {W : WX} {e a b c : Expr} {es : List Expr} {f g q : Ev} {fa : Av} {t t' : Tv} {pos : Pos} {k : Nat}
/-! ### x[y] -/
theorem RepL.atI {K : PySem.W.Frag} {φ : List Addr} {H : Hp} {ds : List D} {vs : List V} {i : Int} {d : D} (r : RepL K φ H ds vs) (e : atI ds i = some d) : ∃ v, L2.atI vs i = some v ∧ Rep K φ H d v := by
  unfold L2.atI at e ⊢
  rw [r.length] at e
  cases h : ixN vs.length i with
  | none => rw [h] at e; cases e
  | some j =>
    rw [h] at e
    obtain ⟨v, h1, h2⟩ := r.get (i := j) (by simpa using e)
    exact ⟨v, by simpa using h1, h2⟩
def rD : R2 := fun x y H Q => ∃ a v, x = .ref a ∧ DGet H a y (some v) ∧ Q v H
theorem ix_dict (hu : X.A.units + 1 < cLine) : IxR X rD := fun value slice pins s σ H x y v u Q I rx ry h hs => by
  obtain ⟨a, w, rfl, g, q⟩ := h
  cases rx
  exact tail_any (dict_typeIs I g) PySem.F.slot_dict_getitem.lookup (d_getItem hu I g ry fun w' s' I' r' => ⟨w, H, I', r', q⟩) hs
theorem key_of_rep {K : PySem.W.Frag} {φ : List Addr} {H : Hp} {y : D} {u : V} {k : Key} (r : Rep K φ H y u) (e : keyOf y = some k) : u = kV k := by
  cases r <;> simp [keyOf] at e <;> subst e <;> rfl
def rI (K : PySem.W.Frag) : R2 := fun x y H Q => rIx K x y H Q ∨ rD x y H Q
theorem ix_all (hu : X.A.units + 1 < cLine) : IxR X (rI X.K) := ix_seq.or (ix_dict hu)
theorem ixD_sound {φ : List Addr} {H : Hp} {h : Hm} {x y z : D} {v u : V} (R : HR X.K φ H h) (rx : Rep X.K φ H x v) (ry : Rep X.K φ H y u) (e : ixD h x y = some z) {Q : VK} (q : ∀ w, Rep X.K φ H z w → Q w H) : rIx X.K v u H Q := by
  have seqs : ∀ xs i, lstOf h x = some xs → y = .int i → atI xs i = some z → rIx X.K v u H Q := by
    intro xs i e1 e2 e3
    subst e2
    cases ry
    obtain ⟨a, vs, rfl, hq, r⟩ := lst_at R rx e1
    obtain ⟨w, h1, h2⟩ := r.atI e3
    exact .inl ⟨a, vs, i, w, rfl, rfl, hq, h1, q w h2⟩
  cases y <;> simp only [ixD] at e <;> try (cases x <;> cases e; done)
  rename_i i
  cases x <;> simp only [ixD, seqOf] at e
  case str x =>
    cases rx; cases ry
    split at e
    · rename_i hx
      obtain ⟨c, hc, rfl⟩ := Option.map_eq_some_iff.mp e
      exact .inr (.inr ⟨x, i, c, rfl, rfl, by rw [← line_eq]; exact hx, hc, q _ (.str _)⟩)
    · cases e
  case tup xs =>
    cases ry
    cases rx with
    | tup hq r =>
      obtain ⟨w, h1, h2⟩ := r.atI (by simpa using e)
      exact .inr (.inl ⟨_, _, i, w, rfl, rfl, SqT.of hq, h1, q w h2⟩)
  all_goals (obtain ⟨xs, e1, e2⟩ := Option.bind_eq_some_iff.mp e; exact seqs xs i e1 rfl e2)
theorem s_ix (c0 : Cs k X) (ha : SE X cl W a f) (hb : SE X cl W b g) (hs : PlainIx b) : SE X cl W (.Subscript a b pos) (e2 oIx f g) := PE.of (pe_ix (ix_all c0.hu) ha hb hs) fun σ H Q p =>
  seq2 p fun φ H2 h2 x y v u R rx ry P => by
    cases e : oIx h2 x y with
    | none => rw [e] at P; exact P.elim
    | some z =>
      rw [e] at P
      have q : ∀ w, Rep X.K φ H2 z w → Q w H2 := fun w hw => P.val R hw
      unfold oIx at e
      cases e1 : dctOf h2 x with
      | none =>
        rw [e1] at e
        exact .inl (ixD_sound R rx ry e q)
      | some kvs =>
        rw [e1] at e
        simp only [oDget, e1] at e
        cases e2 : keyOf y with
        | none => rw [e2] at e; cases e
        | some ky =>
          rw [e2] at e
          have e3 := key_of_rep ry e2
          subst e3
          cases rx <;> simp only [dctOf] at e1 <;> try (cases e1; done)
          rename_i n ad hk
          obtain ⟨ob, h3, h4⟩ := R.at hk
          rw [h3] at e1
          cases ob <;> simp at e1
          subst e1
          cases h4 with
          | dct hh rr =>
            rcases rr.get ky with ⟨z1, _⟩ | ⟨dd, w, z1, z2, z3⟩
            · have e' : (none : Option D) = some z := by rw [← z1]; exact e
              cases e'
            · have e' : some dd = some z := by rw [← z1]; exact e
              cases e'
              refine .inr ⟨ad, w, rfl, ?_, q w z3⟩
              rw [← z2]
              exact .k hh

/-! ### isinstance -/
def tyName : Ty → String
  | .int => "int" | .bool => "bool" | .tuple => "tuple" | .list => "list" | .str => "str" | .dict => "dict"
theorem kits (T : Ty) : kitB "NoneType" (tyName T) = some false ∧ kitB "bool" (tyName T) = some (match T with | .int => true | .bool => true | _ => false) ∧ kitB "int" (tyName T) = some (match T with | .int => true | _ => false) ∧
    kitB "str" (tyName T) = some (match T with | .str => true | _ => false) ∧ kitB "tuple" (tyName T) = some (match T with | .tuple => true | _ => false) ∧ kitB "list" (tyName T) = some (match T with | .list => true | _ => false) ∧ kitB "dict" (tyName T) = some (match T with | .dict => true | _ => false) := by
  cases T <;> decide +kernel
theorem inst_sound {φ : List Addr} {H : Hp} {h : Hm} {x : D} {v : V} {T : Ty} {r : Bool} (R : HR X.K φ H h) (rx : Rep X.K φ H x v) (e : instD h T x = some r) : ∃ t, TyX X.K H v t ∧ PySem.W.kitOne X.K t (.type (tyName T)) = some r := by
  obtain ⟨k1, k2, k3, k4, k5, k6, k7⟩ := kits T
  have tupK : ∀ {a : Addr} {vs : List V}, SqT X.K H a vs → TyX X.K H (.ref a) (.type "tuple") := fun hq => by
    rcases hq with (h | ⟨o, h⟩) | ⟨o, its, n, hk, hc, _⟩
    · exact .base (.tup h)
    · exact .fTuple h
    · exact .kTuple hk hc
  have lstK : ∀ {a : Addr} {vs : List V}, SqL X.K H a vs → TyX X.K H (.ref a) (.type "list") := fun hq => by
    rcases hq with (h | ⟨o, h⟩) | ⟨o, its, n, hk, hc, _⟩
    · exact .base (.lst h)
    · exact .base (.frz h)
    · exact .kList hk hc
  cases rx with
  | non => refine ⟨_, .base .non, kit_ty ?_⟩; rw [k1]; cases T <;> simpa [instD] using e
  | bl b => refine ⟨_, .base (.bl b), kit_ty ?_⟩; rw [k2]; cases T <;> simpa [instD] using e
  | int b => refine ⟨_, .base (.int b), kit_ty ?_⟩; rw [k3]; cases T <;> simpa [instD] using e
  | str b => refine ⟨_, .base (.str b), kit_ty ?_⟩; rw [k4]; cases T <;> simpa [instD] using e
  | tup hq _ => refine ⟨_, tupK (SqT.of hq), kit_ty ?_⟩; rw [k5]; cases T <;> simpa [instD] using e
  | fl hq _ => refine ⟨_, lstK (.inl (.inr ⟨_, hq⟩)), kit_ty ?_⟩; rw [k6]; cases T <;> simpa [instD] using e
  | sq hq _ => refine ⟨_, lstK hq.sq, kit_ty ?_⟩; rw [k6]; cases T <;> simpa [instD] using e
  | obj _ _ _ _ _ => cases T <;> simp [instD] at e
  | exo => cases T <;> simp [instD] at e
  | gfn => cases T <;> simp [instD] at e
  | loc hk =>
    obtain ⟨ob, h1, h2⟩ := R.at hk
    cases h2 with
    | lst hh _ => refine ⟨_, .base (.lst hh), kit_ty ?_⟩; rw [k6]; cases T <;> simpa [instD, h1] using e
    | dct hh _ => refine ⟨_, .base (.dK hh), kit_ty ?_⟩; rw [k7]; cases T <;> simpa [instD, h1] using e
    | dtu hh _ => refine ⟨_, .base (.dT hh), kit_ty ?_⟩; rw [k7]; cases T <;> simpa [instD, h1] using e
theorem s_isi {p1 p2 : Pos} (T : Ty) (ha : SE X cl W a f) (hg : Gl X "isinstance" := by rfl) (hm : X.mg "isinstance" = none) (hg2 : Gl X (Str.ofString (tyName T)) := by rfl) (hm2 : X.mg (Str.ofString (tyName T)) = none)
    (hb : bootBuiltins (Str.ofString (tyName T)) = some (.type (tyName T))) (hn : Str.ofString (tyName T) ≠ "__name__") (hd : (Str.ofString (tyName T) == ("__debug__" : Str)) = false)
    (he : starEach [a, .Name (Str.ofString (tyName T)) p2] X.env = (false, eval a X.env) :: starEach [.Name (Str.ofString (tyName T)) p2] X.env := by rfl)
    (he2 : starEach [.Name (Str.ofString (tyName T)) p2] X.env = (false, eval (.Name (Str.ofString (tyName T)) p2) X.env) :: starEach [] X.env := by rfl)
    (hpl : (backTo pos (starEach [.Name (Str.ofString (tyName T)) p2] X.env)).any (·.1) = false := by rfl) :
    SE X cl W (.Call (.Name "isinstance" p1) [a, .Name (Str.ofString (tyName T)) p2] [] pos) (eIs T f) := by
  refine PE.of (pe_callB call_isi hg hm (by decide +kernel) (pa_cons ha (pa_cons (pe_bltn (v := .ty (tyName T)) hg2 hm2 hb rfl hn hd) pa_nil he2) he) (by decide) (by decide) he hpl) fun σ H Q p => ?_
  refine seq1 (k := fun x h1 => ofO ((instD h1 T x).map D.bl) h1) p fun φ H1 h1 x v R rx P => ?_
  cases e : instD h1 T x with
  | none => rw [e] at P; exact P.elim
  | some r =>
    rw [e] at P
    obtain ⟨t, h2, h3⟩ := inst_sound R rx e
    exact ⟨v, .ty (tyName T), t, .type (tyName T), r, rfl, .ty _, h2, h3, P.val R (.bl r)⟩

/-! ### built-in functions, by values -/
def rC (K : PySem.W.Frag) {β : Type} (o : Hm → List D → Option β) (Rel : RT β V) : List V → Hp → VK → Prop := fun vs H Q => ∃ (cl : Cl) (We : WE') (φ : List Addr) (h : Hm) (xs : List D), HR K φ H h ∧ RepL K φ H xs vs ∧ Post K cl φ H Rel (ofO (o h xs) h) Q We
/-- a built-in's meaning -/
def CaY (X : Cx) (F : Value) (o : Hm → List D → Option D) : Prop := CallR X F (rC X.K o (RR X.K))
def CaL (X : Cx) (F : Value) (o : Hm → List D → Option (List D)) : Prop := CallR X F (rC X.K o (Fresh X.K))
theorem caY {F : Value} {o : Hm → List D → Option D} (h : ∀ (Q : VK) (φ : List Addr) (H : Hp) (h : Hm) (xs : List D) (vs : List V) (z : D), HR X.K φ H h → RepL X.K φ H xs vs → o h xs = some z →
    (∀ φ' H' w, Lat φ H φ' H' → HR X.K φ' H' h → Rep X.K φ' H' z w → Q w H') → ∃ r, CallR X F r ∧ r vs H Q) : CaY X F o := fun pins s σ H vs us Q I r ⟨cl, We, φ, hh, xs, R, q, P⟩ => by
  cases e : o hh xs with
  | none => rw [e] at P; exact P.elim
  | some z =>
    rw [e] at P
    obtain ⟨r', h1, h2⟩ := h Q φ H hh xs vs z R q e P
    exact h1 pins s σ H vs us Q I r h2
theorem caL {F : Value} {o : Hm → List D → Option (List D)} (h : ∀ (Q : VK) (φ : List Addr) (H : Hp) (h : Hm) (xs : List D) (vs : List V) (z : List D), HR X.K φ H h → RepL X.K φ H xs vs → o h xs = some z →
    (∀ φ' H' w, Lat φ H φ' H' → HR X.K φ' H' h → Fresh X.K H φ' H' z w → Q w H') → ∃ r, CallR X F r ∧ r vs H Q) : CaL X F o := fun pins s σ H vs us Q I r ⟨cl, We, φ, hh, xs, R, q, P⟩ => by
  cases e : o hh xs with
  | none => rw [e] at P; exact P.elim
  | some z =>
    rw [e] at P
    obtain ⟨r', h1, h2⟩ := h Q φ H hh xs vs z R q e P
    exact h1 pins s σ H vs us Q I r h2
theorem RepL.one {φ : List Addr} {H : Hp} {K : PySem.W.Frag} {d : D} {vs : List V} (r : RepL K φ H [d] vs) : ∃ v, vs = [v] ∧ Rep K φ H d v := by
  cases r with
  | cons h r => cases r; exact ⟨_, rfl, h⟩
theorem seq_at {φ : List Addr} {H : Hp} {h : Hm} (R : HR X.K φ H h) {x : D} {v : V} (rx : Rep X.K φ H x v) {xs : List D} (e : seqOf h x = some xs) : ∃ a vs, v = .ref a ∧ (SqL X.K H a vs ∨ SqT X.K H a vs) ∧ RepL X.K φ H xs vs := by
  cases rx
  case tup a ds vs hq r => simp [seqOf] at e; subst e; exact ⟨a, vs, rfl, .inr (SqT.of hq), r⟩
  case fl a o ds vs hq r => obtain ⟨a, vs, e1, e2, e3⟩ := lst_at R (.fl hq r) e; exact ⟨a, vs, e1, .inl e2, e3⟩
  case sq a ds vs hq r => obtain ⟨a, vs, e1, e2, e3⟩ := lst_at R (.sq hq r) e; exact ⟨a, vs, e1, .inl e2, e3⟩
  case loc k a hk => obtain ⟨a, vs, e1, e2, e3⟩ := lst_at R (.loc hk) e; exact ⟨a, vs, e1, .inl e2, e3⟩
  all_goals (simp [seqOf, lstOf] at e)
theorem c_len : CaY X (.builtin "len") bLen := caY fun Q φ H h xs vs z R r e q => by
  rcases xs with _ | ⟨d, _ | _⟩
  · simp [bLen] at e
  · obtain ⟨v, rfl, rd⟩ := r.one
    have gen : (seqOf h d).map (fun xs => D.int xs.length) = some z → ∃ r, CallR X (.builtin "len") r ∧ r [v] H Q := fun e => by
      obtain ⟨ys, e1, rfl⟩ := Option.map_eq_some_iff.mp e
      obtain ⟨a, us, rfl, hq, rr⟩ := seq_at R rd e1
      refine ⟨_, call_len_seq, a, us, rfl, hq, ?_⟩
      rw [← rr.length]
      exact q φ H _ (Lat.refl _ _) R (.int _)
    cases d
    case str x =>
      cases rd
      simp only [bLen] at e
      split at e
      · rename_i hx
        cases e
        exact ⟨_, call_len_str, x, rfl, by rw [← line_eq]; exact hx, q φ H _ (Lat.refl _ _) R (.int _)⟩
      · cases e
    all_goals exact gen e
  · simp [bLen] at e
theorem c_int : CaY X (.type "int") bInt := caY fun Q φ H h xs vs z R r e q => by
  rcases xs with _ | ⟨d, _ | _⟩ <;> simp only [bInt] at e <;> try (cases e; done)
  · obtain ⟨v, rfl, rd⟩ := r.one
    cases rd <;> simp only [bInt] at e <;> try (cases e; done)
    · cases e; exact ⟨_, call_int1, .inr ⟨_, rfl, q φ H _ (Lat.refl _ _) R (.int _)⟩⟩
    · cases e; exact ⟨_, call_int1, .inl ⟨_, rfl, q φ H _ (Lat.refl _ _) R (.int _)⟩⟩
theorem c_abs : CaY X (.builtin "abs") bAbs := caY fun Q φ H h xs vs z R r e q => by
  rcases xs with _ | ⟨d, _ | _⟩ <;> simp only [bAbs] at e <;> try (cases e; done)
  · obtain ⟨v, rfl, rd⟩ := r.one
    cases rd <;> simp only [bAbs] at e <;> try (cases e; done)
    cases e; exact ⟨_, call_abs, _, rfl, q φ H _ (Lat.refl _ _) R (.int _)⟩
theorem c_all (hc : X.calm = true) : CaY X (.builtin "all") bAll := caY fun Q φ H h xs vs z R r e q => by
  rcases xs with _ | ⟨d, _ | _⟩ <;> simp only [bAll] at e <;> try (cases e; done)
  obtain ⟨v, rfl, rd⟩ := r.one
  cases e1 : (lstOf h d).bind bools with
  | none => rw [e1] at e; cases e
  | some bs =>
    rw [e1] at e
    cases e
    obtain ⟨ys, e2, e3⟩ := Option.bind_eq_some_iff.mp e1
    obtain ⟨a, us, rfl, hq, rr⟩ := lst_at R rd e2
    rw [rr.bools e3] at hq
    exact ⟨_, cr_all hc, a, bs, rfl, hq, q φ H _ (Lat.refl _ _) R (.bl _)⟩
theorem c_any (hc : X.calm = true) : CaY X (.builtin "any") bAny := caY fun Q φ H h xs vs z R r e q => by
  rcases xs with _ | ⟨d, _ | _⟩ <;> simp only [bAny] at e <;> try (cases e; done)
  obtain ⟨v, rfl, rd⟩ := r.one
  cases e1 : (lstOf h d).bind bools with
  | none => rw [e1] at e; cases e
  | some bs =>
    rw [e1] at e
    cases e
    obtain ⟨ys, e2, e3⟩ := Option.bind_eq_some_iff.mp e1
    obtain ⟨a, us, rfl, hq, rr⟩ := lst_at R rd e2
    rw [rr.bools e3] at hq
    exact ⟨_, cr_any hc, a, bs, rfl, hq, q φ H _ (Lat.refl _ _) R (.bl _)⟩
theorem c_sum (hc : X.calm = true) : CaY X (.builtin "sum") bSum := caY fun Q φ H h xs vs z R r e q => by
  rcases xs with _ | ⟨d, _ | _⟩ <;> simp only [bSum] at e <;> try (cases e; done)
  obtain ⟨v, rfl, rd⟩ := r.one
  cases e1 : (lstOf h d).bind intsOf with
  | none => rw [e1] at e; cases e
  | some bs =>
    rw [e1] at e
    cases e
    obtain ⟨ys, e2, e3⟩ := Option.bind_eq_some_iff.mp e1
    obtain ⟨a, us, rfl, hq, rr⟩ := lst_at R rd e2
    rw [rr.intsOf e3] at hq
    exact ⟨_, cr_sum hc, a, bs, rfl, hq, q φ H _ (Lat.refl _ _) R (.int _)⟩
theorem c_list : CaL X (.type "list") mList := caL fun Q φ H h xs vs z R r e q => by
  rcases xs with _ | ⟨d, _ | _⟩ <;> simp only [mList] at e <;> try (cases e; done)
  obtain ⟨v, rfl, rd⟩ := r.one
  obtain ⟨a, us, rfl, hq, rr⟩ := seq_at R rd e
  exact ⟨_, call_list_of, a, us, rfl, hq, fun l hl => q φ _ _ (Lat.new hl) (R.new hl) (fresh_new R hl rr)⟩
theorem c_tuple : CaY X (.type "tuple") bTuple := caY fun Q φ H h xs vs z R r e q => by
  rcases xs with _ | ⟨d, _ | _⟩ <;> simp only [bTuple] at e <;> try (cases e; done)
  · obtain ⟨v, rfl, rd⟩ := r.one
    have gen : (lstOf h d).map D.tup = some z → ∃ r, CallR X (.type "tuple") r ∧ r [v] H Q := fun e => by
      obtain ⟨ys, e1, rfl⟩ := Option.map_eq_some_iff.mp e
      obtain ⟨a, us, rfl, hq, rr⟩ := lst_at R rd e1
      exact ⟨_, call_tuple_of, a, us, rfl, .inl ⟨hq, fun l hl => q φ _ _ (Lat.new hl) (R.new hl) (.tup upd_same (RepL.mono (List.prefix_refl _) (Per.new hl) _ _ rr))⟩⟩
    cases d
    case tup xs =>
      simp only [bTuple] at e
      cases e
      cases rd with
      | tup hq rr => exact ⟨_, call_tuple_of, _, _, rfl, .inr ⟨SqT.of hq, q φ H _ (Lat.refl _ _) R (.tup hq rr)⟩⟩
    all_goals exact gen e
/-- f(..), f a built-in function by its name -/
theorem s_b {x : Str} {id : String} {p : Pos} {o : Hm → List D → Option D} (hc : CaY X (.builtin id) o) (hg : Gl X x) (hm : X.mg x = none) (hv : bootBuiltins x = some (.builtin id)) (ha : SA X cl W (e :: es) fa) (hn : x ≠ "__name__" := by decide) (hdb : (x == ("__debug__" : Str)) = false := by decide)
    (he : starEach (e :: es) X.env = (false, eval e X.env) :: starEach es X.env := by rfl) (hpl : (backTo pos (starEach es X.env)).any (·.1) = false := by rfl) : SE X cl W (.Call (.Name x p) (e :: es) [] pos) (eB o fa) := PE.of (pe_callB hc hg hm hv ha hn hdb he hpl) fun σ H Q p =>
  seq1 (k := fun xs h1 => ofO (o h1 xs) h1) p fun φ H1 h1 xs vs R r P => ⟨cl, fun c d H' => W c d σ H', φ, h1, xs, R, r, P⟩
theorem s_bT {x : Str} {id : String} {p : Pos} {o : Hm → List D → Option D} (hc : CaY X (.type id) o) (hg : Gl X x) (hm : X.mg x = none) (hv : bootBuiltins x = some (.type id)) (ha : SA X cl W (e :: es) fa) (hn : x ≠ "__name__" := by decide) (hdb : (x == ("__debug__" : Str)) = false := by decide)
    (he : starEach (e :: es) X.env = (false, eval e X.env) :: starEach es X.env := by rfl) (hpl : (backTo pos (starEach es X.env)).any (·.1) = false := by rfl) : SE X cl W (.Call (.Name x p) (e :: es) [] pos) (eB o fa) := PE.of (pe_callTy hc hg hm hv ha hn hdb he hpl) fun σ H Q p =>
  seq1 (k := fun xs h1 => ofO (o h1 xs) h1) p fun φ H1 h1 xs vs R r P => ⟨cl, fun c d H' => W c d σ H', φ, h1, xs, R, r, P⟩
theorem l_bT {x : Str} {id : String} {p : Pos} {o : Hm → List D → Option (List D)} (hc : CaL X (.type id) o) (hg : Gl X x) (hm : X.mg x = none) (hv : bootBuiltins x = some (.type id)) (ha : SA X cl W (e :: es) fa) (hn : x ≠ "__name__" := by decide) (hdb : (x == ("__debug__" : Str)) = false := by decide)
    (he : starEach (e :: es) X.env = (false, eval e X.env) :: starEach es X.env := by rfl) (hpl : (backTo pos (starEach es X.env)).any (·.1) = false := by rfl) : SL X cl W (.Call (.Name x p) (e :: es) [] pos) (lB o fa) := PE.of (pe_callTy hc hg hm hv ha hn hdb he hpl) fun σ H Q p =>
  seq1 (k := fun xs h1 => ofO (o h1 xs) h1) p fun φ H1 h1 xs vs R r P => ⟨cl, fun c d H' => W c d σ H', φ, h1, xs, R, r, P⟩
theorem l_b {x : Str} {id : String} {p : Pos} {o : Hm → List D → Option (List D)} (hc : CaL X (.builtin id) o) (hg : Gl X x) (hm : X.mg x = none) (hv : bootBuiltins x = some (.builtin id)) (ha : SA X cl W (e :: es) fa) (hn : x ≠ "__name__" := by decide) (hdb : (x == ("__debug__" : Str)) = false := by decide)
    (he : starEach (e :: es) X.env = (false, eval e X.env) :: starEach es X.env := by rfl) (hpl : (backTo pos (starEach es X.env)).any (·.1) = false := by rfl) : SL X cl W (.Call (.Name x p) (e :: es) [] pos) (lB o fa) := PE.of (pe_callB hc hg hm hv ha hn hdb he hpl) fun σ H Q p =>
  seq1 (k := fun xs h1 => ofO (o h1 xs) h1) p fun φ H1 h1 xs vs R r P => ⟨cl, fun c d H' => W c d σ H', φ, h1, xs, R, r, P⟩
end
end Y
end

section
set_option Elab.async false
set_option linter.all false
set_option maxRecDepth 100000
set_option maxHeartbeats 2000000
/-! YG: targets, loops, comprehensions, statements. -/
namespace Y
open PySem PySem.Spec PyProof.Rows L2

/-! ### targets -/
/-- all but the slots at is stand -/
def Chg (is : List Nat) (σ τ : L2.St) : Prop := τ.length = σ.length ∧ ∀ j, j ∉ is → τ[j]? = σ[j]?
theorem Chg.trans {is js : List Nat} {σ τ υ : L2.St} (a : Chg is σ τ) (b : Chg js τ υ) : Chg (is ++ js) σ υ :=
  ⟨b.1.trans a.1, fun j n => by rw [List.mem_append, not_or] at n; rw [b.2 j n.2, a.2 j n.1]⟩
theorem Chg.set {i : Nat} {o : Option V} (σ : L2.St) : Chg [i] σ (σ.set i o) := ⟨by simp, fun j n => by rw [List.getElem?_set_ne (fun e => n (by simp [e]))]⟩
theorem wipe_get (σ : L2.St) : ∀ (vs : List Nat) (j : Nat), j ∉ vs → (wipe σ vs)[j]? = σ[j]?
  | [], _, _ => rfl
  | v :: vs, j, n => by
    rw [List.mem_cons, not_or] at n
    show ((wipe σ vs).set v none)[j]? = _
    rw [List.getElem?_set_ne (Ne.symm n.1), wipe_get σ vs j n.2]
theorem wipe_in (σ : L2.St) : ∀ (vs : List Nat) (j : Nat), j ∈ vs → j < σ.length → (wipe σ vs)[j]? = some none
  | [], _, m, _ => by cases m
  | v :: vs, j, m, l => by
    show ((wipe σ vs).set v none)[j]? = _
    by_cases e : j = v
    · subst e
      rw [List.getElem?_set_self (by rw [wipe_length]; exact l)]
    · rw [List.getElem?_set_ne (Ne.symm e)]
      exact wipe_in σ vs j ((List.mem_cons.mp m).resolve_left e) l
theorem Chg.wipe {is vs : List Nat} {σ τ : L2.St} (c : Chg is σ τ) (h : ∀ i ∈ is, i ∈ vs) : wipe τ vs = L2.wipe σ vs := by
  apply List.ext_getElem?
  intro j
  by_cases m : j ∈ vs
  · by_cases l : j < σ.length
    · rw [wipe_in τ vs j m (by rw [c.1]; exact l), wipe_in σ vs j m l]
    · rw [List.getElem?_eq_none (by rw [wipe_length, c.1]; omega), List.getElem?_eq_none (by rw [wipe_length]; omega)]
  · rw [wipe_get τ vs j m, wipe_get σ vs j m]
    exact c.2 j fun i => m (h j i)
theorem wipe_wipe (σ : L2.St) (vs : List Nat) : wipe (wipe σ vs) vs = wipe σ vs := Chg.wipe (is := vs) ⟨wipe_length σ vs, fun j n => wipe_get σ vs j n⟩ fun _ h => h
def tGv (K : PySem.W.Frag) (cl : Cl) (g : Gv) (is : List Nat) : TG := fun v σ H Q => ∃ φ st d st1, SR K cl φ H st σ ∧ Rep K φ H d v ∧ g d st = some st1 ∧ ∀ τ, SR K cl φ H st1 τ → Chg is σ τ → Q τ H
def tGvs (K : PySem.W.Frag) (cl : Cl) (gs : List Gv) (is : List Nat) : TGs := fun vs σ H Q => ∃ φ st ds st1, SR K cl φ H st σ ∧ RepL K φ H ds vs ∧ gTs gs ds st = some st1 ∧ ∀ τ, SR K cl φ H st1 τ → Chg is σ τ → Q τ H
abbrev SG (X : Cx) (cl : Cl) (e : Expr) (g : Gv) (is : List Nat) : Prop := PG X e (tGv X.K cl g is)
theorem PG.of {X : Cx} {e : Expr} {t t' : TG} (h : PG X e t) (i : ∀ v σ H Q, t' v σ H Q → t v σ H Q) : PG X e t' := ⟨fun pins s σ H v u Q I r q => h.run pins s σ H v u Q I r (i v σ H Q q)⟩
theorem PGs.of {X : Cx} {e : List Expr} {t t' : TGs} (h : PGs X e t) (i : ∀ v σ H Q, t' v σ H Q → t v σ H Q) : PGs X e t' := ⟨fun pins s σ H v u Q I r q => h.run pins s σ H v u Q I r (i v σ H Q q)⟩
section
variable {X : Cx} {pos : Pos}
theorem g_n (i : Nat) {x : Str} (hN : X.N.Nodup) (hi : X.N[i]? = some x := by rfl) (hx : Loc X.env.scope x := by first | exact Or.inl rfl | exact Or.inr rfl) (hf : X.fn x = true ∨ X.env.scope.names.lookup x = some .local := by first | exact .inl rfl | exact .inr rfl | assumption) : SG X cl (.Name x pos) (gN i) [i] :=
  PG.of (pg_name hN hi hx hf) fun v σ H Q ⟨φ, st, d, st1, S, r, e, q⟩ => by
    simp only [gN, Option.some.injEq] at e
    subst e
    exact q _ (S.set i r) (Chg.set σ)
theorem gs_nil : PGs X [] (tGvs X.K cl [] []) := PGs.of pgs_nil fun vs σ H Q ⟨φ, st, ds, st1, S, r, e, q⟩ => by
  cases r with
  | nil =>
    simp only [gTs, Option.some.injEq] at e
    subst e
    exact ⟨rfl, q σ S ⟨rfl, fun _ _ => rfl⟩⟩
  | cons _ _ => simp [gTs] at e
theorem gs_cons {e : Expr} {es : List Expr} {g : Gv} {gs : List Gv} {is js : List Nat} (h1 : SG X cl e g is) (h2 : PGs X es (tGvs X.K cl gs js)) (hs : (assignEach (e :: es) X.env).map (·.2) = assign e X.env :: (assignEach es X.env).map (·.2) := by rfl) :
    PGs X (e :: es) (tGvs X.K cl (g :: gs) (is ++ js)) := PGs.of (pgs_cons h1 h2 hs) fun vs σ H Q ⟨φ, st, ds, st1, S, r, e, q⟩ => by
  cases r with
  | nil => simp [gTs] at e
  | @cons d v ds vs r1 r2 =>
    obtain ⟨st2, e1, e2⟩ := Option.bind_eq_some_iff.mp (show (g d st).bind (gTs gs ds) = some st1 from e)
    exact ⟨v, vs, rfl, φ, st, d, st2, S, r1, e1, fun τ S2 c2 => ⟨φ, st2, ds, st1, S2, r2, e2, fun υ S3 c3 => q υ S3 (c2.trans c3)⟩⟩
theorem gTs_len : ∀ {gs : List Gv} {ds : List D} {st st1 : Sl}, gTs gs ds st = some st1 → ds.length = gs.length
  | [], [], _, _, _ => rfl
  | [], _ :: _, _, _, h => by simp [gTs] at h
  | _ :: _, [], _, _, h => by simp [gTs] at h
  | g :: gs, d :: ds, st, st1, h => by
    obtain ⟨st2, _, e2⟩ := Option.bind_eq_some_iff.mp (show (g d st).bind (gTs gs ds) = some st1 from h)
    simp [gTs_len e2]
theorem g_tup {es : List Expr} {n : Nat} {gs : List Gv} {is : List Nat} (hc : X.calm = true) (h : PGs X es (tGvs X.K cl gs is)) (hn : (assignEach es X.env).length = gs.length := by rfl) (hst : (assignEach es X.env).findIdx? (·.1) = none := by rfl) :
    SG X cl (.Tuple es n pos) (gT gs) is := PG.of (pg_tup hc h hn hst) fun v σ H Q ⟨φ, st, d, st1, S, r, e, q⟩ => by
  cases r <;> simp only [gT] at e <;> try (cases e; done)
  rename_i a ds vs hq r _
  exact ⟨a, vs, rfl, SqT.of hq, by rw [← r.length]; exact gTs_len e, φ, st, ds, st1, S, r, e, q⟩
end

/-! ### what is walked -/
theorem Lat.wk {φ φ' : List Addr} {H H' : Hp} (l : Lat φ H φ' H') : Wk φ H φ' H' := ⟨l.pre, l.per⟩
theorem Wk.refl (φ : List Addr) (H : Hp) : Wk φ H φ H := ⟨List.prefix_refl _, Per.refl _⟩
theorem Wk.trans {φ1 φ2 φ3 : List Addr} {H1 H2 H3 : Hp} (a : Wk φ1 H1 φ2 H2) (b : Wk φ2 H2 φ3 H3) : Wk φ1 H1 φ3 H3 := ⟨a.pre.trans b.pre, a.per.trans b.per⟩
def Drv (K : PySem.W.Frag) (φ1 : List Addr) (H1 : Hp) (J : It) (ds : List D) : Prop := ∀ φ H h, Wk φ1 H1 φ H → HR K φ H h →
  (∀ i d, ds[i]? = some d → J.go i H ∧ ∀ x H', J.yld i H x H' → Lat φ H φ H' ∧ HR K φ H' h ∧ Rep K φ H' d x) ∧ J.stop ds.length H
def DrvG (K : PySem.W.Frag) (φ1 : List Addr) (H1 : Hp) (G : Hm → Bool) (J : It) (ds : List D) : Prop := ∀ φ H h, Wk φ1 H1 φ H → HR K φ H h → G h = true →
  (∀ i d, ds[i]? = some d → J.go i H ∧ ∀ x H', J.yld i H x H' → Lat φ H φ H' ∧ HR K φ H' h ∧ Rep K φ H' d x) ∧ J.stop ds.length H
theorem Drv.g {K : PySem.W.Frag} {φ1 : List Addr} {H1 : Hp} {G : Hm → Bool} {J : It} {ds : List D} (d : Drv K φ1 H1 J ds) : DrvG K φ1 H1 G J ds := fun φ H h l r _ => d φ H h l r
def tI2 (K : PySem.W.Frag) (cl : Cl) (W : WX) (f : Iv2) : TI := fun σ H R => ∃ φ st h, SR K cl φ H st σ ∧ HR K φ H h ∧ match f st h with
  | .ok p h' => ∀ φ' H' J, Lat φ H φ' H' → HR K φ' H' h' → DrvG K φ' H' (gd p.1 p.2) J p.2 → R J H'
  | .ex e h' => ∀ φ' H' c d, Lat φ H φ' H' → HR K φ' H' h' → ER K cl φ' H' e c d → W c d σ H'
  | .bad => False
abbrev SI2 (X : Cx) (cl : Cl) (W : WX) (tg iter : Expr) (f : Iv2) : Prop := PI X tg iter (tI2 X.K cl W f)
def tI (K : PySem.W.Frag) (cl : Cl) (W : WX) (f : Iv) : TI := fun σ H R => ∃ φ st h, SR K cl φ H st σ ∧ HR K φ H h ∧ match f st h with
  | .ok ds h' => ∀ φ' H' J, Lat φ H φ' H' → HR K φ' H' h' → Drv K φ' H' J ds → R J H'
  | .ex e h' => ∀ φ' H' c d, Lat φ H φ' H' → HR K φ' H' h' → ER K cl φ' H' e c d → W c d σ H'
  | .bad => False
abbrev SI (X : Cx) (cl : Cl) (W : WX) (tg iter : Expr) (f : Iv) : Prop := PI X tg iter (tI X.K cl W f)
theorem PI.of {X : Cx} {tg e : Expr} {t t' : TI} (h : PI X tg e t) (i : ∀ σ H Q, t' σ H Q → t σ H Q) : PI X tg e t' := ⟨fun pins s σ H R I q => h.run pins s σ H R I (i σ H R q)⟩
section
variable {X : Cx} {cl : Cl} {W : WX} {tg e a b : Expr} {f : Ev} {fa : Av} {pos : Pos}
theorem seqI {γ δ : Type} {R1 : RT γ δ} {f : Sl → Hm → Rs γ} {k : γ → Hm → Rs (List D)} {σ : L2.St} {H : Hp} {R : It → Hp → Prop} {R' : δ → Hp → Prop} (p : tI X.K cl W (fun σ h => (f σ h).bind fun x h1 => k x h1) σ H R)
    (h : ∀ φ H1 h1 x v ds h2, HR X.K φ H1 h1 → R1 H φ H1 x v → k x h1 = .ok ds h2 → (∀ J, HR X.K φ H1 h2 → Drv X.K φ H1 J ds → R J H1) → R' v H1) (hk : ∀ x h1, (∃ a h2, k x h1 = .ok a h2) ∨ k x h1 = .bad) : tG X.K cl W R1 f σ H R' := by
  obtain ⟨φ, st, h0, S, R0, P⟩ := p
  refine ⟨φ, st, h0, S, R0, ?_⟩
  cases e : f st h0 with
  | bad => simp only [e, Rs.bind] at P
  | ex _ _ => simp only [e, Rs.bind] at P; exact P
  | ok x h1 =>
    simp only [e, Rs.bind] at P
    intro φ1 H1 v l1 r1 q1
    rcases hk x h1 with ⟨ds, h2, e2⟩ | e2
    · rw [e2] at P
      exact h φ1 H1 h1 x v ds h2 r1 q1 e2 fun J r2 dv => P φ1 H1 J l1 r2 dv
    · rw [e2] at P; exact P.elim
theorem drv_tup {K : PySem.W.Frag} {φ : List Addr} {H : Hp} {p : Addr} {ds : List D} {vs : List V} (hq : SqT K H p vs) (r : RepL K φ H ds vs) : Drv K φ H (Itt K p) ds := fun φ' H' h l R => by
  have hq' := SqT.per hq l.per
  have r' := RepL.mono l.pre l.per _ _ r
  refine ⟨fun i d e => ?_, vs, hq', by rw [r'.length]; exact Nat.le_refl _⟩
  obtain ⟨v, h1, h2⟩ := r'.get e
  refine ⟨⟨vs, v, hq', h1⟩, fun x H2 y => ?_⟩
  obtain ⟨rfl, y⟩ := y
  have ev := y vs hq'
  rw [h1] at ev
  cases ev
  exact ⟨Lat.refl _ _, R, h2⟩
theorem drv_lst {K : PySem.W.Frag} {φ : List Addr} {H : Hp} {p : Addr} {ds : List D} {vs : List V} (hq : ∀ H', Per H H' → SqL K H' p vs) (r : RepL K φ H ds vs) : Drv K φ H (Itl K p) ds := fun φ' H' h l R => by
  have hq' := hq H' l.per
  have r' := RepL.mono l.pre l.per _ _ r
  refine ⟨fun i d e => ?_, vs, hq', by rw [r'.length]; exact Nat.le_refl _⟩
  obtain ⟨v, h1, h2⟩ := r'.get e
  refine ⟨⟨vs, v, hq', h1⟩, fun x H2 y => ?_⟩
  obtain ⟨rfl, y⟩ := y
  have ev := y vs hq'
  rw [h1] at ev
  cases ev
  exact ⟨Lat.refl _ _, R, h2⟩
theorem i_tup (ha : SE X cl W e f) : SI X cl W tg e (iT f) := PI.of (pi_tup ha) fun σ H R p =>
  seqI (R1 := RR X.K) (k := fun x h1 => match x with | .tup xs => .ok xs h1 | _ => .bad) p (fun φ H1 h1 x v ds h2 R1 r e q => by
    cases x <;> simp at e
    obtain ⟨rfl, rfl⟩ := e
    cases r with
    | tup hq rr => exact ⟨_, rfl, ⟨_, SqT.of hq⟩, q _ R1 (drv_tup (SqT.of hq) rr)⟩) fun x h1 => by cases x <;> simp
theorem i_lst (ha : SE X cl W e f) : SI X cl W tg e (iF f) := PI.of (pi_list ha) fun σ H R p =>
  seqI (R1 := RR X.K) (k := fun x h1 => match x with | .fl xs => .ok xs h1 | .sq xs => .ok xs h1 | _ => .bad) p (fun φ H1 h1 x v ds h2 R1 r e q => by
    cases x <;> simp at e
    · obtain ⟨rfl, rfl⟩ := e
      cases r with
      | fl hq rr => exact ⟨_, rfl, ⟨_, .inl (.inr ⟨_, hq⟩)⟩, q _ R1 (drv_lst (fun H' p => .inl (.inr ⟨_, p.frz _ _ _ hq⟩)) rr)⟩
    · obtain ⟨rfl, rfl⟩ := e
      cases r with
      | sq hq rr => exact ⟨_, rfl, ⟨_, hq.sq⟩, q _ R1 (drv_lst (fun H' p => (hq.per p).sq) rr)⟩) fun x h1 => by cases x <;> simp
theorem drv_rng {K : PySem.W.Frag} {φ : List Addr} {H : Hp} (lo : Int) (n : Nat) : Drv K φ H (Itr lo n) (rangeD lo n) := fun φ' H' h l R => by
  refine ⟨fun i d e => ?_, by show n ≤ (rangeD lo n).length; simp [rangeD]⟩
  simp only [rangeD, List.getElem?_map] at e
  have hi : i < n := by
    by_cases hi : i < n
    · exact hi
    · rw [List.getElem?_eq_none (by simp; omega)] at e; cases e
  rw [List.getElem?_range hi] at e
  simp at e
  subst e
  refine ⟨hi, fun x H2 y => ?_⟩
  obtain ⟨rfl, rfl⟩ := y
  exact ⟨Lat.refl _ _, R, .int _⟩
theorem log2_lt {n k : Nat} (h : n.log2 < k) : n < 2 ^ k := by
  by_cases e : n = 0
  · subst e; exact Nat.two_pow_pos k
  · exact (Nat.log2_lt e).mp h
theorem small_of {i : Int} (h : small i = true) : -(2 ^ 62) ≤ i ∧ i < 2 ^ 62 := by
  simp only [small, decide_eq_true_eq] at h
  have := log2_lt h
  omega
theorem i_r1 {p : Pos} (hg : Gl X "range") (hm : X.mg "range" = none) (ha : SA X cl W [a] fa) (hs : starEach [a] X.env = [(false, eval a X.env)] := by rfl) : SI X cl W tg (.Call (.Name "range" p) [a] [] pos) (iR1 fa) := PI.of (pi_range1 hg hm ha hs) fun σ H R p =>
  seqI (R1 := RL X.K) (k := fun xs h1 => match xs with | [.int j] => if small j then .ok (rangeD 0 j.toNat) h1 else .bad | _ => .bad) p (fun φ H1 h1 x v ds h2 R1 r e q => by
    split at e
    · split at e
      · rename_i j hj
        cases e
        obtain ⟨w, rfl, rw'⟩ := RepL.one r
        cases rw'
        exact ⟨j, rfl, (small_of hj).1, (small_of hj).2, q _ R1 (drv_rng 0 _)⟩
      · cases e
    · cases e) fun x h1 => by
      split
      · split <;> simp
      · simp
theorem i_r2 {p : Pos} (hg : Gl X "range") (hm : X.mg "range" = none) (ha : SA X cl W [a, b] fa) (hs : starEach [a, b] X.env = [(false, eval a X.env), (false, eval b X.env)] := by rfl) (hs2 : starEach [b] X.env = [(false, eval b X.env)] := by rfl) :
    SI X cl W tg (.Call (.Name "range" p) [a, b] [] pos) (iR2 fa) := PI.of (pi_range2 hg hm ha hs hs2) fun σ H R p =>
  seqI (R1 := RL X.K) (k := fun xs h1 => match xs with | [.int i, .int j] => if small i && small j then .ok (rangeD i (j - i).toNat) h1 else .bad | _ => .bad) p (fun φ H1 h1 x v ds h2 R1 r e q => by
    split at e
    · split at e
      · rename_i i j hj
        cases e
        rw [Bool.and_eq_true] at hj
        cases r with
        | cons r1 r2 =>
          obtain ⟨w, rfl, rw'⟩ := RepL.one r2
          cases rw'
          cases r1
          exact ⟨i, j, rfl, ⟨(small_of hj.1).1, (small_of hj.1).2, (small_of hj.2).1, (small_of hj.2).2⟩, q _ R1 (drv_rng i _)⟩
      · cases e
    · cases e) fun x h1 => by
      split
      · split <;> simp
      · simp
end

/-! ### for, while -/
section
variable {X : Cx} {cl : Cl} {W : WX} {tg iter c : Expr} {it : Iv} {it2 : Iv2} {g : Gv} {is : List Nat} {b : Sv} {t : Tv} {body : List Stmt} {pos : Pos}
theorem s_forX (hp : PassesOwn (model X.prog X.w) X.A X.env X.xe) (hc : X.calm = true) (hi : SI2 X cl W tg iter it2) (hg : SG X cl tg g is) (hb : SSs X cl W body b) (hs : ∀ x, foldedSetIterable iter X.env x = pure x := by intro _; rfl) :
    SS X cl W (.For tg iter body [] pos) (sForX it2 g b) := PS.of (ps_for hp hc hi hg hb hs) fun D σ H p => by
  obtain ⟨φ, st, h0, S, R0, P⟩ := p
  refine ⟨φ, st, h0, S, R0, ?_⟩
  unfold sForX at P
  cases e : it2 st h0 with
  | bad => simp only [e, Rs.out] at P; exact P
  | ex ex1 h1 =>
    simp only [e, Rs.out] at P
    intro φ' H' c d l r er
    exact P φ' H' c d σ l r (S.mono l) er
  | ok p h1 =>
    obtain ⟨src, ds⟩ := p
    simp only [e, Rs.out] at P
    intro φ1 H1 J l1 r1 dv
    dsimp only at dv
    generalize gd src ds = G at *
    refine ⟨fun i m σ2 H2 => m = ds.length - i ∧ i ≤ ds.length ∧ ∃ φ2 st2 h2, Lat φ1 H1 φ2 H2 ∧ SR X.K cl φ2 H2 st2 σ2 ∧ HR X.K φ2 H2 h2 ∧ PostS X.K cl φ2 H2 (forG G g b (ds.drop i) st2 h2) D W,
      ⟨_, rfl, Nat.zero_le _, φ1, st, h1, Lat.refl _ _, S.mono l1, r1, P.lat l1⟩, ?_⟩
    rintro i m σ2 H2 ⟨rfl, hi, φ2, st2, h2, l2, S2, r2, P2⟩
    by_cases lt : i < ds.length
    · rw [List.drop_eq_getElem_cons lt] at P2
      simp only [forG] at P2
      by_cases hG : G h2 = true
      case neg => rw [if_neg hG] at P2; exact P2.elim
      rw [if_pos hG] at P2
      obtain ⟨d1, d2⟩ := dv φ2 H2 h2 l2.wk r2 hG
      obtain ⟨go, yl⟩ := d1 i ds[i] (List.getElem?_eq_getElem lt)
      refine .inr ⟨go, fun σ' H' => ∃ φ3 st3 h3, Lat φ1 H1 φ3 H' ∧ SR X.K cl φ3 H' st3 σ' ∧ HR X.K φ3 H' h3 ∧ PostS X.K cl φ3 H' (forG G g b (ds.drop (i + 1)) st3 h3) D W, fun σ' H' n => ⟨ds.length - (i + 1), by omega, rfl, lt, n⟩, fun x H3 y => ?_⟩
      obtain ⟨l3, r3, rx⟩ := yl x H3 y
      cases e2 : g ds[i] st2 with
      | none => rw [e2] at P2; exact P2.elim
      | some st3 =>
        rw [e2] at P2
        refine ⟨φ2, st2, ds[i], st3, S2.mono l3, rx, e2, fun τ S3 _ => ⟨φ2, st3, h2, S3, r3, ?_⟩⟩
        have P3 := P2.lat l3
        have L := l2.trans l3
        simp only at P3
        cases e3 : b st3 h2 with
        | nx σ4 h4 =>
          simp only [e3] at P3
          exact fun φ' H' τ' l r s => ⟨φ', σ4, h4, L.trans l, s, r, P3.lat l⟩
        | ct σ4 h4 =>
          simp only [e3] at P3
          exact fun φ' H' τ' l r s => ⟨φ', σ4, h4, L.trans l, s, r, P3.lat l⟩
        | bk σ4 h4 => simp only [e3] at P3; exact P3
        | rt d h4 => simp only [e3] at P3; exact P3
        | rl d h4 => simp only [e3] at P3; exact P3
        | ex d σ4 h4 => simp only [e3] at P3; exact P3
        | bad => simp only [e3] at P3; exact P3
    · have ei : i = ds.length := by omega
      subst ei
      rw [List.drop_length] at P2
      simp only [forG] at P2
      by_cases hG : G h2 = true
      case neg => rw [if_neg hG] at P2; exact P2.elim
      rw [if_pos hG] at P2
      obtain ⟨d1, d2⟩ := dv φ2 H2 h2 l2.wk r2 hG
      exact .inl ⟨d2, P2 φ2 H2 σ2 (Lat.refl _ _) r2 S2⟩
theorem s_for (hp : PassesOwn (model X.prog X.w) X.A X.env X.xe) (hc : X.calm = true) (hi : SI X cl W tg iter it) (hg : SG X cl tg g is) (hb : SSs X cl W body b) (hs : ∀ x, foldedSetIterable iter X.env x = pure x := by intro _; rfl) :
    SS X cl W (.For tg iter body [] pos) (sFor it g b) := PS.of (ps_for hp hc hi hg hb hs) fun D σ H p => by
  obtain ⟨φ, st, h0, S, R0, P⟩ := p
  refine ⟨φ, st, h0, S, R0, ?_⟩
  unfold sFor at P
  cases e : it st h0 with
  | bad => simp only [e, Rs.out] at P; exact P
  | ex ex1 h1 =>
    simp only [e, Rs.out] at P
    intro φ' H' c d l r er
    exact P φ' H' c d σ l r (S.mono l) er
  | ok ds h1 =>
    simp only [e, Rs.out] at P
    intro φ1 H1 J l1 r1 dv
    refine ⟨fun i m σ2 H2 => m = ds.length - i ∧ i ≤ ds.length ∧ ∃ φ2 st2 h2, Lat φ1 H1 φ2 H2 ∧ SR X.K cl φ2 H2 st2 σ2 ∧ HR X.K φ2 H2 h2 ∧ PostS X.K cl φ2 H2 (forL g b (ds.drop i) st2 h2) D W,
      ⟨_, rfl, Nat.zero_le _, φ1, st, h1, Lat.refl _ _, S.mono l1, r1, P.lat l1⟩, ?_⟩
    rintro i m σ2 H2 ⟨rfl, hi, φ2, st2, h2, l2, S2, r2, P2⟩
    obtain ⟨d1, d2⟩ := dv φ2 H2 h2 l2.wk r2
    by_cases lt : i < ds.length
    · obtain ⟨go, yl⟩ := d1 i ds[i] (List.getElem?_eq_getElem lt)
      refine .inr ⟨go, fun σ' H' => ∃ φ3 st3 h3, Lat φ1 H1 φ3 H' ∧ SR X.K cl φ3 H' st3 σ' ∧ HR X.K φ3 H' h3 ∧ PostS X.K cl φ3 H' (forL g b (ds.drop (i + 1)) st3 h3) D W, fun σ' H' n => ⟨ds.length - (i + 1), by omega, rfl, lt, n⟩, fun x H3 y => ?_⟩
      obtain ⟨l3, r3, rx⟩ := yl x H3 y
      rw [List.drop_eq_getElem_cons lt] at P2
      simp only [forL] at P2
      cases e2 : g ds[i] st2 with
      | none => rw [e2] at P2; exact P2.elim
      | some st3 =>
        rw [e2] at P2
        refine ⟨φ2, st2, ds[i], st3, S2.mono l3, rx, e2, fun τ S3 _ => ⟨φ2, st3, h2, S3, r3, ?_⟩⟩
        have P3 := P2.lat l3
        have L := l2.trans l3
        simp only at P3
        cases e3 : b st3 h2 with
        | nx σ4 h4 =>
          simp only [e3] at P3
          exact fun φ' H' τ' l r s => ⟨φ', σ4, h4, L.trans l, s, r, P3.lat l⟩
        | ct σ4 h4 =>
          simp only [e3] at P3
          exact fun φ' H' τ' l r s => ⟨φ', σ4, h4, L.trans l, s, r, P3.lat l⟩
        | bk σ4 h4 => simp only [e3] at P3; exact P3
        | rt d h4 => simp only [e3] at P3; exact P3
        | rl d h4 => simp only [e3] at P3; exact P3
        | ex d σ4 h4 => simp only [e3] at P3; exact P3
        | bad => simp only [e3] at P3; exact P3
    · have ei : i = ds.length := by omega
      subst ei
      rw [List.drop_length] at P2
      exact .inl ⟨d2, P2 φ2 H2 σ2 (Lat.refl _ _) r2 S2⟩
theorem s_while (hp : PassesOwn (model X.prog X.w) X.A X.env X.xe) (hc : ST X cl W c t) (hb : SSs X cl W body b) : SS X cl W (.While c body [] pos) (sWhile t b) := PS.of (ps_while hp hc hb) fun D σ H p => by
  obtain ⟨φ, st, h0, S, R0, P⟩ := p
  refine ⟨fun m σ2 H2 => ∃ φ2 st2 h2, SR X.K cl φ2 H2 st2 σ2 ∧ HR X.K φ2 H2 h2 ∧ PostS X.K cl φ2 H2 (whileL t b m st2 h2) D W, ⟨_, φ, st, h0, S, R0, P⟩, ?_⟩
  rintro m σ2 H2 ⟨φ2, st2, h2, S2, r2, P2⟩
  cases m with
  | zero => exact P2.elim
  | succ m =>
    refine ⟨φ2, st2, h2, S2, r2, ?_⟩
    simp only [whileL] at P2
    cases e : t st2 h2 with
    | bad => simp only [e] at P2; exact P2
    | ex ex1 h1 =>
      simp only [e] at P2
      intro φ' H' c d l r er
      exact P2 φ' H' c d σ2 l r (S2.mono l) er
    | ok c3 h3 =>
      simp only [e] at P2
      intro φ3 H3 c4 l3 r3 ec
      cases (show c3 = c4 from ec)
      have P3 := P2.lat l3
      cases c3 with
      | false => exact P3 φ3 H3 σ2 (Lat.refl _ _) r3 (S2.mono l3)
      | true =>
        rw [if_pos rfl]
        rw [if_pos rfl] at P3
        refine ⟨fun σ' H' => ∃ φ2 st2 h2, SR X.K cl φ2 H' st2 σ' ∧ HR X.K φ2 H' h2 ∧ PostS X.K cl φ2 H' (whileL t b m st2 h2) D W, fun σ' H' n => ⟨m, Nat.lt_succ_self _, n⟩, φ3, st2, h3, S2.mono l3, r3, ?_⟩
        cases e3 : b st2 h3 with
        | nx σ4 h4 =>
          simp only [e3] at P3
          exact fun φ' H' τ' l r s => ⟨φ', σ4, h4, s, r, P3.lat l⟩
        | ct σ4 h4 =>
          simp only [e3] at P3
          exact fun φ' H' τ' l r s => ⟨φ', σ4, h4, s, r, P3.lat l⟩
        | bk σ4 h4 => simp only [e3] at P3; exact P3
        | rt d h4 => simp only [e3] at P3; exact P3
        | rl d h4 => simp only [e3] at P3; exact P3
        | ex d σ4 h4 => simp only [e3] at P3; exact P3
        | bad => simp only [e3] at P3; exact P3
end

/-! ### comprehensions -/
abbrev W0 : WX := fun _ _ _ _ => False
abbrev STs (X : Cx) (cl : Cl) (W : WX) (es : List Expr) (f : Tv) : Prop := PTs X es (tG X.K cl W RBool f)
section
variable {X : Cx} {cl : Cl} {W : WX} {elt tg iter c : Expr} {ifs : List Expr} {it : Iv} {it2 : Iv2} {g : Gv} {is : List Nat} {t : Tv} {f : Ev} {scope : Scope} {own : List (Str × Nat)} {pos : Pos}
theorem ts_nil : STs X cl W [] tYes := ⟨fun pins s σ H Q I ⟨φ, st, h0, S, R, P⟩ => pts_nil.run pins s σ H Q I (P.val R rfl)⟩
theorem ts_one (h : ST X cl W c t) : STs X cl W [c] t := pts_one h
theorem Lat.tmp {φ0 φ : List Addr} {H0 H : Hp} {D : Addr} {u v : HO} (l : Lat φ0 H0 φ H) (n : H0 D = none) (e : H D = some u) (m : mutO u = true) : Lat φ0 H0 φ (upd H D v) :=
  ⟨l.pre, l.per.trans (Per.wr e m), fun b o q w => by unfold Stays; rw [upd_ne (ne_of_none q n)]; exact l.keepT b o q w, l.fresh⟩
theorem comp_goX (his : ∀ i ∈ is, i ∈ own.map (·.2)) (hcl : ∀ v ∈ own.map (·.2), cl v = none) {σ : L2.St} {H : Hp} {Q : VK} (p : tG X.K cl W (Fresh X.K) (lCompX it2 g t f (own.map (·.2))) σ H Q) :
    tLc (tI2 X.K cl W it2) (tGv X.K cl g is) (tG X.K cl W0 RBool t) (tG X.K cl W0 (RR X.K) f) (own.map (·.2)) σ H Q := by
  obtain ⟨φ, st, h0, S, R0, P⟩ := p
  refine ⟨φ, st, h0, S, R0, ?_⟩
  unfold lCompX at P
  cases e : it2 st h0 with
  | bad => simp only [e, Rs.bind] at P; exact P
  | ex ex1 h1 => simp only [e, Rs.bind] at P; exact P
  | ok p h1 =>
    obtain ⟨src, ds⟩ := p
    simp only [e, Rs.bind] at P
    intro φ1 H1 J l1 r1 dv D hD
    dsimp only at dv
    generalize gd src ds = G at *
    -- what comes out
    cases e1 : compG G g t f (unset st (own.map (·.2))) ds h1 with
    | bad => rw [e1] at P; exact P.elim
    | ex ex1 h2 =>
      -- nothing raises within
      exfalso
      have no : ∀ (ds : List Y.D) (h : Hm) ex1 h2, compG G g t f (unset st (own.map (·.2))) ds h ≠ .ex ex1 h2 := by
        intro ds
        induction ds with
        | nil => intro h ex1 h2 q; simp only [compG] at q; split at q <;> cases q
        | cons d ds ih =>
          intro h ex1 h2 q
          simp only [compG] at q
          split at q
          case isFalse => cases q
          split at q
          · cases q
          · rename_i σ1 _
            cases a1 : t σ1 h with
            | bad => simp [a1, Rs.bindN] at q
            | ex _ _ => simp [a1, Rs.bindN] at q
            | ok c1 h3 =>
              simp only [a1, Rs.bindN] at q
              split at q
              · cases a2 : f σ1 h3 with
                | bad => simp [a2] at q
                | ex _ _ => simp [a2] at q
                | ok y h4 =>
                  simp only [a2] at q
                  cases a3 : compG G g t f (unset st (own.map (·.2))) ds h4 <;> simp [a3] at q
              · exact ih h3 ex1 h2 q
      exact no _ _ _ _ e1
    | ok res hf =>
      rw [e1] at P
      simp only at P
      split at P
      · rename_i hlen
        have nD1 : D ∉ φ1 := r1.notin hD
        have nD0 : H D = none := l1.gone nD1 hD
        refine ⟨fun i m H2 => m = ds.length - i ∧ i ≤ ds.length ∧ ∃ φ2 h2 acc accV ys, Lat φ1 H1 φ2 H2 ∧ HR X.K φ2 H2 h2 ∧ D ∉ φ2 ∧ H2 D = some (.lst accV) ∧ RepL X.K φ2 H2 acc accV ∧ compG G g t f (unset st (own.map (·.2))) (ds.drop i) h2 = .ok ys hf ∧ acc ++ ys = res,
          ⟨_, rfl, Nat.zero_le _, φ1, h1, [], [], res, Lat.new hD, r1.new hD, nD1, upd_same, .nil, e1, rfl⟩, ?_⟩
        rintro i m H2 ⟨rfl, hi, φ2, h2, acc, accV, ys, l2, r2, nD2, eD, ra, ec, er⟩
        by_cases lt : i < ds.length
        · rw [List.drop_eq_getElem_cons lt] at ec
          simp only [compG] at ec
          by_cases hG : G h2 = true
          case neg => rw [if_neg hG] at ec; cases ec
          rw [if_pos hG] at ec
          obtain ⟨d1, d2⟩ := dv φ2 H2 h2 l2.wk r2 hG
          obtain ⟨go, yl⟩ := d1 i ds[i] (List.getElem?_eq_getElem lt)
          refine .inr ⟨go, fun H' => ∃ φ2 h2 acc accV ys, Lat φ1 H1 φ2 H' ∧ HR X.K φ2 H' h2 ∧ D ∉ φ2 ∧ H' D = some (.lst accV) ∧ RepL X.K φ2 H' acc accV ∧ compG G g t f (unset st (own.map (·.2))) (ds.drop (i + 1)) h2 = .ok ys hf ∧ acc ++ ys = res,
            fun H' n => ⟨ds.length - (i + 1), by omega, rfl, lt, n⟩, fun x H3 y => ?_⟩
          obtain ⟨l3, r3, rx⟩ := yl x H3 y
          cases e2 : g ds[i] (unset st (own.map (·.2))) with
          | none => rw [e2] at ec; cases ec
          | some st3 =>
            rw [e2] at ec
            have L3 := l2.trans l3
            have S3 : SR X.K cl φ2 H3 (unset st (own.map (·.2))) (wipe σ (own.map (·.2))) := (S.mono (l1.trans L3)).unset _ hcl
            refine ⟨φ2, _, ds[i], st3, S3, rx, e2, fun τ S4 ch => ⟨by rw [ch.wipe his, wipe_wipe], φ2, st3, h2, S4, r3, ?_⟩⟩
            simp only at ec
            cases e3 : t st3 h2 with
            | bad => simp [e3, Rs.bindN] at ec
            | ex _ _ => simp [e3, Rs.bindN] at ec
            | ok c1 h4 =>
              simp only [e3, Rs.bindN] at ec
              intro φ4 H4 c2 l4 r4 ecc
              cases (show c1 = c2 from ecc)
              have L4 := L3.trans l4
              have eD4 : H4 D = some (.lst accV) := (l3.trans l4).keep D _ eD nD2
              have nD4 : D ∉ φ4 := (l3.trans l4).out eD nD2
              have ra4 := RepL.mono (l3.trans l4).pre (l3.trans l4).per _ _ ra
              cases c1 with
              | false =>
                rw [if_neg Bool.false_ne_true]
                rw [if_neg Bool.false_ne_true] at ec
                exact ⟨φ4, h4, acc, accV, ys, L4, r4, nD4, eD4, ra4, ec, er⟩
              | true =>
                rw [if_pos rfl]
                rw [if_pos rfl] at ec
                refine ⟨φ4, st3, h4, S4.mono l4, r4, ?_⟩
                cases e5 : f st3 h4 with
                | bad => simp [e5] at ec
                | ex _ _ => simp [e5] at ec
                | ok y1 h5 =>
                  simp only [e5] at ec
                  intro φ5 H5 yv l5 r5 ry
                  cases e6 : compG G g t f (unset st (own.map (·.2))) (ds.drop (i + 1)) h5 with
                  | bad => simp [e6] at ec
                  | ex _ _ => simp [e6] at ec
                  | ok ys1 h6 =>
                    simp only [e6, Rs.ok.injEq] at ec
                    obtain ⟨ec1, ec2⟩ := ec
                    subst ec2
                    subst ec1
                    have eD5 : H5 D = some (.lst accV) := l5.keep D _ eD4 nD4
                    have ra5 := RepL.mono l5.pre l5.per _ _ ra4
                    refine ⟨accV, eD5, ?_, φ5, h5, acc ++ [y1], accV ++ [yv], ys1, Lat.tmp (L4.trans l5) hD eD5 rfl, r5.out (l5.out eD4 nD4) eD5 rfl, l5.out eD4 nD4, upd_same, ?_, e6, by simp [← er]⟩
                    · have := congrArg List.length er
                      simp at this
                      rw [← ra.length, ← line_eq]
                      omega
                    · exact RepL.mono (List.prefix_refl _) (Per.wr eD5 rfl) _ _ (ra5.append (.cons ry .nil))
        · have ei : i = ds.length := by omega
          subst ei
          rw [List.drop_length] at ec
          simp only [compG] at ec
          by_cases hG : G h2 = true
          case neg => rw [if_neg hG] at ec; cases ec
          rw [if_pos hG] at ec
          obtain ⟨d1, d2⟩ := dv φ2 H2 h2 l2.wk r2 hG
          simp only [Rs.ok.injEq] at ec
          obtain ⟨rfl, rfl⟩ := ec
          rw [List.append_nil] at er
          subst er
          exact .inl ⟨d2, P φ2 H2 _ (l1.trans l2) r2 ⟨D, accV, rfl, nD0, nD2, eD, ra⟩⟩
      · exact P.elim
theorem comp_go (his : ∀ i ∈ is, i ∈ own.map (·.2)) (hcl : ∀ v ∈ own.map (·.2), cl v = none) {σ : L2.St} {H : Hp} {Q : VK} (p : tG X.K cl W (Fresh X.K) (lComp it g t f (own.map (·.2))) σ H Q) :
    tLc (tI X.K cl W it) (tGv X.K cl g is) (tG X.K cl W0 RBool t) (tG X.K cl W0 (RR X.K) f) (own.map (·.2)) σ H Q := by
  obtain ⟨φ, st, h0, S, R0, P⟩ := p
  refine ⟨φ, st, h0, S, R0, ?_⟩
  unfold lComp at P
  cases e : it st h0 with
  | bad => simp only [e, Rs.bind] at P; exact P
  | ex ex1 h1 => simp only [e, Rs.bind] at P; exact P
  | ok ds h1 =>
    simp only [e, Rs.bind] at P
    intro φ1 H1 J l1 r1 dv D hD
    -- what comes out
    cases e1 : compL g t f (unset st (own.map (·.2))) ds h1 with
    | bad => rw [e1] at P; exact P.elim
    | ex ex1 h2 =>
      -- nothing raises within
      exfalso
      have no : ∀ (ds : List Y.D) (h : Hm) ex1 h2, compL g t f (unset st (own.map (·.2))) ds h ≠ .ex ex1 h2 := by
        intro ds
        induction ds with
        | nil => intro h ex1 h2 q; simp [compL] at q
        | cons d ds ih =>
          intro h ex1 h2 q
          simp only [compL] at q
          split at q
          · cases q
          · rename_i σ1 _
            cases a1 : t σ1 h with
            | bad => simp [a1, Rs.bindN] at q
            | ex _ _ => simp [a1, Rs.bindN] at q
            | ok c1 h3 =>
              simp only [a1, Rs.bindN] at q
              split at q
              · cases a2 : f σ1 h3 with
                | bad => simp [a2] at q
                | ex _ _ => simp [a2] at q
                | ok y h4 =>
                  simp only [a2] at q
                  cases a3 : compL g t f (unset st (own.map (·.2))) ds h4 <;> simp [a3] at q
              · exact ih h3 ex1 h2 q
      exact no _ _ _ _ e1
    | ok res hf =>
      rw [e1] at P
      simp only at P
      split at P
      · rename_i hlen
        have nD1 : D ∉ φ1 := r1.notin hD
        have nD0 : H D = none := l1.gone nD1 hD
        refine ⟨fun i m H2 => m = ds.length - i ∧ i ≤ ds.length ∧ ∃ φ2 h2 acc accV ys, Lat φ1 H1 φ2 H2 ∧ HR X.K φ2 H2 h2 ∧ D ∉ φ2 ∧ H2 D = some (.lst accV) ∧ RepL X.K φ2 H2 acc accV ∧ compL g t f (unset st (own.map (·.2))) (ds.drop i) h2 = .ok ys hf ∧ acc ++ ys = res,
          ⟨_, rfl, Nat.zero_le _, φ1, h1, [], [], res, Lat.new hD, r1.new hD, nD1, upd_same, .nil, e1, rfl⟩, ?_⟩
        rintro i m H2 ⟨rfl, hi, φ2, h2, acc, accV, ys, l2, r2, nD2, eD, ra, ec, er⟩
        obtain ⟨d1, d2⟩ := dv φ2 H2 h2 l2.wk r2
        by_cases lt : i < ds.length
        · obtain ⟨go, yl⟩ := d1 i ds[i] (List.getElem?_eq_getElem lt)
          refine .inr ⟨go, fun H' => ∃ φ2 h2 acc accV ys, Lat φ1 H1 φ2 H' ∧ HR X.K φ2 H' h2 ∧ D ∉ φ2 ∧ H' D = some (.lst accV) ∧ RepL X.K φ2 H' acc accV ∧ compL g t f (unset st (own.map (·.2))) (ds.drop (i + 1)) h2 = .ok ys hf ∧ acc ++ ys = res,
            fun H' n => ⟨ds.length - (i + 1), by omega, rfl, lt, n⟩, fun x H3 y => ?_⟩
          obtain ⟨l3, r3, rx⟩ := yl x H3 y
          rw [List.drop_eq_getElem_cons lt] at ec
          simp only [compL] at ec
          cases e2 : g ds[i] (unset st (own.map (·.2))) with
          | none => rw [e2] at ec; cases ec
          | some st3 =>
            rw [e2] at ec
            have L3 := l2.trans l3
            have S3 : SR X.K cl φ2 H3 (unset st (own.map (·.2))) (wipe σ (own.map (·.2))) := (S.mono (l1.trans L3)).unset _ hcl
            refine ⟨φ2, _, ds[i], st3, S3, rx, e2, fun τ S4 ch => ⟨by rw [ch.wipe his, wipe_wipe], φ2, st3, h2, S4, r3, ?_⟩⟩
            simp only at ec
            cases e3 : t st3 h2 with
            | bad => simp [e3, Rs.bindN] at ec
            | ex _ _ => simp [e3, Rs.bindN] at ec
            | ok c1 h4 =>
              simp only [e3, Rs.bindN] at ec
              intro φ4 H4 c2 l4 r4 ecc
              cases (show c1 = c2 from ecc)
              have L4 := L3.trans l4
              have eD4 : H4 D = some (.lst accV) := (l3.trans l4).keep D _ eD nD2
              have nD4 : D ∉ φ4 := (l3.trans l4).out eD nD2
              have ra4 := RepL.mono (l3.trans l4).pre (l3.trans l4).per _ _ ra
              cases c1 with
              | false =>
                rw [if_neg Bool.false_ne_true]
                rw [if_neg Bool.false_ne_true] at ec
                exact ⟨φ4, h4, acc, accV, ys, L4, r4, nD4, eD4, ra4, ec, er⟩
              | true =>
                rw [if_pos rfl]
                rw [if_pos rfl] at ec
                refine ⟨φ4, st3, h4, S4.mono l4, r4, ?_⟩
                cases e5 : f st3 h4 with
                | bad => simp [e5] at ec
                | ex _ _ => simp [e5] at ec
                | ok y1 h5 =>
                  simp only [e5] at ec
                  intro φ5 H5 yv l5 r5 ry
                  cases e6 : compL g t f (unset st (own.map (·.2))) (ds.drop (i + 1)) h5 with
                  | bad => simp [e6] at ec
                  | ex _ _ => simp [e6] at ec
                  | ok ys1 h6 =>
                    simp only [e6, Rs.ok.injEq] at ec
                    obtain ⟨ec1, ec2⟩ := ec
                    subst ec2
                    subst ec1
                    have eD5 : H5 D = some (.lst accV) := l5.keep D _ eD4 nD4
                    have ra5 := RepL.mono l5.pre l5.per _ _ ra4
                    refine ⟨accV, eD5, ?_, φ5, h5, acc ++ [y1], accV ++ [yv], ys1, Lat.tmp (L4.trans l5) hD eD5 rfl, r5.out (l5.out eD4 nD4) eD5 rfl, l5.out eD4 nD4, upd_same, ?_, e6, by simp [← er]⟩
                    · have := congrArg List.length er
                      simp at this
                      rw [← ra.length, ← line_eq]
                      omega
                    · exact RepL.mono (List.prefix_refl _) (Per.wr eD5 rfl) _ _ (ra5.append (.cons ry .nil))
        · have ei : i = ds.length := by omega
          subst ei
          rw [List.drop_length] at ec
          simp only [compL, Rs.ok.injEq] at ec
          obtain ⟨rfl, rfl⟩ := ec
          rw [List.append_nil] at er
          subst er
          exact .inl ⟨d2, P φ2 H2 _ (l1.trans l2) r2 ⟨D, accV, rfl, nD0, nD2, eD, ra⟩⟩
      · exact P.elim
theorem l_comp {k : Nat} (c0 : Cs k X) (hi : SI X cl W tg iter it) (ok : BlkOk X.N X.env.scope scope own) (his : ∀ i ∈ is, i ∈ own.map (·.2))
    (hg : ∀ (s : Shared) (H : Hp) (C : Addr) (cc : List (Str × Addr)) (fp : List Addr), SG (X.blk s H scope (compEnvC scope cc C X.env) fp) cl tg g is)
    (ht : ∀ (s : Shared) (H : Hp) (C : Addr) (cc : List (Str × Addr)) (fp : List Addr), STs (X.blk s H scope (compEnvC scope cc C X.env) fp) cl W0 ifs t)
    (he : ∀ (s : Shared) (H : Hp) (C : Addr) (cc : List (Str × Addr)) (fp : List Addr), SE (X.blk s H scope (compEnvC scope cc C X.env) fp) cl W0 elt f) (hs : ∀ x, foldedSetIterable iter X.env x = pure x := by intro _; rfl) (hcl : ∀ v ∈ own.map (·.2), cl v = none := by first | exact fun _ _ => rfl | simp [pinCl]) :
    SL X cl W (.ListComp elt [⟨tg, iter, ifs, 0⟩] scope pos) (lComp it g t f (own.map (·.2))) := PE.of (pe_lc c0.calm c0.nd hi ok hg ht he hs) fun σ H Q p => comp_go his hcl p
/-- x = [..], frozen -/
theorem s_setComp {k i : Nat} {y : Str} {py spos : Pos} (c0 : Cs k X) (hy : X.N[i]? = some y) (hyl : X.env.scope.names.lookup y = some .local)
    (hsw : swapsWith (.ListComp elt [⟨tg, iter, ifs, 0⟩] scope pos) (some (.Name y py)) spos.line X.env = pure true) (hi : SI X cl W tg iter it) (ok : BlkOk X.N X.env.scope scope own) (his : ∀ i ∈ is, i ∈ own.map (·.2))
    (hg : ∀ (s : Shared) (H : Hp) (C : Addr) (cc : List (Str × Addr)) (fp : List Addr), SG (X.blk s H scope (compEnvC scope cc C X.env) fp) cl tg g is)
    (ht : ∀ (s : Shared) (H : Hp) (C : Addr) (cc : List (Str × Addr)) (fp : List Addr), STs (X.blk s H scope (compEnvC scope cc C X.env) fp) cl W0 ifs t)
    (he : ∀ (s : Shared) (H : Hp) (C : Addr) (cc : List (Str × Addr)) (fp : List Addr), SE (X.blk s H scope (compEnvC scope cc C X.env) fp) cl W0 elt f) (hs : ∀ x, foldedSetIterable iter X.env x = pure x := by intro _; rfl) (hcl : ∀ v ∈ own.map (·.2), cl v = none := by first | exact fun _ _ => rfl | simp [pinCl]) :
    SS X cl W (.Assign [.Name y py] (.ListComp elt [⟨tg, iter, ifs, 0⟩] scope pos) spos) (sAsg (gN i) (eFrz (lComp it g t f (own.map (·.2))))) := by
  refine ⟨fun pins s σ H D I p => ?_⟩
  have q := (ps_setLc (g := tGv X.K cl g is) (tt := tG X.K cl W0 RBool t) (te := tG X.K cl W0 (RR X.K) f) c0.calm c0.nd hy hyl hsw hi ok hg ht he hs).run pins s σ H { D with nx := fun τ H1 => ∃ a vs, τ = σ.set i (some (.ref a)) ∧ H1 a = some (.lst vs) ∧ ∀ o, D.nx τ (upd H1 a (.frz o (.lst vs))) } I (by
    refine comp_go (W := W) (cl := cl) (t := t) (f := f) his hcl ?_
    obtain ⟨φ, st, h0, S, R0, P⟩ := p
    refine ⟨φ, st, h0, S, R0, ?_⟩
    simp only [sAsg, eFrz] at P
    cases e : lComp it g t f (own.map (·.2)) st h0 with
    | bad => simp only [e, Rs.bind, Rs.out] at P; exact P
    | ex ex1 h1 =>
      simp only [e, Rs.bind, Rs.out] at P
      exact fun φ' H' c d l r er => P φ' H' c d σ l r (S.mono l) er
    | ok ds h1 =>
      simp only [e, Rs.bind, gN, Rs.out, outO] at P
      rintro φ' H' v l r ⟨a, vs, rfl, n0, nn, ea, rr⟩
      refine ⟨a, vs, rfl, ea, fun o => ?_⟩
      obtain ⟨l2, x2, y2⟩ := Fresh.frz (o := o) l n0 r nn ea rr
      exact P φ' _ _ l2 x2 ((S.mono l2).set i y2))
  refine thn q fun fl s1 h1 => ?_
  cases fl with
  | next =>
    obtain ⟨σ', H', I', a, vs, rfl, e1, e2⟩ := h1
    obtain ⟨o, I2⟩ := inv_frz I' e1
    exact ⟨_, _, I2, e2 o⟩
  | brk => exact h1
  | cont => exact h1
  | ret u => exact h1
theorem l_compX {k : Nat} (c0 : Cs k X) (hi : SI2 X cl W tg iter it2) (ok : BlkOk X.N X.env.scope scope own) (his : ∀ i ∈ is, i ∈ own.map (·.2))
    (hg : ∀ (s : Shared) (H : Hp) (C : Addr) (cc : List (Str × Addr)) (fp : List Addr), SG (X.blk s H scope (compEnvC scope cc C X.env) fp) cl tg g is)
    (ht : ∀ (s : Shared) (H : Hp) (C : Addr) (cc : List (Str × Addr)) (fp : List Addr), STs (X.blk s H scope (compEnvC scope cc C X.env) fp) cl W0 ifs t)
    (he : ∀ (s : Shared) (H : Hp) (C : Addr) (cc : List (Str × Addr)) (fp : List Addr), SE (X.blk s H scope (compEnvC scope cc C X.env) fp) cl W0 elt f) (hs : ∀ x, foldedSetIterable iter X.env x = pure x := by intro _; rfl) (hcl : ∀ v ∈ own.map (·.2), cl v = none := by first | exact fun _ _ => rfl | simp [pinCl]) :
    SL X cl W (.ListComp elt [⟨tg, iter, ifs, 0⟩] scope pos) (lCompX it2 g t f (own.map (·.2))) := PE.of (pe_lc c0.calm c0.nd hi ok hg ht he hs) fun σ H Q p => comp_goX his hcl p
theorem s_setCompX {k i : Nat} {y : Str} {py spos : Pos} (c0 : Cs k X) (hy : X.N[i]? = some y) (hyl : X.env.scope.names.lookup y = some .local)
    (hsw : swapsWith (.ListComp elt [⟨tg, iter, ifs, 0⟩] scope pos) (some (.Name y py)) spos.line X.env = pure true) (hi : SI2 X cl W tg iter it2) (ok : BlkOk X.N X.env.scope scope own) (his : ∀ i ∈ is, i ∈ own.map (·.2))
    (hg : ∀ (s : Shared) (H : Hp) (C : Addr) (cc : List (Str × Addr)) (fp : List Addr), SG (X.blk s H scope (compEnvC scope cc C X.env) fp) cl tg g is)
    (ht : ∀ (s : Shared) (H : Hp) (C : Addr) (cc : List (Str × Addr)) (fp : List Addr), STs (X.blk s H scope (compEnvC scope cc C X.env) fp) cl W0 ifs t)
    (he : ∀ (s : Shared) (H : Hp) (C : Addr) (cc : List (Str × Addr)) (fp : List Addr), SE (X.blk s H scope (compEnvC scope cc C X.env) fp) cl W0 elt f) (hs : ∀ x, foldedSetIterable iter X.env x = pure x := by intro _; rfl) (hcl : ∀ v ∈ own.map (·.2), cl v = none := by first | exact fun _ _ => rfl | simp [pinCl]) :
    SS X cl W (.Assign [.Name y py] (.ListComp elt [⟨tg, iter, ifs, 0⟩] scope pos) spos) (sAsg (gN i) (eFrz (lCompX it2 g t f (own.map (·.2))))) := by
  refine ⟨fun pins s σ H D I p => ?_⟩
  have q := (ps_setLc (g := tGv X.K cl g is) (tt := tG X.K cl W0 RBool t) (te := tG X.K cl W0 (RR X.K) f) c0.calm c0.nd hy hyl hsw hi ok hg ht he hs).run pins s σ H { D with nx := fun τ H1 => ∃ a vs, τ = σ.set i (some (.ref a)) ∧ H1 a = some (.lst vs) ∧ ∀ o, D.nx τ (upd H1 a (.frz o (.lst vs))) } I (by
    refine comp_goX (W := W) (cl := cl) (t := t) (f := f) his hcl ?_
    obtain ⟨φ, st, h0, S, R0, P⟩ := p
    refine ⟨φ, st, h0, S, R0, ?_⟩
    simp only [sAsg, eFrz] at P
    cases e : lCompX it2 g t f (own.map (·.2)) st h0 with
    | bad => simp only [e, Rs.bind, Rs.out] at P; exact P
    | ex ex1 h1 =>
      simp only [e, Rs.bind, Rs.out] at P
      exact fun φ' H' c d l r er => P φ' H' c d σ l r (S.mono l) er
    | ok ds h1 =>
      simp only [e, Rs.bind, gN, Rs.out, outO] at P
      rintro φ' H' v l r ⟨a, vs, rfl, n0, nn, ea, rr⟩
      refine ⟨a, vs, rfl, ea, fun o => ?_⟩
      obtain ⟨l2, x2, y2⟩ := Fresh.frz (o := o) l n0 r nn ea rr
      exact P φ' _ _ l2 x2 ((S.mono l2).set i y2))
  refine thn q fun fl s1 h1 => ?_
  cases fl with
  | next =>
    obtain ⟨σ', H', I', a, vs, rfl, e1, e2⟩ := h1
    obtain ⟨o, I2⟩ := inv_frz I' e1
    exact ⟨_, _, I2, e2 o⟩
  | brk => exact h1
  | cont => exact h1
  | ret u => exact h1
end
end Y
end

section
set_option Elab.async false
set_option linter.all false
set_option maxRecDepth 100000
set_option maxHeartbeats 2000000
/-! YH: statements, displays of dicts, defs and their calls, the law's end. -/
namespace Y
open PySem PySem.Spec PyProof.Rows L2

section
variable {X : Cx} {cl : Cl} {W : WX} {e a b o i : Expr} {es : List Expr} {f g q : Ev} {fl : Lv} {fa : Av} {t t' : Tv} {pos : Pos} {k : Nat} {u v : Sv} {st : Stmt} {rest body els : List Stmt}
/-- an evaluation within a statement -/
theorem seqO {γ δ : Type} {Rel : RT γ δ} {f : Sl → Hm → Rs γ} {k : Sl → γ → Hm → Out} {σ : L2.St} {H : Hp} {D : Ends} {R : δ → Hp → Prop} (p : tSt X.K cl W (fun σ h => (f σ h).out σ fun d h1 => k σ d h1) D σ H)
    (h : ∀ φ0 st φ H1 h1 x w, Lat φ0 H φ H1 → SR X.K cl φ H1 st σ → HR X.K φ H1 h1 → Rel H φ H1 x w → (∀ φ' H', Lat φ0 H φ' H' → PostS X.K cl φ' H' (k st x h1) D W) → R w H1) : tG X.K cl W Rel f σ H R := by
  obtain ⟨φ, st, h0, S, R0, P⟩ := p
  refine ⟨φ, st, h0, S, R0, ?_⟩
  cases e : f st h0 with
  | bad => simp only [e, Rs.out] at P; exact P
  | ex ex1 h1 =>
    simp only [e, Rs.out] at P
    exact fun φ' H' c d l r er => P φ' H' c d σ l r (S.mono l) er
  | ok x h1 =>
    simp only [e, Rs.out] at P
    exact fun φ1 H1 w l1 r1 q1 => h φ st φ1 H1 h1 x w l1 (S.mono l1) r1 q1 fun φ' H' l => P.lat l
theorem ss_nil : SSs X cl W [] sPass := PSs.of pss_nil fun D σ H ⟨φ, st, h, S, R, P⟩ => P φ H σ (Lat.refl _ _) R S
theorem ss_cons (h1 : SS X cl W st u) (h2 : SSs X cl W rest v) : SSs X cl W (st :: rest) (sSeq u v) := PSs.of (pss_cons h1 h2) fun D σ H ⟨φ, st, h, S, R, P⟩ => by
  refine ⟨φ, st, h, S, R, ?_⟩
  simp only [sSeq] at P
  cases e : u st h with
  | nx σ1 h1 =>
    simp only [e] at P
    exact fun φ' H' τ l r s => ⟨φ', σ1, h1, s, r, P.lat l⟩
  | bk _ _ => simp only [e] at P; exact P
  | ct _ _ => simp only [e] at P; exact P
  | rt _ _ => simp only [e] at P; exact P
  | rl _ _ => simp only [e] at P; exact P
  | ex _ _ _ => simp only [e] at P; exact P
  | bad => simp only [e] at P; exact P
theorem ss_one (h1 : SS X cl W st u) : SSs X cl W [st] u := pss_one h1
theorem s_pass : SS X cl W (.Pass pos) sPass := PS.of ps_pass fun D σ H ⟨φ, st, h, S, R, P⟩ => P φ H σ (Lat.refl _ _) R S
theorem s_bk : SS X cl W (.Break pos) sBk := PS.of ps_break fun D σ H ⟨φ, st, h, S, R, P⟩ => P φ H σ (Lat.refl _ _) R S
theorem s_ct : SS X cl W (.Continue pos) sCt := PS.of ps_continue fun D σ H ⟨φ, st, h, S, R, P⟩ => P φ H σ (Lat.refl _ _) R S
theorem s_never : SS X cl W st sNever := PS.of ps_never fun D σ H ⟨φ, st, h, S, R, P⟩ => P
theorem s_ifS {c : Expr} (hc : ST X cl W c t) (ha : SSs X cl W body u) (hb : SSs X cl W els v) : SS X cl W (.If c body els pos) (sIf t u v) := PS.of (ps_if hc ha hb) fun D σ H p =>
  seqO (Rel := RBool) (k := fun σ t h1 => if t = true then u σ h1 else v σ h1) p fun φ0 st φ H1 h1 x w l S R r P => by
    cases (show x = w from r)
    cases x with
    | true => exact ⟨φ, st, h1, S, R, P _ _ l⟩
    | false => exact ⟨φ, st, h1, S, R, P _ _ l⟩
theorem s_ret (h : SE X cl W e f) : SS X cl W (.Return (some e) pos) (sRet f) := PS.of (ps_ret h) fun D σ H p =>
  seqO (Rel := RR X.K) (k := fun _ d h1 => Out.rt d h1) p fun φ0 st φ H1 h1 x w l S R r P => P _ _ l φ H1 w (Lat.refl _ _) R r
theorem s_retN : SS X cl W (.Return none pos) sRetN := PS.of ps_retN fun D σ H ⟨φ, st, h, S, R, P⟩ => P φ H _ (Lat.refl _ _) R .non
theorem s_retL (h : SL X cl W e fl) : SS X cl W (.Return (some e) pos) (sRetL fl) := PS.of (ps_ret h) fun D σ H ⟨φ, st, h0, S, R0, P⟩ => by
  refine ⟨φ, st, h0, S, R0, ?_⟩
  simp only [sRetL] at P
  cases e : fl st h0 with
  | bad => simp only [e, Rs.out] at P; exact P
  | ex ex1 h1 =>
    simp only [e, Rs.out] at P
    exact fun φ' H' c d l r er => P φ' H' c d σ l r (S.mono l) er
  | ok x h1 =>
    simp only [e, Rs.out] at P
    exact fun φ1 H1 w l1 r1 q1 => P φ1 H1 w l1 r1 q1
theorem s_expr (h : SE X cl W e f) (hs : swapsWith e none pos.line X.env = pure false := by rfl) : SS X cl W (.Expr e pos) (sExpr f) := PS.of (ps_expr h hs) fun D σ H p =>
  seqO (Rel := RR X.K) (k := fun σ _ h1 => Out.nx σ h1) p fun φ0 st φ H1 h1 x w l S R r P => P _ _ l φ H1 σ (Lat.refl _ _) R S
/-- target = value -/
theorem s_asg {tg : Expr} {gv : Gv} {is : List Nat} (h : SE X cl W e f) (hg : SG X cl tg gv is) (hs : swapsWithSole [tg] e pos.line X.env = pure false := by rfl) (hw : swappedStores [tg] e X.env = pure none := by rfl) (h1 : (assignEach [tg] X.env).map (·.2) = [assign tg X.env] := by rfl) :
    SS X cl W (.Assign [tg] e pos) (sAsg gv f) := PS.of (ps_asg h hg hs hw h1) fun D σ H p =>
  seqO (Rel := RR X.K) (k := fun σ d h1 => outO (gv d σ) h1) p fun φ0 st φ H1 h1 x w l S R r P => by
    have P := P _ _ l
    cases e : gv x st with
    | none => rw [e] at P; exact P.elim
    | some st1 =>
      rw [e] at P
      exact ⟨φ, st, x, st1, S, r, e, fun τ S' _ => P φ H1 τ (Lat.refl _ _) R S'⟩
theorem s_set {j : Nat} {x : Str} {p' : Pos} (hN : X.N.Nodup) (h : SE X cl W e f) (hi : X.N[j]? = some x := by rfl) (hx : Loc X.env.scope x := by first | exact Or.inl rfl | exact Or.inr rfl) (hs : swapsWith e (some (.Name x p')) pos.line X.env = pure false := by rfl) (hf : X.fn x = true ∨ X.env.scope.names.lookup x = some .local := by first | exact .inl rfl | exact .inr rfl | assumption) :
    SS X cl W (.Assign [.Name x p'] e pos) (sAsg (gN j) f) := PS.of (ps_set hN hi hx h hs hf) fun D σ H p =>
  seqO (Rel := RR X.K) (k := fun σ d h1 => outO (gN j d σ) h1) p fun φ0 st φ H1 h1 x w l S R r P => P _ _ l φ H1 _ (Lat.refl _ _) R (S.set j r)
/-- a, b = x, y, two plain locals -/
theorem s_par {j l : Nat} {x y : Str} {px py pt pt2 : Pos} {n n2 : Nat} (hc : X.calm = true) (hN : X.N.Nodup) (ha : SA X cl W [a, b] fa) (hi : X.N[j]? = some x := by rfl) (hj : X.N[l]? = some y := by rfl) (hij : j ≠ l := by decide)
    (hx : X.env.scope.names.lookup x = some .local := by rfl) (hy : X.env.scope.names.lookup y = some .local := by rfl)
    (hw : swappedStores [.Tuple [.Name x px, .Name y py] n pt] (.Tuple [a, b] n2 pt2) X.env = pure (some [x, y]) := by rfl) (hs : swapsWithSole [.Tuple [.Name x px, .Name y py] n pt] (.Tuple [a, b] n2 pt2) pos.line X.env = pure false := by rfl) :
    SS X cl W (.Assign [.Tuple [.Name x px, .Name y py] n pt] (.Tuple [a, b] n2 pt2) pos) (sPar j l fa) := PS.of (ps_par hc hN hi hj hij hx hy ha hw hs) fun D σ H p =>
  seqO (Rel := RL X.K) (k := fun σ xs h1 => match xs with | [x, y] => .nx ((σ.set j (some x)).set l (some y)) h1 | _ => .bad) p fun φ0 st φ H1 h1 x w l S R r P => by
    have P := P _ _ l
    split at P
    · cases r with
      | cons r1 r2 =>
        obtain ⟨w2, rfl, r3⟩ := r2.one
        exact ⟨_, _, rfl, P φ H1 _ (Lat.refl _ _) R ((S.set _ r1).set _ r3)⟩
    · exact P.elim

/-! ### o[k] = v -/
def rSt : TSet := fun o i v H Q => rSetL o i v H Q ∨ ∃ a H', o = .ref a ∧ DPut H a i v H' ∧ Q H'
theorem set_all (hu : X.A.units + 1 < cLine) : PSet X rSt := fun pins s σ H o i v ov iv u Q I ro ri rv h => by
  rcases h with h | ⟨a, H', rfl, g, q⟩
  · exact set_list pins s σ H o i v ov iv u Q I ro ri rv h
  · cases ro
    exact d_setItem hu I g ri rv fun s' I' => ⟨H', I', q⟩
theorem setD_sound {φ : List Addr} {H : Hp} {h h' : Hm} {x y z : D} {o i v : V} (R : HR X.K φ H h) (rx : Rep X.K φ H x o) (ry : Rep X.K φ H y i) (rz : Rep X.K φ H z v) (e : setD h x y z = some h') {Q : Hp → Prop} (q : ∀ H', Lat φ H φ H' → HR X.K φ H' h' → Q H') : rSt o i v H Q := by
  cases rx <;> simp only [setD] at e <;> try (cases e; done)
  rename_i n a hk
  obtain ⟨ob, h1, h2⟩ := R.at hk
  have mem : a ∈ φ := List.mem_of_getElem? hk
  cases h2 with
  | dtu hh rr => rw [h1] at e; cases e
  | dct hh rr =>
    rename_i kvs vs
    rw [h1] at e
    simp only at e
    cases ek : keyOf y with
    | none => rw [ek] at e; cases e
    | some ky =>
      rw [ek] at e
      simp only at e
      split at e
      · rename_i hl
        cases e
        obtain rfl := key_of_rep ry ek
        refine .inr ⟨a, _, rfl, .k hh (by rw [← Paired.length rr, ← line_eq]; exact hl), ?_⟩
        refine q _ (Lat.wr hh rfl mem) (R.wr hk (.dct upd_same ?_))
        exact (rr.set ky rz).mono (List.prefix_refl _) (Per.wr hh rfl)
      · cases e
  | lst hh rr =>
    rename_i xs vs
    rw [h1] at e
    simp only at e
    cases ry <;> simp only at e <;> try (cases e; done)
    rename_i j
    obtain ⟨m, e1, rfl⟩ := Option.map_eq_some_iff.mp e
    refine .inl ⟨a, vs, j, m, rfl, rfl, hh, by rw [← rr.length]; exact e1, ?_⟩
    refine q _ (Lat.wr hh rfl mem) (R.wr hk (.lst upd_same ?_))
    exact RepL.mono (List.prefix_refl _) (Per.wr hh rfl) _ _ (rr.set rz m)
theorem s_store {p' : Pos} (c0 : Cs k X) (ho : SE X cl W o f) (hi : SE X cl W i g) (he : SE X cl W e q)
    (ha : ∀ v, assign (.Subscript o i p') X.env v = (do
      let ov ← holding [v] (eval o X.env)
      let iv ← holding [v, ov] (eval i X.env)
      standAt p'
      holding [v, ov, iv] (setItem ov iv v)
      release [v, ov, iv] []) := by intro _; rfl)
    (hs : swapsWithSole [.Subscript o i p'] e pos.line X.env = pure false := by rfl) (hw : swappedStores [.Subscript o i p'] e X.env = pure none := by rfl) (h1 : (assignEach [.Subscript o i p'] X.env).map (·.2) = [assign (.Subscript o i p') X.env] := by rfl) :
    SS X cl W (.Assign [.Subscript o i p'] e pos) (sStore f g q) := PS.of (ps_asg he (pg_sub ho hi (set_all c0.hu) ha) hs hw h1) fun D σ H p =>
  seqO (Rel := RR X.K) (k := fun σ v h1 => (f σ h1).out σ fun o h2 => (g σ h2).out σ fun k h3 => match setD h3 o k v with | some h4 => .nx σ h4 | none => .bad) p fun φ0 st φ H1 h1 x w l S R r P => by
    have P := P _ _ l
    refine ⟨φ, st, h1, S, R, ?_⟩
    cases e1 : f st h1 with
    | bad => simp only [e1, Rs.out] at P; exact P
    | ex ex1 h2 => simp only [e1, Rs.out] at P; exact fun φ' H' c d l r er => P φ' H' c d σ l r (S.mono l) er
    | ok x2 h2 =>
      simp only [e1, Rs.out] at P
      intro φ2 H2 w2 l2 R2 r2
      have P := P.lat l2
      refine ⟨φ2, st, h2, S.mono l2, R2, ?_⟩
      cases e2 : g st h2 with
      | bad => simp only [e2] at P; exact P
      | ex ex1 h3 => simp only [e2] at P; exact fun φ' H' c d l r er => P φ' H' c d σ l r (S.mono (l2.trans l)) er
      | ok x3 h3 =>
        simp only [e2] at P
        intro φ3 H3 w3 l3 R3 r3
        have P := P.lat l3
        cases e3 : setD h3 x2 x3 x with
        | none => simp only [e3] at P; exact P.elim
        | some h4 =>
          simp only [e3] at P
          exact setD_sound R3 (Rep.mono l3.pre l3.per _ _ r2) r3 (Rep.mono (l2.trans l3).pre (l2.trans l3).per _ _ r) e3 fun H' l4 R4 => P φ3 H' σ l4 R4 (S.mono ((l2.trans l3).trans l4))
/-! ### o.append(e) -/
theorem s_app {p1 p2 : Pos} (ho : SE X cl W o f) (he : SE X cl W e g) (hpe : ∀ {to : TE} {t : TA}, PE X o to → PA X [e] t → PE X (.Call (.Attribute o "append" p1) [e] [] p2) (tBM X.K "list" rAppend to t))
    (hs1 : starEach [e] X.env = (false, eval e X.env) :: starEach [] X.env := by rfl) (hs : swapsWith (.Call (.Attribute o "append" p1) [e] [] p2) none pos.line X.env = pure false := by rfl) :
    SS X cl W (.Expr (.Call (.Attribute o "append" p1) [e] [] p2) pos) (sApp f g) := PS.of (ps_expr (hpe ho (pa_cons he pa_nil hs1)) hs) fun D σ H p =>
  seqO (Rel := RR X.K) (k := fun σ o h1 => if isLst h1 o = true then (g σ h1).out σ fun v h2 => match appD h2 o v with | some h3 => .nx σ h3 | none => .bad else .bad) p fun φ0 st φ H1 h1 x w l S R r P => by
    have P := P _ _ l
    split at P
    · rename_i hl
      cases r <;> simp only [isLst] at hl <;> try (cases hl; done)
      rename_i n ad hk _
      obtain ⟨ob, h3, h4⟩ := R.at hk
      refine ⟨?_, φ, st, h1, S, R, ?_⟩
      · rw [h3] at hl
        cases h4 with
        | lst hh _ => exact .inl ⟨rfl, _, .of hh⟩
        | dct hh _ => simp at hl
        | dtu hh _ => simp at hl
      · cases e2 : g st h1 with
        | bad => simp only [e2, Rs.out] at P; exact P
        | ex ex1 h3 => simp only [e2, Rs.out] at P; exact fun φ' H' c d l r er => P φ' H' c d σ l r (S.mono l) er
        | ok x3 h5 =>
          simp only [e2, Rs.out] at P
          intro φ3 H3 w3 l3 R3 r3
          have P := P.lat l3
          have hk4 := pre_get l3.pre hk
          obtain ⟨ob2, h6, h7⟩ := R3.at hk4
          simp only [appD, h6] at P
          cases h7 with
          | dct hh _ => exact P.elim
          | dtu hh _ => exact P.elim
          | lst hh rr =>
            rename_i xs vs
            simp only at P
            by_cases hz : xs.length < line
            · rw [if_pos hz] at P
              have mem : ad ∈ φ3 := List.mem_of_getElem? hk4
              refine ⟨ad, _, w3, rfl, rfl, hh, by rw [← rr.length, ← line_eq]; exact hz, ?_⟩
              refine P φ3 _ σ (Lat.wr hh rfl mem) (R3.wr hk4 (.lst upd_same ?_)) (S.mono (l3.trans (Lat.wr hh rfl mem)))
              exact RepL.mono (List.prefix_refl _) (Per.wr hh rfl) _ _ (rr.append (.cons r3 .nil))
            · rw [if_neg hz] at P
              exact P.elim
    · exact P.elim
end
end Y
end

section
set_option Elab.async false
set_option linter.all false
set_option maxRecDepth 100000
set_option maxHeartbeats 2000000
/-! YI: displays of dicts, defs, their calls, the law's end. -/
namespace Y
open PySem PySem.Spec PyProof.Rows L2

/-! ### {k: v, ..} -/
section
variable {X : Cx} {cl : Cl} {W : WX} {pos : Pos}
def RP (K : PySem.W.Frag) : RT (List D) (List (V × V)) := fun _ φ H l ps => RepL K φ H l (ps.flatMap fun p => [p.1, p.2])
instance {K : PySem.W.Frag} : Back (RP K) := ⟨fun _ _ h => h⟩
structure SP' (X : Cx) (cl : Cl) (W : WX) (pos : Pos) (ks : List (Option Expr)) (vs : List Expr) (f : Av) : Prop where
  ex : ∃ trs, PPs X pos ks vs trs ∧ ∀ σ H Q, tG X.K cl W (RP X.K) f σ H Q → tPairs trs σ H Q
theorem p_nil : SP' X cl W pos [] [] pN := ⟨[], pps_nil, fun σ H Q ⟨φ, st, h, S, R, P⟩ => P.val R .nil⟩
theorem p_cons {k v : Expr} {ks : List (Option Expr)} {vs : List Expr} {f g : Ev} {r : Av} (hk : SE X cl W k f) (hv : SE X cl W v g) (hr : SP' X cl W pos ks vs r) : SP' X cl W pos (some k :: ks) (v :: vs) (pC f g r) := by
  obtain ⟨trs, h1, h2⟩ := hr.ex
  refine ⟨_, pps_cons hk hv h1, fun σ H Q p => ?_⟩
  obtain ⟨φ, st, h0, S, R0, P⟩ := p
  refine ⟨φ, st, h0, S, R0, P.seq fun x h1 φ1 H1 v l1 r1 q1 P1 => ⟨φ1, st, h1, S.mono l1, r1, P1.seq fun y h2' φ2 H2 u l2 r2 q2 P2 => h2 _ _ _ ⟨φ2, st, h2', S.mono (l1.trans l2), r2, P2.seq fun xs h3 φ3 H3 ps l3 r3 q3 P3 => ?_⟩⟩⟩
  exact P3.val r3 (show RepL X.K φ3 H3 (x :: y :: xs) (v :: u :: ps.flatMap fun p => [p.1, p.2]) from .cons (Rep.mono (l2.trans l3).pre (l2.trans l3).per _ _ q1) (.cons (Rep.mono l3.pre l3.per _ _ q2) q3))
theorem kvs_sound {K : PySem.W.Frag} {φ : List Addr} {H : Hp} : ∀ {ps : List (V × V)} {l : List D} {kvs : List (Key × D)}, RepL K φ H l (ps.flatMap fun p => [p.1, p.2]) → kvsOf l = some kvs → ∃ kv, ps = kv.map (fun p => (kV p.1, p.2)) ∧ RepK K φ H kvs kv
  | [], l, kvs, r, e => by
    cases r
    simp [kvsOf] at e
    subst e
    exact ⟨[], rfl, .nil⟩
  | (p1, p2) :: ps, l, kvs, r, e => by
    cases r with
    | @cons x _ _ _ r1 r =>
      cases r with
      | @cons y _ ys _ r2 r =>
        simp only [kvsOf] at e
        cases e1 : keyOf x with
        | none => rw [e1] at e; cases e
        | some k =>
          cases e2 : kvsOf ys with
          | none => rw [e1, e2] at e; cases e
          | some l2 =>
            rw [e1, e2] at e
            cases e
            obtain ⟨kv, rfl, rk⟩ := kvs_sound r e2
            have ek := key_of_rep r1 e1
            dsimp only at ek
            subst ek
            exact ⟨(k, p2) :: kv, rfl, .cons ⟨rfl, r2⟩ rk⟩
theorem RepK.merge {K : PySem.W.Frag} {φ : List Addr} {H : Hp} : ∀ {more : List (Key × D)} {mv : List (Key × V)} {a : List (Key × D)} {b : List (Key × V)}, RepK K φ H more mv → RepK K φ H a b → RepK K φ H (mergeD a more) (mergeK b mv) := by
  intro more mv a b r
  induction r generalizing a b with
  | nil => intro q; exact q
  | @cons p q ps qs h t ih =>
    intro z
    show RepK K φ H (mergeD (setK a p.1 p.2) ps) (mergeK (putK b q.1 q.2) qs)
    rw [← h.1]
    exact ih (z.set p.1 h.2)
theorem s_dct {ks : List (Option Expr)} {vs : List Expr} {f : Av} (h : SP' X cl W pos ks vs f) (hall : ks.all (·.isSome) = true) (hl : ks.length = vs.length) (h0 : ks ≠ []) (h15 : ks.length ≤ 15) : SE X cl W (.Dict ks vs pos) (eDct f) := by
  obtain ⟨trs, h1, h2⟩ := h.ex
  refine PE.of (pe_disp h1 hall hl h0 h15) fun σ H Q p => ?_
  intro D hD
  obtain ⟨φ, st, h0, S, R0, P⟩ := p
  have nD : D ∉ φ := R0.notin hD
  have L0 : Lat φ H φ (upd H D (.dK [])) := Lat.new hD
  refine h2 _ _ _ ⟨φ, st, h0, S.mono L0, R0.new hD, ?_⟩
  simp only [eDct] at P
  cases e : f st h0 with
  | bad => simp only [e, Rs.bind] at P; exact P
  | ex ex1 h1 =>
    simp only [e, Rs.bind] at P
    exact fun φ' H' c d l r er => P φ' H' c d (L0.trans l) r er
  | ok l h1 =>
    simp only [e, Rs.bind] at P
    intro φ1 H1 ps l1 R1 r1
    cases ek : kvsOf l with
    | none => rw [ek] at P; exact P.elim
    | some kvs =>
      rw [ek] at P
      simp only at P
      split at P
      · rename_i hz
        obtain ⟨kv, rfl, rk⟩ := kvs_sound r1 ek
        have eD : H1 D = some (.dK []) := l1.keep D _ upd_same nD
        have nD1 : D ∉ φ1 := l1.out upd_same nD
        refine ⟨eD, kv, rfl, by rw [← Paired.length rk]; exact hz, ?_⟩
        have L : Lat φ H φ1 (upd H1 D (.dK (mergeK [] kv))) := Lat.tmp (L0.trans l1) hD eD rfl
        have rk2 : RepK X.K φ1 (upd H1 D (.dK (mergeK [] kv))) (mergeD [] kvs) (mergeK [] kv) := (RepK.merge rk .nil).mono (List.prefix_refl _) (Per.wr eD rfl)
        refine P (φ1 ++ [D]) _ _ ⟨L.pre.trans (List.prefix_append _ _), L.per, L.keepT, fun b m => ?_⟩ ((R1.out nD1 eD rfl).add nD1 (.dct upd_same (rk2.mono (List.prefix_append _ _) (Per.refl _)))) (.loc ?_)
        · rcases List.mem_append.mp m with m | m
          · exact L.fresh b m
          · simp at m
            subst m
            exact .inr hD
        · rw [List.getElem?_append_right (by rw [R1.len]; exact Nat.le_refl _)]
          simp [R1.len]
      · exact P.elim
end

/-! ### a def -/
structure FnG (P : Program) (w : World) (K : PySem.W.Frag) (mg : Str → Option Value) (base : Heap) (k : Nat) (f : Addr) (fd : FuncData) (ps : List Str) (sp : Sp) : Prop where
  len : ∀ vs H Q E, sp vs H Q E → vs.length = ps.length
  run : ∀ (A : Around) (outer : List Env) (s : Shared) (H : Hp) (args : Args) (us : List Value) (vs : List V) (Q : VK) (E : XK), Room k A → A.guards = some [] → Env0 P w K mg base A outer s H → BindsTo s fd args (ps.zip us) → Vals vs us → sp vs H Q E →
    codeAny (model P w) A (.call (.ref f) args) (CR (L2.CX P w) outer P w H s Q E) s
theorem FnG.mono {P : Program} {w : World} {K : PySem.W.Frag} {mg : Str → Option Value} {base : Heap} {j k : Nat} {f : Addr} {fd : FuncData} {ps : List Str} {sp : Sp} (F : FnG P w K mg base j f fd ps sp) (h : j ≤ k) : FnG P w K mg base k f fd ps sp :=
  ⟨F.len, fun A outer s H args us vs Q E hr => F.run A outer s H args us vs Q E (hr.mono h)⟩
/-- «does what d does» -/
def spP (K : PySem.W.Frag) (cl : Cl) (n : Nat) (d : Fn) : Sp := fun vs H Q E => ∃ φ ds h, ds.length = n ∧ RepL K φ H ds vs ∧ HR K φ H h ∧ Post K cl φ H (RR K) (d ds h) Q E
def spL (K : PySem.W.Frag) (cl : Cl) (n : Nat) (d : FnL) : Sp := fun vs H Q E => ∃ φ ds h, ds.length = n ∧ RepL K φ H ds vs ∧ HR K φ H h ∧ Post K cl φ H (Fresh K) (d ds h) Q E
/-- the context of a def's body -/
abbrev cxY (P : Program) (w : World) (K : PySem.W.Frag) (mg : Str → Option Value) (base : Heap) (N : List Str) (qual : Str) (scope : Scope) (f : Addr) (cd : Value) (A : Around) (outer : List Env) (s : Shared) (H : Hp) (E : XK) : Cx :=
  cxOf (L2.CX P w) P w K mg base N qual scope f cd A outer s H E
section
variable {P : Program} {w : World} {K : PySem.W.Frag} {mg : Str → Option Value} {base : Heap}
theorem binds_all {scope : Scope} {ps : List Str} {us : List Value} (h : ∀ x ∈ ps, scope.names.lookup x = some .local ∨ scope.names.lookup x = some .cell) : ((ps.zip us).all fun y => scope.names.lookup y.1 == some .local || scope.names.lookup y.1 == some .cell) = true := by
  rw [List.all_eq_true]
  rintro ⟨n, v⟩ hy
  rcases h n (List.of_mem_zip hy).1 with e | e <;> simp [e]
theorem gn_of {x qual : Str} {st : Stmt} {f : Addr} {fd : FuncData} {N ps : List Str} {k : Nat} {sp : Sp} (F : Fun K x qual st f fd) (S : FnScope N ps (defScope st)) (len : ∀ vs H Q E, sp vs H Q E → vs.length = ps.length)
    (hb : ∀ (cdv : Value) (A : Around) (outer : List Env) (s : Shared) (H : Hp) (vs : List V) (Q : VK) (E : XK), Cs k (cxY P w K mg base N qual (defScope st) f cdv A outer s H E) → sp vs H Q E →
      ∃ t, PSs (cxY P w K mg base N qual (defScope st) f cdv A outer s H E) (defBody st) t ∧ t { nx := fun _ H' => Q .non H', rt := Q } (start N vs) H) : FnG P w K mg base (k + 1) f fd ps sp := by
  obtain ⟨oc, od, kV, doc, pm, an, cdv, ct, osl, rfl, lk, hcd⟩ := F.ex
  refine ⟨len, fun A outer s H args us vs Q E hr hg e0 hbd r hsp => ?_⟩
  have KX : K.In s.heap := e0.mod.kin.keeps fun b o e => (e0.bs b o e).1
  have lim : s.heap.NoLimit := e0.mod.nolimit.keeps fun b o e => (e0.bs b o e).1
  refine Att.call_fn KX lim lk hcd hr.depth hbd (binds_all S.par) (fun s₁ IC => ?_) S.co S.gen S.kind
  obtain ⟨t, ht, hq⟩ := hb cdv A outer s H vs Q E ⟨hr.deeper _, hg, rfl, S.nd⟩ hsp
  have I := inv_start (CX := L2.CX P w) (E := E) (cd := cdv) (f := f) (qual := qual) S hr.hd e0 (len _ _ _ _ hsp) r IC
  refine wpAny_mono (ht.run [] s₁ (start N vs) H _ I hq) (fun fl s' hs => ?_) fun e s' hs => hs
  have fin : ∀ {σ' : L2.St} {H' : Hp} {v : V} {u : Value}, L2.Inv (cxY P w K mg base N qual (defScope st) f cdv A outer s H E) [] σ' H' s' → RelV v u → Q v H' → CE outer P w H s Q u s' := fun J rv q => ⟨_, _, J.os, J.bare, J.base, J.hok, rv, q⟩
  cases fl with
  | ret u =>
    obtain ⟨v, σ', H', J, rv, q⟩ := hs
    exact fin J rv q
  | next =>
    obtain ⟨σ', H', J, q⟩ := hs
    exact fin (v := V.non) (u := Value.none) J rfl q
  | brk => obtain ⟨_, _, _, q⟩ := hs; exact q.elim
  | cont => obtain ⟨_, _, _, q⟩ := hs; exact q.elim
end

/-! ### what a def made for itself is forgotten -/
section
variable {K : PySem.W.Frag} {φ : List Addr} {H : Hp}
mutual
theorem Rep.low : ∀ (d : D) (v : V), Rep K φ H d v → D.low φ.length d = true
  | .non, _, _ => rfl
  | .bl _, _, _ => rfl
  | .int _, _, _ => rfl
  | .str _, _, _ => rfl
  | .tup ds, _, h => by cases h with | tup h r => simpa [D.low] using RepL.low ds _ r
  | .fl ds, _, h => by cases h with | fl h r => simpa [D.low] using RepL.low ds _ r
  | .sq ds, _, h => by cases h with | sq h r => simpa [D.low] using RepL.low ds _ r
  | .loc k, _, h => by cases h with | loc h => simpa [D.low] using (List.getElem?_eq_some_iff.mp h).1
  | .gfn _, _, _ => rfl
  | .obj c ns ds, _, h => by cases h with | obj hc h e1 e2 r => simpa [D.low] using RepL.low ds _ r | exo hc he h hψ hd e1 e2 r => simpa [D.low] using RepL.low ds _ r
theorem RepL.low : ∀ (d : List D) (v : List V), RepL K φ H d v → D.lowL φ.length d = true
  | [], _, _ => rfl
  | d :: ds, _, h => by cases h with | cons h r => simp [D.lowL, Rep.low d _ h, RepL.low ds _ r]
end
theorem repK_low {κ : Type} {xs : List (κ × D)} {ys : List (κ × V)} (r : RepK K φ H xs ys) : D.lowL φ.length (xs.map (·.2)) = true := by
  induction r with
  | nil => rfl
  | cons h _ ih => simp [D.lowL, Rep.low _ _ h.2, ih]
theorem ObR.low {a : Addr} {o : Ob} (x : ObR K φ H a o) : Ob.low φ.length o = true := by
  cases x with
  | lst h r => exact RepL.low _ _ r
  | dct h r => exact repK_low r
  | dtu h r => exact repK_low r
theorem zip_at {α β : Type} : ∀ {l : List α} {m : List β} {i : Nat} {a : α} {b : β}, l[i]? = some a → m[i]? = some b → (a, b) ∈ l.zip m
  | _ :: _, _ :: _, 0, _, _, h, q => by
    simp at h q
    subst h; subst q
    simp
  | _ :: _, _ :: _, i + 1, _, _, h, q => by
    simp at h q
    exact List.mem_cons_of_mem _ (zip_at h q)
  | [], _, _, _, _, h, _ => by simp at h
  | _ :: _, [], _, _, _, _, q => by simp at q
theorem HR.shut {φ' : List Addr} {H' : Hp} {h0 h' : Hm} (R : HR K φ H h0) (l : Lat φ H φ' H') (R' : HR K φ' H' h') (hs : sealed h0.length h0 h' = true) (hl : h0.length ≤ h'.length) : Lat φ H φ H' ∧ HR K φ H' (h'.take h0.length) := by
  have ep : φ'.take h0.length = φ := by
    obtain ⟨t, e⟩ := l.pre
    rw [← e, ← R.len, List.take_left]
  refine ⟨⟨List.prefix_refl _, l.per, l.keepT, fun _ m => .inl m⟩, by rw [List.length_take, Nat.min_eq_left hl, R.len], R.nd, R'.tab, fun k a o e1 e2 => ?_⟩
  have lt : k < h0.length := by rw [← R.len]; exact (List.getElem?_eq_some_iff.mp e1).1
  have e2' : h'[k]? = some o := by rw [List.getElem?_take_of_lt lt] at e2; exact e2
  have x := R'.ob k a o (pre_get l.pre e1) e2'
  have low : Ob.low h0.length o = true := by
    have z := List.all_eq_true.mp hs (o, h0[k]) (zip_at e2 (List.getElem?_eq_getElem lt))
    simp only [Bool.or_eq_true, decide_eq_true_eq] at z
    rcases z with z | z
    · have y := (R.ob k a _ e1 (List.getElem?_eq_getElem lt)).low
      rw [R.len] at y
      rw [z]
      exact y
    · exact z
  rw [← ep]
  exact x.cut low
theorem fin_sound {cl : Cl} {h0 h' : Hm} {d : D} {Q : VK} {We : WE'} (R : HR K φ H h0) (p : Post K cl φ H (RR K) (finP h0 d h') Q We) : ∀ φ' H' v, Lat φ H φ' H' → HR K φ' H' h' → Rep K φ' H' d v → Q v H' := by
  intro φ' H' v l R' r
  unfold finP at p
  split at p
  · exact p φ' H' v l R' r
  · split at p
    · rename_i hc
      simp only [Bool.and_eq_true, decide_eq_true_eq] at hc
      obtain ⟨l2, R2⟩ := R.shut l R' hc.1.2 hc.2
      have ep : φ'.take h0.length = φ := by
        obtain ⟨t, e⟩ := l.pre
        rw [← e, ← R.len, List.take_left]
      refine p φ H' v l2 R2 ?_
      have z := Rep.cut h0.length d v hc.1.1 r
      rw [ep] at z
      exact z
    · exact p.elim
theorem startD_at {n : Nat} {ds : List D} {i : Nat} {d : D} (h : (startD n ds)[i]? = some (some d)) : ds[i]? = some d := by
  unfold startD at h
  by_cases hi : i < ds.length
  · rw [List.getElem?_append_left (by simpa using hi), List.getElem?_map] at h
    cases e : ds[i]? with
    | none => rw [e] at h; cases h
    | some a => rw [e] at h; cases h; rfl
  · rw [List.getElem?_append_right (by simpa using hi), List.getElem?_replicate] at h
    split at h <;> cases h
theorem SR.start {N : List Str} {ds : List D} {vs : List V} (r : RepL K φ H ds vs) : SR K noCl φ H (startD N.length ds) (start N vs) := by
  refine ⟨by simp [startD, L2.start, r.length], fun _ _ e => (nomatch e), fun i d e => ?_⟩
  obtain ⟨v, h1, h2⟩ := r.get (startD_at e)
  refine ⟨v, ?_, h2⟩
  unfold L2.start
  rw [List.getElem?_append_left (by simpa using (List.getElem?_eq_some_iff.mp h1).1), List.getElem?_map, h1]
  rfl
end
section
variable {P : Program} {w : World} {K : PySem.W.Frag} {mg : Str → Option Value} {base : Heap} {cl : Cl}
/-- the wish of a def's body -/
abbrev wOf (E : XK) : WX := fun c d _ H => E c d H
/-- THE RULE: a def whose body is b's -/
theorem fn_P {x qual : Str} {st : Stmt} {f : Addr} {fd : FuncData} {N ps : List Str} {k : Nat} {b : Sv} (F : Fun K x qual st f fd) (S : FnScope N ps (defScope st))
    (hb : ∀ X : Cx, X.prog = P → X.w = w → X.K = K → X.mg = mg → X.base = base → X.N = N → X.env.scope = defScope st → X.stack = X.env :: X.outer → X.env.frame = some X.env.locals → X.fn = (fun _ => true) → ∀ E : XK, Cs k X → Takes X (wOf E) → PassesOwn (model X.prog X.w) X.A X.env X.xe → SSs X noCl (wOf E) (defBody st) b) :
    FnG P w K mg base (k + 1) f fd ps (spP K noCl ps.length (fnP N.length b)) := by
  refine gn_of F S (fun vs H Q E ⟨φ, ds, h, e, r, _⟩ => by rw [← r.length, e]) fun cdv A outer s H vs Q E c ⟨φ, ds, h, el, r, R, p⟩ => ?_
  refine ⟨_, hb _ rfl rfl rfl rfl rfl rfl rfl rfl rfl rfl E c (takes_of rfl rfl rfl rfl) (passes_of rfl), φ, startD N.length ds, h, SR.start r, R, ?_⟩
  simp only [fnP] at p
  cases e : b (startD N.length ds) h with
  | rt d h' => simp only [e] at p; exact fin_sound R p
  | nx σ h' => simp only [e] at p; exact fun φ' H' τ l r s => fin_sound R p φ' H' _ l r .non
  | ex e1 σ h' => simp only [e] at p; exact fun φ' H' c d τ l r s er => p φ' H' c d l r er
  | bk _ _ => simp only [e] at p; exact p.elim
  | ct _ _ => simp only [e] at p; exact p.elim
  | rl _ _ => simp only [e] at p; exact p.elim
  | bad => simp only [e] at p; exact p.elim
theorem fn_K {x qual : Str} {st : Stmt} {f : Addr} {fd : FuncData} {N ps : List Str} {k : Nat} {b : Sv} (F : Fun K x qual st f fd) (S : FnScope N ps (defScope st))
    (hb : ∀ X : Cx, X.prog = P → X.w = w → X.K = K → X.mg = mg → X.base = base → X.N = N → X.env.scope = defScope st → X.stack = X.env :: X.outer → X.env.frame = some X.env.locals → X.fn = (fun _ => true) → ∀ E : XK, Cs k X → Takes X (wOf E) → PassesOwn (model X.prog X.w) X.A X.env X.xe → SSs X noCl (wOf E) (defBody st) b) :
    FnG P w K mg base (k + 1) f fd ps (spP K noCl ps.length (fnK N.length b)) := by
  refine gn_of F S (fun vs H Q E ⟨φ, ds, h, e, r, _⟩ => by rw [← r.length, e]) fun cdv A outer s H vs Q E c ⟨φ, ds, h, el, r, R, p⟩ => ?_
  refine ⟨_, hb _ rfl rfl rfl rfl rfl rfl rfl rfl rfl rfl E c (takes_of rfl rfl rfl rfl) (passes_of rfl), φ, startD N.length ds, h, SR.start r, R, ?_⟩
  simp only [fnK] at p
  cases e : b (startD N.length ds) h with
  | rt d h' => simp only [e] at p; exact p
  | nx σ h' => simp only [e] at p; exact fun φ' H' τ l r s => p φ' H' _ l r .non
  | ex e1 σ h' => simp only [e] at p; exact fun φ' H' c d τ l r s er => p φ' H' c d l r er
  | bk _ _ => simp only [e] at p; exact p.elim
  | ct _ _ => simp only [e] at p; exact p.elim
  | rl _ _ => simp only [e] at p; exact p.elim
  | bad => simp only [e] at p; exact p.elim
theorem fn_L {x qual : Str} {st : Stmt} {f : Addr} {fd : FuncData} {N ps : List Str} {k : Nat} {b : Sv} (F : Fun K x qual st f fd) (S : FnScope N ps (defScope st))
    (hb : ∀ X : Cx, X.prog = P → X.w = w → X.K = K → X.mg = mg → X.base = base → X.N = N → X.env.scope = defScope st → X.stack = X.env :: X.outer → X.env.frame = some X.env.locals → X.fn = (fun _ => true) → ∀ E : XK, Cs k X → Takes X (wOf E) → PassesOwn (model X.prog X.w) X.A X.env X.xe → SSs X noCl (wOf E) (defBody st) b) :
    FnG P w K mg base (k + 1) f fd ps (spL K noCl ps.length (fnL N.length b)) := by
  refine gn_of F S (fun vs H Q E ⟨φ, ds, h, e, r, _⟩ => by rw [← r.length, e]) fun cdv A outer s H vs Q E c ⟨φ, ds, h, el, r, R, p⟩ => ?_
  refine ⟨_, hb _ rfl rfl rfl rfl rfl rfl rfl rfl rfl rfl E c (takes_of rfl rfl rfl rfl) (passes_of rfl), φ, startD N.length ds, h, SR.start r, R, ?_⟩
  have ept : ∀ {φ'}, φ <+: φ' → φ'.take h.length = φ := fun ⟨t, e⟩ => by rw [← e, ← R.len, List.take_left]
  simp only [fnL] at p
  cases e : b (startD N.length ds) h with
  | rl d h' =>
    simp only [e, finL] at p
    intro φ' H' v l R' q
    split at p
    · exact p φ' H' v l R' q
    · split at p
      · rename_i hc
        simp only [Bool.and_eq_true, decide_eq_true_eq] at hc
        obtain ⟨l2, R2⟩ := R.shut l R' hc.1.2 hc.2
        obtain ⟨a, us, rfl, n0, nn, ea, rr⟩ := q
        refine p φ H' _ l2 R2 ⟨a, us, rfl, n0, pre_notin l.pre nn, ea, ?_⟩
        have z := RepL.cut h.length d us hc.1.1 rr
        rw [ept l.pre] at z
        exact z
      · exact p.elim
  | rt d h' =>
    simp only [e] at p
    intro φ' H' v l R' q
    cases q with
    | @loc kk a hk =>
      simp only [finL] at p
      obtain ⟨ob, h1, h2⟩ := R'.at hk
      cases h2 with
      | dct _ _ => rw [h1] at p; exact p.elim
      | dtu _ _ => rw [h1] at p; exact p.elim
      | lst hh rr =>
        rw [h1] at p
        simp only at p
        split at p
        · rename_i hc
          simp only [Bool.and_eq_true, decide_eq_true_eq] at hc
          have hl : h.length ≤ h'.length := by
            have := (List.getElem?_eq_some_iff.mp h1).1
            omega
          obtain ⟨l2, R2⟩ := R.shut l R' hc.1.2 hl
          have na : a ∉ φ := fun m => by
            obtain ⟨j, ej⟩ := List.getElem?_of_mem m
            have ej' := pre_get l.pre ej
            obtain ⟨x1, y1⟩ := List.getElem?_eq_some_iff.mp ej'
            obtain ⟨x2, y2⟩ := List.getElem?_eq_some_iff.mp hk
            have : j = kk := (List.getElem_inj R'.nd).mp (y1.trans y2.symm)
            have lt : j < φ.length := (List.getElem?_eq_some_iff.mp ej).1
            rw [R.len] at lt
            omega
          have n0 : H a = none := (l.fresh a (List.mem_of_getElem? hk)).resolve_left na
          refine p φ H' _ l2 R2 ⟨a, _, rfl, n0, na, hh, ?_⟩
          have z := RepL.cut h.length _ _ hc.1.1 rr
          rw [ept l.pre] at z
          exact z
        · exact p.elim
    | _ => exact p.elim
  | nx σ h' => simp only [e, finL] at p; exact p.elim
  | ex e1 σ h' => simp only [e, finL] at p; exact fun φ' H' c d τ l r s er => p φ' H' c d l r er
  | bk _ _ => simp only [e, finL] at p; exact p.elim
  | ct _ _ => simp only [e, finL] at p; exact p.elim
  | bad => simp only [e, finL] at p; exact p.elim
end

/-! ### calls -/
section
variable {X : Cx} {cl : Cl} {W : WX} {e : Expr} {es : List Expr} {fa : Av} {pos p : Pos} {k j n : Nat} {x : Str} {f : Addr} {fd : FuncData} {ps : List Str} {d : Fn} {dl : FnL}
theorem run_g {sp : Sp} {pins : List (Addr × Obj)} {σ : L2.St} {H : Hp} {s : Shared} {Q : VK} {us : List Value} {vs : List V} (F : FnG X.prog X.w X.K X.mg X.base k f fd ps sp) (c : Cs k X) (tk : Takes X W) (hb : Binds X.K fd ps []) (I : L2.Inv X pins σ H s) (r : Vals vs us)
    (h : sp vs H Q fun c d H' => W c d σ H') : wpAny (model X.prog X.w) X.A (call (.ref f) us) (EP X pins σ Q) X.xe s := by
  have hl : us.length = ps.length := by rw [← r.length]; exact F.len _ _ _ _ h
  have b := hb s us I.kIn (by rw [List.append_nil]; exact hl)
  rw [List.append_nil] at b
  refine wpAny_call (codeAny_mono (F.run X.A X.stack s H ⟨us, []⟩ us vs Q _ c.room c.gd I.env0 b r h) fun q s' hq => ?_)
  cases q with
  | error e => exact passAt tk σ pins H s e s' I hq
  | ok fl =>
    cases fl with
    | ret u => exact I.after hq
    | next => exact hq.elim
    | brk => exact hq.elim
    | cont => exact hq.elim
theorem go_call {sp : Sp} {t : TA} (F : FnG X.prog X.w X.K X.mg X.base k f fd ps sp) (c : Cs k X) (tk : Takes X W) (hg : Gl X x) (hm : X.mg x = some (.ref f)) (hk : PySem.W.keepIn X.K (.ref f) = true) (hb : Binds X.K fd ps []) (ha : PA X (e :: es) t) (hdb : (x == ("__debug__" : Str)) = false := by decide)
    (he : starEach (e :: es) X.env = (false, eval e X.env) :: starEach es X.env := by rfl) (hpl : (backTo pos (starEach es X.env)).any (·.1) = false := by rfl) : PE X (.Call (.Name x p) (e :: es) [] pos) (fun σ H Q => t σ H fun vs H1 => sp vs H1 Q fun c d H' => W c d σ H') := by
  refine ⟨fun pins s σ H Q I h => ?_⟩
  refine wpAny_Call_Name_kw (ld_glob I hg hm ?_ hdb)
  exact PySem.W.callWith_K (h₀ := X.base) I.ok.mod.kin hk (thn (ha.run pos pins s σ H _ I h) fun us s1 ⟨vs, H1, I1, r, q⟩ => ⟨I1.kIn, run_g F c tk hb I1 r q⟩) he hpl
theorem go_call0 {sp : Sp} (F : FnG X.prog X.w X.K X.mg X.base k f fd ps sp) (c : Cs k X) (tk : Takes X W) (hg : Gl X x) (hm : X.mg x = some (.ref f)) (hk : PySem.W.keepIn X.K (.ref f) = true) (hb : Binds X.K fd ps []) (hdb : (x == ("__debug__" : Str)) = false := by decide) :
    PE X (.Call (.Name x p) [] [] pos) (fun σ H Q => sp [] H Q fun c d H' => W c d σ H') := by
  refine ⟨fun pins s σ H Q I h => ?_⟩
  refine wpAny_Call_Name_kw (ld_glob I hg hm ?_ hdb)
  exact PySem.W.callWith_K0 I.kIn hk (run_g (us := []) F c tk hb I .nil h)
theorem s_call (F : FnG X.prog X.w X.K X.mg X.base k f fd ps (spP X.K noCl n d)) (c : Cs k X) (tk : Takes X W) (hg : Gl X x) (hm : X.mg x = some (.ref f)) (hk : PySem.W.keepIn X.K (.ref f) = true) (hb : Binds X.K fd ps []) (hn : (e :: es).length = n) (hal : ∀ σ h xs h', fa σ h = .ok xs h' → xs.length = (e :: es).length) (ha : SA X cl W (e :: es) fa) (hdb : (x == ("__debug__" : Str)) = false := by decide)
    (he : starEach (e :: es) X.env = (false, eval e X.env) :: starEach es X.env := by rfl) (hpl : (backTo pos (starEach es X.env)).any (·.1) = false := by rfl) : SE X cl W (.Call (.Name x p) (e :: es) [] pos) (eCall d fa) := PE.of (go_call F c tk hg hm hk hb ha hdb he hpl) fun σ H Q p => by
  obtain ⟨φ, st, h0, S, R0, P⟩ := p
  refine ⟨φ, st, h0, S, R0, ?_⟩
  simp only [eCall] at P
  cases e1 : fa st h0 with
  | bad => simp only [e1, Rs.bind] at P; exact P
  | ex ex1 h1 => simp only [e1, Rs.bind] at P; exact P
  | ok xs h1 =>
    simp only [e1, Rs.bind] at P
    exact fun φ1 H1 vs l1 r1 q1 => ⟨φ1, xs, h1, by rw [hal st h0 xs h1 e1, hn], q1, r1, P.lat l1⟩
theorem l_call (F : FnG X.prog X.w X.K X.mg X.base k f fd ps (spL X.K noCl n dl)) (c : Cs k X) (tk : Takes X W) (hg : Gl X x) (hm : X.mg x = some (.ref f)) (hk : PySem.W.keepIn X.K (.ref f) = true) (hb : Binds X.K fd ps []) (hn : (e :: es).length = n) (hal : ∀ σ h xs h', fa σ h = .ok xs h' → xs.length = (e :: es).length) (ha : SA X cl W (e :: es) fa) (hdb : (x == ("__debug__" : Str)) = false := by decide)
    (he : starEach (e :: es) X.env = (false, eval e X.env) :: starEach es X.env := by rfl) (hpl : (backTo pos (starEach es X.env)).any (·.1) = false := by rfl) : SL X cl W (.Call (.Name x p) (e :: es) [] pos) (lCall dl fa) := PE.of (go_call F c tk hg hm hk hb ha hdb he hpl) fun σ H Q p => by
  obtain ⟨φ, st, h0, S, R0, P⟩ := p
  refine ⟨φ, st, h0, S, R0, ?_⟩
  simp only [lCall] at P
  cases e1 : fa st h0 with
  | bad => simp only [e1, Rs.bind] at P; exact P
  | ex ex1 h1 => simp only [e1, Rs.bind] at P; exact P
  | ok xs h1 =>
    simp only [e1, Rs.bind] at P
    exact fun φ1 H1 vs l1 r1 q1 => ⟨φ1, xs, h1, by rw [hal st h0 xs h1 e1, hn], q1, r1, P.lat l1⟩
theorem s_call0 (F : FnG X.prog X.w X.K X.mg X.base k f fd ps (spP X.K noCl 0 d)) (c : Cs k X) (tk : Takes X W) (hg : Gl X x) (hm : X.mg x = some (.ref f)) (hk : PySem.W.keepIn X.K (.ref f) = true) (hb : Binds X.K fd ps []) (hdb : (x == ("__debug__" : Str)) = false := by decide) : SE X cl W (.Call (.Name x p) [] [] pos) (eCall d aN) :=
  PE.of (go_call0 F c tk hg hm hk hb hdb) fun σ H Q ⟨φ, st, h0, S, R0, P⟩ => ⟨φ, [], h0, rfl, .nil, R0, P⟩
theorem l_call0 (F : FnG X.prog X.w X.K X.mg X.base k f fd ps (spL X.K noCl 0 dl)) (c : Cs k X) (tk : Takes X W) (hg : Gl X x) (hm : X.mg x = some (.ref f)) (hk : PySem.W.keepIn X.K (.ref f) = true) (hb : Binds X.K fd ps []) (hdb : (x == ("__debug__" : Str)) = false := by decide) : SL X cl W (.Call (.Name x p) [] [] pos) (lCall dl aN) :=
  PE.of (go_call0 F c tk hg hm hk hb hdb) fun σ H Q ⟨φ, st, h0, S, R0, P⟩ => ⟨φ, [], h0, rfl, .nil, R0, P⟩
theorem al_nil : ∀ (σ : Sl) (h : Hm) (xs : List D) (h' : Hm), aN σ h = .ok xs h' → xs.length = 0 := fun σ h xs h' e => by simp [aN] at e; simp [← e.1]
theorem al_cons {m : Nat} {f : Ev} {g : Av} (q : ∀ (σ : Sl) (h : Hm) (xs : List D) (h' : Hm), g σ h = .ok xs h' → xs.length = m) : ∀ (σ : Sl) (h : Hm) (xs : List D) (h' : Hm), aC f g σ h = .ok xs h' → xs.length = m + 1 := fun σ h xs h' e => by
  simp only [aC] at e
  cases e1 : f σ h with
  | bad => simp [e1, Rs.bind] at e
  | ex _ _ => simp [e1, Rs.bind] at e
  | ok x h1 =>
    cases e2 : g σ h1 with
    | bad => simp [e1, e2, Rs.bind] at e
    | ex _ _ => simp [e1, e2, Rs.bind] at e
    | ok ys h2 =>
      simp [e1, e2, Rs.bind] at e
      rw [← e.1]
      simp [q _ _ _ _ e2]
end
end Y
end

section
set_option Elab.async false
set_option linter.all false
set_option maxRecDepth 100000
set_option maxHeartbeats 2000000
/-! YJ: repr, min, max, isqrt, gcd, t[::-1]. -/
namespace Y
open PySem PySem.Spec PyProof.Rows L2

mutual
def wid : PyData → Nat
  | .none => 4
  | .bool _ => 5
  | .int i => if i.natAbs < 10 ^ 60 then 61 else if i.natAbs < 10 ^ 200 then 201 else 1000000000
  | .str x => (reprText x).length
  | .list xs => widL xs + 3
  | .tuple xs => widL xs + 3
  | .dict _ => 1000000000
def widL : List PyData → Nat
  | [] => 0
  | x :: xs => wid x + 2 + widL xs
end
theorem tupleText_le (ts : List Str) : (tupleText ts).length ≤ piled ts + 3 := by
  unfold tupleText
  rw [strLen_append, strLen_append]
  have e1 : ((("(" : String) : Str)).length = 1 := rfl
  have e3 : (((if ts.length == 1 then ",)" else ")" : String) : Str)).length ≤ 2 := by split <;> decide
  rw [e1]
  by_cases h : ts = []
  · subst h
    have : (Str.join ", " []).length = 0 := rfl
    omega
  · have := join_length_add ts h
    omega
theorem textFrom_le : ∀ (ts : List Str) (k : Nat) (acc : Str), (textFrom k acc ts).length ≤ acc.length + piled ts
  | [], k, acc => by show acc.length ≤ _; omega
  | t :: r, k, acc => by
    have h := textFrom_le r (k + 1) (acc ++ (if k > 0 then ", " else "" : String) ++ t)
    have e : (acc ++ (if k > 0 then ", " else "" : String) ++ t).length ≤ acc.length + 2 + t.length := by
      rw [strLen_append, strLen_append]
      have : (((if k > 0 then ", " else "" : String) : Str)).length ≤ 2 := by split <;> decide
      omega
    rw [piled_cons]
    show (textFrom (k + 1) _ r).length ≤ _
    omega
theorem listText_le (ts : List Str) : (listText ts).length ≤ piled ts + 3 := by
  have h := textFrom_le ts 0 "["
  show (textFrom 0 "[" ts ++ "]").length ≤ _
  rw [strLen_append]
  have e1 : ((("[" : String) : Str)).length = 1 := rfl
  have e2 : ((("]" : String) : Str)).length = 1 := rfl
  omega
theorem lt60 {i : Int} (h : i.natAbs < 10 ^ 200) : i.natAbs.log2 < 1920 := by
  by_cases e : i.natAbs = 0
  · rw [e]; decide
  · have h2 : (10 ^ 200 : Nat) < 2 ^ 1920 := by decide +kernel
    exact (Nat.log2_lt e).mpr (Nat.lt_trans h h2)
mutual
theorem wid_ok : ∀ p : PyData, wid p ≤ line → p.shown.length ≤ wid p ∧ p.showable = true
  | .none, _ => ⟨by decide, by simp [PyData.showable]⟩
  | .bool b, _ => ⟨by cases b <;> decide, by simp [PyData.showable]⟩
  | .int i, h => by
    by_cases hi : i.natAbs < 10 ^ 60
    · rw [wid, if_pos hi] at *
      refine ⟨?_, by simpa [PyData.showable] using lt60 (Nat.lt_of_lt_of_le hi (by decide +kernel))⟩
      have h1 := int_text_length_le10 (k := 60) (by decide) hi
      show (Str.ofString (toString i)).length ≤ 61
      rw [PySem.ofString_length]
      exact h1
    · by_cases hj : i.natAbs < 10 ^ 200
      · rw [wid, if_neg hi, if_pos hj] at *
        refine ⟨?_, by simpa [PyData.showable] using lt60 hj⟩
        have h1 := int_text_length_le10 (k := 200) (by decide) hj
        show (Str.ofString (toString i)).length ≤ 201
        rw [PySem.ofString_length]
        exact h1
      · rw [wid, if_neg hi, if_neg hj] at h
        exact absurd h (by decide)
  | .str x, h => ⟨by simp only [PyData.shown, wid]; exact Nat.le_refl _, by simp [PyData.showable]⟩
  | .list xs, h => by
    have g := widL_ok xs (by simp only [wid] at h; omega)
    refine ⟨?_, by simpa [PyData.showable] using g.2⟩
    have := listText_le (PyData.shownAll xs)
    simp only [PyData.shown, wid]
    have := g.1
    omega
  | .tuple xs, h => by
    have g := widL_ok xs (by simp only [wid] at h; omega)
    refine ⟨?_, by simpa [PyData.showable] using g.2⟩
    have := tupleText_le (PyData.shownAll xs)
    simp only [PyData.shown, wid]
    have := g.1
    omega
  | .dict _, h => absurd h (by simp only [wid]; decide)
theorem widL_ok : ∀ ps : List PyData, widL ps ≤ line → piled (PyData.shownAll ps) ≤ widL ps ∧ PyData.showableAll ps = true
  | [], _ => ⟨Nat.le_refl _, by simp [PyData.showableAll]⟩
  | p :: ps, h => by
    simp only [widL] at h
    have g1 := wid_ok p (by omega)
    have g2 := widL_ok ps (by omega)
    refine ⟨?_, by simp [PyData.showableAll, g1.2, g2.2]⟩
    simp only [PyData.shownAll, widL, piled_cons]
    have := g1.1
    have := g2.1
    omega
end
/-- repr(x) -/
def bRepr (h : Hm) : List D → Option D
  | [d] => match py h d with
    | some p => if SeqAt.shaped p && decide (wid p ≤ line) then some (.str p.shown) else none
    | none => none
  | _ => none
def minI (ns : List Int) : Option Int := match ns with
  | [] => none
  | n :: r => some (r.foldl min n)
def maxI (ns : List Int) : Option Int := match ns with
  | [] => none
  | n :: r => some (r.foldl max n)
def bMin (h : Hm) : List D → Option D
  | [.tup xs] => ((intsOf xs).bind minI).map .int
  | [d] => ((lstOf h d).bind fun xs => (intsOf xs).bind minI).map .int
  | _ => none
def bMax (h : Hm) : List D → Option D
  | [.tup xs] => ((intsOf xs).bind maxI).map .int
  | [d] => ((lstOf h d).bind fun xs => (intsOf xs).bind maxI).map .int
  | _ => none
def bSqrt (_ : Hm) : List D → Option D
  | [.int a] => if 0 ≤ a ∧ a < big then some (.int (Float64.isqrt a.toNat : Nat)) else none
  | _ => none
def bGcd (_ : Hm) : List D → Option D
  | [.int a, .int b] => some (.int (Nat.gcd a.natAbs b.natAbs : Nat))
  | _ => none
def uRev (_ : Hm) : D → Option D
  | .tup xs => some (.tup xs.reverse)
  | _ => none
def lRev (f : Ev) : Lv := fun σ h => (f σ h).bind fun x h1 => ofO ((lstOf h1 x).map List.reverse) h1

section
variable {X : Cx} {cl : Cl} {W : WX} {e a b c : Expr} {es : List Expr} {f g q : Ev} {fa : Av} {t t' : Tv} {pos : Pos} {k : Nat}
theorem c_reprW (hu0 : X.A.units + 200 < cLine) (gd0 : X.A.guards = some []) : CaY X (.builtin "repr") bRepr := caY fun Q φ H h xs vs z R r e q => by
  rcases xs with _ | ⟨d, _ | _⟩ <;> simp only [bRepr] at e <;> try (cases e; done)
  obtain ⟨v, rfl, rd⟩ := r.one
  cases e1 : py h d with
  | none => rw [e1] at e; cases e
  | some p =>
    rw [e1] at e
    dsimp only at e
    split at e
    · rename_i hw
      cases e
      simp only [Bool.and_eq_true, decide_eq_true_eq] at hw
      have hw1 := wid_ok p hw.2
      have dp := Rep.dp d v p e1 rd
      have q' : Q (.str p.shown) H := q φ H _ (Lat.refl _ _) R (.str _)
      refine ⟨fun us H' Q' => us = [v] ∧ H' = H ∧ Q' (.str p.shown) H, ?_, rfl, rfl, q'⟩
      intro pins s σ H1 xs us Q1 I r1 hh
      obtain ⟨rfl, rfl, qq⟩ := hh
      obtain ⟨u, rfl, ru⟩ := vals1 r1
      have hsz : p.shown.length ≤ sizeLine := by rw [← line_eq]; exact Nat.le_trans hw1.1 hw.2
      cases dp with
      | non => cases ru; exact PySem.P.repr_of_none ⟨.str _, H1, I.tok _, ⟨_, rfl⟩, by simpa [PyData.shown] using qq⟩
      | bl b => cases ru; exact PySem.P.repr_of_bool ⟨.str _, H1, I.tok _, ⟨_, rfl⟩, by simpa [PyData.shown] using qq⟩
      | int i =>
        obtain ⟨t, rfl⟩ := ru
        exact PySem.P.repr_of_int (by simpa [PyData.showable] using hw1.2) ⟨.str _, H1, I.tok _, ⟨_, rfl⟩, by simpa [PyData.shown] using qq⟩
      | str x =>
        obtain ⟨t, rfl⟩ := ru
        exact PySem.P.repr_of_str ⟨.str _, H1, I.tok _, ⟨_, rfl⟩, by simpa [PyData.shown] using qq⟩ (by simpa [PyData.shown] using hsz)
      | lst hq ds =>
        obtain ⟨as, rr⟩ := Dp.reads I _ _ _ (.lst hq ds) ru
        cases ru
        have hu := hu0
        have hd := SeqAt.depth_of_shaped hw.1
        exact repr_of_reads' rr hw1.2 (PyData.noDict_hsm (PyData.hasDict_of_canLay _ (SeqAt.canLay_of_shaped hw.1))) gd0 (by omega) (fun _ _ e => e) (fun h' u tk hk => ⟨.str _, H1, I.kept hk, ⟨_, rfl⟩, qq⟩) hsz
      | tup hq ds =>
        obtain ⟨as, rr⟩ := Dp.reads I _ _ _ (.tup hq ds) ru
        cases ru
        have hu := hu0
        have hd := SeqAt.depth_of_shaped hw.1
        exact repr_of_reads' rr hw1.2 (PyData.noDict_hsm (PyData.hasDict_of_canLay _ (SeqAt.canLay_of_shaped hw.1))) gd0 (by omega) (fun _ _ e => e) (fun h' u tk hk => ⟨.str _, H1, I.kept hk, ⟨_, rfl⟩, qq⟩) hsz
    · cases e
theorem c_repr (c0 : Cs k X) : CaY X (.builtin "repr") bRepr := c_reprW (by have := c0.room.un; omega) c0.gd
theorem alike_ints (ns : List Int) : PySem.W.AlikeAll (ns.map PyData.int) := by
  refine ⟨fun x hx y hy => ?_, fun x hx => ?_⟩
  · obtain ⟨i, _, rfl⟩ := List.mem_map.mp hx
    obtain ⟨j, _, rfl⟩ := List.mem_map.mp hy
    rfl
  · obtain ⟨i, _, rfl⟩ := List.mem_map.mp hx
    exact fun h => by cases h
theorem depth_ints : ∀ ns : List Int, PyData.depthAll (ns.map PyData.int) = 0
  | [] => rfl
  | n :: ns => by simp [PyData.depthAll, PyData.depth, depth_ints ns]
theorem reads_ints {h : Heap} : ∀ (ns : List Int) (us : List Value), Vals (ns.map V.int) us → ∃ as, ReadsAll h us (ns.map PyData.int) as
  | [], us, r => by cases r; exact ⟨_, .nil⟩
  | n :: ns, us, r => by
    cases r with
    | cons r1 r2 =>
      obtain ⟨as, hh⟩ := reads_ints ns _ r2
      obtain ⟨t, rfl⟩ := r1
      exact ⟨_, .cons (.int n t) hh⟩
theorem c_min (c0 : Cs k X) : CaY X (.builtin "min") bMin := caY fun Q φ H h xs vs z R r e q => by
  rcases xs with _ | ⟨d, _ | _⟩ <;> try (simp only [bMin] at e <;> cases e; done)
  obtain ⟨v, rfl, rd⟩ := r.one
  have fin : ∀ (a : Addr) (ds : List D) (vs : List V), v = .ref a → SqL X.K H a vs ∨ SqT X.K H a vs → RepL X.K φ H ds vs → ((intsOf ds).bind minI).map D.int = some z → ∃ r, CallR X (.builtin "min") r ∧ r [v] H Q := by
    intro a ds vs ev hq rr ez
    subst ev
    obtain ⟨m, e1, rfl⟩ := Option.map_eq_some_iff.mp ez
    obtain ⟨ns, e2, e3⟩ := Option.bind_eq_some_iff.mp e1
    have e4 := rr.intsOf e2
    subst e4
    cases ns with
    | nil => cases e3
    | cons n ns =>
      cases e3
      have q' : Q (.int (ns.foldl min n)) H := q φ H _ (Lat.refl _ _) R (.int _)
      refine ⟨fun us H' Q' => us = [.ref a] ∧ H' = H ∧ Q' (.int (ns.foldl min n)) H, ?_, rfl, rfl, q'⟩
      intro pins s σ H1 xs us Q1 I r1 hh
      obtain ⟨rfl, rfl, qq⟩ := hh
      rw [Vals.ref1 r1]
      have hu := c0.room.un
      have hd := depth_ints (n :: ns)
      have ha := alike_ints (n :: ns)
      simp only [List.map_cons] at ha hd
      have goal : ∀ (i : Nat) v h' tk bs, Reads h' v (PySem.W.minD (.int n) (ns.map .int)) bs → (∀ b o, s.heap.get? b = some o → h'.get? b = some o) → EP X pins σ Q1 v { s with heap := h', toks := tk } := by
        intro i v h' tk bs rr hk
        rw [PySem.W.minD_ints] at rr
        cases rr
        exact ⟨.int _, H1, I.kept hk, ⟨_, rfl⟩, qq⟩
      rcases hq with hq | hq
      · obtain ⟨its, rv, hl, hz⟩ := I.list hq
        obtain ⟨as, hr⟩ := reads_ints (h := s.heap) (n :: ns) its rv
        exact PySem.W.min_list_data c0.room.hd hl.isList (by simpa using hr) ha (by rw [hd]; omega) fun i v h' tk bs _ h2 h3 => goal i v h' tk bs h2 h3
      · obtain ⟨its, rv, hl, hz⟩ := I.tuple hq
        obtain ⟨as, hr⟩ := reads_ints (h := s.heap) (n :: ns) its rv
        exact PySem.W.min_tuple_data c0.room.hd hl (by simpa using hr) ha (by rw [hd]; omega) fun i v h' tk bs _ h2 h3 => goal i v h' tk bs h2 h3
  have lsts : ((lstOf h d).bind fun xs => (intsOf xs).bind minI).map D.int = some z → ∃ r, CallR X (.builtin "min") r ∧ r [v] H Q := fun e => by
    obtain ⟨m, e1, e2⟩ := Option.map_eq_some_iff.mp e
    obtain ⟨ys, e3, e4⟩ := Option.bind_eq_some_iff.mp e1
    obtain ⟨a, us, rfl, hq, rr⟩ := lst_at R rd e3
    exact fin a ys us rfl (.inl hq) rr (by rw [e4]; exact congrArg some e2)
  cases d
  case tup xs =>
    cases rd with
    | tup hq rr => exact fin _ _ _ rfl (.inr (SqT.of hq)) rr e
  all_goals exact lsts e
theorem c_max (c0 : Cs k X) : CaY X (.builtin "max") bMax := caY fun Q φ H h xs vs z R r e q => by
  rcases xs with _ | ⟨d, _ | _⟩ <;> try (simp only [bMax] at e <;> cases e; done)
  obtain ⟨v, rfl, rd⟩ := r.one
  have fin : ∀ (a : Addr) (ds : List D) (vs : List V), v = .ref a → SqL X.K H a vs ∨ SqT X.K H a vs → RepL X.K φ H ds vs → ((intsOf ds).bind maxI).map D.int = some z → ∃ r, CallR X (.builtin "max") r ∧ r [v] H Q := by
    intro a ds vs ev hq rr ez
    subst ev
    obtain ⟨m, e1, rfl⟩ := Option.map_eq_some_iff.mp ez
    obtain ⟨ns, e2, e3⟩ := Option.bind_eq_some_iff.mp e1
    have e4 := rr.intsOf e2
    subst e4
    cases ns with
    | nil => cases e3
    | cons n ns =>
      cases e3
      have q' : Q (.int (ns.foldl max n)) H := q φ H _ (Lat.refl _ _) R (.int _)
      refine ⟨fun us H' Q' => us = [.ref a] ∧ H' = H ∧ Q' (.int (ns.foldl max n)) H, ?_, rfl, rfl, q'⟩
      intro pins s σ H1 xs us Q1 I r1 hh
      obtain ⟨rfl, rfl, qq⟩ := hh
      rw [Vals.ref1 r1]
      have hu := c0.room.un
      have hd := depth_ints (n :: ns)
      have ha := alike_ints (n :: ns)
      simp only [List.map_cons] at ha hd
      have goal : ∀ (i : Nat) v h' tk bs, Reads h' v (PySem.W.maxD (.int n) (ns.map .int)) bs → (∀ b o, s.heap.get? b = some o → h'.get? b = some o) → EP X pins σ Q1 v { s with heap := h', toks := tk } := by
        intro i v h' tk bs rr hk
        rw [PySem.W.maxD_ints] at rr
        cases rr
        exact ⟨.int _, H1, I.kept hk, ⟨_, rfl⟩, qq⟩
      rcases hq with hq | hq
      · obtain ⟨its, rv, hl, hz⟩ := I.list hq
        obtain ⟨as, hr⟩ := reads_ints (h := s.heap) (n :: ns) its rv
        exact PySem.W.max_list_data c0.room.hd hl.isList (by simpa using hr) ha (by rw [hd]; omega) fun i v h' tk bs _ h2 h3 => goal i v h' tk bs h2 h3
      · obtain ⟨its, rv, hl, hz⟩ := I.tuple hq
        obtain ⟨as, hr⟩ := reads_ints (h := s.heap) (n :: ns) its rv
        exact PySem.W.max_tuple_data c0.room.hd hl (by simpa using hr) ha (by rw [hd]; omega) fun i v h' tk bs _ h2 h3 => goal i v h' tk bs h2 h3
  have lsts : ((lstOf h d).bind fun xs => (intsOf xs).bind maxI).map D.int = some z → ∃ r, CallR X (.builtin "max") r ∧ r [v] H Q := fun e => by
    obtain ⟨m, e1, e2⟩ := Option.map_eq_some_iff.mp e
    obtain ⟨ys, e3, e4⟩ := Option.bind_eq_some_iff.mp e1
    obtain ⟨a, us, rfl, hq, rr⟩ := lst_at R rd e3
    exact fin a ys us rfl (.inl hq) rr (by rw [e4]; exact congrArg some e2)
  cases d
  case tup xs =>
    cases rd with
    | tup hq rr => exact fin _ _ _ rfl (.inr (SqT.of hq)) rr e
  all_goals exact lsts e
theorem c_sqrt : CaY X (.builtin "math.isqrt") bSqrt := caY fun Q φ H h xs vs z R r e q => by
  rcases xs with _ | ⟨d, _ | _⟩ <;> try (simp only [bSqrt] at e <;> cases e; done)
  obtain ⟨v, rfl, rd⟩ := r.one
  cases rd <;> simp only [bSqrt] at e <;> try (cases e; done)
  rename_i a
  split at e
  · rename_i hz
    cases e
    have q' : Q (.int (Float64.isqrt a.toNat : Nat)) H := q φ H _ (Lat.refl _ _) R (.int _)
    refine ⟨fun us H' Q' => us = [.int a] ∧ H' = H ∧ Q' (.int (Float64.isqrt a.toNat : Nat)) H, ?_, rfl, rfl, q'⟩
    intro pins s σ H1 xs us Q1 I r1 hh
    obtain ⟨rfl, rfl, qq⟩ := hh
    obtain ⟨u, rfl, t, rfl⟩ := vals1 r1
    exact PySem.W.mg_isqrt hz.1 hz.2 ⟨.int _, H1, I.tok _, ⟨_, rfl⟩, qq⟩
  · cases e
theorem c_gcd : CaY X (.builtin "math.gcd") bGcd := caY fun Q φ H h xs vs z R r e q => by
  have key : ∃ a b, xs = [.int a, .int b] ∧ z = .int (Nat.gcd a.natAbs b.natAbs : Nat) := by
    unfold bGcd at e
    split at e
    · cases e; exact ⟨_, _, rfl, rfl⟩
    · cases e
  obtain ⟨a, b, rfl, rfl⟩ := key
  cases r with
  | cons r1 r2 =>
    cases r2 with
    | cons r3 r4 =>
      cases r4
      cases r1
      cases r3
      exact ⟨_, cr_gcd, _, _, rfl, q φ H _ (Lat.refl _ _) R (.int _)⟩
/-- f(e, ..), f a module's name for a built-in function -/
theorem s_bM {x : Str} {id : String} {p : Pos} {o : Hm → List D → Option D} (hc : CaY X (.builtin id) o) (hg : Gl X x) (hm : X.mg x = some (.builtin id)) (ha : SA X cl W (e :: es) fa) (hdb : (x == ("__debug__" : Str)) = false := by decide)
    (he : starEach (e :: es) X.env = (false, eval e X.env) :: starEach es X.env := by rfl) (hpl : (backTo pos (starEach es X.env)).any (·.1) = false := by rfl) : SE X cl W (.Call (.Name x p) (e :: es) [] pos) (eB o fa) := PE.of (pe_callBfun hc hg hm ha hdb he hpl) fun σ H Q p =>
  seq1 (k := fun xs h1 => ofO (o h1 xs) h1) p fun φ H1 h1 xs vs R r P => ⟨cl, fun c d H' => W c d σ H', φ, h1, xs, R, r, P⟩
/-! ### t[::-1] -/
theorem fm_congr {α β : Type} {f g : α → Option β} : ∀ (l : List α), (∀ x ∈ l, f x = g x) → l.filterMap f = l.filterMap g
  | [], _ => rfl
  | x :: l, h => by
    have h1 := h x List.mem_cons_self
    have h2 := fm_congr l fun y hy => h y (List.mem_cons_of_mem _ hy)
    simp only [List.filterMap_cons, h1, h2]
theorem pick_rev (xs : Array Value) : ((List.range xs.size).filterMap fun (m : Nat) => xs[((xs.size : Int) - 1 + (m : Int) * (-1)).toNat]?).toArray = xs.toList.reverse.toArray := by
  rw [← PySem.W.krv_pick]
  unfold slicePick
  rw [PySem.W.krv_bounds]
  show _ = ((sliceRange ((xs.size : Int) - 1) (-1) (-1)).filterMap (xs[·]?)).toArray
  rw [PySem.W.krv_sliceRange, List.filterMap_map]
  congr 1
  refine fm_congr _ fun m hm => ?_
  have hm := List.mem_range.mp hm
  have e : ((xs.size : Int) - 1 + (m : Int) * (-1)).toNat = xs.size - 1 - m := by omega
  rw [e]
  rfl
end
section
variable {prog : Program} {w : World} {A : Around} {E : Value → Shared → Prop} {s : Shared}
theorem placesR (n : Nat) : Builtin.Slice.slicePlaces ((n : Int) - 1) (-1) (-1) = n := by
  unfold Builtin.Slice.slicePlaces
  rw [if_neg (by decide)]
  by_cases h : (n : Int) - 1 > -1
  · rw [if_pos h]
    have : ((n : Int) - 1 - -1 - 1) / (- -1) + 1 = n := by
      rw [show (- -1 : Int) = 1 by decide, Int.ediv_one]; omega
    rw [this]; rfl
  · rw [if_neg h]
    have : n = 0 := by omega
    subst this; rfl
theorem appliedR {sl : Addr} {vs : Value} {n : Nat} {Q : Int × Int × Nat → Shared → Prop} (hs : s.heap.IsSliceOf sl .none .none vs) (ps : IsPart vs (some (-1))) (h : Q ((n : Int) - 1, -1, n) s) :
    wpAny (model prog w) A (Builtin.Slice.sliceApplied (.ref sl) (pure (n : Int))) Q E s := by
  obtain ⟨o, ho, _, hd⟩ := id hs
  unfold Builtin.Slice.sliceApplied Builtin.Slice.sliceFields
  refine wpAny_bind (wpAny_bind (wpAny_field ho hd (x := .none) rfl (wpAny_bind (wpAny_field ho hd (x := .none) rfl (wpAny_bind (wpAny_field ho hd (x := vs) rfl (wpAny_pure ?_)))))))
  refine wpAny_bind (HT.slicePart_ ps ?_)
  show wpAny _ _ (if ((-1 : Int) == 0) = true then _ else _) _ _ s
  rw [if_neg (by decide)]
  refine wpAny_bind (slicePart_none (wpAny_bind (slicePart_none (wpAny_bind (wpAny_pure ?_)))))
  show wpAny _ _ (pure ((n : Int) - 1, (-1 : Int), Builtin.Slice.slicePlaces ((n : Int) - 1) (-1) (-1))) _ _ s
  rw [placesR]
  exact wpAny_pure h
theorem get_tup_rev {t sl : Addr} {items : Array Value} {vs : Value} {Q : Value → Shared → Prop} (ht : IsTup s.heap t items) (hs : s.heap.IsSliceOf sl .none .none vs) (ps : IsPart vs (some (-1)))
    (h : Q (.ref s.heap.objs.size) { s with heap := s.heap.push { cls := .type "tuple", data := .seq items.toList.reverse.toArray } }) (hsz : items.size ≤ sizeLine) : wpAny (model prog w) A (getItem (.ref t) (.ref sl)) Q E s := by
  obtain ⟨o, ho, hc, hd⟩ := id hs
  have T : s.TypeIs (.ref sl) "slice" := ⟨o, ho, hc⟩
  unfold getItem
  with_reducible refine wpAny_holding ?_
  first | refine wpAny_bind (wpAny_pure ?_) | skip
  refine wpAny_bind (wpAny_sequenceKey ht.typeIs (by decide) (wpAny_bind (wpAny_callSpecial?_slot (name := Str.ofString "__getitem__") ht.typeIs PyProof.Rows.slot_tuple_getitem (wpAny_call_entry PyProof.Rows.slot_tuple_getitem ht.typeIs PyProof.Rows.entry_tuple_getitem ?_ (PyProof.Rows.args_tuple_getitem _ _)))))
  show wpAny _ _ (Builtin.Tuple.tupleItemsOf (.ref t) >>= _) _ _ s
  refine wpAny_bind (tupleItemsOf_ ht (wpAny_bind (wpAny_typeOf T ?_)))
  rw [if_pos (by decide)]
  refine wpAny_bind (appliedR hs ps ?_)
  have no : ¬ ((((items.size : Int) - 1 == 0) && (-1 : Int) == 1 && items.size == items.size) = true) := by
    intro q
    rw [Bool.and_eq_true, Bool.and_eq_true] at q
    exact absurd q.1.2 (by decide)
  show wpAny _ _ (if ((((items.size : Int) - 1 == 0) && (-1 : Int) == 1 && items.size == items.size) = true) then _ else _) _ _ s
  rw [if_neg no, pick_rev]
  have sz : sizeOk (.seq items.toList.reverse.toArray) := by
    show items.toList.reverse.toArray.size ≤ sizeLine
    simpa using hsz
  first
    | exact wpAny_bind (m := Builtin.Tuple.tupleExact _) (wpAny_newObj_type (wpAny_pure ⟨_, rfl, wpAny_pure h⟩) sz)
    | exact wpAny_bind (m := Builtin.Tuple.tupleExact _) (wpAny_newObj_type (wpAny_bind (wpAny_pure (wpAny_pure ⟨_, rfl, wpAny_pure h⟩))) sz)
    | exact wpAny_bind (wpAny_bind (m := Builtin.Tuple.tupleExact _) (wpAny_newObj_type (wpAny_pure (wpAny_pure ⟨_, rfl, wpAny_pure h⟩)) sz))
    | exact wpAny_bind (wpAny_bind (m := Builtin.Tuple.tupleExact _) (wpAny_newObj_type (wpAny_pure ⟨_, rfl, wpAny_pure h⟩) sz))
end
section
variable {X : Cx} {cl : Cl} {W : WX} {e a b c : Expr} {es : List Expr} {f g q : Ev} {fa : Av} {t t' : Tv} {pos : Pos} {k : Nat}
theorem RepL.rev {K : PySem.W.Frag} {φ : List Addr} {H : Hp} : ∀ {ds : List D} {vs : List V}, RepL K φ H ds vs → RepL K φ H ds.reverse vs.reverse
  | [], _, r => by cases r; exact .nil
  | d :: ds, _, r => by
    cases r with
    | cons h r => simpa using (RepL.rev r).append (.cons h .nil)
def tRevT (K : PySem.W.Frag) (te : TE) : TE := fun σ H Q => te σ H fun x H1 => ∃ a xs, x = .ref a ∧ SqT K H1 a xs ∧ ∀ p, H1 p = none → Q (.ref p) (upd H1 p (.tup xs.reverse))
theorem pe_revT {te : TE} {kk : Nat} {p1 p2 p3 : Pos} (he : PE X e te) : PE X (.Subscript e (.Slice none none (some (.UnaryOp .USub (.Constant (.int 1) kk p1) p2)) p3) pos) (tRevT X.K te) := by
  refine ⟨fun pins s σ H Q I h => ?_⟩
  refine Subscript_ (thn (he.run pins s σ H _ I h) fun v s1 ⟨x, H1, I1, r1, a, xs, ex, hx, q⟩ => ?_)
  subst ex
  cases r1
  have st : PO X (some (.UnaryOp .USub (.Constant (.int 1) kk p1) p2)) (tPart (tUn (rU fun i => .int (-i)) (L2.tC (.int 1)))) := po_some (pe_un un_neg pe_int)
  refine wpAny_Slice (thn (po_none.run pins s1 σ H1 (fun o H2 => o = none ∧ H2 = H1) I1 ⟨rfl, rfl⟩) fun vl s2 ⟨l, H2, I2, pl, el, e2⟩ => ?_)
  subst el e2
  cases pl
  refine thn (po_none.run pins s2 σ H2 (fun o H3 => o = none ∧ H3 = H2) I2 ⟨rfl, rfl⟩) fun vu s3 ⟨u, H3, I3, pu, eu, e3⟩ => ?_
  subst eu e3
  cases pu
  refine thn (st.run pins s3 σ H3 (fun o H4 => o = some (-1) ∧ H4 = H3) I3 ⟨1, rfl, -1, rfl, rfl, rfl⟩) fun vs s4 ⟨o, H4, I4, ps, eo, e4⟩ => ?_
  subst eo e4
  have I5 : Inv X pins σ H4 { s4 with heap := s4.heap.push { cls := .type "slice", data := .fields #[.none, .none, vs] } } := I4.kept (t' := s4.toks) fun b ob q => Heap.get?_push_of_some _ q
  obtain ⟨its, r, ht, hz⟩ := I5.tuple hx
  have hlen := r.length
  show wpAny (model X.prog X.w) X.A (subscriptTail e (.Slice none none (some (.UnaryOp .USub (.Constant (.int 1) kk p1) p2)) p3) (.ref a) (.ref s4.heap.objs.size)) (EP X pins σ Q) X.xe { s4 with heap := s4.heap.push { cls := .type "slice", data := .fields #[.none, .none, vs] } }
  refine tail_any (ops := [.ref a, .ref s4.heap.objs.size]) ht.typeIs (PyProof.Rows.slot_tuple_getitem.lookup) ?_ (by with_unfolding_all rfl)
  refine get_tup_rev ht (Heap.IsSliceOf.new _ .none .none vs) ps ?_ (by rw [List.size_toArray]; omega)
  refine ⟨.ref _, _, I5.laid (t' := s4.toks) (o := .tup xs.reverse) (fun b ob q => Heap.get?_push_of_some _ q) (Nat.le_refl _) ?_, rfl, q _ (I5.hok.fresh (Nat.le_refl _))⟩
  exact ⟨by rw [List.length_reverse]; exact hz, _, r.reverse, IsTup.new _ _⟩
theorem s_revT {kk : Nat} {p1 p2 p3 : Pos} (ha : SE X cl W a f) : SE X cl W (.Subscript a (.Slice none none (some (.UnaryOp .USub (.Constant (.int 1) kk p1) p2)) p3) pos) (e1 uRev f) := PE.of (pe_revT ha) fun σ H Q p => by
  refine seq1 (k := fun x h1 => ofO (uRev h1 x) h1) p fun φ H1 h1 x v R rx P => ?_
  cases rx <;> simp only [uRev, ofO] at P <;> try (exact P.elim)
  rename_i hq rr
  exact ⟨_, _, rfl, SqT.of hq, fun p hp => P φ _ _ (Lat.new hp) (R.new hp) (.tup upd_same (RepL.mono (List.prefix_refl _) (Per.new hp) _ _ (RepL.rev rr)))⟩
end
end Y
end

section
set_option Elab.async false
set_option linter.all false
set_option maxRecDepth 100000
set_option maxHeartbeats 2000000
/-! YK: the law's end. -/
namespace Y
open PySem PySem.Spec PyProof.Rows L2

/-- what the defs that make lambdas ask of the ground -/
def TBs (K : PySem.W.Frag) (base : Heap) (mg : Str → Option Value) : Prop := ∀ x c P, x ∈ lamN → PySem.W.tabIn K x = some (c, P) → LamX.TabB base mg c P
/-- .. of the heap at the law's call -/
def TBh (K : PySem.W.Frag) (h : Heap) : Prop := ∀ x c P, x ∈ lamN → PySem.W.tabIn K x = some (c, P) → PySem.W.CodeHd h c P ∧ h.get? P = some { cls := .none, data := .fields #[] } ∧ K.lookup P = none
/-- the script is tracked, or not, and the tables -/
def tabL (K : PySem.W.Frag) : List Addr := lamN.filterMap fun x => (PySem.W.tabIn K x).map (·.2)
theorem tabL_mem {K : PySem.W.Frag} {b : Addr} : b ∈ tabL K ↔ ∃ x c, x ∈ lamN ∧ PySem.W.tabIn K x = some (c, b) := by
  unfold tabL
  rw [List.mem_filterMap]
  constructor
  · rintro ⟨x, hx, e⟩
    obtain ⟨⟨c, P⟩, e1, e2⟩ := Option.map_eq_some_iff.mp e
    cases e2
    exact ⟨x, c, hx, e1⟩
  · rintro ⟨x, c, hx, e⟩
    exact ⟨x, hx, by rw [e]; rfl⟩
def scrH (K : PySem.W.Frag) (t : Bool) (a : Addr) (vs : List Value) (ns : List Int) : Hp := fun b => if t = true ∧ b = a then some (.frz { cls := .type "list", data := .seq vs.toArray } (.lst (ns.map V.int))) else if b ∈ tabL K then some (.tbl #[]) else none
theorem scr_some {K : PySem.W.Frag} {t : Bool} {a b : Addr} {vs : List Value} {ns : List Int} {u : HO} (e : scrH K t a vs ns b = some u) : (t = true ∧ b = a ∧ u = .frz { cls := .type "list", data := .seq vs.toArray } (.lst (ns.map V.int))) ∨ (b ∈ tabL K ∧ u = .tbl #[]) := by
  unfold scrH at e
  split at e
  · rename_i h; cases e; exact .inl ⟨h.1, h.2, rfl⟩
  · split at e
    · rename_i h; cases e; exact .inr ⟨h, rfl⟩
    · cases e
theorem scr_at {K : PySem.W.Frag} {a : Addr} {vs : List Value} {ns : List Int} : scrH K true a vs ns a = some (.frz { cls := .type "list", data := .seq vs.toArray } (.lst (ns.map V.int))) := by simp [scrH]
section
variable {P : Program} {w : World} {K : PySem.W.Frag} {mg mb : Str → Option Value} {k : Nat} {fa a : Addr} {fd : FuncData} {x : Str} {s₁ : Shared} {vs : List Value} {ns : List Int} {d : Fn} {cl : Cl}
/-- what the law's def must do: True, whatever the script -/
def LawTrue (d : Fn) (ns : List Int) : Prop := ∃ h, d [.sq (ns.map .int)] [] = .ok (.bl true) h
theorem rep_ints (φ : List Addr) (H : Hp) : ∀ ns : List Int, RepL K φ H (ns.map D.int) (ns.map V.int)
  | [] => .nil
  | n :: ns => .cons (.int n) (rep_ints φ H ns)
theorem law_run (KX : K.In s₁.heap) (gm : s₁.heap.Ns mainGlobals mg) (gb : s₁.heap.Ns builtinsNs mb) (bb : ∀ x : Str, x ≠ "__name__" → mb x = bootBuiltins x) (nl : s₁.heap.NoLimit) (g0 : s₁.gens = #[]) (hT : TBh K s₁.heap)
    (bmn : ∃ (bm : Addr) (ob : Obj), mg "__builtins__" = some (.ref bm) ∧ bm ≠ builtinsNs ∧ s₁.heap.get? bm = some ob ∧ ob.cls = .type "module" ∧ ob.dict = some builtinsNs ∧ ob.data = .plain)
    (ea : s₁.heap.get? a = some { cls := .type "list", data := .seq vs.toArray }) (ai : IntsAre vs ns) (le : ns.length ≤ sizeLine) (rm : Room k callerA)
    (F : ∀ base : Heap, K.In base → base.Ns mainGlobals mg → TBs K base mg → FnG P w K mg base k fa fd [x] (spP K noCl 1 d)) (bi : ∀ (s : Shared) (u : Value), BindsTo s fd ⟨[u], []⟩ [(x, u)]) (T : LawTrue d ns) :
    codeAny (model P w) callerA (.call (.ref fa) ⟨[.ref a], []⟩) (fun r s' => r = .ok (.ret (.bool true)) ∧ OldK s₁.heap s'.heap ∧ s'.os = s₁.os ∧ AllBare s'.gens) s₁ := by
  have rv := vals_ints ai
  have len := ai.length
  have isT : ∀ b : Addr, b ∈ tabL K → (∃ c, PySem.W.CodeHd s₁.heap c b) ∧ s₁.heap.get? b = some { cls := .none, data := .fields #[] } ∧ K.lookup b = none := fun b m => by
    obtain ⟨x, c, m1, e⟩ := tabL_mem.mp m
    obtain ⟨h1, h2, h3⟩ := hT x c b m1 e
    exact ⟨⟨c, h1⟩, h2, h3⟩
  have aT : a ∉ tabL K := fun m => by
    have q := (isT a m).2.1
    rw [ea] at q
    cases q
  have main : ∀ t : Bool, (t = true → K.lookup a = none) → FzL K (scrH K t a vs ns) a (ns.map V.int) → codeAny (model P w) callerA (.call (.ref fa) ⟨[.ref a], []⟩) (fun r s' => r = .ok (.ret (.bool true)) ∧ OldK s₁.heap s'.heap ∧ s'.os = s₁.os ∧ AllBare s'.gens) s₁ := by
    intro t ht hz
    have old : ∀ {b : Addr} {o : Obj}, s₁.heap.get? b = some o → scrH K t a vs ns b = none → (hidT s₁.heap (scrH K t a vs ns)).get? b = some o := fun e n => hidT_get e n
    have free : ∀ {b : Addr} {o : Obj}, s₁.heap.get? b = some o → o ≠ { cls := .type "list", data := .seq vs.toArray } → o ≠ { cls := .none, data := .fields #[] } → scrH K t a vs ns b = none := fun {b o} e z z2 => by
      cases q : scrH K t a vs ns b with
      | none => rfl
      | some u =>
        rcases scr_some q with ⟨_, rfl, _⟩ | ⟨m, _⟩
        · rw [ea] at e
          exact absurd (Option.some.inj e).symm z
        · rw [(isT b m).2.1] at e
          exact absurd (Option.some.inj e).symm z2
    have nsv : ∀ {b : Addr} {m : Str → Option Value}, s₁.heap.Ns b m → (hidT s₁.heap (scrH K t a vs ns)).Ns b m := fun {b m} ⟨o, es, ep, e, dd, r⟩ => ⟨o, es, ep, old e (free e (fun z => by rw [z] at dd; cases dd) fun z => by rw [z] at dd; cases dd), dd, r⟩
    have KB : K.In (hidT s₁.heap (scrH K t a vs ns)) := fun b o e => old (KX b o e) (by
      cases q : scrH K t a vs ns b with
      | none => rfl
      | some u =>
        rcases scr_some q with ⟨z, rfl, _⟩ | ⟨m, _⟩
        · rw [ht z] at e
          cases e
        · rw [(isT b m).2.2] at e
          cases e)
    have ok : HOk P w (scrH K t a vs ns) s₁.heap := fun b u e => by
      rcases scr_some e with ⟨_, rfl, rfl⟩ | ⟨m, rfl⟩
      · exact ⟨ea, by rw [List.length_map]; exact le, vs, _, rv, ea⟩
      · exact (isT b m).2.1
    have TB : TBs K (hidT s₁.heap (scrH K t a vs ns)) mg := fun x c Q m e => by
      obtain ⟨h1, h2, _⟩ := hT x c Q m e
      refine ⟨?_, ?_, fun z => ?_⟩
      · obtain ⟨o, us, file, tf, flags, tg, inF, text, tt, e1, r1, r2, r3, r4, r5, r6, r7, r8, hne⟩ := h1
        refine ⟨o, us, file, tf, flags, tg, inF, text, tt, old e1 (free e1 (fun z => ?_) fun z => ?_), r1, r2, r3, r4, r5, r6, r7, r8, hne⟩
        · rw [z] at r2
          cases r2
        · rw [z] at r2
          cases r2
          simp at r3
      · obtain ⟨bm, ob, b1, b2, b3, b4, b5, b6⟩ := bmn
        have nG : bm ≠ mainGlobals := fun q => by
          obtain ⟨o, es, ep, e, hd, _⟩ := gm
          rw [q, e] at b3
          cases b3
          rw [hd] at b6
          cases b6
        have nP : bm ≠ Q := fun q => by
          rw [q, h2] at b3
          cases b3
          cases b6
        refine ⟨bm, ob, b1, b2, nG, nP, old b3 (free b3 (fun z => ?_) fun z => ?_), b4, b5, b6⟩
        · rw [z] at b6
          cases b6
        · rw [z] at b6
          cases b6
      · obtain ⟨o, es, ep, e, hd, _⟩ := gm
        rw [z, h2] at e
        cases e
        cases hd
    have env : Env0 P w K mg (hidT s₁.heap (scrH K t a vs ns)) callerA [] s₁ (scrH K t a vs ns) :=
      ⟨rfl, ⟨KB, nsv gm, ⟨mb, nsv gb, bb⟩, let ⟨m, h1, h2⟩ := nl; ⟨m, nsv h1, h2⟩⟩, fun b o e => of_hidT e, Nat.le_of_eq (hidT_size _ _), trivial, fun b hb => absurd (show b ∈ ([] : List Addr) from hb) (by simp), ok, .of_eq g0⟩
    have tb0 : TbAll K (scrH K t a vs ns) := fun x c Q m e => LamX.TabS.nil (by
      have mQ : Q ∈ tabL K := tabL_mem.mpr ⟨x, c, m, e⟩
      unfold scrH
      rw [if_neg (fun z : t = true ∧ Q = a => aT (z.2 ▸ mQ)), if_pos mQ])
    obtain ⟨h1, e1⟩ := T
    have wish : spP K noCl 1 d [.ref a] (scrH K t a vs ns) (fun v _ => v = .bl true) (fun _ _ _ => False) := by
      refine ⟨[], [.sq (ns.map D.int)], [], rfl, .cons (.sq hz (rep_ints _ _ ns)) .nil, ⟨rfl, .nil, tb0, fun k a o e => by simp at e⟩, ?_⟩
      rw [e1]
      intro φ' H' v _ _ r
      cases r
      rfl
    refine codeAny_mono ((F _ KB (nsv gm) TB).run callerA [] s₁ (scrH K t a vs ns) ⟨[.ref a], []⟩ [.ref a] [.ref a] _ _ rm rfl env (bi s₁ (.ref a)) (.cons rfl .nil) wish) fun r s' h => ?_
    cases r with
    | error e =>
      obtain ⟨_, _, _, _, _, _, _, _, _, _, _, _, z⟩ := h
      exact z.elim
    | ok fl =>
      cases fl with
      | ret u =>
        obtain ⟨v, H', eo, br, un, ok', ru, rfl⟩ := h
        obtain rfl : u = Value.bool true := ru
        have kept : ∀ b o, b ∉ tabL K → s₁.heap.get? b = some o → s'.heap.get? b = some o := fun b o nb e => by
          cases q : scrH K t a vs ns b with
          | none => exact un.keep b o e q (fun z => absurd (show b ∈ ([] : List Addr) from z) (by simp)) (by simp)
          | some u =>
            rcases scr_some q with ⟨z1, rfl, rfl⟩ | ⟨m, _⟩
            · obtain ⟨e3, _⟩ := ok' b _ (un.frzs b _ _ q)
              rw [ea] at e
              cases e
              exact e3
            · exact absurd m nb
        have grown : ∀ b ∈ tabL K, ∃ more : Array Value, s'.heap.get? b = some { cls := .none, data := .fields more } := fun b m => by
          obtain ⟨more, z⟩ := un.tbls b #[] (by unfold scrH; rw [if_neg (fun z : t = true ∧ b = a => aT (z.2 ▸ m)), if_pos m])
          exact ⟨_, ok' b _ z⟩
        refine ⟨rfl, ⟨fun b o e => ?_, fun b o e => ?_⟩, eo, br⟩
        · by_cases m : b ∈ tabL K
          · obtain ⟨more, hm⟩ := grown b m
            obtain ⟨⟨c, hc⟩, h2, _⟩ := isT b m
            rw [h2] at e
            cases e
            exact .inr (.inl ⟨(hc.tab h2).isCodeTable, rfl, #[], more, rfl, by rw [Array.empty_append]; exact hm⟩)
          · exact .inl (kept b o m e)
        · by_cases m : b ∈ tabL K
          · obtain ⟨more, hm⟩ := grown b m
            exact ⟨_, hm⟩
          · exact ⟨o, kept b o m e⟩
      | next => exact False.elim h
      | brk => exact False.elim h
      | cont => exact False.elim h
  cases hk : K.lookup a with
  | none => exact main true (fun _ => hk) (.inl ⟨_, scr_at⟩)
  | some o =>
    have e := KX a o hk
    rw [ea] at e
    cases e
    exact main false (fun z => nomatch z) (.inr (.inr ⟨_, vs.toArray, _, hk, rfl, rfl, rfl, by rw [List.size_toArray, len]; exact le, by simpa using rv⟩))
theorem walkG {l : PySem.W.OpenLaw} {n k : Nat} {q : Program} {loose : List Str} {XP : (Str → Option Value) → Heap → Prop} {YP : World → Heap → Prop} {dr : DefRec} {K : Params → PySem.W.Frag} {x : Str} {d : Fn} (hn : l.most = some n) (hz : n ≤ sizeLine) (df : dr.params.defaults = []) (rm : Room k callerA)
    (hY : ∀ (w : World) (h : Heap), YP w h → (K w.params).In h) (T : ∀ ns : List Int, ns.length ≤ n → LawTrue d ns) (hL : (lamN.all fun x => (recsOf q).any fun e => e.name == x) = true)
    (F : ∀ (w : World) (mg : Str → Option Value) (fa : Addr) (h : Heap), (K w.params).In h → h.Ns mainGlobals mg → mg dr.name = some (.ref fa) →
      ∃ fd : FuncData, (∀ (s : Shared) (u : Value), BindsTo s fd ⟨[u], []⟩ [(x, u)]) ∧ (∀ x c P, x ∈ lamN → PySem.W.tabIn (K w.params) x = some (c, P) → (K w.params).lookup P = none) ∧
        ∀ base : Heap, (K w.params).In base → base.Ns mainGlobals mg → TBs (K w.params) base mg → FnG l.prog w (K w.params) mg base k fa fd [x] (spP (K w.params) noCl 1 d)) :
    PySem.W.WalkO q loose XP YP l.row.toRowW dr [] (fun f vs => PySem.call f vs) := by
  refine Att.attach_call hn df fun w s₀ s₁ mg mb fa o pm cd doc a vs ns G Y _ _ _ em ea ai le g0 => ?_
  have KX := hY w _ Y
  obtain ⟨fd, b, nl, f⟩ := F w mg fa _ KX G.T.g em
  refine law_run KX G.T.g G.T.b G.T.builtins G.T.nolimit g0 (fun x c Q m e => ?_) G.T.bmain ea ai (Nat.le_trans le hz) rm f b (T ns le)
  have hr := List.all_eq_true.mp hL x m
  obtain ⟨r, hm, hx⟩ := List.any_eq_true.mp hr
  cases hf : (recsOf q).find? (fun e => e.name == x) with
  | none =>
    have z := List.find?_eq_none.mp hf r hm
    exact absurd hx z
  | some r2 =>
    obtain ⟨h1, h2⟩ := PySem.W.tab_of G.T KX hf e
    exact ⟨h1, h2, nl x c Q m e⟩
end
end Y
end

section
set_option Elab.async false
set_option linter.all false
set_option maxRecDepth 100000
set_option maxHeartbeats 2000000
/-! YL: what a generator prints with. -/
namespace Y
open PySem PySem.Spec PyProof.Rows L2

/-- any sequence that is never changed, walked -/
def iA (f : Ev) : Iv := fun σ h => (f σ h).bind fun x h1 => match x with
  | .tup xs => .ok xs h1
  | .fl xs => .ok xs h1
  | .sq xs => .ok xs h1
  | _ => .bad
section
variable {X : Cx} {cl : Cl} {W : WX} {tg e a b : Expr} {f : Ev} {fa : Av} {pos : Pos} {k : Nat}
theorem pi_seq {te : TE} (he : PE X e te) : PI X tg e (fun σ H R => te σ H fun x H1 => ∃ a, x = .ref a ∧ (((∃ xs, SqL X.K H1 a xs) ∧ R (Itl X.K a) H1) ∨ ((∃ xs, SqT X.K H1 a xs) ∧ R (Itt X.K a) H1))) := by
  refine ⟨fun pins s σ H R I h => thn (he.run pins s σ H _ I h) fun v s1 ⟨x, H1, I1, r1, a, ex, q⟩ => ?_⟩
  subst ex
  cases r1
  rcases q with ⟨⟨xs, hq⟩, q⟩ | ⟨⟨xs, hq⟩, q⟩
  · obtain ⟨its, rv, p, hz⟩ := I1.list hq
    refine wpAny_pyIter_list p.isList ?_
    exact pi_one (tk := s1.toks) I1 _ (turn_list a _) ⟨_, Heap.get?_push_size _ rfl, rfl, rfl⟩ q
  · obtain ⟨its, rv, p, hz⟩ := I1.tuple hq
    refine wpAny_pyIter_tuple (show s1.heap.IsTuple a its.toArray from p) ?_
    exact pi_one (tk := s1.toks) I1 _ (turn_tuple a _) ⟨_, Heap.get?_push_size _ rfl, rfl, rfl⟩ q
theorem i_any (ha : SE X cl W e f) : SI X cl W tg e (iA f) := PI.of (pi_seq ha) fun σ H R p =>
  seqI (R1 := RR X.K) (k := fun x h1 => match x with | .tup xs => .ok xs h1 | .fl xs => .ok xs h1 | .sq xs => .ok xs h1 | _ => .bad) p (fun φ H1 h1 x v ds h2 R1 r e q => by
    cases x <;> simp at e
    · obtain ⟨rfl, rfl⟩ := e
      cases r with
      | tup hq rr => exact ⟨_, rfl, .inr ⟨⟨_, SqT.of hq⟩, q _ R1 (drv_tup (SqT.of hq) rr)⟩⟩
    · obtain ⟨rfl, rfl⟩ := e
      cases r with
      | fl hq rr => exact ⟨_, rfl, .inl ⟨⟨_, .inl (.inr ⟨_, hq⟩)⟩, q _ R1 (drv_lst (fun H' p => .inl (.inr ⟨_, p.frz _ _ _ hq⟩)) rr)⟩⟩
    · obtain ⟨rfl, rfl⟩ := e
      cases r with
      | sq hq rr => exact ⟨_, rfl, .inl ⟨⟨_, hq.sq⟩, q _ R1 (drv_lst (fun H' p => (hq.per p).sq) rr)⟩⟩) fun x h1 => by cases x <;> simp

theorem drv_own {K : PySem.W.Frag} {φ : List Addr} {H : Hp} {n : Nat} {p : Addr} {ds : List D} (hk : φ[n]? = some p) : DrvG K φ H (gd (some n) ds) (Itl K p) ds := fun φ' H' h l R hg => by
  have hk' := pre_get l.pre hk
  have hg' : h[n]? = some (.lst ds) := of_decide_eq_true hg
  obtain ⟨ob, h1, h2⟩ := R.at hk'
  rw [hg'] at h1
  cases h1
  cases h2 with
  | lst hh rr =>
    rename_i vs
    refine ⟨fun i d e => ?_, vs, .of hh, by rw [rr.length]; exact Nat.le_refl _⟩
    obtain ⟨v, q1, q2⟩ := rr.get e
    refine ⟨⟨vs, v, .of hh, q1⟩, fun x H2 y => ?_⟩
    obtain ⟨rfl, y⟩ := y
    have ev := y vs (.of hh)
    rw [q1] at ev
    cases ev
    exact ⟨Lat.refl _ _, R, q2⟩
theorem i_X (ha : SE X cl W e f) : SI2 X cl W tg e (iX f) := PI.of (pi_seq ha) fun σ H R p => by
  obtain ⟨φ, st, h0, S, R0, P⟩ := p
  refine ⟨φ, st, h0, S, R0, ?_⟩
  simp only [iX] at P
  cases e : f st h0 with
  | bad => simp only [e, Rs.bind] at P
  | ex _ _ => simp only [e, Rs.bind] at P; exact P
  | ok x h1 =>
    simp only [e, Rs.bind] at P
    intro φ1 H1 v l1 r1 q1
    cases q1 with
    | tup hq rr => exact ⟨_, rfl, .inr ⟨⟨_, SqT.of hq⟩, P φ1 H1 _ l1 r1 (Drv.g (drv_tup (SqT.of hq) rr))⟩⟩
    | fl hq rr => exact ⟨_, rfl, .inl ⟨⟨_, .inl (.inr ⟨_, hq⟩)⟩, P φ1 H1 _ l1 r1 (Drv.g (drv_lst (fun H' p => .inl (.inr ⟨_, p.frz _ _ _ hq⟩)) rr))⟩⟩
    | sq hq rr => exact ⟨_, rfl, .inl ⟨⟨_, hq.sq⟩, P φ1 H1 _ l1 r1 (Drv.g (drv_lst (fun H' p => (hq.per p).sq) rr))⟩⟩
    | loc hk =>
      obtain ⟨ob, h2, h3⟩ := r1.at hk
      dsimp only at P
      rw [h2] at P
      cases h3 with
      | lst hh rr => exact ⟨_, rfl, .inl ⟨⟨_, .of hh⟩, P φ1 H1 _ l1 r1 (drv_own hk)⟩⟩
      | _ => exact P.elim
    | _ => exact P.elim
theorem i_P {it : Iv} (hi : SI X cl W tg e it) : SI2 X cl W tg e (iP it) := PI.of hi fun σ H R p => by
  obtain ⟨φ, st, h0, S, R0, P⟩ := p
  refine ⟨φ, st, h0, S, R0, ?_⟩
  simp only [iP] at P
  cases e : it st h0 with
  | bad => simp only [e, Rs.bind] at P
  | ex _ _ => simp only [e, Rs.bind] at P; exact P
  | ok ds h1 =>
    simp only [e, Rs.bind] at P
    exact fun φ' H' J l r dv => P φ' H' J l r dv.g
end
/-! ### the context of a comprehension's block -/
section
variable {X : Cx} {k : Nat}
theorem Cs.blk {s : Shared} {H : Hp} {sc : Scope} {ce : Env} {fp : List Addr} (c : Cs k X) : Cs k (X.blk s H sc ce fp) := ⟨c.room, c.gd, c.calm, c.nd⟩
theorem takes0 {Y : Cx} : Takes Y W0 := fun u s' ⟨_, _, _, _, _, _, _, _, _, _, _, _, _, _, _, _, w⟩ => w.elim
end

/-! ### a def of the program -/
/-- the ground may grow -/
def Ext (b b' : Heap) : Prop := ∀ a o, b.get? a = some o → b'.get? a = some o
theorem Ext.refl (b : Heap) : Ext b b := fun _ _ h => h
theorem Ext.trans {a b c : Heap} (x : Ext a b) (y : Ext b c) : Ext a c := fun d o h => y d o (x d o h)
def Def (P : Program) (w : World) (K : PySem.W.Frag) (mg : Str → Option Value) (base : Heap) (k : Nat) (x : Str) (ps : List Str) (sp : Sp) : Prop :=
  ∃ (f : Addr) (fd : FuncData), mg x = some (.ref f) ∧ PySem.W.keepIn K (.ref f) = true ∧ Binds K fd ps [] ∧ ∀ base', Ext base base' → FnG P w K mg base' k f fd ps sp
theorem Def.up {P : Program} {w : World} {K : PySem.W.Frag} {mg : Str → Option Value} {base b : Heap} {k : Nat} {x : Str} {ps : List Str} {sp : Sp} (D : Def P w K mg base k x ps sp) (e : Ext base b) : Def P w K mg b k x ps sp :=
  let ⟨f, fd, hm, hk, hb, G⟩ := D; ⟨f, fd, hm, hk, hb, fun b' e' => G b' (e.trans e')⟩
section
variable {X : Cx} {cl : Cl} {W : WX} {e : Expr} {es : List Expr} {fa : Av} {pos p : Pos} {k j n : Nat} {x : Str} {ps : List Str} {d : Fn} {dl : FnL}
theorem q_call (F : Def X.prog X.w X.K X.mg X.base j x ps (spP X.K noCl n d)) (hj : j ≤ k) (c : Cs k X) (tk : Takes X W) (ha : SA X cl W (e :: es) fa) (hal : ∀ σ h xs h', fa σ h = .ok xs h' → xs.length = (e :: es).length) (hn : (e :: es).length = n := by rfl) (hg : Gl X x := by rfl) (hdb : (x == ("__debug__" : Str)) = false := by decide)
    (he : starEach (e :: es) X.env = (false, eval e X.env) :: starEach es X.env := by rfl) (hpl : (backTo pos (starEach es X.env)).any (·.1) = false := by rfl) : SE X cl W (.Call (.Name x p) (e :: es) [] pos) (eCall d fa) := by
  obtain ⟨f, fd, hm, hk, hb, G⟩ := F
  exact s_call ((G _ (Ext.refl _)).mono hj) c tk hg hm hk hb hn hal ha hdb he hpl
theorem q_callL (F : Def X.prog X.w X.K X.mg X.base j x ps (spL X.K noCl n dl)) (hj : j ≤ k) (c : Cs k X) (tk : Takes X W) (ha : SA X cl W (e :: es) fa) (hal : ∀ σ h xs h', fa σ h = .ok xs h' → xs.length = (e :: es).length) (hn : (e :: es).length = n := by rfl) (hg : Gl X x := by rfl) (hdb : (x == ("__debug__" : Str)) = false := by decide)
    (he : starEach (e :: es) X.env = (false, eval e X.env) :: starEach es X.env := by rfl) (hpl : (backTo pos (starEach es X.env)).any (·.1) = false := by rfl) : SL X cl W (.Call (.Name x p) (e :: es) [] pos) (lCall dl fa) := by
  obtain ⟨f, fd, hm, hk, hb, G⟩ := F
  exact l_call ((G _ (Ext.refl _)).mono hj) c tk hg hm hk hb hn hal ha hdb he hpl
theorem q_call0 (F : Def X.prog X.w X.K X.mg X.base j x ps (spP X.K noCl 0 d)) (hj : j ≤ k) (c : Cs k X) (tk : Takes X W) (hg : Gl X x := by rfl) (hdb : (x == ("__debug__" : Str)) = false := by decide) : SE X cl W (.Call (.Name x p) [] [] pos) (eCall d aN) := by
  obtain ⟨f, fd, hm, hk, hb, G⟩ := F
  exact s_call0 ((G _ (Ext.refl _)).mono hj) c tk hg hm hk hb hdb
end
end Y
end

section
set_option Elab.async false
set_option linter.all false
set_option maxRecDepth 100000
set_option maxHeartbeats 2000000
/-! YM: the pen: what is drawn. -/
namespace Y
open PySem L2

def bPen (i0 q m : Int) : Sv := sSeq (sAsg (gN 1) (eC (.int i0)))
    (sSeq (sFor (iA (eV 0)) (gN 2) (sAsg (gN 1) (Y.e2 oMod (eB bInt (aC (Y.e2 oAdd (Y.e2 oMul (eV 1) (eC (.int q))) (eV 2)) (aN))) (eC (.int m)))))
    (sRet (eDct (pC (eC (.str "cells")) (eFrz (lB mList (aC (eV 0) (aN)))) (pC (eC (.str "at")) (eC (.int 0)) (pC (eC (.str "digits")) (eC (.int 0)) (pC (eC (.str "count")) (eC (.int 0)) (pC (eC (.str "fold")) (eV 1) (pN)))))))))
/-- the draw's last part -/
def bLast (cq ca ex dv : Int) : Sv := (sSeq (sIf (Y.tB (Y.e2 oGt (Y.e2 oIx (eV 0) (eC (.str "digits"))) (eC (.int 0)))) (sSeq (sAsg (gN 3) (Y.e2 oMod (eB bInt (aC (Y.e2 oIx (eV 0) (eC (.str "digits"))) (aN))) (eV 1)))
    (sSeq (sStore (eV 0) (eC (.str "digits")) (Y.e2 oDiv (Y.e2 oIx (eV 0) (eC (.str "digits"))) (eV 1)))
    (sRet (eV 3)))) (sPass))
    (sSeq (sAsg (gN 4) (Y.e2 oAdd (Y.e2 oAdd (Y.e2 oIx (eV 0) (eC (.str "fold"))) (Y.e2 oMul (Y.e2 oIx (eV 0) (eC (.str "count"))) (eC (.int cq)))) (eC (.int ca))))
    (sRet (Y.e2 oMod (Y.e2 oDiv (eB bInt (aC (Y.e2 oMod (Y.e2 oPow (eV 4) (eC (.int ex))) (eC (.int 2305843009213693951))) (aN))) (eC (.int dv))) (eV 1)))))
def bDraw (fq fm cq ca ex dv : Int) : Sv := sSeq (sStore (eV 0) (eC (.str "count")) (Y.e2 oAdd (Y.e2 oIx (eV 0) (eC (.str "count"))) (eC (.int 1))))
    (sSeq (sIf (Y.tAnd (Y.tB (Y.e2 oEq (Y.e2 oIx (eV 0) (eC (.str "digits"))) (eC (.int 0)))) (Y.tB (Y.e2 oLt (Y.e2 oIx (eV 0) (eC (.str "at"))) (eB bLen (aC (Y.e2 oIx (eV 0) (eC (.str "cells"))) (aN)))))) (sSeq (sAsg (gN 2) (Y.e2 oIx (Y.e2 oIx (eV 0) (eC (.str "cells"))) (Y.e2 oIx (eV 0) (eC (.str "at")))))
    (sSeq (sStore (eV 0) (eC (.str "at")) (Y.e2 oAdd (Y.e2 oIx (eV 0) (eC (.str "at"))) (eC (.int 1))))
    (sIf (Y.tB (Y.e2 oGe (eV 2) (Y.e2 oPow (eC (.int 10)) (eC (.int 18))))) (sStore (eV 0) (eC (.str "digits")) (Y.e2 oSub (eV 2) (Y.e2 oPow (eC (.int 10)) (eC (.int 18))))) (sStore (eV 0) (eC (.str "fold")) (Y.e2 oMod (eB bInt (aC (Y.e2 oAdd (Y.e2 oMul (Y.e2 oIx (eV 0) (eC (.str "fold"))) (eC (.int fq))) (eV 2)) (aN))) (eC (.int fm))))))) (sPass))
    (bLast cq ca ex dv))
def dPen (i0 q m : Int) : Fn := fnK 3 (bPen i0 q m)
def dDraw (fq fm cq ca ex dv : Int) : Fn := fnP 5 (bDraw fq fm cq ca ex dv)
/-- the pen as it lies in the heap -/
def kvP (cs : List Int) (p g c f : Int) : List (Key × D) := [(.inr "cells", .fl (cs.map .int)), (.inr "at", .int p), (.inr "digits", .int g), (.inr "count", .int c), (.inr "fold", .int f)]
def penO (cs : List Int) (p g c f : Int) : Ob := .dct (kvP cs p g c f)
section
variable {cs : List Int} {p g c f : Int}
theorem get_cells : getK (kvP cs p g c f) (.inr "cells") = some (.fl (cs.map .int)) := rfl
theorem get_at : getK (kvP cs p g c f) (.inr "at") = some (.int p) := rfl
theorem get_dig : getK (kvP cs p g c f) (.inr "digits") = some (.int g) := rfl
theorem get_cnt : getK (kvP cs p g c f) (.inr "count") = some (.int c) := rfl
theorem get_fold : getK (kvP cs p g c f) (.inr "fold") = some (.int f) := rfl
theorem set_at {x : Int} : setK (kvP cs p g c f) (.inr "at") (.int x) = kvP cs x g c f := rfl
theorem set_dig {x : Int} : setK (kvP cs p g c f) (.inr "digits") (.int x) = kvP cs p x c f := rfl
theorem set_cnt {x : Int} : setK (kvP cs p g c f) (.inr "count") (.int x) = kvP cs p g x f := rfl
theorem set_fold {x : Int} : setK (kvP cs p g c f) (.inr "fold") (.int x) = kvP cs p g c x := rfl
theorem kv_len : (kvP cs p g c f).length = 5 := rfl
end
/-- a pen that can be drawn from, n draws being allowed still -/
structure PenAt (h : Hm) (k : Nat) (n : Nat) : Prop where
  ex : ∃ (cs : List Int) (p g c f : Int), h[k]? = some (penO cs p g c f) ∧ cs.length ≤ 63 ∧ 0 ≤ p ∧ 0 ≤ g ∧ 0 ≤ c ∧ c + n < 1000000000 ∧ 0 ≤ f ∧ f < 2147483648
theorem big_ok {i : Int} (h1 : -1000000000000000 < i) (h2 : i < 1000000000000000) : -big < i ∧ i < big := by
  unfold big; omega
theorem mulOk_l {i j : Int} (h1 : -1000000000000 < i) (h2 : i < 1000000000000) : mulOk i j = true := by
  have e1 : decide (-big < i) = true := decide_eq_true (by unfold big; omega)
  have e2 : decide (i < big) = true := decide_eq_true (by unfold big; omega)
  unfold mulOk
  rw [e1, e2]
  rfl
theorem mulOk_r {i j : Int} (h1 : -1000000000000 < j) (h2 : j < 1000000000000) : mulOk i j = true := by
  have e1 : decide (-big < j) = true := decide_eq_true (by unfold big; omega)
  have e2 : decide (j < big) = true := decide_eq_true (by unfold big; omega)
  unfold mulOk
  rw [e1, e2]
  simp
section
variable {h : Hm} {k : Nat} {cs : List Int} {p g c f x : Int}
theorem pen_get (lk : k < h.length) {o : Ob} : (h.set k o)[k]? = some o := by rw [List.getElem?_set_self lk]
theorem pen_ix (lk : k < h.length) {y : Str} : oIx (h.set k (penO cs p g c f)) (.loc k) (.str y) = getK (kvP cs p g c f) (.inr y) := by
  simp [oIx, dctOf, pen_get lk, penO, oDget, keyOf]
theorem pen_setD (lk : k < h.length) {y : Str} {v : D} : setD (h.set k (penO cs p g c f)) (.loc k) (.str y) v = some (h.set k (.dct (setK (kvP cs p g c f) (.inr y) v))) := by
  simp [setD, pen_get lk, penO, keyOf, kv_len, line]
theorem r_cells (lk : k < h.length) : oIx (h.set k (penO cs p g c f)) (.loc k) (.str "cells") = some (.fl (cs.map .int)) := (pen_ix lk).trans get_cells
theorem r_at (lk : k < h.length) : oIx (h.set k (penO cs p g c f)) (.loc k) (.str "at") = some (.int p) := (pen_ix lk).trans get_at
theorem r_dig (lk : k < h.length) : oIx (h.set k (penO cs p g c f)) (.loc k) (.str "digits") = some (.int g) := (pen_ix lk).trans get_dig
theorem r_cnt (lk : k < h.length) : oIx (h.set k (penO cs p g c f)) (.loc k) (.str "count") = some (.int c) := (pen_ix lk).trans get_cnt
theorem r_fold (lk : k < h.length) : oIx (h.set k (penO cs p g c f)) (.loc k) (.str "fold") = some (.int f) := (pen_ix lk).trans get_fold
theorem w_at (lk : k < h.length) : setD (h.set k (penO cs p g c f)) (.loc k) (.str "at") (.int x) = some (h.set k (penO cs x g c f)) := by rw [pen_setD lk, set_at]; rfl
theorem w_dig (lk : k < h.length) : setD (h.set k (penO cs p g c f)) (.loc k) (.str "digits") (.int x) = some (h.set k (penO cs p x c f)) := by rw [pen_setD lk, set_dig]; rfl
theorem w_cnt (lk : k < h.length) : setD (h.set k (penO cs p g c f)) (.loc k) (.str "count") (.int x) = some (h.set k (penO cs p g x f)) := by rw [pen_setD lk, set_cnt]; rfl
theorem w_fold (lk : k < h.length) : setD (h.set k (penO cs p g c f)) (.loc k) (.str "fold") (.int x) = some (h.set k (penO cs p g c x)) := by rw [pen_setD lk, set_fold]; rfl
end
theorem last_ok (cq ca ex dv : Int) (C : 0 ≤ cq ∧ cq < 1000000 ∧ 0 ≤ ca ∧ ca < 1000000 ∧ 0 ≤ ex ∧ ex < 1000 ∧ 0 < dv ∧ dv < 1000000) {h : Hm} {k : Nat} (lk : k < h.length) {cs : List Int} {p g c f many : Int} (y2 : Option D) (g0 : 0 ≤ g) (c0 : 0 ≤ c) (c1 : c < 1000000000) (f0 : 0 ≤ f) (f1 : f < 2147483648)
    (m0 : 0 < many) (m1 : many < 1073741824) : ∃ r g' : Int, bLast cq ca ex dv [some (.loc k), some (.int many), y2, none, none] (h.set k (penO cs p g c f)) = .rt (.int r) (h.set k (penO cs p g' c f)) ∧ 0 ≤ r ∧ r < many ∧ 0 ≤ g' := by
  obtain ⟨q5, q6, q7, q8, q9, q10, q11, q12⟩ := C
  by_cases hg : 0 < g
  · refine ⟨g % many, g / many, ?_, Int.emod_nonneg _ (by omega), Int.emod_lt_of_pos _ m0, Int.ediv_nonneg g0 (by omega)⟩
    simp [bLast, sStore, bInt, r_dig lk, w_dig lk, hg, m0, m1, fnP, sSeq, sAsg, sRet, sIf, sPass, eV, Rs.out, Rs.bind, outO, gN, Y.e2, eC, aN, aC, oMod, oGt, oDiv, ofO, Y.tB, eB]
  · have hg' : g = 0 := by omega
    subst hg'
    have b0 : 0 ≤ c * cq := Int.mul_nonneg c0 q5
    have b1 : c * cq ≤ 1000000000 * 1000000 := by
      have := Int.mul_le_mul (a := c) (b := cq) (c := 1000000000) (d := 1000000) (by omega) (by omega) q5 (by omega)
      exact this
    have a1 : mulOk c cq = true := mulOk_l (by omega) (by omega)
    have a2 : 0 ≤ ex ∧ ex ≤ 1000000 ∧ -big < f + c * cq + ca ∧ f + c * cq + ca < big := ⟨q9, by omega, by unfold big; omega, by unfold big; omega⟩
    have a3 : 0 < dv ∧ dv < 1073741824 := ⟨q11, by omega⟩
    refine ⟨_, 0, ?_, Int.emod_nonneg ((f + c * cq + ca) ^ ex.toNat % 2305843009213693951 / dv) (Int.ne_of_gt m0), Int.emod_lt_of_pos _ m0, Int.le_refl _⟩
    simp [bLast, bInt, r_dig lk, r_fold lk, r_cnt lk, a1, a2, a3, m0, fnP, sSeq, sAsg, sRet, sIf, sPass, eV, Rs.out, Rs.bind, outO, gN, Y.e2, eC, aN, aC, oMod, oMul, oAdd, oPow, oGt, oDiv, ofO, Y.tB, eB]
theorem ix_ints {cs : List Int} {p x : Int} {h : Hm} (p0 : 0 ≤ p) (hx : cs[p.toNat]? = some x) : oIx h (.fl (cs.map .int)) (.int p) = some (.int x) := by
  have lp : p.toNat < cs.length := (List.getElem?_eq_some_iff.mp hx).1
  simp only [oIx, dctOf, ixD, seqOf, lstOf, Option.bind_some]
  unfold L2.atI L2.ixN
  rw [if_pos p0, if_pos (by rw [List.length_map]; omega), Option.bind_some, List.getElem?_map, hx]
  rfl
theorem draw (fq fm cq ca ex dv : Int) (C : 0 ≤ fq ∧ fq < 1000000000 ∧ 0 < fm ∧ fm ≤ 2147483648 ∧ 0 ≤ cq ∧ cq < 1000000 ∧ 0 ≤ ca ∧ ca < 1000000 ∧ 0 ≤ ex ∧ ex < 1000 ∧ 0 < dv ∧ dv < 1000000)
    {h : Hm} {k n : Nat} (hp : PenAt h k (n + 1)) {many : Int} (m0 : 0 < many) (m1 : many < 1073741824) :
    ∃ (r : Int) (o : Ob), dDraw fq fm cq ca ex dv [.loc k, .int many] h = .ok (.int r) (h.set k o) ∧ 0 ≤ r ∧ r < many ∧ PenAt (h.set k o) k n := by
  obtain ⟨cs, p, g, c, f, hk, hl, p0, g0, c0, c1, f0, f1⟩ := hp.ex
  have lk : k < h.length := (List.getElem?_eq_some_iff.mp hk).1
  obtain ⟨q1, q2, q3, q4, C2⟩ := C
  have eh : h = h.set k (penO cs p g c f) := by
    apply List.ext_getElem?
    intro j
    by_cases hj : j = k
    · subst hj; rw [pen_get lk, hk]
    · rw [List.getElem?_set_ne (Ne.symm hj)]
  have done : ∀ (y2 : Option D) (p' g' f' : Int), 0 ≤ p' → 0 ≤ g' → 0 ≤ f' → f' < 2147483648 → ∀ o : Out, o = bLast cq ca ex dv [some (.loc k), some (.int many), y2, none, none] (h.set k (penO cs p' g' (c + 1) f')) →
      ∃ (r : Int) (ob : Ob), (match o with | .rt d h' => finP h d h' | .nx _ h' => finP h .non h' | .ex e _ h' => .ex e h' | _ => .bad) = Rs.ok (.int r) (h.set k ob) ∧ 0 ≤ r ∧ r < many ∧ PenAt (h.set k ob) k n := by
    intro y2 p' g' f' z1 z2 z3 z4 o eo
    obtain ⟨r, g2, e, r0, r1, g3⟩ := last_ok cq ca ex dv C2 lk (cs := cs) (p := p') (g := g') (c := c + 1) (f := f') y2 z2 (by omega) (by omega) z3 z4 m0 m1
    rw [e] at eo
    subst eo
    refine ⟨r, penO cs p' g2 (c + 1) f', ?_, r0, r1, ⟨cs, p', g2, c + 1, f', pen_get lk, hl, z1, g3, by omega, by omega, z3, z4⟩⟩
    simp [finP]
  show ∃ (r : Int) (ob : Ob), (match bDraw fq fm cq ca ex dv [some (.loc k), some (.int many), none, none, none] h with | .rt d h' => finP h d h' | .nx _ h' => finP h .non h' | .ex e _ h' => .ex e h' | _ => .bad) = Rs.ok (.int r) (h.set k ob) ∧ 0 ≤ r ∧ r < many ∧ PenAt (h.set k ob) k n
  by_cases hb : g = 0 ∧ p < cs.length
  · obtain ⟨hg, hp1⟩ := hb
    subst hg
    obtain ⟨x, hx⟩ : ∃ x, cs[p.toNat]? = some x := ⟨cs[p.toNat]'(by omega), List.getElem?_eq_getElem (by omega)⟩
    have ix : ∀ h, oIx h (.fl (cs.map .int)) (.int p) = some (.int x) := fun h => ix_ints p0 hx
    have e10 : (10 : Int) ^ (18 : Int).toNat = 1000000000000000000 := by decide
    have a1 : mulOk f fq = true := mulOk_l (by omega) (by omega)
    by_cases hx1 : 1000000000000000000 ≤ x
    · refine done (some (.int x)) (p + 1) (x - 1000000000000000000) f (by omega) (by omega) f0 f1 _ ?_
      rw [eh]
      simp [bDraw, sStore, r_dig lk, w_dig lk, r_cnt lk, w_cnt lk, r_at lk, w_at lk, r_cells lk, hp1, ix, hx1, big, fnP, sSeq, sAsg, sRet, sIf, sPass, eV, Rs.out, Rs.bind, outO, gN, Y.e2, eC, aN, aC, oEq, eqD, oAdd, oSub, oLt, oGe, oPow, bLen, seqOf, lstOf, Y.tAnd, ofO, Y.tB, eB]
    · refine done (some (.int x)) (p + 1) 0 ((f * fq + x) % fm) (by omega) (by omega) (Int.emod_nonneg _ (by omega)) (Int.lt_of_lt_of_le (Int.emod_lt_of_pos _ q3) q4) _ ?_
      rw [eh]
      simp [bDraw, sStore, bInt, r_dig lk, w_fold lk, r_fold lk, r_cnt lk, w_cnt lk, r_at lk, w_at lk, r_cells lk, hp1, ix, hx1, a1, q3, big, fnP, sSeq, sAsg, sRet, sIf, sPass, eV, Rs.out, Rs.bind, outO, gN, Y.e2, eC, aN, aC, oEq, eqD, oAdd, oMul, oMod, oSub, oLt, oGe, oPow, bLen, seqOf, lstOf, Y.tAnd, ofO, Y.tB, eB]
  · refine done none p g f p0 g0 f0 f1 _ ?_
    rw [eh]
    by_cases hg : g = 0
    · have hp1 : ¬ p < cs.length := fun z => hb ⟨hg, z⟩
      simp [bDraw, sStore, r_dig lk, r_cnt lk, w_cnt lk, r_at lk, r_cells lk, hp1, hg, fnP, sSeq, sAsg, sRet, sIf, sPass, eV, Rs.out, Rs.bind, outO, gN, Y.e2, eC, aN, aC, oEq, eqD, oAdd, oSub, oLt, bLen, seqOf, lstOf, Y.tAnd, ofO, Y.tB, eB]
    · simp [bDraw, sStore, r_dig lk, r_cnt lk, w_cnt lk, hg, fnP, sSeq, sAsg, sRet, sIf, sPass, eV, Rs.out, Rs.bind, outO, gN, Y.e2, eC, aN, aC, oEq, eqD, oAdd, Y.tAnd, ofO, Y.tB, eB]
/-! ### the pen made -/
theorem pen_loop (q m : Int) (C : 0 ≤ q ∧ q < 1000000000 ∧ 0 < m ∧ m ≤ 2147483648) (s0 : Option D) (h : Hm) : ∀ (ns : List Int) (f : Int) (y : Option D), 0 ≤ f → f < 2147483648 →
    ∃ (f' : Int) (y' : Option D), forL (gN 2) (sAsg (gN 1) (Y.e2 oMod (eB bInt (aC (Y.e2 oAdd (Y.e2 oMul (eV 1) (eC (.int q))) (eV 2)) (aN))) (eC (.int m)))) (ns.map .int) [s0, some (.int f), y] h = .nx [s0, some (.int f'), y'] h ∧ 0 ≤ f' ∧ f' < 2147483648
  | [], f, y, f0, f1 => ⟨f, y, rfl, f0, f1⟩
  | n :: ns, f, y, f0, f1 => by
    obtain ⟨q1, q2, q3, q4⟩ := C
    have a1 : mulOk f q = true := mulOk_l (by omega) (by omega)
    obtain ⟨f', y', e, z0, z1⟩ := pen_loop q m ⟨q1, q2, q3, q4⟩ s0 h ns ((f * q + n) % m) (some (.int n)) (Int.emod_nonneg _ (by omega)) (Int.lt_of_lt_of_le (Int.emod_lt_of_pos _ q3) q4)
    refine ⟨f', y', ?_, z0, z1⟩
    rw [← e]
    simp [forL, bInt, a1, q3, sAsg, eV, Rs.out, Rs.bind, outO, gN, Y.e2, eC, aN, aC, oAdd, oMul, oMod, ofO, eB]
theorem pen_made (i0 q m : Int) (C : 0 ≤ i0 ∧ i0 < 2147483648 ∧ 0 ≤ q ∧ q < 1000000000 ∧ 0 < m ∧ m ≤ 2147483648) (ns : List Int) (hl : ns.length ≤ 63) (h : Hm) :
    ∃ o : Ob, dPen i0 q m [.sq (ns.map .int)] h = .ok (.loc h.length) (h ++ [o]) ∧ PenAt (h ++ [o]) h.length 999999999 := by
  obtain ⟨c1, c2, C⟩ := C
  obtain ⟨f, y, e, f0, f1⟩ := pen_loop q m C (some (.sq (ns.map .int))) h ns i0 none c1 c2
  refine ⟨penO ns 0 0 0 f, ?_, ⟨ns, 0, 0, 0, f, by simp, hl, by omega, by omega, by omega, by omega, f0, f1⟩⟩
  simp [dPen, bPen, fnK, startD, sSeq, sFor, iA, sAsg, eV, Rs.out, Rs.bind, outO, gN, eC, e, sRet, eDct, pC, pN, eFrz, lB, mList, seqOf, lstOf, aC, aN, ofO, kvsOf, keyOf]
  rfl
/-- what is wanted of a draw function -/
def Draws (F : Fn) : Prop := ∀ {h : Hm} {k n : Nat}, PenAt h k (n + 1) → ∀ {many : Int}, 0 < many → many < 1073741824 → ∃ (r : Int) (o : Ob), F [.loc k, .int many] h = .ok (.int r) (h.set k o) ∧ 0 ≤ r ∧ r < many ∧ PenAt (h.set k o) k n
def bPick (F : Fn) : Sv := sRet (Y.e2 oIx (eV 1) (eCall F (aC (eV 0) (aC (eB bLen (aC (eV 1) (aN))) (aN)))))
def dPick (F : Fn) : Fn := fnP 2 (bPick F)
theorem pick_at {xs : List D} {r : Int} (r0 : 0 ≤ r) (r1 : r < xs.length) : ∃ x, L2.atI xs r = some x ∧ xs[r.toNat]? = some x ∧ x ∈ xs := by
  have hl : r.toNat < xs.length := by omega
  refine ⟨xs[r.toNat], ?_, List.getElem?_eq_getElem hl, List.getElem_mem hl⟩
  unfold L2.atI L2.ixN
  rw [if_pos r0, if_pos r1, Option.bind_some]
  exact List.getElem?_eq_getElem hl
theorem pick {F : Fn} (hF : Draws F) {h : Hm} {k n : Nat} (hp : PenAt h k (n + 1)) {d : D} {xs : List D} (hd : d = .fl xs ∨ d = .tup xs) (h0 : 0 < xs.length) (h1 : xs.length < 1073741824) :
    ∃ (x : D) (o : Ob), dPick F [.loc k, d] h = .ok x (h.set k o) ∧ x ∈ xs ∧ PenAt (h.set k o) k n := by
  obtain ⟨r, o, e, r0, r1, hq⟩ := hF hp (many := xs.length) (by omega) (by omega)
  obtain ⟨x, e2, _, hx⟩ := pick_at r0 r1
  refine ⟨x, o, ?_, hx, hq⟩
  rcases hd with rfl | rfl <;> simp [dPick, bPick, fnP, startD, sRet, Y.e2, eV, eCall, aC, aN, eB, bLen, seqOf, lstOf, e, e2, oIx, dctOf, ixD, Rs.bind, ofO, Rs.out, finP]
theorem ll (n : Nat) (h : n ≤ 100000) : (n ≤ line) = True := by
  have : n ≤ line := Nat.le_trans h (by decide)
  simp [this]
/-- a loop that keeps I -/
theorem forL_nx {g : Gv} {b : Sv} (I : Nat → Sl → Hm → Prop) : ∀ (ds : List D) (i : Nat) (σ : Sl) (h : Hm), I (i + ds.length) σ h →
    (∀ (d : D) (j : Nat) (σ : Sl) (h : Hm), d ∈ ds → I (j + 1) σ h → ∃ σ1, g d σ = some σ1 ∧ ∃ σ2 h2, (b σ1 h = .nx σ2 h2 ∨ b σ1 h = .ct σ2 h2) ∧ I j σ2 h2) → ∃ σ' h', forL g b ds σ h = .nx σ' h' ∧ I i σ' h'
  | [], i, σ, h, hi, _ => ⟨σ, h, rfl, hi⟩
  | d :: ds, i, σ, h, hi, hs => by
    obtain ⟨σ1, e1, σ2, h2, e2, i2⟩ := hs d (i + ds.length) σ h List.mem_cons_self hi
    obtain ⟨σ', h', e3, i3⟩ := forL_nx I ds i σ2 h2 i2 fun d j σ h m => hs d j σ h (List.mem_cons_of_mem _ m)
    refine ⟨σ', h', ?_, i3⟩
    rcases e2 with e2 | e2 <;> simp [forL, e1, e2, e3]
/-- one pen, alone in the heap -/
theorem draws1 {F : Fn} (hF : Draws F) {o : Ob} {n : Nat} (hp : PenAt [o] 0 (n + 1)) {many : Int} (m0 : 0 < many) (m1 : many < 1073741824) : ∃ (r : Int) (o' : Ob), F [.loc 0, .int many] [o] = .ok (.int r) [o'] ∧ 0 ≤ r ∧ r < many ∧ PenAt [o'] 0 n := hF hp m0 m1
theorem pick1 {F : Fn} (hF : Draws F) {o : Ob} {n : Nat} (hp : PenAt [o] 0 (n + 1)) {d : D} {xs : List D} (hd : d = .fl xs ∨ d = .tup xs) (h0 : 0 < xs.length) (h1 : xs.length < 1073741824) : ∃ (x : D) (o' : Ob), dPick F [.loc 0, d] [o] = .ok x [o'] ∧ x ∈ xs ∧ PenAt [o'] 0 n := pick hF hp hd h0 h1
theorem PenAt.mono {h : Hm} {k m n : Nat} (p : PenAt h k m) (l : n ≤ m) : PenAt h k n := by
  obtain ⟨cs, q, g, c, f, hk, hl, p0, g0, c0, c1, f0, f1⟩ := p.ex
  exact ⟨cs, q, g, c, f, hk, hl, p0, g0, c0, by omega, f0, f1⟩
theorem while_fuel (c : Tv) (b : Sv) : ∃ N : Nat, 1000000 < N ∧ sWhile c b = whileL c b N := ⟨1000000000000, by decide, rfl⟩
end Y
end

section
set_option Elab.async false
set_option linter.all false
set_option maxRecDepth 100000
set_option maxHeartbeats 2000000
/-! YN: sorted; lists times a number. -/
namespace Y
open PySem PySem.Spec PyProof.Rows L2

section
variable {X : Cx} {k : Nat} {β : Type}
/-- sorted(xs), by what the items stand for -/
theorem sort_gen (c0 : Cs k X) {enc : β → PyData} {toD : β → D} (hpy : ∀ h b, py h (toD b) = some (enc b)) {bs : List β} (hal : PySem.W.AllAlike (bs.map enc)) (hk : PySem.W.Sortable (bs.map enc)) (hd : ∀ b ∈ bs, (enc b).depth ≤ 64)
    {φ : List Addr} {H : Hp} {a : Addr} {vs : List V} (hq : SqL X.K H a vs) (rr : RepL X.K φ H (bs.map toD) vs) :
    CallR X (.builtin "sorted") (fun us H' Q => us = [.ref a] ∧ H' = H ∧ ∀ p vs', H p = none → RepL X.K φ H ((bs.mergeSort (PySem.W.dataLe false enc)).map toD) vs' → Q (.ref p) (upd H p (.lst vs'))) := by
  intro pins s σ H1 xs us Q I r1 hh
  obtain ⟨rfl, rfl, q⟩ := hh
  rw [Vals.ref1 r1]
  obtain ⟨its, rv, hl, hz⟩ := I.list hq
  have each : ∀ {vs : List V} {its : List Value} {bs : List β}, Vals vs its → RepL X.K φ H1 (bs.map toD) vs → PySem.W.EachIs (fun u b => ∃ v, RelV v u ∧ Rep X.K φ H1 (toD b) v) its bs := by
    intro vs its bs r
    induction r generalizing bs with
    | nil =>
      intro q
      cases bs with
      | nil => exact .nil
      | cons b bs => cases q
    | cons h1 _ ih =>
      intro q
      cases bs with
      | nil => cases q
      | cons b bs =>
        cases q with
        | cons q1 q2 => exact .cons ⟨_, h1, q1⟩ (ih q2)
  have e := each rv rr
  have er : PySem.W.EachIs (fun u b => ∃ as, Reads s.heap u (enc b) as) its bs := e.mono fun u b ⟨v, r, q⟩ => Dp.reads I _ _ _ (Rep.dp (toD b) v (enc b) (hpy [] b) q) r
  have hlen : bs.length ≤ sizeLine := by
    have := rr.length
    rw [List.length_map] at this
    omega
  have hu := c0.room.un
  refine PySem.W.sorted_data hl.isList e er hal hk hlen (fun b hb => by have := hd b hb; omega) fun out ho eo => ?_
  obtain ⟨ep, he'⟩ := PyProof.Rows.sortedAll_at s.heap its out.toArray
  have back : ∀ {out : List Value} {bs : List β}, PySem.W.EachIs (fun u b => ∃ v, RelV v u ∧ Rep X.K φ H1 (toD b) v) out bs → ∃ vs', Vals vs' out ∧ RepL X.K φ H1 (bs.map toD) vs' := by
    intro out bs r
    induction r with
    | nil => exact ⟨[], .nil, .nil⟩
    | cons h1 _ ih =>
      obtain ⟨v, r1, r2⟩ := h1
      obtain ⟨vs', r3, r4⟩ := ih
      exact ⟨v :: vs', .cons r1 r3, .cons r2 r4⟩
  obtain ⟨vs', v1, v2⟩ := back eo
  have hl2 : vs'.length ≤ sizeLine := by rw [v1.length, ho]; exact hlen
  exact ⟨.ref _, upd H1 (s.heap.objs.size + 1) (.lst vs'), I.laid (t' := s.toks) (fun _ _ => PyProof.Rows.sortedAll_old) (Nat.le_succ _) ⟨hl2, out, ep, v1, by simpa using he'⟩, rfl, q _ _ (I.hok.fresh (Nat.le_succ _)) v2⟩
end

/-! ### by kinds -/
def insB {α : Type} (le : α → α → Bool) (x : α) : List α → List α
  | [] => [x]
  | y :: ys => if le x y then x :: y :: ys else y :: insB le x ys
/-- sorting that the kernel can walk through -/
def isort {α : Type} (le : α → α → Bool) : List α → List α
  | [] => []
  | x :: xs => insB le x (isort le xs)
theorem insB_perm {α : Type} (le : α → α → Bool) (x : α) : ∀ l, (insB le x l).Perm (x :: l)
  | [] => .refl _
  | y :: ys => by
    unfold insB
    split
    · exact .refl _
    · exact ((insB_perm le x ys).cons y).trans (.swap x y ys)
theorem isort_perm {α : Type} (le : α → α → Bool) : ∀ l, (isort le l).Perm l
  | [] => .refl _
  | x :: xs => (insB_perm le x _).trans ((isort_perm le xs).cons x)
section
variable {α : Type} {le : α → α → Bool} (tr : ∀ a b c, le a b = true → le b c = true → le a c = true) (tt : ∀ a b, (le a b || le b a) = true)
include tr tt
theorem insB_sorted (x : α) : ∀ l, l.Pairwise (fun a b => le a b = true) → (insB le x l).Pairwise (fun a b => le a b = true)
  | [], _ => by simp [insB]
  | y :: ys, h => by
    have h' := List.pairwise_cons.mp h
    unfold insB
    split
    · rename_i c
      refine List.pairwise_cons.mpr ⟨fun z m => ?_, h⟩
      rcases List.mem_cons.mp m with rfl | m
      · exact c
      · exact tr _ _ _ c (h'.1 z m)
    · rename_i c
      refine List.pairwise_cons.mpr ⟨fun z m => ?_, insB_sorted x ys h'.2⟩
      rcases List.mem_cons.mp ((insB_perm le x ys).mem_iff.mp m) with rfl | m
      · have := tt z y
        simp [c] at this
        exact this
      · exact h'.1 z m
theorem isort_sorted : ∀ l, (isort le l).Pairwise (fun a b => le a b = true)
  | [] => List.Pairwise.nil
  | x :: xs => insB_sorted tr tt x _ (isort_sorted xs)
theorem isort_eq (an : ∀ a b, le a b = true → le b a = true → a = b) (l : List α) : l.mergeSort le = isort le l :=
  ((List.mergeSort_perm l le).trans (isort_perm le l).symm).eq_of_pairwise (fun a b _ _ x y => an a b x y) (List.pairwise_mergeSort tr tt l) (isort_sorted tr tt l)
end
def intsL (ns : List Int) : List Int := isort (fun a b => decide (a ≤ b)) ns
def rowsL (ns : List (List Int)) : List (List Int) := isort (fun a b => decide (a ≤ b)) ns
theorem intsL_eq (ns : List Int) : ns.mergeSort (fun a b => decide (a ≤ b)) = intsL ns := isort_eq (fun a b c h1 h2 => by simp at *; omega) (fun a b => by simp; omega) (fun a b h1 h2 => by simp at *; omega) ns
theorem rowsL_eq (ns : List (List Int)) : ns.mergeSort (fun a b => decide (a ≤ b)) = rowsL ns := isort_eq (fun a b c h1 h2 => by simp at *; exact List.le_trans h1 h2) (fun a b => by simp; exact List.le_total a b) (fun a b h1 h2 => by simp at *; exact List.le_antisymm h1 h2) ns
def rowD (r : List Int) : D := .tup (r.map .int)
def rowsOf : List D → Option (List (List Int))
  | [] => some []
  | .tup xs :: r => match intsOf xs, rowsOf r with
    | some a, some b => if a.isEmpty then none else some (a :: b)
    | _, _ => none
  | _ => none
def sortD (ds : List D) : Option (List D) := match intsOf ds with
  | some ns => some ((intsL ns).map .int)
  | none => match rowsOf ds with
    | some rs => some ((rowsL rs).map rowD)
    | none => none
/-- sorted(xs), xs a list of ints, of rows of ints -/
def mSorted (h : Hm) : List D → Option (List D)
  | [d] => (lstOf h d).bind sortD
  | _ => none
theorem intsOf_map : ∀ {ds : List D} {ns : List Int}, intsOf ds = some ns → ds = ns.map .int
  | [], ns, e => by simp [intsOf] at e; subst e; rfl
  | d :: ds, ns, e => by
    cases d <;> simp [intsOf] at e
    obtain ⟨a, h1, rfl⟩ := e
    simp [intsOf_map h1]
theorem rowsOf_map : ∀ {ds : List D} {rs : List (List Int)}, rowsOf ds = some rs → ds = rs.map rowD ∧ ∀ r ∈ rs, r ≠ []
  | [], ns, e => by simp [rowsOf] at e; subst e; exact ⟨rfl, fun r m => by simp at m⟩
  | d :: ds, ns, e => by
    cases d <;> simp only [rowsOf] at e <;> try (cases e; done)
    rename_i xs
    cases h1 : intsOf xs with
    | none => rw [h1] at e; cases e
    | some a =>
      cases h2 : rowsOf ds with
      | none => rw [h1, h2] at e; cases e
      | some b =>
        rw [h1, h2] at e
        simp only at e
        split at e
        · cases e
        · rename_i ha
          cases e
          obtain ⟨q1, q2⟩ := rowsOf_map h2
          refine ⟨by simp [rowD, ← q1, intsOf_map h1], fun r m => ?_⟩
          rcases List.mem_cons.mp m with rfl | m
          · simpa using ha
          · exact q2 r m
theorem py_ints (h : Hm) : ∀ ns : List Int, pyL h (ns.map .int) = some (ns.map .int)
  | [] => rfl
  | n :: ns => by simp [pyL, py, py_ints h ns]
theorem py_row (h : Hm) (r : List Int) : py h (rowD r) = some (.tuple (r.map .int)) := by simp [rowD, py, py_ints]
theorem dataLe_tups (x : List Int → List Int) : PySem.W.dataLe false (fun b => PyData.tuple ((x b).map .int)) = fun p q => decide (x p ≤ x q) := by
  funext p q
  show (!PySem.W.dataLt (.tuple ((x q).map .int)) (.tuple ((x p).map .int))) = _
  rw [PySem.W.dataLt_tuple]
  show (!PySem.W.rowLt ((x q).map .int) ((x p).map .int)) = _
  rw [PySem.W.dataLt_ints]
  by_cases h : x q < x p
  · have h' : ¬ x p ≤ x q := fun r => List.not_lt.mpr r h
    simp [h, h']
  · have h' : x p ≤ x q := List.not_lt.mp h
    simp [h, h']
section
variable {X : Cx} {k : Nat}
theorem c_sorted (c0 : Cs k X) : CaL X (.builtin "sorted") mSorted := caL fun Q φ H h xs vs z R r e q => by
  rcases xs with _ | ⟨d, _ | _⟩ <;> simp only [mSorted] at e <;> try (cases e; done)
  obtain ⟨v, rfl, rd⟩ := r.one
  obtain ⟨ys, e1, e2⟩ := Option.bind_eq_some_iff.mp e
  obtain ⟨a, us, rfl, hq, rr⟩ := lst_at R rd e1
  have fin : ∀ p vs', H p = none → RepL X.K φ H z vs' → Q (.ref p) (upd H p (.lst vs')) := fun p vs' hp hr => q φ _ _ (Lat.new hp) (R.new hp) (fresh_new R hp hr)
  unfold sortD at e2
  cases h1 : intsOf ys with
  | some ns =>
    rw [h1] at e2
    cases e2
    have em := intsOf_map h1
    subst em
    have g := sort_gen c0 (enc := PyData.int) (toD := D.int) (fun _ _ => rfl) (bs := ns) (PySem.W.AllAlike.of fun _ _ => rfl) (PySem.W.Sortable.others fun _ => ⟨by simp, by simp⟩) (fun _ _ => by simp [PyData.depth]) hq rr
    rw [PySem.W.dataLe_int (fun b : Int => b), intsL_eq] at g
    exact ⟨_, g, rfl, rfl, fin⟩
  | none =>
    rw [h1] at e2
    cases h2 : rowsOf ys with
    | none => rw [h2] at e2; cases e2
    | some rs =>
      rw [h2] at e2
      cases e2
      obtain ⟨em, hne⟩ := rowsOf_map h2
      subst em
      have g := sort_gen c0 (enc := fun r : List Int => PyData.tuple (r.map .int)) (toD := rowD) (fun h b => py_row h b) (bs := rs)
        (PySem.W.AllAlike.of fun b b' => by simp only [PySem.W.alike]; exact PySem.W.alike_ints b b')
        (.inl fun d hd => by
          obtain ⟨b, hb, rfl⟩ := List.mem_map.mp hd
          cases b with
          | nil => exact absurd rfl (hne _ hb)
          | cons x r => exact ⟨_, _, rfl⟩) (fun b _ => by simp [PyData.depth, PySem.W.depth_ints]) hq rr
      rw [dataLe_tups (fun b => b), rowsL_eq] at g
      exact ⟨_, g, rfl, rfl, fin⟩
end
/-! ### [..] * n -/
def lMul (f : Lv) (g : Ev) : Lv := fun σ h => (f σ h).bind fun xs h1 => (g σ h1).bind fun n h2 => match n with
  | .int k => if -4611686018427387904 ≤ k ∧ k < 4611686018427387904 ∧ xs.length * k.toNat ≤ line then .ok (List.replicate k.toNat xs).flatten h2 else .bad
  | _ => .bad
theorem RepL.rep {K : PySem.W.Frag} {φ : List Addr} {H : Hp} {ds : List D} {vs : List V} (r : RepL K φ H ds vs) : ∀ n : Nat, RepL K φ H (List.replicate n ds).flatten (List.replicate n vs).flatten
  | 0 => .nil
  | n + 1 => by
    simp only [List.replicate_succ, List.flatten_cons]
    exact r.append (RepL.rep r n)
section
variable {X : Cx} {cl : Cl} {W : WX} {a b : Expr} {f : Lv} {g : Ev} {pos : Pos}
theorem l_mul (ha : SL X cl W a f) (hb : SE X cl W b g) : SL X cl W (.BinOp a .Mult b pos) (lMul f g) := by
  refine ⟨fun pins s σ H Q I p => ?_⟩
  obtain ⟨φ, st, h0, S, R0, P⟩ := p
  refine wpAny_BinOp (bin ha hb I (R := fun v u H2 => rRep v u H2 Q) ?_ fun v u s2 x y H2 I2 rx ry q => op_rep pins s2 σ H2 x y v u Q I2 rx ry q)
  refine ⟨φ, st, h0, S, R0, P.seq fun x h1 φ1 H1 v l1 r1 q1 P1 => ⟨φ1, st, h1, S.mono l1, r1, P1.seq fun y h2 φ2 H2 u l2 r2 q2 P2 => ?_⟩⟩
  obtain ⟨p, vs, rfl, n0, nn, ea, rr⟩ := q1
  cases q2 <;> simp only at P2 <;> try (exact P2.elim)
  rename_i k
  split at P2
  · rename_i hc
    refine ⟨p, k, vs, rfl, rfl, l2.keep p _ ea nn, by omega, by omega, by rw [← rr.length, ← line_eq]; exact hc.2.2, fun p' hp => ?_⟩
    exact P2 φ2 _ _ (Lat.new hp) (r2.new hp) (fresh_new r2 hp (RepL.mono l2.pre l2.per _ _ (rr.rep _)))
  · exact P2.elim
end
end Y
end

section
set_option Elab.async false
set_option linter.all false
set_option maxRecDepth 100000
set_option maxHeartbeats 2000000
/-! YP: exceptions: raise, try. -/
namespace Y
open PySem PySem.Spec PyProof.Rows L2

/-- raise C(..), C of the program, its __init__ keeps the fields fs -/
def sRaise (c : Str) (fs : List Str) (a : Av) : Sv := fun σ h => (a σ h).out σ fun xs h1 => if xs.length = fs.length ∧ fs.length ≤ 10 then .ex ⟨c, (fs.zip xs).reverse⟩ σ h1 else .bad
/-- what __init__ does -/
def spI (C : Addr) (fs : List Str) : Sp := fun vs H Q _ => ∃ (a : Addr) (ws : List V), vs = .ref a :: ws ∧ ws.length = fs.length ∧ H a = some (exo a C none) ∧
  ∀ dx H2, H dx = none → dx ≠ a → H2 a = some (exo a C (some dx)) → H2 dx = some (exd dx (fs.zip ws).reverse) → (∀ b, b ≠ a → b ≠ dx → H2 b = H b) → Q .non H2
/-- the class and its __init__ -/
structure Exc (P : Program) (w : World) (K : PySem.W.Frag) (mg : Str → Option Value) (base : Heap) (c : Str) (fs : List Str) : Prop where
  ex : ∃ (C fI : Addr) (fd : FuncData), mg c = some (.ref C) ∧ PySem.W.nsIn K mainGlobals c = some (some (.ref C)) ∧ OexC K C ∧ PySem.W.findIn K (.ref C) "__init__" = some (some (.ref fI)) ∧ PySem.W.typeIn K (.ref fI) = some (.type "function") ∧
    FnOk P w K mg base CX0 1 fI fd ("self" :: fs) (spI C fs) ∧ Binds K fd ("self" :: fs) []
section
variable {X : Cx} {cl : Cl} {W : WX} {e : Expr} {es : List Expr} {fa : Av} {pos p pos2 : Pos} {k : Nat} {c : Str} {fs : List Str}
theorem repF_zip {K : PySem.W.Frag} {φ : List Addr} {H : Hp} : ∀ {fs : List Str} {xs : List D} {vs : List V}, RepL K φ H xs vs → RepF K φ H (fs.zip xs) (fs.zip vs)
  | [], _, _, _ => by simp only [List.zip_nil_left]; exact .nil
  | f :: fs, [], _, r => by cases r; simp only [List.zip_nil_right]; exact .nil
  | f :: fs, x :: xs, _, r => by
    cases r with
    | cons h r => exact .cons ⟨rfl, h⟩ (repF_zip r)
theorem paired_app {α β : Type} {R : α → β → Prop} {as as' : List α} {bs bs' : List β} (h : Paired R as bs) (h' : Paired R as' bs') : Paired R (as ++ as') (bs ++ bs') := by
  induction h with
  | nil => exact h'
  | cons q _ ih => exact .cons q ih
theorem paired_rev {α β : Type} {R : α → β → Prop} {as : List α} {bs : List β} (h : Paired R as bs) : Paired R as.reverse bs.reverse := by
  induction h with
  | nil => exact .nil
  | cons q _ ih => rw [List.reverse_cons, List.reverse_cons]; exact paired_app ih (.cons q .nil)
theorem s_raise (E : Exc X.prog X.w X.K X.mg X.base c fs) (c0 : Cs k X) (hk : 2 ≤ k) (tk : Takes X W) (ha : SA X cl W (e :: es) fa) (hg : Gl X c := by rfl) (hdb : (c == ("__debug__" : Str)) = false := by decide)
    (he : starEach (e :: es) X.env = (false, eval e X.env) :: starEach es X.env := by rfl) (hpl : (backTo pos (starEach es X.env)).any (·.1) = false := by rfl) : SS X cl W (.Raise (some (.Call (.Name c p) (e :: es) [] pos)) none pos2) (sRaise c fs fa) := by
  obtain ⟨C, fI, fd, gm, hns, T, iC, tI, F, hb⟩ := E.ex
  refine PS.of (ps_raise c0.calm tk (pmk_oex T iC tI F (c0.room.mono hk) hb .nil (pass0 : Passes CX0 X _) hg gm ha hdb he hpl)) fun D σ H p => ?_
  obtain ⟨φ, st, h0, S, R0, P⟩ := p
  refine ⟨φ, st, h0, S, R0, ?_⟩
  simp only [sRaise] at P
  cases e1 : fa st h0 with
  | bad => simp only [e1, Rs.out] at P; exact P
  | ex ex1 h1 =>
    simp only [e1, Rs.out] at P
    exact fun φ' H' c d l r er => P φ' H' c d σ l r (S.mono l) er
  | ok xs h1 =>
    simp only [e1, Rs.out] at P
    intro φ1 H1 vs l1 r1 q1
    split at P
    · rename_i hl
      obtain ⟨hl, h10⟩ := hl
      refine ⟨by rw [← q1.length, hl]; omega, fun a ha => ⟨a, vs, by rw [List.append_nil], by rw [← q1.length, hl], upd_same, fun dx H2 n1 n2 e2 e3 e4 => ?_⟩⟩
      refine ⟨rfl, dx, _, e2, e3, ?_, ?_⟩
      · rw [upd_ne n2] at n1; exact n1
      · rw [upd_ne n2] at n1
        have eH : upd (del H2 a) dx (.xd (fs.zip vs).reverse) = upd H1 dx (.xd (fs.zip vs).reverse) := by
          funext b
          by_cases hb : b = dx
          · subst hb; rw [upd_same, upd_same]
          · rw [upd_ne hb, upd_ne hb]
            by_cases hba : b = a
            · subst hba; rw [del_same, ha]
            · rw [del_ne hba, e4 b hba hb, upd_ne hba]
        rw [eH]
        exact P φ1 _ _ _ σ (l1.trans (Lat.new n1)) (r1.new n1) (S.mono (l1.trans (Lat.new n1))) ⟨⟨C, rfl, hns⟩, .inr ⟨dx, _, rfl, upd_same, paired_rev (repF_zip (RepL.mono (List.prefix_refl _) (Per.new n1) _ _ q1))⟩⟩
    · exact P.elim
end
end Y
end

section
set_option Elab.async false
set_option linter.all false
set_option maxRecDepth 100000
set_option maxHeartbeats 1000000
/-! YPz: zip of a list or a tuple with a list or a tuple: the kinds as parameters. -/
namespace Yz
open PySem PySem.Spec PyProof.Rows RZ
/-- what is walked -/
inductive Kd where
  | L | T
def ItK : Kd → Heap → Addr → Addr → Nat → Prop
  | .L, h, it, l, i => h.IsListIter it l i
  | .T, h, it, l, i => h.IsTupleIter it l i
def SqK : Kd → Heap → Addr → Array Value → Prop
  | .L, h, l, xs => h.IsList l xs
  | .T, h, l, xs => h.IsTuple l xs
theorem ItK.extBut {p : Kd} {h h' : Heap} {it l b : Addr} {i : Nat} (a : ItK p h it l i) (e : Heap.ExtBut b h h') (n : it ≠ b) : ItK p h' it l i := by
  cases p
  · exact Heap.IsListIter.extBut a e n
  · exact Heap.IsTupleIter.extBut a e n
theorem SqK.extBut {p : Kd} {h h' : Heap} {l b : Addr} {xs : Array Value} (a : SqK p h l xs) (e : Heap.ExtBut b h h') (n : l ≠ b) : SqK p h' l xs := by
  cases p
  · exact Heap.IsList.extBut a e n
  · exact Heap.IsTuple.extBut a e n
theorem ItK.at {p : Kd} {h h' : Heap} {it l : Addr} {i : Nat} (a : ItK p h it l i) (e : ∀ o, h.get? it = some o → h'.get? it = some o) : ItK p h' it l i := by
  cases p
  · exact Heap.IsListIter.at a e
  · exact Heap.IsTupleIter.at a e
theorem ItK.obj {p : Kd} {h : Heap} {it l : Addr} {i : Nat} (a : ItK p h it l i) : ∃ o, h.get? it = some o ∧ ∀ v, o.data = .cell v → False := by
  cases p
  · obtain ⟨o, e, _, d⟩ := a
    exact ⟨o, e, fun v q => by rw [d] at q; cases q⟩
  · obtain ⟨o, e, _, d⟩ := a
    exact ⟨o, e, fun v q => by rw [d] at q; cases q⟩
section
variable {prog : Program} {w : World} {A : Around} {E : Value → Shared → Prop} {s : Shared}
theorem nextK_item {p : Kd} {it l : Addr} {i : Nat} {items} {x : Value} {Q : Value → Shared → Prop} (hit : ItK p s.heap it l i)
    (hl : SqK p s.heap l items) (hx : items[i]? = some x)
    (hQ : ∀ h', ItK p h' it l (i + 1) → Heap.SameBut it s.heap h' → Q x { s with heap := h' }) :
    wpAny (model prog w) A (Builtin.SmallTypes.nextOf (.ref it)) Q E s := by
  cases p
  · exact wpAny_nextOf_list_item hit hl hx hQ
  · exact nextOf_tuple_item hit hl hx hQ
theorem nextK_end {p : Kd} {it l : Addr} {i : Nat} {items} {Q : Value → Shared → Prop} (hh : A.handled = none)
    (hit : ItK p s.heap it l i) (hl : SqK p s.heap l items) (hx : items[i]? = none)
    (hE : ∀ h' e, Heap.ExtBut it s.heap h' → (∃ o, h'.get? e = some o ∧ o.cls = .type "StopIteration") → E (.ref e) { s with heap := h' }) :
    wpAny (model prog w) A (Builtin.SmallTypes.nextOf (.ref it)) Q E s := by
  cases p
  · exact wpAny_nextOf_list_end hh hit hl hx hE
  · exact nextOf_tuple_end hh hit hl hx hE
theorem zipK_next_item {p q : Kd} {z TI TO i1 i2 l1 l2 : Addr} {k1 k2 : Nat} {xs ys : Array Value} {x y a b : Value} {Q : Value → Shared → Prop} (D : ZipApart z TI TO i1 i2 l1 l2)
    (hz : IsZip s.heap z TI TO .none) (hTI : IsPair s.heap TI (.ref i1) (.ref i2)) (hTO : IsPair s.heap TO a b)
    (h1 : ItK p s.heap i1 l1 k1) (h2 : ItK q s.heap i2 l2 k2) (hl1 : SqK p s.heap l1 xs) (hl2 : SqK q s.heap l2 ys) (hx : xs[k1]? = some x) (hy : ys[k2]? = some y)
    (hQ : ∀ h', IsZip h' z TI TO (rawInt s.heap.objs.size) → IsPair h' TO x y → ItK p h' i1 l1 (k1 + 1) → ItK q h' i2 l2 (k2 + 1) → IsPair h' s.heap.objs.size x y → h'.objs.size = s.heap.objs.size + 1 →
      (∀ c o, c ≠ z → c ≠ TO → c ≠ i1 → c ≠ i2 → s.heap.get? c = some o → h'.get? c = some o) → Q (.ref s.heap.objs.size) { s with heap := h' }) :
    wpAny (model prog w) A (Builtin.«zip.__next__» ⟨[.ref z], []⟩) (fun fin s' => ∃ v, fin = .done (.ret v) ∧ Q v s') E s := by
  show wpAny _ _ (field (.ref z) 2 >>= _) _ _ _
  refine wpAny_bind (wpAny_field hz rfl (x := .bool false) rfl ?_)
  show wpAny _ _ (field (.ref z) 3 >>= _) _ _ _
  refine wpAny_bind (wpAny_field hz rfl (x := .ref TI) rfl ?_)
  refine wpAny_bind (wpAny_seqItems hTI rfl ?_)
  show wpAny _ _ (Builtin.SmallTypes.ownedTupleIsFree (.ref z) >>= _) _ _ _
  refine wpAny_bind ?_
  unfold Builtin.SmallTypes.ownedTupleIsFree
  refine wpAny_bind (wpAny_field hz rfl (x := .none) rfl (wpAny_pure ?_))
  simp only [if_true]
  refine wpAny_bind (wpAny_rule ?_)
  refine wpAny_bind (wpAny_field hz rfl (x := .ref TO) rfl ?_)
  refine wpAny_bind (wpAny_setField_rec hz (by simp) fun h₁ hz₁ hs₁ => ?_)
  replace hz₁ : IsZip h₁ z TI TO .ellipsis := hz₁
  refine wpAny_bind ?_
  simp only [List.zipIdx_cons, List.zipIdx_nil, List.forIn_cons, List.forIn_nil]

  refine wpAny_bind (wpAny_bind (wpAny_onRaise ?_))
  show wpAny _ _ (Builtin.SmallTypes.nextOf (.ref i1) >>= _) _ _ _
  refine wpAny_bind (nextK_item (h1.extBut hs₁.extBut D.i1z) (hl1.extBut hs₁.extBut D.l1z) hx fun h₂ h1₂ hs₂ => wpAny_pure ?_)
  have hTO₂ : IsPair h₂ TO a b := hs₂.extBut _ _ D.TOi1 (hs₁.extBut _ _ D.TOz hTO)
  refine wpAny_bind (wpAny_seqItems hTO₂ rfl ?_)
  refine wpAny_bind (wpAny_updateSeq_pair hTO₂ fun h₃ hTO₃ hs₃ => ?_)
  replace hTO₃ : IsPair h₃ TO x b := hTO₃
  refine wpAny_bind (wpAny_letGo (wpAny_pure ?_))

  refine wpAny_bind (wpAny_bind (wpAny_onRaise ?_))
  show wpAny _ _ (Builtin.SmallTypes.nextOf (.ref i2) >>= _) _ _ _
  refine wpAny_bind (nextK_item (((h2.extBut hs₁.extBut D.i2z).extBut hs₂.extBut D.i12.symm).extBut hs₃.extBut D.TOi2.symm)
    (((hl2.extBut hs₁.extBut D.l2z).extBut hs₂.extBut D.l2i1).extBut hs₃.extBut D.l2TO) hy fun h₄ h2₄ hs₄ => wpAny_pure ?_)
  have hTO₄ : IsPair h₄ TO x b := hs₄.extBut _ _ D.TOi2 hTO₃
  refine wpAny_bind (wpAny_seqItems hTO₄ rfl ?_)
  refine wpAny_bind (wpAny_updateSeq_pair hTO₄ fun h₅ hTO₅ hs₅ => ?_)
  replace hTO₅ : IsPair h₅ TO x y := hTO₅
  refine wpAny_bind (wpAny_letGo (wpAny_pure (wpAny_pure ?_)))

  refine wpAny_bind (wpAny_seqItems hTO₅ rfl ?_)
  refine wpAny_bind (wpAny_newTuple ?_)
  have hsz : h₅.objs.size = s.heap.objs.size := by rw [hs₅.1, hs₄.1, hs₃.1, hs₂.1, hs₁.1]
  have hz₅ : IsZip h₅ z TI TO .ellipsis := hs₅.extBut _ _ D.TOz.symm (hs₄.extBut _ _ D.i2z.symm (hs₃.extBut _ _ D.TOz.symm (hs₂.extBut _ _ D.i1z.symm hz₁)))
  have hk₅ : ∀ c o, c ≠ z → c ≠ TO → c ≠ i1 → c ≠ i2 → s.heap.get? c = some o → h₅.get? c = some o := fun c o c1 c2 c3 c4 e =>
    hs₅.extBut _ _ c2 (hs₄.extBut _ _ c4 (hs₃.extBut _ _ c2 (hs₂.extBut _ _ c3 (hs₁.extBut _ _ c1 e))))
  have h1₅ : ItK p h₅ i1 l1 (k1 + 1) := ((h1₂.extBut hs₃.extBut D.TOi1.symm).extBut hs₄.extBut D.i12).extBut hs₅.extBut D.TOi1.symm
  have h2₅ : ItK q h₅ i2 l2 (k2 + 1) := h2₄.extBut hs₅.extBut D.TOi2.symm
  have hzlt : z < h₅.objs.size := Heap.lt_size hz₅
  have hTOlt : TO < h₅.objs.size := Heap.lt_size hTO₅
  have hi1lt : i1 < h₅.objs.size := by obtain ⟨_, e, _⟩ := h1₅.obj; exact Heap.lt_size e
  have hi2lt : i2 < h₅.objs.size := by obtain ⟨_, e, _⟩ := h2₅.obj; exact Heap.lt_size e
  show wpAny _ _ (Builtin.SmallTypes.ownedTupleHandOut (.ref z) (.ref h₅.objs.size) >>= _) _ _ _
  refine wpAny_bind ?_
  unfold Builtin.SmallTypes.ownedTupleHandOut
  have hz₆ : IsZip (h₅.push { cls := .type "tuple", data := .seq #[x, y] }) z TI TO .ellipsis := Heap.get?_push_of_some _ hz₅
  refine wpAny_bind (wpAny_setField_rec hz₆ (by simp) fun h₇ hz₇ hs₇ => ?_)
  replace hz₇ : IsZip h₇ z TI TO (rawInt h₅.objs.size) := hz₇
  refine wpAny_setField_rec hz₇ (by simp) fun h₈ hz₈ hs₈ => ?_
  replace hz₈ : IsZip h₈ z TI TO (rawInt h₅.objs.size) := hz₈
  have up : ∀ c o, c ≠ z → h₅.get? c = some o → h₈.get? c = some o := fun c o c1 e => hs₈.extBut _ _ c1 (hs₇.extBut _ _ c1 (Heap.get?_push_of_some _ e))
  have hT₈ : IsPair h₈ h₅.objs.size x y := hs₈.extBut _ _ (Nat.ne_of_gt hzlt) (hs₇.extBut _ _ (Nat.ne_of_gt hzlt) (Heap.get?_push_size _ rfl))
  have hz8 : h₈.objs.size = h₅.objs.size + 1 := by rw [hs₈.1, hs₇.1, Heap.size_push]
  rw [hsz] at hz₈ hT₈ hz8
  refine wpAny_pure ⟨_, rfl, ?_⟩
  show Q (.ref h₅.objs.size) _
  rw [hsz]
  exact hQ h₈ hz₈ (up _ _ D.TOz hTO₅) (h1₅.at fun o e => up _ o D.i1z e) (h2₅.at fun o e => up _ o D.i2z e) hT₈ hz8 fun c o c1 c2 c3 c4 e => up c o c1 (hk₅ c o c1 c2 c3 c4 e)

theorem zipK_next_end {p q : Kd} {z TI TO i1 i2 l1 l2 : Addr} {k1 k2 : Nat} {xs ys : Array Value} {a b : Value} {Q : Fin → Shared → Prop} (hh : A.handled = none) (D : ZipApart z TI TO i1 i2 l1 l2)
    (hz : IsZip s.heap z TI TO .none) (hTI : IsPair s.heap TI (.ref i1) (.ref i2)) (hTO : IsPair s.heap TO a b)
    (h1 : ItK p s.heap i1 l1 k1) (h2 : ItK q s.heap i2 l2 k2) (hl1 : SqK p s.heap l1 xs) (hl2 : SqK q s.heap l2 ys) (hend : xs[k1]? = none ∨ ys[k2]? = none)
    (hE : ∀ h' e, (∀ c o, c ≠ z → c ≠ TO → c ≠ i1 → c ≠ i2 → s.heap.get? c = some o → h'.get? c = some o) → (∃ o, h'.get? e = some o ∧ o.cls = .type "StopIteration") → E (.ref e) { s with heap := h' }) :
    wpAny (model prog w) A (Builtin.«zip.__next__» ⟨[.ref z], []⟩) Q E s := by
  show wpAny _ _ (field (.ref z) 2 >>= _) _ _ _
  refine wpAny_bind (wpAny_field hz rfl (x := .bool false) rfl ?_)
  show wpAny _ _ (field (.ref z) 3 >>= _) _ _ _
  refine wpAny_bind (wpAny_field hz rfl (x := .ref TI) rfl ?_)
  refine wpAny_bind (wpAny_seqItems hTI rfl ?_)
  show wpAny _ _ (Builtin.SmallTypes.ownedTupleIsFree (.ref z) >>= _) _ _ _
  refine wpAny_bind ?_
  unfold Builtin.SmallTypes.ownedTupleIsFree
  refine wpAny_bind (wpAny_field hz rfl (x := .none) rfl (wpAny_pure ?_))
  simp only [if_true]
  refine wpAny_bind (wpAny_rule ?_)
  refine wpAny_bind (wpAny_field hz rfl (x := .ref TO) rfl ?_)
  refine wpAny_bind (wpAny_setField_rec hz (by simp) fun h₁ hz₁ hs₁ => ?_)
  replace hz₁ : IsZip h₁ z TI TO .ellipsis := hz₁
  refine wpAny_bind ?_
  simp only [List.zipIdx_cons, List.zipIdx_nil, List.forIn_cons, List.forIn_nil]
  refine wpAny_bind (wpAny_bind (wpAny_onRaise ?_))
  show wpAny _ _ (Builtin.SmallTypes.nextOf (.ref i1) >>= _) _ _ _
  cases hx : xs[k1]? with
  | none =>
    refine wpAny_bind (nextK_end hh (h1.extBut hs₁.extBut D.i1z) (hl1.extBut hs₁.extBut D.l1z) hx fun h₂ e hs₂ he => ?_)
    obtain ⟨oe, hoe, hce⟩ := he
    have hz₂ : IsZip h₂ z TI TO .ellipsis := hs₂ _ _ D.i1z.symm hz₁
    have hez : e ≠ z := fun x => by subst x; rw [hz₂] at hoe; cases hoe; simp at hce
    refine wpAny_setField_rec hz₂ (by simp) fun h₃ _ hs₃ => hE h₃ e (fun c o c1 _ c3 _ x => hs₃.extBut _ _ c1 (hs₂ _ _ c3 (hs₁.extBut _ _ c1 x))) ⟨oe, hs₃.extBut _ _ hez hoe, hce⟩
  | some x =>
    have hy : ys[k2]? = none := by rcases hend with h | h; rw [hx] at h; cases h; exact h
    refine wpAny_bind (nextK_item (h1.extBut hs₁.extBut D.i1z) (hl1.extBut hs₁.extBut D.l1z) hx fun h₂ h1₂ hs₂ => wpAny_pure ?_)
    have hTO₂ : IsPair h₂ TO a b := hs₂.extBut _ _ D.TOi1 (hs₁.extBut _ _ D.TOz hTO)
    refine wpAny_bind (wpAny_seqItems hTO₂ rfl ?_)
    refine wpAny_bind (wpAny_updateSeq_pair hTO₂ fun h₃ hTO₃ hs₃ => ?_)
    refine wpAny_bind (wpAny_letGo (wpAny_pure ?_))
    refine wpAny_bind (wpAny_bind (wpAny_onRaise ?_))
    show wpAny _ _ (Builtin.SmallTypes.nextOf (.ref i2) >>= _) _ _ _
    refine wpAny_bind (nextK_end hh (((h2.extBut hs₁.extBut D.i2z).extBut hs₂.extBut D.i12.symm).extBut hs₃.extBut D.TOi2.symm)
      (((hl2.extBut hs₁.extBut D.l2z).extBut hs₂.extBut D.l2i1).extBut hs₃.extBut D.l2TO) hy fun h₄ e hs₄ he => ?_)
    obtain ⟨oe, hoe, hce⟩ := he
    have hz₄ : IsZip h₄ z TI TO .ellipsis := hs₄ _ _ D.i2z.symm (hs₃.extBut _ _ D.TOz.symm (hs₂.extBut _ _ D.i1z.symm hz₁))
    have hez : e ≠ z := fun x => by subst x; rw [hz₄] at hoe; cases hoe; simp at hce
    refine wpAny_setField_rec hz₄ (by simp) fun h₅ _ hs₅ => hE h₅ e (fun c o c1 c2 c3 c4 x => hs₅.extBut _ _ c1 (hs₄ _ _ c4 (hs₃.extBut _ _ c2 (hs₂.extBut _ _ c3 (hs₁.extBut _ _ c1 x))))) ⟨oe, hs₅.extBut _ _ hez hoe, hce⟩

theorem pyNext_zipK_item {p q : Kd} {z TI TO i1 i2 l1 l2 : Addr} {k1 k2 : Nat} {xs ys : Array Value} {x y a b : Value} {Q : Option Value → Shared → Prop} (D : ZipApart z TI TO i1 i2 l1 l2)
    (hz : IsZip s.heap z TI TO .none) (hTI : IsPair s.heap TI (.ref i1) (.ref i2)) (hTO : IsPair s.heap TO a b)
    (h1 : ItK p s.heap i1 l1 k1) (h2 : ItK q s.heap i2 l2 k2) (hl1 : SqK p s.heap l1 xs) (hl2 : SqK q s.heap l2 ys) (hx : xs[k1]? = some x) (hy : ys[k2]? = some y)
    (hQ : ∀ h', IsZip h' z TI TO (rawInt s.heap.objs.size) → IsPair h' TO x y → ItK p h' i1 l1 (k1 + 1) → ItK q h' i2 l2 (k2 + 1) → IsPair h' s.heap.objs.size x y → h'.objs.size = s.heap.objs.size + 1 →
      (∀ c o, c ≠ z → c ≠ TO → c ≠ i1 → c ≠ i2 → s.heap.get? c = some o → h'.get? c = some o) → Q (some (.ref s.heap.objs.size)) { s with heap := h' }) :
    wpAny (model prog w) A (pyNext (.ref z)) Q E s := by
  have hT : s.TypeIs (.ref z) "zip" := ⟨_, hz, rfl⟩
  unfold pyNext
  exact wpAny_bind (wpAny_attempt (wpAny_callSpecial?_slot (name := Str.ofString "__next__") hT F.slot_zip_next
    (wpAny_call_entry F.slot_zip_next hT F.entry_zip_next
      (zipK_next_item D hz hTI hTO h1 h2 hl1 hl2 hx hy fun h' a1 a2 a3 a4 a5 a6 a7 => wpAny_pure (hQ h' a1 a2 a3 a4 a5 a6 a7)) (F.args_zip_next_1 _))))

theorem pyNext_zipK_end {p q : Kd} {z TI TO i1 i2 l1 l2 : Addr} {k1 k2 : Nat} {xs ys : Array Value} {a b : Value} {Q : Option Value → Shared → Prop} (hh : A.handled = none) (D : ZipApart z TI TO i1 i2 l1 l2)
    (hz : IsZip s.heap z TI TO .none) (hTI : IsPair s.heap TI (.ref i1) (.ref i2)) (hTO : IsPair s.heap TO a b)
    (h1 : ItK p s.heap i1 l1 k1) (h2 : ItK q s.heap i2 l2 k2) (hl1 : SqK p s.heap l1 xs) (hl2 : SqK q s.heap l2 ys) (hend : xs[k1]? = none ∨ ys[k2]? = none)
    (hQ : ∀ h', (∀ c o, c ≠ z → c ≠ TO → c ≠ i1 → c ≠ i2 → s.heap.get? c = some o → h'.get? c = some o) → Q none { s with heap := h' }) : wpAny (model prog w) A (pyNext (.ref z)) Q E s := by
  have hT : s.TypeIs (.ref z) "zip" := ⟨_, hz, rfl⟩
  unfold pyNext
  refine wpAny_bind (wpAny_attempt (wpAny_callSpecial?_slot (name := Str.ofString "__next__") hT F.slot_zip_next
    (wpAny_call_entry F.slot_zip_next hT F.entry_zip_next (zipK_next_end hh D hz hTI hTO h1 h2 hl1 hl2 hend fun h' e hk he => ?_) (F.args_zip_next_1 _))))
  obtain ⟨o, ho, hc⟩ := he
  refine wpAny_bind (wpAny_isInstance (T := "StopIteration") (b := true) ⟨o, ho, hc⟩ isSubtype_stop ?_)
  exact wpAny_pure (hQ _ hk)
end

def Kd.nm : Kd → String
  | .L => "list_iterator"
  | .T => "tuple_iterator"
theorem itk0 (p : Kd) {h : Heap} {a l : Addr} (e : h.get? a = some { cls := .type p.nm, data := .fields #[.ref l, .int 0 0] }) : ItK p h a l 0 := by
  cases p
  · exact ⟨_, e, rfl, rfl⟩
  · exact ⟨_, e, rfl, rfl⟩
abbrev zipMH1 (p : Kd) (h : Heap) (l1 : Addr) : Heap := h.push { cls := .type p.nm, data := .fields #[.ref l1, .int 0 0] }
abbrev zipMH2 (p q : Kd) (h : Heap) (l1 l2 : Addr) : Heap := (zipMH1 p h l1).push { cls := .type q.nm, data := .fields #[.ref l2, .int 0 0] }
abbrev zipMH3 (p q : Kd) (h : Heap) (l1 l2 : Addr) : Heap := (zipMH2 p q h l1 l2).push { cls := .type "tuple", data := .seq #[.ref h.objs.size, .ref (zipMH1 p h l1).objs.size] }
abbrev zipMH4 (p q : Kd) (h : Heap) (l1 l2 : Addr) : Heap := (zipMH3 p q h l1 l2).push { cls := .type "tuple", data := .seq #[.none, .none] }
abbrev zipMH5 (p q : Kd) (h : Heap) (l1 l2 : Addr) : Heap := (zipMH4 p q h l1 l2).push { cls := .type "zip", data := .fields #[.none, .bool false, .bool false, .ref (zipMH2 p q h l1 l2).objs.size, .ref (zipMH3 p q h l1 l2).objs.size] }

theorem meets_zipK_new (p q : Kd) (l1 l2 : Addr) (xs ys : Array Value) :
    Meets (Builtin.«zip.__new__» ⟨[.type "zip", .ref l1, .ref l2], []⟩) (fun _ R s => SqK p s.heap l1 xs ∧ SqK q s.heap l2 ys ∧
      R (.ok (.ret (.ref (zipMH4 p q s.heap l1 l2).objs.size))) { s with heap := zipMH5 p q s.heap l1 l2 }) :=
  .of_wp fun prog w A R s h => by
    obtain ⟨hp, g, d, tk, os⟩ := s; obtain ⟨hl1, hl2, h⟩ := h
    have hsub := sub_zip
    cases p <;> cases q
    · have hL1 : Heap.IsList (Shared.heap ⟨hp, g, d, tk, os⟩) l1 xs := hl1
      have hL2 : Heap.IsList (Shared.heap ⟨hp.push { cls := .type "list_iterator", data := .fields #[.ref l1, .int 0 0] }, g, d, tk, os⟩) l2 ys := Heap.IsList.push hl2 _
      wp_walk using wpAny_pyIter_list hL1, wpAny_pyIter_list hL2
      exact ⟨_, rfl, h⟩
    · have hL1 : Heap.IsList (Shared.heap ⟨hp, g, d, tk, os⟩) l1 xs := hl1
      have hL2 : Heap.IsTuple (Shared.heap ⟨hp.push { cls := .type "list_iterator", data := .fields #[.ref l1, .int 0 0] }, g, d, tk, os⟩) l2 ys := Heap.IsTuple.push hl2 _
      wp_walk using wpAny_pyIter_list hL1, wpAny_pyIter_tuple hL2
      exact ⟨_, rfl, h⟩
    · have hL1 : Heap.IsTuple (Shared.heap ⟨hp, g, d, tk, os⟩) l1 xs := hl1
      have hL2 : Heap.IsList (Shared.heap ⟨hp.push { cls := .type "tuple_iterator", data := .fields #[.ref l1, .int 0 0] }, g, d, tk, os⟩) l2 ys := Heap.IsList.push hl2 _
      wp_walk using wpAny_pyIter_tuple hL1, wpAny_pyIter_list hL2
      exact ⟨_, rfl, h⟩
    · have hL1 : Heap.IsTuple (Shared.heap ⟨hp, g, d, tk, os⟩) l1 xs := hl1
      have hL2 : Heap.IsTuple (Shared.heap ⟨hp.push { cls := .type "tuple_iterator", data := .fields #[.ref l1, .int 0 0] }, g, d, tk, os⟩) l2 ys := Heap.IsTuple.push hl2 _
      wp_walk using wpAny_pyIter_tuple hL1, wpAny_pyIter_tuple hL2
      exact ⟨_, rfl, h⟩

section
variable {prog : Program} {w : World} {A : Around} {E : Value → Shared → Prop} {s : Shared}

theorem call_zipK {p q : Kd} {l1 l2 : Addr} {xs ys : Array Value} {Q : Value → Shared → Prop} (hl1 : SqK p s.heap l1 xs) (hl2 : SqK q s.heap l2 ys)
    (h : ∀ h', IsZip h' (s.heap.objs.size + 4) (s.heap.objs.size + 2) (s.heap.objs.size + 3) .none → IsPair h' (s.heap.objs.size + 2) (.ref s.heap.objs.size) (.ref (s.heap.objs.size + 1)) →
      IsPair h' (s.heap.objs.size + 3) .none .none → ItK p h' s.heap.objs.size l1 0 → ItK q h' (s.heap.objs.size + 1) l2 0 → h'.objs.size = s.heap.objs.size + 5 →
      (∀ c o, s.heap.get? c = some o → h'.get? c = some o) → Q (.ref (s.heap.objs.size + 4)) { s with heap := h' }) :
    wpAny (model prog w) A (call (.type "zip") [.ref l1, .ref l2]) Q E s := by
  refine callType_new F.called_zip (by decide) (F.typeCall_zip_2 _ _) (F.newCall_zip_2 _ _) (fun obj => F.args_object_init_3 obj _ _) F.entry_zip_new
    (meets_zipK_new p q l1 l2 xs ys) ⟨hl1, hl2, ?_⟩
  have z1 : (zipMH1 p s.heap l1).objs.size = s.heap.objs.size + 1 := Heap.size_push ..
  have z2 : (zipMH2 p q s.heap l1 l2).objs.size = s.heap.objs.size + 2 := by rw [Heap.size_push, z1]
  have z3 : (zipMH3 p q s.heap l1 l2).objs.size = s.heap.objs.size + 3 := by rw [Heap.size_push, z2]
  have z4 : (zipMH4 p q s.heap l1 l2).objs.size = s.heap.objs.size + 4 := by rw [Heap.size_push, z3]
  have z5 : (zipMH5 p q s.heap l1 l2).objs.size = s.heap.objs.size + 5 := by rw [Heap.size_push, z4]
  have g5 : (zipMH5 p q s.heap l1 l2).get? (zipMH4 p q s.heap l1 l2).objs.size = some _ := Heap.get?_push_size _ rfl
  have g4 : (zipMH5 p q s.heap l1 l2).get? (zipMH3 p q s.heap l1 l2).objs.size = some _ := Heap.get?_push_of_some _ (Heap.get?_push_size _ rfl)
  have g3 : (zipMH5 p q s.heap l1 l2).get? (zipMH2 p q s.heap l1 l2).objs.size = some _ := Heap.get?_push_of_some _ (Heap.get?_push_of_some _ (Heap.get?_push_size _ rfl))
  have g2 : (zipMH5 p q s.heap l1 l2).get? (zipMH1 p s.heap l1).objs.size = some _ := Heap.get?_push_of_some _ (Heap.get?_push_of_some _ (Heap.get?_push_of_some _ (Heap.get?_push_size _ rfl)))
  have g1 : (zipMH5 p q s.heap l1 l2).get? s.heap.objs.size = some _ := Heap.get?_push_of_some _ (Heap.get?_push_of_some _ (Heap.get?_push_of_some _ (Heap.get?_push_of_some _ (Heap.get?_push_size _ rfl))))
  show _ ∧ _
  rw [z2, z3, z4] at g5
  rw [z1, z2] at g3
  rw [z3] at g4
  rw [z1] at g2
  rw [z4]
  exact ⟨⟨_, g5, rfl⟩, h _ g5 g3 g4 (itk0 p g1) (itk0 q g2) z5 fun c o x =>
    Heap.get?_push_of_some _ (Heap.get?_push_of_some _ (Heap.get?_push_of_some _ (Heap.get?_push_of_some _ (Heap.get?_push_of_some _ x))))⟩
end
end Yz
namespace Yz
open PySem PySem.Spec PyProof.Rows L2 RZ
def SqV : Kd → PySem.W.Frag → Hp → Addr → List V → Prop
  | .L => SqL
  | .T => SqT
theorem sqK {p : Kd} {X : Cx} {pins : List (Addr × Obj)} {σ : L2.St} {H : Hp} {s : Shared} (I : Inv X pins σ H s) {a : Addr} {xs : List V} (h : SqV p X.K H a xs) : ∃ its : List Value, Vals xs its ∧ SqK p s.heap a its.toArray ∧ True := by
  cases p
  · obtain ⟨its, rv, z, _⟩ := I.list h
    exact ⟨its, rv, z.isList, trivial⟩
  · obtain ⟨its, rv, z, _⟩ := I.tuple h
    exact ⟨its, rv, z, trivial⟩
theorem sqK_inj {p : Kd} {X : Cx} {pins : List (Addr × Obj)} {σ : L2.St} {H : Hp} {s : Shared} (I : Inv X pins σ H s) {a : Addr} {xs ys : List V} (h : SqV p X.K H a xs) (h2 : SqV p X.K H a ys) : xs = ys := by
  cases p
  · exact I.list_inj h h2
  · exact I.tuple_inj h h2
theorem sqK_lt {p : Kd} {h : Heap} {a : Addr} {xs : Array Value} (z : SqK p h a xs) : a < h.objs.size := by
  cases p
  · obtain ⟨o, e, _⟩ := z; exact Heap.lt_size e
  · obtain ⟨o, e, _⟩ := z; exact Heap.lt_size e
/-- the lists or tuples at a and b as they stand at each turn, the items in new pairs -/
def ItzK (p q : Kd) (K : PySem.W.Frag) (a b : Addr) : It :=
  ⟨fun i H => ∃ (xs ys : List V) (x y : V), SqV p K H a xs ∧ SqV q K H b ys ∧ xs[i]? = some x ∧ ys[i]? = some y,
    fun i H v H' => ∃ T x y, v = .ref T ∧ H T = none ∧ H' = upd H T (.tup [x, y]) ∧ (∀ xs, SqV p K H a xs → xs[i]? = some x) ∧ ∀ ys, SqV q K H b ys → ys[i]? = some y,
    fun i H => ∃ xs ys : List V, SqV p K H a xs ∧ SqV q K H b ys ∧ (xs.length ≤ i ∨ ys.length ≤ i)⟩
theorem turn_zipK {p q : Kd} {P : Program} {w : World} {K : PySem.W.Frag} {elts : List Expr} {kk : Nat} {tpos : Pos} {a b z TI TO i1 i2 : Addr} (D : ZipApart z TI TO i1 i2 a b) :
    Turn P w K (.Tuple elts kk tpos) (ItzK p q K a b) [z, TI, TO, i1, i2] z (fun i h => IsZip h z TI TO .none ∧ IsPair h TI (.ref i1) (.ref i2) ∧ (∃ x y, IsPair h TO x y) ∧ ItK p h i1 a i ∧ ItK q h i2 b i) where
  mem := by simp
  obj := fun i h st c hc => by
    obtain ⟨hz, hTI, ⟨x, y, hTO⟩, h1, h2⟩ := st
    obtain ⟨o1, e1, d1⟩ := h1.obj
    obtain ⟨o2, e2, d2⟩ := h2.obj
    have e' : c = z ∨ c = TI ∨ c = TO ∨ c = i1 ∨ c = i2 := by simpa using hc
    rcases e' with q | q | q | q | q
    · rw [q]; exact ⟨_, hz, fun v q => nomatch q⟩
    · rw [q]; exact ⟨_, hTI, fun v q => nomatch q⟩
    · rw [q]; exact ⟨_, hTO, fun v q => nomatch q⟩
    · rw [q]; exact ⟨o1, e1, d1⟩
    · rw [q]; exact ⟨o2, e2, d2⟩
  keep := fun i h h' st k => by
    obtain ⟨hz, hTI, ⟨x, y, hTO⟩, h1, h2⟩ := st
    exact ⟨k z (by simp) _ hz, k TI (by simp) _ hTI, ⟨x, y, k TO (by simp) _ hTO⟩, h1.at fun o q => k i1 (by simp) o q, h2.at fun o q => k i2 (by simp) o q⟩
  item := by
    intro X hP hw hK hc i pins s σ H E I hf st hg
    subst hP hw hK
    obtain ⟨hz, hTI, ⟨x0, y0, hTO⟩, h1, h2⟩ := st
    obtain ⟨xs, ys, x, y, hqx, hqy, hx, hy⟩ := hg
    obtain ⟨its, rv, pp, _⟩ := sqK I hqx
    obtain ⟨its2, rv2, pp2, _⟩ := sqK I hqy
    obtain ⟨u, hu, ru⟩ := rv.get hx
    obtain ⟨u2, hu2, ru2⟩ := rv2.get hy
    have hzl : z < s.heap.objs.size := Heap.lt_size hz
    refine pyNext_zipK_item D hz hTI hTO h1 h2 pp pp2 (x := u) (y := u2) (by simpa using hu) (by simpa using hu2) fun h' z' TO' h1' h2' hT hsz hk => ?_
    refine ⟨_, rfl, wpAny_letOwnedTupleGo_zip (s := { s with heap := h' }) z' fun h'' z'' sb => ?_⟩
    have hT2 : h''.get? s.heap.objs.size = some { cls := .type "tuple", data := .seq #[u, u2] } := (sb.2 _ (Nat.ne_of_gt hzl)).trans hT
    have new : ObjOk X.prog X.w (upd H s.heap.objs.size (.tup [x, y])) h'' s.heap.objs.size (.tup [x, y]) :=
      ⟨by show 2 ≤ sizeLine; decide, [u, u2], .cons ru (.cons ru2 .nil), ⟨_, hT2, rfl, _, rfl⟩⟩
    have I1 : Inv X pins σ (upd H s.heap.objs.size (.tup [x, y])) { s with heap := h'' } :=
      I.turnedNew (t' := s.toks) (ch := [z, TI, TO, i1, i2]) (fun c o hb q => (sb.2 c (fun q' => hb (by simp [q']))).trans (hk c o (fun q' => hb (by simp [q'])) (fun q' => hb (by simp [q'])) (fun q' => hb (by simp [q'])) (fun q' => hb (by simp [q'])) q)) hf (Nat.le_refl _) new
    refine ⟨.ref s.heap.objs.size, _, I1, rfl, ⟨_, x, y, rfl, I.hok.fresh (Nat.le_refl _), rfl, fun l hl => by rw [sqK_inj I hl hqx]; exact hx, fun l hl => by rw [sqK_inj I hl hqy]; exact hy⟩, ⟨z'', ?_, ⟨u, u2, ?_⟩, ?_, ?_⟩, fun c hcm => ?_⟩
    · exact (sb.2 _ D.TIz).trans (hk _ _ D.TIz D.TITO D.TIi1 D.TIi2 hTI)
    · exact (sb.2 _ D.TOz).trans TO'
    · exact h1'.at fun o q => (sb.2 _ D.i1z).trans q
    · exact h2'.at fun o q => (sb.2 _ D.i2z).trans q
    · have hlt : c < s.heap.objs.size := by
        have e' : c = z ∨ c = TI ∨ c = TO ∨ c = i1 ∨ c = i2 := by simpa using hcm
        rcases e' with q | q | q | q | q
        · rw [q]; exact hzl
        · rw [q]; exact Heap.lt_size hTI
        · rw [q]; exact Heap.lt_size hTO
        · rw [q]; obtain ⟨_, e1, _⟩ := h1.obj; exact Heap.lt_size e1
        · rw [q]; obtain ⟨_, e2, _⟩ := h2.obj; exact Heap.lt_size e2
      rw [upd_ne (Nat.ne_of_lt hlt)]
      exact (hf c hcm).1
  done := by
    intro X hP hw hK hc i pins s σ H E I hf st hg
    subst hP hw hK
    obtain ⟨hz, hTI, ⟨x0, y0, hTO⟩, h1, h2⟩ := st
    obtain ⟨xs, ys, hqx, hqy, hend⟩ := hg
    obtain ⟨its, rv, pp, _⟩ := sqK I hqx
    obtain ⟨its2, rv2, pp2, _⟩ := sqK I hqy
    have l1 := rv.length
    have l2 := rv2.length
    have he : its.toArray[i]? = none ∨ its2.toArray[i]? = none := by
      rcases hend with q | q
      · exact .inl (by simp; omega)
      · exact .inr (by simp; omega)
    exact pyNext_zipK_end (I.ok.hd hc) D hz hTI hTO h1 h2 pp pp2 he fun h' hk => ⟨rfl, I.turnedL (t' := s.toks) (ch := [z, TI, TO, i1, i2]) (fun c o hb q =>
      hk c o (fun q' => hb (by simp [q'])) (fun q' => hb (by simp [q'])) (fun q' => hb (by simp [q'])) (fun q' => hb (by simp [q'])) q) hf⟩
  self := fun A i s Q E st h => wpAny_pyIter_zip st.1 h

def iZipK (K : PySem.W.Frag) (ta : TA) : TI := fun σ H R => ta σ H fun vs H1 => ∃ p q a b xs ys, vs = [.ref a, .ref b] ∧ SqV p K H1 a xs ∧ SqV q K H1 b ys ∧ R (ItzK p q K a b) H1
theorem pi_zipK {X : Cx} {e e2 : Expr} {ta : TA} {p pos tpos : Pos} {elts : List Expr} {kk : Nat} (hg : Gl X "zip") (hm : X.mg "zip" = none) (ha : PA X [e, e2] ta)
    (hs : starEach [e, e2] X.env = (false, eval e X.env) :: starEach [e2] X.env := by rfl) (hpl : (backTo pos (starEach [e2] X.env)).any (·.1) = false := by rfl) :
    PI X (.Tuple elts kk tpos) (.Call (.Name "zip" p) [e, e2] [] pos) (iZipK X.K ta) := by
  refine ⟨fun pins s σ H R I h => ?_⟩
  refine Call_ (ld_blt I hg hm PyProof.Rows.boot_zip (PyProof.Rows.callWith_type1 (thn (ha.run pos pins s σ H _ I h) fun us s1 ⟨vs, H1, I1, r1, q1⟩ => ?_) hs hpl))
  obtain ⟨p, q, a, b, xs, ys, ex, hqx, hqy, q1⟩ := q1
  subst ex
  cases r1 with
  | cons r rr =>
    cases rr with
    | cons r' rr =>
      cases rr
      cases r
      cases r'
      obtain ⟨its, rv, p1, _⟩ := sqK I1 hqx
      obtain ⟨its2, rv2, p2, _⟩ := sqK I1 hqy
      refine call_zipK p1 p2 fun h' hz hTI hTO h1 h2 hsz hk => wpAny_pyIter_zip hz ?_
      have I2 : Inv X pins σ H1 { s1 with heap := h' } := I1.kept (t' := s1.toks) hk
      refine ⟨s1.heap.objs.size + 4, [s1.heap.objs.size + 4, s1.heap.objs.size + 2, s1.heap.objs.size + 3, s1.heap.objs.size, s1.heap.objs.size + 1], _, _, H1, rfl, I2, turn_zipK (PySem.W.ktu_apart s1.heap.objs.size a b (sqK_lt p1) (sqK_lt p2)), ⟨hz, hTI, ⟨_, _, hTO⟩, h1, h2⟩, fun c hcm => ?_, q1⟩
      have hle : s1.heap.objs.size ≤ c := by
        simp only [List.mem_cons, List.not_mem_nil, or_false] at hcm
        rcases hcm with z | z | z | z | z <;> rw [z] <;> first | exact Nat.le_refl _ | exact Nat.le_add_right _ _
      exact I1.fpOk hle (I1.hok.fresh hle)
end Yz
end

section
set_option Elab.async false
set_option linter.all false
set_option maxRecDepth 100000
set_option maxHeartbeats 2000000
/-! YQ: in, not in; walks with enumerate, zip. -/
namespace Y
open PySem PySem.Spec PyProof.Rows L2 Yz

def inD (h : Hm) (x y : D) : Option Bool := match dctOf h y with
  | some kvs => match keyOf x with
    | some k => some (getK kvs k).isSome
    | none => none
  | none => match dtuOf h y with
   | some kvs => match tkOf x with
    | some k => some (getK kvs k).isSome
    | none => none
   | none => match seqOf h y with
    | some ds => match py h x, pyL h ds with
      | some d, some es => if SeqAt.shaped d && SeqAt.shaped (.list es) then some (es.any fun z => PyData.eqv z d) else none
      | _, _ => none
    | none => none
def oIn (h : Hm) (x y : D) : Option D := (inD h x y).map .bl
def oNotIn (h : Hm) (x y : D) : Option D := (inD h x y).map fun b => .bl (!b)
theorem keys_rep {K : PySem.W.Frag} {φ : List Addr} {H : Hp} : ∀ {xs : List D} {vs : List V} {ks : List Key}, RepL K φ H xs vs → keysOf xs = some ks → vs = ks.map kV
  | [], _, _, r, e => by
    cases r
    simp only [keysOf, Option.some.injEq] at e
    subst e
    rfl
  | x :: xs, _, ks, r, e => by
    cases r with
    | cons h r =>
      simp only [keysOf] at e
      cases e1 : keyOf x with
      | none => rw [e1] at e; cases e
      | some k =>
        cases e2 : keysOf xs with
        | none => rw [e1, e2] at e; cases e
        | some ks' =>
          rw [e1, e2] at e
          cases e
          rw [key_of_rep h e1, keys_rep r e2]
          rfl
theorem tk_of_rep {K : PySem.W.Frag} {φ : List Addr} {H : Hp} {y : D} {u : V} {ks : List Key} (r : Rep K φ H y u) (e : tkOf y = some ks) : ∃ b, u = .ref b ∧ H b = some (.tup (ks.map kV)) := by
  cases r <;> simp only [tkOf] at e <;> try (cases e; done)
  rename_i a ds vs hq rr
  refine ⟨a, rfl, ?_⟩
  rw [← keys_rep rr e]
  exact hq
section
variable {X : Cx} {k : Nat}
theorem in_gen (c : Cs k X) {F : Value → Value → Sem Value} (f : Bool → Bool)
    (hdct : ∀ {pins : List (Addr × Obj)} {s : Shared} {σ : L2.St} {H : Hp} {a : Addr} {y : V} {u : Value} {o : Option V} {Q : Value → Shared → Prop} {E : Value → Shared → Prop}, L2.Inv X pins σ H s → DGet H a y o → RelV y u → (∀ s', L2.Inv X pins σ H s' → Q (.bool (f o.isSome)) s') → wpAny (model X.prog X.w) X.A (F u (.ref a)) Q E s)
    (hseq : ∀ {pins : List (Addr × Obj)} {s : Shared} {σ : L2.St} {H : Hp} {a : Addr} {x : V} {u : Value} {vs : List V} {d : PyData} {es : List PyData} {Q : Value → Shared → Prop} {E : Value → Shared → Prop}, L2.Inv X pins σ H s → (SqL X.K H a vs ∨ SqT X.K H a vs) → DpAll X.K H vs es → Dp X.K H x d → RelV x u → SeqAt.shaped d = true → SeqAt.shaped (.list es) = true → Q (.bool (f (es.any fun z => PyData.eqv z d))) s → wpAny (model X.prog X.w) X.A (F u (.ref a)) Q E s) :
    OpY X F (fun h x y => (inD h x y).map fun b => .bl (f b)) := opY1 fun Q φ H h x y v u z R rx ry e q => by
  obtain ⟨b, e1, rfl⟩ := Option.map_eq_some_iff.mp e
  have q' : Q (.bl (f b)) H := q _ (.bl _)
  refine ⟨fun v' u' H' Q' => v' = v ∧ u' = u ∧ H' = H ∧ Q' (.bl (f b)) H, ?_, rfl, rfl, rfl, q'⟩
  intro pins s σ H1 xv yv vv uu Q1 I r1 r2 hh
  obtain ⟨rfl, rfl, rfl, qq⟩ := hh
  unfold inD at e1
  cases ed : dctOf h y with
  | some kvs =>
    rw [ed] at e1
    cases ek : keyOf x with
    | none => rw [ek] at e1; cases e1
    | some ky =>
      rw [ek] at e1
      cases e1
      have e3 := key_of_rep rx ek
      subst e3
      cases ry <;> simp only [dctOf] at ed <;> try (cases ed; done)
      rename_i n ad hk
      obtain ⟨ob, h3, h4⟩ := R.at hk
      rw [h3] at ed
      cases ob <;> simp at ed
      subst ed
      cases r2
      cases h4 with
      | dct hh rr =>
        rename_i kv
        rcases rr.get ky with ⟨z1, z2⟩ | ⟨dd, w, z1, z2, z3⟩
        · refine hdct I (.k hh (k := ky)) r1 fun s' I' => ⟨.bl _, _, I', rfl, ?_⟩
          rw [z1] at qq
          rw [z2]
          exact qq
        · refine hdct I (.k hh (k := ky)) r1 fun s' I' => ⟨.bl _, _, I', rfl, ?_⟩
          rw [z1] at qq
          rw [z2]
          exact qq
  | none =>
    rw [ed] at e1
    simp only at e1
    cases et : dtuOf h y with
    | some kvs =>
      rw [et] at e1
      cases ek : tkOf x with
      | none => rw [ek] at e1; cases e1
      | some ky =>
        rw [ek] at e1
        cases e1
        obtain ⟨b0, e3, hb0⟩ := tk_of_rep rx ek
        subst e3
        cases ry <;> simp only [dtuOf] at et <;> try (cases et; done)
        rename_i n ad hk
        obtain ⟨ob, h3, h4⟩ := R.at hk
        rw [h3] at et
        cases ob <;> simp at et
        subst et
        cases r2
        cases h4 with
        | dtu hh rr =>
          rcases rr.get ky with ⟨z1, z2⟩ | ⟨dd, w, z1, z2, z3⟩
          · refine hdct I (.t hh hb0 (k := ky)) r1 fun s' I' => ⟨.bl _, _, I', rfl, ?_⟩
            rw [z1] at qq
            rw [z2]
            exact qq
          · refine hdct I (.t hh hb0 (k := ky)) r1 fun s' I' => ⟨.bl _, _, I', rfl, ?_⟩
            rw [z1] at qq
            rw [z2]
            exact qq
    | none =>
    rw [et] at e1
    simp only at e1
    cases es : seqOf h y with
    | none => rw [es] at e1; cases e1
    | some ds =>
      rw [es] at e1
      simp only at e1
      cases ex : py h x with
      | none => rw [ex] at e1; cases e1
      | some d =>
        cases el : pyL h ds with
        | none => rw [ex, el] at e1; cases e1
        | some ps =>
          rw [ex, el] at e1
          simp only at e1
          split at e1
          · rename_i hc
            simp only [Bool.and_eq_true] at hc
            cases e1
            obtain ⟨a, vs, rfl, hq, rr⟩ := seq_at R ry es
            cases r2
            exact hseq I hq (RepL.dp ds _ _ el rr) (Rep.dp x _ d ex rx) r1 hc.1 hc.2 ⟨.bl _, _, I, rfl, qq⟩
          · cases e1
theorem y_in (c : Cs k X) : OpY X (compareOp .In) oIn := in_gen c (fun b => b) (fun I g r q => d_in c.hu I g r q) fun {pins s σ H a x u vs d es Q E} I hq hr hx ru sd se q => by
  have hu := c.room.un
  obtain ⟨bs, r1⟩ := Dp.reads I d x u hx ru
  rcases hq with hq | hq
  · obtain ⟨as, r2⟩ := Dp.reads I (.list es) (.ref a) (.ref a) (.lst hq hr) rfl
    exact SeqAt.in_list_reads r2 r1 (SeqAt.canLay_of_shaped se) (SeqAt.canLay_of_shaped sd) (room_in_shaped sd (by omega)) q
  · obtain ⟨as, r2⟩ := Dp.reads I (.tuple es) (.ref a) (.ref a) (.tup hq hr) rfl
    exact SeqAt.in_tuple_reads r2 r1 (SeqAt.canLay_of_shaped se) (SeqAt.canLay_of_shaped sd) (room_in_shaped sd (by omega)) q
theorem y_notIn (c : Cs k X) : OpY X (compareOp .NotIn) oNotIn := in_gen c (fun b => !b) (fun I g r q => d_notIn c.hu I g r q) fun {pins s σ H a x u vs d es Q E} I hq hr hx ru sd se q => by
  have hu := c.room.un
  obtain ⟨bs, r1⟩ := Dp.reads I d x u hx ru
  rcases hq with hq | hq
  · obtain ⟨as, r2⟩ := Dp.reads I (.list es) (.ref a) (.ref a) (.lst hq hr) rfl
    exact SeqAt.notIn_list_reads r2 r1 (SeqAt.canLay_of_shaped se) (SeqAt.canLay_of_shaped sd) (room_in_shaped sd (by omega)) q
  · obtain ⟨as, r2⟩ := Dp.reads I (.tuple es) (.ref a) (.ref a) (.tup hq hr) rfl
    exact SeqAt.notIn_tuple_reads r2 r1 (SeqAt.canLay_of_shaped se) (SeqAt.canLay_of_shaped sd) (room_in_shaped sd (by omega)) q
end
/-! ### zip, enumerate -/
def pairsD : List D → List D → List D
  | x :: xs, y :: ys => .tup [x, y] :: pairsD xs ys
  | _, _ => []
def enumD (i : Nat) : List D → List D
  | x :: xs => .tup [.int i, x] :: enumD (i + 1) xs
  | [] => []
def frzOf : D → Option (List D)
  | .fl xs => some xs
  | .sq xs => some xs
  | _ => none
/-- zip(x, y): of lists that are never changed, and of tuples -/
def zipOf : D → Option (List D)
  | .tup xs => some xs
  | .fl xs => some xs
  | .sq xs => some xs
  | _ => none
def zipD : List D → Option (List D)
  | [x, y] => match zipOf x, zipOf y with
    | some xs, some ys => some (pairsD xs ys)
    | _, _ => none
  | _ => none
def iZipD (a : Av) : Iv := fun σ h => (a σ h).bind fun xs h1 => ofO (zipD xs) h1
def numD : List D → Option (List D)
  | [x] => (frzOf x).map (enumD 0)
  | _ => none
def iEnumD (a : Av) : Iv := fun σ h => (a σ h).bind fun xs h1 => ofO (numD xs) h1
theorem zip_cases {xs ds : List D} (e : zipD xs = some ds) : ∃ x y a b, xs = [x, y] ∧ zipOf x = some a ∧ zipOf y = some b ∧ ds = pairsD a b := by
  rcases xs with _ | ⟨x, _ | ⟨y, _ | _⟩⟩
  · cases e
  · cases e
  · simp only [zipD] at e
    cases f1 : zipOf x with
    | none => rw [f1] at e; cases e
    | some a =>
      cases f2 : zipOf y with
      | none => rw [f1, f2] at e; cases e
      | some b => rw [f1, f2] at e; cases e; exact ⟨x, y, a, b, rfl, f1, f2, rfl⟩
  · cases e
theorem pairs_get : ∀ {xs ys : List D} {i : Nat} {d : D}, (pairsD xs ys)[i]? = some d → ∃ x y, xs[i]? = some x ∧ ys[i]? = some y ∧ d = .tup [x, y]
  | [], ys, i, d, h => by cases ys <;> simp [pairsD] at h
  | x :: xs, [], i, d, h => by simp [pairsD] at h
  | x :: xs, y :: ys, 0, d, h => by simp [pairsD] at h; exact ⟨x, y, rfl, rfl, h.symm⟩
  | x :: xs, y :: ys, i + 1, d, h => by
    simp [pairsD] at h
    obtain ⟨a, b, h1, h2, h3⟩ := pairs_get h
    exact ⟨a, b, by simpa using h1, by simpa using h2, h3⟩
theorem pairs_len : ∀ (xs ys : List D), xs.length ≤ (pairsD xs ys).length ∨ ys.length ≤ (pairsD xs ys).length
  | [], ys => by simp
  | x :: xs, [] => by simp
  | x :: xs, y :: ys => by
    have := pairs_len xs ys
    simp [pairsD]
    exact this
theorem enum_get : ∀ {xs : List D} {j i : Nat} {d : D}, (enumD j xs)[i]? = some d → ∃ x, xs[i]? = some x ∧ d = .tup [.int ((j + i : Nat) : Int), x]
  | [], j, i, d, h => by simp [enumD] at h
  | x :: xs, j, 0, d, h => by simp [enumD] at h; exact ⟨x, rfl, by simpa using h.symm⟩
  | x :: xs, j, i + 1, d, h => by
    simp [enumD] at h
    obtain ⟨a, h1, h2⟩ := enum_get h
    exact ⟨a, by simpa using h1, by rw [h2]; congr 4; omega⟩
theorem enum_len : ∀ (xs : List D) (j : Nat), (enumD j xs).length = xs.length
  | [], _ => rfl
  | x :: xs, j => by simp [enumD, enum_len xs]
section
variable {X : Cx} {cl : Cl} {W : WX} {a b : Expr} {fa : Av} {pos : Pos}
theorem frz_at {φ : List Addr} {H : Hp} {x : D} {v : V} (rx : Rep X.K φ H x v) {xs : List D} (e : frzOf x = some xs) : ∃ a vs, v = .ref a ∧ (∀ H', Per H H' → SqL X.K H' a vs) ∧ RepL X.K φ H xs vs := by
  cases rx <;> simp only [frzOf] at e <;> try (cases e; done)
  · cases e; rename_i hq rr; exact ⟨_, _, rfl, fun H' p => .inl (.inr ⟨_, p.frz _ _ _ hq⟩), rr⟩
  · cases e; rename_i hq rr; exact ⟨_, _, rfl, fun H' p => (hq.per p).sq, rr⟩
theorem pair_rep {K : PySem.W.Frag} {φ : List Addr} {H : Hp} {h : Hm} (R : HR K φ H h) {T : Addr} {d1 d2 : D} {x y : V} (hT : H T = none) (r1 : Rep K φ H d1 x) (r2 : Rep K φ H d2 y) :
    Lat φ H φ (upd H T (.tup [x, y])) ∧ HR K φ (upd H T (.tup [x, y])) h ∧ Rep K φ (upd H T (.tup [x, y])) (.tup [d1, d2]) (.ref T) :=
  ⟨Lat.new hT, R.new hT, .tup upd_same (.cons (Rep.mono (List.prefix_refl _) (Per.new hT) _ _ r1) (.cons (Rep.mono (List.prefix_refl _) (Per.new hT) _ _ r2) .nil))⟩
theorem zipof_at {φ : List Addr} {H : Hp} {x : D} {v : V} (rx : Rep X.K φ H x v) {xs : List D} (e : zipOf x = some xs) : ∃ (k : Kd) (a : Addr) (vs : List V), v = .ref a ∧ (∀ H', Per H H' → SqV k X.K H' a vs) ∧ RepL X.K φ H xs vs := by
  cases rx <;> simp only [zipOf] at e <;> try (cases e; done)
  · cases e; rename_i g1 g2; exact ⟨.T, _, _, rfl, fun H' p => SqT.of (p.tup _ _ g1), g2⟩
  · cases e; rename_i hq rr; exact ⟨.L, _, _, rfl, fun H' p => .inl (.inr ⟨_, p.frz _ _ _ hq⟩), rr⟩
  · cases e; rename_i hq rr; exact ⟨.L, _, _, rfl, fun H' p => (hq.per p).sq, rr⟩
theorem drv_zipK {k1 k2 : Kd} {K : PySem.W.Frag} {φ : List Addr} {H : Hp} {p q : Addr} {xs ys : List D} {vs us : List V} (h1 : ∀ H', Per H H' → SqV k1 K H' p vs) (h2 : ∀ H', Per H H' → SqV k2 K H' q us) (r1 : RepL K φ H xs vs) (r2 : RepL K φ H ys us) : Drv K φ H (ItzK k1 k2 K p q) (pairsD xs ys) := fun φ' H' h l R => by
  have q1 := RepL.mono l.pre l.per _ _ r1
  have q2 := RepL.mono l.pre l.per _ _ r2
  refine ⟨fun i d e => ?_, vs, us, h1 _ l.per, h2 _ l.per, ?_⟩
  · obtain ⟨x, y, e1, e2, rfl⟩ := pairs_get e
    obtain ⟨v, z1, z2⟩ := q1.get e1
    obtain ⟨u, z3, z4⟩ := q2.get e2
    refine ⟨⟨vs, us, v, u, h1 _ l.per, h2 _ l.per, z1, z3⟩, fun w H2 yl => ?_⟩
    obtain ⟨T, v', u', rfl, hT, rfl, y1, y2⟩ := yl
    have w1 := y1 vs (h1 _ l.per)
    have w2 := y2 us (h2 _ l.per)
    rw [z1] at w1; rw [z3] at w2
    cases w1; cases w2
    exact pair_rep R hT z2 z4
  · rw [← q1.length, ← q2.length]
    exact pairs_len xs ys
theorem drv_enum {K : PySem.W.Frag} {φ : List Addr} {H : Hp} {p : Addr} {xs : List D} {vs : List V} (h1 : ∀ H', Per H H' → SqL K H' p vs) (r1 : RepL K φ H xs vs) : Drv K φ H (Ite K p) (enumD 0 xs) := fun φ' H' h l R => by
  have q1 := RepL.mono l.pre l.per _ _ r1
  refine ⟨fun i d e => ?_, vs, h1 _ l.per, by rw [enum_len, q1.length]; exact Nat.le_refl _⟩
  obtain ⟨x, e1, rfl⟩ := enum_get e
  obtain ⟨v, z1, z2⟩ := q1.get e1
  refine ⟨⟨vs, v, h1 _ l.per, z1⟩, fun w H2 yl => ?_⟩
  obtain ⟨T, v', rfl, hT, rfl, y1⟩ := yl
  have w1 := y1 vs (h1 _ l.per)
  rw [z1] at w1
  cases w1
  rw [Nat.zero_add]
  exact pair_rep R hT (.int _) z2
theorem i_zip {elts : List Expr} {kk : Nat} {tpos p : Pos} (hg : Gl X "zip") (hm : X.mg "zip" = none) (ha : SA X cl W [a, b] fa) (hs : starEach [a, b] X.env = (false, eval a X.env) :: starEach [b] X.env := by rfl) (hpl : (backTo pos (starEach [b] X.env)).any (·.1) = false := by rfl) :
    SI X cl W (.Tuple elts kk tpos) (.Call (.Name "zip" p) [a, b] [] pos) (iZipD fa) := PI.of (pi_zipK hg hm ha hs hpl) fun σ H R p => by
  obtain ⟨φ, st, h0, S, R0, P⟩ := p
  refine ⟨φ, st, h0, S, R0, ?_⟩
  simp only [iZipD] at P
  cases e : fa st h0 with
  | bad => simp only [e, Rs.bind] at P
  | ex _ _ => simp only [e, Rs.bind] at P; exact P
  | ok xs h1 =>
    simp only [e, Rs.bind] at P
    intro φ1 H1 vs l1 r1 q1
    cases ez : zipD xs with
    | none => rw [ez] at P; exact P.elim
    | some ds =>
      rw [ez] at P
      obtain ⟨x, y, a, b, rfl, f1, f2, rfl⟩ := zip_cases ez
      cases q1 with
      | cons q1 q2 =>
        cases q2 with
        | cons q2 q3 =>
          cases q3
          obtain ⟨k1, p, us, rfl, g1, g2⟩ := zipof_at q1 f1
          obtain ⟨k2, q, ws, rfl, g3, g4⟩ := zipof_at q2 f2
          exact ⟨k1, k2, p, q, us, ws, rfl, g1 _ (Per.refl _), g3 _ (Per.refl _), P φ1 H1 _ l1 r1 (drv_zipK g1 g3 g2 g4)⟩
theorem i_enum {elts : List Expr} {kk : Nat} {tpos p : Pos} (hg : Gl X "enumerate") (hm : X.mg "enumerate" = none) (ha : SA X cl W [a] fa) (hs : starEach [a] X.env = [(false, eval a X.env)] := by rfl) :
    SI X cl W (.Tuple elts kk tpos) (.Call (.Name "enumerate" p) [a] [] pos) (iEnumD fa) := PI.of (pi_enum hg hm ha hs) fun σ H R p => by
  obtain ⟨φ, st, h0, S, R0, P⟩ := p
  refine ⟨φ, st, h0, S, R0, ?_⟩
  simp only [iEnumD] at P
  cases e : fa st h0 with
  | bad => simp only [e, Rs.bind] at P
  | ex _ _ => simp only [e, Rs.bind] at P; exact P
  | ok xs h1 =>
    simp only [e, Rs.bind] at P
    intro φ1 H1 vs l1 r1 q1
    rcases xs with _ | ⟨x, _ | _⟩ <;> simp only [numD, ofO] at P
    cases f1 : frzOf x with
    | none => rw [f1] at P; exact P.elim
    | some a =>
      rw [f1] at P
      obtain ⟨v, rfl, rv⟩ := RepL.one q1
      obtain ⟨p, us, rfl, g1, g2⟩ := frz_at rv f1
      exact ⟨p, us, rfl, g1 _ (Per.refl _), P φ1 H1 _ l1 r1 (drv_enum g1 g2)⟩
end
end Y
end

section
set_option Elab.async false
set_option linter.all false
set_option maxRecDepth 100000
set_option maxHeartbeats 2000000
/-! YR: slices. -/
namespace Y
open PySem PySem.Spec PyProof.Rows L2

abbrev Ov := Sl → Hm → Rs (Option Int)
def oN : Ov := fun _ h => .ok none h
def oS (f : Ev) : Ov := fun σ h => (f σ h).bind fun x h1 => match x with
  | .int i => .ok (some i) h1
  | _ => .bad
def cutD (xs : List D) (lo hi : Option Int) : List D := (xs.drop (HT.sIx xs.length 0 lo)).take (HT.sIx xs.length xs.length hi - HT.sIx xs.length 0 lo)
/-- x[lo:hi]: of a tuple a tuple, of a list a list that is held as it is -/
def eSl (f : Ev) (l u : Ov) : Ev := fun σ h => (f σ h).bind fun x h1 => (l σ h1).bind fun lo h2 => (u σ h2).bind fun hi h3 => match x with
  | .tup xs => .ok (.tup (cutD xs lo hi)) h3
  | x => match lstOf h3 x with
    | some xs => .ok (.fl (cutD xs lo hi)) h3
    | none => .bad
def ROpt : RT (Option Int) (Option Int) := fun _ _ _ a b => a = b
instance : Back ROpt := ⟨fun _ _ h => h⟩
abbrev SO (X : Cx) (cl : Cl) (W : WX) (e : Option Expr) (f : Ov) : Prop := PO X e (tG X.K cl W ROpt f)
section
variable {X : Cx} {cl : Cl} {W : WX} {a : Expr} {e : Option Expr} {f : Ev} {l u : Ov} {pos p2 : Pos} {lo hi : Option Expr}
theorem o_none : SO X cl W none oN := ⟨fun pins s σ H Q I ⟨φ, st, h0, S, R, P⟩ => po_none.run pins s σ H Q I (P.val R rfl)⟩
theorem o_some {a : Expr} (h : SE X cl W a f) : SO X cl W (some a) (oS f) := by
  refine ⟨fun pins s σ H Q I p => (po_some h).run pins s σ H Q I ?_⟩
  refine seq1 (k := fun x h1 => match x with | .int i => .ok (some i) h1 | _ => .bad) p fun φ H1 h1 x v R rx P => ?_
  cases rx with
  | int i => exact ⟨i, rfl, P.val R rfl⟩
  | _ => exact P.elim
theorem RepL.cut' {K : PySem.W.Frag} {φ : List Addr} {H : Hp} {xs : List D} {vs : List V} (r : RepL K φ H xs vs) (lo hi : Option Int) : RepL K φ H (cutD xs lo hi) (cutV vs lo hi) := by
  have dropR : ∀ (n : Nat) {xs : List D} {vs : List V}, RepL K φ H xs vs → RepL K φ H (xs.drop n) (vs.drop n) := by
    intro n
    induction n with
    | zero => intro xs vs r; simpa using r
    | succ n ih =>
      intro xs vs r
      cases r with
      | nil => simp; exact .nil
      | cons _ r => simpa using ih r
  have takeR : ∀ (n : Nat) {xs : List D} {vs : List V}, RepL K φ H xs vs → RepL K φ H (xs.take n) (vs.take n) := by
    intro n
    induction n with
    | zero => intro xs vs r; simp; exact .nil
    | succ n ih =>
      intro xs vs r
      cases r with
      | nil => simp; exact .nil
      | cons h r => simpa using .cons h (ih r)
  unfold cutD cutV
  rw [r.length]
  exact takeR _ (dropR _ r)
theorem cut_all {vs : List V} {lo hi : Option Int} (h : HT.sIx vs.length 0 lo = 0 ∧ HT.sIx vs.length vs.length hi = vs.length) : cutV vs lo hi = vs := by
  unfold cutV
  rw [h.1, h.2]
  simp
theorem s_sl (ha : SE X cl W a f) (hl : SO X cl W lo l) (hu : SO X cl W hi u) : SE X cl W (.Subscript a (.Slice lo hi none p2) pos) (eSl f l u) := by
  refine ⟨fun pins s σ H Q I p => ?_⟩
  refine thn ((pe_slice (sl_tupA.or sl_list) ha hl hu).run pins s σ H (fun v H1 => Q v H1 ∨ ∃ p vs, v = .ref p ∧ H1 p = some (.lst vs) ∧ ∀ o, Q v (upd H1 p (.frz o (.lst vs)))) I ?_) fun w s1 ⟨v, H1, I1, rv, q⟩ => ?_
  · obtain ⟨φ, st, h0, S, R0, P⟩ := p
    refine ⟨φ, st, h0, S, R0, P.seq fun x h1 φ1 H1 v l1 r1 q1 P1 => ⟨φ1, st, h1, S.mono l1, r1, P1.seq fun lo h2 φ2 H2 lo' l2 r2 e2 P2 => ⟨φ2, st, h2, S.mono (l1.trans l2), r2, P2.seq fun hi h3 φ3 H3 hi' l3 r3 e3 P3 => ?_⟩⟩⟩
    cases (show lo = lo' from e2)
    cases (show hi = hi' from e3)
    have q3 := Rep.mono (l2.trans l3).pre (l2.trans l3).per _ _ q1
    have lists : ∀ xs, lstOf h3 x = some xs → Post X.K cl φ3 H3 (RR X.K) (.ok (.fl (cutD xs lo hi)) h3) Q (fun c d H' => W c d σ H') → rSlL X.K v lo hi H3 fun v H1 => Q v H1 ∨ ∃ p vs, v = .ref p ∧ H1 p = some (.lst vs) ∧ ∀ o, Q v (upd H1 p (.frz o (.lst vs))) := by
      intro xs ex P
      obtain ⟨a, vs, rfl, hq, rr⟩ := lst_at r3 q3 ex
      refine ⟨a, vs, rfl, hq, fun p hp => .inr ⟨p, _, rfl, upd_same, fun o => ?_⟩⟩
      have R1 := r3.new (o := .lst (cutV vs lo hi)) hp
      have rr1 := RepL.mono (List.prefix_refl _) (Per.new (o := .lst (cutV vs lo hi)) hp) _ _ (rr.cut' lo hi)
      obtain ⟨z1, z2, z3⟩ := Fresh.frz (o := o) (Lat.new hp) hp R1 (r3.notin hp) upd_same rr1
      exact P φ3 _ _ z1 z2 z3
    cases q3 with
    | tup hq rr =>
      refine .inl ⟨_, _, rfl, SqT.of hq, fun hw => .inl ?_, fun hw p hp => .inl ?_⟩
      · have rc := rr.cut' lo hi
        rw [cut_all hw] at rc
        exact P3 φ3 H3 _ (Lat.refl _ _) r3 (.tup hq rc)
      · exact P3 φ3 _ _ (Lat.new hp) (r3.new hp) (.tup upd_same (RepL.mono (List.prefix_refl _) (Per.new hp) _ _ (rr.cut' lo hi)))
    | fl hq rr => exact .inr (lists _ rfl P3)
    | sq hq rr => exact .inr (lists _ rfl P3)
    | loc hk =>
      simp only at P3
      cases el : lstOf h3 (.loc _) with
      | none => rw [el] at P3; exact P3.elim
      | some xs => rw [el] at P3; exact .inr (lists _ el P3)
    | _ => exact P3.elim
  · rcases q with q | ⟨p, vs, rfl, e1, q⟩
    · exact ⟨v, H1, I1, rv, q⟩
    · obtain ⟨o, I2⟩ := inv_frz I1 e1
      exact ⟨_, _, I2, rv, q o⟩
end
end Y
end

section
set_option Elab.async false
set_option linter.all false
set_option maxRecDepth 100000
set_option maxHeartbeats 2000000
/-! YS: x += e. -/
namespace Y
open PySem PySem.Spec PyProof.Rows L2

def oAddI (_ : Hm) : D → D → Option D
  | .int i, .int j => some (.int (i + j))
  | .str a, .str b => if a.length + b.length ≤ line then some (.str (a ++ b)) else none
  | _, _ => none
section
variable {X : Cx} {cl : Cl} {W : WX} {e : Expr} {f : Ev} {pos pos' : Pos} {k : Nat}
theorem z_add : OpY X (inplaceOp .Add) oAddI := opY1 fun Q φ H h x y v u z R rx ry e q => by
  cases rx <;> cases ry <;> simp only [oAddI] at e <;> try (cases e; done)
  · cases e
    exact ⟨_, iop_add, _, _, rfl, rfl, q _ (.int _)⟩
  · split at e
    · cases e
      exact ⟨_, iop_add_str, _, _, rfl, rfl, by rw [← line_eq]; assumption, q _ (.str _)⟩
    · cases e
theorem z_sub : OpY X (inplaceOp .Sub) oSub := opY1 fun Q φ H h x y v u z R rx ry e q => by
  cases rx <;> cases ry <;> simp [oSub] at e
  subst e
  exact ⟨_, iop_sub, _, _, rfl, rfl, q _ (.int _)⟩
theorem iop_mulW : OpR X (inplaceOp .Mult) (L2.rI CMulW fun i j => V.int (i * j)) := L2.opI fun _ _ _ _ _ _ _ hc q => imul_int q hc.ok
theorem z_mul : OpY X (inplaceOp .Mult) oMulI := opY1 fun Q φ H h x y v u z R rx ry e q => by
  cases rx <;> cases ry <;> simp [oMulI] at e
  obtain ⟨c, rfl⟩ := e
  simp only [mulOk, Bool.or_eq_true, Bool.and_eq_true, decide_eq_true_eq, big_eq] at c
  rcases c with c | c
  · exact ⟨_, iop_mul, _, _, rfl, rfl, c, q _ (.int _)⟩
  · exact ⟨_, iop_mulW, _, _, rfl, rfl, c, q _ (.int _)⟩
theorem s_aug {i : Nat} {x : Str} {op : Operator} {o : Hm → D → D → Option D} (ho : OpY X (inplaceOp op) o) (hN : X.N.Nodup) (he : SE X cl W e f) (hi : X.N[i]? = some x := by rfl) (hx : Loc X.env.scope x := by first | exact Or.inl rfl | exact Or.inr rfl)
    (hf : X.fn x = true ∨ X.env.scope.names.lookup x = some .local := by first | exact .inl rfl | exact .inr rfl | assumption) : SS X cl W (.AugAssign (.Name x pos') op e pos) (sAug i o f) :=
  PS.of (ps_aug (ti := rY X.K o) hN hi hx he ho.r hf) fun D σ H p => by
    obtain ⟨φ, st, h0, S, R0, P⟩ := p
    unfold sAug at P
    cases e0 : st[i]? with
    | none => rw [e0] at P; exact P.elim
    | some oo =>
      cases oo with
      | none => rw [e0] at P; exact P.elim
      | some d0 =>
        rw [e0] at P
        simp only at P
        obtain ⟨v0, h1, rv0⟩ := S.get i d0 e0
        refine ⟨v0, h1, φ, st, h0, S, R0, ?_⟩
        cases e1 : f st h0 with
        | bad => simp only [e1, Rs.out] at P; exact P
        | ex ex1 h1 =>
          simp only [e1, Rs.out] at P
          exact fun φ' H' c d l r er => P φ' H' c d σ l r (S.mono l) er
        | ok y h1 =>
          simp only [e1, Rs.out] at P
          intro φ1 H1 w l1 r1 q1
          refine ⟨cl, fun c d H' => W c d σ H', φ1, h1, d0, y, r1, Rep.mono l1.pre l1.per _ _ rv0, q1, ?_⟩
          cases e2 : o h1 d0 y with
          | none => rw [e2] at P; exact P.elim
          | some z =>
            rw [e2] at P
            exact fun φ2 H2 w2 l2 r2 q2 => P φ2 H2 _ (l1.trans l2) r2 ((S.mono (l1.trans l2)).set i q2)
end
end Y
end

section
set_option Elab.async false
set_option linter.all false
set_option maxRecDepth 100000
set_option maxHeartbeats 2000000
/-! YT: objects of own classes: their fields, isinstance. -/
namespace Y
open PySem PySem.Spec PyProof.Rows L2

/-- x.n, x of the class c -/
def oFld (c n : Str) (_ : Hm) : D → Option D
  | .obj c' ns ds => if c' = c then (ns.zip ds).lookup n else none
  | _ => none
/-- isinstance(x, c) -/
def isO (c : Str) (h : Hm) : D → Option D
  | .obj c' _ _ => if c' = c then some (.bl true) else none
  | .gfn _ => none
  | .loc k => (h[k]?).map fun _ => .bl false
  | _ => some (.bl false)
/-- what is known of the class -/
structure ObjF (K : PySem.W.Frag) (c : Str) (C : Addr) : Prop where
  ns : PySem.W.nsIn K mainGlobals c = some (some (.ref C))
  cl : Cls K C
  hc : PySem.W.findIn K (.ref C) "__class__" = some (some (.builtin "object.__class__"))
  gc : PySem.W.specialIn K (.builtin "object.__class__") "__get__" = some (some (.builtin "getset_descriptor.__get__"))
  tc : PySem.W.takesIn K (.builtin "object.__class__") = some true
  mc : PySem.W.mroIn K C (.type "object") = some true
  me : PySem.W.kitOne K (.ref C) (.ref C) = some true
  ne : excN c = false
  ot : ∀ T ∈ ["NoneType", "bool", "int", "str", "tuple", "list", "dict"], PySem.W.kitOne K (.type T) (.ref C) = some false
section
variable {X : Cx} {cl : Cl} {W : WX} {a : Expr} {f : Ev} {pos : Pos} {k : Nat} {c n : Str} {C : Addr}
theorem fld_at {K : PySem.W.Frag} {φ : List Addr} {H : Hp} {n : Str} {d : D} : ∀ {fs : List (Str × V)} {ds : List D}, RepL K φ H ds (fs.map (·.2)) → ((fs.map (·.1)).zip ds).lookup n = some d → ∃ v, fs.lookup n = some v ∧ Rep K φ H d v
  | [], ds, _, e => by simp at e
  | (m, v) :: fs, [], r, e => by cases r
  | (m, v) :: fs, x :: ds, r, e => by
    cases r with
    | cons h r =>
      simp only [List.map_cons, List.zip_cons_cons, List.lookup_cons] at e ⊢
      cases hm : (n == m) with
      | true =>
        rw [hm] at e
        simp only at e
        cases e
        exact ⟨v, rfl, h⟩
      | false =>
        rw [hm] at e
        simp only at e
        exact fld_at r e
theorem s_fld (T : ObjF X.K c C) (no : NoAttr X.K C n) (ha : SE X cl W a f) (hb : attributeBase a n X.env (eval a X.env) = eval a X.env := by rfl) : SE X cl W (.Attribute a n pos) (e1 (oFld c n) f) := PE.of (pe_fld ha hb) fun σ H Q p =>
  seq1 (k := fun x h1 => ofO (oFld c n h1 x) h1) p fun φ H1 h1 x v R rx P => by
    cases rx with
    | exo hc he =>
      simp only [oFld] at P
      split at P
      · rename_i ecc
        have := T.ne
        rw [← ecc, he] at this
        cases this
      · exact P.elim
    | @obj a' C' dx c' ns fs ds vs hc h e1 e2 r hf =>
      simp only [oFld] at P
      subst e1 e2
      split at P
      · rename_i ecc
        subst ecc
        have eC : C' = C := by
          have := hc.symm.trans T.ns
          cases this
          rfl
        subst eC
        cases ed : ((fs.map (·.1)).zip ds).lookup n with
        | none => rw [ed] at P; exact P.elim
        | some d =>
          rw [ed] at P
          obtain ⟨v, h1, h2⟩ := fld_at r ed
          exact ⟨_, _, _, _, v, rfl, h, T.cl, no, h1, P.val R h2⟩
      · exact P.elim
    | _ => simp only [oFld, ofO] at P; exact P.elim
theorem isO_sound (T : ObjF X.K c C) {φ : List Addr} {H : Hp} {h : Hm} {x : D} {v : V} {z : D} (R : HR X.K φ H h) (rx : Rep X.K φ H x v) (e : isO c h x = some z) : ∃ t b, z = .bl b ∧ TyX X.K H v t ∧ PySem.W.kitOne X.K t (.ref C) = some b := by
  have tupK : ∀ {a : Addr} {vs : List V}, SqT X.K H a vs → TyX X.K H (.ref a) (.type "tuple") := fun hq => by
    rcases hq with (h | ⟨o, h⟩) | ⟨o, its, n, hk, hc, _⟩
    · exact .base (.tup h)
    · exact .fTuple h
    · exact .kTuple hk hc
  have lstK : ∀ {a : Addr} {vs : List V}, SqL X.K H a vs → TyX X.K H (.ref a) (.type "list") := fun hq => by
    rcases hq with (h | ⟨o, h⟩) | ⟨o, its, n, hk, hc, _⟩
    · exact .base (.lst h)
    · exact .base (.frz h)
    · exact .kList hk hc
  cases rx with
  | non => simp only [isO] at e; cases e; exact ⟨_, _, rfl, .base .non, T.ot _ (by decide)⟩
  | bl b => simp only [isO] at e; cases e; exact ⟨_, _, rfl, .base (.bl b), T.ot _ (by decide)⟩
  | int b => simp only [isO] at e; cases e; exact ⟨_, _, rfl, .base (.int b), T.ot _ (by decide)⟩
  | str b => simp only [isO] at e; cases e; exact ⟨_, _, rfl, .base (.str b), T.ot _ (by decide)⟩
  | tup hq _ => simp only [isO] at e; cases e; exact ⟨_, _, rfl, tupK (SqT.of hq), T.ot _ (by decide)⟩
  | fl hq _ => simp only [isO] at e; cases e; exact ⟨_, _, rfl, lstK (.inl (.inr ⟨_, hq⟩)), T.ot _ (by decide)⟩
  | sq hq _ => simp only [isO] at e; cases e; exact ⟨_, _, rfl, lstK hq.sq, T.ot _ (by decide)⟩
  | loc hk =>
    obtain ⟨ob, h1, h2⟩ := R.at hk
    simp only [isO, h1, Option.map_some] at e
    cases e
    cases h2 with
    | lst hh _ => exact ⟨_, _, rfl, .base (.lst hh), T.ot _ (by decide)⟩
    | dct hh _ => exact ⟨_, _, rfl, .base (.dK hh), T.ot _ (by decide)⟩
    | dtu hh _ => exact ⟨_, _, rfl, .base (.dT hh), T.ot _ (by decide)⟩
  | obj hc h e1 e2 r =>
    simp only [isO] at e
    split at e
    · rename_i ecc
      subst ecc
      have := hc.symm.trans T.ns
      cases this
      cases e
      exact ⟨_, _, rfl, .base (.ins h T.cl T.hc T.gc T.tc T.mc), T.me⟩
    · cases e
  | exo hc he =>
    simp only [isO] at e
    split at e
    · rename_i ecc
      subst ecc
      rw [T.ne] at he
      cases he
    · cases e
  | gfn h => simp only [isO] at e; cases e
theorem s_isO {p1 p2 : Pos} (T : ObjF X.K c C) (gm : X.mg c = some (.ref C)) (ha : SE X cl W a f) (hm : X.mg "isinstance" = none) (hg : Gl X "isinstance" := by rfl) (hg2 : Gl X c := by rfl) (hd : (c == ("__debug__" : Str)) = false := by decide)
    (he : starEach [a, .Name c p2] X.env = (false, eval a X.env) :: starEach [.Name c p2] X.env := by rfl)
    (he2 : starEach [.Name c p2] X.env = (false, eval (.Name c p2) X.env) :: starEach [] X.env := by rfl)
    (hpl : (backTo pos (starEach [.Name c p2] X.env)).any (·.1) = false := by rfl) :
    SE X cl W (.Call (.Name "isinstance" p1) [a, .Name c p2] [] pos) (e1 (isO c) f) := by
  have pn : PE X (.Name c p2) (L2.tC (.ref C)) := ⟨fun pins s σ H Q I q => ld_glob I hg2 gm ⟨.ref C, H, I, rfl, q⟩ hd⟩
  refine PE.of (pe_callB call_isi hg hm (by decide +kernel) (pa_cons ha (pa_cons pn pa_nil he2) he) (by decide) (by decide) he hpl) fun σ H Q p => ?_
  refine seq1 (k := fun x h1 => ofO (isO c h1 x) h1) p fun φ H1 h1 x v R rx P => ?_
  cases e : isO c h1 x with
  | none => rw [e] at P; exact P.elim
  | some z =>
    rw [e] at P
    obtain ⟨t, b, rfl, h2, h3⟩ := isO_sound T R rx e
    exact ⟨v, .ref C, t, .ref C, b, rfl, .own C, h2, h3, P.val R (.bl b)⟩
end
end Y
end

section
set_option Elab.async false
set_option linter.all false
set_option maxRecDepth 100000
set_option maxHeartbeats 2000000
/-! YU: min, max of two ints; list(range(..)). -/
namespace Y
open PySem PySem.Spec PyProof.Rows L2
/-- max(i, j), min(i, j) -/
def bMax2 (_ : Hm) : List D → Option D
  | [.int i, .int j] => some (.int (if j > i then j else i))
  | _ => none
def bMin2 (_ : Hm) : List D → Option D
  | [.int i, .int j] => some (.int (if j < i then j else i))
  | _ => none
/-- list(range(..)) -/
def mRng1 : D → Option (List D)
  | .int j => if 0 ≤ j ∧ j.natAbs.log2 < 24 then some (rangeD 0 j.toNat) else none
  | _ => none
def mRng2 : D → D → Option (List D)
  | .int i, .int j => if 0 ≤ i ∧ i.natAbs.log2 < 24 ∧ 0 ≤ j ∧ j.natAbs.log2 < 24 then some (rangeD i (j - i).toNat) else none
  | _, _ => none
def lRng1 (f : Ev) : Lv := fun σ h => (f σ h).bind fun x h1 => ofO (mRng1 x) h1
def lRng2 (f g : Ev) : Lv := fun σ h => (f σ h).bind fun x h1 => (g σ h1).bind fun y h2 => ofO (mRng2 x y) h2
section
variable {X : Cx} {cl : Cl} {W : WX} {a b : Expr} {fa fb : Ev} {pos : Pos}
theorem c_max2 (hc : X.calm = true) : CaY X (.builtin "max") bMax2 := caY fun Q φ H h xs vs z R r e q => by
  unfold bMax2 at e
  split at e
  · rename_i i j
    cases e
    cases r with
    | cons r1 r2 =>
      obtain ⟨w, rfl, rw'⟩ := RepL.one r2
      cases rw'
      cases r1
      exact ⟨_, call_max2 hc, i, j, rfl, q φ H _ (Lat.refl _ _) R (.int _)⟩
  · cases e
theorem c_min2 (hc : X.calm = true) : CaY X (.builtin "min") bMin2 := caY fun Q φ H h xs vs z R r e q => by
  unfold bMin2 at e
  split at e
  · rename_i i j
    cases e
    cases r with
    | cons r1 r2 =>
      obtain ⟨w, rfl, rw'⟩ := RepL.one r2
      cases rw'
      cases r1
      exact ⟨_, call_min2 hc, i, j, rfl, q φ H _ (Lat.refl _ _) R (.int _)⟩
  · cases e
theorem rep_rg {K : PySem.W.Frag} {φ : List Addr} {H : Hp} (lo : Int) : ∀ (js : List Nat), RepL K φ H (js.map fun i => D.int (lo + (i : Nat))) (js.map fun i => V.int (lo + (i : Nat)))
  | [] => .nil
  | _ :: js => .cons (.int _) (rep_rg lo js)
theorem log24 {j : Int} (h : 0 ≤ j) (h2 : j.natAbs.log2 < 24) : j ≤ 16777216 := by
  have := log2_lt h2
  omega
theorem l_rng1 {p p2 pos2 : Pos} (hc : X.calm = true) (hg : Gl X "list") (hm : X.mg "list" = none) (hg2 : Gl X "range") (hm2 : X.mg "range" = none) (ha : SE X cl W a fa)
    (na : starEach [a] X.env = (false, eval a X.env) :: starEach [] X.env := by rfl)
    (nr : starEach [.Call (.Name "range" p2) [a] [] pos2] X.env = (false, eval (.Call (.Name "range" p2) [a] [] pos2) X.env) :: starEach [] X.env := by rfl) :
    SL X cl W (.Call (.Name "list" p) [.Call (.Name "range" p2) [a] [] pos2] [] pos) (lRng1 fa) := PE.of (pe_listRg hc hg hm (prg_1 hg2 hm2 ha na) nr) fun σ H Q p =>
  seq1 (k := fun x h1 => ofO (mRng1 x) h1) p fun φ H1 h1 x v R r P => by
    unfold mRng1 at P
    split at P
    · rename_i j
      split at P
      · rename_i hj
        cases r
        refine ⟨j, rfl, RgOk.of_le (by decide) (log24 hj.1 hj.2) (by decide) hj.1, fun l hl => P φ _ _ (Lat.new hl) (R.new hl) ?_⟩
        have := fresh_new R hl (rep_rg (K := X.K) (φ := φ) (H := H1) 0 (List.range j.toNat))
        simpa [rgV, rangeD] using this
      · exact P.elim
    · exact P.elim
theorem l_rng2 {p p2 pos2 : Pos} (hc : X.calm = true) (hg : Gl X "list") (hm : X.mg "list" = none) (hg2 : Gl X "range") (hm2 : X.mg "range" = none) (ha : SE X cl W a fa) (hb : SE X cl W b fb)
    (na : starEach [a, b] X.env = (false, eval a X.env) :: starEach [b] X.env := by rfl) (nb : starEach [b] X.env = (false, eval b X.env) :: starEach [] X.env := by rfl) (hp : (backTo pos2 (starEach [b] X.env)).any (·.1) = false := by rfl)
    (nr : starEach [.Call (.Name "range" p2) [a, b] [] pos2] X.env = (false, eval (.Call (.Name "range" p2) [a, b] [] pos2) X.env) :: starEach [] X.env := by rfl) :
    SL X cl W (.Call (.Name "list" p) [.Call (.Name "range" p2) [a, b] [] pos2] [] pos) (lRng2 fa fb) := PE.of (pe_listRg hc hg hm (prg_2 hg2 hm2 ha hb na nb hp) nr) fun σ H Q p =>
  seq2 (k := fun x y h2 => ofO (mRng2 x y) h2) p fun φ H1 h1 x y v u R rx ry P => by
    unfold mRng2 at P
    split at P
    · rename_i i j
      split at P
      · rename_i hj
        cases rx
        cases ry
        refine ⟨i, j, rfl, rfl, RgOk.of_le hj.1 (log24 hj.2.2.1 hj.2.2.2) (log24 hj.1 hj.2.1) hj.2.2.1, fun l hl => P φ _ _ (Lat.new hl) (R.new hl) ?_⟩
        have := fresh_new R hl (rep_rg (K := X.K) (φ := φ) (H := H1) i (List.range (j - i).toNat))
        simpa [rgV, rangeD] using this
      · exact P.elim
    · exact P.elim
end
end Y
end

section
set_option Elab.async false
set_option linter.all false
set_option maxRecDepth 100000
set_option maxHeartbeats 2000000
/-! YV: an own class and the names of its fields, in one structure. -/
namespace Y
open PySem PySem.Spec PyProof.Rows L2
/-- the own class c, whose objects have the fields ns -/
structure Ocl (K : PySem.W.Frag) (mg : Str → Option Value) (c : Str) (ns : List Str) : Prop where
  ex : ∃ C : Addr, mg c = some (.ref C) ∧ ObjF K c C ∧ ∀ n ∈ ns, NoAttr K C n
section
variable {X : Cx} {cl : Cl} {W : WX} {a : Expr} {f : Ev} {pos : Pos} {c : Str} {ns : List Str}
theorem s_fl (T : Ocl X.K X.mg c ns) (n : Str) (hn : n ∈ ns) (ha : SE X cl W a f) (hb : attributeBase a n X.env (eval a X.env) = eval a X.env := by rfl) : SE X cl W (.Attribute a n pos) (e1 (oFld c n) f) := by
  obtain ⟨C, _, o, h⟩ := T.ex
  exact s_fld o (h n hn) ha hb
theorem s_iO {p1 p2 : Pos} (T : Ocl X.K X.mg c ns) (hm : X.mg "isinstance" = none) (ha : SE X cl W a f) (hg : Gl X "isinstance" := by rfl) (hg2 : Gl X c := by rfl) (hd : (c == ("__debug__" : Str)) = false := by decide)
    (he : starEach [a, .Name c p2] X.env = (false, eval a X.env) :: starEach [.Name c p2] X.env := by rfl)
    (he2 : starEach [.Name c p2] X.env = (false, eval (.Name c p2) X.env) :: starEach [] X.env := by rfl)
    (hpl : (backTo pos (starEach [.Name c p2] X.env)).any (·.1) = false := by rfl) :
    SE X cl W (.Call (.Name "isinstance" p1) [a, .Name c p2] [] pos) (e1 (isO c) f) := by
  obtain ⟨C, gm, o, h⟩ := T.ex
  exact s_isO o gm ha hm hg hg2 hd he he2 hpl
theorem Ocl.mk' {K : PySem.W.Frag} {mg : Str → Option Value} {C : Addr} (gm : mg c = some (.ref C)) (o : ObjF K c C) (h : ∀ n ∈ ns, PySem.W.findIn K (.ref C) n = some none) : Ocl K mg c ns := ⟨C, gm, o, h⟩
end
end Y
end

section
set_option Elab.async false
set_option linter.all false
set_option maxRecDepth 100000
set_option maxHeartbeats 2000000
/-! YW: comprehensions with two fors. -/
namespace Y
open PySem PySem.Spec PyProof.Rows L2
/-- the inner walk, at one element of the outer one -/
def inn (c : Tv) (it1 : Iv) (g1 : Gv) (t1 : Tv) (f : Ev) (vs1 : List Nat) : Sl → Hm → Rs (List D) := fun σ h => (c σ h).bindN fun b h1 => if b = true then (it1 σ h1).bindN fun ds1 h2 => compL g1 t1 f (unset σ vs1) ds1 h2 else .ok [] h1
def comp2L (g : Gv) (m : Sl → Hm → Rs (List D)) (σ : Sl) : List D → Hm → Rs (List D)
  | [], h => .ok [] h
  | d :: ds, h => match g d σ with
    | none => .bad
    | some σ1 => (m σ1 h).bindN fun ys h1 => (comp2L g m σ ds h1).bindN fun zs h2 => .ok (ys ++ zs) h2
/-- [f for g in it if c for g1 in it1 if t1] -/
def lComp2 (it : Iv) (g : Gv) (c : Tv) (it1 : Iv) (g1 : Gv) (t1 : Tv) (f : Ev) (vs vs1 : List Nat) : Lv := fun σ h => (it σ h).bind fun ds h1 => (comp2L g (inn c it1 g1 t1 f vs1) (unset σ vs) ds h1).bind fun ys h2 => if ys.length ≤ line then .ok ys h2 else .bad
theorem bindN_ok {α β : Type} {r : Rs α} {k : α → Hm → Rs β} {b : β} {h : Hm} (e : r.bindN k = .ok b h) : ∃ a h1, r = .ok a h1 ∧ k a h1 = .ok b h := by
  cases r with
  | ok a h1 => exact ⟨a, h1, rfl, e⟩
  | ex _ _ => simp [Rs.bindN] at e
  | bad => simp [Rs.bindN] at e
theorem bindN_ex {α β : Type} {r : Rs α} {k : α → Hm → Rs β} {x : Exn} {h : Hm} (e : r.bindN k = .ex x h) : ∃ a h1, r = .ok a h1 ∧ k a h1 = .ex x h := by
  cases r with
  | ok a h1 => exact ⟨a, h1, rfl, e⟩
  | ex _ _ => simp [Rs.bindN] at e
  | bad => simp [Rs.bindN] at e
theorem compL_ne {g : Gv} {t : Tv} {f : Ev} {σ : Sl} : ∀ {ds : List D} {h : Hm} {x : Exn} {h2 : Hm}, compL g t f σ ds h ≠ .ex x h2
  | [], h, x, h2, q => by simp [compL] at q
  | d :: ds, h, x, h2, q => by
    simp only [compL] at q
    split at q
    · cases q
    · obtain ⟨c, h3, _, q⟩ := bindN_ex q
      split at q
      · obtain ⟨y, h4, _, q⟩ := bindN_ex q
        obtain ⟨ys, h5, _, q⟩ := bindN_ex q
        cases q
      · exact compL_ne q
theorem inn_ne {c : Tv} {it1 : Iv} {g1 : Gv} {t1 : Tv} {f : Ev} {vs1 : List Nat} {σ : Sl} {h : Hm} {x : Exn} {h2 : Hm} (q : inn c it1 g1 t1 f vs1 σ h = .ex x h2) : False := by
  obtain ⟨b, h3, _, q⟩ := bindN_ex (show (c σ h).bindN _ = _ from q)
  split at q
  · obtain ⟨y, h4, _, q⟩ := bindN_ex q
    exact compL_ne q
  · cases q
theorem comp2L_ne {g : Gv} {c : Tv} {it1 : Iv} {g1 : Gv} {t1 : Tv} {f : Ev} {vs1 : List Nat} {σ : Sl} : ∀ {ds : List D} {h : Hm} {x : Exn} {h2 : Hm}, comp2L g (inn c it1 g1 t1 f vs1) σ ds h ≠ .ex x h2
  | [], h, x, h2, q => by simp [comp2L] at q
  | d :: ds, h, x, h2, q => by
    simp only [comp2L] at q
    split at q
    · cases q
    · obtain ⟨c, h3, _, q⟩ := bindN_ex q
      obtain ⟨ys, h5, _, q⟩ := bindN_ex q
      cases q
theorem SR.wk {K : PySem.W.Frag} {φ φ' : List Addr} {H H' : Hp} {st : Sl} {σ : L2.St} (x : SR K cl φ H st σ) (l : Wk φ H φ' H') : SR K cl φ' H' st σ :=
  ⟨x.len, fun i p e => ⟨⟨(x.fn i p e).1.pre.trans l.pre, (x.fn i p e).1.per.trans l.per⟩, (x.fn i p e).2⟩, fun i d e => let ⟨v, h1, h2⟩ := x.get i d e; ⟨v, h1, Rep.mono l.pre l.per _ _ h2⟩⟩
theorem Wk.wr {φ φ' : List Addr} {H H' : Hp} {D : Addr} {u v : HO} (a : Wk φ H φ' H') (e : H' D = some u) (m : mutO u = true) : Wk φ H φ' (upd H' D v) := ⟨a.pre, a.per.trans (Per.wr e m)⟩
section
variable {X : Cx} {cl : Cl} {W : WX} {elt tg iter tg1 iter1 : Expr} {ifs ifs1 : List Expr} {it it1 : Iv} {g g1 : Gv} {is is1 vs1 : List Nat} {t t1 : Tv} {f : Ev} {scope : Scope} {own : List (Str × Nat)} {pos : Pos}
theorem comp2_go (his : ∀ i ∈ is, i ∈ own.map (·.2)) (his1 : ∀ i ∈ is1, i ∈ vs1) (hcl : ∀ v ∈ own.map (·.2), cl v = none) (hcl1 : ∀ v ∈ vs1, cl v = none) {σ : L2.St} {H : Hp} {Q : VK} (p : tG X.K cl W (Fresh X.K) (lComp2 it g t it1 g1 t1 f (own.map (·.2)) vs1) σ H Q) :
    tLc2 (tI X.K cl W it) (tGv X.K cl g is) (tG X.K cl W0 RBool t) (tI X.K cl W0 it1) (tGv X.K cl g1 is1) (tG X.K cl W0 RBool t1) (tG X.K cl W0 (RR X.K) f) (own.map (·.2)) vs1 σ H Q := by
  obtain ⟨φ, st, h0, S, R0, P⟩ := p
  refine ⟨φ, st, h0, S, R0, ?_⟩
  unfold lComp2 at P
  cases e : it st h0 with
  | bad => simp only [e, Rs.bind] at P; exact P
  | ex ex1 h1 => simp only [e, Rs.bind] at P; exact P
  | ok ds h1 =>
    simp only [e, Rs.bind] at P
    intro φ1 H1 J l1 r1 dv D hD
    generalize hM : inn t it1 g1 t1 f vs1 = M at P
    cases e1 : comp2L g M (unset st (own.map (·.2))) ds h1 with
    | bad => rw [e1] at P; exact P.elim
    | ex ex1 h2 => subst hM; exact (comp2L_ne e1).elim
    | ok res hf =>
      rw [e1] at P
      simp only at P
      split at P
      · rename_i hlen
        have nD1 : D ∉ φ1 := r1.notin hD
        have nD0 : H D = none := l1.gone nD1 hD
        refine ⟨fun i m H2 => m = ds.length - i ∧ i ≤ ds.length ∧ ∃ φ2 h2 acc accV ys, Lat φ1 H1 φ2 H2 ∧ HR X.K φ2 H2 h2 ∧ D ∉ φ2 ∧ H2 D = some (.lst accV) ∧ RepL X.K φ2 H2 acc accV ∧ comp2L g M (unset st (own.map (·.2))) (ds.drop i) h2 = .ok ys hf ∧ acc ++ ys = res,
          ⟨_, rfl, Nat.zero_le _, φ1, h1, [], [], res, Lat.new hD, r1.new hD, nD1, upd_same, .nil, e1, rfl⟩, ?_⟩
        rintro i m H2 ⟨rfl, hi, φ2, h2, acc, accV, ys, l2, r2, nD2, eD, ra, ec, er⟩
        obtain ⟨d1, d2⟩ := dv φ2 H2 h2 l2.wk r2
        by_cases lt : i < ds.length
        · obtain ⟨go, yl⟩ := d1 i ds[i] (List.getElem?_eq_getElem lt)
          refine .inr ⟨go, fun H' => ∃ φ2 h2 acc accV ys, Lat φ1 H1 φ2 H' ∧ HR X.K φ2 H' h2 ∧ D ∉ φ2 ∧ H' D = some (.lst accV) ∧ RepL X.K φ2 H' acc accV ∧ comp2L g M (unset st (own.map (·.2))) (ds.drop (i + 1)) h2 = .ok ys hf ∧ acc ++ ys = res,
            fun H' n => ⟨ds.length - (i + 1), by omega, rfl, lt, n⟩, fun x H3 y => ?_⟩
          obtain ⟨l3, r3, rx⟩ := yl x H3 y
          rw [List.drop_eq_getElem_cons lt] at ec
          simp only [comp2L] at ec
          cases e2 : g ds[i] (unset st (own.map (·.2))) with
          | none => rw [e2] at ec; cases ec
          | some st3 =>
            rw [e2] at ec
            have L3 := l2.trans l3
            have S3 : SR X.K cl φ2 H3 (unset st (own.map (·.2))) (wipe σ (own.map (·.2))) := (S.mono (l1.trans L3)).unset _ hcl
            refine ⟨φ2, _, ds[i], st3, S3, rx, e2, fun τ S4 ch => ⟨by rw [ch.wipe his, wipe_wipe], φ2, st3, h2, S4, r3, ?_⟩⟩
            simp only at ec
            obtain ⟨ysI, h7, eM, ec⟩ := bindN_ok ec
            obtain ⟨zs, h8, eZ, ec⟩ := bindN_ok ec
            cases ec
            subst hM
            obtain ⟨c1, h4, e3, eM⟩ := bindN_ok (show (t st3 h2).bindN _ = _ from eM)
            rw [e3]
            intro φ4 H4 c2 l4 r4 ecc
            cases (show c1 = c2 from ecc)
            have L4 := L3.trans l4
            have eD4 : H4 D = some (.lst accV) := (l3.trans l4).keep D _ eD nD2
            have nD4 : D ∉ φ4 := (l3.trans l4).out eD nD2
            have ra4 := RepL.mono (l3.trans l4).pre (l3.trans l4).per _ _ ra
            cases c1 with
            | false =>
              rw [if_neg Bool.false_ne_true]
              rw [if_neg Bool.false_ne_true] at eM
              cases eM
              exact ⟨φ4, _, acc, accV, zs, L4, r4, nD4, eD4, ra4, eZ, by simpa using er⟩
            | true =>
              rw [if_pos rfl]
              rw [if_pos rfl] at eM
              obtain ⟨ds1, h5, e5, eM⟩ := bindN_ok eM
              refine ⟨φ4, st3, h4, S4.mono l4, r4, ?_⟩
              rw [e5]
              intro φ5 H5 J1 l5 r5 dv1
              have L5 := L4.trans l5
              have eD5 : H5 D = some (.lst accV) := l5.keep D _ eD4 nD4
              have nD5 : D ∉ φ5 := l5.out eD4 nD4
              have ra5 := RepL.mono l5.pre l5.per _ _ ra4
              have S5 : SR X.K cl φ5 H5 st3 τ := (S4.mono l4).mono l5
              refine ⟨fun j m H6 => m = ds1.length - j ∧ j ≤ ds1.length ∧ ∃ φ6 h6 acc6 accV6 ys6, Lat φ1 H1 φ6 H6 ∧ Wk φ5 H5 φ6 H6 ∧ HR X.K φ6 H6 h6 ∧ D ∉ φ6 ∧ H6 D = some (.lst accV6) ∧ RepL X.K φ6 H6 acc6 accV6 ∧ compL g1 t1 f (unset st3 vs1) (ds1.drop j) h6 = .ok ys6 h7 ∧ acc6 ++ ys6 = acc ++ ysI,
                ⟨_, rfl, Nat.zero_le _, φ5, h5, acc, accV, ysI, L5, Wk.refl _ _, r5, nD5, eD5, ra5, eM, rfl⟩, ?_⟩
              rintro j m H6 ⟨rfl, hj, φ6, h6, acc6, accV6, ys6, L6, w6, r6, nD6, eD6, ra6, ec6, er6⟩
              obtain ⟨d3, d4⟩ := dv1 φ6 H6 h6 w6 r6
              by_cases lt1 : j < ds1.length
              · obtain ⟨go1, yl1⟩ := d3 j ds1[j] (List.getElem?_eq_getElem lt1)
                refine .inr ⟨go1, fun H6 => ∃ φ6 h6 acc6 accV6 ys6, Lat φ1 H1 φ6 H6 ∧ Wk φ5 H5 φ6 H6 ∧ HR X.K φ6 H6 h6 ∧ D ∉ φ6 ∧ H6 D = some (.lst accV6) ∧ RepL X.K φ6 H6 acc6 accV6 ∧ compL g1 t1 f (unset st3 vs1) (ds1.drop (j + 1)) h6 = .ok ys6 h7 ∧ acc6 ++ ys6 = acc ++ ysI,
                  fun H' n => ⟨ds1.length - (j + 1), by omega, rfl, lt1, n⟩, fun x1 H7 y1 => ?_⟩
                obtain ⟨l7, r7, rx1⟩ := yl1 x1 H7 y1
                rw [List.drop_eq_getElem_cons lt1] at ec6
                simp only [compL] at ec6
                cases e7 : g1 ds1[j] (unset st3 vs1) with
                | none => rw [e7] at ec6; cases ec6
                | some st7 =>
                  rw [e7] at ec6
                  simp only at ec6
                  have S7 : SR X.K cl φ6 H7 (unset st3 vs1) (wipe τ vs1) := (S5.wk (w6.trans l7.wk)).unset _ hcl1
                  refine ⟨φ6, _, ds1[j], st7, S7, rx1, e7, fun τ1 S8 ch1 => ⟨by rw [ch1.wipe his1, wipe_wipe], φ6, st7, h6, S8, r7, ?_⟩⟩
                  obtain ⟨c3, h9, e9, ec6⟩ := bindN_ok ec6
                  rw [e9]
                  intro φ9 H9 c4 l9 r9 ecc1
                  cases (show c3 = c4 from ecc1)
                  have l79 := l7.trans l9
                  have eD9 : H9 D = some (.lst accV6) := l79.keep D _ eD6 nD6
                  have nD9 : D ∉ φ9 := l79.out eD6 nD6
                  have ra9 := RepL.mono l79.pre l79.per _ _ ra6
                  cases c3 with
                  | false =>
                    rw [if_neg Bool.false_ne_true]
                    rw [if_neg Bool.false_ne_true] at ec6
                    exact ⟨φ9, h9, acc6, accV6, ys6, L6.trans l79, w6.trans l79.wk, r9, nD9, eD9, ra9, ec6, er6⟩
                  | true =>
                    rw [if_pos rfl]
                    rw [if_pos rfl] at ec6
                    obtain ⟨y2, h10, e10, ec6⟩ := bindN_ok ec6
                    obtain ⟨ys7, h11, e11, ec6⟩ := bindN_ok ec6
                    cases ec6
                    refine ⟨φ9, st7, h9, S8.mono l9, r9, ?_⟩
                    rw [e10]
                    intro φa Ha yv la ra' ry
                    have eDa : Ha D = some (.lst accV6) := la.keep D _ eD9 nD9
                    have raa := RepL.mono la.pre la.per _ _ ra9
                    refine ⟨accV6, eDa, ?_, φa, h10, acc6 ++ [y2], accV6 ++ [yv], ys7, Lat.tmp ((L6.trans l79).trans la) hD eDa rfl, ((w6.trans l79.wk).trans la.wk).wr eDa rfl, ra'.out (la.out eD9 nD9) eDa rfl, la.out eD9 nD9, upd_same, ?_, e11, by simp [← er6]⟩
                    · have h1 := congrArg List.length er
                      have h2 := congrArg List.length er6
                      simp at h1 h2
                      rw [← ra6.length, ← line_eq]
                      omega
                    · exact RepL.mono (List.prefix_refl _) (Per.wr eDa rfl) _ _ (raa.append (.cons ry .nil))
              · have ej : j = ds1.length := by omega
                subst ej
                rw [List.drop_length] at ec6
                simp only [compL, Rs.ok.injEq] at ec6
                obtain ⟨rfl, rfl⟩ := ec6
                rw [List.append_nil] at er6
                subst er6
                exact .inl ⟨d4, φ6, _, _, accV6, zs, L6, r6, nD6, eD6, ra6, eZ, by rw [List.append_assoc]; exact er⟩
        · have ei : i = ds.length := by omega
          subst ei
          rw [List.drop_length] at ec
          simp only [comp2L, Rs.ok.injEq] at ec
          obtain ⟨rfl, rfl⟩ := ec
          rw [List.append_nil] at er
          subst er
          exact .inl ⟨d2, P φ2 H2 _ (l1.trans l2) r2 ⟨D, accV, rfl, nD0, nD2, eD, ra⟩⟩
      · exact P.elim
theorem l_comp2 {k : Nat} (c0 : Cs k X) (hi : SI X cl W tg iter it) (ok : BlkOk X.N X.env.scope scope own) (his : ∀ i ∈ is, i ∈ own.map (·.2)) (hv : ∀ i ∈ vs1, i ∈ own.map (·.2)) (his1 : ∀ i ∈ is1, i ∈ vs1)
    (hg : ∀ (s : Shared) (H : Hp) (C : Addr) (cc : List (Str × Addr)) (fp : List Addr), SG (X.blk s H scope (compEnvC scope cc C X.env) fp) cl tg g is)
    (ht : ∀ (s : Shared) (H : Hp) (C : Addr) (cc : List (Str × Addr)) (fp : List Addr), STs (X.blk s H scope (compEnvC scope cc C X.env) fp) cl W0 ifs t)
    (hi1 : ∀ (s : Shared) (H : Hp) (C : Addr) (cc : List (Str × Addr)) (fp : List Addr), SI (X.blk s H scope (compEnvC scope cc C X.env) fp) cl W0 tg1 iter1 it1)
    (hg1 : ∀ (s : Shared) (H : Hp) (C : Addr) (cc : List (Str × Addr)) (fp : List Addr), SG (X.blk s H scope (compEnvC scope cc C X.env) fp) cl tg1 g1 is1)
    (ht1 : ∀ (s : Shared) (H : Hp) (C : Addr) (cc : List (Str × Addr)) (fp : List Addr), STs (X.blk s H scope (compEnvC scope cc C X.env) fp) cl W0 ifs1 t1)
    (he : ∀ (s : Shared) (H : Hp) (C : Addr) (cc : List (Str × Addr)) (fp : List Addr), SE (X.blk s H scope (compEnvC scope cc C X.env) fp) cl W0 elt f) (hs : ∀ x, foldedSetIterable iter X.env x = pure x := by intro _; rfl) (hs1 : ∀ env x, foldedSetIterable iter1 env x = pure x := by intro _ _; rfl) (hcl : ∀ v ∈ own.map (·.2), cl v = none := by first | exact fun _ _ => rfl | simp [pinCl]) :
    SL X cl W (.ListComp elt [⟨tg, iter, ifs, 0⟩, ⟨tg1, iter1, ifs1, 0⟩] scope pos) (lComp2 it g t it1 g1 t1 f (own.map (·.2)) vs1) := PE.of (pe_lc2 c0.calm c0.nd hi ok hv hg ht hi1 hg1 ht1 he hs hs1) fun σ H Q p => comp2_go his his1 hcl (fun v m => hcl v (hv v m)) p
theorem s_setComp2 {k i : Nat} {y : Str} {py spos : Pos} (c0 : Cs k X) (hy : X.N[i]? = some y) (hyl : X.env.scope.names.lookup y = some .local)
    (hsw : swapsWith (.ListComp elt [⟨tg, iter, ifs, 0⟩, ⟨tg1, iter1, ifs1, 0⟩] scope pos) (some (.Name y py)) spos.line X.env = pure true) (hi : SI X cl W tg iter it) (ok : BlkOk X.N X.env.scope scope own) (his : ∀ i ∈ is, i ∈ own.map (·.2)) (hv : ∀ i ∈ vs1, i ∈ own.map (·.2)) (his1 : ∀ i ∈ is1, i ∈ vs1)
    (hg : ∀ (s : Shared) (H : Hp) (C : Addr) (cc : List (Str × Addr)) (fp : List Addr), SG (X.blk s H scope (compEnvC scope cc C X.env) fp) cl tg g is)
    (ht : ∀ (s : Shared) (H : Hp) (C : Addr) (cc : List (Str × Addr)) (fp : List Addr), STs (X.blk s H scope (compEnvC scope cc C X.env) fp) cl W0 ifs t)
    (hi1 : ∀ (s : Shared) (H : Hp) (C : Addr) (cc : List (Str × Addr)) (fp : List Addr), SI (X.blk s H scope (compEnvC scope cc C X.env) fp) cl W0 tg1 iter1 it1)
    (hg1 : ∀ (s : Shared) (H : Hp) (C : Addr) (cc : List (Str × Addr)) (fp : List Addr), SG (X.blk s H scope (compEnvC scope cc C X.env) fp) cl tg1 g1 is1)
    (ht1 : ∀ (s : Shared) (H : Hp) (C : Addr) (cc : List (Str × Addr)) (fp : List Addr), STs (X.blk s H scope (compEnvC scope cc C X.env) fp) cl W0 ifs1 t1)
    (he : ∀ (s : Shared) (H : Hp) (C : Addr) (cc : List (Str × Addr)) (fp : List Addr), SE (X.blk s H scope (compEnvC scope cc C X.env) fp) cl W0 elt f) (hs : ∀ x, foldedSetIterable iter X.env x = pure x := by intro _; rfl) (hs1 : ∀ env x, foldedSetIterable iter1 env x = pure x := by intro _ _; rfl) (hcl : ∀ v ∈ own.map (·.2), cl v = none := by first | exact fun _ _ => rfl | simp [pinCl]) :
    SS X cl W (.Assign [.Name y py] (.ListComp elt [⟨tg, iter, ifs, 0⟩, ⟨tg1, iter1, ifs1, 0⟩] scope pos) spos) (sAsg (gN i) (eFrz (lComp2 it g t it1 g1 t1 f (own.map (·.2)) vs1))) := by
  refine ⟨fun pins s σ H D I p => ?_⟩
  have q := (ps_setLc2 (g := tGv X.K cl g is) (tt := tG X.K cl W0 RBool t) (g1 := tGv X.K cl g1 is1) (tt1 := tG X.K cl W0 RBool t1) (wi1 := tI X.K cl W0 it1) (te := tG X.K cl W0 (RR X.K) f) c0.calm c0.nd hy hyl hsw hi ok hv hg ht hi1 hg1 ht1 he hs hs1).run pins s σ H { D with nx := fun τ H1 => ∃ a vs, τ = σ.set i (some (.ref a)) ∧ H1 a = some (.lst vs) ∧ ∀ o, D.nx τ (upd H1 a (.frz o (.lst vs))) } I (by
    refine comp2_go (W := W) (cl := cl) (t := t) (f := f) his his1 hcl (fun v m => hcl v (hv v m)) ?_
    obtain ⟨φ, st, h0, S, R0, P⟩ := p
    refine ⟨φ, st, h0, S, R0, ?_⟩
    simp only [sAsg, eFrz] at P
    cases e : lComp2 it g t it1 g1 t1 f (own.map (·.2)) vs1 st h0 with
    | bad => simp only [e, Rs.bind, Rs.out] at P; exact P
    | ex ex1 h1 =>
      simp only [e, Rs.bind, Rs.out] at P
      exact fun φ' H' c d l r er => P φ' H' c d σ l r (S.mono l) er
    | ok ds h1 =>
      simp only [e, Rs.bind, gN, Rs.out, outO] at P
      rintro φ' H' v l r ⟨a, vs, rfl, n0, nn, ea, rr⟩
      refine ⟨a, vs, rfl, ea, fun o => ?_⟩
      obtain ⟨l2, x2, y2⟩ := Fresh.frz (o := o) l n0 r nn ea rr
      exact P φ' _ _ l2 x2 ((S.mono l2).set i y2))
  refine thn q fun fl s1 h1 => ?_
  cases fl with
  | next =>
    obtain ⟨σ', H', I', a, vs, rfl, e1, e2⟩ := h1
    obtain ⟨o, I2⟩ := inv_frz I' e1
    exact ⟨_, _, I2, e2 o⟩
  | brk => exact h1
  | cont => exact h1
  | ret u => exact h1
end
end Y
end

section
set_option Elab.async false
set_option linter.all false
set_option maxRecDepth 100000
set_option maxHeartbeats 2000000
/-! YX: o.pop(i), o a list of one's own, as an expression. -/
namespace Y
open PySem PySem.Spec PyProof.Rows L2
def popD (h : Hm) : D → D → Option (D × Hm)
  | .loc p, .int i => match h[p]? with
    | some (.lst xs) => if 0 ≤ i ∧ i < 16777216 then (match xs[i.toNat]? with
      | some y => some (y, h.set p (.lst (xs.eraseIdx i.toNat)))
      | none => none) else none
    | _ => none
  | _, _ => none
def ePop (f g : Ev) : Ev := fun σ h => (f σ h).bind fun o h1 => if isLst h1 o = true then (g σ h1).bind fun i h2 => match popD h2 o i with
  | some (y, h3) => .ok y h3
  | none => .bad else .bad
theorem RepL.eraseIdx {K : PySem.W.Frag} {φ : List Addr} {H : Hp} : ∀ {ds : List D} {vs : List V} (i : Nat), RepL K φ H ds vs → RepL K φ H (ds.eraseIdx i) (vs.eraseIdx i)
  | [], _, _, r => by cases r; exact .nil
  | d :: ds, _, 0, r => by cases r with | cons _ q => exact q
  | d :: ds, _, i + 1, r => by cases r with | cons h q => exact .cons h (RepL.eraseIdx i q)
section
variable {X : Cx} {cl : Cl} {W : WX} {o e : Expr} {f g : Ev}
theorem s_pop {p1 p2 : Pos} (ho : SE X cl W o f) (he : SE X cl W e g) (hpe : ∀ {to : TE} {t : TA}, PE X o to → PA X [e] t → PE X (.Call (.Attribute o "pop" p1) [e] [] p2) (tBM X.K "list" rPopAt to t))
    (hs1 : starEach [e] X.env = (false, eval e X.env) :: starEach [] X.env := by rfl) :
    SE X cl W (.Call (.Attribute o "pop" p1) [e] [] p2) (ePop f g) := PE.of (hpe ho (pa_cons he pa_nil hs1)) fun σ H Q p => by
  obtain ⟨φ, st, h0, S, R0, P⟩ := p
  refine ⟨φ, st, h0, S, R0, P.seq fun x h1 φ1 H1 v l R r P => ?_⟩
  split at P
  · rename_i hl
    cases r <;> simp only [isLst] at hl <;> try (cases hl; done)
    rename_i n ad hk
    obtain ⟨ob, h3, h4⟩ := R.at hk
    refine ⟨?_, φ1, st, h1, S.mono l, R, P.seq fun y h2 φ3 H3 u l3 R3 r3 P => ?_⟩
    · rw [h3] at hl
      cases h4 with
      | lst hh _ => exact .inl ⟨rfl, _, .of hh⟩
      | dct hh _ => simp at hl
      | dtu hh _ => simp at hl
    · cases e3 : popD h2 (.loc n) y with
      | none => rw [e3] at P; exact P.elim
      | some z =>
        obtain ⟨y2, h5⟩ := z
        rw [e3] at P
        simp only at P
        have hk4 := pre_get l3.pre hk
        obtain ⟨ob2, h6, h7⟩ := R3.at hk4
        unfold popD at e3
        split at e3
        · rename_i p' i ep
          cases ep
          simp only [h6] at e3
          split at e3
          · rename_i xs e9
            cases e9
            split at e3
            · rename_i hi
              split at e3
              · rename_i y3 e10
                cases e3
                cases r3
                cases h7 with
                | lst hh rr =>
                  rename_i vs
                  have mem : ad ∈ φ3 := List.mem_of_getElem? hk4
                  obtain ⟨w3, q1, q2⟩ := rr.get e10
                  have hlt := (List.getElem?_eq_some_iff.mp e10).1
                  have hlv : vs.length = xs.length := rr.length.symm
                  refine ⟨ad, vs, i, i.toNat, w3, rfl, rfl, hh, by omega, by omega, seqIndex_of hi.1 (by rw [hlv]; omega), q1, ?_⟩
                  refine P φ3 _ _ (Lat.wr hh rfl mem) (R3.wr hk4 (.lst upd_same ?_)) ?_
                  · exact RepL.mono (List.prefix_refl _) (Per.wr hh rfl) _ _ (rr.eraseIdx _)
                  · exact Rep.mono (List.prefix_refl _) (Per.wr hh rfl) _ _ q2
              · cases e3
            · cases e3
          · cases e3
        · cases e3
  · exact P.elim
end
end Y
end

section
set_option Elab.async false
set_option linter.all false
set_option maxRecDepth 100000
set_option maxHeartbeats 2000000
/-! YZ: {k: v for ..}, keys ints and texts. -/
namespace Y
open PySem PySem.Spec PyProof.Rows L2
def dcL (g : Gv) (c : Tv) (k v : Ev) (σ : Sl) : List D → List (Key × D) → Hm → Rs (List (Key × D))
  | [], a, h => .ok a h
  | d :: ds, a, h => match g d σ with
    | none => .bad
    | some σ1 => (c σ1 h).bindN fun t h1 => if t = true then (k σ1 h1).bindN fun y h2 => (v σ1 h2).bindN fun z h3 => match keyOf y with
      | some ky => if a.length < line then dcL g c k v σ ds (setK a ky z) h3 else .bad
      | none => .bad else dcL g c k v σ ds a h1
def eDc (it : Iv) (g : Gv) (c : Tv) (k v : Ev) (vs : List Nat) : Ev := fun σ h => (it σ h).bind fun ds h1 => (dcL g c k v (unset σ vs) ds [] h1).bind fun a h2 => .ok (.loc h2.length) (h2 ++ [.dct a])
theorem dcL_ne {g : Gv} {t : Tv} {k v : Ev} {σ : Sl} : ∀ {ds : List D} {a : List (Key × D)} {h : Hm} {x : Exn} {h2 : Hm}, dcL g t k v σ ds a h ≠ .ex x h2
  | [], a, h, x, h2, q => by simp [dcL] at q
  | d :: ds, a, h, x, h2, q => by
    simp only [dcL] at q
    split at q
    · cases q
    · obtain ⟨c, h3, _, q⟩ := bindN_ex q
      split at q
      · obtain ⟨y, h4, _, q⟩ := bindN_ex q
        obtain ⟨z, h5, _, q⟩ := bindN_ex q
        split at q
        · split at q
          · exact dcL_ne q
          · cases q
        · cases q
      · exact dcL_ne q
section
variable {X : Cx} {cl : Cl} {W : WX} {kx vx tg iter : Expr} {ifs : List Expr} {it : Iv} {g : Gv} {is : List Nat} {t : Tv} {fk fv : Ev} {scope : Scope} {own : List (Str × Nat)} {pos : Pos}
theorem dc_go (his : ∀ i ∈ is, i ∈ own.map (·.2)) (hcl : ∀ v ∈ own.map (·.2), cl v = none) {σ : L2.St} {H : Hp} {Q : VK} (p : tG X.K cl W (RR X.K) (eDc it g t fk fv (own.map (·.2))) σ H Q) :
    tDc (tI X.K cl W it) (tGv X.K cl g is) (tG X.K cl W0 RBool t) (tG X.K cl W0 (RR X.K) fk) (tG X.K cl W0 (RR X.K) fv) (own.map (·.2)) σ H Q := by
  obtain ⟨φ, st, h0, S, R0, P⟩ := p
  refine ⟨φ, st, h0, S, R0, ?_⟩
  unfold eDc at P
  cases e : it st h0 with
  | bad => simp only [e, Rs.bind] at P; exact P
  | ex ex1 h1 => simp only [e, Rs.bind] at P; exact P
  | ok ds h1 =>
    simp only [e, Rs.bind] at P
    intro φ1 H1 J l1 r1 dv D hD
    cases e1 : dcL g t fk fv (unset st (own.map (·.2))) ds [] h1 with
    | bad => rw [e1] at P; exact P.elim
    | ex ex1 h2 => exact (dcL_ne e1).elim
    | ok res hf =>
      rw [e1] at P
      simp only at P
      have nD1 : D ∉ φ1 := r1.notin hD
      have nD0 : H D = none := l1.gone nD1 hD
      refine ⟨fun i m H2 => m = ds.length - i ∧ i ≤ ds.length ∧ ∃ φ2 h2 acc accV, Lat φ1 H1 φ2 H2 ∧ HR X.K φ2 H2 h2 ∧ D ∉ φ2 ∧ H2 D = some (.dK accV) ∧ RepK X.K φ2 H2 acc accV ∧ dcL g t fk fv (unset st (own.map (·.2))) (ds.drop i) acc h2 = .ok res hf,
        ⟨_, rfl, Nat.zero_le _, φ1, h1, [], [], Lat.new hD, r1.new hD, nD1, upd_same, .nil, e1⟩, ?_⟩
      rintro i m H2 ⟨rfl, hi, φ2, h2, acc, accV, l2, r2, nD2, eD, ra, ec⟩
      obtain ⟨d1, d2⟩ := dv φ2 H2 h2 l2.wk r2
      by_cases lt : i < ds.length
      · obtain ⟨go, yl⟩ := d1 i ds[i] (List.getElem?_eq_getElem lt)
        refine .inr ⟨go, fun H' => ∃ φ2 h2 acc accV, Lat φ1 H1 φ2 H' ∧ HR X.K φ2 H' h2 ∧ D ∉ φ2 ∧ H' D = some (.dK accV) ∧ RepK X.K φ2 H' acc accV ∧ dcL g t fk fv (unset st (own.map (·.2))) (ds.drop (i + 1)) acc h2 = .ok res hf,
          fun H' n => ⟨ds.length - (i + 1), by omega, rfl, lt, n⟩, fun x H3 y => ?_⟩
        obtain ⟨l3, r3, rx⟩ := yl x H3 y
        rw [List.drop_eq_getElem_cons lt] at ec
        simp only [dcL] at ec
        cases e2 : g ds[i] (unset st (own.map (·.2))) with
        | none => rw [e2] at ec; cases ec
        | some st3 =>
          rw [e2] at ec
          have L3 := l2.trans l3
          have S3 : SR X.K cl φ2 H3 (unset st (own.map (·.2))) (wipe σ (own.map (·.2))) := (S.mono (l1.trans L3)).unset _ hcl
          refine ⟨φ2, _, ds[i], st3, S3, rx, e2, fun τ S4 ch => ⟨by rw [ch.wipe his, wipe_wipe], φ2, st3, h2, S4, r3, ?_⟩⟩
          simp only at ec
          obtain ⟨c1, h4, e3, ec⟩ := bindN_ok ec
          rw [e3]
          intro φ4 H4 c2 l4 r4 ecc
          cases (show c1 = c2 from ecc)
          have l34 := l3.trans l4
          have eD4 : H4 D = some (.dK accV) := l34.keep D _ eD nD2
          have nD4 : D ∉ φ4 := l34.out eD nD2
          have ra4 := ra.mono l34.pre l34.per
          cases c1 with
          | false =>
            rw [if_neg Bool.false_ne_true]
            rw [if_neg Bool.false_ne_true] at ec
            exact ⟨φ4, h4, acc, accV, L3.trans l4, r4, nD4, eD4, ra4, ec⟩
          | true =>
            rw [if_pos rfl]
            rw [if_pos rfl] at ec
            obtain ⟨y1, h5, e5, ec⟩ := bindN_ok ec
            obtain ⟨z1, h6, e6, ec⟩ := bindN_ok ec
            refine ⟨φ4, st3, h4, S4.mono l4, r4, ?_⟩
            rw [e5]
            intro φ5 H5 yv l5 r5 ry
            refine ⟨φ5, st3, h5, (S4.mono l4).mono l5, r5, ?_⟩
            rw [e6]
            intro φ6 H6 zv l6 r6 rz
            have l56 := l5.trans l6
            have eD6 : H6 D = some (.dK accV) := l56.keep D _ eD4 nD4
            have nD6 : D ∉ φ6 := l56.out eD4 nD4
            have ra6 := ra4.mono l56.pre l56.per
            split at ec
            · rename_i ky ek
              split at ec
              · rename_i hl
                obtain rfl := key_of_rep ry ek
                refine ⟨accV, ky, rfl, eD6, by rw [← Paired.length ra6, ← line_eq]; exact hl, φ6, h6, _, _, Lat.tmp ((L3.trans l4).trans l56) hD eD6 rfl, r6.out nD6 eD6 rfl, nD6, upd_same, ?_, ec⟩
                exact (ra6.set ky rz).mono (List.prefix_refl _) (Per.wr eD6 rfl)
              · cases ec
            · cases ec
      · have ei : i = ds.length := by omega
        subst ei
        rw [List.drop_length] at ec
        simp only [dcL, Rs.ok.injEq] at ec
        obtain ⟨rfl, rfl⟩ := ec
        have L := l1.trans l2
        refine .inl ⟨d2, P (φ2 ++ [D]) _ _ ⟨L.pre.trans (List.prefix_append _ _), L.per, L.keepT, fun b m => ?_⟩ (r2.add nD2 (.dct eD (ra.mono (List.prefix_append _ _) (Per.refl _)))) (.loc ?_)⟩
        · rcases List.mem_append.mp m with m | m
          · exact L.fresh b m
          · simp at m
            subst m
            exact .inr nD0
        · rw [List.getElem?_append_right (by rw [r2.len]; exact Nat.le_refl _)]
          simp [r2.len]
theorem s_dc {k : Nat} (c0 : Cs k X) (hi : SI X cl W tg iter it) (ok : BlkOk X.N X.env.scope scope own) (his : ∀ i ∈ is, i ∈ own.map (·.2))
    (hg : ∀ (s : Shared) (H : Hp) (C : Addr) (cc : List (Str × Addr)) (fp : List Addr), SG (X.blk s H scope (compEnvC scope cc C X.env) fp) cl tg g is)
    (ht : ∀ (s : Shared) (H : Hp) (C : Addr) (cc : List (Str × Addr)) (fp : List Addr), STs (X.blk s H scope (compEnvC scope cc C X.env) fp) cl W0 ifs t)
    (hk : ∀ (s : Shared) (H : Hp) (C : Addr) (cc : List (Str × Addr)) (fp : List Addr), SE (X.blk s H scope (compEnvC scope cc C X.env) fp) cl W0 kx fk)
    (he : ∀ (s : Shared) (H : Hp) (C : Addr) (cc : List (Str × Addr)) (fp : List Addr), SE (X.blk s H scope (compEnvC scope cc C X.env) fp) cl W0 vx fv) (hs : ∀ x, foldedSetIterable iter X.env x = pure x := by intro _; rfl) (hcl : ∀ v ∈ own.map (·.2), cl v = none := by first | exact fun _ _ => rfl | simp [pinCl]) :
    SE X cl W (.DictComp kx vx [⟨tg, iter, ifs, 0⟩] scope pos) (eDc it g t fk fv (own.map (·.2))) := PE.of (pe_dc c0.calm c0.nd hi ok hg ht hk he hs) fun σ H Q p => dc_go his hcl p
end
end Y
end

section
set_option Elab.async false
set_option linter.all false
set_option maxRecDepth 100000
set_option maxHeartbeats 2000000
/-! YMk: an own class is made: run_make over FnG. -/
namespace Y
open PySem PySem.Spec PyProof.Rows L2
section
variable {X : Cx} {k : Nat} {f C : Addr} {fd : FuncData} {ps : List Str} {E : XK}
theorem run_makeG {W : WX} {sp : Sp} {pins : List (Addr × Obj)} {σ : L2.St} {H : Hp} {s : Shared} {Q : VK} {us : List Value} {vs : List V} (M : Mk X.K C f) (F : FnG X.prog X.w X.K X.mg X.base k f fd ps sp) (c : Cs (k + 1) X) (tk : Takes X W) (hb : Binds X.K fd ps [])
    (I : Inv X pins σ H s) (r : Vals vs us)
    (h : ∀ x dx, H x = none → H dx = none → dx ≠ x → sp (.ref x :: vs) (upd (upd H dx (.own x)) x (.ins C dx [])) (fun v H2 => v = .non ∧ Q (.ref x) H2) fun c d H' => W c d σ H') :
    wpAny (model X.prog X.w) X.A (call (.ref C) us) (EP X pins σ Q) X.xe s := by
  have hq := h (s.heap.objs.size + 1) s.heap.objs.size (I.hok.fresh (Nat.le_succ _)) (I.hok.fresh (Nat.le_refl _)) (Nat.ne_of_lt (Nat.lt_succ_self _))
  have I2 := Inv.made (C := C) I
  have r2 : Vals (V.ref (s.heap.objs.size + 1) :: vs) (Value.ref (s.heap.objs.size + 1) :: us) := .cons rfl r
  have hl : (Value.ref (s.heap.objs.size + 1) :: us).length = ps.length := by
    rw [← r2.length]; exact F.len _ _ _ _ hq
  have b := hb _ (Value.ref (s.heap.objs.size + 1) :: us) I2.kIn (by rw [List.append_nil]; exact hl)
  rw [List.append_nil] at b
  refine wpAny_call (make_map (f := f) I.kIn M.makes M.init (beq_iff_eq.mp M.fn) (codeAny_mono (F.run _ X.stack _ _ ⟨Value.ref (s.heap.objs.size + 1) :: us, []⟩ _ _ _ _ (c.room.make C us []) c.gd
    (I2.env0.make C us []) b r2 hq) fun r s' hq' => ?_))
  cases r with
  | error e => exact passAt tk σ pins _ _ e s' I2 hq'
  | ok fl =>
    cases fl with
    | ret u =>
      obtain ⟨v, H', I3, rv, ev, q3⟩ := I2.after hq'
      subst ev
      exact ⟨rv, ⟨V.ref (s.heap.objs.size + 1), H', I3, rfl, q3⟩⟩
    | next => exact False.elim hq'
    | brk => exact False.elim hq'
    | cont => exact False.elim hq'
theorem pe_makeG {W : WX} {sp : Sp} {x : Str} {p pos : Pos} {e : Expr} {es : List Expr} {t : TA} (M : Mk X.K C f) (F : FnG X.prog X.w X.K X.mg X.base k f fd ps sp) (c : Cs (k + 1) X) (tk : Takes X W) (hb : Binds X.K fd ps []) (hg : Gl X x) (hm : X.mg x = some (.ref C))
    (ha : PA X (e :: es) t) (hdb : (x == ("__debug__" : Str)) = false := by decide) (he : starEach (e :: es) X.env = (false, eval e X.env) :: starEach es X.env := by rfl) (hpl : (backTo pos (starEach es X.env)).any (·.1) = false := by rfl) :
    PE X (.Call (.Name x p) (e :: es) [] pos) (fun σ H Q => t σ H fun vs H1 => ∀ x dx, H1 x = none → H1 dx = none → dx ≠ x → sp (.ref x :: vs) (upd (upd H1 dx (.own x)) x (.ins C dx [])) (fun v H2 => v = .non ∧ Q (.ref x) H2) fun c d H' => W c d σ H') := by
  refine ⟨fun pins s σ H Q I h => ?_⟩
  refine wpAny_Call_Name_kw (ld_glob I hg hm ?_ hdb)
  exact PySem.W.callWith_K (h₀ := X.base) I.ok.mod.kin M.kp (thn (ha.run pos pins s σ H _ I h) fun us s1 ⟨vs, H1, I1, r, q⟩ => ⟨I1.kIn, run_makeG M F c tk hb I1 r q⟩) he hpl
end
end Y
end

section
set_option Elab.async false
set_option linter.all false
set_option maxRecDepth 100000
set_option maxHeartbeats 2000000
/-! YMi: __init__ of an own class, and what makes its objects. -/
namespace Y
open PySem PySem.Spec PyProof.Rows L2

/-- if t: raise ..; then the fields -/
def bIf (t : Tv) (r : Sv) (fa : Av) : Av := fun σ h => (t σ h).bind fun b h1 => if b = true then (match r σ h1 with | .ex e _ h2 => .ex e h2 | _ => .bad) else fa σ h1
/-- the object that __init__ gives -/
def mkO (fa : Av) (c : Str) (ns : List Str) (n : Nat) : Fn := fun ds h => match fa (none :: startD (n - 1) ds) h with
  | .ok xs h' => finP h (.obj c ns xs) h'
  | .ex e h' => .ex e h'
  | .bad => .bad
section
variable {K : PySem.W.Frag} {φ φ' : List Addr} {H H' : Hp} {st : Sl} {σ : L2.St}
/-- what comes behind the fields pre -/
def tFs (K : PySem.W.Frag) (cl : Cl) (W : WX) (C : Addr) (pre fs : List Str) (fa : Av) : TS := fun D σ H => ∃ x dx fs0 φ0 H0 φ st h, σ[0]? = some (some (.ref x)) ∧ H0 x = none ∧ Lat φ0 H0 φ H ∧ x ∉ φ ∧ H x = some (.ins C dx fs0) ∧
  fs0.map (·.1) = pre ∧ SR K cl φ H st σ ∧ HR K φ H h ∧ match fa st h with
  | .ok xs h' => ∀ φ' H' vs, Wk φ H φ' H' → Lat φ0 H0 φ' H' → HR K φ' H' h' → RepL K φ' H' xs vs → vs.length = fs.length → H' x = some (.ins C dx (fs0 ++ fs.zip vs)) → D.nx σ H'
  | .ex e h' => ∀ φ' H' c d, Lat φ0 H0 φ' H' → HR K φ' H' h' → ER K cl φ' H' e c d → W c d σ H'
  | .bad => False
theorem putF_new {f : Str} {v : V} : ∀ {fs : List (Str × V)}, f ∉ fs.map (·.1) → putF f v fs = fs ++ [(f, v)]
  | [], _ => rfl
  | (g, x) :: r, h => by
    simp only [List.map_cons, List.mem_cons, not_or] at h
    have e : ¬ g = f := fun z => h.1 z.symm
    show (if g = f then (g, v) :: r else (g, x) :: putF f v r) = _
    rw [if_neg e, putF_new h.2]
    rfl
end
section
variable {X : Cx} {cl : Cl} {W : WX} {C : Addr} {pre fs : List Str} {fa : Av} {fv : Ev} {f me : Str} {p p2 pos : Pos} {e c : Expr} {rest body : List Stmt} {t : Tv} {r : Sv}
theorem fs_nil : PSs X [] (tFs X.K cl W C pre [] aN) := PSs.of pss_nil fun D σ H ⟨x, dx, fs0, φ0, H0, φ, st, h, e0, n0, l, nx, ex, hp, S, R, P⟩ => P φ H [] (Wk.refl _ _) l R .nil rfl (by simpa using ex)
theorem fs_cons (T : Cls X.K C) (no : NoAttr X.K C f) (hN : X.N[0]? = some me) (hv : SE X cl W e fv) (hr : PSs X rest (tFs X.K cl W C (pre ++ [f]) fs fa))
    (h1 : fullN pre = false) (h2 : f ∉ pre) (h3 : pre.length < 1000) (hvi : Vis X.env.scope me := by first | exact Or.inl rfl | exact Or.inr (Or.inl rfl) | exact Or.inr (Or.inr rfl)) (hd : (me == ("__debug__" : Str)) = false := by decide)
    (hcd : (me == ("__classdict__" : Str)) = false := by decide) (hs : swapsWith e (some (.Attribute (.Name me p) f p2)) pos.line X.env = pure false := by rfl) :
    PSs X (.Assign [.Attribute (.Name me p) f p2] e pos :: rest) (tFs X.K cl W C pre (f :: fs) (aC fv fa)) := PSs.of (pss_cons (ps_fld (pe_var hN hvi hd hcd) hv hs) hr) fun D σ H ⟨x, dx, fs0, φ0, H0, φ, st, h, e0, n0, l, nx, ex, hp, S, R, P⟩ => by
  refine ⟨φ, st, h, S, R, ?_⟩
  simp only [aC] at P
  cases e1 : fv st h with
  | bad => simp only [e1, Rs.bind] at P
  | ex x1 h1 =>
    simp only [e1, Rs.bind] at P
    exact fun φ' H' c d l2 r er => P φ' H' c d (l.trans l2) r er
  | ok y h1' =>
    simp only [e1, Rs.bind] at P
    intro φ1 H1 v l1 r1 q1
    have ex1 := l1.keep x _ ex nx
    have nx1 := l1.out ex nx
    have mu : mutO (.ins C dx fs0) = true := by simp [mutO, hp, h1]
    refine ⟨.ref x, e0, x, C, dx, fs0, rfl, ex1, T, no, by have := congrArg List.length hp; simp at this; omega, ?_⟩
    rw [putF_new (by rw [hp]; exact h2)]
    have per : Per H1 (upd H1 x (.ins C dx (fs0 ++ [(f, v)]))) := Per.wr ex1 mu
    have w1 : Wk φ1 H1 φ1 (upd H1 x (.ins C dx (fs0 ++ [(f, v)]))) := ⟨List.prefix_refl _, per⟩
    refine ⟨x, dx, fs0 ++ [(f, v)], φ0, H0, φ1, st, h1', e0, n0, Lat.tmp (l.trans l1) n0 ex1 mu, nx1, upd_same, by simp [hp], (S.mono l1).wk w1, r1.out nx1 ex1 mu, ?_⟩
    cases e2 : fa st h1' with
    | bad => simp only [e2, Rs.bind] at P
    | ex x1 h2 => simp only [e2, Rs.bind] at P; exact P
    | ok xs h2 =>
      simp only [e2, Rs.bind] at P
      intro φ' H' vs w l' r' rl hl hx
      have w2 := w1.trans w
      exact P φ' H' (v :: vs) (l1.wk.trans w2) l' r' (.cons (Rep.mono w2.pre w2.per _ _ q1) rl) (by simp [hl]) (by rw [hx, List.append_assoc]; rfl)
theorem fs_if (hc : ST X cl W c t) (ha : SSs X cl W body r) (hr : PSs X rest (tFs X.K cl W C pre fs fa)) (hW : ∀ c d σ τ H, W c d σ H → W c d τ H) :
    PSs X (.If c body [] pos :: rest) (tFs X.K cl W C pre fs (bIf t r fa)) := PSs.of (pss_cons (ps_if hc ha pss_nil) hr) fun D σ H ⟨x, dx, fs0, φ0, H0, φ, st, h, e0, n0, l, nx, ex, hp, S, R, P⟩ => by
  refine ⟨φ, st, h, S, R, ?_⟩
  simp only [bIf] at P
  cases e1 : t st h with
  | bad => simp only [e1, Rs.bind] at P
  | ex x1 h1 =>
    simp only [e1, Rs.bind] at P
    exact fun φ' H' c d l2 r er => P φ' H' c d (l.trans l2) r er
  | ok b h1 =>
    simp only [e1, Rs.bind] at P
    intro φ1 H1 b' l1 r1 eb
    cases (show b = b' from eb)
    cases b with
    | true =>
      simp only [if_true] at P ⊢
      refine ⟨φ1, st, h1, S.mono l1, r1, ?_⟩
      cases e2 : r st h1 with
      | ex x1 τ h2 =>
        simp only [e2] at P
        exact fun φ' H' c d τ l2 r2 s2 er => hW _ _ _ _ _ (P φ' H' c d (l.trans (l1.trans l2)) r2 er)
      | _ => simp only [e2] at P
    | false =>
      simp only [Bool.false_eq_true, if_false] at P ⊢
      refine ⟨x, dx, fs0, φ0, H0, φ1, st, h1, e0, n0, l.trans l1, l1.out ex nx, l1.keep x _ ex nx, hp, S.mono l1, r1, ?_⟩
      cases e2 : fa st h1 with
      | bad => simp only [e2] at P
      | ex x1 h2 => simp only [e2] at P; exact P
      | ok xs h2 =>
        simp only [e2] at P
        exact fun φ' H' vs w => P φ' H' vs (l1.wk.trans w)
end
/-- what __init__ does -/
def spO (K : PySem.W.Frag) (cl : Cl) (C : Addr) (n : Nat) (d : Fn) : Sp := fun vs H Q E => ∃ x dx H0 φ ds h ws, vs = .ref x :: ws ∧ H0 x = none ∧ H0 dx = none ∧ dx ≠ x ∧ H = upd (upd H0 dx (.own x)) x (.ins C dx []) ∧ ds.length = n ∧
  RepL K φ H0 ds ws ∧ HR K φ H0 h ∧ Post K cl φ H0 (RR K) (d ds h) (fun v H' => v = .ref x → Q .non H') E
theorem start_none {K : PySem.W.Frag} {φ : List Addr} {H : Hp} {N : List Str} {ds : List D} {vs : List V} {v : V} (hN : N ≠ []) (r : RepL K φ H ds vs) : SR K noCl φ H (none :: startD (N.length - 1) ds) (start N (v :: vs)) := by
  have hl : 0 < N.length := List.length_pos_iff.mpr hN
  refine ⟨by simp [startD, L2.start, r.length]; omega, fun _ _ e => (nomatch e), fun i d e => ?_⟩
  cases i with
  | zero => simp at e
  | succ i =>
    rw [List.getElem?_cons_succ] at e
    obtain ⟨v, h1, h2⟩ := r.get (startD_at e)
    refine ⟨v, ?_, h2⟩
    unfold L2.start
    rw [List.getElem?_append_left (by have := (List.getElem?_eq_some_iff.mp h1).1; simpa using this), List.map_cons, List.getElem?_cons_succ, List.getElem?_map, h1]
    rfl
theorem zip_keys {α β : Type} : ∀ {a : List α} {b : List β}, b.length = a.length → (a.zip b).map (·.1) = a ∧ (a.zip b).map (·.2) = b
  | [], [], _ => ⟨rfl, rfl⟩
  | [], _ :: _, h => by simp at h
  | _ :: _, [], h => by simp at h
  | x :: a, y :: b, h => by
    have h' : b.length = a.length := by simpa using h
    obtain ⟨h1, h2⟩ := zip_keys h'
    simp [h1, h2]
section
variable {P : Program} {w : World} {K : PySem.W.Frag} {mg : Str → Option Value} {base : Heap} {cl : Cl}
theorem fn_O {x qual c : Str} {st : Stmt} {f C : Addr} {fd : FuncData} {N ps ns : List Str} {k : Nat} {fa : Av} (F : Fun K x qual st f fd) (S : FnScope N ps (defScope st)) (hns : PySem.W.nsIn K mainGlobals c = some (some (.ref C))) (hf : fullN ns = true) (hN : N ≠ []) (hps : ps ≠ [])
    (hb : ∀ X : Cx, X.prog = P → X.w = w → X.K = K → X.mg = mg → X.base = base → X.N = N → X.env.scope = defScope st → X.stack = X.env :: X.outer → X.env.frame = some X.env.locals → X.fn = (fun _ => true) → ∀ E : XK, Cs k X → Takes X (wOf E) → PassesOwn (model X.prog X.w) X.A X.env X.xe → PSs X (defBody st) (tFs X.K noCl (wOf E) C [] ns fa)) :
    FnG P w K mg base (k + 1) f fd ps (spO K noCl C (ps.length - 1) (mkO fa c ns N.length)) := by
  have hpl : 0 < ps.length := List.length_pos_iff.mpr hps
  refine gn_of F S (fun vs H Q E ⟨x, dx, H0, φ, ds, h, ws, e, _, _, _, _, el, r, _⟩ => by rw [e, List.length_cons, ← r.length, el]; omega) fun cdv A outer s H vs Q E c ⟨x, dx, H0, φ, ds, h, ws, e, n0, nd, ne, eH, el, r, R, p⟩ => ?_
  subst e eH
  have nx : x ∉ φ := R.notin n0
  have n1 : upd H0 dx (.own x) x = none := by rw [upd_ne (Ne.symm ne)]; exact n0
  have L : Lat φ H0 φ (upd (upd H0 dx (.own x)) x (.ins C dx [])) := (Lat.new nd).trans (Lat.new n1)
  have r2 := RepL.mono L.pre L.per _ _ r
  refine ⟨_, hb _ rfl rfl rfl rfl rfl rfl rfl rfl rfl rfl E c (takes_of rfl rfl rfl rfl) (passes_of rfl), x, dx, [], φ, H0, φ, none :: startD (N.length - 1) ds, h, rfl, n0, L, nx, upd_same, rfl, start_none hN r2, (R.new nd).new n1, ?_⟩
  simp only [mkO] at p
  cases e : fa (none :: startD (N.length - 1) ds) h with
  | bad => simp only [e] at p; exact p
  | ex e1 h' => simp only [e] at p; exact p
  | ok xs h' =>
    simp only [e] at p
    intro φ' H' vs _ l' r' rl hl hx
    obtain ⟨z1, z2⟩ := zip_keys hl
    exact fin_sound R p φ' H' (.ref x) l' r' (.obj hns hx (by rw [List.nil_append, z1]) (by rw [List.nil_append, z2]) rl (by rw [List.nil_append, z1]; exact hf)) rfl
end
section
variable {X : Cx} {cl : Cl} {W : WX} {e : Expr} {es : List Expr} {fa : Av} {pos p : Pos} {k n : Nat} {x : Str} {f C : Addr} {fd : FuncData} {ps : List Str} {d : Fn}
theorem s_mk (M : Mk X.K C f) (F : FnG X.prog X.w X.K X.mg X.base k f fd ps (spO X.K noCl C n d)) (c : Cs (k + 1) X) (tk : Takes X W) (hg : Gl X x) (hm : X.mg x = some (.ref C)) (hb : Binds X.K fd ps []) (hn : (e :: es).length = n)
    (hal : ∀ σ h xs h', fa σ h = .ok xs h' → xs.length = (e :: es).length) (ha : SA X cl W (e :: es) fa) (hdb : (x == ("__debug__" : Str)) = false := by decide)
    (he : starEach (e :: es) X.env = (false, eval e X.env) :: starEach es X.env := by rfl) (hpl : (backTo pos (starEach es X.env)).any (·.1) = false := by rfl) : SE X cl W (.Call (.Name x p) (e :: es) [] pos) (eCall d fa) := PE.of (pe_makeG M F c tk hb hg hm ha hdb he hpl) fun σ H Q p => by
  obtain ⟨φ, st, h0, S, R0, P⟩ := p
  refine ⟨φ, st, h0, S, R0, ?_⟩
  simp only [eCall] at P
  cases e1 : fa st h0 with
  | bad => simp only [e1, Rs.bind] at P; exact P
  | ex ex1 h1 => simp only [e1, Rs.bind] at P; exact P
  | ok xs h1 =>
    simp only [e1, Rs.bind] at P
    intro φ1 H1 vs l1 r1 q1 x dx n1 n2 ne
    have P1 := P.lat l1
    refine ⟨x, dx, H1, φ1, xs, h1, vs, rfl, n1, n2, ne, rfl, by rw [hal st h0 xs h1 e1, hn], q1, r1, ?_⟩
    cases e3 : d xs h1 with
    | bad => simp only [e3] at P1; exact P1
    | ex e4 h4 => simp only [e3] at P1; exact P1
    | ok o h4 =>
      simp only [e3] at P1
      exact fun φ' H' v l r q ev => ⟨rfl, ev ▸ P1 φ' H' v l r q⟩
end
end Y
end

section
set_option Elab.async false
set_option linter.all false
set_option maxRecDepth 100000
set_option maxHeartbeats 2000000
/-! YMx: the classes of the exceptions, from what the top has written. -/
namespace Y
open PySem PySem.Spec PyProof.Rows L2
section
variable {P : Program} {w : World} {K : PySem.W.Frag} {mg : Str → Option Value} {base : Heap} {c qual f g : Str} {C fI : Addr} {fd : FuncData} {st : Stmt} {q1 q2 q3 q4 r1 r2 r3 r4 : Pos}
theorem exc1 (gm : mg c = some (.ref C)) (hns : PySem.W.nsIn K mainGlobals c = some (some (.ref C))) (T : OexC K C) (iC : PySem.W.findIn K (.ref C) "__init__" = some (some (.ref fI))) (tI : PySem.W.typeIn K (.ref fI) = some (.type "function"))
    (F : Fun K "__init__" qual st fI fd) (S : FnScope ["self", f] ["self", f] (defScope st)) (hb : defBody st = [.Assign [.Attribute (.Name "self" q1) f q2] (.Name f q3) q4]) (hno : PySem.W.findIn K (.ref C) f = some none) (b : Binds K fd ["self", f] [])
    (v1 : (defScope st).names.lookup ("self" : Str) = some .local) (v2 : (defScope st).names.lookup f = some .local) (h1 : (f == ("__debug__" : Str)) = false) (h2 : (f == ("__classdict__" : Str)) = false)
    (hs : ∀ env : Env, swapsWith (.Name f q3) (some (.Attribute (.Name "self" q1) f q2)) q4.line env = pure false) : Exc P w K mg base c [f] := by
  refine ⟨C, fI, fd, gm, hns, T, iC, tI, ?_, b⟩
  obtain ⟨oc, od, kV, doc, pm, an, cdv, ct, osl, rfl, lk, hcd⟩ := F.ex
  refine fn_of lk hcd S (fun vs H Q E ⟨a, ws, e, l, _⟩ => by rw [e]; simp [l]) fun A outer s H vs Q E hr ⟨a, ws, e, l, ha, hq⟩ => ?_
  obtain ⟨x, rfl⟩ : ∃ x, ws = [x] := by
    match ws, l with
    | [x], _ => exact ⟨x, rfl⟩
  subst e
  refine ⟨_, by rw [hb]; exact pss_one (ps_ost (pe_var (i := 0) rfl (.inl v1) (by decide) (by decide)) (pe_var (i := 1) rfl (.inl v2) h1 h2) (hs _)), ?_⟩
  refine ⟨x, rfl, .ref a, rfl, a, C, rfl, T, hno, .inl ⟨ha, fun dx n ne => ?_⟩⟩
  refine hq dx _ n ne upd_same (by rw [upd_ne ne, upd_same]; rfl) fun b n1 n2 => ?_
  rw [upd_ne n1, upd_ne n2]
theorem exc2 (gm : mg c = some (.ref C)) (hns : PySem.W.nsIn K mainGlobals c = some (some (.ref C))) (T : OexC K C) (iC : PySem.W.findIn K (.ref C) "__init__" = some (some (.ref fI))) (tI : PySem.W.typeIn K (.ref fI) = some (.type "function"))
    (F : Fun K "__init__" qual st fI fd) (S : FnScope ["self", f, g] ["self", f, g] (defScope st))
    (hb : defBody st = [.Assign [.Attribute (.Name "self" q1) f q2] (.Name f q3) q4, .Assign [.Attribute (.Name "self" r1) g r2] (.Name g r3) r4]) (hno : PySem.W.findIn K (.ref C) f = some none) (hno2 : PySem.W.findIn K (.ref C) g = some none) (b : Binds K fd ["self", f, g] [])
    (v1 : (defScope st).names.lookup ("self" : Str) = some .local) (v2 : (defScope st).names.lookup f = some .local) (v3 : (defScope st).names.lookup g = some .local) (h1 : (f == ("__debug__" : Str)) = false) (h2 : (f == ("__classdict__" : Str)) = false) (h3 : (g == ("__debug__" : Str)) = false) (h4 : (g == ("__classdict__" : Str)) = false)
    (hs : ∀ env : Env, swapsWith (.Name f q3) (some (.Attribute (.Name "self" q1) f q2)) q4.line env = pure false) (hs2 : ∀ env : Env, swapsWith (.Name g r3) (some (.Attribute (.Name "self" r1) g r2)) r4.line env = pure false) : Exc P w K mg base c [f, g] := by
  refine ⟨C, fI, fd, gm, hns, T, iC, tI, ?_, b⟩
  obtain ⟨oc, od, kV, doc, pm, an, cdv, ct, osl, rfl, lk, hcd⟩ := F.ex
  refine fn_of lk hcd S (fun vs H Q E ⟨a, ws, e, l, _⟩ => by rw [e]; simp [l]) fun A outer s H vs Q E hr ⟨a, ws, e, l, ha, hq⟩ => ?_
  obtain ⟨x, y, rfl⟩ : ∃ x y, ws = [x, y] := by
    match ws, l with
    | [x, y], _ => exact ⟨x, y, rfl⟩
  subst e
  refine ⟨_, by rw [hb]; exact pss_cons (ps_ost (pe_var (i := 0) rfl (.inl v1) (by decide) (by decide)) (pe_var (i := 1) rfl (.inl v2) h1 h2) (hs _)) (pss_one (ps_ost (pe_var (i := 0) rfl (.inl v1) (by decide) (by decide)) (pe_var (i := 2) rfl (.inl v3) h3 h4) (hs2 _))), ?_⟩
  refine ⟨x, rfl, .ref a, rfl, a, C, rfl, T, hno, .inl ⟨ha, fun dx n ne => ?_⟩⟩
  refine ⟨y, rfl, .ref a, rfl, a, C, rfl, T, hno2, .inr ⟨dx, [(f, x)], upd_same, by rw [upd_ne ne, upd_same], by simp, ?_⟩⟩
  refine hq dx _ n ne (by rw [upd_ne (Ne.symm ne), upd_same]) upd_same fun b n1 n2 => ?_
  rw [upd_ne n2, upd_ne n1, upd_ne n2]
end
end Y
end

section
set_option Elab.async false
set_option linter.all false
set_option maxRecDepth 100000
set_option maxHeartbeats 2000000
/-! YMt: try .. except C as e: .. -/
namespace Y
open PySem PySem.Spec PyProof.Rows L2

abbrev XFs := List (Str × D)
/-- an expression of the caught exception's fields -/
abbrev Xv := XFs → Hm → Rs D
abbrev XAv := XFs → Hm → Rs (List D)
abbrev XSv := XFs → Sv
def xC (d : D) : Xv := fun _ h => .ok d h
def xF (n : Str) : Xv := fun fs h => ofO (fs.lookup n) h
def x2 (o : Hm → D → D → Option D) (f g : Xv) : Xv := fun fs h => (f fs h).bind fun x h1 => (g fs h1).bind fun y h2 => ofO (o h2 x y) h2
def xN : XAv := fun _ h => .ok [] h
def xA (f : Xv) (g : XAv) : XAv := fun fs h => (f fs h).bind fun x h1 => (g fs h1).bind fun xs h2 => .ok (x :: xs) h2
def xTup (a : XAv) : Xv := fun fs h => (a fs h).bind fun xs h1 => if xs.length ≤ line then .ok (.tup xs) h1 else .bad
def xB (o : Hm → List D → Option D) (a : XAv) : Xv := fun fs h => (a fs h).bind fun xs h1 => ofO (o h1 xs) h1
/-- name = e -/
def sXA (j : Nat) (g : Xv) : XSv := fun fs σ h => match g fs h with | .ok d h1 => .nx (σ.set j (some d)) h1 | _ => .bad
def sXR (g : Xv) : XSv := fun fs _ h => match g fs h with | .ok d h1 => .rt d h1 | _ => .bad
/-- the suite of a clause with a name: the name goes -/
def hNm (i : Nat) (f : XSv) : XSv := fun fs σ h => match f fs (σ.set i none) h with
  | .nx σ1 h1 => .nx (σ1.set i none) h1
  | .rt d h1 => .rt d h1
  | _ => .bad
/-- the suite of a clause without a name -/
def hPl (f : Sv) : XSv := fun _ σ h => match f σ h with
  | .nx σ1 h1 => .nx σ1 h1
  | .rt d h1 => .rt d h1
  | _ => .bad
def handle (errs : List Str) : List (Str × XSv) → Exn → Sv
  | [], e, σ, h => .ex e σ h
  | (c, s) :: r, e, σ, h => if e.cls ∈ errs ∧ c ∈ errs then (if c = "LineError" ∨ e.cls = c then s e.fs σ h else handle errs r e σ h) else .bad
def sTry (errs : List Str) (b : Sv) (hs : List (Str × XSv)) : Sv := fun σ h => match b σ h with
  | .ex e σ1 h1 => handle errs hs e σ1 h1
  | o => o
/-- what is known of the classes -/
def ErrsOk (K : PySem.W.Frag) (errs : List Str) : Prop := ∀ c ∈ errs, ∀ d ∈ errs, ∃ C E, PySem.W.nsIn K mainGlobals c = some (some (.ref C)) ∧ PySem.W.nsIn K mainGlobals d = some (some (.ref E)) ∧ PySem.W.exmOne K (.ref C) (.ref E) = some (decide (d = "LineError" ∨ c = d))

section
variable {K : PySem.W.Frag} {φ φ' : List Addr} {H H' : Hp} {st : Sl} {σ : L2.St} {cl : Cl}
theorem SR.hide (x : SR K cl φ H st σ) (i : Nat) (o : Option V) (hi : cl i = none) : SR K cl φ H (st.set i none) (σ.set i o) := by
  refine ⟨by simp [x.len], fun j p e => ⟨(x.fn j p e).1, fun q => ?_⟩, fun j c e => ?_⟩
  · by_cases hj : j = i
    · subst hj
      rw [hi] at e; cases e
    · rw [List.getElem?_set_ne (Ne.symm hj)] at q ⊢
      exact (x.fn j p e).2 q
  by_cases hj : j = i
  · subst hj
    have lt : j < st.length := by
      have := (List.getElem?_eq_some_iff.mp e).1
      simpa using this
    rw [List.getElem?_set_self lt] at e
    cases e
  · rw [List.getElem?_set_ne (Ne.symm hj)] at e
    rw [List.getElem?_set_ne (Ne.symm hj)]
    exact x.get j c e
/-- the caught exception, in slot i -/
structure XR (K : PySem.W.Frag) (i : Nat) (a : Addr) (d : Option Addr) (φ : List Addr) (H : Hp) (fs : XFs) (σ : L2.St) : Prop where
  sl : σ[i]? = some (some (.ref a))
  fl : (fs = [] ∧ d = none) ∨ ∃ dd gs, d = some dd ∧ dd ∉ φ ∧ H dd = some (.xd gs) ∧ RepF K φ H fs gs
theorem RepF.mono {fs : XFs} {gs : List (Str × V)} (p : φ <+: φ') (q : Per H H') (r : RepF K φ H fs gs) : RepF K φ' H' fs gs := Paired.mapP r fun _ _ z => ⟨z.1, Rep.mono p q _ _ z.2⟩
theorem RepF.get {fs : XFs} {gs : List (Str × V)} {n : Str} {d : D} (r : RepF K φ H fs gs) (e : fs.lookup n = some d) : ∃ v, gs.lookup n = some v ∧ Rep K φ H d v := by
  induction r with
  | nil => simp at e
  | @cons p q a b h _ ih =>
    obtain ⟨m, x⟩ := p
    obtain ⟨m', y⟩ := q
    obtain ⟨h1, h2⟩ := h
    simp only at h1 h2
    subst h1
    simp only [List.lookup_cons] at e ⊢
    cases hm : (n == m) with
    | true =>
      rw [hm] at e
      simp only at e
      cases e
      exact ⟨y, rfl, h2⟩
    | false =>
      rw [hm] at e
      exact ih e
theorem XR.mono {i : Nat} {a : Addr} {d : Option Addr} {fs : XFs} (x : XR K i a d φ H fs σ) (l : Lat φ H φ' H') : XR K i a d φ' H' fs σ := by
  obtain ⟨sl, z | ⟨dd, gs, ed, nd, eH, r⟩⟩ := x
  · exact ⟨sl, .inl z⟩
  · exact ⟨sl, .inr ⟨dd, gs, ed, l.out eH nd, l.keep dd _ eH nd, r.mono l.pre l.per⟩⟩
def tX {α β : Type} (K : PySem.W.Frag) (i : Nat) (a : Addr) (d : Option Addr) (Rel : RT α β) (f : XFs → Hm → Rs α) : L2.St → Hp → (β → Hp → Prop) → Prop := fun σ H Q =>
  ∃ φ h fs, XR K i a d φ H fs σ ∧ HR K φ H h ∧ Post K noCl φ H Rel (f fs h) Q fun _ _ _ => False
def tXs (K : PySem.W.Frag) (cl : Cl) (i : Nat) (a : Addr) (d : Option Addr) (f : XSv) : TS := fun D σ H => ∃ φ st h fs, SR K cl φ H st σ ∧ XR K i a d φ H fs σ ∧ HR K φ H h ∧ match f fs st h with
  | .nx σ1 h' => ∀ φ' H' τ, Lat φ H φ' H' → HR K φ' H' h' → SR K cl φ' H' σ1 τ → D.nx τ H'
  | .rt x h' => ∀ φ' H' v, Lat φ H φ' H' → HR K φ' H' h' → Rep K φ' H' x v → D.rt v H'
  | _ => False
end
section
variable {X : Cx} {a : Addr} {oe : Obj} {cls : Value} {d : Option Addr} {i j : Nat} {e e' : Expr} {es : List Expr} {f g : Xv} {fa : XAv} {pos p p1 p2 : Pos} {n x fn : Str} {C : Addr}
theorem x_seq1 {α β γ δ : Type} {R1 : RT γ δ} {f : XFs → Hm → Rs γ} {σ : L2.St} {H : Hp} {Q : β → Hp → Prop} {Rel : RT α β} [Back Rel] {k : γ → Hm → Rs α} {R : δ → Hp → Prop}
    (p : tX X.K i a d Rel (fun fs h => (f fs h).bind fun x h1 => k x h1) σ H Q)
    (h : ∀ φ H1 h1 x v, HR X.K φ H1 h1 → R1 H φ H1 x v → Post X.K noCl φ H1 Rel (k x h1) Q (fun _ _ _ => False) → R v H1) : tX X.K i a d R1 f σ H R := by
  obtain ⟨φ, h0, fs, S, R0, P⟩ := p
  exact ⟨φ, h0, fs, S, R0, P.seq fun x h1 φ1 H1 v l1 r1 q1 P1 => h φ1 H1 h1 x v r1 q1 P1⟩
theorem x_fld (T : XfC X.K C) (hno : PySem.W.findIn X.K (.ref C) n = some none) {pn : List (Addr × Obj)} (hz : Zc cls d oe) (hf : ∃ vs, oe.data = .fields vs) (hcls : cls = .ref C) (hN : X.N[i]? = some x)
    (hv : Vis X.env.scope x := by first | exact Or.inl rfl | exact Or.inr (Or.inl rfl) | exact Or.inr (Or.inr rfl)) (hd : (x == ("__debug__" : Str)) = false := by decide) (hcd : (x == ("__classdict__" : Str)) = false := by decide)
    (hb : attributeBase (.Name x p) n X.env (eval (.Name x p) X.env) = eval (.Name x p) X.env := by rfl) : PE (X.suite a ((a, oe) :: pn)) (.Attribute (.Name x p) n pos) (tX X.K i a d (RR X.K) (xF n)) :=
  PE.of (pe_xf T hno hz hf (pe_var (X := X.suite a ((a, oe) :: pn)) hN hv hd hcd) hb) fun σ H Q ⟨φ, h, fs, ⟨sl, hfl⟩, R, P⟩ => by
    simp only [xF] at P
    rcases hfl with ⟨rfl, _⟩ | ⟨dd, gs, ed, nd, eH, r⟩
    · exact P.elim
    cases e : fs.lookup n with
    | none => rw [e] at P; exact P.elim
    | some z =>
      rw [e] at P
      obtain ⟨v, h1, h2⟩ := r.get e
      exact ⟨_, sl, rfl, hcls, dd, gs, v, ed, eH, h1, P.val R h2⟩
theorem x_c {X : Cx} {i : Nat} {z : D} {v : V} (h : PE X e (L2.tC v)) (r : ∀ φ H, Rep X.K φ H z v) : PE X e (tX X.K i a d (RR X.K) (xC z)) := PE.of h fun σ H Q ⟨φ, h0, fs, S, R, P⟩ => P.val R (r φ H)
theorem x_int {k q} : PE X (.Constant (.int k) q pos) (tX X.K i a d (RR X.K) (xC (.int k))) := x_c pe_int fun _ _ => .int k
theorem x_str {k q} : PE X (.Constant (.str k) q pos) (tX X.K i a d (RR X.K) (xC (.str k))) := x_c pe_str fun _ _ => .str k
theorem x_op {op : Operator} {o : Hm → D → D → Option D} (ho : OpY X (binaryOp op) o) (ha : PE X e (tX X.K i a d (RR X.K) f)) (hb : PE X e' (tX X.K i a d (RR X.K) g)) : PE X (.BinOp e op e' pos) (tX X.K i a d (RR X.K) (x2 o f g)) := by
  refine ⟨fun pins s σ H Q I ⟨φ, h0, fs, S, R0, P⟩ => ?_⟩
  have z : tX X.K i a d (RR X.K) f σ H fun v H1 => tX X.K i a d (RR X.K) g σ H1 fun u H2 => ∃ φ h x y, HR X.K φ H2 h ∧ Rep X.K φ H2 x v ∧ Rep X.K φ H2 y u ∧ Post X.K noCl φ H2 (RR X.K) (ofO (o h x y) h) Q fun _ _ _ => False :=
    ⟨φ, h0, fs, S, R0, P.seq fun x h1 φ1 H1 v l1 r1 q1 P1 => ⟨φ1, h1, fs, S.mono l1, r1, P1.seq fun y h2 φ2 H2 u l2 r2 q2 P2 => ⟨φ2, h2, x, y, r2, Rep.mono l2.pre l2.per _ _ q1, q2, P2⟩⟩⟩
  refine wpAny_BinOp (bin ha hb I z fun v u s2 x y H2 I2 rx ry ⟨φ, h, dx, dy, r, q1, q2, P⟩ => ?_)
  exact ho _ _ Q φ H2 h dx dy x y pins s2 σ v u I2 rx ry r q1 q2 P
theorem x_nil : PA X [] (tX X.K i a d (RL X.K) xN) := PA.of pa_nil fun σ H Q ⟨φ, h, fs, S, R, P⟩ => P.val R .nil
theorem x_cons (h1 : PE X e (tX X.K i a d (RR X.K) f)) (h2 : PA X es (tX X.K i a d (RL X.K) fa)) (hs : starEach (e :: es) X.env = (false, eval e X.env) :: starEach es X.env := by rfl) : PA X (e :: es) (tX X.K i a d (RL X.K) (xA f fa)) := by
  refine PA.of (pa_cons h1 h2 hs) fun σ H Q ⟨φ, h, fs, S, R, P⟩ => ?_
  exact ⟨φ, h, fs, S, R, P.seq fun x h1 φ1 H1 v l1 r1 q1 P1 => ⟨φ1, h1, fs, S.mono l1, r1, P1.seq fun xs h2 φ2 H2 vs l2 r2 q2 P2 => P2.val r2 (.cons (Rep.mono l2.pre l2.per _ _ q1) q2)⟩⟩
theorem x_tup {x1} (h : PA X es (tX X.K i a d (RL X.K) fa)) : PE X (.Tuple es x1 pos) (tX X.K i a d (RR X.K) (xTup fa)) := PE.of (pe_tup h) fun σ H Q p =>
  x_seq1 (k := fun xs h1 => if xs.length ≤ line then Rs.ok (D.tup xs) h1 else .bad) p fun φ H1 h1 xs vs r q P => by
    split at P
    · rename_i hz
      refine ⟨by rw [← q.length, ← line_eq]; exact hz, fun p hp => P φ _ _ (Lat.new hp) (r.new hp) (.tup upd_same (RepL.mono (List.prefix_refl _) (Per.new hp) _ _ q))⟩
    · exact P.elim
theorem x_b {id : String} {o : Hm → List D → Option D} (hc : CaY X (.builtin id) o) (hv : bootBuiltins x = some (.builtin id)) (hm : X.mg x = none) (hg : Gl X x) (ha : PA X (e :: es) (tX X.K i a d (RL X.K) fa)) (hn : x ≠ "__name__" := by decide) (hdb : (x == ("__debug__" : Str)) = false := by decide)
    (he : starEach (e :: es) X.env = (false, eval e X.env) :: starEach es X.env := by rfl) (hpl : (backTo pos (starEach es X.env)).any (·.1) = false := by rfl) : PE X (.Call (.Name x p) (e :: es) [] pos) (tX X.K i a d (RR X.K) (xB o fa)) :=
  PE.of (pe_callB hc hg hm hv ha hn hdb he hpl) fun σ H Q p => x_seq1 (k := fun xs h1 => ofO (o h1 xs) h1) p fun φ H1 h1 xs vs r q P => ⟨_, _, φ, h1, xs, r, q, P⟩
theorem xs_asg {tg : Expr} (h : PE X e (tX X.K i a d (RR X.K) f)) (hg : SG X cl tg (gN j) [j]) (hs : swapsWithSole [tg] e pos.line X.env = pure false := by rfl) (hw : swappedStores [tg] e X.env = pure none := by rfl) (h1 : (assignEach [tg] X.env).map (·.2) = [assign tg X.env] := by rfl) :
    PSs X [.Assign [tg] e pos] (tXs X.K cl i a d (sXA j f)) := pss_one (PS.of (ps_asg h hg hs hw h1) fun D σ H ⟨φ, st, h, fs, S, xr, R, P⟩ => by
  refine ⟨φ, h, fs, xr, R, ?_⟩
  simp only [sXA] at P
  cases e1 : f fs h with
  | bad => simp only [e1] at P
  | ex _ _ => simp only [e1] at P
  | ok z h1 =>
    simp only [e1] at P
    exact fun φ1 H1 v l1 r1 q1 => ⟨φ1, st, z, _, S.mono l1, q1, rfl, fun τ S' _ => P φ1 H1 τ l1 r1 S'⟩)
theorem xs_ret (h : PE X e (tX X.K i a d (RR X.K) f)) : PSs X [.Return (some e) pos] (tXs X.K cl i a d (sXR f)) := pss_one (PS.of (ps_ret h) fun D σ H ⟨φ, st, h, fs, S, xr, R, P⟩ => by
  refine ⟨φ, h, fs, xr, R, ?_⟩
  simp only [sXR] at P
  cases e1 : f fs h with
  | bad => simp only [e1] at P
  | ex _ _ => simp only [e1] at P
  | ok z h1 =>
    simp only [e1] at P
    exact fun φ1 H1 v l1 r1 q1 => P φ1 H1 v l1 r1 q1)
end
/-- the clauses -/
inductive Cla (X : Cx) (cl : Cl) : List ExceptHandler → List (Str × XSv) → Prop
  | nil : Cla X cl [] []
  | nm {c n : Str} {i : Nat} {C : Addr} {f : XSv} {s1 : Stmt} {rest : List Stmt} {np hp : Pos} {hds : List ExceptHandler} {l : List (Str × XSv)} (hc : Names X c (.ref C)) (hns : PySem.W.nsIn X.K mainGlobals c = some (some (.ref C))) (hl : c ≠ "LineError") (hi : X.N[i]? = some n) (hln : X.env.kindOf n = some .local) (hcl : cl i = none)
      (hsu : ∀ (a : Addr) (oe : Obj) (cls : Value) (d : Option Addr) (pn : List (Addr × Obj)), Zc cls d oe → (∃ vs, oe.data = .fields vs) → cls = .ref C → PSs (X.suite a ((a, oe) :: pn)) (s1 :: rest) (tXs X.K cl i a d f)) (r : Cla X cl hds l) :
      Cla X cl (.ExceptHandler (some (.Name c np)) (some n) (s1 :: rest) hp :: hds) ((c, hNm i f) :: l)
  | pl {c : Str} {C : Addr} {f : Sv} {s1 : Stmt} {rest : List Stmt} {np hp : Pos} {hds : List ExceptHandler} {l : List (Str × XSv)} (hc : Names X c (.ref C)) (hns : PySem.W.nsIn X.K mainGlobals c = some (some (.ref C)))
      (hsu : ∀ (a : Addr) (oe : Obj) (pn : List (Addr × Obj)), SSs (X.suite a ((a, oe) :: pn)) cl W0 (s1 :: rest) f) (r : Cla X cl hds l) :
      Cla X cl (.ExceptHandler (some (.Name c np)) none (s1 :: rest) hp :: hds) ((c, hPl f) :: l)
end Y
end

section
set_option Elab.async false
set_option linter.all false
set_option maxRecDepth 100000
set_option maxHeartbeats 2000000
/-! YMu: the rule of try .. except. -/
namespace Y
open PySem PySem.Spec PyProof.Rows L2
/-- what the clauses wish of an exception of the body -/
def wY (K : PySem.W.Frag) (cl : Cl) (errs : List Str) (l : List (Str × XSv)) (D : Ends) (W : WX) : WX := fun cls d σ H => ∃ φ st h e, SR K cl φ H st σ ∧ HR K φ H h ∧ ER K cl φ H e cls d ∧ PostS K cl φ H (handle errs l e st h) D W
section
variable {X : Cx} {cl : Cl} {W : WX} {body : List Stmt} {c0 : ExceptHandler} {cs : List ExceptHandler} {l : List (Str × XSv)} {b : Sv} {errs : List Str} {pos : Pos}
theorem xd_out {K : PySem.W.Frag} {φ : List Addr} {H : Hp} {h : Hm} {dd : Addr} {gs : List (Str × V)} (R : HR K φ H h) (e : H dd = some (.xd gs)) : dd ∉ φ := fun m => by
  obtain ⟨k, z⟩ := List.getElem?_of_mem m
  obtain ⟨o, _, q⟩ := R.at z
  cases q with
  | lst h _ => rw [e] at h; cases h
  | dct h _ => rw [e] at h; cases h
  | dtu h _ => rw [e] at h; cases h
theorem s_try (hk : X.stack = X.env :: X.outer) (hL : X.env.frame = some X.env.locals) (nd : X.N.Nodup) (T : ErrsOk X.K errs) (tk : Takes X W)
    (hb : ∀ (W' : WX) (pn : List (Addr × Obj)) (xe : Value → Shared → Prop), Takes (X.tr pn xe) W' → PassesOwn (model X.prog X.w) X.A X.env xe → SSs (X.tr pn xe) cl W' body b)
    (hh : Cla X cl (c0 :: cs) l) : SS X cl W (.Try body (c0 :: cs) [] [] pos) (sTry errs b l) := by
  refine ⟨fun pins sa σa Ha D I0 ⟨φ0, st0, hm0, S0, R0, P0⟩ => ?_⟩
  have okX := I0.ok
  have fr0 : X.A.frames = some (X.env :: X.outer) := by rw [okX.frames]; rw [hk]
  have start : tSt X.K cl (wY X.K cl errs l D W) b D σa Ha := by
    refine ⟨φ0, st0, hm0, S0, R0, ?_⟩
    simp only [sTry] at P0
    cases e : b st0 hm0 with
    | ex e1 σ1 h1 =>
      simp only [e] at P0
      exact fun φ' H' c d τ l r s er => ⟨φ', σ1, h1, e1, s, r, er, P0.lat l⟩
    | _ => simp only [e] at P0; exact P0
  refine wpAny_Try_except (wpAny_mono ((hb _ (X.pn ++ pins) (fun ev t1 => wpAny (model X.prog X.w) X.A (noteFrame ev X.env) (fun _ t2 => wpAny (model X.prog X.w) X.A (setFlight ev none)
    (fun _ t3 => wpAny (model X.prog X.w) X.A (handleBy ev X.env (c0 :: cs)) (SP X pins D) X.xe t3) X.xe t2) X.xe t1) (fun ev t0 air => ?_) PassesOwn.looking).run [] sa σa Ha D (I0.toTry _) start) (fun fl t1 out => ?_) fun _ _ q => q)
  · -- what flies is caught
    obtain ⟨ea, G, tI, pins1, σ1, H1, kc, dO, rfl, J1, keepG, up1, sky, fresh, os1, bare1, w⟩ := air
    have JX : Inv X pins σ1 H1 tI := J1.ofTry okX
    rw [show (X.tr (X.pn ++ pins) _).stack = X.env :: X.outer from hk] at sky
    change wpAny _ X.A (noteFrame (.ref ea) X.env) _ _ t0
    refine Sky.land Zc.steady fr0 hL sky fun hp fly up2 => ?_
    have JL : Inv X pins σ1 H1 { t0 with heap := hp } := JX.landed keepG fly.1 (up1.trans up2) os1 bare1
    obtain ⟨ox, vx, gx, zx, dx⟩ := fly.there
    have apart : ∀ {q : Heap} {o : Obj} {v : Array Value}, q.FunFrames G (X.env :: X.outer) → q.get? ea = some o → o.data = .fields v → ea ∉ frs (X.env :: X.outer) := by
      intro q o v ff g dd hm
      obtain ⟨_, o2, g2, nf⟩ := ff.mem hm
      rw [g] at g2
      cases g2
      exact nf _ dd
    have a0 := apart fly.2.2.1 gx dx
    have aL : ea ≠ X.env.locals := by
      intro z
      exact a0 (List.mem_filterMap.mpr ⟨X.env, by simp, by rw [hL, z]⟩)
    have aF : ea ∉ X.fs := by
      intro hm
      obtain ⟨en, hen, q⟩ := List.mem_filterMap.mp hm
      exact a0 (List.mem_filterMap.mpr ⟨en, by simp [hen], q⟩)
    have JS := JL.suite gx dx fresh aL aF
    have each : ∀ {ks : List ExceptHandler} {m : List (Str × XSv)}, Cla X cl ks m → wY X.K cl errs m D W kc dO σ1 H1 → wpAny (model X.prog X.w) X.A (handleBy (.ref ea) X.env ks) (SP X pins D) X.xe { t0 with heap := hp } := by
      intro ks m hks
      have classTest : ∀ {c : Str} {C : Addr} {np : Pos}, Names X c (.ref C) → ∀ {Q : Value → Shared → Prop} {E : Value → Shared → Prop}, Q (.ref C) { t0 with heap := hp } → wpAny (model X.prog X.w) (X.A.mark (some (.ref ea))) (eval (.Name c np) X.env) Q E { t0 with heap := hp } := by
        intro c C np hc Q E q
        obtain ⟨hg, hdb, hm | ⟨hm, hv, hn⟩⟩ := hc
        · exact ld_glob (X := X.suite ea ((ea, ox) :: (X.pn ++ pins))) JS hg hm q hdb
        · exact ld_blt (X := X.suite ea ((ea, ox) :: (X.pn ++ pins))) JS hg hm hv q hn hdb
      have looksT : PySem.W.Looks (model X.prog X.w) hp (typeOf (.ref ea)) kc := fun A Q E s k q => wpAny_typeOf_ref (k _ _ gx) (by rw [zx.1]; exact q)
      have known : ∀ {e : Exn} {φ : List Addr} {c : Str} {C : Addr}, ER X.K cl φ H1 e kc dO → e.cls ∈ errs → c ∈ errs → PySem.W.nsIn X.K mainGlobals c = some (some (.ref C)) →
          PySem.W.exmOne X.K kc (.ref C) = some (decide (c = "LineError" ∨ e.cls = c)) ∧ (e.cls = c → kc = .ref C) := by
        intro e φ c C er m1 m2 hc
        obtain ⟨⟨C1, rfl, n1⟩, _⟩ := er
        obtain ⟨C2, C3, n2, n3, x⟩ := T _ m1 _ m2
        rw [n1] at n2
        cases n2
        rw [hc] at n3
        cases n3
        refine ⟨x, fun z => ?_⟩
        rw [z, hc] at n1
        cases n1
        rfl
      induction hks with
      | nil =>
        rintro ⟨φ, st, hm, e, S, R, er, P⟩
        refine wpAny_handleBy_nil ?_
        obtain ⟨g1, g2, g3, oq, vq, T1, oT, tq, gq, zq, dq, f1, rq⟩ := id fly
        unfold PySem.passOn
        refine wpAny_bind (wpAny_field gq dq f1 ?_)
        rw [if_neg (show ¬ ((Value.ref T1 == Value.none) = true) by simp)]
        have last : wpAny (model X.prog X.w) X.A (setFlight (.ref ea) X.env.frame) (fun _ t4 => wpAny (model X.prog X.w) X.A (throw (.ref ea) : Sem Flow) (SP X pins D) X.xe t4) X.xe { t0 with heap := hp } := by
          rw [hL]
          refine HandSPX.setFlight_upZ fly fun h4 held up4 => wpAny_throw (tk _ _ ⟨ea, G, tI, pins, σ1, H1, kc, dO, rfl, JX, keepG, (up1.trans up2).trans up4, .inr (.inr (by rw [hk]; exact held)), fresh, os1, bare1, ?_⟩)
          exact P φ H1 kc dO σ1 (Lat.refl _ _) R S er
        first
          | exact wpAny_bind (wpAny_pure (wpAny_bind last))
          | exact wpAny_bind last
      | @nm c n i C f s1 rest np hp' hds m2 hc hns hne hi hln hcl hsu r ih =>
        rintro ⟨φ, st, hm, e, S, R, er, P⟩
        simp only [handle] at P
        split at P
        · rename_i hm2
          obtain ⟨x1, x2⟩ := known er hm2.1 hm2.2 hns
          refine wpAny_handleBy_cons (codeAny_handlers_test (classTest hc ?_)) (by intro q; cases q)
          refine (PySem.W.exm_one (M := model X.prog X.w) JL.kIn looksT x1).here ?_
          by_cases hcc : c = "LineError" ∨ e.cls = c
          · rw [decide_eq_true hcc]
            rw [if_pos hcc] at P
            have eC := x2 (hcc.resolve_left hne)
            refine codeAny_handlers_suite_as (HandSPX.lands_againZ fly fun h4 fly4 up4 => ?_)
            have J4 : Inv X pins σ1 H1 { t0 with heap := h4 } := JX.landed keepG fly4.1 ((up1.trans up2).trans up4) os1 bare1
            obtain ⟨o4, v4, g4, z4, d4⟩ := fly4.there
            refine store_ok (X := X.suite ea ((ea, o4) :: (X.pn ++ pins))) (v := .ref ea) (J4.suite g4 d4 fresh aL aF) nd hi (.inl hln) rfl (fun t5 J5 => ?_) (.inr hln)
            have lt : i < σ1.length := by rw [← S.len, S.len, JX.len]; exact (List.getElem?_eq_some_iff.mp hi).1
            have xr : XR X.K i ea dO φ H1 e.fs (σ1.set i (some (.ref ea))) := by
              refine ⟨List.getElem?_set_self lt, ?_⟩
              rcases er.2 with z | ⟨dd, gs, z1, z2, z3⟩
              · exact .inl z
              · exact .inr ⟨dd, gs, z1, xd_out R z2, z2, z3⟩
            have go : tXs X.K cl i ea dO f { nx := fun σ' H' => D.nx (σ'.set i none) H', rt := D.rt, bk := fun σ' H' => D.bk (σ'.set i none) H', ct := fun σ' H' => D.ct (σ'.set i none) H' } (σ1.set i (some (.ref ea))) H1 := by
              refine ⟨φ, st.set i none, hm, e.fs, S.hide i _ hcl, xr, R, ?_⟩
              simp only [hNm] at P
              cases q : f e.fs (st.set i none) hm with
              | nx σ2 h2 => simp only [q] at P; exact fun φ' H' τ l r s => P φ' H' _ l r (s.off i hcl)
              | rt z h2 => simp only [q] at P; exact P
              | _ => simp only [q] at P; exact P
            refine wpAny_mono ((hsu ea o4 kc dO (X.pn ++ pins) z4 ⟨_, d4⟩ eC).run [] t5 _ H1 _ J5 go) (fun fl t6 out => ?_) fun _ _ q => q.elim
            have fin : ∀ {σ6 : L2.St} {H6 : Hp} {Q : Shared → Prop}, Inv (X.suite ea ((ea, o4) :: (X.pn ++ pins))) [] σ6 H6 t6 → (∀ t7, Inv X pins (σ6.set i none) H6 t7 → Q t7) →
                wpAny (model X.prog X.w) X.A (do bindName X.env n .none; unbindBehindTheSuite X.env n hp') (fun _ t7 => Q t7) X.xe t6 := fun J6 hq => gone_ok (J6.unsuite okX) nd hi hln hq
            cases fl with
            | next => obtain ⟨σ6, H6, J6, q6⟩ := out; exact fin J6 fun _ J7 => ⟨_, _, J7, q6⟩
            | brk => obtain ⟨σ6, H6, J6, q6⟩ := out; exact fin J6 fun _ J7 => ⟨_, _, J7, q6⟩
            | cont => obtain ⟨σ6, H6, J6, q6⟩ := out; exact fin J6 fun _ J7 => ⟨_, _, J7, q6⟩
            | ret u => obtain ⟨v6, σ6, H6, J6, r6, q6⟩ := out; exact fin J6 fun _ J7 => ⟨_, _, _, J7, r6, q6⟩
          · rw [decide_eq_false hcc]
            rw [if_neg hcc] at P
            exact ih ⟨φ, st, hm, e, S, R, er, P⟩
        · exact P.elim
      | @pl c C f s1 rest np hp' hds m2 hc hns hsu r ih =>
        rintro ⟨φ, st, hm, e, S, R, er, P⟩
        simp only [handle] at P
        split at P
        · rename_i hm2
          obtain ⟨x1, x2⟩ := known er hm2.1 hm2.2 hns
          refine wpAny_handleBy_cons (codeAny_handlers_test (classTest hc ?_)) (by intro q; cases q)
          refine (PySem.W.exm_one (M := model X.prog X.w) JL.kIn looksT x1).here ?_
          by_cases hcc : c = "LineError" ∨ e.cls = c
          · rw [decide_eq_true hcc]
            rw [if_pos hcc] at P
            refine codeAny_handlers_suite (HandSPX.lands_againZ fly fun h4 fly4 up4 => ?_)
            have J4 : Inv X pins σ1 H1 { t0 with heap := h4 } := JX.landed keepG fly4.1 ((up1.trans up2).trans up4) os1 bare1
            obtain ⟨o4, v4, g4, z4, d4⟩ := fly4.there
            have go : tSt X.K cl W0 f D σ1 H1 := by
              refine ⟨φ, st, hm, S, R, ?_⟩
              simp only [hPl] at P
              cases q : f st hm with
              | nx σ2 h2 => simp only [q] at P; exact P
              | rt z h2 => simp only [q] at P; exact P
              | _ => simp only [q] at P; exact P.elim
            refine wpAny_mono ((hsu ea o4 (X.pn ++ pins)).run [] _ σ1 H1 _ (J4.suite g4 d4 fresh aL aF) go) (fun fl t6 out => ?_) fun _ _ q => q.elim
            cases fl with
            | next => obtain ⟨σ6, H6, J6, q6⟩ := out; exact ⟨_, _, J6.unsuite okX, q6⟩
            | brk => obtain ⟨σ6, H6, J6, q6⟩ := out; exact ⟨_, _, J6.unsuite okX, q6⟩
            | cont => obtain ⟨σ6, H6, J6, q6⟩ := out; exact ⟨_, _, J6.unsuite okX, q6⟩
            | ret u => obtain ⟨v6, σ6, H6, J6, r6, q6⟩ := out; exact ⟨_, _, _, J6.unsuite okX, r6, q6⟩
          · rw [decide_eq_false hcc]
            rw [if_neg hcc] at P
            exact ih ⟨φ, st, hm, e, S, R, er, P⟩
        · exact P.elim
    exact each hh w
  · cases fl with
    | next => obtain ⟨σ2, H2, J2, q2⟩ := out; exact wpAny_execs_nil ⟨σ2, H2, J2.ofTry okX, q2⟩
    | brk => obtain ⟨σ2, H2, J2, q2⟩ := out; exact ⟨σ2, H2, J2.ofTry okX, q2⟩
    | cont => obtain ⟨σ2, H2, J2, q2⟩ := out; exact ⟨σ2, H2, J2.ofTry okX, q2⟩
    | ret u => obtain ⟨v, σ2, H2, J2, r2, q2⟩ := out; exact ⟨v, σ2, H2, J2.ofTry okX, r2, q2⟩
end
end Y
end

section
set_option Elab.async false
set_option linter.all false
set_option maxRecDepth 100000
set_option maxHeartbeats 2000000
/-! YMv: what gen.py prints for own classes, exceptions and try. -/
namespace Y
open PySem PySem.Spec PyProof.Rows L2
/-- the statements of a class -/
def clsB (s : Stmt) : List Stmt := match s with
  | .ClassDef (body := b) .. => b
  | _ => []
/-- a class whose __init__ does what d does -/
def MkD (P : Program) (w : World) (K : PySem.W.Frag) (cl : Cl) (mg : Str → Option Value) (base : Heap) (k : Nat) (c : Str) (ps : List Str) (n : Nat) (d : Fn) : Prop :=
  ∃ (C f : Addr) (fd : FuncData), mg c = some (.ref C) ∧ Mk K C f ∧ Binds K fd ps [] ∧ ∀ base', Ext base base' → FnG P w K mg base' k f fd ps (spO K noCl C n d)
theorem MkD.up {P : Program} {w : World} {K : PySem.W.Frag} {cl : Cl} {mg : Str → Option Value} {base b : Heap} {k : Nat} {c : Str} {ps : List Str} {n : Nat} {d : Fn} (D : MkD P w K cl mg base k c ps n d) (e : Ext base b) : MkD P w K cl mg b k c ps n d :=
  let ⟨C, f, fd, hm, M, hb, G⟩ := D; ⟨C, f, fd, hm, M, hb, fun b' e' => G b' (e.trans e')⟩
/-- an exception class as a clause names it -/
def Hcl (K : PySem.W.Frag) (mg : Str → Option Value) (c : Str) (fs : List Str) : Prop :=
  ∃ C : Addr, mg c = some (.ref C) ∧ PySem.W.nsIn K mainGlobals c = some (some (.ref C)) ∧ (fs ≠ [] → XfC K C) ∧ ∀ n ∈ fs, PySem.W.findIn K (.ref C) n = some none
theorem Cs.tr {k : Nat} {X : Cx} (c : Cs k X) {pn : List (Addr × Obj)} {xe : Value → Shared → Prop} : Cs k (X.tr pn xe) := ⟨c.room, c.gd, c.calm, c.nd⟩
theorem exm_of {K : PySem.W.Frag} {S C : Addr} {b : Bool} (h1 : PySem.W.subIn K (.ref C) (.type "BaseException") = some true) (h2 : PySem.W.isClsIn K C = true) (h3 : PySem.W.typeIn K (.ref C) = some (.type "type")) (h4 : PySem.W.subIn K (.ref S) (.ref C) = some b) : PySem.W.exmOne K (.ref S) (.ref C) = some b := by
  have q : (PySem.W.clsIn K C).isSome = true := h2
  simp [PySem.W.exmOne, PySem.W.kitCls, h1, q, h3, h4]
theorem kit_of {K : PySem.W.Frag} {T : String} {C : Addr} {b : Bool} (h2 : PySem.W.isClsIn K C = true) (h3 : PySem.W.typeIn K (.ref C) = some (.type "type")) (h4 : PySem.W.subIn K (.type T) (.ref C) = some b) : PySem.W.kitOne K (.type T) (.ref C) = some b := by
  have q : (PySem.W.clsIn K C).isSome = true := h2
  have e : ¬ ((Value.type T == Value.ref C) = true) := fun h => by cases (beq_iff_eq.mp h)
  rw [PySem.W.kitOne, if_neg e]
  simp [PySem.W.kitCls, q, h3, h4]
theorem kit_self {K : PySem.W.Frag} {C : Addr} : PySem.W.kitOne K (.ref C) (.ref C) = some true := by simp [PySem.W.kitOne]
section
variable {X : Cx} {cl : Cl} {W : WX} {e : Expr} {es : List Expr} {fa : Av} {pos p : Pos} {k j n : Nat} {x c m : Str} {ps fs : List Str} {d : Fn}
theorem q_mk (F : MkD X.prog X.w X.K cl X.mg X.base j x ps n d) (hj : j + 1 ≤ k) (c : Cs k X) (tk : Takes X W) (ha : SA X cl W (e :: es) fa) (hal : ∀ σ h xs h', fa σ h = .ok xs h' → xs.length = (e :: es).length) (hn : (e :: es).length = n := by rfl) (hg : Gl X x := by rfl) (hdb : (x == ("__debug__" : Str)) = false := by decide)
    (he : starEach (e :: es) X.env = (false, eval e X.env) :: starEach es X.env := by rfl) (hpl : (backTo pos (starEach es X.env)).any (·.1) = false := by rfl) : SE X cl W (.Call (.Name x p) (e :: es) [] pos) (eCall d fa) := by
  obtain ⟨C, f, fd, hm, M, hb, G⟩ := F
  exact s_mk M (G _ (Ext.refl _)) (c.mono hj) tk hg hm hb hn hal ha hdb he hpl
theorem cx_repr (c0 : Cs k X) {a : Addr} {pn : List (Addr × Obj)} : CaY (X.suite a pn) (.builtin "repr") bRepr := c_reprW (by have := c0.room.un; show X.A.units + 200 < cLine; omega) c0.gd
theorem c_nm {i : Nat} {f : XSv} {s1 : Stmt} {rest : List Stmt} {np hp : Pos} {hds : List ExceptHandler} {l : List (Str × XSv)} (T : Hcl X.K X.mg c fs) (hfs : fs ≠ []) (hi : X.N[i]? = some m) (hln : X.env.kindOf m = some .local)
    (hsu : ∀ (a : Addr) (oe : Obj) (cls : Value) (d : Option Addr) (pn : List (Addr × Obj)) (C : Addr), Zc cls d oe → (∃ vs, oe.data = .fields vs) → cls = .ref C → XfC X.K C → (∀ n ∈ fs, PySem.W.findIn X.K (.ref C) n = some none) → PSs (X.suite a ((a, oe) :: pn)) (s1 :: rest) (tXs X.K cl i a d f)) (r : Cla X cl hds l)
    (hg : Gl X c := by rfl) (hdb : (c == ("__debug__" : Str)) = false := by decide) (hl : c ≠ "LineError" := by decide) (hcl : cl i = none := by first | rfl | simp) : Cla X cl (.ExceptHandler (some (.Name c np)) (some m) (s1 :: rest) hp :: hds) ((c, hNm i f) :: l) := by
  obtain ⟨C, gm, hns, xf, no⟩ := T
  exact .nm ⟨hg, hdb, .inl gm⟩ hns hl hi hln hcl (fun a oe cls d pn h1 h2 h3 => hsu a oe cls d pn C h1 h2 h3 (xf hfs) no) r
theorem c_pl {f : Sv} {s1 : Stmt} {rest : List Stmt} {np hp : Pos} {hds : List ExceptHandler} {l : List (Str × XSv)} (T : Hcl X.K X.mg c fs) (hsu : ∀ (a : Addr) (oe : Obj) (pn : List (Addr × Obj)), SSs (X.suite a ((a, oe) :: pn)) cl W0 (s1 :: rest) f) (r : Cla X cl hds l)
    (hg : Gl X c := by rfl) (hdb : (c == ("__debug__" : Str)) = false := by decide) : Cla X cl (.ExceptHandler (some (.Name c np)) none (s1 :: rest) hp :: hds) ((c, hPl f) :: l) := by
  obtain ⟨C, gm, hns, xf, no⟩ := T
  exact .pl ⟨hg, hdb, .inl gm⟩ hns hsu r
end
end Y
end

section
set_option Elab.async false
set_option linter.all false
set_option maxRecDepth 100000
set_option maxHeartbeats 2000000
/-! YMe: enumerate of a tuple. -/
namespace Y
open PySem PySem.Spec PyProof.Rows L2
theorem meets_enum1 {v : Value} {o : Obj} {G : Heap → Prop} (B : Begins v o G) :
    Meets (Builtin.«enumerate.__new__» ⟨[.type "enumerate", v], []⟩) (fun _ R st => G st.heap ∧
      R (.ok (.ret (.ref (st.heap.push o).objs.size))) { st with heap := (st.heap.push o).push { cls := .type "enumerate", data := .fields #[.none, .bool false, .ref st.heap.objs.size, rawInt 0, .none, .none] } }) :=
  .of_wp fun prog w A R st hyp => by
    obtain ⟨hp, gens, dr, tok, osS⟩ := st
    obtain ⟨hG, hyp⟩ := hyp
    have hsub := sub_enumerate
    have it1 : ∀ {A' : Around} {E : Value → Shared → Prop} {Q : Value → Shared → Prop}, Q (.ref hp.objs.size) ⟨hp.push o, gens, dr, tok, osS⟩ → wpAny (model prog w) A' (pyIter v) Q E ⟨hp, gens, dr, tok, osS⟩ := fun q =>
      B.iter prog w _ _ ⟨hp, gens, dr, tok, osS⟩ _ hG q
    wp_walk using it1
    refine wpAny_stack_any fun stk => wpAny_pure ?_
    split
    · rename_i c _ _ _ _ _
      cases (c == Value.type "enumerate") <;> (wp_walk using it1; exact ⟨_, rfl, hyp⟩)
    · wp_walk using it1
      exact ⟨_, rfl, hyp⟩
theorem enum1 {prog : Program} {w : World} {A : Around} {E : Value → Shared → Prop} {st : Shared} {v : Value} {o : Obj} {G : Heap → Prop} {Q : Value → Shared → Prop} (B : Begins v o G) (hG : G st.heap)
    (hyp : ∀ h2, IsEnum h2 (st.heap.objs.size + 1) st.heap.objs.size 0 .none → h2.get? st.heap.objs.size = some o → (∀ b u, st.heap.get? b = some u → h2.get? b = some u) → Q (.ref (st.heap.objs.size + 1)) { st with heap := h2 }) :
    wpAny (model prog w) A (call (.type "enumerate") [v]) Q E st := by
  refine callType_new F.called_enumerate (by decide) (F.typeCall_enumerate_1 _) (F.newCall_enumerate_1 _) (fun obj => F.args_object_init_2 obj _) F.entry_enumerate_new (meets_enum1 B) ⟨hG, ?_⟩
  have size1 : (st.heap.push o).objs.size = st.heap.objs.size + 1 := Heap.size_push ..
  show _ ∧ _
  rw [size1]
  have made := Heap.get?_push_size (st.heap.push o) (o := { cls := .type "enumerate", data := .fields #[.none, .bool false, .ref st.heap.objs.size, rawInt 0, .none, .none] }) rfl
  rw [size1] at made
  exact ⟨⟨_, made, rfl⟩, hyp _ made (Heap.get?_push_of_some _ (Heap.get?_push_size _ B.free)) fun b u q => Heap.get?_push_of_some _ (Heap.get?_push_of_some _ q)⟩
/-- the tuple at a, each item in a new pair -/
def IteT (K : PySem.W.Frag) (a : Addr) : It :=
  ⟨fun i H => ∃ (xs : List V) (x : V), SqT K H a xs ∧ xs[i]? = some x, fun i H v H' => ∃ T x, v = .ref T ∧ H T = none ∧ H' = upd H T (.tup [.int (i : Nat), x]) ∧ ∀ xs, SqT K H a xs → xs[i]? = some x, fun i H => ∃ xs : List V, SqT K H a xs ∧ xs.length = i⟩
theorem turn_enumT {P : Program} {w : World} {K : PySem.W.Frag} {elts : List Expr} {kk : Nat} {tpos : Pos} (a e it : Addr) :
    Turn P w K (.Tuple elts kk tpos) (IteT K a) [e, it] e (fun i h => (∃ old, IsEnum h e it ((i : Nat) : Int) old) ∧ h.IsTupleIter it a i ∧ e ≠ it ∧ a ≠ it ∧ a ≠ e) where
  mem := by simp
  obj := fun i h st b hb => by
    obtain ⟨⟨old, he⟩, ⟨oi, hoi, hci, hdi⟩, _⟩ := st
    rcases (show b = e ∨ b = it by simpa using hb) with z | z
    · subst z; exact ⟨_, he, fun v q => nomatch q⟩
    · subst z; exact ⟨oi, hoi, fun v q => by rw [hdi] at q; cases q⟩
  keep := fun i h h' st kp => by
    obtain ⟨⟨old, he⟩, hi, apart⟩ := st
    exact ⟨⟨old, kp e (by simp) _ he⟩, hi.at fun o q => kp it (by simp) o q, apart⟩
  item := by
    intro X hP hw hK hc i pins st σ H E I hf tn hgo
    subst hP hw hK
    obtain ⟨⟨old, he⟩, hit, d1, d2, d3⟩ := tn
    obtain ⟨xs, x, hq, hx⟩ := hgo
    obtain ⟨its, rv, p, hz⟩ := I.tuple hq
    obtain ⟨u, hu, ru⟩ := rv.get hx
    have le : e < st.heap.objs.size := Heap.lt_size he
    have li : it < st.heap.objs.size := by obtain ⟨_, q, _⟩ := hit; exact Heap.lt_size q
    have hlt : i < its.toArray.size := by have := (List.getElem?_eq_some_iff.mp hu).1; simpa using this
    have it2 : st.heap.IsTuple a its.toArray := p
    refine wpAny_pyNext_enum_itemD (Draws.tuple (show X.A.in1.handled = none from I.ok.hd hc) it a d2 its.toArray) he ⟨hit, it2⟩ hlt d1 (by simp [d1, Ne.symm d3]) fun y h2 tk hy ho hst2 hT hsz hk => ?_
    have ey : y = u := by
      rw [show its.toArray[i]? = its[i]? by simp, hu] at hy
      exact (Option.some.inj hy).symm
    subst ey
    refine ⟨_, rfl, wpAny_letOwnedTupleGo_enum (s := { st with heap := h2, toks := tk + 1 }) ho fun h3 he3 sb => ?_⟩
    have tup3 : h3.get? st.heap.objs.size = some { cls := .type "tuple", data := .seq #[.int i tk, y] } := (sb.2 _ (Nat.ne_of_gt le)).trans hT
    have fresh : ObjOk X.prog X.w (upd H st.heap.objs.size (.tup [.int (i : Nat), x])) h3 st.heap.objs.size (.tup [.int (i : Nat), x]) :=
      ⟨by show 2 ≤ sizeLine; decide, [.int i tk, y], .cons ⟨_, rfl⟩ (.cons ru .nil), ⟨_, tup3, rfl, _, rfl⟩⟩
    have J : Inv X pins σ (upd H st.heap.objs.size (.tup [.int (i : Nat), x])) { st with heap := h3, toks := tk + 1 } :=
      I.turnedNew (ch := [e, it]) (fun b ob hb q => by
        simp only [List.mem_cons, List.not_mem_nil, or_false, not_or] at hb
        exact (sb.2 b hb.1).trans (hk b ob hb.1 hb.2 q)) hf (Nat.le_refl _) fresh
    refine ⟨.ref st.heap.objs.size, _, J, rfl, ⟨_, x, rfl, I.hok.fresh (Nat.le_refl _), rfl, fun ys hy => by rw [I.tuple_inj hy hq]; exact hx⟩, ⟨⟨y, ?_⟩, hst2.1.at fun o q => (sb.2 it (Ne.symm d1)).trans q, d1, d2, d3⟩, fun b hb => ?_⟩
    · rw [show ((i + 1 : Nat) : Int) = (i : Int) + 1 by omega]; exact he3
    · have lb : b < st.heap.objs.size := by
        rcases (show b = e ∨ b = it by simpa using hb) with z | z <;> subst z <;> assumption
      rw [upd_ne (Nat.ne_of_lt lb)]
      exact (hf b hb).1
  done := by
    intro X hP hw hK hc i pins st σ H E I hf tn hstop
    subst hP hw hK
    obtain ⟨⟨old, he⟩, hit, d1, d2, d3⟩ := tn
    obtain ⟨xs, hq, hx⟩ := hstop
    obtain ⟨its, rv, p, hz⟩ := I.tuple hq
    obtain ⟨f0, f1, f2, f3, f4, f5⟩ := hf it (by simp)
    have hn : i = its.toArray.size := by rw [← hx, rv.length]; simp
    subst hn
    exact wpAny_pyNext_enum_endD (Draws.tuple (show X.A.in1.handled = none from I.ok.hd hc) it a d2 its.toArray) he ⟨hit, p⟩ fun h2 eb => ⟨rfl, I.turned (t' := st.toks) (fun b o hb q => eb b o hb q) f0 f1 f3 f4 f5⟩
  self := fun A i st Q E tn h => by
    obtain ⟨⟨_, he⟩, _⟩ := tn
    exact wpAny_pyIter_enum he h
def iEnumA (K : PySem.W.Frag) (ta : TA) : TI := fun σ H R => ta σ H fun vs H1 => ∃ a xs, vs = [.ref a] ∧ ((SqL K H1 a xs ∧ R (Ite K a) H1) ∨ (SqT K H1 a xs ∧ R (IteT K a) H1))
theorem pi_enumA {X : Cx} {e : Expr} {ta : TA} {p pos tpos : Pos} {elts : List Expr} {kk : Nat} (hg : Gl X "enumerate") (hm : X.mg "enumerate" = none) (ha : PA X [e] ta) (hs : starEach [e] X.env = [(false, eval e X.env)] := by rfl) :
    PI X (.Tuple elts kk tpos) (.Call (.Name "enumerate" p) [e] [] pos) (iEnumA X.K ta) := by
  refine ⟨fun pins st σ H R I h => ?_⟩
  refine Call_ (ld_blt I hg hm boot_enumerate (PyProof.Rows.callWith_type1 (thn (ha.run pos pins st σ H _ I h) fun us s1 ⟨vs, H1, I1, r1, q1⟩ => ?_) hs rfl))
  obtain ⟨a, xs, ex, q⟩ := q1
  subst ex
  cases r1 with
  | cons r rr =>
    cases rr
    cases r
    have fpok : ∀ b ∈ [s1.heap.objs.size + 1, s1.heap.objs.size], FpOk X pins H1 b := fun b hb => by
      have le : s1.heap.objs.size ≤ b := by
        rcases (show b = s1.heap.objs.size + 1 ∨ b = s1.heap.objs.size by simpa using hb) with z | z <;> omega
      exact I1.fpOk le (I1.hok.fresh le)
    rcases q with ⟨hq, q⟩ | ⟨hq, q⟩
    · obtain ⟨its, rv, p', hz⟩ := I1.list hq
      refine call_enumerate_list p'.isList fun h2 he hit hsz hk => wpAny_pyIter_enum he ?_
      exact ⟨s1.heap.objs.size + 1, [s1.heap.objs.size + 1, s1.heap.objs.size], _, _, H1, rfl, I1.kept (t' := s1.toks) hk, turn_enum a (s1.heap.objs.size + 1) s1.heap.objs.size, ⟨⟨.none, he⟩, hit, Nat.succ_ne_self _⟩, fpok, q⟩
    · obtain ⟨its, rv, p', hz⟩ := I1.tuple hq
      have it2 : s1.heap.IsTuple a its.toArray := p'
      have la : a < s1.heap.objs.size := by obtain ⟨_, z, _⟩ := it2; exact Heap.lt_size z
      refine enum1 (begins_tuple a its.toArray) it2 fun h2 he hit hk => wpAny_pyIter_enum he ?_
      exact ⟨s1.heap.objs.size + 1, [s1.heap.objs.size + 1, s1.heap.objs.size], _, _, H1, rfl, I1.kept (t' := s1.toks) hk, turn_enumT a (s1.heap.objs.size + 1) s1.heap.objs.size, ⟨⟨.none, he⟩, ⟨_, hit, rfl, rfl⟩, Nat.succ_ne_self _, Nat.ne_of_lt la, Nat.ne_of_lt (Nat.lt_succ_of_lt la)⟩, fpok, q⟩
/-- enumerate(x): a list that is never changed, or a tuple -/
def numA : List D → Option (List D)
  | [.tup xs] => some (enumD 0 xs)
  | xs => numD xs
def iEnumV (a : Av) : Iv := fun σ h => (a σ h).bind fun xs h1 => ofO (numA xs) h1
section
variable {X : Cx} {cl : Cl} {W : WX} {a : Expr} {fa : Av} {pos : Pos}
theorem drv_enumT {K : PySem.W.Frag} {φ : List Addr} {H : Hp} {p : Addr} {xs : List D} {vs : List V} (h1 : ∀ H', Per H H' → SqT K H' p vs) (r1 : RepL K φ H xs vs) : Drv K φ H (IteT K p) (enumD 0 xs) := fun φ' H' h l R => by
  have q1 := RepL.mono l.pre l.per _ _ r1
  refine ⟨fun i d e => ?_, vs, h1 _ l.per, by rw [enum_len, q1.length]⟩
  obtain ⟨x, e1, rfl⟩ := enum_get e
  obtain ⟨v, z1, z2⟩ := q1.get e1
  refine ⟨⟨vs, v, h1 _ l.per, z1⟩, fun w H2 yl => ?_⟩
  obtain ⟨T, v', rfl, hT, rfl, y1⟩ := yl
  have w1 := y1 vs (h1 _ l.per)
  rw [z1] at w1
  cases w1
  rw [Nat.zero_add]
  exact pair_rep R hT (.int _) z2
theorem i_enumV {elts : List Expr} {kk : Nat} {tpos p : Pos} (hg : Gl X "enumerate") (hm : X.mg "enumerate" = none) (ha : SA X cl W [a] fa) (hs : starEach [a] X.env = [(false, eval a X.env)] := by rfl) :
    SI X cl W (.Tuple elts kk tpos) (.Call (.Name "enumerate" p) [a] [] pos) (iEnumV fa) := PI.of (pi_enumA hg hm ha hs) fun σ H R p => by
  obtain ⟨φ, st, h0, S, R0, P⟩ := p
  refine ⟨φ, st, h0, S, R0, ?_⟩
  simp only [iEnumV] at P
  cases e : fa st h0 with
  | bad => simp only [e, Rs.bind] at P
  | ex _ _ => simp only [e, Rs.bind] at P; exact P
  | ok xs h1 =>
    simp only [e, Rs.bind] at P
    intro φ1 H1 vs l1 r1 q1
    have other : numA xs = numD xs → ∃ a us, vs = [.ref a] ∧ ((SqL X.K H1 a us ∧ R (Ite X.K a) H1) ∨ (SqT X.K H1 a us ∧ R (IteT X.K a) H1)) := fun en => by
      rw [en] at P
      rcases xs with _ | ⟨x, _ | _⟩ <;> simp only [numD, ofO] at P
      cases f1 : frzOf x with
      | none => rw [f1] at P; exact P.elim
      | some a =>
        rw [f1] at P
        obtain ⟨v, rfl, rv⟩ := RepL.one q1
        obtain ⟨p, us, rfl, g1, g2⟩ := frz_at rv f1
        exact ⟨p, us, rfl, .inl ⟨g1 _ (Per.refl _), P φ1 H1 _ l1 r1 (drv_enum g1 g2)⟩⟩
    rcases xs with _ | ⟨x, _ | _⟩
    · exact other rfl
    · cases x with
      | tup ys =>
        simp only [numA, ofO] at P
        obtain ⟨v, rfl, rv⟩ := RepL.one q1
        cases rv with
        | tup g1 g2 => exact ⟨_, _, rfl, .inr ⟨SqT.of g1, P φ1 H1 _ l1 r1 (drv_enumT (fun H' p => SqT.of (p.tup _ _ g1)) g2)⟩⟩
      | _ => exact other rfl
    · exact other (by cases x <;> rfl)
end
end Y
end

section
set_option Elab.async false
set_option linter.all false
set_option maxRecDepth 100000
set_option maxHeartbeats 2000000
/-! YMd: dict comprehensions whose keys are tuples; sorted of such a dict. -/
namespace Y
open PySem PySem.Spec PyProof.Rows L2
section
variable {X : Cx} {pins : List (Addr × Obj)} {σ : L2.St} {H : Hp}
/-- the store -/
theorem put_dT {st : Shared} {E : Value → Shared → Prop} {D b : Addr} {kvs : List (List Key × V)} {ks : List Key} {z : V} {r : Value} {Q : Unit → Shared → Prop} (hu : X.A.units + 1 < cLine) (I : Inv X pins σ H st) (eD : H D = some (.dT kvs)) (lt : kvs.length < sizeLine)
    (eb : H b = some (.tup (ks.map kV))) (rz : RelV z r) (hq : ∀ st', Inv X pins σ (upd H D (.dT (putK kvs ks z))) st' → Q () st') : wpAny (model X.prog X.w) X.A (dictSet D (.ref b) r) Q E st := by
  obtain ⟨le, nd, xs, rel, dd⟩ := dt_of I.hok eD
  have sz : xs.length ≤ sizeLine := (Paired.length rel) ▸ le
  refine wpAny_dictSet_heap (hsz := sz) (knd := tupleKind (mixKind X.prog X.w)) (Nat.lt_of_succ_lt hu) (key_of I.hok eb) dd fun h2 ⟨q, es, ep, hq2, x2, x3, x4, _, x5⟩ same => hq _ ?_
  refine d_write I (by rw [eD]; trivial) same ⟨q, hq2⟩ ⟨?_, nd, _, (rel.put ks eb rz).keeps fun c ys ec => ?_, q, es, ep, hq2, x2, x3, x4, x5⟩
  · have := length_putK kvs ks z
    omega
  · rw [upd_ne (ne_of ec eD (fun z => nomatch z))]
    exact ec
/-- what is wished of {k: v for target in iter if ..}, the keys tuples -/
def tDcT (wi : TI) (g : TG) (tt : TT) (tk tv : TE) (vs : List Nat) : TE := fun σ H Q => wi σ H fun J H1 => ∀ D, H1 D = none → ∃ S : Nat → Nat → Hp → Prop, (∃ m, S 0 m (upd H1 D (.dT []))) ∧ ∀ i m Ha, S i m Ha →
  (J.stop i Ha ∧ Q (.ref D) Ha) ∨ (J.go i Ha ∧ ∃ After : Hp → Prop, (∀ Hb, After Hb → ∃ m', m' < m ∧ S (i + 1) m' Hb) ∧ ∀ x Hb, J.yld i Ha x Hb → g x (wipe σ vs) Hb fun τ Hc => wipe τ vs = wipe σ vs ∧ tt τ Hc fun c Hd =>
    if c = true then tk τ Hd fun y He => tv τ He fun z Hf => ∃ b kvs ks, y = .ref b ∧ Hf b = some (.tup (ks.map kV)) ∧ Hf D = some (.dT kvs) ∧ kvs.length < sizeLine ∧ After (upd Hf D (.dT (putK kvs ks z))) else After Hd)
end
section
variable {X : Cx} {kx vx tg iter : Expr} {ifs : List Expr} {scope : Scope} {own : List (Str × Nat)} {pos : Pos} {wi : TI} {g : TG} {tt : TT} {tk tv : TE}
/-- the laps, in the block's own frame -/
theorem dcT_laps {foot : List Addr} {J : It} {it D : Addr} {tn : Nat → Heap → Prop} {vs : List Nat} {σ : L2.St} {R : Result → Shared → Prop} {S : Nat → Nat → Hp → Prop} (hu : X.A.units + 1 < cLine) (hc : X.calm = true) (hx : X.xe = fun _ _ => False) (T : Turn X.prog X.w X.K tg J foot it tn)
    (fpOk : ∀ {τ : L2.St} {Ha : Hp} {st : Shared}, Inv X [] τ Ha st → (∀ b ∈ foot, Ha b = none) → ∀ b ∈ foot, FpOk X [] Ha b) (pg : PG X tg g) (pt : PTs X ifs tt) (pk : PE X kx tk) (pv : PE X vx tv)
    (lap : ∀ i m Ha, S i m Ha → (J.stop i Ha ∧ ∀ st, Inv X [] (wipe σ vs) Ha st → R (.ok .next) st) ∨ (J.go i Ha ∧ ∃ After : Hp → Prop, (∀ Hb, After Hb → ∃ m', m' < m ∧ S (i + 1) m' Hb) ∧ ∀ x Hb, J.yld i Ha x Hb → g x (wipe σ vs) Hb fun τ Hc => wipe τ vs = wipe σ vs ∧ tt τ Hc fun c Hd =>
      if c = true then tk τ Hd fun y He => tv τ He fun z Hf => ∃ b kvs ks, y = .ref b ∧ Hf b = some (.tup (ks.map kV)) ∧ Hf D = some (.dT kvs) ∧ kvs.length < sizeLine ∧ After (upd Hf D (.dT (putK kvs ks z))) else After Hd))
    {m : Nat} {H0 : Hp} {st0 : Shared} (I0 : Inv X [] (wipe σ vs) H0 st0) (t0 : tn 0 st0.heap) (n0 : ∀ b ∈ foot, H0 b = none) (s0 : S 0 m H0) :
    codeAny (model X.prog X.w) X.A (.compLoop (.DictComp kx vx [⟨tg, iter, ifs, 0⟩] scope pos) 0 (.ref it) (.ref D) X.env) R st0 := by
  have cv : ∀ {α : Type} {t : Sem α} {Q : α → Shared → Prop} {st : Shared}, wpAny (model X.prog X.w) X.A t Q X.xe st → wpAny (model X.prog X.w) X.A t Q (fun _ _ => False) st := fun h => by rw [hx] at h; exact h
  refine compLoop_anyD (fun m st => ∃ i Ha, Inv X [] (wipe σ vs) Ha st ∧ tn i st.heap ∧ (∀ b ∈ foot, Ha b = none) ∧ S i m Ha) (fun m st inv => ?_) m ⟨0, H0, I0, t0, n0, s0⟩
  obtain ⟨i, Ha, I, ti, ni, si⟩ := inv
  rcases lap i m Ha si with ⟨stop, done⟩ | ⟨go, After, next, body⟩
  · exact thnF (T.done X rfl rfl rfl hc i [] st _ Ha (fun _ _ => False) I (fpOk I ni) ti stop) fun r st1 ⟨er, I1⟩ => by subst er; exact done st1 I1
  · refine thnF (T.item X rfl rfl rfl hc i [] st _ Ha (fun _ _ => False) I (fpOk I ni) ti go) fun r st1 ⟨u, er, h1⟩ => ?_
    subst er
    refine thnF h1 fun _ st2 ⟨x, Hb, I2, rx, yx, t2, n2⟩ => ?_
    refine thnF (cv (pg.run _ st2 _ Hb x u _ (I2.pinned (fpOk I2 n2) (T.obj _ _ t2)) rx (body x Hb yx))) fun _ st3 ⟨τ, Hc, I3, same, q3⟩ => thnF (cv (pt.run _ st3 τ Hc _ I3 q3)) fun c st4 ⟨Hd, I4, q4⟩ => ?_
    have stay : ∀ b ∈ foot, ∀ {st' : Shared} {H' : Hp}, Inv X ([] ++ pinsAt foot st2.heap) τ H' st' → ∀ o, st2.heap.get? b = some o → st'.heap.get? b = some o ∧ H' b = none := fun b hb st' H' I' o e => by
      have z := I'.pin (b, o) (List.mem_append_right _ (List.mem_append_right _ (mem_pinsAt hb e)))
      exact ⟨z.1, z.2.1⟩
    have close : ∀ {st' : Shared} {H' : Hp}, Inv X ([] ++ pinsAt foot st2.heap) τ H' st' → After H' → ∃ m', m' < m ∧ ∃ i Ha, Inv X [] (wipe σ vs) Ha st' ∧ tn i st'.heap ∧ (∀ b ∈ foot, Ha b = none) ∧ S i m' Ha := by
      intro st' H' I' af
      obtain ⟨m', lt, s'⟩ := next H' af
      refine ⟨m', lt, i + 1, H', (I'.unpinned (pins := [])).weak (by rw [← same, wipe_length]) (fun j v e => ?_), T.keep _ _ _ t2 fun b hb o e => (stay b hb I' o e).1, fun b hb => ?_, s'⟩
      · rw [← same] at e
        exact (wipe_some e).1
      · obtain ⟨o, e, _⟩ := T.obj _ _ t2 b hb
        exact (stay b hb I' o e).2
    cases c with
    | false =>
      rw [if_neg Bool.false_ne_true] at q4 ⊢
      exact close I4 q4
    | true =>
      rw [if_pos rfl] at q4 ⊢
      refine thnF (cv (pk.run _ st4 τ Hd _ I4 q4)) fun z1 st5 ⟨yk, He, I5, r5, q5⟩ => thnF (cv (pv.run _ st5 τ He _ I5 q5)) fun z2 st6 ⟨yv, Hf, I6, r6, b, kvs, ks, ek, eb, eD, lt, af⟩ => ?_
      subst ek
      cases (show z1 = Value.ref b from r5)
      exact put_dT hu I6 eD lt eb r6 fun st7 I7 => close I7 af
theorem dcT_core {pins : List (Addr × Obj)} {s : Shared} {σ : L2.St} {H : Hp} {Q : VK} {pos' : Pos} {use : Option (Value → Sem Unit)} {Qf : Value → Shared → Prop} (hu : X.A.units + 1 < cLine) (hc : X.calm = true) (hN : X.N.Nodup) (I : Inv X pins σ H s) (hi : PI X tg iter wi) (ok : BlkOk X.N X.env.scope scope own)
    (pg : ∀ (s : Shared) (H : Hp) (C : Addr) (cl : List (Str × Addr)) (fp : List Addr), PG (X.blk s H scope (compEnvC scope cl C X.env) fp) tg g) (pt : ∀ (s : Shared) (H : Hp) (C : Addr) (cl : List (Str × Addr)) (fp : List Addr), PTs (X.blk s H scope (compEnvC scope cl C X.env) fp) ifs tt)
    (pk : ∀ (s : Shared) (H : Hp) (C : Addr) (cl : List (Str × Addr)) (fp : List Addr), PE (X.blk s H scope (compEnvC scope cl C X.env) fp) kx tk) (pv : ∀ (s : Shared) (H : Hp) (C : Addr) (cl : List (Str × Addr)) (fp : List Addr), PE (X.blk s H scope (compEnvC scope cl C X.env) fp) vx tv)
    (hs : ∀ x, foldedSetIterable iter X.env x = pure x) (h : tDcT wi g tt tk tv (own.map (·.2)) σ H Q)
    (hRR : ∀ D C s' m H', Inv X pins σ H' s' → Q (.ref D) H' → s'.heap.Ns C m → FpOk X pins H' C → compPost (model X.prog X.w) X.A X.xe use Qf (.ref D) C (.ok .next) s') :
    wpAny (model X.prog X.w) X.A (comprehension (.DictComp kx vx [⟨tg, iter, ifs, 0⟩] scope pos) scope X.env pos' newDict false (eval iter X.env) use) Qf X.xe s := by
  have free : ∀ y ∈ scope.names, y.2 = .free → ∃ c, X.env.cells.lookup y.1 = some c := fun y hy e => (ok.free y hy e).elim (fun k => I.ok.has _ (.inl k)) fun k => I.ok.has _ (.inr k)
  refine wpAny_comprehension_free (use := use) rfl hs (closure_ok free) ok.kind (fun y hy e => by rw [ok.uniq y hy, e]) (thn (hi.run pins s σ H _ I h) fun _ sa ha => thn ha fun _ sb hb => ?_)
  obtain ⟨it, fp, tn, J, Hb, rfl, Ib, T, tb, fb, q⟩ := hb
  refine wpAny_newObj_type (newEnv_comp ?_)
  have nD : Hb sb.heap.objs.size = none := Ib.hok.fresh (Nat.le_refl _)
  obtain ⟨S, ⟨m0, s0⟩, lap⟩ := q _ nD
  generalize eSc : ({ sb with heap := sb.heap.push { cls := .type "dict", data := .dict #[] } } : Shared) = sc
  have eH : sc.heap = sb.heap.push { cls := .type "dict", data := .dict #[] } := by rw [← eSc]
  have Ic : Inv X pins σ (upd Hb sb.heap.objs.size (.dT [])) sc := eSc ▸ Ib.laid (t' := sb.toks) (fun b o e => Heap.get?_push_of_some _ e) (Nat.le_refl _) (dt_empty sb.heap Ib.big)
  have below : ∀ b ∈ fp, b < sb.heap.objs.size := fun b hb => by
    obtain ⟨o, e, _⟩ := T.obj _ _ tb b hb
    exact Heap.lt_size e
  have fc : ∀ b ∈ fp, FpOk X pins (upd Hb sb.heap.objs.size (.dT [])) b ∧ b < sc.heap.objs.size := fun b hb => by
    have l := below b hb
    refine ⟨⟨?_, (fb b hb).2⟩, by rw [eH, Heap.size_push]; exact Nat.lt_succ_of_lt l⟩
    rw [upd_ne (Nat.ne_of_lt l)]
    exact (fb b hb).1
  generalize upd Hb sb.heap.objs.size (.dT []) = Hc at Ic fc s0
  have Id := block_start Ic ok hN fc
  have kg := pg sc Hc sc.heap.objs.size (cellsFrom (sc.heap.objs.size + 1) scope.names (cloFrom X.env.cells scope.names [])) fp
  have kt := pt sc Hc sc.heap.objs.size (cellsFrom (sc.heap.objs.size + 1) scope.names (cloFrom X.env.cells scope.names [])) fp
  have kk := pk sc Hc sc.heap.objs.size (cellsFrom (sc.heap.objs.size + 1) scope.names (cloFrom X.env.cells scope.names [])) fp
  have kv := pv sc Hc sc.heap.objs.size (cellsFrom (sc.heap.objs.size + 1) scope.names (cloFrom X.env.cells scope.names [])) fp
  show codeAny _ _ (.compStart (.DictComp kx vx [⟨tg, iter, ifs, 0⟩] scope pos) 0 (.ref it) (.ref sb.heap.objs.size) (compEnvC scope (cellsFrom (sc.heap.objs.size + 1) scope.names (cloFrom X.env.cells scope.names [])) sc.heap.objs.size X.env)) _ { sc with heap := pushCells (sc.heap.push { cls := .type "dict", data := .dict #[] }) scope.names }
  generalize eEnv : compEnvC scope (cellsFrom (sc.heap.objs.size + 1) scope.names (cloFrom X.env.cells scope.names [])) sc.heap.objs.size X.env = env at Id kg kt kk kv ⊢
  have locals : env.locals = sc.heap.objs.size := by subst eEnv; rfl
  have td0 : tn 0 (pushCells (sc.heap.push { cls := .type "dict", data := .dict #[] }) scope.names) := T.keep _ _ _ tb fun b _ o e => pushCells_keeps _ _ _ _ (Heap.get?_push_of_some _ (eH ▸ Heap.get?_push_of_some _ e))
  have laps := dcT_laps (X := X.blk sc Hc scope env fp) (iter := iter) (pos := pos) (scope := scope) (it := it) (D := sb.heap.objs.size) (S := S) (vs := own.map (·.2)) (σ := σ) (R := compPost (model X.prog X.w) X.A X.xe use Qf (.ref sb.heap.objs.size) sc.heap.objs.size) hu hc rfl T
    (fun {τ Ha st} I' hn b hb => ⟨hn b hb, (I'.ok.exf b hb).1, I'.ok.exfs b hb, .inl hb, fun x c e => (I'.ok.exf b hb).2 x c e, fun p hp => absurd (show p ∈ ([] : List (Addr × Obj)) ++ [] from hp) (by simp)⟩) kg kt kk kv (fun i m Ha si => ?_) Id td0 (fun b hb => (fc b hb).1.1) s0
  · exact codeAny_compStart_dict laps (T.self X.A 0 _ _ _ td0 laps)
  · rcases lap i m Ha si with ⟨stop, qq⟩ | go
    · refine .inl ⟨stop, fun st I6 => ?_⟩
      have I7 : Inv X pins σ Ha st := Ic.call' (ch := fp) I6.os I6.base I6.hok I6.bare fun b hb => ⟨(fc b hb).1.2.2.2.1, (fc b hb).1.2.1, (fc b hb).1.2.2.2.2.1, (fc b hb).1.2.2.2.2.2⟩
      have nC : Ha sc.heap.objs.size = none := locals ▸ I6.free
      obtain ⟨mm, hn, _⟩ := I6.loc
      exact hRR _ _ st mm Ha I7 qq (locals ▸ hn) (Ic.fpOk (Nat.le_refl _) nC)
    · exact .inr go
/-- {k: v for ..}, the keys tuples -/
theorem pe_dcT (hu : X.A.units + 1 < cLine) (hc : X.calm = true) (hN : X.N.Nodup) (hi : PI X tg iter wi) (ok : BlkOk X.N X.env.scope scope own)
    (pg : ∀ (s : Shared) (H : Hp) (C : Addr) (cl : List (Str × Addr)) (fp : List Addr), PG (X.blk s H scope (compEnvC scope cl C X.env) fp) tg g) (pt : ∀ (s : Shared) (H : Hp) (C : Addr) (cl : List (Str × Addr)) (fp : List Addr), PTs (X.blk s H scope (compEnvC scope cl C X.env) fp) ifs tt)
    (pk : ∀ (s : Shared) (H : Hp) (C : Addr) (cl : List (Str × Addr)) (fp : List Addr), PE (X.blk s H scope (compEnvC scope cl C X.env) fp) kx tk) (pv : ∀ (s : Shared) (H : Hp) (C : Addr) (cl : List (Str × Addr)) (fp : List Addr), PE (X.blk s H scope (compEnvC scope cl C X.env) fp) vx tv)
    (hs : ∀ x, foldedSetIterable iter X.env x = pure x := by intro _; rfl) : PE X (.DictComp kx vx [⟨tg, iter, ifs, 0⟩] scope pos) (tDcT wi g tt tk tv (own.map (·.2))) := by
  refine ⟨fun pins s σ H Q I h => ?_⟩
  rw [arm_eval_DictComp]
  refine dcT_core hu hc hN I hi ok pg pt pk pv hs h fun D C s' m H' I' q hn f => ⟨m, hn, fun h'' sb => ?_⟩
  obtain ⟨f0, f1, f2, f3, f4, f5⟩ := f
  exact ⟨.ref D, H', I'.turned (t' := s'.toks) (fun b o hb e => (sb.2 b hb).trans e) f0 f1 f3 f4 f5, rfl, q⟩
/-- name = {k: v for ..} on one line, the name a local; the same with tuples as keys -/
theorem ps_setDc {i : Nat} {y : Str} {py spos : Pos} (hc : X.calm = true) (hN : X.N.Nodup) (hy : X.N[i]? = some y) (hyl : X.env.scope.names.lookup y = some .local)
    (hsw : swapsWith (.DictComp kx vx [⟨tg, iter, ifs, 0⟩] scope pos) (some (.Name y py)) spos.line X.env = pure true) (hi : PI X tg iter wi) (ok : BlkOk X.N X.env.scope scope own)
    (pg : ∀ (s : Shared) (H : Hp) (C : Addr) (cl : List (Str × Addr)) (fp : List Addr), PG (X.blk s H scope (compEnvC scope cl C X.env) fp) tg g) (pt : ∀ (s : Shared) (H : Hp) (C : Addr) (cl : List (Str × Addr)) (fp : List Addr), PTs (X.blk s H scope (compEnvC scope cl C X.env) fp) ifs tt)
    (pk : ∀ (s : Shared) (H : Hp) (C : Addr) (cl : List (Str × Addr)) (fp : List Addr), PE (X.blk s H scope (compEnvC scope cl C X.env) fp) kx tk) (pv : ∀ (s : Shared) (H : Hp) (C : Addr) (cl : List (Str × Addr)) (fp : List Addr), PE (X.blk s H scope (compEnvC scope cl C X.env) fp) vx tv)
    (hs : ∀ x, foldedSetIterable iter X.env x = pure x := by intro _; rfl) :
    PS X (.Assign [.Name y py] (.DictComp kx vx [⟨tg, iter, ifs, 0⟩] scope pos) spos) (tAsg (tDc wi g tt tk tv (own.map (·.2))) (gName i)) := by
  refine ⟨fun pins s σ H D I h => ?_⟩
  rw [exec_Assign_Name_used _ _ _ _ hsw]
  refine wpAny_bind (wpAny_standAt (wpAny_bind ?_))
  show wpAny _ X.A (do let _ ← comprehension (.DictComp kx vx [⟨tg, iter, ifs, 0⟩] scope pos) scope X.env (firstIterPos [⟨tg, iter, ifs, 0⟩] pos) newDict false (eval iter X.env) (some (assign (.Name y py) X.env))) _ _ s
  have h : tDc wi g tt tk tv (own.map (·.2)) σ H (fun x H1 => gName i x σ H1 D.nx) := h
  refine wpAny_bind (thn (dc_core (Qf := fun _ s' => SP X pins D .next s') hc hN I hi ok pg pt pk pv hs h fun L C s' m H' I' q hn f => ?_) fun _ s' hq => wpAny_pure (wpAny_pure hq))
  show wpAny _ _ (assign (.Name y py) X.env (.ref L)) _ _ _
  refine wpAny_assign_Name (store_ok2 (v := V.ref L) I' hN hy (.inl hyl) rfl (fun s2 I2 ⟨a, sb, ha⟩ => ?_) (.inr hyl))
  obtain ⟨f0, f1, f2, f3, f4, f5⟩ := f
  have haC : C ≠ a := by
    rcases ha with z | z
    · rw [z]; exact f1
    · exact fun e => f4 y a z e.symm
  refine ⟨m, hn.sameBut sb haC, fun h3 sb3 => ?_⟩
  exact ⟨_, H', I2.turned (t' := s2.toks) (fun b o hb e => (sb3.2 b hb).trans e) f0 f1 f3 f4 f5, q⟩
theorem ps_setDcT {i : Nat} {y : Str} {py spos : Pos} (hu : X.A.units + 1 < cLine) (hc : X.calm = true) (hN : X.N.Nodup) (hy : X.N[i]? = some y) (hyl : X.env.scope.names.lookup y = some .local)
    (hsw : swapsWith (.DictComp kx vx [⟨tg, iter, ifs, 0⟩] scope pos) (some (.Name y py)) spos.line X.env = pure true) (hi : PI X tg iter wi) (ok : BlkOk X.N X.env.scope scope own)
    (pg : ∀ (s : Shared) (H : Hp) (C : Addr) (cl : List (Str × Addr)) (fp : List Addr), PG (X.blk s H scope (compEnvC scope cl C X.env) fp) tg g) (pt : ∀ (s : Shared) (H : Hp) (C : Addr) (cl : List (Str × Addr)) (fp : List Addr), PTs (X.blk s H scope (compEnvC scope cl C X.env) fp) ifs tt)
    (pk : ∀ (s : Shared) (H : Hp) (C : Addr) (cl : List (Str × Addr)) (fp : List Addr), PE (X.blk s H scope (compEnvC scope cl C X.env) fp) kx tk) (pv : ∀ (s : Shared) (H : Hp) (C : Addr) (cl : List (Str × Addr)) (fp : List Addr), PE (X.blk s H scope (compEnvC scope cl C X.env) fp) vx tv)
    (hs : ∀ x, foldedSetIterable iter X.env x = pure x := by intro _; rfl) :
    PS X (.Assign [.Name y py] (.DictComp kx vx [⟨tg, iter, ifs, 0⟩] scope pos) spos) (tAsg (tDcT wi g tt tk tv (own.map (·.2))) (gName i)) := by
  refine ⟨fun pins s σ H D I h => ?_⟩
  rw [exec_Assign_Name_used _ _ _ _ hsw]
  refine wpAny_bind (wpAny_standAt (wpAny_bind ?_))
  show wpAny _ X.A (do let _ ← comprehension (.DictComp kx vx [⟨tg, iter, ifs, 0⟩] scope pos) scope X.env (firstIterPos [⟨tg, iter, ifs, 0⟩] pos) newDict false (eval iter X.env) (some (assign (.Name y py) X.env))) _ _ s
  have h : tDcT wi g tt tk tv (own.map (·.2)) σ H (fun x H1 => gName i x σ H1 D.nx) := h
  refine wpAny_bind (thn (dcT_core (Qf := fun _ s' => SP X pins D .next s') hu hc hN I hi ok pg pt pk pv hs h fun L C s' m H' I' q hn f => ?_) fun _ s' hq => wpAny_pure (wpAny_pure hq))
  show wpAny _ _ (assign (.Name y py) X.env (.ref L)) _ _ _
  refine wpAny_assign_Name (store_ok2 (v := V.ref L) I' hN hy (.inl hyl) rfl (fun s2 I2 ⟨a, sb, ha⟩ => ?_) (.inr hyl))
  obtain ⟨f0, f1, f2, f3, f4, f5⟩ := f
  have haC : C ≠ a := by
    rcases ha with z | z
    · rw [z]; exact f1
    · exact fun e => f4 y a z e.symm
  refine ⟨m, hn.sameBut sb haC, fun h3 sb3 => ?_⟩
  exact ⟨_, H', I2.turned (t' := s2.toks) (fun b o hb e => (sb3.2 b hb).trans e) f0 f1 f3 f4 f5, q⟩
end
end Y
end

section
set_option Elab.async false
set_option linter.all false
set_option maxRecDepth 100000
set_option maxHeartbeats 2000000
/-! YMs: sorted of a dict whose keys are tuples of ints; the rule of its comprehension over Y. -/
namespace Y
open PySem PySem.Spec PyProof.Rows L2 PySem.Calls PyProof.V
def keyD : Key → D
  | .inl i => .int i
  | .inr x => .str x
def keysD (h : Hm) (d : D) : Option (List D) := (dtuOf h d).map fun kvs => kvs.map fun kv => .tup (kv.1.map keyD)
/-- sorted(x): a list, or a dict with tuples as keys -/
def mSortA (h : Hm) : List D → Option (List D)
  | [d] => match keysD h d with
    | some ks => sortD ks
    | none => mSorted h [d]
  | xs => mSorted h xs
section
variable {X : Cx} {k : Nat}
theorem rep_keys {K : PySem.W.Frag} {φ : List Addr} {H : Hp} : ∀ ks : List Key, RepL K φ H (ks.map keyD) (ks.map kV)
  | [] => .nil
  | .inl i :: ks => .cons (.int i) (rep_keys ks)
  | .inr x :: ks => .cons (.str x) (rep_keys ks)
/-- sorted(d), by what the keys stand for -/
theorem sort_src (c0 : Cs k X) {β : Type} {enc : β → PyData} {toD : β → D} (hpy : ∀ h b, py h (toD b) = some (enc b)) {bs : List β} (hal : PySem.W.AllAlike (bs.map enc)) (hk : PySem.W.Sortable (bs.map enc)) (hd : ∀ b ∈ bs, (enc b).depth ≤ 64)
    {φ : List Addr} {H : Hp} {a : Addr} {kvs : List (List Key × V)} (ha : H a = some (.dT kvs)) (hb : bs.map toD = kvs.map fun kv => .tup (kv.1.map keyD)) :
    CallR X (.builtin "sorted") (fun us H' Q => us = [.ref a] ∧ H' = H ∧ ∀ p vs', H p = none → RepL X.K φ H ((bs.mergeSort (PySem.W.dataLe false enc)).map toD) vs' → Q (.ref p) (upd H p (.lst vs'))) := by
  intro pins s σ H1 xs us Q I r1 hh
  obtain ⟨rfl, rfl, q⟩ := hh
  rw [Vals.ref1 r1]
  obtain ⟨z, hs, ks, pr, o, es, ep, ho, hx, hdt, he, _⟩ := (show ObjOk X.prog X.w H1 s.heap a (.dT kvs) from I.hok a _ ha)
  have l1 : es.size = ks.length := size_of_entries he
  have l2 : kvs.length = ks.length := Paired.length pr
  have rep : ∀ {kvs : List (List Key × V)} {ks : List (List Key × Addr × Value)} {bs : List β}, Paired (fun (p : List Key × V) (q : List Key × Addr × Value) => p.1 = q.1 ∧ H1 q.2.1 = some (.tup (p.1.map kV)) ∧ RelV p.2 q.2.2) kvs ks → (bs.map toD = kvs.map fun kv => .tup (kv.1.map keyD)) →
      PySem.W.EachIs (fun u b => ∃ v, RelV v u ∧ Rep X.K φ H1 (toD b) v) (ks.map fun x => Value.ref x.2.1) bs := by
    intro kvs ks bs r
    induction r generalizing bs with
    | nil =>
      intro e
      cases bs with
      | nil => exact .nil
      | cons b bs => cases e
    | @cons p q kvs ks h1 _ ih =>
      intro e
      cases bs with
      | nil => cases e
      | cons b bs =>
        simp only [List.map_cons, List.cons.injEq] at e
        refine .cons ⟨.ref q.2.1, rfl, ?_⟩ (ih e.2)
        rw [e.1]
        exact .tup h1.2.1 (rep_keys _)
  refine call_function_entry kind_sorted plain_sorted entry_sorted (args_sorted1 _) ?_
  unfold Builtin.«sorted»
  refine wpAny_bind (m := checkCount "sorted" 1 1 _) (wpAny_pure (wpAny_bind (PySem.W.kdu_collect (A := X.A.in1) (kdl_raw hs hx hdt) (I.ok.hd c0.calm) ho (by omega) fun h' tk acc keep items => ?_)))
  have ea : acc.toList = ks.map fun x => Value.ref x.2.1 := by
    have hl : acc.toList.length = ks.length := by rw [Array.length_toList, items.1]; exact l1
    apply List.ext_getElem?
    intro j
    rw [List.getElem?_map]
    by_cases lt : j < ks.length
    · have hj : acc.toList[j]? = some acc.toList[j] := List.getElem?_eq_getElem (by omega)
      obtain ⟨en, hen, hv⟩ := items.2 j _ (by rw [← Array.getElem?_toList]; exact hj)
      have qe := entry_at he j
      rw [hen, List.getElem?_eq_getElem lt] at qe
      rw [hj, hv, List.getElem?_eq_getElem lt, show en = entryOfKey (tupleKind (mixKind X.prog X.w)) ks[j] from Option.some.inj qe]
      rfl
    · rw [List.getElem?_eq_none (by omega), List.getElem?_eq_none (by omega)]
      rfl
  have e0 := rep pr hb
  rw [← ea] at e0
  have I1 : Inv X pins σ H1 { s with heap := h', toks := tk } := I.kept keep
  have hlen : bs.length ≤ sizeLine := by
    have := congrArg List.length hb
    simp only [List.length_map] at this
    omega
  have hacc : acc.toList.length = bs.length := by
    have := congrArg List.length hb
    simp only [List.length_map] at this
    rw [ea, List.length_map]
    omega
  refine wpAny_bind (wpAny_newList ?_ (by rw [hacc]; exact hlen))
  have ho2 : (h'.push { cls := .type "list", data := .seq acc.toList.toArray }).get? h'.objs.size = some (seqObj "list" acc.toList.toArray 0) := Heap.get?_push_size _ rfl
  have kp2 : ∀ b u, h'.get? b = some u → (h'.push { cls := .type "list", data := .seq acc.toList.toArray }).get? b = some u := fun b u e => Heap.get?_push_of_some _ e
  have I2 : Inv X pins σ H1 { s with heap := h'.push { cls := .type "list", data := .seq acc.toList.toArray }, toks := tk } := I1.kept (t' := tk) kp2
  have er : PySem.W.EachIs (fun u b => ∃ as, Reads (h'.push { cls := .type "list", data := .seq acc.toList.toArray }) u (enc b) as ∧ h'.objs.size ∉ as) acc.toList bs := e0.mono fun u b ⟨v, r, q⟩ => by
    obtain ⟨as, rd⟩ := Dp.reads I1 _ _ _ (Rep.dp (toD b) v (enc b) (hpy [] b) q) r
    refine ⟨as, PyProof.Rows.Reads.keeps kp2 rd, fun m => ?_⟩
    obtain ⟨o, e⟩ := PyProof.On.reads_mem_get rd _ m
    exact absurd (Heap.lt_size e) (Nat.lt_irrefl _)
  have hu := c0.room.un
  have sorted := PySem.W.list_sort_data (prog := X.prog) (w := X.w) (A := X.A.in1) (E := X.xe) (s := { s with heap := h'.push { cls := .type "list", data := .seq acc.toList.toArray }, toks := tk }) (Q := fun _ s' => EP X pins σ Q (.ref h'.objs.size) s') ho2 e0 er hal hk hlen
    (fun b hb => by have := hd b hb; show X.A.units + 1 + 1 + (enc b).depth < cLine; omega) fun out lo eo => ?_
  · exact wpAny_bind (wpAny_holding (wpAny_mono sorted (fun _ s' x => wpAny_pure ⟨_, rfl, x⟩) fun _ _ e => e))
  · obtain ⟨ep2, heq⟩ := PyProof.Rows.sortedHeap_at (vs := acc.toList) (out := out.toArray) ho2
    have back : ∀ {out : List Value} {bs : List β}, PySem.W.EachIs (fun u b => ∃ v, RelV v u ∧ Rep X.K φ H1 (toD b) v) out bs → ∃ vs', Vals vs' out ∧ RepL X.K φ H1 (bs.map toD) vs' := by
      intro out bs r
      induction r with
      | nil => exact ⟨[], .nil, .nil⟩
      | cons h1 _ ih =>
        obtain ⟨v, r1, r2⟩ := h1
        obtain ⟨vs', r3, r4⟩ := ih
        exact ⟨v :: vs', .cons r1 r3, .cons r2 r4⟩
    obtain ⟨vs', v1, v2⟩ := back eo
    have hl2 : vs'.length ≤ sizeLine := by rw [v1.length, lo]; exact hlen
    refine ⟨.ref _, upd H1 h'.objs.size (.lst vs'), I1.laid (t' := tk) (fun b u e => ?_) (Nat.le_refl _) ⟨hl2, out, ep2, v1, by simpa using heq⟩, rfl, q _ _ (I1.hok.fresh (Nat.le_refl _)) v2⟩
    exact (PyProof.Rows.sortedHeap_old (Nat.ne_of_lt (Heap.lt_size e)) (Heap.lt_size (kp2 b u e))).trans (kp2 b u e)
theorem c_sortA (c0 : Cs k X) : CaL X (.builtin "sorted") mSortA := fun pins s σ H vs us Q I r w => by
  obtain ⟨cl, We, φ, hh, xs, R, q, P⟩ := w
  have other : mSortA hh xs = mSorted hh xs → wpAny (model X.prog X.w) X.A (call (.builtin "sorted") us) (EP X pins σ Q) X.xe s := fun e => by
    rw [e] at P
    exact c_sorted c0 pins s σ H vs us Q I r ⟨cl, We, φ, hh, xs, R, q, P⟩
  rcases xs with _ | ⟨d, _ | _⟩
  · exact other rfl
  · cases ek : keysD hh d with
    | none => exact other (by simp only [mSortA, ek])
    | some ks =>
      simp only [mSortA, ek] at P
      unfold keysD at ek
      obtain ⟨kvs, e1, e2⟩ := Option.map_eq_some_iff.mp ek
      obtain ⟨v, rfl, rd⟩ := q.one
      cases rd <;> simp only [dtuOf] at e1 <;> try (cases e1; done)
      rename_i n a hk
      obtain ⟨ob, h3, h4⟩ := R.at hk
      rw [h3] at e1
      cases h4 with
      | lst _ _ => cases e1
      | dct _ _ => cases e1
      | @dtu kvs' vs' hd rr =>
        simp only [Option.some.injEq] at e1
        subst e1
        have ev : ks = vs'.map fun kv => D.tup (kv.1.map keyD) := by
          rw [← e2]
          have : ∀ {xs : List (List Key × D)} {ys : List (List Key × V)}, RepK X.K φ H xs ys → (xs.map fun kv => D.tup (kv.1.map keyD)) = ys.map fun kv => D.tup (kv.1.map keyD) := fun r => by
            induction r with
            | nil => rfl
            | cons h _ ih => simp [h.1, ih]
          exact this rr
        have fin : ∀ z, sortD ks = some z → ∀ p vs'', H p = none → RepL X.K φ H z vs'' → Q (.ref p) (upd H p (.lst vs'')) := fun z ez p vs'' hp hr => by
          rw [ez] at P
          exact P φ _ _ (Lat.new hp) (R.new hp) (fresh_new R hp hr)
        cases h1 : intsOf ks with
        | some ns =>
          have em := intsOf_map h1
          cases ks with
          | nil =>
            cases ns with
            | cons _ _ => cases em
            | nil =>
              have g := sort_src c0 (φ := φ) (enc := PyData.int) (toD := D.int) (fun _ _ => rfl) (bs := []) (PySem.W.AllAlike.of fun _ _ => rfl) (PySem.W.Sortable.others fun _ => ⟨by simp, by simp⟩) (fun _ h => by cases h) hd (by rw [← ev]; rfl)
              refine g pins s σ H _ us Q I r ⟨rfl, rfl, fun p vs'' hp hr => fin [] (by simp [sortD, intsOf, intsL, isort]) p vs'' hp ?_⟩
              simpa using hr
          | cons x ks =>
            cases vs' with
            | nil => cases ev
            | cons y ys =>
              simp only [List.map_cons, List.cons.injEq] at ev
              rw [ev.1] at h1
              simp [intsOf] at h1
        | none =>
          cases h2 : rowsOf ks with
          | none =>
            simp only [sortD, h1, h2, ofO] at P
            exact P.elim
          | some rs =>
            obtain ⟨em, hne⟩ := rowsOf_map h2
            have g := sort_src c0 (φ := φ) (enc := fun r : List Int => PyData.tuple (r.map .int)) (toD := rowD) (fun h b => py_row h b) (bs := rs)
              (PySem.W.AllAlike.of fun b b' => by simp only [PySem.W.alike]; exact PySem.W.alike_ints b b')
              (.inl fun d hd => by
                obtain ⟨b, hb, rfl⟩ := List.mem_map.mp hd
                cases b with
                | nil => exact absurd rfl (hne _ hb)
                | cons x r => exact ⟨_, _, rfl⟩) (fun b _ => by simp [PyData.depth, PySem.W.depth_ints]) hd (by rw [← em, ev])
            rw [dataLe_tups (fun b => b), rowsL_eq] at g
            exact g pins s σ H _ us Q I r ⟨rfl, rfl, fun p vs'' hp hr => fin _ (by simp only [sortD, h1, h2]; try rfl) p vs'' hp hr⟩
  · exact other rfl
end
/-! ### {k: v for ..}, the keys tuples -/
def dcT (g : Gv) (c : Tv) (k v : Ev) (σ : Sl) : List D → List (List Key × D) → Hm → Rs (List (List Key × D))
  | [], a, h => .ok a h
  | d :: ds, a, h => match g d σ with
    | none => .bad
    | some σ1 => (c σ1 h).bindN fun t h1 => if t = true then (k σ1 h1).bindN fun y h2 => (v σ1 h2).bindN fun z h3 => match tkOf y with
      | some ky => if a.length < line then dcT g c k v σ ds (setK a ky z) h3 else .bad
      | none => .bad else dcT g c k v σ ds a h1
def eDcT (it : Iv) (g : Gv) (c : Tv) (k v : Ev) (vs : List Nat) : Ev := fun σ h => (it σ h).bind fun ds h1 => (dcT g c k v (unset σ vs) ds [] h1).bind fun a h2 => .ok (.loc h2.length) (h2 ++ [.dtu a])
theorem dcT_ne {g : Gv} {t : Tv} {k v : Ev} {σ : Sl} : ∀ {ds : List D} {a : List (List Key × D)} {h : Hm} {x : Exn} {h2 : Hm}, dcT g t k v σ ds a h ≠ .ex x h2
  | [], a, h, x, h2, q => by simp [dcT] at q
  | d :: ds, a, h, x, h2, q => by
    simp only [dcT] at q
    split at q
    · cases q
    · obtain ⟨c, h3, _, q⟩ := bindN_ex q
      split at q
      · obtain ⟨y, h4, _, q⟩ := bindN_ex q
        obtain ⟨z, h5, _, q⟩ := bindN_ex q
        split at q
        · split at q
          · exact dcT_ne q
          · cases q
        · cases q
      · exact dcT_ne q
section
variable {X : Cx} {cl : Cl} {W : WX} {kx vx tg iter : Expr} {ifs : List Expr} {it : Iv} {g : Gv} {is : List Nat} {t : Tv} {fk fv : Ev} {scope : Scope} {own : List (Str × Nat)} {pos : Pos}
theorem dcT_go (his : ∀ i ∈ is, i ∈ own.map (·.2)) (hcl : ∀ v ∈ own.map (·.2), cl v = none) {σ : L2.St} {H : Hp} {Q : VK} (p : tG X.K cl W (RR X.K) (eDcT it g t fk fv (own.map (·.2))) σ H Q) :
    tDcT (tI X.K cl W it) (tGv X.K cl g is) (tG X.K cl W0 RBool t) (tG X.K cl W0 (RR X.K) fk) (tG X.K cl W0 (RR X.K) fv) (own.map (·.2)) σ H Q := by
  obtain ⟨φ, st, h0, S, R0, P⟩ := p
  refine ⟨φ, st, h0, S, R0, ?_⟩
  unfold eDcT at P
  cases e : it st h0 with
  | bad => simp only [e, Rs.bind] at P; exact P
  | ex ex1 h1 => simp only [e, Rs.bind] at P; exact P
  | ok ds h1 =>
    simp only [e, Rs.bind] at P
    intro φ1 H1 J l1 r1 dv D hD
    cases e1 : dcT g t fk fv (unset st (own.map (·.2))) ds [] h1 with
    | bad => rw [e1] at P; exact P.elim
    | ex ex1 h2 => exact (dcT_ne e1).elim
    | ok res hf =>
      rw [e1] at P
      simp only at P
      have nD1 : D ∉ φ1 := r1.notin hD
      have nD0 : H D = none := l1.gone nD1 hD
      refine ⟨fun i m H2 => m = ds.length - i ∧ i ≤ ds.length ∧ ∃ φ2 h2 acc accV, Lat φ1 H1 φ2 H2 ∧ HR X.K φ2 H2 h2 ∧ D ∉ φ2 ∧ H2 D = some (.dT accV) ∧ RepK X.K φ2 H2 acc accV ∧ dcT g t fk fv (unset st (own.map (·.2))) (ds.drop i) acc h2 = .ok res hf,
        ⟨_, rfl, Nat.zero_le _, φ1, h1, [], [], Lat.new hD, r1.new hD, nD1, upd_same, .nil, e1⟩, ?_⟩
      rintro i m H2 ⟨rfl, hi, φ2, h2, acc, accV, l2, r2, nD2, eD, ra, ec⟩
      obtain ⟨d1, d2⟩ := dv φ2 H2 h2 l2.wk r2
      by_cases lt : i < ds.length
      · obtain ⟨go, yl⟩ := d1 i ds[i] (List.getElem?_eq_getElem lt)
        refine .inr ⟨go, fun H' => ∃ φ2 h2 acc accV, Lat φ1 H1 φ2 H' ∧ HR X.K φ2 H' h2 ∧ D ∉ φ2 ∧ H' D = some (.dT accV) ∧ RepK X.K φ2 H' acc accV ∧ dcT g t fk fv (unset st (own.map (·.2))) (ds.drop (i + 1)) acc h2 = .ok res hf,
          fun H' n => ⟨ds.length - (i + 1), by omega, rfl, lt, n⟩, fun x H3 y => ?_⟩
        obtain ⟨l3, r3, rx⟩ := yl x H3 y
        rw [List.drop_eq_getElem_cons lt] at ec
        simp only [dcT] at ec
        cases e2 : g ds[i] (unset st (own.map (·.2))) with
        | none => rw [e2] at ec; cases ec
        | some st3 =>
          rw [e2] at ec
          have L3 := l2.trans l3
          have S3 : SR X.K cl φ2 H3 (unset st (own.map (·.2))) (wipe σ (own.map (·.2))) := (S.mono (l1.trans L3)).unset _ hcl
          refine ⟨φ2, _, ds[i], st3, S3, rx, e2, fun τ S4 ch => ⟨by rw [ch.wipe his, wipe_wipe], φ2, st3, h2, S4, r3, ?_⟩⟩
          simp only at ec
          obtain ⟨c1, h4, e3, ec⟩ := bindN_ok ec
          rw [e3]
          intro φ4 H4 c2 l4 r4 ecc
          cases (show c1 = c2 from ecc)
          have l34 := l3.trans l4
          have eD4 : H4 D = some (.dT accV) := l34.keep D _ eD nD2
          have nD4 : D ∉ φ4 := l34.out eD nD2
          have ra4 := ra.mono l34.pre l34.per
          cases c1 with
          | false =>
            rw [if_neg Bool.false_ne_true]
            rw [if_neg Bool.false_ne_true] at ec
            exact ⟨φ4, h4, acc, accV, L3.trans l4, r4, nD4, eD4, ra4, ec⟩
          | true =>
            rw [if_pos rfl]
            rw [if_pos rfl] at ec
            obtain ⟨y1, h5, e5, ec⟩ := bindN_ok ec
            obtain ⟨z1, h6, e6, ec⟩ := bindN_ok ec
            refine ⟨φ4, st3, h4, S4.mono l4, r4, ?_⟩
            rw [e5]
            intro φ5 H5 yv l5 r5 ry
            refine ⟨φ5, st3, h5, (S4.mono l4).mono l5, r5, ?_⟩
            rw [e6]
            intro φ6 H6 zv l6 r6 rz
            have l56 := l5.trans l6
            have eD6 : H6 D = some (.dT accV) := l56.keep D _ eD4 nD4
            have nD6 : D ∉ φ6 := l56.out eD4 nD4
            have ra6 := ra4.mono l56.pre l56.per
            split at ec
            · rename_i ky ek
              split at ec
              · rename_i hl
                obtain ⟨b, rfl, eb⟩ := tk_of_rep (Rep.mono l6.pre l6.per _ _ ry) ek
                refine ⟨b, accV, ky, rfl, eb, eD6, by rw [← Paired.length ra6, ← line_eq]; exact hl, φ6, h6, _, _, Lat.tmp ((L3.trans l4).trans l56) hD eD6 rfl, r6.out nD6 eD6 rfl, nD6, upd_same, ?_, ec⟩
                exact (ra6.set ky rz).mono (List.prefix_refl _) (Per.wr eD6 rfl)
              · cases ec
            · cases ec
      · have ei : i = ds.length := by omega
        subst ei
        rw [List.drop_length] at ec
        simp only [dcT, Rs.ok.injEq] at ec
        obtain ⟨rfl, rfl⟩ := ec
        have L := l1.trans l2
        refine .inl ⟨d2, P (φ2 ++ [D]) _ _ ⟨L.pre.trans (List.prefix_append _ _), L.per, L.keepT, fun b m => ?_⟩ (r2.add nD2 (.dtu eD (ra.mono (List.prefix_append _ _) (Per.refl _)))) (.loc ?_)⟩
        · rcases List.mem_append.mp m with m | m
          · exact L.fresh b m
          · simp at m
            subst m
            exact .inr nD0
        · rw [List.getElem?_append_right (by rw [r2.len]; exact Nat.le_refl _)]
          simp [r2.len]
theorem s_dcT {k : Nat} (c0 : Cs k X) (hi : SI X cl W tg iter it) (ok : BlkOk X.N X.env.scope scope own) (his : ∀ i ∈ is, i ∈ own.map (·.2))
    (hg : ∀ (s : Shared) (H : Hp) (C : Addr) (cc : List (Str × Addr)) (fp : List Addr), SG (X.blk s H scope (compEnvC scope cc C X.env) fp) cl tg g is)
    (ht : ∀ (s : Shared) (H : Hp) (C : Addr) (cc : List (Str × Addr)) (fp : List Addr), STs (X.blk s H scope (compEnvC scope cc C X.env) fp) cl W0 ifs t)
    (hk : ∀ (s : Shared) (H : Hp) (C : Addr) (cc : List (Str × Addr)) (fp : List Addr), SE (X.blk s H scope (compEnvC scope cc C X.env) fp) cl W0 kx fk)
    (he : ∀ (s : Shared) (H : Hp) (C : Addr) (cc : List (Str × Addr)) (fp : List Addr), SE (X.blk s H scope (compEnvC scope cc C X.env) fp) cl W0 vx fv) (hs : ∀ x, foldedSetIterable iter X.env x = pure x := by intro _; rfl) (hcl : ∀ v ∈ own.map (·.2), cl v = none := by first | exact fun _ _ => rfl | simp [pinCl]) :
    SE X cl W (.DictComp kx vx [⟨tg, iter, ifs, 0⟩] scope pos) (eDcT it g t fk fv (own.map (·.2))) := PE.of (pe_dcT c0.hu c0.calm c0.nd hi ok hg ht hk he hs) fun σ H Q p => dcT_go his hcl p
theorem s_setDc {k i : Nat} {y : Str} {py spos : Pos} (c0 : Cs k X) (hy : X.N[i]? = some y) (hyl : X.env.scope.names.lookup y = some .local)
    (hsw : swapsWith (.DictComp kx vx [⟨tg, iter, ifs, 0⟩] scope pos) (some (.Name y py)) spos.line X.env = pure true) (hi : SI X cl W tg iter it) (ok : BlkOk X.N X.env.scope scope own) (his : ∀ i ∈ is, i ∈ own.map (·.2))
    (hg : ∀ (s : Shared) (H : Hp) (C : Addr) (cc : List (Str × Addr)) (fp : List Addr), SG (X.blk s H scope (compEnvC scope cc C X.env) fp) cl tg g is)
    (ht : ∀ (s : Shared) (H : Hp) (C : Addr) (cc : List (Str × Addr)) (fp : List Addr), STs (X.blk s H scope (compEnvC scope cc C X.env) fp) cl W0 ifs t)
    (hk : ∀ (s : Shared) (H : Hp) (C : Addr) (cc : List (Str × Addr)) (fp : List Addr), SE (X.blk s H scope (compEnvC scope cc C X.env) fp) cl W0 kx fk)
    (he : ∀ (s : Shared) (H : Hp) (C : Addr) (cc : List (Str × Addr)) (fp : List Addr), SE (X.blk s H scope (compEnvC scope cc C X.env) fp) cl W0 vx fv) (hs : ∀ x, foldedSetIterable iter X.env x = pure x := by intro _; rfl) (hcl : ∀ v ∈ own.map (·.2), cl v = none := by first | exact fun _ _ => rfl | simp [pinCl]) :
    SS X cl W (.Assign [.Name y py] (.DictComp kx vx [⟨tg, iter, ifs, 0⟩] scope pos) spos) (sAsg (gN i) (eDc it g t fk fv (own.map (·.2)))) := PS.of (ps_setDc c0.calm c0.nd hy hyl hsw hi ok hg ht hk he hs) fun D σ H p =>
  dc_go his hcl (Q := fun x H1 => gName i x σ H1 D.nx) (seqO (Rel := RR X.K) (k := fun σ d h1 => outO (gN i d σ) h1) p fun φ0 st φ H1 h1 x w l S R r P => P _ _ l φ H1 _ (Lat.refl _ _) R (S.set i r))
theorem s_setDcT {k i : Nat} {y : Str} {py spos : Pos} (c0 : Cs k X) (hy : X.N[i]? = some y) (hyl : X.env.scope.names.lookup y = some .local)
    (hsw : swapsWith (.DictComp kx vx [⟨tg, iter, ifs, 0⟩] scope pos) (some (.Name y py)) spos.line X.env = pure true) (hi : SI X cl W tg iter it) (ok : BlkOk X.N X.env.scope scope own) (his : ∀ i ∈ is, i ∈ own.map (·.2))
    (hg : ∀ (s : Shared) (H : Hp) (C : Addr) (cc : List (Str × Addr)) (fp : List Addr), SG (X.blk s H scope (compEnvC scope cc C X.env) fp) cl tg g is)
    (ht : ∀ (s : Shared) (H : Hp) (C : Addr) (cc : List (Str × Addr)) (fp : List Addr), STs (X.blk s H scope (compEnvC scope cc C X.env) fp) cl W0 ifs t)
    (hk : ∀ (s : Shared) (H : Hp) (C : Addr) (cc : List (Str × Addr)) (fp : List Addr), SE (X.blk s H scope (compEnvC scope cc C X.env) fp) cl W0 kx fk)
    (he : ∀ (s : Shared) (H : Hp) (C : Addr) (cc : List (Str × Addr)) (fp : List Addr), SE (X.blk s H scope (compEnvC scope cc C X.env) fp) cl W0 vx fv) (hs : ∀ x, foldedSetIterable iter X.env x = pure x := by intro _; rfl) (hcl : ∀ v ∈ own.map (·.2), cl v = none := by first | exact fun _ _ => rfl | simp [pinCl]) :
    SS X cl W (.Assign [.Name y py] (.DictComp kx vx [⟨tg, iter, ifs, 0⟩] scope pos) spos) (sAsg (gN i) (eDcT it g t fk fv (own.map (·.2)))) := PS.of (ps_setDcT c0.hu c0.calm c0.nd hy hyl hsw hi ok hg ht hk he hs) fun D σ H p =>
  dcT_go his hcl (Q := fun x H1 => gName i x σ H1 D.nx) (seqO (Rel := RR X.K) (k := fun σ d h1 => outO (gN i d σ) h1) p fun φ0 st φ H1 h1 x w l S R r P => P _ _ l φ H1 _ (Lat.refl _ _) R (S.set i r))
end
end Y
end

section
set_option Elab.async false
set_option linter.all false
set_option maxRecDepth 100000
set_option maxHeartbeats 2000000
/-! YMw: a, b = a list. -/
namespace Y
open PySem PySem.Spec PyProof.Rows L2
def gTL (gs : List Gv) : Gv := fun d σ => match d with
  | .fl xs => gTs gs xs σ
  | .sq xs => gTs gs xs σ
  | _ => none
section
variable {X : Cx} {pos : Pos}
theorem g_unl {es : List Expr} {n : Nat} {gs : List Gv} {is : List Nat} (hc : X.calm = true) (h : PGs X es (tGvs X.K cl gs is)) (hn : (assignEach es X.env).length = gs.length := by rfl) (hst : (assignEach es X.env).findIdx? (·.1) = none := by rfl) :
    SG X cl (.Tuple es n pos) (gTL gs) is := PG.of (pg_unl hc h hn hst) fun v σ H Q ⟨φ, st, d, st1, S, r, e, q⟩ => by
  cases r with
  | fl hq rr => exact ⟨_, _, rfl, .inl (.inr ⟨_, hq⟩), by rw [← rr.length]; exact gTs_len (show gTs gs _ st = some st1 from e), φ, st, _, st1, S, rr, e, q⟩
  | sq hq rr => exact ⟨_, _, rfl, hq.sq, by rw [← rr.length]; exact gTs_len (show gTs gs _ st = some st1 from e), φ, st, _, st1, S, rr, e, q⟩
  | _ => cases (show (none : Option Sl) = some st1 from e)
end
end Y
end

section
set_option Elab.async false
set_option linter.all false
set_option maxRecDepth 100000
set_option maxHeartbeats 2000000
/-! YMo: exceptions of own classes as values: made, their fields, isinstance. -/
namespace Y
open PySem PySem.Spec PyProof.Rows L2
/-- C(e, ..), held as a value -/
def eMkE (c : Str) (fs : List Str) (a : Av) : Ev := fun σ h => (a σ h).bind fun xs h1 => if xs.length = fs.length ∧ fs.length ≤ 10 then .ok (.obj c fs.reverse xs.reverse) h1 else .bad
def eMk0 (c : Str) : Ev := fun _ h => .ok (.obj c [] []) h
/-- x.n, x an exception -/
def oFldE (n : Str) (_ : Hm) : D → Option D
  | .obj c ns ds => if excN c = true ∧ fullN ns = false then (ns.zip ds).lookup n else none
  | _ => none
/-- isinstance(x, c), x an exception -/
def excIs (c' c : Str) : Bool := decide (c' = c) || decide (c = "LineError") || decide (c = "ValueError")
def isE (c : Str) (_ : Hm) : D → Option D
  | .obj c' ns _ => if excN c' = true ∧ fullN ns = false then some (.bl (excIs c' c)) else none
  | _ => none
/-- C(e, ..), C's own __init__ keeping sp -/
def tMkV (C : Addr) (sp : Sp) (ta : TA) : TE := fun σ H Q => ta σ H fun vs H1 => vs.length ≤ 1000 ∧ ∀ a, H1 a = none → sp (.ref a :: vs) (upd H1 a (exo a C none)) (fun v H2 => v = .non ∧ Q (.ref a) H2) (fun _ _ _ => False)
section
variable {X : Cx} {e : Expr} {es : List Expr} {ta : TA} {p pos : Pos}
theorem pe_oex {CX : CXT} {x : Str} {C fI : Addr} {k : Nat} {fd : FuncData} {ps : List Str} {sp : Sp} (T : OexC X.K C) (iC : PySem.W.findIn X.K (.ref C) "__init__" = some (some (.ref fI))) (tI : PySem.W.typeIn X.K (.ref fI) = some (.type "function"))
    (F1 : FnOk X.prog X.w X.K X.mg X.base CX k fI fd ps sp) (hr : Room (k + 1) X.A) (hb : Binds X.K fd ps []) (hx : Passes CX X (fun _ _ _ => False)) (hg : Gl X x) (hm : X.mg x = some (.ref C)) (ha : PA X (e :: es) ta)
    (hdb : (x == ("__debug__" : Str)) = false := by decide) (he : starEach (e :: es) X.env = (false, eval e X.env) :: starEach es X.env := by rfl) (hpl : (backTo pos (starEach es X.env)).any (·.1) = false := by rfl) :
    PE X (.Call (.Name x p) (e :: es) [] pos) (tMkV C sp ta) := by
  refine ⟨fun pins s σ H Q I h => ?_⟩
  obtain ⟨nm, q, N, bs, bm, sn, sub, ab, col, dd, k0, k1, k2, k3, k5, hC, hbm⟩ := T.cls
  refine wpAny_Call_Name_kw (ld_glob I hg hm ?_ hdb)
  refine PySem.W.callWith_K (h₀ := X.base) I.ok.mod.kin T.kC (thn (ha.run pos pins s σ H _ I h) fun us s1 ⟨vs, H1, I1, r1, hz, q1⟩ => ⟨I1.kIn, ?_⟩) he hpl
  show wpAny _ _ (call (.ref C) us) _ _ _
  obtain ⟨hp, g, dr, tk, os⟩ := s1
  have hsz : hp.objs.size ≤ hp.objs.size + 1 := Nat.le_succ _
  have hn : H1 (hp.objs.size + 1) = none := I1.hok.fresh hsz
  have hq := q1 (hp.objs.size + 1) hn
  have kk : ∀ b o, hp.get? b = some o → ((hp.push (PySem.W.kdv_tup us)).push (PySem.HandSPX.excO C hp.objs.size)).get? b = some o := fun b o e => Heap.get?_push_of_some _ (Heap.get?_push_of_some _ e)
  have hget : ((hp.push (PySem.W.kdv_tup us)).push (PySem.HandSPX.excO C hp.objs.size)).get? (hp.objs.size + 1) = some (PySem.HandSPX.excO C hp.objs.size) := by heap_get
  have I2 : Inv X pins σ (upd H1 (hp.objs.size + 1) (exo (hp.objs.size + 1) C none)) ⟨(hp.push (PySem.W.kdv_tup us)).push (PySem.HandSPX.excO C hp.objs.size), g, dr, tk, os⟩ :=
    I1.laid (t' := tk) (a := hp.objs.size + 1) (o := exo (hp.objs.size + 1) C none) (h' := (hp.push (PySem.W.kdv_tup us)).push (PySem.HandSPX.excO C hp.objs.size)) kk hsz (exo_ok hget)
  have r2 : Vals (V.ref (hp.objs.size + 1) :: vs) (Value.ref (hp.objs.size + 1) :: us) := .cons rfl r1
  have hl : (Value.ref (hp.objs.size + 1) :: us ++ []).length = ps.length := by
    have e := r2.length
    rw [F1.len _ _ _ _ hq] at e
    rw [List.append_nil]
    exact e.symm
  have hus : us.length ≤ sizeLine := by
    rw [← Paired.length r1, sizeLine_eq]
    omega
  refine wpAny_call (PySem.HandSPX.call_own F.excBase_ValueError (fun Y => PySem.HandSPX.refsVE_contains Y bm hbm) (I1.kIn _ _ hC) (PySem.W.looks_findIn I1.kIn iC) (fun self => PySem.W.bind_fn I1.kIn self tI) hus
    (codeAny_mono (F1.run _ X.stack _ _ ⟨Value.ref (hp.objs.size + 1) :: us, []⟩ (Value.ref (hp.objs.size + 1) :: us) _ _ (fun _ _ _ => False) (hr.make C us []) (I2.env0.make C us []) (by have := hb _ (Value.ref (hp.objs.size + 1) :: us) I2.kIn hl; rwa [List.append_nil] at this) r2 hq) fun r s' hq' => ?_))
  cases r with
  | error er => exact hx pins σ _ _ er s' I2 hq'
  | ok fl =>
    cases fl with
    | ret u =>
      obtain ⟨v, H2, os2, bare2, un2, hok2, rv, ev, q2⟩ := hq'
      subst ev
      obtain ⟨h2, g2, d2, t2, os'⟩ := s'
      exact ⟨rv, .ref (hp.objs.size + 1), H2, I2.call' (ch := []) os2 un2 hok2 bare2 (fun b z => absurd z (by simp)), rfl, q2⟩
    | next => exact False.elim hq'
    | brk => exact False.elim hq'
    | cont => exact False.elim hq'
end
section
variable {X : Cx} {cl : Cl} {W : WX} {e : Expr} {es : List Expr} {f : Ev} {fa : Av} {pos p p2 : Pos} {k : Nat} {c n : Str} {fs : List Str}
theorem s_mkE (E : Exc X.prog X.w X.K X.mg X.base c fs) (c0 : Cs k X) (hk : 2 ≤ k) (he0 : excN c = true) (ha : SA X cl W (e :: es) fa) (hg : Gl X c := by rfl) (hdb : (c == ("__debug__" : Str)) = false := by decide)
    (he : starEach (e :: es) X.env = (false, eval e X.env) :: starEach es X.env := by rfl) (hpl : (backTo pos (starEach es X.env)).any (·.1) = false := by rfl) : SE X cl W (.Call (.Name c p) (e :: es) [] pos) (eMkE c fs fa) := by
  obtain ⟨C, fI, fd, gm, hns, T, iC, tI, F, hb⟩ := E.ex
  refine PE.of (pe_oex T iC tI F (c0.room.mono hk) hb (pass0 : Passes CX0 X _) hg gm ha hdb he hpl) fun σ H Q p => ?_
  refine seq1 (k := fun xs h1 => if xs.length = fs.length ∧ fs.length ≤ 10 then .ok (D.obj c fs.reverse xs.reverse) h1 else .bad) p fun φ H1 h1 xs vs R rx P => ?_
  split at P
  · rename_i hl
    obtain ⟨hl, h10⟩ := hl
    have lv : vs.length = fs.length := by rw [← rx.length, hl]
    refine ⟨by omega, fun a ha => ⟨a, vs, rfl, lv, upd_same, fun dx H2 n1 n2 e2 e3 e4 => ⟨rfl, ?_⟩⟩⟩
    rw [upd_ne n2] at n1
    have eH : H2 = upd (upd H1 dx (exd dx (fs.zip vs).reverse)) a (exo a C (some dx)) := by
      funext b
      by_cases hba : b = a
      · subst hba; rw [upd_same, e2]
      · rw [upd_ne hba]
        by_cases hb : b = dx
        · subst hb; rw [upd_same, e3]
        · rw [upd_ne hb, e4 b hba hb, upd_ne hba]
    have na : upd H1 dx (exd dx (fs.zip vs).reverse) a = none := by rw [upd_ne (Ne.symm n2)]; exact ha
    have L : Lat φ H1 φ H2 := by rw [eH]; exact (Lat.new n1).trans (Lat.new na)
    have R2 : HR X.K φ H2 h1 := by rw [eH]; exact (R.new n1).new na
    refine P φ H2 _ L R2 (.exo (d := some dx) (fs := (fs.zip vs).reverse) (vs := vs.reverse) hns he0 e2 (fun hp ⟨t1, q⟩ => ⟨_, _, q, ⟨rfl, rfl⟩, rfl⟩) (.inr ⟨dx, rfl, e3⟩) ?_ ?_ (RepL.mono (List.prefix_refl _) L.per _ _ rx).rev)
    · rw [List.map_reverse, List.map_fst_zip (by omega)]
    · rw [List.map_reverse, List.map_snd_zip (by omega)]
  · exact P.elim
/-- what is known of the classes of exceptions -/
structure ExcF (K : PySem.W.Frag) (C : Addr) : Prop where
  xf : XfC K C
  cd : (PySem.W.clsIn K C).isSome = true
  ha : PySem.W.findIn K (.ref C) "__class__" = some (some (.builtin "object.__class__"))
  hn : PySem.W.specialIn K (.builtin "object.__class__") "__get__" = some (some (.builtin "getset_descriptor.__get__"))
  ht : PySem.W.takesIn K (.builtin "object.__class__") = some true
  hm : PySem.W.mroIn K C (.type "object") = some true
def ExcA (K : PySem.W.Frag) : Prop := ∀ c C, excN c = true → PySem.W.nsIn K mainGlobals c = some (some (.ref C)) → ExcF K C
theorem exc_inst {P : Program} {w : World} {H : Hp} {h : Heap} {a C : Addr} {d : Option Addr} {fs : List (Str × V)} {ψ : Heap → Prop} (hok : HOk P w H h) (hH : H a = some (.ext ψ)) (hψ : ∀ hp, ψ hp → ∃ oe xs, hp.get? a = some oe ∧ Zc (.ref C) d oe ∧ oe.data = .fields xs)
    (hd : (d = none ∧ fs = []) ∨ ∃ dx, d = some dx ∧ H dx = some (exd dx fs)) : ∃ oe od, PySem.W.InstAt h a oe C od ∧ ∀ n v, fs.lookup n = some v → ∃ u o, od = some o ∧ PySem.W.lookIn n o = some (some u) ∧ RelV v u := by
  obtain ⟨q, _, _⟩ := hok a _ hH
  obtain ⟨oe, xs, e1, ⟨z1, z2⟩, e3⟩ := hψ h q
  have no : PySem.W.notCls oe = true := by unfold PySem.W.notCls; rw [e3] <;> rfl
  rcases hd with ⟨rfl, rfl⟩ | ⟨dx, rfl, hx⟩
  · exact ⟨oe, none, ⟨e1, z1, no, by rw [z2]; trivial⟩, fun n v l => by cases l⟩
  · obtain ⟨mA, hns, hr⟩ := exd_at hok hx
    obtain ⟨od, ho, hl⟩ := lookIn_ns hns
    refine ⟨oe, some od, ⟨e1, z1, no, by rw [z2]; exact ho⟩, fun n v l => ?_⟩
    obtain ⟨u, hu, ru⟩ := RelO.some_of (v := v) (o := mA n) (by rw [← l]; exact hr n)
    exact ⟨u, od, rfl, by rw [hl, hu], ru⟩
theorem s_flE (A : ExcA X.K) (hno : ∀ c C, excN c = true → PySem.W.nsIn X.K mainGlobals c = some (some (.ref C)) → PySem.W.findIn X.K (.ref C) n = some none) (ha : SE X cl W e f) (hb : attributeBase e n X.env (eval e X.env) = eval e X.env := by rfl) : SE X cl W (.Attribute e n pos) (e1 (oFldE n) f) := by
  refine PE.of (t := fun σ H Q => tG X.K cl W (RR X.K) f σ H fun v H1 => ∃ (a C : Addr) (c : Str) (d : Option Addr) (fs : List (Str × V)) (u : V) (ψ : Heap → Prop), v = .ref a ∧ excN c = true ∧ PySem.W.nsIn X.K mainGlobals c = some (some (.ref C)) ∧ H1 a = some (.ext ψ) ∧
      (∀ hp, ψ hp → ∃ oe xs, hp.get? a = some oe ∧ Zc (.ref C) d oe ∧ oe.data = .fields xs) ∧ ((d = none ∧ fs = []) ∨ ∃ dx, d = some dx ∧ H1 dx = some (exd dx fs)) ∧ fs.lookup n = some u ∧ Q u H1) ?_ fun σ H Q p =>
    seq1 (k := fun x h1 => ofO (oFldE n h1 x) h1) p fun φ H1 h1 x v R rx P => ?_
  · refine ⟨fun pins s σ H Q I h => attr_of hb (thn (ha.run pins s σ H _ I h) fun u s1 ⟨x, H1, I1, rx, a, C, c, d, fs, v, ψ, ev, he, hc, hH, hψ, hd, l, q⟩ => ?_)⟩
    subst ev
    obtain rfl : u = Value.ref a := rx
    obtain ⟨oe, od, J, look⟩ := exc_inst I1.hok hH hψ hd
    obtain ⟨u, o, rfl, hl, ru⟩ := look n v l
    have F := A c C he hc
    exact HandSPX.exc_get I1.kIn J F.xf.ga F.xf.gg F.xf.exC (PySem.W.findObj_own F.xf.hdC (hno c C he hc) rfl hl) (handed_of ru) ⟨v, H1, I1.tok _, ru, q⟩
  · cases rx with
    | @exo a C c ns d fs ds vs ψ hc he h hψ hd e1 e2 r =>
      subst e1 e2
      simp only [oFldE] at P
      split at P
      · cases ed : ((fs.map (·.1)).zip ds).lookup n with
        | none => rw [ed] at P; exact P.elim
        | some x =>
          rw [ed] at P
          obtain ⟨u, h1, h2⟩ := fld_at r ed
          exact ⟨a, C, c, d, fs, u, ψ, rfl, he, hc, h, hψ, hd, h1, P.val R h2⟩
      · exact P.elim
    | @obj a C dx c ns fs ds vs hc h e1 e2 r hf =>
      simp only [oFldE] at P
      split at P
      · rename_i z
        rw [← e1, hf] at z
        cases z.2
      · exact P.elim
    | _ => simp only [oFldE, ofO] at P; exact P.elim
/-- isinstance of an exception that is held -/
def rIsX (K : PySem.W.Frag) : List V → Hp → VK → Prop := fun xs H Q => ∃ (a C : Addr) (d : Option Addr) (fs : List (Str × V)) (ψ : Heap → Prop) (c : V) (cv : Value) (b : Bool), xs = [.ref a, c] ∧ ClsV c cv ∧ H a = some (.ext ψ) ∧
  (∀ hp, ψ hp → ∃ oe xs, hp.get? a = some oe ∧ Zc (.ref C) d oe ∧ oe.data = .fields xs) ∧ ((d = none ∧ fs = []) ∨ ∃ dx, d = some dx ∧ H dx = some (exd dx fs)) ∧ ExcF K C ∧ PySem.W.kitOne K (.ref C) cv = some b ∧ Q (.bl b) H
theorem call_isX : CallR X (.builtin "isinstance") (rIsX X.K) := by
  intro pins s σ H xs us Q I r h
  obtain ⟨a, C, d, fs, ψ, c, cv, b, rfl, kc, hH, hψ, hd, F, e, q⟩ := h
  obtain ⟨u1, u2, rfl, r1, r2⟩ := vals2 r
  have e2 := kc.eq r2
  subst e2
  obtain rfl : u1 = Value.ref a := r1
  obtain ⟨oe, od, J, _⟩ := exc_inst I.hok hH hψ hd
  exact PySem.W.kia_one (PySem.W.kitx_exc F.cd F.xf.ga F.xf.gg F.xf.exC F.ha F.hn F.ht F.hm) I.kIn J e (fun z => nomatch z) fun tk => ⟨.bl b, H, I.tok tk, rfl, q⟩
theorem isE_go {cv : V} {u : Value} (A : ExcA X.K) (kc : ClsV cv u) (hk : ∀ c' C', excN c' = true → PySem.W.nsIn X.K mainGlobals c' = some (some (.ref C')) → PySem.W.kitOne X.K (.ref C') u = some (excIs c' c)) {σ : L2.St} {H : Hp} {Q : VK} (p : tG X.K cl W (RR X.K) (e1 (isE c) f) σ H Q) :
    tG X.K cl W (RR X.K) f σ H fun v H1 => rIsX X.K [v, cv] H1 Q := by
  refine seq1 (k := fun x h1 => ofO (isE c h1 x) h1) p fun φ H1 h1 x v R rx P => ?_
  cases rx with
  | @exo a C c' ns d fs ds vs ψ hc he h hψ hd e1 e2 r =>
    simp only [isE] at P
    split at P
    · exact ⟨a, C, d, fs, ψ, cv, u, _, rfl, kc, h, hψ, hd, A c' C he hc, hk c' C he hc, P.val R (.bl _)⟩
    · exact P.elim
  | @obj a C dx c ns fs ds vs hc h e1 e2 r hf =>
    simp only [isE] at P
    split at P
    · rename_i z
      rw [← e1, hf] at z
      cases z.2
    · exact P.elim
  | _ => simp only [isE, ofO] at P; exact P.elim
theorem s_isE {a : Expr} {C2 : Addr} {p1 p2 : Pos} (A : ExcA X.K) (gm : X.mg c = some (.ref C2)) (hk : ∀ c' C', excN c' = true → PySem.W.nsIn X.K mainGlobals c' = some (some (.ref C')) → PySem.W.kitOne X.K (.ref C') (.ref C2) = some (excIs c' c)) (ha : SE X cl W a f)
    (hm : X.mg "isinstance" = none) (hg : Gl X "isinstance" := by rfl) (hg2 : Gl X c := by rfl) (hd : (c == ("__debug__" : Str)) = false := by decide)
    (he : starEach [a, .Name c p2] X.env = (false, eval a X.env) :: starEach [.Name c p2] X.env := by rfl)
    (he2 : starEach [.Name c p2] X.env = (false, eval (.Name c p2) X.env) :: starEach [] X.env := by rfl)
    (hpl : (backTo pos (starEach [.Name c p2] X.env)).any (·.1) = false := by rfl) :
    SE X cl W (.Call (.Name "isinstance" p1) [a, .Name c p2] [] pos) (e1 (isE c) f) := by
  have pn : PE X (.Name c p2) (L2.tC (.ref C2)) := ⟨fun pins s σ H Q I q => ld_glob I hg2 gm ⟨.ref C2, H, I, rfl, q⟩ hd⟩
  exact PE.of (pe_callB call_isX hg hm (by decide +kernel) (pa_cons ha (pa_cons pn pa_nil he2) he) (by decide) (by decide) he hpl) fun σ H Q p => isE_go A (.own C2) hk p
/-- isinstance(x, ValueError) -/
theorem s_isV {a : Expr} {p1 p2 : Pos} (A : ExcA X.K) (gm : X.mg "ValueError" = none) (hk : ∀ c' C', excN c' = true → PySem.W.nsIn X.K mainGlobals c' = some (some (.ref C')) → PySem.W.kitOne X.K (.ref C') (.type "ValueError") = some (excIs c' "ValueError")) (ha : SE X cl W a f)
    (hm : X.mg "isinstance" = none) (hg : Gl X "isinstance" := by rfl) (hg2 : Gl X "ValueError" := by rfl)
    (he : starEach [a, .Name "ValueError" p2] X.env = (false, eval a X.env) :: starEach [.Name "ValueError" p2] X.env := by rfl)
    (he2 : starEach [.Name "ValueError" p2] X.env = (false, eval (.Name "ValueError" p2) X.env) :: starEach [] X.env := by rfl)
    (hpl : (backTo pos (starEach [.Name "ValueError" p2] X.env)).any (·.1) = false := by rfl) :
    SE X cl W (.Call (.Name "isinstance" p1) [a, .Name "ValueError" p2] [] pos) (e1 (isE "ValueError") f) := by
  have pn : PE X (.Name "ValueError" p2) (L2.tC (.ty "ValueError")) := ⟨fun pins s σ H Q I q => ld_blt I hg2 gm PyProof.Rows.Boot.«ValueError» ⟨.ty "ValueError", H, I, rfl, q⟩ (by decide) (by decide)⟩
  exact PE.of (pe_callB call_isX hg hm (by decide +kernel) (pa_cons ha (pa_cons pn pa_nil he2) he) (by decide) (by decide) he hpl) fun σ H Q p => isE_go A (.ty "ValueError") hk p
/-- C(), C without an __init__ of its own -/
structure Exc0 (K : PySem.W.Frag) (mg : Str → Option Value) (c : Str) : Prop where
  ex : ∃ (C : Addr), mg c = some (.ref C) ∧ PySem.W.nsIn K mainGlobals c = some (some (.ref C)) ∧ PySem.W.keepIn K (.ref C) = true ∧ ∃ (bmB : List Value) (B newId initId : String), ExcBaseFacts B newId initId bmB ∧ PySem.W.excIn K C bmB newId = true
theorem s_mk0 (E : Exc0 X.K X.mg c) (he0 : excN c = true) (hg : Gl X c := by rfl) (hdb : (c == ("__debug__" : Str)) = false := by decide) : SE X cl W (.Call (.Name c p) [] [] pos) (eMk0 c) := by
  obtain ⟨C, gm, hns, kC, bmB, B, newId, initId, F, q⟩ := E.ex
  refine ⟨fun pins s σ H Q I h => ?_⟩
  obtain ⟨φ, st, h0, S, R, P⟩ := h
  refine wpAny_Call_Name_kw (ld_glob I hg gm ?_ hdb)
  refine PySem.W.callWith_K0 I.kIn kC ?_
  show wpAny _ _ (call (.ref C) []) _ _ _
  obtain ⟨bm, N, nm, qn, bs, hdct, sn, sub, ab, col, dd, k0, k1, k2, k3, k5, mN, hC, hN, hni, T⟩ := exc_obj I.kIn q
  refine wpAny_call_exc_subT F T hC hN hni (fun h' a hm => ?_) (by show 0 ≤ sizeLine; exact Nat.zero_le _)
  have hn : H a = none := I.hok.gone hm.new
  obtain ⟨t, ht, _, _⟩ := hm.there
  refine ⟨.ref a, upd H a (ExO (.ref C) a), I.laidN hm.keeps hm.new hn (exO_ok ht ⟨rfl, rfl⟩ rfl rfl rfl (show 4 < 6 by decide)), rfl, ?_⟩
  exact P φ _ _ (Lat.new hn) (R.new hn) (.exo (d := none) (fs := []) (vs := []) hns he0 upd_same (fun hp ⟨oe, vs, q1, q2, q3, _⟩ => ⟨oe, vs, q1, q2, q3⟩) (.inl ⟨rfl, rfl⟩) rfl rfl .nil)
end
end Y
end

section
set_option Elab.async false
set_option linter.all false
set_option maxRecDepth 100000
set_option maxHeartbeats 2000000
/-! YNa: lambdas: their making; the call of one, at a state where it stands. -/
namespace Y
open PySem PySem.Spec PyProof.Rows L2

/-- what is asked of K: each def that makes lambdas has a table of its own -/
def lamB (K : PySem.W.Frag) : Bool :=
  (lamN.all fun x => match PySem.W.tabIn K x with | some q => (K.lookup q.2).isNone | none => false) &&
  (lamN.all fun x => lamN.all fun y => decide (x = y) || (match PySem.W.tabIn K x, PySem.W.tabIn K y with | some p, some q => !decide (p.2 = q.2) | _, _ => true))
theorem lamB_uq {K : PySem.W.Frag} (h : lamB K = true) {x y : Str} {c d P : Addr} (hx : x ∈ lamN) (hy : y ∈ lamN) (e1 : PySem.W.tabIn K x = some (c, P)) (e2 : PySem.W.tabIn K y = some (d, P)) : x = y := by
  unfold lamB at h
  rw [Bool.and_eq_true] at h
  have z := List.all_eq_true.mp (List.all_eq_true.mp h.2 x hx) y hy
  rw [e1, e2] at z
  simpa using z
theorem lamB_no {K : PySem.W.Frag} (h : lamB K = true) {x : Str} {c P : Addr} (hx : x ∈ lamN) (e1 : PySem.W.tabIn K x = some (c, P)) : K.lookup P = none := by
  unfold lamB at h
  rw [Bool.and_eq_true] at h
  have z := List.all_eq_true.mp h.1 x hx
  rw [e1] at z
  simpa using z
/-- the context is one of a def that makes lambdas -/
structure LamC (X : Cx) : Prop where
  ex : ∃ (x : Str) (c P : Addr), X.env.code = .ref c ∧ X.env.qual = x ++ ".<locals>." ∧ x ∈ lamN ∧ PySem.W.tabIn X.K x = some (c, P) ∧ LamX.TabB X.base X.mg c P
  uq : lamB X.K = true
theorem LamC.blk {X : Cx} (h : LamC X) {s : Shared} {H : Hp} {sc : Scope} {cc : List (Str × Addr)} {C : Addr} {fp : List Addr} : LamC (X.blk s H sc (compEnvC sc cc C X.env) fp) := ⟨h.ex, h.uq⟩
theorem LamC.tr {X : Cx} (h : LamC X) {pn : List (Addr × Obj)} {xe : Value → Shared → Prop} : LamC (X.tr pn xe) := ⟨h.ex, h.uq⟩

abbrev lamFn (X : Cx) (params : Arguments) (body : Expr) (scope : Scope) (c' : Addr) (pm ctv : Value) : Obj :=
  PySem.W.kla_obj "<lambda>" (X.env.qual ++ "<lambda>") params body scope (cloFrom X.env.cells scope.names []) pm c' ctv
section
variable {X : Cx} {pins : List (Addr × Obj)} {σ : L2.St} {H : Hp} {s : Shared}
theorem fr_old (I : L2.Inv X pins σ H s) {f : Addr} (hf : s.heap.objs.size ≤ f) : f ∉ frs X.stack := by
  intro z
  rcases List.mem_cons.mp (I.stkSub _ z) with e | e
  · rw [e] at hf
    exact absurd (Nat.lt_of_lt_of_le I.lt hf) (Nat.lt_irrefl _)
  · exact I.nofs hf e
/-- the making: the table as it was, or with one code object more -/
theorem lam_mk {c P : Addr} {q : Str} {params : Arguments} {body : Expr} {scope : Scope} {pos : Pos} {E Q : Value → Shared → Prop} (I : L2.Inv X pins σ H s) (TB : LamX.TabB X.base X.mg c P) (hcode : X.env.code = .ref c) (hq : X.env.qual ++ "<lambda>" = q)
    (hT : LamX.TabS H P q) (hdef : defaultsOf params X.env = ([], [])) (hfree : ∀ y ∈ scope.names, y.2 = .free → ∃ c, X.env.cells.lookup y.1 = some c)
    (h : ∀ (f c' : Addr) (pm ctv : Value) (H1 : Hp) (s' : Shared), L2.Inv X pins σ H1 s' → s'.heap.get? f = some (lamFn X params body scope c' pm ctv) → H1 f = none → f ∉ frs X.stack → H1 c' = some (LamX.CodeO c' q) → LamX.TabS H1 P q →
      (H1 = H ∨ ∃ ps qs, H P = some (.tbl ps) ∧ H c' = none ∧ H1 = upd (upd H P (.tbl qs)) c' (LamX.CodeO c' q)) → Q (.ref f) s') :
    wpAny (model X.prog X.w) X.A (eval (.Lambda params body scope pos) X.env) Q E s := by
  obtain ⟨ps, hP, triples, named⟩ := hT
  have builtins := TB.bm.keeps I.bk
  have stands : s.heap.get? P = some { cls := .none, data := .fields ps } := I.hok P _ hP
  refine PySem.W.kla_eval hdef ?_
  cases known : codeAmong pos ps.toList with
  | some cv =>
    obtain ⟨c', rfl, hco⟩ := named pos cv known
    refine PySem.W.kla_makeFunctionHit (mg := X.mg) (c := c) (P := P) (ps := ps)
      (closure_ok hfree) I.ok.glob (I.mod.glob.keeps I.bk) hcode (TB.code.keeps I.bk) stands triples known builtins fun ctv h' tk old sz => ?_
    refine h h'.objs.size c' ((X.mg "__name__").getD .none) ctv H _ (I.kept fun b o e => Heap.get?_push_of_some _ (old b o e)) (Heap.get?_push_size _ rfl)
      (I.hok.fresh sz) (fr_old I sz) hco ⟨ps, hP, triples, named⟩ (.inl rfl)
  | none =>
    refine PySem.W.kla_makeFunction (mg := X.mg) (c := c) (P := P) (ps := ps)
      (closure_ok hfree) I.ok.glob (I.mod.glob.keeps I.bk) hcode (TB.code.keeps I.bk) stands triples known TB.gP builtins fun c' ctv h' tk but ge lt rec grown => ?_
    obtain ⟨c2, oc, vs, t, e2, hoc, hd, hv⟩ := rec
    cases e2
    have hv : vs[1]? = some (.str q t) := by rw [← hq]; exact hv
    have sz : s.heap.objs.size ≤ h'.objs.size := by omega
    have nC : H c' = none := I.hok.fresh ge
    have PC : P ≠ c' := ne_of_none hP nC
    have J := LamX.inv_table (t' := tk) (more := #[rawInt pos.line, rawInt pos.col, .ref c'])
      (h' := h'.push (lamFn X params body scope c' ((X.mg "__name__").getD .none) ctv)) I hP
      (fun b o n e => Heap.get?_push_of_some _ (but b o n e)) (Heap.get?_push_of_some _ grown) ge
      ⟨oc, vs, t, Heap.get?_push_of_some _ hoc, hd, hv⟩
    have other : ∀ b, b ≠ P → b ≠ c' → upd (upd H P (.tbl (ps ++ #[rawInt pos.line, rawInt pos.col, .ref c']))) c' (LamX.CodeO c' q) b = H b := fun b n1 n2 => by
      rw [upd_ne n2, upd_ne n1]
    have n1 : h'.objs.size ≠ c' := Nat.ne_of_gt lt
    have n2 : h'.objs.size ≠ P := Nat.ne_of_gt (Nat.lt_of_lt_of_le (Heap.lt_size stands) sz)
    refine h h'.objs.size c' _ ctv _ _ J (Heap.get?_push_size _ rfl) (by rw [other _ n2 n1]; exact I.hok.fresh sz) (fr_old I sz) upd_same ?_ (.inr ⟨ps, _, hP, nC, rfl⟩)
    refine ⟨_, (upd_ne PC).trans upd_same, ?_, fun p' cv hcv => ?_⟩
    · simpa using PySem.TriplesOk_snoc _ _ _ _ triples
    · have hcv : codeAmong p' (ps.toList ++ [rawInt pos.line, rawInt pos.col, .ref c']) = some cv := by simpa using hcv
      rcases LamX.among_app _ triples hcv with z | rfl
      · obtain ⟨c0, e1, e2⟩ := named p' cv z
        refine ⟨c0, e1, ?_⟩
        rw [other c0 (fun y => by rw [y, hP] at e2; unfold LamX.CodeO at e2; cases e2) (ne_of_none e2 nC)]
        exact e2
      · exact ⟨c', rfl, upd_same⟩
end
end Y
end

section
set_option Elab.async false
set_option linter.all false
set_option maxRecDepth 100000
set_option maxHeartbeats 2000000
/-! YNb: what stands behind the making; the ground at a call; the lambda's own call. -/
namespace Y
open PySem PySem.Spec PyProof.Rows L2

/-! ### behind the making -/
section
variable {K : PySem.W.Frag} {φ : List Addr} {H H1 : Hp} {h : Hm}
theorem lam_after {x : Str} {c P c' : Addr} (R : HR K φ H h) (u : lamB K = true) (hx : x ∈ lamN) (e : PySem.W.tabIn K x = some (c, P)) (T1 : LamX.TabS H1 P (lq x))
    (d : H1 = H ∨ ∃ ps qs, H P = some (.tbl ps) ∧ H c' = none ∧ H1 = upd (upd H P (.tbl qs)) c' (LamX.CodeO c' (lq x))) : Lat φ H φ H1 ∧ HR K φ H1 h := by
  rcases d with rfl | ⟨ps, qs, hP, nC, e1⟩
  · exact ⟨Lat.refl _ _, R⟩
  have PC : P ≠ c' := ne_of_none hP nC
  have other : ∀ b, b ≠ P → b ≠ c' → H1 b = H b := fun b n1 n2 => by rw [e1, upd_ne n2, upd_ne n1]
  have keep : ∀ b o, H b = some o → (∀ ps, o ≠ .tbl ps) → H1 b = some o := fun b o q n => by
    rw [other b (fun z => n ps (by rw [z, hP] at q; exact (Option.some.inj q).symm)) (ne_of_none q nC)]
    exact q
  have per : Per H H1 := ⟨fun b xs q => keep b _ q (fun _ z => nomatch z), fun b o u q => keep b _ q (fun _ z => nomatch z), fun b C dx fs _ q => keep b _ q (fun _ z => nomatch z), fun b ψ q => keep b _ q (fun _ z => nomatch z)⟩
  refine ⟨⟨List.prefix_refl _, per, fun b o q _ => ?_, fun _ m => .inl m⟩, R.len, R.nd, fun y d Q m q => ?_, fun k a o q1 q2 => ?_⟩
  · by_cases hb : b = P
    · subst hb
      rw [hP] at q
      cases q
      exact .inr ⟨ps, qs, rfl, by rw [e1, upd_ne PC, upd_same]⟩
    · exact .inl (by rw [other b hb (ne_of_none q nC)]; exact q)
  · by_cases hQ : Q = P
    · subst hQ
      have := lamB_uq u m hx q e
      subst this
      exact T1
    · obtain ⟨ps2, a1, a2, a3⟩ := R.tab y d Q m q
      refine ⟨ps2, by rw [other Q hQ (ne_of_none a1 nC)]; exact a1, a2, fun pos cv hc => ?_⟩
      obtain ⟨c0, z1, z2⟩ := a3 pos cv hc
      exact ⟨c0, z1, keep _ _ z2 LamX.codeO_ne⟩
  · have x := R.ob k a o q1 q2
    obtain ⟨u, hu, mu⟩ := x.some
    refine x.tr (List.prefix_refl _) per ?_
    rw [keep a u hu (fun ps z => by rw [z] at mu; cases mu), hu]
end

/-! ### the ground, with all that no callee touches -/
def grd (s : Shared) (H : Hp) (l : List Env) : Heap := PySem.W.hideAll (hidT s.heap H) (frs l)
theorem grd_get {s : Shared} {H : Hp} {l : List Env} {b : Addr} {o : Obj} (e : s.heap.get? b = some o) (n : H b = none) (m : b ∉ frs l) : (grd s H l).get? b = some o := PySem.W.hideAll_get _ (hidT_get e n) m
theorem of_grd {s : Shared} {H : Hp} {l : List Env} {b : Addr} {o : Obj} (e : (grd s H l).get? b = some o) : s.heap.get? b = some o ∧ H b = none ∧ b ∉ frs l := by
  obtain ⟨e1, e2⟩ := of_hidT (PySem.W.of_hideAll _ e)
  exact ⟨e1, e2, fun m => by rw [grd, PySem.W.hideAll_none _ m] at e; cases e⟩
theorem Ext.tbs {K : PySem.W.Frag} {b b' : Heap} {mg : Str → Option Value} (x : Ext b b') (t : TBs K b mg) : TBs K b' mg := fun y c P m e => ⟨(t y c P m e).code.keeps x, (t y c P m e).bm.keeps x, (t y c P m e).gP⟩
section
variable {X : Cx} {pins : List (Addr × Obj)} {σ : L2.St} {H : Hp} {s : Shared}
theorem mod_ext {K : PySem.W.Frag} {mg : Str → Option Value} {b b' : Heap} (m : Mod K mg b) (x : Ext b b') : Mod K mg b' :=
  ⟨m.kin.keeps x, m.glob.keeps x, let ⟨mb, h1, h2⟩ := m.blt; ⟨mb, h1.keeps x, h2⟩, m.nolimit.keeps x⟩
theorem grd_ext (I : L2.Inv X pins σ H s) : Ext X.base (grd s H X.stack) := fun b o e => by
  obtain ⟨e1, e2⟩ := I.bs b o e
  refine grd_get e1 e2 fun m => ?_
  have := (I.env0.funs.mem m).1
  rw [e] at this
  cases this
theorem grd_env (I : L2.Inv X pins σ H s) : Env0 X.prog X.w X.K X.mg (grd s H X.stack) X.A X.stack s H := by
  have e0 := I.env0
  refine ⟨e0.frames, mod_ext e0.mod (grd_ext I), fun b o e => ⟨(of_grd e).1, (of_grd e).2.1⟩, ?_, funFrames_none e0.funs fun L m => PySem.W.hideAll_none _ m, e0.frf, e0.hok, e0.bare⟩
  show (PySem.W.hideAll (hidT s.heap H) (frs X.stack)).objs.size ≤ _
  rw [PySem.W.hideAll_size, hidT_size]
  exact Nat.le_refl _
/-- a def's cells are none of the frames that run -/
theorem cells_apart (I : L2.Inv X pins σ H s) (hf : X.fn = fun _ => true) : ∀ y c, X.env.cells.lookup y = some c → c ∉ frs X.stack := fun y c e m => by
  rcases List.mem_cons.mp (I.stkSub _ m) with z | z
  · exact I.cne y c e z
  · obtain ⟨_, o, ho, _⟩ := I.ok.funs.mem z
    have h1 := I.ok.cab y c (by rw [hf]) e
    exact absurd (Nat.lt_of_lt_of_le (Heap.lt_size ho) h1) (Nat.lt_irrefl _)
end

/-! ### the lambda, where it stands -/
structure LamAt (params : Arguments) (body : Expr) (scope : Scope) (qual : Str) (cells : List (Str × Addr)) (f c' : Addr) (fr : List Str) (ws : List (Option V)) (s : Shared) (H : Hp) : Prop where
  ob : ∃ pm ctv, s.heap.get? f = some (PySem.W.kla_obj "<lambda>" qual params body scope cells pm c' ctv)
  cells : NdefX.CellsAt cells fr ws s.heap H
  code : s.heap.CodeRec (.ref c') qual
/-- the slots at the entry: the arguments, what it captured -/
def startE (n : Nat) (ds : List D) (ws : List (Option D)) : Sl := ds.map some ++ (ws ++ List.replicate (n - ds.length - ws.length) none)
def slotD (σ : Sl) (j : Nat) : Option D := match σ[j]? with
  | some o => o
  | none => none
/-- what a lambda does: n slots, the expression e, the slots captured -/
def fnE (n : Nat) (e : Ev) (js : List Nat) (σ : Sl) : Fn := fun ds h => match e (startE n ds (js.map (slotD σ))) h with
  | .ok d h' => finP h d h'
  | .ex e h' => .ex e h'
  | .bad => .bad
abbrev lamNF (params : Arguments) (scope : Scope) (qual : Str) (cells : List (Str × Addr)) (c' : Addr) : NdefX.NF := ⟨"<lambda>", qual, params, [], scope, cells, c'⟩
section
variable {P : Program} {w : World} {K : PySem.W.Frag} {mg : Str → Option Value} {base : Heap} {φ φ1 : List Addr} {H H1 : Hp} {cl : Cl}
theorem slotD_some {st : Sl} {j : Nat} {d : D} (h : slotD st j = some d) : st[j]? = some (some d) := by
  unfold slotD at h
  split at h
  · rename_i o e
    rw [e, h]
  · cases h
theorem SR.startE {N : List Str} {ds : List D} {vs : List V} {st : Sl} {σ : L2.St} {js : List Nat} (S : SR K cl φ1 H1 st σ) (l : Wk φ1 H1 φ H) (r : RepL K φ H ds vs) : SR K noCl φ H (Y.startE N.length ds (js.map (slotD st))) (NdefX.startF N vs (js.map (NdefX.slotAt σ))) := by
  have len := r.length
  refine ⟨by simp [Y.startE, NdefX.startF, len], fun _ _ e => (nomatch e), fun i d e => ?_⟩
  unfold Y.startE at e
  unfold NdefX.startF
  by_cases h1 : i < ds.length
  · rw [List.getElem?_append_left (by simpa using h1), List.getElem?_map] at e
    have e' : ds[i]? = some d := by
      cases z : ds[i]? with
      | none => rw [z] at e; cases e
      | some a => rw [z] at e; cases e; rfl
    obtain ⟨v, q1, q2⟩ := r.get e'
    exact ⟨v, by rw [List.getElem?_append_left (by simpa [← len] using h1), List.getElem?_map, q1]; rfl, q2⟩
  · have hlm : (ds.map some).length = ds.length := by simp
    rw [List.getElem?_append_right (by simpa using h1), hlm] at e
    by_cases h2 : i - ds.length < js.length
    · rw [List.getElem?_append_left (by simpa using h2), List.getElem?_map] at e
      cases ej : js[i - ds.length]? with
      | none => rw [ej] at e; cases e
      | some j =>
        rw [ej] at e
        have e' : slotD st j = some d := Option.some.inj e
        obtain ⟨v, q1, q2⟩ := S.get j d (slotD_some e')
        refine ⟨v, ?_, Rep.mono l.pre l.per _ _ q2⟩
        rw [List.getElem?_append_right (by simp [← len]; omega), show (vs.map some).length = ds.length by simp [len], List.getElem?_append_left (by simpa using h2), List.getElem?_map, ej]
        exact congrArg some (NdefX.slotAt_of q1)
    · rw [List.getElem?_append_right (by simpa using h2), List.getElem?_replicate] at e
      split at e <;> cases e
/-- the call of the lambda -/
theorem lam_call {params : Arguments} {body : Expr} {scope : Scope} {qual : Str} {cells : List (Str × Addr)} {f c' : Addr} {N ps fr js} {k : Nat} {e : Ev} {st : Sl} {σ : L2.St} {A : Around} {outer : List Env} {s : Shared} {us : List Value} {vs : List V} {ds : List D} {h : Hm} {Q : VK} {E : XK}
    (L : LamAt params body scope qual cells f c' fr (js.map (NdefX.slotAt σ)) s H) (S : NdefX.NScope N ps fr scope) (hb : ∀ (cl : List (Str × Addr)) (pm cv ctv : Value) (us : List Value), us.length = ps.length → bindArgs (PySem.W.kla_fn "<lambda>" qual params body scope cl pm cv ctv) ⟨us, []⟩ = pure (ps.zip us))
    (hbody : ∀ X : Cx, X.prog = P → X.w = w → X.K = K → X.mg = mg → X.base = base → X.N = N → X.env.scope = scope → X.stack = X.env :: X.outer → X.env.frame = some X.env.locals → X.fn = (fun _ => false) → ∀ E : XK, Cs k X → Takes X (wOf E) → PassesOwn (model X.prog X.w) X.A X.env X.xe → SE X noCl (wOf E) body e)
    (hr : Room (k + 1) A) (hg : A.guards = some []) (e0 : Env0 P w K mg base A outer s H) (r : Vals vs us) (rd : RepL K φ H ds vs) (R : HR K φ H h) (hl : ds.length = ps.length) (SS : SR K cl φ1 H1 st σ) (l : Wk φ1 H1 φ H) (p : Post K noCl φ H (RR K) (fnE N.length e js st ds h) Q E) :
    codeAny (model P w) A (.call (.ref f) ⟨us, []⟩) (CR (L2.CX P w) outer P w H s Q E) s := by
  obtain ⟨pm, ctv, ob⟩ := L.ob
  have hv : vs.length = ps.length := by rw [← rd.length]; exact hl
  have lim : s.heap.NoLimit := e0.mod.nolimit.keeps fun b o e => (e0.bs b o e).1
  refine PySem.W.kla_callFunE hr.depth ob rfl S.co S.gen rfl L.code ?_
  rw [hb cells pm (.ref c') ctv us (by rw [← r.length]; exact hv)]
  refine wpAny_pure (wpAny_newFunctionEnv S.nocell (fun ⟨n, _⟩ hy => S.par n (List.of_mem_zip hy).1) (fun h₁ hns hsb => ⟨lim.fresh _ hsb, ?_⟩) S.kind)
  show codeAny _ _ (.expr body (NdefX.envF (lamNF params scope qual cells c') f s.heap.objs.size)) _ _
  have kp : ∀ b o, s.heap.get? b = some o → h₁.get? b = some o := fun b o e => hsb.extBut b o (Nat.ne_of_lt (Heap.lt_size e)) (Heap.get?_push_of_some _ e)
  have I : L2.Inv (NdefX.ncx (L2.CX P w) P w K mg base N (lamNF params scope qual cells c') f A outer s H E) [] (NdefX.startF N vs (js.map (NdefX.slotAt σ))) H { s with heap := h₁, toks := s.toks + (ps.zip us).length } := NdefX.inv_startN S hr.hd e0 hv r L.cells hns kp
  have go := hbody (NdefX.ncx (L2.CX P w) P w K mg base N (lamNF params scope qual cells c') f A outer s H E) rfl rfl rfl rfl rfl rfl rfl rfl rfl rfl E ⟨hr.deeper _, hg, rfl, S.nd⟩ (takes_of rfl rfl rfl rfl) (passes_of rfl)
  refine PySem.W.kla_codeExpr (wpAny_mono (go.run [] _ _ H Q I ⟨φ, _, h, SS.startE l rd, R, ?_⟩) (fun v s' hq => ?_) fun e s' hq => hq)
  · simp only [fnE] at p
    cases q : e (Y.startE N.length ds (js.map (slotD st))) h with
    | bad => rw [q] at p; exact p
    | ex e1 h' => rw [q] at p; exact p
    | ok d h' => rw [q] at p; exact fin_sound R p
  · obtain ⟨v', H', J, rv, q⟩ := hq
    exact ⟨v', H', J.os, J.bare, J.base, J.hok, rv, q⟩
end
end Y
end

section
set_option Elab.async false
set_option linter.all false
set_option maxRecDepth 100000
set_option maxHeartbeats 2000000
/-! YNc: functions that a def gets and calls; defs of the module as values. -/
namespace Y
open PySem PySem.Spec PyProof.Rows L2

/-- the function that stands at p.a does what d does, at the states of J -/
structure ActG (P : Program) (w : World) (K : PySem.W.Frag) (mg : Str → Option Value) (base : Heap) (k : Nat) (J : Shared → Hp → Prop) (p : Pin) (n : Nat) (d : Fn) : Prop where
  fn : ∀ s H, J s H → PySem.W.FnAt p.a s.heap
  run : ∀ (A : Around) (outer : List Env) (s : Shared) (H : Hp) (us : List Value) (vs : List V) (ds : List D) (φ : List Addr) (h : Hm) (Q : VK) (E : XK), Room k A → A.guards = some [] → Env0 P w K mg base A outer s H → J s H → Vals vs us → RepL K φ H ds vs → HR K φ H h → ds.length = n →
    Wk p.φ p.H φ H → Post K noCl φ H (RR K) (d ds h) Q E → codeAny (model P w) A (.call (.ref p.a) ⟨us, []⟩) (CR (L2.CX P w) outer P w H s Q E) s
theorem ActG.mono {P : Program} {w : World} {K : PySem.W.Frag} {mg : Str → Option Value} {base : Heap} {j k : Nat} {J : Shared → Hp → Prop} {p : Pin} {n : Nat} {d : Fn} (T : ActG P w K mg base j J p n d) (h : j ≤ k) : ActG P w K mg base k J p n d :=
  ⟨T.fn, fun A outer s H us vs ds φ hm Q E hr => T.run A outer s H us vs ds φ hm Q E (hr.mono h)⟩
theorem pin_at {i : Nat} {p : Pin} : pinCl i p i = some p := by simp [pinCl]
/-- f(..), f a function that the def got -/
def eAct (F : Fn) (i : Nat) (a : Av) : Ev := fun σ h => match σ[i]? with
  | some none => (a σ h).bind fun xs h1 => F xs h1
  | _ => .bad
section
variable {X : Cx} {cl : Cl} {W : WX} {e : Expr} {es : List Expr} {fa : Av} {pos p1 : Pos} {k j n i : Nat} {x : Str} {p : Pin} {F : Fn} {J : Shared → Hp → Prop}
theorem act_run {pins : List (Addr × Obj)} {σ : L2.St} {H : Hp} {s : Shared} {Q : VK} {us : List Value} {vs : List V} {ds : List D} {φ : List Addr} {h : Hm} (T : ActG X.prog X.w X.K X.mg X.base k J p n F) (hJ : J s H) (c : Cs k X) (tk : Takes X W) (I : L2.Inv X pins σ H s)
    (r : Vals vs us) (rd : RepL X.K φ H ds vs) (R : HR X.K φ H h) (hl : ds.length = n) (l : Wk p.φ p.H φ H) (P : Post X.K cl φ H (RR X.K) (F ds h) Q fun c d H' => W c d σ H') :
    wpAny (model X.prog X.w) X.A (call (.ref p.a) us) (EP X pins σ Q) X.xe s := by
  refine wpAny_call (codeAny_mono (T.run X.A X.stack s H us vs ds φ h Q _ c.room c.gd I.env0 hJ r rd R hl l P) fun q s' hq => ?_)
  cases q with
  | error e => exact passAt tk σ pins H s e s' I hq
  | ok fl =>
    cases fl with
    | ret u => exact I.after hq
    | next => exact hq.elim
    | brk => exact hq.elim
    | cont => exact hq.elim
theorem s_act0 (T : ActG X.prog X.w X.K X.mg X.base j J p 0 F) (hp : cl i = some p) (hJ : ∀ pins σ H s, L2.Inv X pins σ H s → J s H) (hj : j ≤ k) (c : Cs k X) (tk : Takes X W) (hN : X.N[i]? = some x := by rfl)
    (hv : Vis X.env.scope x := by first | exact Or.inl rfl | exact Or.inr (Or.inl rfl) | exact Or.inr (Or.inr rfl)) (hd : (x == ("__debug__" : Str)) = false := by decide) (hcd : (x == ("__classdict__" : Str)) = false := by decide) :
    SE X cl W (.Call (.Name x p1) [] [] pos) (eAct F i aN) := by
  refine ⟨fun pins s σ H Q I ⟨φ, st, h0, S, R, P⟩ => ?_⟩
  unfold eAct at P
  split at P
  · rename_i est
    obtain ⟨wk, hs⟩ := S.fn i p hp
    refine wpAny_Call_Name_kw (thn ((pe_var (pos := p1) (i := i) hN hv hd hcd).run pins s σ H (fun v H1 => v = .ref p.a ∧ H1 = H) I ⟨.ref p.a, hs est, rfl, rfl⟩) fun u s1 ⟨v, H1, I1, r1, ev, eH⟩ => ?_)
    subst ev eH
    obtain rfl : u = Value.ref p.a := r1
    exact PySem.W.callWith_F0 (T.fn _ _ (hJ _ _ _ _ I1)) (act_run (us := []) (vs := []) (ds := []) (cl := cl) (T.mono hj) (hJ _ _ _ _ I1) c tk I1 .nil .nil R rfl wk P)
  · exact P.elim
theorem s_act (T : ActG X.prog X.w X.K X.mg X.base j J p n F) (hp : cl i = some p) (hJ : ∀ pins σ H s, L2.Inv X pins σ H s → J s H) (hj : j ≤ k) (c : Cs k X) (tk : Takes X W) (ha : SA X cl W (e :: es) fa) (hal : ∀ σ h xs h', fa σ h = .ok xs h' → xs.length = (e :: es).length) (hn : (e :: es).length = n := by rfl) (hN : X.N[i]? = some x := by rfl)
    (hv : Vis X.env.scope x := by first | exact Or.inl rfl | exact Or.inr (Or.inl rfl) | exact Or.inr (Or.inr rfl)) (hd : (x == ("__debug__" : Str)) = false := by decide) (hcd : (x == ("__classdict__" : Str)) = false := by decide)
    (he : starEach (e :: es) X.env = (false, eval e X.env) :: starEach es X.env := by rfl) (hpl : (backTo pos (starEach es X.env)).any (·.1) = false := by rfl) :
    SE X cl W (.Call (.Name x p1) (e :: es) [] pos) (eAct F i fa) := by
  refine ⟨fun pins s σ H Q I ⟨φ, st, h0, S, R, P⟩ => ?_⟩
  unfold eAct at P
  split at P
  · rename_i est
    obtain ⟨wk, hs⟩ := S.fn i p hp
    refine wpAny_Call_Name_kw (thn ((pe_var (pos := p1) (i := i) hN hv hd hcd).run pins s σ H (fun v H1 => v = .ref p.a ∧ H1 = H) I ⟨.ref p.a, hs est, rfl, rfl⟩) fun u s1 ⟨v, H1, I1, r1, ev, eH⟩ => ?_)
    subst ev eH
    obtain rfl : u = Value.ref p.a := r1
    refine PySem.W.callWith_F (T.fn _ _ (hJ _ _ _ _ I1)) (thn (ha.run pos pins s1 σ H1 (fun vs H2 => ∃ φ2 xs h2, RepL X.K φ2 H2 xs vs ∧ HR X.K φ2 H2 h2 ∧ xs.length = n ∧ Wk p.φ p.H φ2 H2 ∧ Post X.K cl φ2 H2 (RR X.K) (F xs h2) Q fun c d H' => W c d σ H') I1 ⟨φ, st, h0, S, R, ?_⟩) fun us s2 ⟨vs, H2, I2, r2, q⟩ => ?_) he hpl
    · cases e1 : fa st h0 with
      | bad => rw [e1] at P; exact P
      | ex ex1 h1 => rw [e1] at P; exact P
      | ok xs h1 =>
        rw [e1] at P
        exact fun φ1 H1' vs l1 r1' q1 => ⟨φ1, xs, h1, q1, r1', by rw [hal st h0 xs h1 e1, hn], ⟨wk.pre.trans l1.pre, wk.per.trans l1.per⟩, Post.lat (show Post X.K cl φ _ (RR X.K) (F xs h1) Q _ from P) l1⟩
    · obtain ⟨φ2, xs, h2, q1, q2, q3, q4, q5⟩ := q
      exact ⟨T.fn _ _ (hJ _ _ _ _ I2), act_run (cl := cl) (T.mono hj) (hJ _ _ _ _ I2) c tk I2 r2 q1 q2 q3 q4 q5⟩
  · exact P.elim
end

/-! ### a def that gets a function, behind its other arguments, and calls it -/
section
variable {P : Program} {w : World} {K : PySem.W.Frag} {mg : Str → Option Value} {base : Heap}
theorem gn_at {x qual : Str} {st : Stmt} {f : Addr} {fd : FuncData} {N ps : List Str} {k : Nat} {A : Around} {outer : List Env} {s : Shared} {H : Hp} {args : Args} {us : List Value} {vs : List V} {Q : VK} {E : XK} (F : Fun K x qual st f fd) (S : FnScope N ps (defScope st)) (hl : vs.length = ps.length)
    (hr : Room (k + 1) A) (hg : A.guards = some []) (e0 : Env0 P w K mg base A outer s H) (hbd : BindsTo s fd args (ps.zip us)) (r : Vals vs us)
    (hb : ∀ cdv : Value, Cs k (cxY P w K mg base N qual (defScope st) f cdv A outer s H E) → ∃ t, PSs (cxY P w K mg base N qual (defScope st) f cdv A outer s H E) (defBody st) t ∧ t { nx := fun _ H' => Q .non H', rt := Q } (start N vs) H) :
    codeAny (model P w) A (.call (.ref f) args) (CR (L2.CX P w) outer P w H s Q E) s := by
  obtain ⟨oc, od, kV, doc, pm, an, cdv, ct, osl, rfl, lk, hcd⟩ := F.ex
  have KX : K.In s.heap := e0.mod.kin.keeps fun b o e => (e0.bs b o e).1
  have lim : s.heap.NoLimit := e0.mod.nolimit.keeps fun b o e => (e0.bs b o e).1
  refine Att.call_fn KX lim lk hcd hr.depth hbd (binds_all S.par) (fun s₁ IC => ?_) S.co S.gen S.kind
  obtain ⟨t, ht, hq⟩ := hb cdv ⟨hr.deeper _, hg, rfl, S.nd⟩
  have I := inv_start (CX := L2.CX P w) (E := E) (cd := cdv) (f := f) (qual := qual) S hr.hd e0 hl r IC
  refine wpAny_mono (ht.run [] s₁ (start N vs) H _ I hq) (fun fl s' hs => ?_) fun e s' hs => hs
  have fin : ∀ {σ' : L2.St} {H' : Hp} {v : V} {u : Value}, L2.Inv (cxY P w K mg base N qual (defScope st) f cdv A outer s H E) [] σ' H' s' → RelV v u → Q v H' → CE outer P w H s Q u s' := fun J rv q => ⟨_, _, J.os, J.bare, J.base, J.hok, rv, q⟩
  cases fl with
  | ret u => obtain ⟨v, σ', H', J, rv, q⟩ := hs; exact fin J rv q
  | next => obtain ⟨σ', H', J, q⟩ := hs; exact fin (v := V.non) (u := Value.none) J rfl q
  | brk => obtain ⟨_, _, _, q⟩ := hs; exact q.elim
  | cont => obtain ⟨_, _, _, q⟩ := hs; exact q.elim
theorem SR.startH {φ : List Addr} {H : Hp} {N : List Str} {ds : List D} {vs : List V} {p : Pin} (hN : ds.length < N.length) (r : RepL K φ H ds vs) (l : Wk p.φ p.H φ H) : SR K (pinCl ds.length p) φ H (startD N.length ds) (L2.start N (vs ++ [.ref p.a])) := by
  have len := r.length
  refine ⟨by simp [startD, L2.start, len]; omega, fun i q e => ?_, fun i d e => ?_⟩
  · unfold pinCl at e
    split at e
    · rename_i hi
      cases e
      subst hi
      refine ⟨l, fun _ => ?_⟩
      unfold L2.start
      rw [List.getElem?_append_left (by simp [len]), List.getElem?_map, List.getElem?_append_right (by simp [len])]
      simp [len]
    · cases e
  · obtain ⟨v, h1, h2⟩ := r.get (startD_at e)
    refine ⟨v, ?_, h2⟩
    have lt := (List.getElem?_eq_some_iff.mp h1).1
    unfold L2.start
    rw [List.getElem?_append_left (by simp; omega), List.getElem?_map, List.getElem?_append_left lt, h1]
    rfl
/-- called with a function behind its other arguments; h: what is known of the states at which that one acts -/
def HoRun (P : Program) (w : World) (K : PySem.W.Frag) (mg : Str → Option Value) (base : Heap) (j k : Nat) (f : Addr) (fd : FuncData) (ps : List Str) (nl : Nat) (dg : Fn → Fn) (h : (Shared → Hp → Prop) → Shared → Hp → List Env → Prop) : Prop :=
  ∀ (J : Shared → Hp → Prop) (p : Pin) (F : Fn) (A : Around) (outer : List Env) (s : Shared) (H : Hp) (us : List Value) (vs : List V) (ds : List D) (φ : List Addr) (hm : Hm) (Q : VK) (E : XK),
    ActG P w K mg base j J p nl F → h J s H outer → Room k A → A.guards = some [] → Env0 P w K mg base A outer s H → BindsTo s fd ⟨us ++ [.ref p.a], []⟩ (ps.zip (us ++ [.ref p.a])) → Vals vs us → ds.length + 1 = ps.length → RepL K φ H ds vs → HR K φ H hm → Wk p.φ p.H φ H →
    Post K noCl φ H (RR K) (dg F ds hm) Q E → codeAny (model P w) A (.call (.ref f) ⟨us ++ [.ref p.a], []⟩) (CR (L2.CX P w) outer P w H s Q E) s
/-- it acts at all states over the ground; from the call's own state on -/
abbrev byBase (base : Heap) (J : Shared → Hp → Prop) (_ : Shared) (_ : Hp) (_ : List Env) : Prop := ∀ X : Cx, X.base = base → ∀ pins σ H s, L2.Inv X pins σ H s → J s H
abbrev byEntry (J : Shared → Hp → Prop) (s : Shared) (H : Hp) (outer : List Env) : Prop := ∀ X : Cx, X.s_0 = s → X.H_0 = H → X.outer = outer → X.ex = [] → ∀ pins σ H' s', L2.Inv X pins σ H' s' → J s' H'
theorem fn_H {x qual : Str} {st : Stmt} {f : Addr} {fd : FuncData} {N ps : List Str} {j k nl : Nat} {b : Fn → Sv} {hh : (Shared → Hp → Prop) → Shared → Hp → List Env → Prop} (F : Fun K x qual st f fd) (S : FnScope N ps (defScope st))
    (hb : ∀ (J : Shared → Hp → Prop) (p : Pin) (d : Fn), ActG P w K mg base j J p nl d → ∀ X : Cx, X.prog = P → X.w = w → X.K = K → X.mg = mg → X.base = base → X.N = N → X.env.scope = defScope st → X.stack = X.env :: X.outer → X.env.frame = some X.env.locals → X.fn = (fun _ => true) → X.ex = [] →
      hh J X.s_0 X.H_0 X.outer → ∀ E : XK, Cs k X → Takes X (wOf E) → PassesOwn (model X.prog X.w) X.A X.env X.xe → SSs X (pinCl (ps.length - 1) p) (wOf E) (defBody st) (b d)) :
    HoRun P w K mg base j (k + 1) f fd ps nl (fun d => fnP N.length (b d)) hh := by
  intro J p d A outer s H us vs ds φ hm Q E T hj hr hg e0 hbd r hl rd R l pst
  have len := rd.length
  have hN : ds.length < N.length := by
    have q := congrArg List.length S.pre
    rw [List.length_take] at q
    omega
  have r2 : Vals (vs ++ [.ref p.a]) (us ++ [.ref p.a]) := r.append (.cons rfl .nil)
  refine gn_at F S (vs := vs ++ [.ref p.a]) (by simp; omega) hr hg e0 hbd r2 fun cdv c => ?_
  have go := hb J p d T (cxY P w K mg base N qual (defScope st) f cdv A outer s H E) rfl rfl rfl rfl rfl rfl rfl rfl rfl rfl rfl hj E c (takes_of rfl rfl rfl rfl) (passes_of rfl)
  have ei : ps.length - 1 = ds.length := by omega
  rw [ei] at go
  refine ⟨_, go, φ, startD N.length ds, hm, SR.startH hN rd l, R, ?_⟩
  simp only [fnP] at pst
  cases e : b d (startD N.length ds) hm with
  | rt d h' => simp only [e] at pst; exact fin_sound R pst
  | nx σ h' => simp only [e] at pst; exact fun φ' H' τ l r s => fin_sound R pst φ' H' _ l r .non
  | ex e1 σ h' => simp only [e] at pst; exact fun φ' H' c d τ l r s er => pst φ' H' c d l r er
  | bk _ _ => simp only [e] at pst; exact pst.elim
  | ct _ _ => simp only [e] at pst; exact pst.elim
  | rl _ _ => simp only [e] at pst; exact pst.elim
  | bad => simp only [e] at pst; exact pst.elim
/-- such a def, under its name: its function acts over the ground, or from the call on -/
def HoB (P : Program) (w : World) (K : PySem.W.Frag) (mg : Str → Option Value) (base : Heap) (j k : Nat) (x : Str) (ps : List Str) (nl : Nat) (dg : Fn → Fn) : Prop :=
  ∃ (f : Addr) (fd : FuncData), mg x = some (.ref f) ∧ PySem.W.keepIn K (.ref f) = true ∧ Binds K fd ps [] ∧ ∀ base', Ext base base' → HoRun P w K mg base' j k f fd ps nl dg (byBase base')
def HoE (P : Program) (w : World) (K : PySem.W.Frag) (mg : Str → Option Value) (base : Heap) (j k : Nat) (x : Str) (ps : List Str) (nl : Nat) (dg : Fn → Fn) : Prop :=
  ∃ (f : Addr) (fd : FuncData), mg x = some (.ref f) ∧ PySem.W.keepIn K (.ref f) = true ∧ Binds K fd ps [] ∧ ∀ base', Ext base base' → HoRun P w K mg base' j k f fd ps nl dg byEntry
theorem HoB.up {P : Program} {w : World} {K : PySem.W.Frag} {mg : Str → Option Value} {base b : Heap} {j k : Nat} {x : Str} {ps : List Str} {nl : Nat} {dg : Fn → Fn} (D : HoB P w K mg base j k x ps nl dg) (e : Ext base b) : HoB P w K mg b j k x ps nl dg :=
  let ⟨f, fd, hm, hk, hb, G⟩ := D; ⟨f, fd, hm, hk, hb, fun b' e' => G b' (e.trans e')⟩
theorem HoE.up {P : Program} {w : World} {K : PySem.W.Frag} {mg : Str → Option Value} {base b : Heap} {j k : Nat} {x : Str} {ps : List Str} {nl : Nat} {dg : Fn → Fn} (D : HoE P w K mg base j k x ps nl dg) (e : Ext base b) : HoE P w K mg b j k x ps nl dg :=
  let ⟨f, fd, hm, hk, hb, G⟩ := D; ⟨f, fd, hm, hk, hb, fun b' e' => G b' (e.trans e')⟩
end

/-! ### a lambda handed on -/
structure LamOk (sc : Scope) (Nx : List Str) (params : Arguments) (body : Expr) (scope : Scope) (N ps fr : List Str) (js : List Nat) : Prop where
  S : NdefX.NScope N ps fr scope
  bind : ∀ (qual : Str) (cl : List (Str × Addr)) (pm cv ctv : Value) (us : List Value), us.length = ps.length → bindArgs (PySem.W.kla_fn "<lambda>" qual params body scope cl pm cv ctv) ⟨us, []⟩ = pure (ps.zip us)
  free : ∀ y ∈ scope.names, y.2 = .free → sc.names.lookup y.1 = some .cell ∨ sc.names.lookup y.1 = some .free
  frs : ∀ y ∈ fr, (y, NameKind.free) ∈ scope.names
  at_ : js.map (fun j => Nx[j]?) = fr.map some
/-- g(.., lambda ..: e) -/
def eHo (dg : Fn → Fn) (a : Av) (lam : Sl → Fn) : Ev := fun σ h => (a σ h).bind fun xs h1 => dg (lam σ) xs h1
section
variable {X : Cx} {pins : List (Addr × Obj)} {σ : L2.St} {H : Hp} {s : Shared} {cl : Cl} {st : Sl} {φ : List Addr} {h : Hm} {params : Arguments} {body : Expr} {scope : Scope} {N ps fr : List Str} {js : List Nat} {k : Nat} {e : Ev}
/-- the lambda is made; what it does at the states of J -/
theorem lam_go {lpos : Pos} {E Q : Value → Shared → Prop} (LC : LamC X) (O : LamOk X.env.scope X.N params body scope N ps fr js) (hdef : defaultsOf params X.env = ([], [])) (I : L2.Inv X pins σ H s) (S : SR X.K cl φ H st σ) (R : HR X.K φ H h)
    (go : ∀ (f : Addr) (H1 : Hp) (s1 : Shared), L2.Inv X pins σ H1 s1 → Lat φ H φ H1 → HR X.K φ H1 h →
      (∀ (base : Heap) (J : Shared → Hp → Prop), (∀ s2 H2 , J s2 H2 → (∀ b o, s1.heap.get? b = some o → H1 b = none → b ∉ frs X.stack → s2.heap.get? b = some o ∧ H2 b = none) ∧ ((∃ fs, Un fs [] H1 H2 s1.heap s2.heap) ∨ ∀ y c, X.env.cells.lookup y = some c → c ∉ frs X.stack)) →
        (∀ Z : Cx, Z.prog = X.prog → Z.w = X.w → Z.K = X.K → Z.mg = X.mg → Z.base = base → Z.N = N → Z.env.scope = scope → Z.stack = Z.env :: Z.outer → Z.env.frame = some Z.env.locals → Z.fn = (fun _ => false) → ∀ E : XK, Cs k Z → Takes Z (wOf E) → PassesOwn (model Z.prog Z.w) Z.A Z.env Z.xe → SE Z noCl (wOf E) body e) →
        ActG X.prog X.w X.K X.mg base (k + 1) J ⟨f, φ, H1⟩ ps.length (fnE N.length e js st)) → Q (.ref f) s1) :
    wpAny (model X.prog X.w) X.A (eval (.Lambda params body scope lpos) X.env) Q E s := by
  obtain ⟨x, c, P, hcode, hqual, hx, ht, TB⟩ := LC.ex
  have hfr : ∀ y ∈ scope.names, y.2 = .free → ∃ c, X.env.cells.lookup y.1 = some c := fun y hy e => (O.free y hy e).elim (fun z => I.ok.has _ (.inl z)) fun z => I.ok.has _ (.inr z)
  have hq : X.env.qual ++ "<lambda>" = lq x := by rw [hqual]; rfl
  refine lam_mk I TB hcode hq (R.tab x c P hx ht) hdef hfr fun f c' pm ctv H1 s1 I1 ob hf hn hc T1 d => ?_
  obtain ⟨l, R1⟩ := lam_after R LC.uq hx ht T1 d
  have S1 := S.mono l
  refine go f H1 s1 I1 l R1 fun base J hJ hbody => ?_
  have caps := NdefX.Caps.made (js := js) I1.ok O.free O.frs O.at_
  have C1 := NdefX.cells_of I1 caps
  have at_ : ∀ s2 H2, J s2 H2 → Wk φ H1 φ H1 → ∀ φ2, Wk φ H1 φ2 H2 → ∀ {P w}, HOk P w H2 s2.heap → LamAt params body scope (X.env.qual ++ "<lambda>") (cloFrom X.env.cells scope.names []) f c' fr (js.map (NdefX.slotAt σ)) s2 H2 := by
    intro s2 H2 j _ φ2 wk P w ok
    obtain ⟨old, un⟩ := hJ s2 H2 j
    have cellK : ∀ y c, (cloFrom X.env.cells scope.names []).lookup y = some c → ∀ v, s1.heap.IsCell c v → s2.heap.IsCell c v ∧ H2 c = none := by
      intro y c e v ⟨o, ho, hd⟩
      have n1 := (C1.all y c e).1
      rcases un with ⟨fs, un⟩ | ap
      · obtain ⟨sl, z⟩ := un.any ho n1 (by simp)
        exact ⟨⟨_, z, hd⟩, un.free c o ho n1 (by simp)⟩
      · obtain ⟨z1, z2⟩ := old c o ho n1 (ap y c (caps.sub y c e))
        exact ⟨⟨o, z1, hd⟩, z2⟩
    refine ⟨⟨pm, ctv, (old f _ ob hf hn).1⟩, ⟨C1.len, fun y c e => ?_, C1.inj, fun i y e => ?_⟩, ?_⟩
    · obtain ⟨v, hv⟩ := (C1.all y c e).2
      obtain ⟨z1, z2⟩ := cellK y c e v hv
      exact ⟨z2, v, z1⟩
    · obtain ⟨c, e1, e2⟩ := C1.has i y e
      refine ⟨c, e1, fun v ev => ?_⟩
      obtain ⟨u, r, hu⟩ := e2 v ev
      exact ⟨u, r, (cellK y c e1 _ hu).1⟩
    · have hc2 : H2 c' = some (LamX.CodeO c' (lq x)) := wk.per.ext _ _ hc
      rw [hq]
      exact NdefX.codeO_at ok hc2
  refine ⟨fun s2 H2 j => ?_, fun A outer s2 H2 us vs ds φ2 h2 Q2 E2 hr hg e0 j r rd R2 hl wk p => ?_⟩
  · obtain ⟨old, _⟩ := hJ s2 H2 j
    exact ⟨_, _, _, _, (old f _ ob hf hn).1⟩
  · exact lam_call (at_ s2 H2 j (Wk.refl _ _) φ2 wk e0.hok) O.S (O.bind _) hbody hr hg e0 r rd R2 hl S1 wk p
end
end Y
end

section
set_option Elab.async false
set_option linter.all false
set_option maxRecDepth 100000
set_option maxHeartbeats 2000000
/-! YNd: calls that hand a lambda on; a def that makes lambdas; defs as values. -/
namespace Y
open PySem PySem.Spec PyProof.Rows L2
section
variable {X : Cx} {cl : Cl} {W : WX} {e : Expr} {es : List Expr} {fa : Av} {f1 : Ev} {pos p1 lpos : Pos} {k j m n : Nat} {x : Str} {dg : Fn → Fn} {params : Arguments} {body : Expr} {scope : Scope} {N ps fr gs : List Str} {js : List Nat} {be : Ev}
abbrev LamBody (X : Cx) (base : Heap) (k : Nat) (N : List Str) (scope : Scope) (body : Expr) (be : Ev) : Prop :=
  ∀ Z : Cx, Z.prog = X.prog → Z.w = X.w → Z.K = X.K → Z.mg = X.mg → Z.base = base → Z.N = N → Z.env.scope = scope → Z.stack = Z.env :: Z.outer → Z.env.frame = some Z.env.locals → Z.fn = (fun _ => false) → ∀ E : XK, Cs k Z → Takes Z (wOf E) → PassesOwn (model Z.prog Z.w) Z.A Z.env Z.xe → SE Z noCl (wOf E) body be
/-- the call itself, the lambda at hand -/
theorem ho_call {pins : List (Addr × Obj)} {σ : L2.St} {H : Hp} {s : Shared} {Q : VK} {us : List Value} {vs : List V} {ds : List D} {φ : List Addr} {h : Hm} {f : Addr} {fd : FuncData} {p : Pin} {F : Fn} {base : Heap} {J : Shared → Hp → Prop} {hh : (Shared → Hp → Prop) → Shared → Hp → List Env → Prop}
    (G : HoRun X.prog X.w X.K X.mg base j k f fd gs n dg hh) (T : ActG X.prog X.w X.K X.mg base j J p n F) (hJ : hh J s H X.stack) (c : Cs k X) (tk : Takes X W) (e0 : Env0 X.prog X.w X.K X.mg base X.A X.stack s H) (hb : Binds X.K fd gs []) (I : L2.Inv X pins σ H s) (r : Vals vs us) (rd : RepL X.K φ H ds vs) (R : HR X.K φ H h)
    (hl : ds.length + 1 = gs.length) (l : Wk p.φ p.H φ H) (P : Post X.K cl φ H (RR X.K) (dg F ds h) Q fun c d H' => W c d σ H') : wpAny (model X.prog X.w) X.A (call (.ref f) (us ++ [.ref p.a])) (EP X pins σ Q) X.xe s := by
  have b := hb s (us ++ [.ref p.a]) I.kIn (by rw [List.append_nil]; simp [← r.length, ← rd.length]; omega)
  rw [List.append_nil] at b
  refine wpAny_call (codeAny_mono (G J p F X.A X.stack s H us vs ds φ h Q _ T hJ c.room c.gd e0 b r hl rd R l P) fun q s' hq => ?_)
  cases q with
  | error e => exact passAt tk σ pins H s e s' I hq
  | ok fl =>
    cases fl with
    | ret u => exact I.after hq
    | next => exact hq.elim
    | brk => exact hq.elim
    | cont => exact hq.elim
/-- the lambda is made, then handed to g -/
theorem ho_lam {pins : List (Addr × Obj)} {σ : L2.St} {H : Hp} {s : Shared} {Q : VK} {us : List Value} {vs : List V} {ds : List D} {φ : List Addr} {h : Hm} {st : Sl} {f : Addr} {fd : FuncData}
    (G : (HoRun X.prog X.w X.K X.mg X.base (m + 1) k f fd gs ps.length dg byEntry ∧ LamBody X X.base m N scope body be) ∨
      ((∀ base', Ext X.base base' → HoRun X.prog X.w X.K X.mg base' (m + 1) k f fd gs ps.length dg (byBase base') ∧ LamBody X base' m N scope body be) ∧ X.fn = fun _ => true))
    (hb : Binds X.K fd gs []) (LC : LamC X) (O : LamOk X.env.scope X.N params body scope N ps fr js) (hdef : defaultsOf params X.env = ([], [])) (c : Cs k X) (tk : Takes X W) (I : L2.Inv X pins σ H s) (S : SR X.K cl φ H st σ) (R : HR X.K φ H h) (r : Vals vs us) (rd : RepL X.K φ H ds vs)
    (hl : ds.length + 1 = gs.length) (P : Post X.K cl φ H (RR X.K) (dg (fnE N.length be js st) ds h) Q fun c d H' => W c d σ H') :
    wpAny (model X.prog X.w) X.A (eval (.Lambda params body scope lpos) X.env) (fun v s1 => X.K.In s1.heap ∧ wpAny (model X.prog X.w) X.A (call (.ref f) (us ++ [v])) (EP X pins σ Q) X.xe s1) X.xe s := by
  refine lam_go (k := m) (e := be) LC O hdef I S R fun f0 H1 s1 I1 l R1 act => ⟨I1.kIn, ?_⟩
  have rd1 := RepL.mono l.pre l.per _ _ rd
  have P1 := P.lat l
  rcases G with ⟨G, hbody⟩ | ⟨G, hfn⟩
  · refine ho_call (p := ⟨f0, φ, H1⟩) (J := fun s2 H2 => Un (frs X.stack) [] H1 H2 s1.heap s2.heap) G (act _ _ (fun s2 H2 un => ⟨fun b o e n m => ⟨un.keep b o e n m (by simp), un.free b o e n (by simp)⟩, .inl ⟨_, un⟩⟩) hbody) ?_ c tk I1.env0 hb I1 r rd1 R1 hl (Wk.refl _ _) P1
    intro Z e1 e2 e3 e4 pins2 σ2 H2 s2 I2
    have := I2.base
    rw [e1, e2, e4] at this
    unfold Cx.fs at this
    rw [e3] at this
    exact this
  · obtain ⟨G, hbody⟩ := G _ (grd_ext I1)
    refine ho_call (p := ⟨f0, φ, H1⟩) (J := fun s2 H2 => ∀ b o, (grd s1 H1 X.stack).get? b = some o → s2.heap.get? b = some o ∧ H2 b = none) G (act _ _ (fun s2 H2 q => ⟨fun b o e n m => q b o (grd_get e n m), .inr (cells_apart I1 hfn)⟩) hbody) ?_ c tk (grd_env I1) hb I1 r rd1 R1 hl (Wk.refl _ _) P1
    intro Z e1 pins2 σ2 H2 s2 I2 b o e
    rw [← e1] at e
    exact I2.bs b o e
theorem ho_go0 {f : Addr} {fd : FuncData} (G : (HoRun X.prog X.w X.K X.mg X.base (m + 1) k f fd gs ps.length dg byEntry ∧ LamBody X X.base m N scope body be) ∨
      ((∀ base', Ext X.base base' → HoRun X.prog X.w X.K X.mg base' (m + 1) k f fd gs ps.length dg (byBase base') ∧ LamBody X base' m N scope body be) ∧ X.fn = fun _ => true))
    (hm : X.mg x = some (.ref f)) (hk : PySem.W.keepIn X.K (.ref f) = true) (hb : Binds X.K fd gs []) (LC : LamC X) (O : LamOk X.env.scope X.N params body scope N ps fr js) (hdef : defaultsOf params X.env = ([], [])) (c : Cs k X) (tk : Takes X W) (hl : gs.length = 1) (hg : Gl X x) (hdb : (x == ("__debug__" : Str)) = false) :
    SE X cl W (.Call (.Name x p1) [.Lambda params body scope lpos] [] pos) (eHo dg aN (fnE N.length be js)) := by
  refine ⟨fun pins s σ H Q I ⟨φ, st, h0, S, R, P⟩ => ?_⟩
  refine wpAny_Call_Name_kw (ld_glob I hg hm ?_ hdb)
  refine PySem.W.callWith_K (h₀ := X.base) I.ok.mod.kin hk ?_ (by rfl) (by rfl)
  show wpAny _ _ (spliced ((false, eval (.Lambda params body scope lpos) X.env) :: backTo pos (starEach [] X.env))) _ _ s
  refine Calls.spliced_cons (thn (ho_lam (us := []) (vs := []) (ds := []) G hb LC O hdef c tk I S R .nil .nil (by simp [hl]) P) fun v s1 q => Calls.spliced_nil q)
theorem ho_go1 {f : Addr} {fd : FuncData} (G : (HoRun X.prog X.w X.K X.mg X.base (m + 1) k f fd gs ps.length dg byEntry ∧ LamBody X X.base m N scope body be) ∨
      ((∀ base', Ext X.base base' → HoRun X.prog X.w X.K X.mg base' (m + 1) k f fd gs ps.length dg (byBase base') ∧ LamBody X base' m N scope body be) ∧ X.fn = fun _ => true))
    (hm : X.mg x = some (.ref f)) (hk : PySem.W.keepIn X.K (.ref f) = true) (hb : Binds X.K fd gs []) (LC : LamC X) (O : LamOk X.env.scope X.N params body scope N ps fr js) (hdef : defaultsOf params X.env = ([], [])) (c : Cs k X) (tk : Takes X W) (hl : gs.length = 2) (hg : Gl X x) (hdb : (x == ("__debug__" : Str)) = false) (ha : SE X cl W e f1)
    (he : starEach [e, .Lambda params body scope lpos] X.env = [(false, eval e X.env), (false, eval (.Lambda params body scope lpos) X.env)]) (hpl : (backTo pos (starEach [.Lambda params body scope lpos] X.env)).any (·.1) = false) (he2 : starEach [.Lambda params body scope lpos] X.env = [(false, eval (.Lambda params body scope lpos) X.env)]) :
    SE X cl W (.Call (.Name x p1) [e, .Lambda params body scope lpos] [] pos) (eHo dg (aC f1 aN) (fnE N.length be js)) := by
  refine ⟨fun pins s σ H Q I ⟨φ, st, h0, S, R, P⟩ => ?_⟩
  refine wpAny_Call_Name_kw (ld_glob I hg hm ?_ hdb)
  refine PySem.W.callWith_K (h₀ := X.base) I.ok.mod.kin hk ?_ (by rw [he, he2]) hpl
  rw [he]
  show wpAny _ _ (spliced ((false, eval e X.env) :: (false, eval (.Lambda params body scope lpos) X.env) :: backTo pos (starEach [] X.env))) _ _ s
  refine Calls.spliced_cons (thn (ha.run pins s σ H (fun v H1 => ∃ φ1 x h1, SR X.K cl φ1 H1 st σ ∧ HR X.K φ1 H1 h1 ∧ Rep X.K φ1 H1 x v ∧ Post X.K cl φ1 H1 (RR X.K) (dg (fnE N.length be js st) [x] h1) Q fun c d H' => W c d σ H') I ⟨φ, st, h0, S, R, ?_⟩) fun u s1 ⟨v, H1, I1, r1, φ1, x1, h1, S1, R1, rx, P1⟩ => ?_)
  · simp only [eHo, aC, aN] at P
    cases e1 : f1 st h0 with
    | bad => rw [e1] at P; exact P
    | ex ex1 h1 => rw [e1] at P; exact P
    | ok x1 h1 =>
      rw [e1] at P
      exact fun φ1 H1 v l1 r1 q1 => ⟨φ1, x1, h1, S.mono l1, r1, q1, Post.lat (show Post X.K cl φ H (RR X.K) (dg (fnE N.length be js st) [x1] h1) Q _ from P) l1⟩
  · refine Calls.spliced_cons (thn (ho_lam (us := [u]) (vs := [v]) (ds := [x1]) G hb LC O hdef c tk I1 S1 R1 (.cons r1 .nil) (.cons rx .nil) (by simp [hl]) P1) fun w s2 q => Calls.spliced_nil q)
/-- g(lambda ..: e), e1 too; g calls it at once, or within a comprehension too -/
theorem s_hoE (G : HoE X.prog X.w X.K X.mg X.base (m + 1) j x gs ps.length dg) (hj : j ≤ k) (LC : LamC X) (O : LamOk X.env.scope X.N params body scope N ps fr js) (c : Cs k X) (tk : Takes X W) (hbody : LamBody X X.base m N scope body be) (hl : gs.length = 1 := by rfl) (hdef : defaultsOf params X.env = ([], []) := by rfl) (hg : Gl X x := by rfl) (hdb : (x == ("__debug__" : Str)) = false := by decide) :
    SE X cl W (.Call (.Name x p1) [.Lambda params body scope lpos] [] pos) (eHo dg aN (fnE N.length be js)) := by
  obtain ⟨f, fd, hm, hk, hb, G⟩ := G
  exact ho_go0 (.inl ⟨fun J p F A outer s H us vs ds φ hm Q E T hj' hr => G _ (Ext.refl _) J p F A outer s H us vs ds φ hm Q E T hj' (hr.mono hj), hbody⟩) hm hk hb LC O hdef c tk hl hg hdb
theorem s_hoB1 (G : HoB X.prog X.w X.K X.mg X.base (m + 1) j x gs ps.length dg) (hj : j ≤ k) (LC : LamC X) (O : LamOk X.env.scope X.N params body scope N ps fr js) (c : Cs k X) (tk : Takes X W) (ha : SE X cl W e f1) (hbody : ∀ base', Ext X.base base' → LamBody X base' m N scope body be) (hfn : X.fn = fun _ => true := by rfl) (hl : gs.length = 2 := by rfl) (hdef : defaultsOf params X.env = ([], []) := by rfl) (hg : Gl X x := by rfl) (hdb : (x == ("__debug__" : Str)) = false := by decide)
    (he : starEach [e, .Lambda params body scope lpos] X.env = [(false, eval e X.env), (false, eval (.Lambda params body scope lpos) X.env)] := by rfl) (hpl : (backTo pos (starEach [.Lambda params body scope lpos] X.env)).any (·.1) = false := by rfl) (he2 : starEach [.Lambda params body scope lpos] X.env = [(false, eval (.Lambda params body scope lpos) X.env)] := by rfl) :
    SE X cl W (.Call (.Name x p1) [e, .Lambda params body scope lpos] [] pos) (eHo dg (aC f1 aN) (fnE N.length be js)) := by
  obtain ⟨f, fd, hm, hk, hb, G⟩ := G
  exact ho_go1 (.inr ⟨fun base' hx => ⟨fun J p F A outer s H us vs ds φ hm Q E T hj' hr => G base' hx J p F A outer s H us vs ds φ hm Q E T hj' (hr.mono hj), hbody base' hx⟩, hfn⟩) hm hk hb LC O hdef c tk hl hg hdb ha he hpl he2
end

/-! ### a def that makes lambdas -/
section
variable {P : Program} {w : World} {K : PySem.W.Frag} {mg : Str → Option Value} {base : Heap}
theorem tab_code {x : Str} {f : Addr} {oc : Value} {od : Option Addr} {fd : FuncData} {sl : Array (Option Value)} (u : lamB K = true) (hx : x ∈ lamN) (a : PySem.W.nsIn K mainGlobals x = some (some (.ref f))) (lk : K.lookup f = some ⟨oc, od, .func fd, sl⟩) : ∃ c P, fd.code = .ref c ∧ PySem.W.tabIn K x = some (c, P) := by
  have z : ∃ q, PySem.W.tabIn K x = some q := by
    unfold lamB at u
    rw [Bool.and_eq_true] at u
    have z := List.all_eq_true.mp u.1 x hx
    cases e : PySem.W.tabIn K x with
    | none => rw [e] at z; cases z
    | some q => exact ⟨q, rfl⟩
  obtain ⟨⟨c, P⟩, e⟩ := z
  refine ⟨c, P, ?_, e⟩
  unfold PySem.W.tabIn at e
  rw [a] at e
  simp only [lk] at e
  split at e
  · rename_i c1 hc
    split at e
    · split at e
      · cases e; exact hc
      · cases e
    · cases e
  · cases e
theorem gn_L {x : Str} {st : Stmt} {f : Addr} {fd : FuncData} {N ps : List Str} {k : Nat} {sp : Sp} (u : lamB K = true) (tb : TBs K base mg) (F : Fun K x x st f fd) (a : PySem.W.nsIn K mainGlobals x = some (some (.ref f))) (hx : x ∈ lamN) (S : FnScope N ps (defScope st)) (len : ∀ vs H Q E, sp vs H Q E → vs.length = ps.length)
    (hb : ∀ (cdv : Value) (A : Around) (outer : List Env) (s : Shared) (H : Hp) (vs : List V) (Q : VK) (E : XK), Cs k (cxY P w K mg base N x (defScope st) f cdv A outer s H E) → LamC (cxY P w K mg base N x (defScope st) f cdv A outer s H E) → sp vs H Q E →
      ∃ t, PSs (cxY P w K mg base N x (defScope st) f cdv A outer s H E) (defBody st) t ∧ t { nx := fun _ H' => Q .non H', rt := Q } (start N vs) H) : FnG P w K mg base (k + 1) f fd ps sp := by
  refine ⟨len, fun A outer s H args us vs Q E hr hg e0 hbd r hsp => ?_⟩
  obtain ⟨oc, od, kV, doc, pm, an, cdv, ct, osl, rfl, lk, hcd⟩ := F.ex
  obtain ⟨c, T, ec, et⟩ := tab_code u hx a lk
  have KX : K.In s.heap := e0.mod.kin.keeps fun b o e => (e0.bs b o e).1
  have lim : s.heap.NoLimit := e0.mod.nolimit.keeps fun b o e => (e0.bs b o e).1
  refine Att.call_fn KX lim lk hcd hr.depth hbd (binds_all S.par) (fun s₁ IC => ?_) S.co S.gen S.kind
  obtain ⟨t, ht, hq⟩ := hb cdv A outer s H vs Q E ⟨hr.deeper _, hg, rfl, S.nd⟩ ⟨⟨x, c, T, ec, rfl, hx, et, tb x c T hx et⟩, u⟩ hsp
  have I := inv_start (CX := L2.CX P w) (E := E) (cd := cdv) (f := f) (qual := x) S hr.hd e0 (len _ _ _ _ hsp) r IC
  refine wpAny_mono (ht.run [] s₁ (start N vs) H _ I hq) (fun fl s' hs => ?_) fun e s' hs => hs
  have fin : ∀ {σ' : L2.St} {H' : Hp} {v : V} {u : Value}, L2.Inv (cxY P w K mg base N x (defScope st) f cdv A outer s H E) [] σ' H' s' → RelV v u → Q v H' → CE outer P w H s Q u s' := fun J rv q => ⟨_, _, J.os, J.bare, J.base, J.hok, rv, q⟩
  cases fl with
  | ret u => obtain ⟨v, σ', H', J, rv, q⟩ := hs; exact fin J rv q
  | next => obtain ⟨σ', H', J, q⟩ := hs; exact fin (v := V.non) (u := Value.none) J rfl q
  | brk => obtain ⟨_, _, _, q⟩ := hs; exact q.elim
  | cont => obtain ⟨_, _, _, q⟩ := hs; exact q.elim
abbrev BodyL (P : Program) (w : World) (K : PySem.W.Frag) (mg : Str → Option Value) (base : Heap) (k : Nat) (N : List Str) (st : Stmt) (b : Sv) : Prop :=
  ∀ X : Cx, X.prog = P → X.w = w → X.K = K → X.mg = mg → X.base = base → X.N = N → X.env.scope = defScope st → X.stack = X.env :: X.outer → X.env.frame = some X.env.locals → X.fn = (fun _ => true) → ∀ E : XK, Cs k X → Takes X (wOf E) → PassesOwn (model X.prog X.w) X.A X.env X.xe → LamC X → SSs X noCl (wOf E) (defBody st) b
theorem fn_PL {x : Str} {st : Stmt} {f : Addr} {fd : FuncData} {N ps : List Str} {k : Nat} {b : Sv} (u : lamB K = true) (tb : TBs K base mg) (F : Fun K x x st f fd) (a : PySem.W.nsIn K mainGlobals x = some (some (.ref f))) (hx : x ∈ lamN) (S : FnScope N ps (defScope st)) (hb : BodyL P w K mg base k N st b) :
    FnG P w K mg base (k + 1) f fd ps (spP K noCl ps.length (fnP N.length b)) := by
  refine gn_L u tb F a hx S (fun vs H Q E ⟨φ, ds, h, e, r, _⟩ => by rw [← r.length, e]) fun cdv A outer s H vs Q E c lc ⟨φ, ds, h, el, r, R, p⟩ => ?_
  refine ⟨_, hb _ rfl rfl rfl rfl rfl rfl rfl rfl rfl rfl E c (takes_of rfl rfl rfl rfl) (passes_of rfl) lc, φ, startD N.length ds, h, SR.start r, R, ?_⟩
  simp only [fnP] at p
  cases e : b (startD N.length ds) h with
  | rt d h' => simp only [e] at p; exact fin_sound R p
  | nx σ h' => simp only [e] at p; exact fun φ' H' τ l r s => fin_sound R p φ' H' _ l r .non
  | ex e1 σ h' => simp only [e] at p; exact fun φ' H' c d τ l r s er => p φ' H' c d l r er
  | bk _ _ => simp only [e] at p; exact p.elim
  | ct _ _ => simp only [e] at p; exact p.elim
  | rl _ _ => simp only [e] at p; exact p.elim
  | bad => simp only [e] at p; exact p.elim
theorem fn_KL {x : Str} {st : Stmt} {f : Addr} {fd : FuncData} {N ps : List Str} {k : Nat} {b : Sv} (u : lamB K = true) (tb : TBs K base mg) (F : Fun K x x st f fd) (a : PySem.W.nsIn K mainGlobals x = some (some (.ref f))) (hx : x ∈ lamN) (S : FnScope N ps (defScope st)) (hb : BodyL P w K mg base k N st b) :
    FnG P w K mg base (k + 1) f fd ps (spP K noCl ps.length (fnK N.length b)) := by
  refine gn_L u tb F a hx S (fun vs H Q E ⟨φ, ds, h, e, r, _⟩ => by rw [← r.length, e]) fun cdv A outer s H vs Q E c lc ⟨φ, ds, h, el, r, R, p⟩ => ?_
  refine ⟨_, hb _ rfl rfl rfl rfl rfl rfl rfl rfl rfl rfl E c (takes_of rfl rfl rfl rfl) (passes_of rfl) lc, φ, startD N.length ds, h, SR.start r, R, ?_⟩
  simp only [fnK] at p
  cases e : b (startD N.length ds) h with
  | rt d h' => simp only [e] at p; exact p
  | nx σ h' => simp only [e] at p; exact fun φ' H' τ l r s => p φ' H' _ l r .non
  | ex e1 σ h' => simp only [e] at p; exact fun φ' H' c d τ l r s er => p φ' H' c d l r er
  | bk _ _ => simp only [e] at p; exact p.elim
  | ct _ _ => simp only [e] at p; exact p.elim
  | rl _ _ => simp only [e] at p; exact p.elim
  | bad => simp only [e] at p; exact p.elim
end

/-! ### defs of the module as values -/
/-- f(..), f one of the defs at hand -/
def eDisp (tbl : List (Str × Fn)) (f : Ev) (a : Av) : Ev := fun σ h => (f σ h).bind fun g h1 => match g with
  | .gfn x => (match tbl.lookup x with
    | some F => (a σ h1).bind fun xs h2 => F xs h2
    | none => .bad)
  | _ => .bad
section
variable {X : Cx} {cl : Cl} {W : WX} {e : Expr} {es : List Expr} {fa : Av} {pos p1 : Pos} {k j n i : Nat} {x : Str} {f : Addr} {tbl : List (Str × Fn)}
theorem s_gf (hm : X.mg x = some (.ref f)) (hn : PySem.W.nsIn X.K mainGlobals x = some (some (.ref f))) (hg : Gl X x := by rfl) (hdb : (x == ("__debug__" : Str)) = false := by decide) : SE X cl W (.Name x pos) (eC (.gfn x)) :=
  ⟨fun pins s σ H Q I ⟨φ, st, h0, S, R, P⟩ => ld_glob I hg hm ⟨.ref f, H, I, rfl, P.val R (.gfn hn)⟩ hdb⟩
/-- the defs that a call may mean -/
inductive Tbl (X : Cx) (j n : Nat) : List (Str × Fn) → Prop
  | nil : Tbl X j n []
  | cons {x : Str} {F : Fn} {l : List (Str × Fn)} {ps : List Str} {i : Nat} (h : Def X.prog X.w X.K X.mg X.base i x ps (spP X.K noCl n F)) (hi : i ≤ j) (r : Tbl X j n l) : Tbl X j n ((x, F) :: l)
theorem Tbl.at {x : Str} {F : Fn} : ∀ {l : List (Str × Fn)}, Tbl X j n l → l.lookup x = some F → ∃ ps i, i ≤ j ∧ Def X.prog X.w X.K X.mg X.base i x ps (spP X.K noCl n F)
  | _, .nil, e => by simp at e
  | (y, G) :: l, .cons h hi r, e => by
    rw [List.lookup_cons] at e
    cases hb : x == y with
    | true =>
      rw [hb] at e
      cases e
      obtain rfl := beq_iff_eq.mp hb
      exact ⟨_, _, hi, h⟩
    | false =>
      rw [hb] at e
      exact Tbl.at r e
theorem s_disp {y : Str} (T : Tbl X j n tbl) (hj : j ≤ k) (c : Cs k X) (tk : Takes X W) (ha : SA X cl W (e :: es) fa) (hal : ∀ σ h xs h', fa σ h = .ok xs h' → xs.length = (e :: es).length) (hn : (e :: es).length = n := by rfl) (hN : X.N[i]? = some y := by rfl)
    (hv : Vis X.env.scope y := by first | exact Or.inl rfl | exact Or.inr (Or.inl rfl) | exact Or.inr (Or.inr rfl)) (hd : (y == ("__debug__" : Str)) = false := by decide) (hcd : (y == ("__classdict__" : Str)) = false := by decide)
    (he : starEach (e :: es) X.env = (false, eval e X.env) :: starEach es X.env := by rfl) (hpl : (backTo pos (starEach es X.env)).any (·.1) = false := by rfl) :
    SE X cl W (.Call (.Name y p1) (e :: es) [] pos) (eDisp tbl (eV i) fa) := by
  refine ⟨fun pins s σ H Q I ⟨φ, st, h0, S, R, P⟩ => ?_⟩
  unfold eDisp eV at P
  cases est : st[i]? with
  | none => rw [est] at P; exact P.elim
  | some o =>
    cases o with
    | none => rw [est] at P; exact P.elim
    | some d =>
      rw [est] at P
      simp only [Rs.bind] at P
      split at P
      · rename_i g
        obtain ⟨v, hs, rv⟩ := S.get i _ est
        cases rv with
        | @gfn a _ hns =>
          split at P
          · rename_i F hF
            obtain ⟨ps, i0, hi0, f, fd, hm, hk, hb, G⟩ := T.at hF
            have em := PySem.W.mg_of I.ok.mod.kin I.ok.mod.glob hns
            have ea : a = f := by
              rw [hm] at em
              cases em
              rfl
            rw [ea] at hs
            refine wpAny_Call_Name_kw (thn ((pe_var (pos := p1) (i := i) hN hv hd hcd).run pins s σ H (fun v H1 => v = .ref f ∧ H1 = H) I ⟨.ref f, hs, rfl, rfl⟩) fun u s1 ⟨v, H1, I1, r1, ev, eH⟩ => ?_)
            subst ev eH
            obtain rfl : u = Value.ref f := r1
            refine PySem.W.callWith_K (h₀ := X.base) I1.ok.mod.kin hk (thn (ha.run pos pins s1 σ H1 (fun vs H2 => spP X.K noCl n F vs H2 Q fun c d H' => W c d σ H') I1 ⟨φ, st, h0, S, R, ?_⟩) fun us s2 ⟨vs, H2, I2, r2, q⟩ => ⟨I2.kIn, run_g ((G _ (Ext.refl _)).mono (Nat.le_trans hi0 hj)) c tk hb I2 r2 q⟩) he hpl
            cases e1 : fa st h0 with
            | bad => rw [e1] at P; exact P
            | ex ex1 h1 => rw [e1] at P; exact P
            | ok xs h1 =>
              rw [e1] at P
              exact fun φ1 H1' vs l1 r1' q1 => ⟨φ1, xs, h1, by rw [hal st h0 xs h1 e1, hn], q1, r1', Post.lat (show Post X.K cl φ _ (RR X.K) (F xs h1) Q _ from P) l1⟩
          · exact P.elim
      · exact P.elim
end
end Y
end

section
set_option Elab.async false
set_option linter.all false
set_option maxRecDepth 100000
set_option maxHeartbeats 2000000
/-! YNe: what gen.py prints of lambdas; x = [..] that is changed later. -/
namespace Y
open PySem PySem.Spec PyProof.Rows L2
def lamOkB (sc : Scope) (Nx : List Str) (scope : Scope) (N ps fr : List Str) (js : List Nat) : Bool :=
  NdefX.nscB N ps fr scope && scope.names.all (fun y => !decide (y.2 = .free) || decide (sc.names.lookup y.1 = some .cell) || decide (sc.names.lookup y.1 = some .free)) &&
    fr.all (fun y => scope.names.any fun z => decide (z = (y, NameKind.free))) && decide (js.map (fun j => Nx[j]?) = fr.map some)
theorem lamOk_by {sc : Scope} {Nx : List Str} {params : Arguments} {body : Expr} {scope : Scope} {N ps fr : List Str} {js : List Nat} (h : lamOkB sc Nx scope N ps fr js = true)
    (hb : ∀ (qual : Str) (cl : List (Str × Addr)) (pm cv ctv : Value) (us : List Value), us.length = ps.length → bindArgs (PySem.W.kla_fn "<lambda>" qual params body scope cl pm cv ctv) ⟨us, []⟩ = pure (ps.zip us)) : LamOk sc Nx params body scope N ps fr js := by
  unfold lamOkB at h
  simp only [Bool.and_eq_true, List.all_eq_true, List.any_eq_true, Bool.or_eq_true, Bool.not_eq_true', decide_eq_true_eq, decide_eq_false_iff_not] at h
  obtain ⟨⟨⟨h1, h2⟩, h3⟩, h4⟩ := h
  refine ⟨NdefX.nscope_by h1, hb, fun y hy e => ?_, fun y hy => ?_, h4⟩
  · rcases h2 y hy with (z | z) | z
    · exact absurd e z
    · exact .inl z
    · exact .inr z
  · obtain ⟨z, hz, e⟩ := h3 y hy
    exact e ▸ hz
/-- a def of the module, named as a value -/
def GFn (K : PySem.W.Frag) (mg : Str → Option Value) (x : Str) : Prop := ∃ f : Addr, mg x = some (.ref f) ∧ PySem.W.nsIn K mainGlobals x = some (some (.ref f))
section
variable {X : Cx} {cl : Cl} {W : WX} {e : Expr} {es : List Expr} {fa : Av} {f1 : Ev} {pos p1 lpos : Pos} {k j m n : Nat} {x : Str} {dg : Fn → Fn} {params : Arguments} {body : Expr} {scope : Scope} {N ps fr gs : List Str} {js : List Nat} {be : Ev}
theorem s_gfx (T : GFn X.K X.mg x) (hg : Gl X x := by rfl) (hdb : (x == ("__debug__" : Str)) = false := by decide) : SE X cl W (.Name x pos) (eC (.gfn x)) := by
  obtain ⟨f, h1, h2⟩ := T
  exact s_gf h1 h2 hg hdb
theorem s_hoE1 (G : HoE X.prog X.w X.K X.mg X.base (m + 1) j x gs ps.length dg) (hj : j ≤ k) (LC : LamC X) (O : LamOk X.env.scope X.N params body scope N ps fr js) (c : Cs k X) (tk : Takes X W) (ha : SE X cl W e f1) (hbody : LamBody X X.base m N scope body be) (hl : gs.length = 2 := by rfl) (hdef : defaultsOf params X.env = ([], []) := by rfl) (hg : Gl X x := by rfl) (hdb : (x == ("__debug__" : Str)) = false := by decide)
    (he : starEach [e, .Lambda params body scope lpos] X.env = [(false, eval e X.env), (false, eval (.Lambda params body scope lpos) X.env)] := by rfl) (hpl : (backTo pos (starEach [.Lambda params body scope lpos] X.env)).any (·.1) = false := by rfl) (he2 : starEach [.Lambda params body scope lpos] X.env = [(false, eval (.Lambda params body scope lpos) X.env)] := by rfl) :
    SE X cl W (.Call (.Name x p1) [e, .Lambda params body scope lpos] [] pos) (eHo dg (aC f1 aN) (fnE N.length be js)) := by
  obtain ⟨f, fd, hm, hk, hb, G⟩ := G
  exact ho_go1 (.inl ⟨fun J p F A outer s H us vs ds φ hm Q E T hj' hr => G _ (Ext.refl _) J p F A outer s H us vs ds φ hm Q E T hj' (hr.mono hj), hbody⟩) hm hk hb LC O hdef c tk hl hg hdb ha he hpl he2
end
/-! ### x = [..], changed later -/
section
variable {X : Cx} {cl : Cl} {W : WX} {tg iter elt : Expr} {ifs : List Expr} {scope : Scope} {own : List (Str × Nat)} {pos : Pos} {it : Iv} {it2 : Iv2} {g : Gv} {is : List Nat} {t : Tv} {f : Ev}
theorem s_setCompM {k i : Nat} {y : Str} {py spos : Pos} (c0 : Cs k X) (hy : X.N[i]? = some y) (hyl : X.env.scope.names.lookup y = some .local)
    (hsw : swapsWith (.ListComp elt [⟨tg, iter, ifs, 0⟩] scope pos) (some (.Name y py)) spos.line X.env = pure true) (hi : SI X cl W tg iter it) (ok : BlkOk X.N X.env.scope scope own) (his : ∀ i ∈ is, i ∈ own.map (·.2))
    (hg : ∀ (s : Shared) (H : Hp) (C : Addr) (cc : List (Str × Addr)) (fp : List Addr), SG (X.blk s H scope (compEnvC scope cc C X.env) fp) cl tg g is)
    (ht : ∀ (s : Shared) (H : Hp) (C : Addr) (cc : List (Str × Addr)) (fp : List Addr), STs (X.blk s H scope (compEnvC scope cc C X.env) fp) cl W0 ifs t)
    (he : ∀ (s : Shared) (H : Hp) (C : Addr) (cc : List (Str × Addr)) (fp : List Addr), SE (X.blk s H scope (compEnvC scope cc C X.env) fp) cl W0 elt f) (hs : ∀ x, foldedSetIterable iter X.env x = pure x := by intro _; rfl) (hcl : ∀ v ∈ own.map (·.2), cl v = none := by first | exact fun _ _ => rfl | simp [pinCl]) :
    SS X cl W (.Assign [.Name y py] (.ListComp elt [⟨tg, iter, ifs, 0⟩] scope pos) spos) (sAsg (gN i) (eMut (lComp it g t f (own.map (·.2))))) := by
  refine PS.of (ps_setLc (g := tGv X.K cl g is) (tt := tG X.K cl W0 RBool t) (te := tG X.K cl W0 (RR X.K) f) c0.calm c0.nd hy hyl hsw hi ok hg ht he hs) fun D σ H p => ?_
  refine comp_go (W := W) (cl := cl) (t := t) (f := f) his hcl ?_
  obtain ⟨φ, st, h0, S, R0, P⟩ := p
  refine ⟨φ, st, h0, S, R0, ?_⟩
  simp only [sAsg, eMut] at P
  cases e : lComp it g t f (own.map (·.2)) st h0 with
  | bad => simp only [e, Rs.bind, Rs.out] at P; exact P
  | ex ex1 h1 =>
    simp only [e, Rs.bind, Rs.out] at P
    exact fun φ' H' c d l r er => P φ' H' c d σ l r (S.mono l) er
  | ok ds h1 =>
    simp only [e, Rs.bind, gN, Rs.out, outO] at P
    rintro φ' H' v l r ⟨a, vs, rfl, n0, nn, ea, rr⟩
    obtain ⟨l2, x2, y2⟩ := Fresh.mut l n0 r nn ea rr
    exact P _ _ _ l2 x2 ((S.mono l2).set i y2)
end
end Y
end

section
set_option Elab.async false
set_option linter.all false
set_option maxRecDepth 100000
set_option maxHeartbeats 4000000
namespace K06
open PySem PySem.Spec PyProof.Rows L2 Y
def top (i : Nat) : Stmt := PySem.Challenge.pw_sixtylines_k06_whole_rows_and_products.main.body.getD i (.Pass ⟨0, 0, 0, 0⟩)
section
variable {P : Program} {w : World} {K : PySem.W.Frag} {mg : Str → Option Value} {base : Heap} {f : Addr} {fd : FuncData}
abbrev s_u_law_pen : Stmt := top 42
def b_u_law_pen_l1 : Sv := sAsg (gN 1) (e2 oMod (eB bInt (aC (e2 oAdd (e2 oMul (eV 1) (eC (.int 137))) (eV 2)) (aN))) (eC (.int 1000000033)))
def b_u_law_pen_2 : Sv := sRet (eDct (pC (eC (.str "cells")) (eFrz (lB mList (aC (eV 0) (aN)))) (pC (eC (.str "at")) (eC (.int 0)) (pC (eC (.str "digits")) (eC (.int 0)) (pC (eC (.str "count")) (eC (.int 0)) (pC (eC (.str "fold")) (eV 1) (pN)))))))
def b_u_law_pen_1 : Sv := sSeq (sFor (iA (eV 0)) (gN 2) (b_u_law_pen_l1))
    (b_u_law_pen_2)
def b_u_law_pen : Sv := sSeq (sAsg (gN 1) (eC (.int 0)))
    (b_u_law_pen_1)
def d_u_law_pen : Fn := fnK 3 b_u_law_pen
theorem sc_u_law_pen : FnScope ["script", "fold", "cell"] ["script"] (defScope s_u_law_pen) := ⟨rfl, rfl, rfl, by decide +kernel, rfl, by decide +kernel, by decide +kernel⟩
theorem fn_u_law_pen (F : Fun K "_law_pen" "_law_pen" s_u_law_pen f fd) (z_int : mg "int" = none) (z_list : mg "list" = none)         :
    FnG P w K mg base 1 f fd ["script"] (spP K noCl 1 d_u_law_pen) := by
  refine fn_K (N := ["script", "fold", "cell"]) F sc_u_law_pen ?_
  rintro ⟨prog, w2, K2, mg2, base2, A, N, s0, H0, ⟨sc, lo, gl, ce, qu, fu, co, fr, bl⟩, outer, stack, ex, fn, calm, pn, xe⟩ e1 e2 e3 e4 e5 e6 e7 e8 e9 e10 E c tk hp
  dsimp only at e1 e2 e3 e4 e5 e6 e7 e8 e9 e10
  subst e1 e2 e3 e4 e5 e6 e7 e8 e9 e10
  exact ss_cons (s_set (j := 1) c.nd (s_int))
    (ss_cons (s_for hp c.calm (i_any (s_v 0)) (g_n 2 c.nd) (ss_one (s_set (j := 1) c.nd (s_op y_mod (s_bT c_int rfl z_int rfl (a_cons (s_op y_add (s_op y_mul (s_v 1) (s_int)) (s_v 2)) (a_nil))) (s_int)))))
    (ss_one (s_ret (s_dct (p_cons (s_str) (s_frz (l_bT c_list rfl z_list rfl (a_cons (s_v 0) (a_nil)))) (p_cons (s_str) (s_int) (p_cons (s_str) (s_int) (p_cons (s_str) (s_int) (p_cons (s_str) (s_v 1) (p_nil)))))) (by rfl) (by rfl) (by decide) (by decide)))))
abbrev s_u_law_gcd : Stmt := top 46
def b_u_law_gcd_l2_1 : Sv := sPar 3 4 (aC (eV 4) (aC (e2 oMod (eB bInt (aC (eV 3) (aN))) (eV 4)) aN))
def b_u_law_gcd_l2 : Sv := sSeq (sIf (tB (e2 oEq (eV 4) (eC (.int 0)))) (sBk) (sPass))
    (b_u_law_gcd_l2_1)
def b_u_law_gcd_l1_2 : Sv := sAsg (gN 1) (eV 3)
def b_u_law_gcd_l1_1 : Sv := sSeq (sFor (iR1 (aC (eC (.int 400)) (aN))) (gN 5) (b_u_law_gcd_l2))
    (b_u_law_gcd_l1_2)
def b_u_law_gcd_l1 : Sv := sSeq (sPar 3 4 (aC (eB bAbs (aC (eV 2) (aN))) (aC (eV 1) aN)))
    (b_u_law_gcd_l1_1)
def b_u_law_gcd_2 : Sv := sRet (eV 1)
def b_u_law_gcd_1 : Sv := sSeq (sFor (iA (eV 0)) (gN 2) (b_u_law_gcd_l1))
    (b_u_law_gcd_2)
def b_u_law_gcd : Sv := sSeq (sAsg (gN 1) (eC (.int 0)))
    (b_u_law_gcd_1)
def d_u_law_gcd : Fn := fnP 6 b_u_law_gcd
theorem sc_u_law_gcd : FnScope ["values", "found", "x", "one", "two", "lap"] ["values"] (defScope s_u_law_gcd) := ⟨rfl, rfl, rfl, by decide +kernel, rfl, by decide +kernel, by decide +kernel⟩
theorem fn_u_law_gcd (F : Fun K "_law_gcd" "_law_gcd" s_u_law_gcd f fd) (z_abs : mg "abs" = none) (z_range : mg "range" = none) (z_int : mg "int" = none)         :
    FnG P w K mg base 1 f fd ["values"] (spP K noCl 1 d_u_law_gcd) := by
  refine fn_P (N := ["values", "found", "x", "one", "two", "lap"]) F sc_u_law_gcd ?_
  rintro ⟨prog, w2, K2, mg2, base2, A, N, s0, H0, ⟨sc, lo, gl, ce, qu, fu, co, fr, bl⟩, outer, stack, ex, fn, calm, pn, xe⟩ e1 e2 e3 e4 e5 e6 e7 e8 e9 e10 E c tk hp
  dsimp only at e1 e2 e3 e4 e5 e6 e7 e8 e9 e10
  subst e1 e2 e3 e4 e5 e6 e7 e8 e9 e10
  exact ss_cons (s_set (j := 1) c.nd (s_int))
    (ss_cons (s_for hp c.calm (i_any (s_v 0)) (g_n 2 c.nd) (ss_cons (s_par (j := 3) (l := 4) c.calm c.nd (a_cons (s_b c_abs rfl z_abs rfl (a_cons (s_v 2) (a_nil))) (a_cons (s_v 1) a_nil)))
    (ss_cons (s_for hp c.calm (i_r1 rfl z_range (a_cons (s_int) (a_nil))) (g_n 5 c.nd) (ss_cons (s_ifS (t_cmp (y_eq c) (s_v 4) (s_int) rfl) (ss_one (s_bk)) (ss_nil))
    (ss_one (s_par (j := 3) (l := 4) c.calm c.nd (a_cons (s_v 4) (a_cons (s_op y_mod (s_bT c_int rfl z_int rfl (a_cons (s_v 3) (a_nil))) (s_v 4)) a_nil))))))
    (ss_one (s_set (j := 1) c.nd (s_v 3))))))
    (ss_one (s_ret (s_v 1))))
abbrev s_u_law_draw : Stmt := top 43
def b_u_law_draw_4 : Sv := sRet (e2 oMod (e2 oDiv (eB bInt (aC (e2 oMod (e2 oPow (eV 4) (eC (.int 23))) (eC (.int 2305843009213693951))) (aN))) (eC (.int 128))) (eV 1))
def b_u_law_draw_3 : Sv := sSeq (sAsg (gN 4) (e2 oAdd (e2 oAdd (e2 oIx (eV 0) (eC (.str "fold"))) (e2 oMul (e2 oIx (eV 0) (eC (.str "count"))) (eC (.int 9311)))) (eC (.int 137))))
    (b_u_law_draw_4)
def b_u_law_draw_2 : Sv := sSeq (sIf (tB (e2 oGt (e2 oIx (eV 0) (eC (.str "digits"))) (eC (.int 0)))) (sSeq (sAsg (gN 3) (e2 oMod (eB bInt (aC (e2 oIx (eV 0) (eC (.str "digits"))) (aN))) (eV 1)))
    (sSeq (sStore (eV 0) (eC (.str "digits")) (e2 oDiv (e2 oIx (eV 0) (eC (.str "digits"))) (eV 1)))
    (sRet (eV 3)))) (sPass))
    (b_u_law_draw_3)
def b_u_law_draw_1 : Sv := sSeq (sIf (tAnd (tB (e2 oEq (e2 oIx (eV 0) (eC (.str "digits"))) (eC (.int 0)))) (tB (e2 oLt (e2 oIx (eV 0) (eC (.str "at"))) (eB bLen (aC (e2 oIx (eV 0) (eC (.str "cells"))) (aN)))))) (sSeq (sAsg (gN 2) (e2 oIx (e2 oIx (eV 0) (eC (.str "cells"))) (e2 oIx (eV 0) (eC (.str "at")))))
    (sSeq (sStore (eV 0) (eC (.str "at")) (e2 oAdd (e2 oIx (eV 0) (eC (.str "at"))) (eC (.int 1))))
    (sIf (tB (e2 oGe (eV 2) (e2 oPow (eC (.int 10)) (eC (.int 18))))) (sStore (eV 0) (eC (.str "digits")) (e2 oSub (eV 2) (e2 oPow (eC (.int 10)) (eC (.int 18))))) (sStore (eV 0) (eC (.str "fold")) (e2 oMod (eB bInt (aC (e2 oAdd (e2 oMul (e2 oIx (eV 0) (eC (.str "fold"))) (eC (.int 73327))) (eV 2)) (aN))) (eC (.int 2147483543))))))) (sPass))
    (b_u_law_draw_2)
def b_u_law_draw : Sv := sSeq (sStore (eV 0) (eC (.str "count")) (e2 oAdd (e2 oIx (eV 0) (eC (.str "count"))) (eC (.int 1))))
    (b_u_law_draw_1)
def d_u_law_draw : Fn := fnP 5 b_u_law_draw
theorem sc_u_law_draw : FnScope ["pen", "many", "cell", "digit", "blend"] ["pen", "many"] (defScope s_u_law_draw) := ⟨rfl, rfl, rfl, by decide +kernel, rfl, by decide +kernel, by decide +kernel⟩
theorem fn_u_law_draw (F : Fun K "_law_draw" "_law_draw" s_u_law_draw f fd) (z_len : mg "len" = none) (z_int : mg "int" = none)         :
    FnG P w K mg base 1 f fd ["pen", "many"] (spP K noCl 2 d_u_law_draw) := by
  refine fn_P (N := ["pen", "many", "cell", "digit", "blend"]) F sc_u_law_draw ?_
  rintro ⟨prog, w2, K2, mg2, base2, A, N, s0, H0, ⟨sc, lo, gl, ce, qu, fu, co, fr, bl⟩, outer, stack, ex, fn, calm, pn, xe⟩ e1 e2 e3 e4 e5 e6 e7 e8 e9 e10 E c tk hp
  dsimp only at e1 e2 e3 e4 e5 e6 e7 e8 e9 e10
  subst e1 e2 e3 e4 e5 e6 e7 e8 e9 e10
  exact ss_cons (s_store c (s_v 0) (s_str) (s_op y_add (s_ix c (s_v 0) (s_str) (fun _ _ => rfl)) (s_int)))
    (ss_cons (s_ifS (t_w (w_and (t_cmp (y_eq c) (s_ix c (s_v 0) (s_str) (fun _ _ => rfl)) (s_int) rfl) (w_and1 (t_cmp (y_lt c) (s_ix c (s_v 0) (s_str) (fun _ _ => rfl)) (s_b c_len rfl z_len rfl (a_cons (s_ix c (s_v 0) (s_str) (fun _ _ => rfl)) (a_nil))) rfl)))) (ss_cons (s_set (j := 2) c.nd (s_ix c (s_ix c (s_v 0) (s_str) (fun _ _ => rfl)) (s_ix c (s_v 0) (s_str) (fun _ _ => rfl)) (fun _ _ => rfl)))
    (ss_cons (s_store c (s_v 0) (s_str) (s_op y_add (s_ix c (s_v 0) (s_str) (fun _ _ => rfl)) (s_int)))
    (ss_one (s_ifS (t_cmp y_ge (s_v 2) (s_op y_pow (s_int) (s_int)) rfl) (ss_one (s_store c (s_v 0) (s_str) (s_op y_sub (s_v 2) (s_op y_pow (s_int) (s_int))))) (ss_one (s_store c (s_v 0) (s_str) (s_op y_mod (s_bT c_int rfl z_int rfl (a_cons (s_op y_add (s_op y_mul (s_ix c (s_v 0) (s_str) (fun _ _ => rfl)) (s_int)) (s_v 2)) (a_nil))) (s_int)))))))) (ss_nil))
    (ss_cons (s_ifS (t_cmp y_gt (s_ix c (s_v 0) (s_str) (fun _ _ => rfl)) (s_int) rfl) (ss_cons (s_set (j := 3) c.nd (s_op y_mod (s_bT c_int rfl z_int rfl (a_cons (s_ix c (s_v 0) (s_str) (fun _ _ => rfl)) (a_nil))) (s_v 1)))
    (ss_cons (s_store c (s_v 0) (s_str) (s_op y_div (s_ix c (s_v 0) (s_str) (fun _ _ => rfl)) (s_v 1)))
    (ss_one (s_ret (s_v 3))))) (ss_nil))
    (ss_cons (s_set (j := 4) c.nd (s_op y_add (s_op y_add (s_ix c (s_v 0) (s_str) (fun _ _ => rfl)) (s_op y_mul (s_ix c (s_v 0) (s_str) (fun _ _ => rfl)) (s_int))) (s_int)))
    (ss_one (s_ret (s_op y_mod (s_op y_div (s_bT c_int rfl z_int rfl (a_cons (s_op y_mod (s_op y_pow (s_v 4) (s_int)) (s_int)) (a_nil))) (s_int)) (s_v 1)))))))
abbrev s_u_law_pick : Stmt := top 44
def b_u_law_pick : Sv := sRet (e2 oIx (eV 1) (eCall d_u_law_draw (aC (eV 0) (aC (eB bLen (aC (eV 1) (aN))) (aN)))))
def d_u_law_pick : Fn := fnP 2 b_u_law_pick
theorem sc_u_law_pick : FnScope ["pen", "some"] ["pen", "some"] (defScope s_u_law_pick) := ⟨rfl, rfl, rfl, by decide +kernel, rfl, by decide +kernel, by decide +kernel⟩
theorem fn_u_law_pick (F : Fun K "_law_pick" "_law_pick" s_u_law_pick f fd) (z_len : mg "len" = none)      (D_u_law_draw : Def P w K mg base 1 "_law_draw" ["pen", "many"] (spP K noCl 2 d_u_law_draw))   :
    FnG P w K mg base 2 f fd ["pen", "some"] (spP K noCl 2 d_u_law_pick) := by
  refine fn_P (N := ["pen", "some"]) F sc_u_law_pick ?_
  rintro ⟨prog, w2, K2, mg2, base2, A, N, s0, H0, ⟨sc, lo, gl, ce, qu, fu, co, fr, bl⟩, outer, stack, ex, fn, calm, pn, xe⟩ e1 e2 e3 e4 e5 e6 e7 e8 e9 e10 E c tk hp
  dsimp only at e1 e2 e3 e4 e5 e6 e7 e8 e9 e10
  subst e1 e2 e3 e4 e5 e6 e7 e8 e9 e10
  exact ss_one (s_ret (s_ix c (s_v 1) (q_call D_u_law_draw (by decide) c tk (a_cons (s_v 0) (a_cons (s_b c_len rfl z_len rfl (a_cons (s_v 1) (a_nil))) (a_nil))) (al_cons (al_cons (al_nil)))) (fun _ _ => rfl)))
abbrev s_is_whole : Stmt := top 9
def b_is_whole : Sv := sRet (eAnd (eIs Ty.int (eV 0)) (e1 uNot (eIs Ty.bool (eV 0))))
def d_is_whole : Fn := fnP 1 b_is_whole
theorem sc_is_whole : FnScope ["value"] ["value"] (defScope s_is_whole) := ⟨rfl, rfl, rfl, by decide +kernel, rfl, by decide +kernel, by decide +kernel⟩
theorem fn_is_whole (F : Fun K "is_whole" "is_whole" s_is_whole f fd) (z_isinstance : mg "isinstance" = none) (z_int : mg "int" = none) (z_bool : mg "bool" = none)         :
    FnG P w K mg base 1 f fd ["value"] (spP K noCl 1 d_is_whole) := by
  refine fn_P (N := ["value"]) F sc_is_whole ?_
  rintro ⟨prog, w2, K2, mg2, base2, A, N, s0, H0, ⟨sc, lo, gl, ce, qu, fu, co, fr, bl⟩, outer, stack, ex, fn, calm, pn, xe⟩ e1 e2 e3 e4 e5 e6 e7 e8 e9 e10 E c tk hp
  dsimp only at e1 e2 e3 e4 e5 e6 e7 e8 e9 e10
  subst e1 e2 e3 e4 e5 e6 e7 e8 e9 e10
  exact ss_one (s_ret (s_and (s_isi Ty.int (s_v 0) (hm := z_isinstance) (hm2 := z_int) (hb := rfl) (hn := by decide) (hd := by decide)) (s_one (s_not (s_isi Ty.bool (s_v 0) (hm := z_isinstance) (hm2 := z_bool) (hb := rfl) (hn := by decide) (hd := by decide))))))
abbrev s_is_row_of : Stmt := top 11
def b_is_row_of : Sv := sRet (eAnd (eIs Ty.tuple (eV 0)) (eAnd (e2 oEq (eB bLen (aC (eV 0) (aN))) (eV 1)) (eB bAll (aC (eFrz (lComp (iA (eV 0)) (gN 2) (tYes) (eCall d_is_whole (aC (eV 2) (aN))) [2])) (aN)))))
def d_is_row_of : Fn := fnP 3 b_is_row_of
theorem sc_is_row_of : FnScope ["value", "many", "item"] ["value", "many"] (defScope s_is_row_of) := ⟨rfl, rfl, rfl, by decide +kernel, rfl, by decide +kernel, by decide +kernel⟩
theorem fn_is_row_of (F : Fun K "is_row_of" "is_row_of" s_is_row_of f fd) (z_isinstance : mg "isinstance" = none) (z_tuple : mg "tuple" = none) (z_len : mg "len" = none) (z_all : mg "all" = none)      (D_is_whole : Def P w K mg base 1 "is_whole" ["value"] (spP K noCl 1 d_is_whole))   :
    FnG P w K mg base 2 f fd ["value", "many"] (spP K noCl 2 d_is_row_of) := by
  refine fn_P (N := ["value", "many", "item"]) F sc_is_row_of ?_
  rintro ⟨prog, w2, K2, mg2, base2, A, N, s0, H0, ⟨sc, lo, gl, ce, qu, fu, co, fr, bl⟩, outer, stack, ex, fn, calm, pn, xe⟩ e1 e2 e3 e4 e5 e6 e7 e8 e9 e10 E c tk hp
  dsimp only at e1 e2 e3 e4 e5 e6 e7 e8 e9 e10
  subst e1 e2 e3 e4 e5 e6 e7 e8 e9 e10
  exact ss_one (s_ret (s_and (s_isi Ty.tuple (s_v 0) (hm := z_isinstance) (hm2 := z_tuple) (hb := rfl) (hn := by decide) (hd := by decide)) (s_and (s_cmp (y_eq c) (s_b c_len rfl z_len rfl (a_cons (s_v 0) (a_nil))) (s_v 1) rfl) (s_one (s_b (c_all c.calm) rfl z_all rfl (a_cons (s_frz (l_comp c (i_any (s_v 0)) (own := [("item", 2)]) (blkOk_by rfl) (by decide) (fun s H C cc fp => g_n 2 (c.blk).nd) (fun s H C cc fp => ts_nil) (fun s H C cc fp => q_call D_is_whole (by decide) (c.blk) takes0 (a_cons (s_v 2) (a_nil)) (al_cons (al_nil))))) (a_nil)))))))
abbrev s_is_row : Stmt := top 20
def b_is_row : Sv := sRet (eAnd (eIs Ty.tuple (eV 0)) (eCall d_is_row_of (aC (eV 0) (aC (eB bLen (aC (eV 0) (aN))) (aN)))))
def d_is_row : Fn := fnP 1 b_is_row
theorem sc_is_row : FnScope ["value"] ["value"] (defScope s_is_row) := ⟨rfl, rfl, rfl, by decide +kernel, rfl, by decide +kernel, by decide +kernel⟩
theorem fn_is_row (F : Fun K "is_row" "is_row" s_is_row f fd) (z_isinstance : mg "isinstance" = none) (z_tuple : mg "tuple" = none) (z_len : mg "len" = none)      (D_is_row_of : Def P w K mg base 2 "is_row_of" ["value", "many"] (spP K noCl 2 d_is_row_of))   :
    FnG P w K mg base 3 f fd ["value"] (spP K noCl 1 d_is_row) := by
  refine fn_P (N := ["value"]) F sc_is_row ?_
  rintro ⟨prog, w2, K2, mg2, base2, A, N, s0, H0, ⟨sc, lo, gl, ce, qu, fu, co, fr, bl⟩, outer, stack, ex, fn, calm, pn, xe⟩ e1 e2 e3 e4 e5 e6 e7 e8 e9 e10 E c tk hp
  dsimp only at e1 e2 e3 e4 e5 e6 e7 e8 e9 e10
  subst e1 e2 e3 e4 e5 e6 e7 e8 e9 e10
  exact ss_one (s_ret (s_and (s_isi Ty.tuple (s_v 0) (hm := z_isinstance) (hm2 := z_tuple) (hb := rfl) (hn := by decide) (hd := by decide)) (s_one (q_call D_is_row_of (by decide) c tk (a_cons (s_v 0) (a_cons (s_b c_len rfl z_len rfl (a_cons (s_v 0) (a_nil))) (a_nil))) (al_cons (al_cons (al_nil)))))))
abbrev s_need_row : Stmt := top 22
def b_need_row : Sv := sIf (tNot (tT (eCall d_is_row (aC (eV 0) (aN))))) (sRaise "BadRow" ["row"] (aC (eV 0) (aN))) (sPass)
def d_need_row : Fn := fnP 1 b_need_row
theorem sc_need_row : FnScope ["row"] ["row"] (defScope s_need_row) := ⟨rfl, rfl, rfl, by decide +kernel, rfl, by decide +kernel, by decide +kernel⟩
theorem fn_need_row (F : Fun K "need_row" "need_row" s_need_row f fd)   (E_BadRow : Exc P w K mg base "BadRow" ["row"])    (D_is_row : Def P w K mg base 3 "is_row" ["value"] (spP K noCl 1 d_is_row))   :
    FnG P w K mg base 4 f fd ["row"] (spP K noCl 1 d_need_row) := by
  refine fn_P (N := ["row"]) F sc_need_row ?_
  rintro ⟨prog, w2, K2, mg2, base2, A, N, s0, H0, ⟨sc, lo, gl, ce, qu, fu, co, fr, bl⟩, outer, stack, ex, fn, calm, pn, xe⟩ e1 e2 e3 e4 e5 e6 e7 e8 e9 e10 E c tk hp
  dsimp only at e1 e2 e3 e4 e5 e6 e7 e8 e9 e10
  subst e1 e2 e3 e4 e5 e6 e7 e8 e9 e10
  exact ss_one (s_ifS (t_not (t_tr (q_call D_is_row (by decide) c tk (a_cons (s_v 0) (a_nil)) (al_cons (al_nil))))) (ss_one (s_raise E_BadRow c (by decide) tk (a_cons (s_v 0) (a_nil)))) (ss_nil))
abbrev s_need_two_rows : Stmt := top 24
def b_need_two_rows_2 : Sv := sIf (tB (e2 oNe (eB bLen (aC (eV 0) (aN))) (eB bLen (aC (eV 1) (aN))))) (sRaise "NotKept" ["promise", "witness"] (aC (eC (.str "length")) (aC (eTup (aC (eB bLen (aC (eV 0) (aN))) (aC (eB bLen (aC (eV 1) (aN))) (aN)))) (aN)))) (sPass)
def b_need_two_rows_1 : Sv := sSeq (sExpr (eCall d_need_row (aC (eV 1) (aN))))
    (b_need_two_rows_2)
def b_need_two_rows : Sv := sSeq (sExpr (eCall d_need_row (aC (eV 0) (aN))))
    (b_need_two_rows_1)
def d_need_two_rows : Fn := fnP 2 b_need_two_rows
theorem sc_need_two_rows : FnScope ["one", "two"] ["one", "two"] (defScope s_need_two_rows) := ⟨rfl, rfl, rfl, by decide +kernel, rfl, by decide +kernel, by decide +kernel⟩
theorem fn_need_two_rows (F : Fun K "need_two_rows" "need_two_rows" s_need_two_rows f fd) (z_len : mg "len" = none)  (E_NotKept : Exc P w K mg base "NotKept" ["promise", "witness"])    (D_need_row : Def P w K mg base 4 "need_row" ["row"] (spP K noCl 1 d_need_row))   :
    FnG P w K mg base 5 f fd ["one", "two"] (spP K noCl 2 d_need_two_rows) := by
  refine fn_P (N := ["one", "two"]) F sc_need_two_rows ?_
  rintro ⟨prog, w2, K2, mg2, base2, A, N, s0, H0, ⟨sc, lo, gl, ce, qu, fu, co, fr, bl⟩, outer, stack, ex, fn, calm, pn, xe⟩ e1 e2 e3 e4 e5 e6 e7 e8 e9 e10 E c tk hp
  dsimp only at e1 e2 e3 e4 e5 e6 e7 e8 e9 e10
  subst e1 e2 e3 e4 e5 e6 e7 e8 e9 e10
  exact ss_cons (s_expr (q_call D_need_row (by decide) c tk (a_cons (s_v 0) (a_nil)) (al_cons (al_nil))))
    (ss_cons (s_expr (q_call D_need_row (by decide) c tk (a_cons (s_v 1) (a_nil)) (al_cons (al_nil))))
    (ss_one (s_ifS (t_cmp (y_ne c) (s_b c_len rfl z_len rfl (a_cons (s_v 0) (a_nil))) (s_b c_len rfl z_len rfl (a_cons (s_v 1) (a_nil))) rfl) (ss_one (s_raise E_NotKept c (by decide) tk (a_cons (s_str) (a_cons (s_tup (a_cons (s_b c_len rfl z_len rfl (a_cons (s_v 0) (a_nil))) (a_cons (s_b c_len rfl z_len rfl (a_cons (s_v 1) (a_nil))) (a_nil)))) (a_nil))))) (ss_nil))))
abbrev s_dot : Stmt := top 15
def b_dot : Sv := sRet (eB bSum (aC (eFrz (lComp (iZipD (aC (eV 0) (aC (eV 1) (aN)))) (gT [gN 2, gN 3]) (tYes) (e2 oMul (eV 2) (eV 3)) [2, 3])) (aN)))
def d_dot : Fn := fnP 4 b_dot
theorem sc_dot : FnScope ["one", "two", "a", "b"] ["one", "two"] (defScope s_dot) := ⟨rfl, rfl, rfl, by decide +kernel, rfl, by decide +kernel, by decide +kernel⟩
theorem fn_dot (F : Fun K "dot" "dot" s_dot f fd) (z_zip : mg "zip" = none) (z_sum : mg "sum" = none)         :
    FnG P w K mg base 1 f fd ["one", "two"] (spP K noCl 2 d_dot) := by
  refine fn_P (N := ["one", "two", "a", "b"]) F sc_dot ?_
  rintro ⟨prog, w2, K2, mg2, base2, A, N, s0, H0, ⟨sc, lo, gl, ce, qu, fu, co, fr, bl⟩, outer, stack, ex, fn, calm, pn, xe⟩ e1 e2 e3 e4 e5 e6 e7 e8 e9 e10 E c tk hp
  dsimp only at e1 e2 e3 e4 e5 e6 e7 e8 e9 e10
  subst e1 e2 e3 e4 e5 e6 e7 e8 e9 e10
  exact ss_one (s_ret (s_b (c_sum c.calm) rfl z_sum rfl (a_cons (s_frz (l_comp c (i_zip rfl z_zip (a_cons (s_v 0) (a_cons (s_v 1) (a_nil)))) (own := [("a", 2), ("b", 3)]) (blkOk_by rfl) (by decide) (fun s H C cc fp => g_tup (c.blk).calm (gs_cons (g_n 2 (c.blk).nd) (gs_cons (g_n 3 (c.blk).nd) (gs_nil)))) (fun s H C cc fp => ts_nil) (fun s H C cc fp => s_op y_mul (s_v 2) (s_v 3)))) (a_nil))))
abbrev s_product_of : Stmt := top 25
def b_product_of_1 : Sv := sRet (eCall d_dot (aC (eV 0) (aC (eV 1) (aN))))
def b_product_of : Sv := sSeq (sExpr (eCall d_need_two_rows (aC (eV 0) (aC (eV 1) (aN)))))
    (b_product_of_1)
def d_product_of : Fn := fnP 2 b_product_of
theorem sc_product_of : FnScope ["one", "two"] ["one", "two"] (defScope s_product_of) := ⟨rfl, rfl, rfl, by decide +kernel, rfl, by decide +kernel, by decide +kernel⟩
theorem fn_product_of (F : Fun K "product_of" "product_of" s_product_of f fd)       (D_need_two_rows : Def P w K mg base 5 "need_two_rows" ["one", "two"] (spP K noCl 2 d_need_two_rows)) (D_dot : Def P w K mg base 1 "dot" ["one", "two"] (spP K noCl 2 d_dot))   :
    FnG P w K mg base 6 f fd ["one", "two"] (spP K noCl 2 d_product_of) := by
  refine fn_P (N := ["one", "two"]) F sc_product_of ?_
  rintro ⟨prog, w2, K2, mg2, base2, A, N, s0, H0, ⟨sc, lo, gl, ce, qu, fu, co, fr, bl⟩, outer, stack, ex, fn, calm, pn, xe⟩ e1 e2 e3 e4 e5 e6 e7 e8 e9 e10 E c tk hp
  dsimp only at e1 e2 e3 e4 e5 e6 e7 e8 e9 e10
  subst e1 e2 e3 e4 e5 e6 e7 e8 e9 e10
  exact ss_cons (s_expr (q_call D_need_two_rows (by decide) c tk (a_cons (s_v 0) (a_cons (s_v 1) (a_nil))) (al_cons (al_cons (al_nil)))))
    (ss_one (s_ret (q_call D_dot (by decide) c tk (a_cons (s_v 0) (a_cons (s_v 1) (a_nil))) (al_cons (al_cons (al_nil))))))
abbrev s_square_sum : Stmt := top 26
def b_square_sum_1 : Sv := sRet (eCall d_dot (aC (eV 0) (aC (eV 0) (aN))))
def b_square_sum : Sv := sSeq (sExpr (eCall d_need_row (aC (eV 0) (aN))))
    (b_square_sum_1)
def d_square_sum : Fn := fnP 1 b_square_sum
theorem sc_square_sum : FnScope ["row"] ["row"] (defScope s_square_sum) := ⟨rfl, rfl, rfl, by decide +kernel, rfl, by decide +kernel, by decide +kernel⟩
theorem fn_square_sum (F : Fun K "square_sum" "square_sum" s_square_sum f fd)       (D_need_row : Def P w K mg base 4 "need_row" ["row"] (spP K noCl 1 d_need_row)) (D_dot : Def P w K mg base 1 "dot" ["one", "two"] (spP K noCl 2 d_dot))   :
    FnG P w K mg base 5 f fd ["row"] (spP K noCl 1 d_square_sum) := by
  refine fn_P (N := ["row"]) F sc_square_sum ?_
  rintro ⟨prog, w2, K2, mg2, base2, A, N, s0, H0, ⟨sc, lo, gl, ce, qu, fu, co, fr, bl⟩, outer, stack, ex, fn, calm, pn, xe⟩ e1 e2 e3 e4 e5 e6 e7 e8 e9 e10 E c tk hp
  dsimp only at e1 e2 e3 e4 e5 e6 e7 e8 e9 e10
  subst e1 e2 e3 e4 e5 e6 e7 e8 e9 e10
  exact ss_cons (s_expr (q_call D_need_row (by decide) c tk (a_cons (s_v 0) (a_nil)) (al_cons (al_nil))))
    (ss_one (s_ret (q_call D_dot (by decide) c tk (a_cons (s_v 0) (a_cons (s_v 0) (a_nil))) (al_cons (al_cons (al_nil))))))
abbrev s_plus_in : Stmt := top 27
def b_plus_in : Sv := sRet (eB bTuple (aC (eFrz (lComp (iZipD (aC (eV 0) (aC (eV 1) (aN)))) (gT [gN 2, gN 3]) (tYes) (e2 oAdd (eV 2) (eV 3)) [2, 3])) (aN)))
def d_plus_in : Fn := fnP 4 b_plus_in
theorem sc_plus_in : FnScope ["one", "two", "a", "b"] ["one", "two"] (defScope s_plus_in) := ⟨rfl, rfl, rfl, by decide +kernel, rfl, by decide +kernel, by decide +kernel⟩
theorem fn_plus_in (F : Fun K "plus_in" "plus_in" s_plus_in f fd) (z_zip : mg "zip" = none) (z_tuple : mg "tuple" = none)         :
    FnG P w K mg base 1 f fd ["one", "two"] (spP K noCl 2 d_plus_in) := by
  refine fn_P (N := ["one", "two", "a", "b"]) F sc_plus_in ?_
  rintro ⟨prog, w2, K2, mg2, base2, A, N, s0, H0, ⟨sc, lo, gl, ce, qu, fu, co, fr, bl⟩, outer, stack, ex, fn, calm, pn, xe⟩ e1 e2 e3 e4 e5 e6 e7 e8 e9 e10 E c tk hp
  dsimp only at e1 e2 e3 e4 e5 e6 e7 e8 e9 e10
  subst e1 e2 e3 e4 e5 e6 e7 e8 e9 e10
  exact ss_one (s_ret (s_bT c_tuple rfl z_tuple rfl (a_cons (s_frz (l_comp c (i_zip rfl z_zip (a_cons (s_v 0) (a_cons (s_v 1) (a_nil)))) (own := [("a", 2), ("b", 3)]) (blkOk_by rfl) (by decide) (fun s H C cc fp => g_tup (c.blk).calm (gs_cons (g_n 2 (c.blk).nd) (gs_cons (g_n 3 (c.blk).nd) (gs_nil)))) (fun s H C cc fp => ts_nil) (fun s H C cc fp => s_op y_add (s_v 2) (s_v 3)))) (a_nil))))
abbrev s_plus : Stmt := top 28
def b_plus_1 : Sv := sRet (eCall d_plus_in (aC (eV 0) (aC (eV 1) (aN))))
def b_plus : Sv := sSeq (sExpr (eCall d_need_two_rows (aC (eV 0) (aC (eV 1) (aN)))))
    (b_plus_1)
def d_plus : Fn := fnP 2 b_plus
theorem sc_plus : FnScope ["one", "two"] ["one", "two"] (defScope s_plus) := ⟨rfl, rfl, rfl, by decide +kernel, rfl, by decide +kernel, by decide +kernel⟩
theorem fn_plus (F : Fun K "plus" "plus" s_plus f fd)       (D_need_two_rows : Def P w K mg base 5 "need_two_rows" ["one", "two"] (spP K noCl 2 d_need_two_rows)) (D_plus_in : Def P w K mg base 1 "plus_in" ["one", "two"] (spP K noCl 2 d_plus_in))   :
    FnG P w K mg base 6 f fd ["one", "two"] (spP K noCl 2 d_plus) := by
  refine fn_P (N := ["one", "two"]) F sc_plus ?_
  rintro ⟨prog, w2, K2, mg2, base2, A, N, s0, H0, ⟨sc, lo, gl, ce, qu, fu, co, fr, bl⟩, outer, stack, ex, fn, calm, pn, xe⟩ e1 e2 e3 e4 e5 e6 e7 e8 e9 e10 E c tk hp
  dsimp only at e1 e2 e3 e4 e5 e6 e7 e8 e9 e10
  subst e1 e2 e3 e4 e5 e6 e7 e8 e9 e10
  exact ss_cons (s_expr (q_call D_need_two_rows (by decide) c tk (a_cons (s_v 0) (a_cons (s_v 1) (a_nil))) (al_cons (al_cons (al_nil)))))
    (ss_one (s_ret (q_call D_plus_in (by decide) c tk (a_cons (s_v 0) (a_cons (s_v 1) (a_nil))) (al_cons (al_cons (al_nil))))))
abbrev s_minus_in : Stmt := top 29
def b_minus_in : Sv := sRet (eB bTuple (aC (eFrz (lComp (iZipD (aC (eV 0) (aC (eV 1) (aN)))) (gT [gN 2, gN 3]) (tYes) (e2 oSub (eV 2) (eV 3)) [2, 3])) (aN)))
def d_minus_in : Fn := fnP 4 b_minus_in
theorem sc_minus_in : FnScope ["one", "two", "a", "b"] ["one", "two"] (defScope s_minus_in) := ⟨rfl, rfl, rfl, by decide +kernel, rfl, by decide +kernel, by decide +kernel⟩
theorem fn_minus_in (F : Fun K "minus_in" "minus_in" s_minus_in f fd) (z_zip : mg "zip" = none) (z_tuple : mg "tuple" = none)         :
    FnG P w K mg base 1 f fd ["one", "two"] (spP K noCl 2 d_minus_in) := by
  refine fn_P (N := ["one", "two", "a", "b"]) F sc_minus_in ?_
  rintro ⟨prog, w2, K2, mg2, base2, A, N, s0, H0, ⟨sc, lo, gl, ce, qu, fu, co, fr, bl⟩, outer, stack, ex, fn, calm, pn, xe⟩ e1 e2 e3 e4 e5 e6 e7 e8 e9 e10 E c tk hp
  dsimp only at e1 e2 e3 e4 e5 e6 e7 e8 e9 e10
  subst e1 e2 e3 e4 e5 e6 e7 e8 e9 e10
  exact ss_one (s_ret (s_bT c_tuple rfl z_tuple rfl (a_cons (s_frz (l_comp c (i_zip rfl z_zip (a_cons (s_v 0) (a_cons (s_v 1) (a_nil)))) (own := [("a", 2), ("b", 3)]) (blkOk_by rfl) (by decide) (fun s H C cc fp => g_tup (c.blk).calm (gs_cons (g_n 2 (c.blk).nd) (gs_cons (g_n 3 (c.blk).nd) (gs_nil)))) (fun s H C cc fp => ts_nil) (fun s H C cc fp => s_op y_sub (s_v 2) (s_v 3)))) (a_nil))))
abbrev s_minus : Stmt := top 30
def b_minus_1 : Sv := sRet (eCall d_minus_in (aC (eV 0) (aC (eV 1) (aN))))
def b_minus : Sv := sSeq (sExpr (eCall d_need_two_rows (aC (eV 0) (aC (eV 1) (aN)))))
    (b_minus_1)
def d_minus : Fn := fnP 2 b_minus
theorem sc_minus : FnScope ["one", "two"] ["one", "two"] (defScope s_minus) := ⟨rfl, rfl, rfl, by decide +kernel, rfl, by decide +kernel, by decide +kernel⟩
theorem fn_minus (F : Fun K "minus" "minus" s_minus f fd)       (D_need_two_rows : Def P w K mg base 5 "need_two_rows" ["one", "two"] (spP K noCl 2 d_need_two_rows)) (D_minus_in : Def P w K mg base 1 "minus_in" ["one", "two"] (spP K noCl 2 d_minus_in))   :
    FnG P w K mg base 6 f fd ["one", "two"] (spP K noCl 2 d_minus) := by
  refine fn_P (N := ["one", "two"]) F sc_minus ?_
  rintro ⟨prog, w2, K2, mg2, base2, A, N, s0, H0, ⟨sc, lo, gl, ce, qu, fu, co, fr, bl⟩, outer, stack, ex, fn, calm, pn, xe⟩ e1 e2 e3 e4 e5 e6 e7 e8 e9 e10 E c tk hp
  dsimp only at e1 e2 e3 e4 e5 e6 e7 e8 e9 e10
  subst e1 e2 e3 e4 e5 e6 e7 e8 e9 e10
  exact ss_cons (s_expr (q_call D_need_two_rows (by decide) c tk (a_cons (s_v 0) (a_cons (s_v 1) (a_nil))) (al_cons (al_cons (al_nil)))))
    (ss_one (s_ret (q_call D_minus_in (by decide) c tk (a_cons (s_v 0) (a_cons (s_v 1) (a_nil))) (al_cons (al_cons (al_nil))))))
abbrev s_times_row_in : Stmt := top 31
def b_times_row_in : Sv := sRet (eB bTuple (aC (eFrz (lComp (iA (eV 0)) (gN 2) (tYes) (e2 oMul (eV 1) (eV 2)) [2])) (aN)))
def d_times_row_in : Fn := fnP 3 b_times_row_in
theorem sc_times_row_in : FnScope ["row", "k", "item"] ["row", "k"] (defScope s_times_row_in) := ⟨rfl, rfl, rfl, by decide +kernel, rfl, by decide +kernel, by decide +kernel⟩
theorem fn_times_row_in (F : Fun K "times_row_in" "times_row_in" s_times_row_in f fd) (z_tuple : mg "tuple" = none)         :
    FnG P w K mg base 1 f fd ["row", "k"] (spP K noCl 2 d_times_row_in) := by
  refine fn_P (N := ["row", "k", "item"]) F sc_times_row_in ?_
  rintro ⟨prog, w2, K2, mg2, base2, A, N, s0, H0, ⟨sc, lo, gl, ce, qu, fu, co, fr, bl⟩, outer, stack, ex, fn, calm, pn, xe⟩ e1 e2 e3 e4 e5 e6 e7 e8 e9 e10 E c tk hp
  dsimp only at e1 e2 e3 e4 e5 e6 e7 e8 e9 e10
  subst e1 e2 e3 e4 e5 e6 e7 e8 e9 e10
  exact ss_one (s_ret (s_bT c_tuple rfl z_tuple rfl (a_cons (s_frz (l_comp c (i_any (s_v 0)) (own := [("item", 2)]) (blkOk_by rfl) (by decide) (fun s H C cc fp => g_n 2 (c.blk).nd) (fun s H C cc fp => ts_nil) (fun s H C cc fp => s_op y_mul (s_v 1) (s_v 2)))) (a_nil))))
abbrev s_times_row : Stmt := top 32
def b_times_row_2 : Sv := sRet (eCall d_times_row_in (aC (eV 0) (aC (eV 1) (aN))))
def b_times_row_1 : Sv := sSeq (sIf (tNot (tT (eCall d_is_whole (aC (eV 1) (aN))))) (sRaise "BadNumber" ["what", "number"] (aC (eC (.str "k")) (aC (eV 1) (aN)))) (sPass))
    (b_times_row_2)
def b_times_row : Sv := sSeq (sExpr (eCall d_need_row (aC (eV 0) (aN))))
    (b_times_row_1)
def d_times_row : Fn := fnP 2 b_times_row
theorem sc_times_row : FnScope ["row", "k"] ["row", "k"] (defScope s_times_row) := ⟨rfl, rfl, rfl, by decide +kernel, rfl, by decide +kernel, by decide +kernel⟩
theorem fn_times_row (F : Fun K "times_row" "times_row" s_times_row f fd)   (E_BadNumber : Exc P w K mg base "BadNumber" ["what", "number"])    (D_need_row : Def P w K mg base 4 "need_row" ["row"] (spP K noCl 1 d_need_row)) (D_is_whole : Def P w K mg base 1 "is_whole" ["value"] (spP K noCl 1 d_is_whole)) (D_times_row_in : Def P w K mg base 1 "times_row_in" ["row", "k"] (spP K noCl 2 d_times_row_in))   :
    FnG P w K mg base 5 f fd ["row", "k"] (spP K noCl 2 d_times_row) := by
  refine fn_P (N := ["row", "k"]) F sc_times_row ?_
  rintro ⟨prog, w2, K2, mg2, base2, A, N, s0, H0, ⟨sc, lo, gl, ce, qu, fu, co, fr, bl⟩, outer, stack, ex, fn, calm, pn, xe⟩ e1 e2 e3 e4 e5 e6 e7 e8 e9 e10 E c tk hp
  dsimp only at e1 e2 e3 e4 e5 e6 e7 e8 e9 e10
  subst e1 e2 e3 e4 e5 e6 e7 e8 e9 e10
  exact ss_cons (s_expr (q_call D_need_row (by decide) c tk (a_cons (s_v 0) (a_nil)) (al_cons (al_nil))))
    (ss_cons (s_ifS (t_not (t_tr (q_call D_is_whole (by decide) c tk (a_cons (s_v 1) (a_nil)) (al_cons (al_nil))))) (ss_one (s_raise E_BadNumber c (by decide) tk (a_cons (s_str) (a_cons (s_v 1) (a_nil))))) (ss_nil))
    (ss_one (s_ret (q_call D_times_row_in (by decide) c tk (a_cons (s_v 0) (a_cons (s_v 1) (a_nil))) (al_cons (al_cons (al_nil)))))))
abbrev s_content_in : Stmt := top 37
def b_content_in_l1 : Sv := sAsg (gN 1) (eB bGcd (aC (eV 1) (aC (eV 2) (aN))))
def b_content_in_2 : Sv := sRet (eV 1)
def b_content_in_1 : Sv := sSeq (sFor (iA (eV 0)) (gN 2) (b_content_in_l1))
    (b_content_in_2)
def b_content_in : Sv := sSeq (sAsg (gN 1) (eC (.int 0)))
    (b_content_in_1)
def d_content_in : Fn := fnP 3 b_content_in
theorem sc_content_in : FnScope ["row", "found", "item"] ["row"] (defScope s_content_in) := ⟨rfl, rfl, rfl, by decide +kernel, rfl, by decide +kernel, by decide +kernel⟩
theorem fn_content_in (F : Fun K "content_in" "content_in" s_content_in f fd) (z_gcd : mg "gcd" = some (.builtin "math.gcd"))         :
    FnG P w K mg base 1 f fd ["row"] (spP K noCl 1 d_content_in) := by
  refine fn_P (N := ["row", "found", "item"]) F sc_content_in ?_
  rintro ⟨prog, w2, K2, mg2, base2, A, N, s0, H0, ⟨sc, lo, gl, ce, qu, fu, co, fr, bl⟩, outer, stack, ex, fn, calm, pn, xe⟩ e1 e2 e3 e4 e5 e6 e7 e8 e9 e10 E c tk hp
  dsimp only at e1 e2 e3 e4 e5 e6 e7 e8 e9 e10
  subst e1 e2 e3 e4 e5 e6 e7 e8 e9 e10
  exact ss_cons (s_set (j := 1) c.nd (s_int))
    (ss_cons (s_for hp c.calm (i_any (s_v 0)) (g_n 2 c.nd) (ss_one (s_set (j := 1) c.nd (s_bM c_gcd rfl z_gcd (a_cons (s_v 1) (a_cons (s_v 2) (a_nil)))))))
    (ss_one (s_ret (s_v 1))))
abbrev s_content : Stmt := top 38
def b_content_1 : Sv := sRet (eCall d_content_in (aC (eV 0) (aN)))
def b_content : Sv := sSeq (sExpr (eCall d_need_row (aC (eV 0) (aN))))
    (b_content_1)
def d_content : Fn := fnP 1 b_content
theorem sc_content : FnScope ["row"] ["row"] (defScope s_content) := ⟨rfl, rfl, rfl, by decide +kernel, rfl, by decide +kernel, by decide +kernel⟩
theorem fn_content (F : Fun K "content" "content" s_content f fd)       (D_need_row : Def P w K mg base 4 "need_row" ["row"] (spP K noCl 1 d_need_row)) (D_content_in : Def P w K mg base 1 "content_in" ["row"] (spP K noCl 1 d_content_in))   :
    FnG P w K mg base 5 f fd ["row"] (spP K noCl 1 d_content) := by
  refine fn_P (N := ["row"]) F sc_content ?_
  rintro ⟨prog, w2, K2, mg2, base2, A, N, s0, H0, ⟨sc, lo, gl, ce, qu, fu, co, fr, bl⟩, outer, stack, ex, fn, calm, pn, xe⟩ e1 e2 e3 e4 e5 e6 e7 e8 e9 e10 E c tk hp
  dsimp only at e1 e2 e3 e4 e5 e6 e7 e8 e9 e10
  subst e1 e2 e3 e4 e5 e6 e7 e8 e9 e10
  exact ss_cons (s_expr (q_call D_need_row (by decide) c tk (a_cons (s_v 0) (a_nil)) (al_cons (al_nil))))
    (ss_one (s_ret (q_call D_content_in (by decide) c tk (a_cons (s_v 0) (a_nil)) (al_cons (al_nil)))))
abbrev s_plain_in : Stmt := top 39
def b_plain_in_3 : Sv := sRet (eB bTuple (aC (eFrz (lComp (iA (eV 0)) (gN 3) (tYes) (eIf (tB (e2 oGt (eV 2) (eC (.int 0)))) (e2 oDiv (eV 3) (eV 1)) (e2 oDiv (e1 uNeg (eV 3)) (eV 1))) [3])) (aN)))
def b_plain_in_2 : Sv := sSeq (sAsg (gN 2) (e2 oIx (eFrz (lComp (iA (eV 0)) (gN 3) (tT (eV 3)) (eV 3) [3])) (eC (.int 0))))
    (b_plain_in_3)
def b_plain_in_1 : Sv := sSeq (sIf (tB (e2 oEq (eV 1) (eC (.int 0)))) (sRet (eV 0)) (sPass))
    (b_plain_in_2)
def b_plain_in : Sv := sSeq (sAsg (gN 1) (eCall d_content_in (aC (eV 0) (aN))))
    (b_plain_in_1)
def d_plain_in : Fn := fnP 4 b_plain_in
theorem sc_plain_in : FnScope ["row", "divisor", "first", "item"] ["row"] (defScope s_plain_in) := ⟨rfl, rfl, rfl, by decide +kernel, rfl, by decide +kernel, by decide +kernel⟩
theorem fn_plain_in (F : Fun K "plain_in" "plain_in" s_plain_in f fd) (z_tuple : mg "tuple" = none)      (D_content_in : Def P w K mg base 1 "content_in" ["row"] (spP K noCl 1 d_content_in))   :
    FnG P w K mg base 2 f fd ["row"] (spP K noCl 1 d_plain_in) := by
  refine fn_P (N := ["row", "divisor", "first", "item"]) F sc_plain_in ?_
  rintro ⟨prog, w2, K2, mg2, base2, A, N, s0, H0, ⟨sc, lo, gl, ce, qu, fu, co, fr, bl⟩, outer, stack, ex, fn, calm, pn, xe⟩ e1 e2 e3 e4 e5 e6 e7 e8 e9 e10 E c tk hp
  dsimp only at e1 e2 e3 e4 e5 e6 e7 e8 e9 e10
  subst e1 e2 e3 e4 e5 e6 e7 e8 e9 e10
  exact ss_cons (s_set (j := 1) c.nd (q_call D_content_in (by decide) c tk (a_cons (s_v 0) (a_nil)) (al_cons (al_nil))))
    (ss_cons (s_ifS (t_cmp (y_eq c) (s_v 1) (s_int) rfl) (ss_one (s_ret (s_v 0))) (ss_nil))
    (ss_cons (s_set (j := 2) c.nd (s_ix c (s_frz (l_comp c (i_any (s_v 0)) (own := [("item", 3)]) (blkOk_by rfl) (by decide) (fun s H C cc fp => g_n 3 (c.blk).nd) (fun s H C cc fp => ts_one (t_tr (s_v 3))) (fun s H C cc fp => s_v 3))) (s_int) (fun _ _ => rfl)))
    (ss_one (s_ret (s_bT c_tuple rfl z_tuple rfl (a_cons (s_frz (l_comp c (i_any (s_v 0)) (own := [("item", 3)]) (blkOk_by rfl) (by decide) (fun s H C cc fp => g_n 3 (c.blk).nd) (fun s H C cc fp => ts_nil) (fun s H C cc fp => s_if (t_cmp y_gt (s_v 2) (s_int) rfl) (s_op y_div (s_v 3) (s_v 1)) (s_op y_div (s_neg (s_v 3)) (s_v 1))))) (a_nil)))))))
abbrev s_plain : Stmt := top 40
def b_plain_1 : Sv := sRet (eCall d_plain_in (aC (eV 0) (aN)))
def b_plain : Sv := sSeq (sExpr (eCall d_need_row (aC (eV 0) (aN))))
    (b_plain_1)
def d_plain : Fn := fnP 1 b_plain
theorem sc_plain : FnScope ["row"] ["row"] (defScope s_plain) := ⟨rfl, rfl, rfl, by decide +kernel, rfl, by decide +kernel, by decide +kernel⟩
theorem fn_plain (F : Fun K "plain" "plain" s_plain f fd)       (D_need_row : Def P w K mg base 4 "need_row" ["row"] (spP K noCl 1 d_need_row)) (D_plain_in : Def P w K mg base 2 "plain_in" ["row"] (spP K noCl 1 d_plain_in))   :
    FnG P w K mg base 5 f fd ["row"] (spP K noCl 1 d_plain) := by
  refine fn_P (N := ["row"]) F sc_plain ?_
  rintro ⟨prog, w2, K2, mg2, base2, A, N, s0, H0, ⟨sc, lo, gl, ce, qu, fu, co, fr, bl⟩, outer, stack, ex, fn, calm, pn, xe⟩ e1 e2 e3 e4 e5 e6 e7 e8 e9 e10 E c tk hp
  dsimp only at e1 e2 e3 e4 e5 e6 e7 e8 e9 e10
  subst e1 e2 e3 e4 e5 e6 e7 e8 e9 e10
  exact ss_cons (s_expr (q_call D_need_row (by decide) c tk (a_cons (s_v 0) (a_nil)) (al_cons (al_nil))))
    (ss_one (s_ret (q_call D_plain_in (by decide) c tk (a_cons (s_v 0) (a_nil)) (al_cons (al_nil)))))
abbrev s_u_law_right : Stmt := top 47
def b_u_law_right_12 : Sv := sRet (e2 oEq (eB bRepr (aC (eFrz (lLst (aC (eCall d_content (aC (eV 4) (aN))) (aC (eCall d_plain (aC (eV 4) (aN))) (aN))))) (aN))) (eB bRepr (aC (eFrz (lLst (aC (eV 9) (aC (eV 8) (aN))))) (aN))))
def b_u_law_right_11 : Sv := sSeq (sAsg (gN 8) (eIf (tB (e2 oEq (eV 9) (eC (.int 0)))) (eV 4) (eB bTuple (aC (eFrz (lComp (iA (eV 4)) (gN 12) (tYes) (e2 oMul (e2 oMul (eV 11) (e2 oDiv (eB bAbs (aC (eV 12) (aN))) (eV 9))) (eIf (tB (e2 oGt (eV 12) (eC (.int 0)))) (eC (.int 1)) (e1 uNeg (eC (.int 1))))) [12])) (aN)))))
    (b_u_law_right_12)
def b_u_law_right_10 : Sv := sSeq (sAsg (gN 11) (eIf (tAnd (tB (e2 oNe (eV 10) (eFrz (lLst (aN))))) (tB (e2 oLt (e2 oIx (eV 10) (eC (.int 0))) (eC (.int 0))))) (e1 uNeg (eC (.int 1))) (eC (.int 1))))
    (b_u_law_right_11)
def b_u_law_right_9 : Sv := sSeq (sAsg (gN 10) (eSl (eFrz (lComp (iA (eV 4)) (gN 12) (tB (e2 oNe (eV 12) (eC (.int 0)))) (eV 12) [12])) (oN) (oS (eC (.int 1)))))
    (b_u_law_right_10)
def b_u_law_right_8 : Sv := sSeq (sAsg (gN 9) (eCall d_u_law_gcd (aC (eV 4) (aN))))
    (b_u_law_right_9)
def b_u_law_right_7 : Sv := sSeq (sIf (tB (e2 oNe (eB bRepr (aC (eV 7) (aN))) (eB bRepr (aC (e2 oAdd (eV 8) (eFrz (lLst (aC (eB bTuple (aC (eFrz (lComp (iA (eV 4)) (gN 12) (tYes) (e2 oMul (eV 6) (eV 12)) [12])) (aN))) (aN))))) (aN))))) (sRet (eC (.bl false))) (sPass))
    (b_u_law_right_8)
def b_u_law_right_6 : Sv := sSeq (sAsg (gN 8) (e2 oAdd (eV 8) (eFrz (lLst (aC (eB bTuple (aC (eFrz (lComp (iR1 (aC (eV 1) (aN))) (gN 13) (tYes) (e2 oAdd (e2 oIx (eV 4) (eV 13)) (e2 oIx (eV 5) (eV 13))) [13])) (aN))) (aC (eB bTuple (aC (eFrz (lComp (iR1 (aC (eV 1) (aN))) (gN 13) (tYes) (e2 oSub (e2 oIx (eV 4) (eV 13)) (e2 oIx (eV 5) (eV 13))) [13])) (aN))) (aN)))))))
    (b_u_law_right_7)
def b_u_law_right_5 : Sv := sSeq (sAsg (gN 8) (eFrz (lLst (aC (eC (.bl true)) (aC (eB bSum (aC (eFrz (lComp (iR1 (aC (eV 1) (aN))) (gN 13) (tYes) (e2 oMul (e2 oIx (eV 4) (eV 13)) (e2 oIx (eV 5) (eV 13))) [13])) (aN))) (aC (eB bSum (aC (eFrz (lComp (iA (eV 4)) (gN 12) (tYes) (e2 oMul (eV 12) (eV 12)) [12])) (aN))) (aN)))))))
    (b_u_law_right_6)
def b_u_law_right_4 : Sv := sSeq (sAsg (gN 7) (eFrz (lLst (aC (eCall d_is_row (aC (eV 4) (aN))) (aC (eCall d_product_of (aC (eV 4) (aC (eV 5) (aN)))) (aC (eCall d_square_sum (aC (eV 4) (aN))) (aC (eCall d_plus (aC (eV 4) (aC (eV 5) (aN)))) (aC (eCall d_minus (aC (eV 4) (aC (eV 5) (aN)))) (aC (eCall d_times_row (aC (eV 4) (aC (eV 6) (aN)))) (aN))))))))))
    (b_u_law_right_5)
def b_u_law_right_3 : Sv := sSeq (sAsg (gN 6) (e2 oSub (eCall d_u_law_draw (aC (eV 0) (aC (eC (.int 9)) (aN)))) (eC (.int 4))))
    (b_u_law_right_4)
def b_u_law_right_2 : Sv := sSeq (sAsg (gTL [gN 4, gN 5]) (eFrz (lComp (iR1 (aC (eC (.int 2)) (aN))) (gN 6) (tYes) (eB bTuple (aC (eFrz (lComp (iR1 (aC (eV 1) (aN))) (gN 13) (tYes) (e2 oMul (eV 3) (e2 oSub (eCall d_u_law_draw (aC (eV 0) (aC (e2 oAdd (e2 oMul (eC (.int 2)) (eV 2)) (eC (.int 1))) (aN)))) (eV 2))) [13])) (aN))) [6])))
    (b_u_law_right_3)
def b_u_law_right_1 : Sv := sSeq (sAsg (gN 3) (e2 oAdd (eC (.int 1)) (eCall d_u_law_draw (aC (eV 0) (aC (eC (.int 6)) (aN))))))
    (b_u_law_right_2)
def b_u_law_right : Sv := sSeq (sAsg (gT [gN 1, gN 2]) (eTup (aC (eCall d_u_law_draw (aC (eV 0) (aC (eC (.int 9)) (aN)))) (aC (eCall d_u_law_pick (aC (eV 0) (aC (eFrz (lLst (aC (eC (.int 1)) (aC (eC (.int 4)) (aC (e2 oPow (eC (.int 10)) (eC (.int 30))) (aN)))))) (aN)))) (aN)))))
    (b_u_law_right_1)
def d_u_law_right : Fn := fnP 14 b_u_law_right
theorem sc_u_law_right : FnScope ["pen", "n", "most", "by", "one", "two", "k", "told", "due", "divisor", "first", "sign", "x", "p"] ["pen"] (defScope s_u_law_right) := ⟨rfl, rfl, rfl, by decide +kernel, rfl, by decide +kernel, by decide +kernel⟩
theorem fn_u_law_right (F : Fun K "_law_right" "_law_right" s_u_law_right f fd) (z_range : mg "range" = none) (z_tuple : mg "tuple" = none) (z_sum : mg "sum" = none) (z_repr : mg "repr" = none) (z_abs : mg "abs" = none)      (D_u_law_pick : Def P w K mg base 2 "_law_pick" ["pen", "some"] (spP K noCl 2 d_u_law_pick)) (D_u_law_draw : Def P w K mg base 1 "_law_draw" ["pen", "many"] (spP K noCl 2 d_u_law_draw)) (D_times_row : Def P w K mg base 5 "times_row" ["row", "k"] (spP K noCl 2 d_times_row)) (D_minus : Def P w K mg base 6 "minus" ["one", "two"] (spP K noCl 2 d_minus)) (D_plus : Def P w K mg base 6 "plus" ["one", "two"] (spP K noCl 2 d_plus)) (D_square_sum : Def P w K mg base 5 "square_sum" ["row"] (spP K noCl 1 d_square_sum)) (D_product_of : Def P w K mg base 6 "product_of" ["one", "two"] (spP K noCl 2 d_product_of)) (D_is_row : Def P w K mg base 3 "is_row" ["value"] (spP K noCl 1 d_is_row)) (D_u_law_gcd : Def P w K mg base 1 "_law_gcd" ["values"] (spP K noCl 1 d_u_law_gcd)) (D_plain : Def P w K mg base 5 "plain" ["row"] (spP K noCl 1 d_plain)) (D_content : Def P w K mg base 5 "content" ["row"] (spP K noCl 1 d_content))   :
    FnG P w K mg base 7 f fd ["pen"] (spP K noCl 1 d_u_law_right) := by
  refine fn_P (N := ["pen", "n", "most", "by", "one", "two", "k", "told", "due", "divisor", "first", "sign", "x", "p"]) F sc_u_law_right ?_
  rintro ⟨prog, w2, K2, mg2, base2, A, N, s0, H0, ⟨sc, lo, gl, ce, qu, fu, co, fr, bl⟩, outer, stack, ex, fn, calm, pn, xe⟩ e1 e2 e3 e4 e5 e6 e7 e8 e9 e10 E c tk hp
  dsimp only at e1 e2 e3 e4 e5 e6 e7 e8 e9 e10
  subst e1 e2 e3 e4 e5 e6 e7 e8 e9 e10
  exact ss_cons (s_asg (s_tup (a_cons (q_call D_u_law_draw (by decide) c tk (a_cons (s_v 0) (a_cons (s_int) (a_nil))) (al_cons (al_cons (al_nil)))) (a_cons (q_call D_u_law_pick (by decide) c tk (a_cons (s_v 0) (a_cons (s_frz (l_lst (a_cons (s_int) (a_cons (s_int) (a_cons (s_op y_pow (s_int) (s_int)) (a_nil)))))) (a_nil))) (al_cons (al_cons (al_nil)))) (a_nil)))) (g_tup c.calm (gs_cons (g_n 1 c.nd) (gs_cons (g_n 2 c.nd) (gs_nil)))))
    (ss_cons (s_set (j := 3) c.nd (s_op y_add (s_int) (q_call D_u_law_draw (by decide) c tk (a_cons (s_v 0) (a_cons (s_int) (a_nil))) (al_cons (al_cons (al_nil))))))
    (ss_cons (s_asg (s_frz (l_comp c (i_r1 rfl z_range (a_cons (s_int) (a_nil))) (own := [("k", 6)]) (blkOk_by rfl) (by decide) (fun s H C cc fp => g_n 6 (c.blk).nd) (fun s H C cc fp => ts_nil) (fun s H C cc fp => s_bT c_tuple rfl z_tuple rfl (a_cons (s_frz (l_comp (c.blk) (i_r1 rfl z_range (a_cons (s_v 1) (a_nil))) (own := [("p", 13)]) (blkOk_by rfl) (by decide) (fun s H C cc fp => g_n 13 ((c.blk).blk).nd) (fun s H C cc fp => ts_nil) (fun s H C cc fp => s_op y_mul (s_v 3) (s_op y_sub (q_call D_u_law_draw (by decide) ((c.blk).blk) takes0 (a_cons (s_v 0) (a_cons (s_op y_add (s_op y_mul (s_int) (s_v 2)) (s_int)) (a_nil))) (al_cons (al_cons (al_nil)))) (s_v 2))))) (a_nil))))) (g_unl c.calm (gs_cons (g_n 4 c.nd) (gs_cons (g_n 5 c.nd) (gs_nil)))))
    (ss_cons (s_set (j := 6) c.nd (s_op y_sub (q_call D_u_law_draw (by decide) c tk (a_cons (s_v 0) (a_cons (s_int) (a_nil))) (al_cons (al_cons (al_nil)))) (s_int)))
    (ss_cons (s_set (j := 7) c.nd (s_frz (l_lst (a_cons (q_call D_is_row (by decide) c tk (a_cons (s_v 4) (a_nil)) (al_cons (al_nil))) (a_cons (q_call D_product_of (by decide) c tk (a_cons (s_v 4) (a_cons (s_v 5) (a_nil))) (al_cons (al_cons (al_nil)))) (a_cons (q_call D_square_sum (by decide) c tk (a_cons (s_v 4) (a_nil)) (al_cons (al_nil))) (a_cons (q_call D_plus (by decide) c tk (a_cons (s_v 4) (a_cons (s_v 5) (a_nil))) (al_cons (al_cons (al_nil)))) (a_cons (q_call D_minus (by decide) c tk (a_cons (s_v 4) (a_cons (s_v 5) (a_nil))) (al_cons (al_cons (al_nil)))) (a_cons (q_call D_times_row (by decide) c tk (a_cons (s_v 4) (a_cons (s_v 6) (a_nil))) (al_cons (al_cons (al_nil)))) (a_nil))))))))))
    (ss_cons (s_set (j := 8) c.nd (s_frz (l_lst (a_cons (s_bl) (a_cons (s_b (c_sum c.calm) rfl z_sum rfl (a_cons (s_frz (l_comp c (i_r1 rfl z_range (a_cons (s_v 1) (a_nil))) (own := [("p", 13)]) (blkOk_by rfl) (by decide) (fun s H C cc fp => g_n 13 (c.blk).nd) (fun s H C cc fp => ts_nil) (fun s H C cc fp => s_op y_mul (s_ix (c.blk) (s_v 4) (s_v 13) (fun _ _ => rfl)) (s_ix (c.blk) (s_v 5) (s_v 13) (fun _ _ => rfl))))) (a_nil))) (a_cons (s_b (c_sum c.calm) rfl z_sum rfl (a_cons (s_frz (l_comp c (i_any (s_v 4)) (own := [("x", 12)]) (blkOk_by rfl) (by decide) (fun s H C cc fp => g_n 12 (c.blk).nd) (fun s H C cc fp => ts_nil) (fun s H C cc fp => s_op y_mul (s_v 12) (s_v 12)))) (a_nil))) (a_nil)))))))
    (ss_cons (s_set (j := 8) c.nd (s_op y_add (s_v 8) (s_frz (l_lst (a_cons (s_bT c_tuple rfl z_tuple rfl (a_cons (s_frz (l_comp c (i_r1 rfl z_range (a_cons (s_v 1) (a_nil))) (own := [("p", 13)]) (blkOk_by rfl) (by decide) (fun s H C cc fp => g_n 13 (c.blk).nd) (fun s H C cc fp => ts_nil) (fun s H C cc fp => s_op y_add (s_ix (c.blk) (s_v 4) (s_v 13) (fun _ _ => rfl)) (s_ix (c.blk) (s_v 5) (s_v 13) (fun _ _ => rfl))))) (a_nil))) (a_cons (s_bT c_tuple rfl z_tuple rfl (a_cons (s_frz (l_comp c (i_r1 rfl z_range (a_cons (s_v 1) (a_nil))) (own := [("p", 13)]) (blkOk_by rfl) (by decide) (fun s H C cc fp => g_n 13 (c.blk).nd) (fun s H C cc fp => ts_nil) (fun s H C cc fp => s_op y_sub (s_ix (c.blk) (s_v 4) (s_v 13) (fun _ _ => rfl)) (s_ix (c.blk) (s_v 5) (s_v 13) (fun _ _ => rfl))))) (a_nil))) (a_nil)))))))
    (ss_cons (s_ifS (t_cmp (y_ne c) (s_b (c_repr c) rfl z_repr rfl (a_cons (s_v 7) (a_nil))) (s_b (c_repr c) rfl z_repr rfl (a_cons (s_op y_add (s_v 8) (s_frz (l_lst (a_cons (s_bT c_tuple rfl z_tuple rfl (a_cons (s_frz (l_comp c (i_any (s_v 4)) (own := [("x", 12)]) (blkOk_by rfl) (by decide) (fun s H C cc fp => g_n 12 (c.blk).nd) (fun s H C cc fp => ts_nil) (fun s H C cc fp => s_op y_mul (s_v 6) (s_v 12)))) (a_nil))) (a_nil))))) (a_nil))) rfl) (ss_one (s_ret (s_bl))) (ss_nil))
    (ss_cons (s_set (j := 9) c.nd (q_call D_u_law_gcd (by decide) c tk (a_cons (s_v 4) (a_nil)) (al_cons (al_nil))))
    (ss_cons (s_set (j := 10) c.nd (s_sl (s_frz (l_comp c (i_any (s_v 4)) (own := [("x", 12)]) (blkOk_by rfl) (by decide) (fun s H C cc fp => g_n 12 (c.blk).nd) (fun s H C cc fp => ts_one (t_cmp (y_ne (c.blk)) (s_v 12) (s_int) rfl)) (fun s H C cc fp => s_v 12))) (o_none) (o_some (s_int))))
    (ss_cons (s_set (j := 11) c.nd (s_if (t_w (w_and (t_cmp (y_ne c) (s_v 10) (s_frz (l_lst (a_nil))) rfl) (w_and1 (t_cmp (y_lt c) (s_ix c (s_v 10) (s_int) (fun _ _ => rfl)) (s_int) rfl)))) (s_neg (s_int)) (s_int)))
    (ss_cons (s_set (j := 8) c.nd (s_if (t_cmp (y_eq c) (s_v 9) (s_int) rfl) (s_v 4) (s_bT c_tuple rfl z_tuple rfl (a_cons (s_frz (l_comp c (i_any (s_v 4)) (own := [("x", 12)]) (blkOk_by rfl) (by decide) (fun s H C cc fp => g_n 12 (c.blk).nd) (fun s H C cc fp => ts_nil) (fun s H C cc fp => s_op y_mul (s_op y_mul (s_v 11) (s_op y_div (s_b c_abs rfl z_abs rfl (a_cons (s_v 12) (a_nil))) (s_v 9))) (s_if (t_cmp y_gt (s_v 12) (s_int) rfl) (s_int) (s_neg (s_int)))))) (a_nil)))))
    (ss_one (s_ret (s_cmp (y_eq c) (s_b (c_repr c) rfl z_repr rfl (a_cons (s_frz (l_lst (a_cons (q_call D_content (by decide) c tk (a_cons (s_v 4) (a_nil)) (al_cons (al_nil))) (a_cons (q_call D_plain (by decide) c tk (a_cons (s_v 4) (a_nil)) (al_cons (al_nil))) (a_nil))))) (a_nil))) (s_b (c_repr c) rfl z_repr rfl (a_cons (s_frz (l_lst (a_cons (s_v 9) (a_cons (s_v 8) (a_nil))))) (a_nil))) rfl))))))))))))))
abbrev s_are_rows : Stmt := top 21
def b_are_rows_1 : Sv := sRet (eB bAll (aC (eFrz (lComp (iA (eV 0)) (gN 1) (tYes) (e2 oEq (eB bLen (aC (eV 1) (aN))) (eB bLen (aC (e2 oIx (eV 0) (eC (.int 0))) (aN)))) [1])) (aN)))
def b_are_rows : Sv := sSeq (sIf (tOr (tNot (tT (eIs Ty.tuple (eV 0)))) (tNot (tT (eB bAll (aC (eFrz (lComp (iA (eV 0)) (gN 1) (tYes) (eCall d_is_row (aC (eV 1) (aN))) [1])) (aN)))))) (sRet (eC (.bl false))) (sPass))
    (b_are_rows_1)
def d_are_rows : Fn := fnP 2 b_are_rows
theorem sc_are_rows : FnScope ["value", "row"] ["value"] (defScope s_are_rows) := ⟨rfl, rfl, rfl, by decide +kernel, rfl, by decide +kernel, by decide +kernel⟩
theorem fn_are_rows (F : Fun K "are_rows" "are_rows" s_are_rows f fd) (z_isinstance : mg "isinstance" = none) (z_tuple : mg "tuple" = none) (z_all : mg "all" = none) (z_len : mg "len" = none)      (D_is_row : Def P w K mg base 3 "is_row" ["value"] (spP K noCl 1 d_is_row))   :
    FnG P w K mg base 4 f fd ["value"] (spP K noCl 1 d_are_rows) := by
  refine fn_P (N := ["value", "row"]) F sc_are_rows ?_
  rintro ⟨prog, w2, K2, mg2, base2, A, N, s0, H0, ⟨sc, lo, gl, ce, qu, fu, co, fr, bl⟩, outer, stack, ex, fn, calm, pn, xe⟩ e1 e2 e3 e4 e5 e6 e7 e8 e9 e10 E c tk hp
  dsimp only at e1 e2 e3 e4 e5 e6 e7 e8 e9 e10
  subst e1 e2 e3 e4 e5 e6 e7 e8 e9 e10
  exact ss_cons (s_ifS (t_w (w_or (t_not (t_tr (s_isi Ty.tuple (s_v 0) (hm := z_isinstance) (hm2 := z_tuple) (hb := rfl) (hn := by decide) (hd := by decide)))) (w_or1 (t_not (t_tr (s_b (c_all c.calm) rfl z_all rfl (a_cons (s_frz (l_comp c (i_any (s_v 0)) (own := [("row", 1)]) (blkOk_by rfl) (by decide) (fun s H C cc fp => g_n 1 (c.blk).nd) (fun s H C cc fp => ts_nil) (fun s H C cc fp => q_call D_is_row (by decide) (c.blk) takes0 (a_cons (s_v 1) (a_nil)) (al_cons (al_nil))))) (a_nil)))))))) (ss_one (s_ret (s_bl))) (ss_nil))
    (ss_one (s_ret (s_b (c_all c.calm) rfl z_all rfl (a_cons (s_frz (l_comp c (i_any (s_v 0)) (own := [("row", 1)]) (blkOk_by rfl) (by decide) (fun s H C cc fp => g_n 1 (c.blk).nd) (fun s H C cc fp => ts_nil) (fun s H C cc fp => s_cmp (y_eq (c.blk)) (s_b c_len rfl z_len rfl (a_cons (s_v 1) (a_nil))) (s_b c_len rfl z_len rfl (a_cons (s_ix (c.blk) (s_v 0) (s_int) (fun _ _ => rfl)) (a_nil))) rfl))) (a_nil)))))
abbrev s_need_rows : Stmt := top 23
def b_need_rows : Sv := sIf (tNot (tT (eCall d_are_rows (aC (eV 0) (aN))))) (sRaise "BadRows" ["rows"] (aC (eV 0) (aN))) (sPass)
def d_need_rows : Fn := fnP 1 b_need_rows
theorem sc_need_rows : FnScope ["rows"] ["rows"] (defScope s_need_rows) := ⟨rfl, rfl, rfl, by decide +kernel, rfl, by decide +kernel, by decide +kernel⟩
theorem fn_need_rows (F : Fun K "need_rows" "need_rows" s_need_rows f fd)   (E_BadRows : Exc P w K mg base "BadRows" ["rows"])    (D_are_rows : Def P w K mg base 4 "are_rows" ["value"] (spP K noCl 1 d_are_rows))   :
    FnG P w K mg base 5 f fd ["rows"] (spP K noCl 1 d_need_rows) := by
  refine fn_P (N := ["rows"]) F sc_need_rows ?_
  rintro ⟨prog, w2, K2, mg2, base2, A, N, s0, H0, ⟨sc, lo, gl, ce, qu, fu, co, fr, bl⟩, outer, stack, ex, fn, calm, pn, xe⟩ e1 e2 e3 e4 e5 e6 e7 e8 e9 e10 E c tk hp
  dsimp only at e1 e2 e3 e4 e5 e6 e7 e8 e9 e10
  subst e1 e2 e3 e4 e5 e6 e7 e8 e9 e10
  exact ss_one (s_ifS (t_not (t_tr (q_call D_are_rows (by decide) c tk (a_cons (s_v 0) (a_nil)) (al_cons (al_nil))))) (ss_one (s_raise E_BadRows c (by decide) tk (a_cons (s_v 0) (a_nil)))) (ss_nil))
abbrev s_mixed_in : Stmt := top 33
def b_mixed_in_l1 : Sv := sAsg (gN 2) (eCall d_plus_in (aC (eV 2) (aC (eCall d_times_row_in (aC (eV 3) (aC (eV 4) (aN)))) (aN))))
def b_mixed_in_2 : Sv := sRet (eV 2)
def b_mixed_in_1 : Sv := sSeq (sFor (iZipD (aC (eV 0) (aC (eV 1) (aN)))) (gT [gN 3, gN 4]) (b_mixed_in_l1))
    (b_mixed_in_2)
def b_mixed_in : Sv := sSeq (sAsg (gN 2) (e2 oMul (eTup (aC (eC (.int 0)) (aN))) (eB bLen (aC (e2 oIx (eV 0) (eC (.int 0))) (aN)))))
    (b_mixed_in_1)
def d_mixed_in : Fn := fnP 5 b_mixed_in
theorem sc_mixed_in : FnScope ["rows", "weights", "found", "row", "weight"] ["rows", "weights"] (defScope s_mixed_in) := ⟨rfl, rfl, rfl, by decide +kernel, rfl, by decide +kernel, by decide +kernel⟩
theorem fn_mixed_in (F : Fun K "mixed_in" "mixed_in" s_mixed_in f fd) (z_len : mg "len" = none) (z_zip : mg "zip" = none)      (D_plus_in : Def P w K mg base 1 "plus_in" ["one", "two"] (spP K noCl 2 d_plus_in)) (D_times_row_in : Def P w K mg base 1 "times_row_in" ["row", "k"] (spP K noCl 2 d_times_row_in))   :
    FnG P w K mg base 2 f fd ["rows", "weights"] (spP K noCl 2 d_mixed_in) := by
  refine fn_P (N := ["rows", "weights", "found", "row", "weight"]) F sc_mixed_in ?_
  rintro ⟨prog, w2, K2, mg2, base2, A, N, s0, H0, ⟨sc, lo, gl, ce, qu, fu, co, fr, bl⟩, outer, stack, ex, fn, calm, pn, xe⟩ e1 e2 e3 e4 e5 e6 e7 e8 e9 e10 E c tk hp
  dsimp only at e1 e2 e3 e4 e5 e6 e7 e8 e9 e10
  subst e1 e2 e3 e4 e5 e6 e7 e8 e9 e10
  exact ss_cons (s_set (j := 2) c.nd (s_op y_mul (s_tup (a_cons (s_int) (a_nil))) (s_b c_len rfl z_len rfl (a_cons (s_ix c (s_v 0) (s_int) (fun _ _ => rfl)) (a_nil)))))
    (ss_cons (s_for hp c.calm (i_zip rfl z_zip (a_cons (s_v 0) (a_cons (s_v 1) (a_nil)))) (g_tup c.calm (gs_cons (g_n 3 c.nd) (gs_cons (g_n 4 c.nd) (gs_nil)))) (ss_one (s_set (j := 2) c.nd (q_call D_plus_in (by decide) c tk (a_cons (s_v 2) (a_cons (q_call D_times_row_in (by decide) c tk (a_cons (s_v 3) (a_cons (s_v 4) (a_nil))) (al_cons (al_cons (al_nil)))) (a_nil))) (al_cons (al_cons (al_nil)))))))
    (ss_one (s_ret (s_v 2))))
abbrev s_mixed : Stmt := top 34
def b_mixed_3 : Sv := sRet (eCall d_mixed_in (aC (eV 0) (aC (eV 1) (aN))))
def b_mixed_2 : Sv := sSeq (sIf (tNot (tT (eV 0))) (sRaise "NotKept" ["promise", "witness"] (aC (eC (.str "some")) (aC (eC .non) (aN)))) (sPass))
    (b_mixed_3)
def b_mixed_1 : Sv := sSeq (sIf (tNot (tT (eCall d_is_row_of (aC (eB bTuple (aC (eV 1) (aN))) (aC (eB bLen (aC (eV 0) (aN))) (aN)))))) (sRaise "BadRow" ["row"] (aC (eB bTuple (aC (eV 1) (aN))) (aN))) (sPass))
    (b_mixed_2)
def b_mixed : Sv := sSeq (sExpr (eCall d_need_rows (aC (eV 0) (aN))))
    (b_mixed_1)
def d_mixed : Fn := fnP 2 b_mixed
theorem sc_mixed : FnScope ["rows", "weights"] ["rows", "weights"] (defScope s_mixed) := ⟨rfl, rfl, rfl, by decide +kernel, rfl, by decide +kernel, by decide +kernel⟩
theorem fn_mixed (F : Fun K "mixed" "mixed" s_mixed f fd) (z_len : mg "len" = none) (z_tuple : mg "tuple" = none)  (E_BadRow : Exc P w K mg base "BadRow" ["row"]) (E_NotKept : Exc P w K mg base "NotKept" ["promise", "witness"])    (D_need_rows : Def P w K mg base 5 "need_rows" ["rows"] (spP K noCl 1 d_need_rows)) (D_is_row_of : Def P w K mg base 2 "is_row_of" ["value", "many"] (spP K noCl 2 d_is_row_of)) (D_mixed_in : Def P w K mg base 2 "mixed_in" ["rows", "weights"] (spP K noCl 2 d_mixed_in))   :
    FnG P w K mg base 6 f fd ["rows", "weights"] (spP K noCl 2 d_mixed) := by
  refine fn_P (N := ["rows", "weights"]) F sc_mixed ?_
  rintro ⟨prog, w2, K2, mg2, base2, A, N, s0, H0, ⟨sc, lo, gl, ce, qu, fu, co, fr, bl⟩, outer, stack, ex, fn, calm, pn, xe⟩ e1 e2 e3 e4 e5 e6 e7 e8 e9 e10 E c tk hp
  dsimp only at e1 e2 e3 e4 e5 e6 e7 e8 e9 e10
  subst e1 e2 e3 e4 e5 e6 e7 e8 e9 e10
  exact ss_cons (s_expr (q_call D_need_rows (by decide) c tk (a_cons (s_v 0) (a_nil)) (al_cons (al_nil))))
    (ss_cons (s_ifS (t_not (t_tr (q_call D_is_row_of (by decide) c tk (a_cons (s_bT c_tuple rfl z_tuple rfl (a_cons (s_v 1) (a_nil))) (a_cons (s_b c_len rfl z_len rfl (a_cons (s_v 0) (a_nil))) (a_nil))) (al_cons (al_cons (al_nil)))))) (ss_one (s_raise E_BadRow c (by decide) tk (a_cons (s_bT c_tuple rfl z_tuple rfl (a_cons (s_v 1) (a_nil))) (a_nil)))) (ss_nil))
    (ss_cons (s_ifS (t_not (t_tr (s_v 0))) (ss_one (s_raise E_NotKept c (by decide) tk (a_cons (s_str) (a_cons (s_non) (a_nil))))) (ss_nil))
    (ss_one (s_ret (q_call D_mixed_in (by decide) c tk (a_cons (s_v 0) (a_cons (s_v 1) (a_nil))) (al_cons (al_cons (al_nil))))))))
abbrev s_products_in : Stmt := top 35
def b_products_in : Sv := sRet (eB bTuple (aC (eFrz (lComp (iA (eV 0)) (gN 1) (tYes) (eB bTuple (aC (eFrz (lComp (iA (eV 0)) (gN 2) (tYes) (eCall d_dot (aC (eV 1) (aC (eV 2) (aN)))) [2])) (aN))) [1])) (aN)))
def d_products_in : Fn := fnP 3 b_products_in
theorem sc_products_in : FnScope ["rows", "one", "two"] ["rows"] (defScope s_products_in) := ⟨rfl, rfl, rfl, by decide +kernel, rfl, by decide +kernel, by decide +kernel⟩
theorem fn_products_in (F : Fun K "products_in" "products_in" s_products_in f fd) (z_tuple : mg "tuple" = none)      (D_dot : Def P w K mg base 1 "dot" ["one", "two"] (spP K noCl 2 d_dot))   :
    FnG P w K mg base 2 f fd ["rows"] (spP K noCl 1 d_products_in) := by
  refine fn_P (N := ["rows", "one", "two"]) F sc_products_in ?_
  rintro ⟨prog, w2, K2, mg2, base2, A, N, s0, H0, ⟨sc, lo, gl, ce, qu, fu, co, fr, bl⟩, outer, stack, ex, fn, calm, pn, xe⟩ e1 e2 e3 e4 e5 e6 e7 e8 e9 e10 E c tk hp
  dsimp only at e1 e2 e3 e4 e5 e6 e7 e8 e9 e10
  subst e1 e2 e3 e4 e5 e6 e7 e8 e9 e10
  exact ss_one (s_ret (s_bT c_tuple rfl z_tuple rfl (a_cons (s_frz (l_comp c (i_any (s_v 0)) (own := [("one", 1)]) (blkOk_by rfl) (by decide) (fun s H C cc fp => g_n 1 (c.blk).nd) (fun s H C cc fp => ts_nil) (fun s H C cc fp => s_bT c_tuple rfl z_tuple rfl (a_cons (s_frz (l_comp (c.blk) (i_any (s_v 0)) (own := [("two", 2)]) (blkOk_by rfl) (by decide) (fun s H C cc fp => g_n 2 ((c.blk).blk).nd) (fun s H C cc fp => ts_nil) (fun s H C cc fp => q_call D_dot (by decide) ((c.blk).blk) takes0 (a_cons (s_v 1) (a_cons (s_v 2) (a_nil))) (al_cons (al_cons (al_nil)))))) (a_nil))))) (a_nil))))
abbrev s_products_table : Stmt := top 36
def b_products_table_1 : Sv := sRet (eCall d_products_in (aC (eV 0) (aN)))
def b_products_table : Sv := sSeq (sExpr (eCall d_need_rows (aC (eV 0) (aN))))
    (b_products_table_1)
def d_products_table : Fn := fnP 1 b_products_table
theorem sc_products_table : FnScope ["rows"] ["rows"] (defScope s_products_table) := ⟨rfl, rfl, rfl, by decide +kernel, rfl, by decide +kernel, by decide +kernel⟩
theorem fn_products_table (F : Fun K "products_table" "products_table" s_products_table f fd)       (D_need_rows : Def P w K mg base 5 "need_rows" ["rows"] (spP K noCl 1 d_need_rows)) (D_products_in : Def P w K mg base 2 "products_in" ["rows"] (spP K noCl 1 d_products_in))   :
    FnG P w K mg base 6 f fd ["rows"] (spP K noCl 1 d_products_table) := by
  refine fn_P (N := ["rows"]) F sc_products_table ?_
  rintro ⟨prog, w2, K2, mg2, base2, A, N, s0, H0, ⟨sc, lo, gl, ce, qu, fu, co, fr, bl⟩, outer, stack, ex, fn, calm, pn, xe⟩ e1 e2 e3 e4 e5 e6 e7 e8 e9 e10 E c tk hp
  dsimp only at e1 e2 e3 e4 e5 e6 e7 e8 e9 e10
  subst e1 e2 e3 e4 e5 e6 e7 e8 e9 e10
  exact ss_cons (s_expr (q_call D_need_rows (by decide) c tk (a_cons (s_v 0) (a_nil)) (al_cons (al_nil))))
    (ss_one (s_ret (q_call D_products_in (by decide) c tk (a_cons (s_v 0) (a_nil)) (al_cons (al_nil)))))
abbrev s_is_table : Stmt := top 12
def b_is_table_1 : Sv := sRet (eB bAll (aC (eFrz (lComp2 (iR1 (aC (eB bLen (aC (eV 0) (aN))) (aN))) (gN 1) (tYes) (iR1 (aC (eV 1) (aN))) (gN 2) (tYes) (e2 oEq (e2 oIx (e2 oIx (eV 0) (eV 1)) (eV 2)) (e2 oIx (e2 oIx (eV 0) (eV 2)) (eV 1))) [1, 2] [2])) (aN)))
def b_is_table : Sv := sSeq (sIf (tOr (tNot (tT (eIs Ty.tuple (eV 0)))) (tNot (tT (eB bAll (aC (eFrz (lComp (iA (eV 0)) (gN 3) (tYes) (eCall d_is_row_of (aC (eV 3) (aC (eB bLen (aC (eV 0) (aN))) (aN)))) [3])) (aN)))))) (sRet (eC (.bl false))) (sPass))
    (b_is_table_1)
def d_is_table : Fn := fnP 4 b_is_table
theorem sc_is_table : FnScope ["value", "p", "q", "row"] ["value"] (defScope s_is_table) := ⟨rfl, rfl, rfl, by decide +kernel, rfl, by decide +kernel, by decide +kernel⟩
theorem fn_is_table (F : Fun K "is_table" "is_table" s_is_table f fd) (z_isinstance : mg "isinstance" = none) (z_tuple : mg "tuple" = none) (z_len : mg "len" = none) (z_all : mg "all" = none) (z_range : mg "range" = none)      (D_is_row_of : Def P w K mg base 2 "is_row_of" ["value", "many"] (spP K noCl 2 d_is_row_of))   :
    FnG P w K mg base 3 f fd ["value"] (spP K noCl 1 d_is_table) := by
  refine fn_P (N := ["value", "p", "q", "row"]) F sc_is_table ?_
  rintro ⟨prog, w2, K2, mg2, base2, A, N, s0, H0, ⟨sc, lo, gl, ce, qu, fu, co, fr, bl⟩, outer, stack, ex, fn, calm, pn, xe⟩ e1 e2 e3 e4 e5 e6 e7 e8 e9 e10 E c tk hp
  dsimp only at e1 e2 e3 e4 e5 e6 e7 e8 e9 e10
  subst e1 e2 e3 e4 e5 e6 e7 e8 e9 e10
  exact ss_cons (s_ifS (t_w (w_or (t_not (t_tr (s_isi Ty.tuple (s_v 0) (hm := z_isinstance) (hm2 := z_tuple) (hb := rfl) (hn := by decide) (hd := by decide)))) (w_or1 (t_not (t_tr (s_b (c_all c.calm) rfl z_all rfl (a_cons (s_frz (l_comp c (i_any (s_v 0)) (own := [("row", 3)]) (blkOk_by rfl) (by decide) (fun s H C cc fp => g_n 3 (c.blk).nd) (fun s H C cc fp => ts_nil) (fun s H C cc fp => q_call D_is_row_of (by decide) (c.blk) takes0 (a_cons (s_v 3) (a_cons (s_b c_len rfl z_len rfl (a_cons (s_v 0) (a_nil))) (a_nil))) (al_cons (al_cons (al_nil)))))) (a_nil)))))))) (ss_one (s_ret (s_bl))) (ss_nil))
    (ss_one (s_ret (s_b (c_all c.calm) rfl z_all rfl (a_cons (s_frz (l_comp2 c (i_r1 rfl z_range (a_cons (s_b c_len rfl z_len rfl (a_cons (s_v 0) (a_nil))) (a_nil))) (own := [("p", 1), ("q", 2)]) (vs1 := [2]) (blkOk_by rfl) (by decide) (by decide) (by decide) (fun s H C cc fp => g_n 1 (c.blk).nd) (fun s H C cc fp => ts_nil) (fun s H C cc fp => i_r1 rfl z_range (a_cons (s_v 1) (a_nil))) (fun s H C cc fp => g_n 2 (c.blk).nd) (fun s H C cc fp => ts_nil) (fun s H C cc fp => s_cmp (y_eq (c.blk)) (s_ix (c.blk) (s_ix (c.blk) (s_v 0) (s_v 1) (fun _ _ => rfl)) (s_v 2) (fun _ _ => rfl)) (s_ix (c.blk) (s_ix (c.blk) (s_v 0) (s_v 2) (fun _ _ => rfl)) (s_v 1) (fun _ _ => rfl)) rfl))) (a_nil)))))
abbrev s_need_table : Stmt := top 13
def b_need_table : Sv := sIf (tNot (tT (eCall d_is_table (aC (eV 0) (aN))))) (sRaise "BadTable" ["table"] (aC (eV 0) (aN))) (sPass)
def d_need_table : Fn := fnP 1 b_need_table
theorem sc_need_table : FnScope ["table"] ["table"] (defScope s_need_table) := ⟨rfl, rfl, rfl, by decide +kernel, rfl, by decide +kernel, by decide +kernel⟩
theorem fn_need_table (F : Fun K "need_table" "need_table" s_need_table f fd)   (E_BadTable : Exc P w K mg base "BadTable" ["table"])    (D_is_table : Def P w K mg base 3 "is_table" ["value"] (spP K noCl 1 d_is_table))   :
    FnG P w K mg base 4 f fd ["table"] (spP K noCl 1 d_need_table) := by
  refine fn_P (N := ["table"]) F sc_need_table ?_
  rintro ⟨prog, w2, K2, mg2, base2, A, N, s0, H0, ⟨sc, lo, gl, ce, qu, fu, co, fr, bl⟩, outer, stack, ex, fn, calm, pn, xe⟩ e1 e2 e3 e4 e5 e6 e7 e8 e9 e10 E c tk hp
  dsimp only at e1 e2 e3 e4 e5 e6 e7 e8 e9 e10
  subst e1 e2 e3 e4 e5 e6 e7 e8 e9 e10
  exact ss_one (s_ifS (t_not (t_tr (q_call D_is_table (by decide) c tk (a_cons (s_v 0) (a_nil)) (al_cons (al_nil))))) (ss_one (s_raise E_BadTable c (by decide) tk (a_cons (s_v 0) (a_nil)))) (ss_nil))
abbrev s_need_row_of : Stmt := top 14
def b_need_row_of : Sv := sIf (tNot (tT (eCall d_is_row_of (aC (eV 0) (aC (eV 1) (aN)))))) (sRaise "BadRow" ["row"] (aC (eV 0) (aN))) (sPass)
def d_need_row_of : Fn := fnP 2 b_need_row_of
theorem sc_need_row_of : FnScope ["row", "many"] ["row", "many"] (defScope s_need_row_of) := ⟨rfl, rfl, rfl, by decide +kernel, rfl, by decide +kernel, by decide +kernel⟩
theorem fn_need_row_of (F : Fun K "need_row_of" "need_row_of" s_need_row_of f fd)   (E_BadRow : Exc P w K mg base "BadRow" ["row"])    (D_is_row_of : Def P w K mg base 2 "is_row_of" ["value", "many"] (spP K noCl 2 d_is_row_of))   :
    FnG P w K mg base 3 f fd ["row", "many"] (spP K noCl 2 d_need_row_of) := by
  refine fn_P (N := ["row", "many"]) F sc_need_row_of ?_
  rintro ⟨prog, w2, K2, mg2, base2, A, N, s0, H0, ⟨sc, lo, gl, ce, qu, fu, co, fr, bl⟩, outer, stack, ex, fn, calm, pn, xe⟩ e1 e2 e3 e4 e5 e6 e7 e8 e9 e10 E c tk hp
  dsimp only at e1 e2 e3 e4 e5 e6 e7 e8 e9 e10
  subst e1 e2 e3 e4 e5 e6 e7 e8 e9 e10
  exact ss_one (s_ifS (t_not (t_tr (q_call D_is_row_of (by decide) c tk (a_cons (s_v 0) (a_cons (s_v 1) (a_nil))) (al_cons (al_cons (al_nil)))))) (ss_one (s_raise E_BadRow c (by decide) tk (a_cons (s_v 0) (a_nil)))) (ss_nil))
abbrev s_row_product_in : Stmt := top 16
def b_row_product_in : Sv := sRet (eB bTuple (aC (eFrz (lComp (iA (eV 0)) (gN 2) (tYes) (eCall d_dot (aC (eV 2) (aC (eV 1) (aN)))) [2])) (aN)))
def d_row_product_in : Fn := fnP 3 b_row_product_in
theorem sc_row_product_in : FnScope ["table", "row", "line"] ["table", "row"] (defScope s_row_product_in) := ⟨rfl, rfl, rfl, by decide +kernel, rfl, by decide +kernel, by decide +kernel⟩
theorem fn_row_product_in (F : Fun K "row_product_in" "row_product_in" s_row_product_in f fd) (z_tuple : mg "tuple" = none)      (D_dot : Def P w K mg base 1 "dot" ["one", "two"] (spP K noCl 2 d_dot))   :
    FnG P w K mg base 2 f fd ["table", "row"] (spP K noCl 2 d_row_product_in) := by
  refine fn_P (N := ["table", "row", "line"]) F sc_row_product_in ?_
  rintro ⟨prog, w2, K2, mg2, base2, A, N, s0, H0, ⟨sc, lo, gl, ce, qu, fu, co, fr, bl⟩, outer, stack, ex, fn, calm, pn, xe⟩ e1 e2 e3 e4 e5 e6 e7 e8 e9 e10 E c tk hp
  dsimp only at e1 e2 e3 e4 e5 e6 e7 e8 e9 e10
  subst e1 e2 e3 e4 e5 e6 e7 e8 e9 e10
  exact ss_one (s_ret (s_bT c_tuple rfl z_tuple rfl (a_cons (s_frz (l_comp c (i_any (s_v 0)) (own := [("line", 2)]) (blkOk_by rfl) (by decide) (fun s H C cc fp => g_n 2 (c.blk).nd) (fun s H C cc fp => ts_nil) (fun s H C cc fp => q_call D_dot (by decide) (c.blk) takes0 (a_cons (s_v 2) (a_cons (s_v 1) (a_nil))) (al_cons (al_cons (al_nil)))))) (a_nil))))
abbrev s_value_in : Stmt := top 17
def b_value_in : Sv := sRet (eCall d_dot (aC (eV 1) (aC (eCall d_row_product_in (aC (eV 0) (aC (eV 1) (aN)))) (aN))))
def d_value_in : Fn := fnP 2 b_value_in
theorem sc_value_in : FnScope ["table", "row"] ["table", "row"] (defScope s_value_in) := ⟨rfl, rfl, rfl, by decide +kernel, rfl, by decide +kernel, by decide +kernel⟩
theorem fn_value_in (F : Fun K "value_in" "value_in" s_value_in f fd)       (D_dot : Def P w K mg base 1 "dot" ["one", "two"] (spP K noCl 2 d_dot)) (D_row_product_in : Def P w K mg base 2 "row_product_in" ["table", "row"] (spP K noCl 2 d_row_product_in))   :
    FnG P w K mg base 3 f fd ["table", "row"] (spP K noCl 2 d_value_in) := by
  refine fn_P (N := ["table", "row"]) F sc_value_in ?_
  rintro ⟨prog, w2, K2, mg2, base2, A, N, s0, H0, ⟨sc, lo, gl, ce, qu, fu, co, fr, bl⟩, outer, stack, ex, fn, calm, pn, xe⟩ e1 e2 e3 e4 e5 e6 e7 e8 e9 e10 E c tk hp
  dsimp only at e1 e2 e3 e4 e5 e6 e7 e8 e9 e10
  subst e1 e2 e3 e4 e5 e6 e7 e8 e9 e10
  exact ss_one (s_ret (q_call D_dot (by decide) c tk (a_cons (s_v 1) (a_cons (q_call D_row_product_in (by decide) c tk (a_cons (s_v 0) (a_cons (s_v 1) (a_nil))) (al_cons (al_cons (al_nil)))) (a_nil))) (al_cons (al_cons (al_nil)))))
abbrev s_value_at : Stmt := top 18
def b_value_at_2 : Sv := sRet (eCall d_value_in (aC (eV 0) (aC (eV 1) (aN))))
def b_value_at_1 : Sv := sSeq (sExpr (eCall d_need_row_of (aC (eV 1) (aC (eB bLen (aC (eV 0) (aN))) (aN)))))
    (b_value_at_2)
def b_value_at : Sv := sSeq (sExpr (eCall d_need_table (aC (eV 0) (aN))))
    (b_value_at_1)
def d_value_at : Fn := fnP 2 b_value_at
theorem sc_value_at : FnScope ["table", "row"] ["table", "row"] (defScope s_value_at) := ⟨rfl, rfl, rfl, by decide +kernel, rfl, by decide +kernel, by decide +kernel⟩
theorem fn_value_at (F : Fun K "value_at" "value_at" s_value_at f fd) (z_len : mg "len" = none)      (D_need_table : Def P w K mg base 4 "need_table" ["table"] (spP K noCl 1 d_need_table)) (D_need_row_of : Def P w K mg base 3 "need_row_of" ["row", "many"] (spP K noCl 2 d_need_row_of)) (D_value_in : Def P w K mg base 3 "value_in" ["table", "row"] (spP K noCl 2 d_value_in))   :
    FnG P w K mg base 5 f fd ["table", "row"] (spP K noCl 2 d_value_at) := by
  refine fn_P (N := ["table", "row"]) F sc_value_at ?_
  rintro ⟨prog, w2, K2, mg2, base2, A, N, s0, H0, ⟨sc, lo, gl, ce, qu, fu, co, fr, bl⟩, outer, stack, ex, fn, calm, pn, xe⟩ e1 e2 e3 e4 e5 e6 e7 e8 e9 e10 E c tk hp
  dsimp only at e1 e2 e3 e4 e5 e6 e7 e8 e9 e10
  subst e1 e2 e3 e4 e5 e6 e7 e8 e9 e10
  exact ss_cons (s_expr (q_call D_need_table (by decide) c tk (a_cons (s_v 0) (a_nil)) (al_cons (al_nil))))
    (ss_cons (s_expr (q_call D_need_row_of (by decide) c tk (a_cons (s_v 1) (a_cons (s_b c_len rfl z_len rfl (a_cons (s_v 0) (a_nil))) (a_nil))) (al_cons (al_cons (al_nil)))))
    (ss_one (s_ret (q_call D_value_in (by decide) c tk (a_cons (s_v 0) (a_cons (s_v 1) (a_nil))) (al_cons (al_cons (al_nil)))))))
abbrev s_u_law_mixed_right : Stmt := top 48
def b_u_law_mixed_right_7 : Sv := sRet (e2 oEq (eCall d_value_at (aC (eCall d_products_table (aC (eV 3) (aN))) (aC (eB bTuple (aC (eV 4) (aN))) (aN)))) (eCall d_square_sum (aC (eCall d_mixed (aC (eV 3) (aC (eV 4) (aN)))) (aN))))
def b_u_law_mixed_right_6 : Sv := sSeq (sIf (tB (e2 oNe (eB bRepr (aC (eV 7) (aN))) (eB bRepr (aC (eFrz (lLst (aC (eV 5) (aC (eV 6) (aC (eC (.bl true)) (aN)))))) (aN))))) (sRet (eC (.bl false))) (sPass))
    (b_u_law_mixed_right_7)
def b_u_law_mixed_right_5 : Sv := sSeq (sAsg (gN 7) (eFrz (lLst (aC (eCall d_mixed (aC (eV 3) (aC (eCall d_u_law_pick (aC (eV 0) (aC (eFrz (lLst (aC (eV 4) (aC (eB bTuple (aC (eV 4) (aN))) (aN))))) (aN)))) (aN)))) (aC (eCall d_products_table (aC (eV 3) (aN))) (aC (eCall d_are_rows (aC (eV 3) (aN))) (aN)))))))
    (b_u_law_mixed_right_6)
def b_u_law_mixed_right_4 : Sv := sSeq (sAsg (gN 6) (eB bTuple (aC (eFrz (lComp (iA (eV 3)) (gN 10) (tYes) (eB bTuple (aC (eFrz (lComp (iA (eV 3)) (gN 11) (tYes) (eB bSum (aC (eFrz (lComp (iR1 (aC (eV 1) (aN))) (gN 9) (tYes) (e2 oMul (e2 oIx (eV 10) (eV 9)) (e2 oIx (eV 11) (eV 9))) [9])) (aN))) [11])) (aN))) [10])) (aN))))
    (b_u_law_mixed_right_5)
def b_u_law_mixed_right_3 : Sv := sSeq (sAsg (gN 5) (eB bTuple (aC (eFrz (lComp (iR1 (aC (eV 1) (aN))) (gN 9) (tYes) (eB bSum (aC (eFrz (lComp (iR1 (aC (eV 2) (aN))) (gN 8) (tYes) (e2 oMul (e2 oIx (eV 4) (eV 8)) (e2 oIx (e2 oIx (eV 3) (eV 8)) (eV 9))) [8])) (aN))) [9])) (aN))))
    (b_u_law_mixed_right_4)
def b_u_law_mixed_right_2 : Sv := sSeq (sAsg (gN 4) (eFrz (lComp (iR1 (aC (eV 2) (aN))) (gN 8) (tYes) (e2 oSub (eCall d_u_law_draw (aC (eV 0) (aC (eC (.int 9)) (aN)))) (eC (.int 4))) [8])))
    (b_u_law_mixed_right_3)
def b_u_law_mixed_right_1 : Sv := sSeq (sAsg (gN 3) (eB bTuple (aC (eFrz (lComp (iR1 (aC (eV 2) (aN))) (gN 8) (tYes) (eB bTuple (aC (eFrz (lComp (iR1 (aC (eV 1) (aN))) (gN 9) (tYes) (e2 oSub (eCall d_u_law_draw (aC (eV 0) (aC (eC (.int 9)) (aN)))) (eC (.int 4))) [9])) (aN))) [8])) (aN))))
    (b_u_law_mixed_right_2)
def b_u_law_mixed_right : Sv := sSeq (sAsg (gT [gN 1, gN 2]) (eTup (aC (eCall d_u_law_draw (aC (eV 0) (aC (eC (.int 6)) (aN)))) (aC (e2 oAdd (eC (.int 1)) (eCall d_u_law_draw (aC (eV 0) (aC (eC (.int 5)) (aN))))) (aN)))))
    (b_u_law_mixed_right_1)
def d_u_law_mixed_right : Fn := fnP 12 b_u_law_mixed_right
theorem sc_u_law_mixed_right : FnScope ["pen", "n", "many", "rows", "weights", "total", "table", "told", "k", "p", "one", "two"] ["pen"] (defScope s_u_law_mixed_right) := ⟨rfl, rfl, rfl, by decide +kernel, rfl, by decide +kernel, by decide +kernel⟩
theorem fn_u_law_mixed_right (F : Fun K "_law_mixed_right" "_law_mixed_right" s_u_law_mixed_right f fd) (z_range : mg "range" = none) (z_tuple : mg "tuple" = none) (z_sum : mg "sum" = none) (z_repr : mg "repr" = none)      (D_u_law_draw : Def P w K mg base 1 "_law_draw" ["pen", "many"] (spP K noCl 2 d_u_law_draw)) (D_are_rows : Def P w K mg base 4 "are_rows" ["value"] (spP K noCl 1 d_are_rows)) (D_products_table : Def P w K mg base 6 "products_table" ["rows"] (spP K noCl 1 d_products_table)) (D_mixed : Def P w K mg base 6 "mixed" ["rows", "weights"] (spP K noCl 2 d_mixed)) (D_u_law_pick : Def P w K mg base 2 "_law_pick" ["pen", "some"] (spP K noCl 2 d_u_law_pick)) (D_value_at : Def P w K mg base 5 "value_at" ["table", "row"] (spP K noCl 2 d_value_at)) (D_square_sum : Def P w K mg base 5 "square_sum" ["row"] (spP K noCl 1 d_square_sum))   :
    FnG P w K mg base 7 f fd ["pen"] (spP K noCl 1 d_u_law_mixed_right) := by
  refine fn_P (N := ["pen", "n", "many", "rows", "weights", "total", "table", "told", "k", "p", "one", "two"]) F sc_u_law_mixed_right ?_
  rintro ⟨prog, w2, K2, mg2, base2, A, N, s0, H0, ⟨sc, lo, gl, ce, qu, fu, co, fr, bl⟩, outer, stack, ex, fn, calm, pn, xe⟩ e1 e2 e3 e4 e5 e6 e7 e8 e9 e10 E c tk hp
  dsimp only at e1 e2 e3 e4 e5 e6 e7 e8 e9 e10
  subst e1 e2 e3 e4 e5 e6 e7 e8 e9 e10
  exact ss_cons (s_asg (s_tup (a_cons (q_call D_u_law_draw (by decide) c tk (a_cons (s_v 0) (a_cons (s_int) (a_nil))) (al_cons (al_cons (al_nil)))) (a_cons (s_op y_add (s_int) (q_call D_u_law_draw (by decide) c tk (a_cons (s_v 0) (a_cons (s_int) (a_nil))) (al_cons (al_cons (al_nil))))) (a_nil)))) (g_tup c.calm (gs_cons (g_n 1 c.nd) (gs_cons (g_n 2 c.nd) (gs_nil)))))
    (ss_cons (s_set (j := 3) c.nd (s_bT c_tuple rfl z_tuple rfl (a_cons (s_frz (l_comp c (i_r1 rfl z_range (a_cons (s_v 2) (a_nil))) (own := [("k", 8)]) (blkOk_by rfl) (by decide) (fun s H C cc fp => g_n 8 (c.blk).nd) (fun s H C cc fp => ts_nil) (fun s H C cc fp => s_bT c_tuple rfl z_tuple rfl (a_cons (s_frz (l_comp (c.blk) (i_r1 rfl z_range (a_cons (s_v 1) (a_nil))) (own := [("p", 9)]) (blkOk_by rfl) (by decide) (fun s H C cc fp => g_n 9 ((c.blk).blk).nd) (fun s H C cc fp => ts_nil) (fun s H C cc fp => s_op y_sub (q_call D_u_law_draw (by decide) ((c.blk).blk) takes0 (a_cons (s_v 0) (a_cons (s_int) (a_nil))) (al_cons (al_cons (al_nil)))) (s_int)))) (a_nil))))) (a_nil))))
    (ss_cons (s_set (j := 4) c.nd (s_frz (l_comp c (i_r1 rfl z_range (a_cons (s_v 2) (a_nil))) (own := [("k", 8)]) (blkOk_by rfl) (by decide) (fun s H C cc fp => g_n 8 (c.blk).nd) (fun s H C cc fp => ts_nil) (fun s H C cc fp => s_op y_sub (q_call D_u_law_draw (by decide) (c.blk) takes0 (a_cons (s_v 0) (a_cons (s_int) (a_nil))) (al_cons (al_cons (al_nil)))) (s_int)))))
    (ss_cons (s_set (j := 5) c.nd (s_bT c_tuple rfl z_tuple rfl (a_cons (s_frz (l_comp c (i_r1 rfl z_range (a_cons (s_v 1) (a_nil))) (own := [("p", 9)]) (blkOk_by rfl) (by decide) (fun s H C cc fp => g_n 9 (c.blk).nd) (fun s H C cc fp => ts_nil) (fun s H C cc fp => s_b (c_sum (c.blk).calm) rfl z_sum rfl (a_cons (s_frz (l_comp (c.blk) (i_r1 rfl z_range (a_cons (s_v 2) (a_nil))) (own := [("k", 8)]) (blkOk_by rfl) (by decide) (fun s H C cc fp => g_n 8 ((c.blk).blk).nd) (fun s H C cc fp => ts_nil) (fun s H C cc fp => s_op y_mul (s_ix ((c.blk).blk) (s_v 4) (s_v 8) (fun _ _ => rfl)) (s_ix ((c.blk).blk) (s_ix ((c.blk).blk) (s_v 3) (s_v 8) (fun _ _ => rfl)) (s_v 9) (fun _ _ => rfl))))) (a_nil))))) (a_nil))))
    (ss_cons (s_set (j := 6) c.nd (s_bT c_tuple rfl z_tuple rfl (a_cons (s_frz (l_comp c (i_any (s_v 3)) (own := [("one", 10)]) (blkOk_by rfl) (by decide) (fun s H C cc fp => g_n 10 (c.blk).nd) (fun s H C cc fp => ts_nil) (fun s H C cc fp => s_bT c_tuple rfl z_tuple rfl (a_cons (s_frz (l_comp (c.blk) (i_any (s_v 3)) (own := [("two", 11)]) (blkOk_by rfl) (by decide) (fun s H C cc fp => g_n 11 ((c.blk).blk).nd) (fun s H C cc fp => ts_nil) (fun s H C cc fp => s_b (c_sum ((c.blk).blk).calm) rfl z_sum rfl (a_cons (s_frz (l_comp ((c.blk).blk) (i_r1 rfl z_range (a_cons (s_v 1) (a_nil))) (own := [("p", 9)]) (blkOk_by rfl) (by decide) (fun s H C cc fp => g_n 9 (((c.blk).blk).blk).nd) (fun s H C cc fp => ts_nil) (fun s H C cc fp => s_op y_mul (s_ix (((c.blk).blk).blk) (s_v 10) (s_v 9) (fun _ _ => rfl)) (s_ix (((c.blk).blk).blk) (s_v 11) (s_v 9) (fun _ _ => rfl))))) (a_nil))))) (a_nil))))) (a_nil))))
    (ss_cons (s_set (j := 7) c.nd (s_frz (l_lst (a_cons (q_call D_mixed (by decide) c tk (a_cons (s_v 3) (a_cons (q_call D_u_law_pick (by decide) c tk (a_cons (s_v 0) (a_cons (s_frz (l_lst (a_cons (s_v 4) (a_cons (s_bT c_tuple rfl z_tuple rfl (a_cons (s_v 4) (a_nil))) (a_nil))))) (a_nil))) (al_cons (al_cons (al_nil)))) (a_nil))) (al_cons (al_cons (al_nil)))) (a_cons (q_call D_products_table (by decide) c tk (a_cons (s_v 3) (a_nil)) (al_cons (al_nil))) (a_cons (q_call D_are_rows (by decide) c tk (a_cons (s_v 3) (a_nil)) (al_cons (al_nil))) (a_nil)))))))
    (ss_cons (s_ifS (t_cmp (y_ne c) (s_b (c_repr c) rfl z_repr rfl (a_cons (s_v 7) (a_nil))) (s_b (c_repr c) rfl z_repr rfl (a_cons (s_frz (l_lst (a_cons (s_v 5) (a_cons (s_v 6) (a_cons (s_bl) (a_nil)))))) (a_nil))) rfl) (ss_one (s_ret (s_bl))) (ss_nil))
    (ss_one (s_ret (s_cmp (y_eq c) (q_call D_value_at (by decide) c tk (a_cons (q_call D_products_table (by decide) c tk (a_cons (s_v 3) (a_nil)) (al_cons (al_nil))) (a_cons (s_bT c_tuple rfl z_tuple rfl (a_cons (s_v 4) (a_nil))) (a_nil))) (al_cons (al_cons (al_nil)))) (q_call D_square_sum (by decide) c tk (a_cons (q_call D_mixed (by decide) c tk (a_cons (s_v 3) (a_cons (s_v 4) (a_nil))) (al_cons (al_cons (al_nil)))) (a_nil)) (al_cons (al_nil))) rfl)))))))))
abbrev s_u_law_refused : Stmt := top 45
def b_u_law_refused_1 (FF : Fn) : Sv := sRet (eC .non)
def b_u_law_refused (FF : Fn) : Sv := sSeq (sTry ["LineError", "BadNumber", "BadWeb", "BadTable", "BadRow", "BadRows", "NotKept"] (sExpr (eAct FF 0 aN)) [("BadNumber", hNm 1 (sXR (xTup (xA (xF "what") (xA (xB bRepr (xA (xF "number") (xN))) (xN)))))), ("BadWeb", hNm 1 (sXR (xTup (xA (xC (.str "web")) (xA (xB bRepr (xA (xF "web") (xN))) (xN)))))), ("BadTable", hNm 1 (sXR (xTup (xA (xC (.str "table")) (xA (xB bRepr (xA (xF "table") (xN))) (xN)))))), ("BadRow", hNm 1 (sXR (xTup (xA (xC (.str "row")) (xA (xB bRepr (xA (xF "row") (xN))) (xN)))))), ("BadRows", hNm 1 (sXR (xTup (xA (xC (.str "rows")) (xA (xB bRepr (xA (xF "rows") (xN))) (xN)))))), ("NotKept", hNm 1 (sXR (xTup (xA (xF "promise") (xA (xB bRepr (xA (xF "witness") (xN))) (xN))))))])
    (b_u_law_refused_1 FF)
def d_u_law_refused (FF : Fn) : Fn := fnP 2 (b_u_law_refused FF)
theorem sc_u_law_refused : FnScope ["call", "e"] ["call"] (defScope s_u_law_refused) := ⟨rfl, rfl, rfl, by decide +kernel, rfl, by decide +kernel, by decide +kernel⟩
theorem fn_u_law_refused (F : Fun K "_law_refused" "_law_refused" s_u_law_refused f fd) (z_repr : mg "repr" = none)   (H_NotKept : Hcl K mg "NotKept" ["promise", "witness"]) (H_BadRows : Hcl K mg "BadRows" ["rows"]) (H_BadRow : Hcl K mg "BadRow" ["row"]) (H_BadTable : Hcl K mg "BadTable" ["table"]) (H_BadWeb : Hcl K mg "BadWeb" ["web"]) (H_BadNumber : Hcl K mg "BadNumber" ["what", "number"]) (X_errs : ErrsOk K ["LineError", "BadNumber", "BadWeb", "BadTable", "BadRow", "BadRows", "NotKept"])     :
    HoRun P w K mg base 7 8 f fd ["call"] 0 d_u_law_refused byEntry := by
  refine fn_H (N := ["call", "e"]) F sc_u_law_refused ?_
  rintro J p d T ⟨prog, w2, K2, mg2, base2, A, N, s0, H0, ⟨sc, lo, gl, ce, qu, fu, co, fr, bl⟩, outer, stack, ex, fn, calm, pn, xe⟩ e1 e2 e3 e4 e5 e6 e7 e8 e9 e10 e11 hJ E c tk hp
  dsimp only at e1 e2 e3 e4 e5 e6 e7 e8 e9 e10 e11 hJ
  subst e1 e2 e3 e4 e5 e6 e7 e8 e9 e10 e11
  exact ss_cons (s_try rfl rfl c.nd X_errs tk (fun W2 pn2 xe2 tk hp => have c := c.tr (pn := pn2) (xe := xe2); ss_one (s_expr (s_act0 T pin_at (fun _ _ _ _ I => hJ _ rfl rfl rfl rfl _ _ _ _ I) (by decide) c tk)))
      (c_nm (i := 1) H_BadNumber (by decide) rfl rfl (fun a oe cls d pn C hz hf hc xf hno => xs_ret (x_tup (x_cons (x_fld xf (hno _ (by decide)) hz hf hc rfl) (x_cons (x_b (cx_repr c) rfl z_repr rfl (x_cons (x_fld xf (hno _ (by decide)) hz hf hc rfl) (x_nil))) (x_nil)))))
      (c_nm (i := 1) H_BadWeb (by decide) rfl rfl (fun a oe cls d pn C hz hf hc xf hno => xs_ret (x_tup (x_cons (x_str) (x_cons (x_b (cx_repr c) rfl z_repr rfl (x_cons (x_fld xf (hno _ (by decide)) hz hf hc rfl) (x_nil))) (x_nil)))))
      (c_nm (i := 1) H_BadTable (by decide) rfl rfl (fun a oe cls d pn C hz hf hc xf hno => xs_ret (x_tup (x_cons (x_str) (x_cons (x_b (cx_repr c) rfl z_repr rfl (x_cons (x_fld xf (hno _ (by decide)) hz hf hc rfl) (x_nil))) (x_nil)))))
      (c_nm (i := 1) H_BadRow (by decide) rfl rfl (fun a oe cls d pn C hz hf hc xf hno => xs_ret (x_tup (x_cons (x_str) (x_cons (x_b (cx_repr c) rfl z_repr rfl (x_cons (x_fld xf (hno _ (by decide)) hz hf hc rfl) (x_nil))) (x_nil)))))
      (c_nm (i := 1) H_BadRows (by decide) rfl rfl (fun a oe cls d pn C hz hf hc xf hno => xs_ret (x_tup (x_cons (x_str) (x_cons (x_b (cx_repr c) rfl z_repr rfl (x_cons (x_fld xf (hno _ (by decide)) hz hf hc rfl) (x_nil))) (x_nil)))))
      (c_nm (i := 1) H_NotKept (by decide) rfl rfl (fun a oe cls d pn C hz hf hc xf hno => xs_ret (x_tup (x_cons (x_fld xf (hno _ (by decide)) hz hf hc rfl) (x_cons (x_b (cx_repr c) rfl z_repr rfl (x_cons (x_fld xf (hno _ (by decide)) hz hf hc rfl) (x_nil))) (x_nil)))))
      (.nil))))))))
    (ss_one (s_ret (s_non)))
abbrev s_u_law_errors_right : Stmt := top 49
def b_u_law_errors_right_19 : Sv := sRet (e2 oEq (eV 3) (eV 6))
def b_u_law_errors_right_18 : Sv := sSeq (sAsg (gN 6) (e2 oAdd (eFrz (lMul (lLst (aC (eTup (aC (eC (.str "rows")) (aC (eB bRepr (aC (eV 5) (aN))) (aN)))) (aN))) (eC (.int 2)))) (eFrz (lLst (aC (eTup (aC (eC (.str "row")) (aC (eC (.str "(1, 2)")) (aN)))) (aC (eTup (aC (eC (.str "row")) (aC (eB bRepr (aC (eTup (aC (eV 4) (aN))) (aN))) (aN)))) (aC (eTup (aC (eC (.str "some")) (aC (eC (.str "None")) (aN)))) (aN))))))))
    (b_u_law_errors_right_19)
def b_u_law_errors_right_17 : Sv := sSeq (sApp (eV 3) (eHo d_u_law_refused aN (fnE 0 (eCall d_mixed (aC (eTup (aN)) (aC (eFrz (lLst (aN))) (aN)))) [])))
    (b_u_law_errors_right_18)
def b_u_law_errors_right_16 : Sv := sSeq (sApp (eV 3) (eHo d_u_law_refused aN (fnE 2 (eCall d_mixed (aC (eTup (aC (eV 0) (aN))) (aC (eFrz (lLst (aC (eV 1) (aN)))) (aN)))) [1, 4])))
    (b_u_law_errors_right_17)
def b_u_law_errors_right_15 : Sv := sSeq (sApp (eV 3) (eHo d_u_law_refused aN (fnE 1 (eCall d_mixed (aC (eTup (aC (eV 0) (aN))) (aC (eFrz (lLst (aC (eC (.int 1)) (aC (eC (.int 2)) (aN))))) (aN)))) [1])))
    (b_u_law_errors_right_16)
def b_u_law_errors_right_14 : Sv := sSeq (sApp (eV 3) (eHo d_u_law_refused aN (fnE 1 (eCall d_products_table (aC (eV 0) (aN))) [5])))
    (b_u_law_errors_right_15)
def b_u_law_errors_right_13 : Sv := sSeq (sAsg (gN 3) (eMut (lLst (aC (eHo d_u_law_refused aN (fnE 1 (eCall d_mixed (aC (eV 0) (aC (eC .non) (aN)))) [5])) (aN)))))
    (b_u_law_errors_right_14)
def b_u_law_errors_right_12 : Sv := sSeq (sIf (tB (e2 oIsNot (eCall d_are_rows (aC (eV 5) (aN))) (eC (.bl false)))) (sRet (eC (.bl false))) (sPass))
    (b_u_law_errors_right_13)
def b_u_law_errors_right_11 : Sv := sSeq (sAsg (gN 5) (eCall d_u_law_pick (aC (eV 0) (aC (eFrz (lLst (aC (eC .non) (aC (eFrz (lLst (aC (eV 1) (aN)))) (aC (eTup (aC (eV 1) (aC (e2 oAdd (eV 1) (eTup (aC (eC (.int 1)) (aN)))) (aN)))) (aC (eTup (aC (eV 1) (aC (eC .non) (aN)))) (aC (eTup (aC (eFrz (lB mList (aC (eV 1) (aN)))) (aN))) (aC (eC (.int 3)) (aN))))))))) (aN)))))
    (b_u_law_errors_right_12)
def b_u_law_errors_right_10 : Sv := sSeq (sIf (tB (e2 oNe (eV 3) (e2 oAdd (eFrz (lMul (lLst (aC (eTup (aC (eC (.str "length")) (aC (eC (.str "(3, 4)")) (aN)))) (aN))) (eC (.int 3)))) (eFrz (lLst (aC (eTup (aC (eC (.str "k")) (aC (eB bRepr (aC (eV 4) (aN))) (aN)))) (aN))))))) (sRet (eC (.bl false))) (sPass))
    (b_u_law_errors_right_11)
def b_u_law_errors_right_9 : Sv := sSeq (sApp (eV 3) (eHo d_u_law_refused aN (fnE 2 (eCall d_times_row (aC (eV 0) (aC (eV 1) (aN)))) [1, 4])))
    (b_u_law_errors_right_10)
def b_u_law_errors_right_8 : Sv := sSeq (sAsg (gN 4) (eCall d_u_law_pick (aC (eV 0) (aC (eFrz (lLst (aC (eC .non) (aC (eC (.bl true)) (aC (eC (.str "1")) (aN)))))) (aN)))))
    (b_u_law_errors_right_9)
def b_u_law_errors_right_7 : Sv := sSeq (sAsg (gN 3) (eMut (lComp (iA (eFrz (lLst (aC (eC (.gfn "product_of")) (aC (eC (.gfn "plus")) (aC (eC (.gfn "minus")) (aN))))))) (gN 7) (tYes) (eHo d_u_law_refused aN (fnE 2 (eDisp [("product_of", d_product_of), ("plus", d_plus), ("minus", d_minus)] (eV 0) (aC (eV 1) (aC (e2 oAdd (eV 1) (eTup (aC (eC (.int 1)) (aN)))) (aN)))) [7, 1])) [7])))
    (b_u_law_errors_right_8)
def b_u_law_errors_right_6 : Sv := sSeq (sIf (tB (e2 oNe (eV 3) (eFrz (lMul (lLst (aC (eTup (aC (eC (.str "row")) (aC (eB bRepr (aC (eV 2) (aN))) (aN)))) (aN))) (eC (.int 10)))))) (sRet (eC (.bl false))) (sPass))
    (b_u_law_errors_right_7)
def b_u_law_errors_right_5 : Sv := sSeq (sAsg (gN 3) (e2 oAdd (eV 3) (eFrz (lComp (iA (eFrz (lLst (aC (eC (.gfn "product_of")) (aC (eC (.gfn "plus")) (aC (eC (.gfn "minus")) (aN))))))) (gN 7) (tYes) (eHo d_u_law_refused aN (fnE 3 (eDisp [("product_of", d_product_of), ("plus", d_plus), ("minus", d_minus)] (eV 0) (aC (eV 1) (aC (eV 2) (aN)))) [7, 1, 2])) [7]))))
    (b_u_law_errors_right_6)
def b_u_law_errors_right_4 : Sv := sSeq (sAsg (gN 3) (e2 oAdd (eV 3) (eFrz (lComp (iA (eFrz (lLst (aC (eC (.gfn "product_of")) (aC (eC (.gfn "plus")) (aC (eC (.gfn "minus")) (aC (eC (.gfn "times_row")) (aN)))))))) (gN 7) (tYes) (eHo d_u_law_refused aN (fnE 2 (eDisp [("product_of", d_product_of), ("plus", d_plus), ("minus", d_minus), ("times_row", d_times_row)] (eV 0) (aC (eV 1) (aC (eC .non) (aN)))) [7, 2])) [7]))))
    (b_u_law_errors_right_5)
def b_u_law_errors_right_3 : Sv := sSeq (sAsg (gN 3) (eMut (lComp (iA (eFrz (lLst (aC (eC (.gfn "square_sum")) (aC (eC (.gfn "content")) (aC (eC (.gfn "plain")) (aN))))))) (gN 7) (tYes) (eHo d_u_law_refused aN (fnE 2 (eDisp [("square_sum", d_square_sum), ("content", d_content), ("plain", d_plain)] (eV 0) (aC (eV 1) (aN))) [7, 2])) [7])))
    (b_u_law_errors_right_4)
def b_u_law_errors_right_2 : Sv := sSeq (sIf (tB (e2 oIsNot (eCall d_is_row (aC (eV 2) (aN))) (eC (.bl false)))) (sRet (eC (.bl false))) (sPass))
    (b_u_law_errors_right_3)
def b_u_law_errors_right_1 : Sv := sSeq (sAsg (gN 2) (eCall d_u_law_pick (aC (eV 0) (aC (eFrz (lLst (aC (eC .non) (aC (eFrz (lB mList (aC (eV 1) (aN)))) (aC (e2 oAdd (eV 1) (eTup (aC (eC (.bl true)) (aN)))) (aC (e2 oAdd (eV 1) (eTup (aC (eC .non) (aN)))) (aC (eC (.int 3)) (aC (eC (.str "12")) (aN))))))))) (aN)))))
    (b_u_law_errors_right_2)
def b_u_law_errors_right : Sv := sSeq (sAsg (gN 1) (eB bTuple (aC (eFrz (lComp (iR1 (aC (eC (.int 3)) (aN))) (gN 8) (tYes) (eCall d_u_law_draw (aC (eV 0) (aC (eC (.int 5)) (aN)))) [8])) (aN))))
    (b_u_law_errors_right_1)
def d_u_law_errors_right : Fn := fnP 9 b_u_law_errors_right
theorem sc_u_law_errors_right : FnScope ["pen", "row", "odd", "found", "bad", "wrong", "due", "call", "k"] ["pen"] (defScope s_u_law_errors_right) := ⟨rfl, rfl, rfl, by decide +kernel, rfl, by decide +kernel, by decide +kernel⟩
theorem fn_u_law_errors_right (F : Fun K "_law_errors_right" "_law_errors_right" s_u_law_errors_right f fd) (z_range : mg "range" = none) (z_tuple : mg "tuple" = none) (z_list : mg "list" = none) (z_repr : mg "repr" = none)      (D_u_law_draw : Def P w K mg base 1 "_law_draw" ["pen", "many"] (spP K noCl 2 d_u_law_draw)) (D_u_law_pick : Def P w K mg base 2 "_law_pick" ["pen", "some"] (spP K noCl 2 d_u_law_pick)) (D_is_row : Def P w K mg base 3 "is_row" ["value"] (spP K noCl 1 d_is_row)) (D_u_law_refused : HoE P w K mg base 7 8 "_law_refused" ["call"] 0 d_u_law_refused) (D_plain : Def P w K mg base 5 "plain" ["row"] (spP K noCl 1 d_plain)) (D_content : Def P w K mg base 5 "content" ["row"] (spP K noCl 1 d_content)) (D_square_sum : Def P w K mg base 5 "square_sum" ["row"] (spP K noCl 1 d_square_sum)) (D_times_row : Def P w K mg base 5 "times_row" ["row", "k"] (spP K noCl 2 d_times_row)) (D_minus : Def P w K mg base 6 "minus" ["one", "two"] (spP K noCl 2 d_minus)) (D_plus : Def P w K mg base 6 "plus" ["one", "two"] (spP K noCl 2 d_plus)) (D_product_of : Def P w K mg base 6 "product_of" ["one", "two"] (spP K noCl 2 d_product_of)) (D_are_rows : Def P w K mg base 4 "are_rows" ["value"] (spP K noCl 1 d_are_rows)) (D_mixed : Def P w K mg base 6 "mixed" ["rows", "weights"] (spP K noCl 2 d_mixed)) (D_products_table : Def P w K mg base 6 "products_table" ["rows"] (spP K noCl 1 d_products_table)) (GF_plain : GFn K mg "plain") (GF_content : GFn K mg "content") (GF_square_sum : GFn K mg "square_sum") (GF_times_row : GFn K mg "times_row") (GF_minus : GFn K mg "minus") (GF_plus : GFn K mg "plus") (GF_product_of : GFn K mg "product_of") (u : lamB K = true) (tb : TBs K base mg) (aN : PySem.W.nsIn K mainGlobals "_law_errors_right" = some (some (.ref f))) :
    FnG P w K mg base 9 f fd ["pen"] (spP K noCl 1 d_u_law_errors_right) := by
  refine fn_PL (N := ["pen", "row", "odd", "found", "bad", "wrong", "due", "call", "k"]) u tb F aN (by decide +kernel) sc_u_law_errors_right ?_
  rintro ⟨prog, w2, K2, mg2, base2, A, N, s0, H0, ⟨sc, lo, gl, ce, qu, fu, co, fr, bl⟩, outer, stack, ex, fn, calm, pn, xe⟩ e1 e2 e3 e4 e5 e6 e7 e8 e9 e10 E c tk hp lc
  dsimp only at e1 e2 e3 e4 e5 e6 e7 e8 e9 e10
  subst e1 e2 e3 e4 e5 e6 e7 e8 e9 e10
  exact ss_cons (s_set (j := 1) c.nd (s_bT c_tuple rfl z_tuple rfl (a_cons (s_frz (l_comp c (i_r1 rfl z_range (a_cons (s_int) (a_nil))) (own := [("k", 8)]) (blkOk_by rfl) (by decide) (fun s H C cc fp => g_n 8 (c.blk).nd) (fun s H C cc fp => ts_nil) (fun s H C cc fp => q_call D_u_law_draw (by decide) (c.blk) takes0 (a_cons (s_v 0) (a_cons (s_int) (a_nil))) (al_cons (al_cons (al_nil)))))) (a_nil))))
    (ss_cons (s_set (j := 2) c.nd (q_call D_u_law_pick (by decide) c tk (a_cons (s_v 0) (a_cons (s_frz (l_lst (a_cons (s_non) (a_cons (s_frz (l_bT c_list rfl z_list rfl (a_cons (s_v 1) (a_nil)))) (a_cons (s_op y_add (s_v 1) (s_tup (a_cons (s_bl) (a_nil)))) (a_cons (s_op y_add (s_v 1) (s_tup (a_cons (s_non) (a_nil)))) (a_cons (s_int) (a_cons (s_str) (a_nil))))))))) (a_nil))) (al_cons (al_cons (al_nil)))))
    (ss_cons (s_ifS (t_cmp y_isNot (q_call D_is_row (by decide) c tk (a_cons (s_v 2) (a_nil)) (al_cons (al_nil))) (s_bl) rfl) (ss_one (s_ret (s_bl))) (ss_nil))
    (ss_cons (s_setCompM (i := 3) c rfl rfl rfl (i_any (s_frz (l_lst (a_cons (s_gfx GF_square_sum) (a_cons (s_gfx GF_content) (a_cons (s_gfx GF_plain) (a_nil))))))) (own := [("call", 7)]) (blkOk_by rfl) (by decide) (fun s H C cc fp => g_n 7 (c.blk).nd) (fun s H C cc fp => ts_nil) (fun s H C cc fp => s_hoE (m := 6) (N := ["call", "odd"]) (ps := []) (fr := ["call", "odd"]) (js := [7, 2]) D_u_law_refused (by decide) (lc.blk) (lamOk_by (N := ["call", "odd"]) (ps := []) (fr := ["call", "odd"]) (js := [7, 2]) rfl (fun _ _ _ _ _ us hl => match us, hl with | [], _ => rfl)) (c.blk) takes0 (by rintro ⟨prog, w2, K2, mg2, base2, A, N, s0, H0, ⟨sc, lo, gl, ce, qu, fu, co, fr, bl⟩, outer, stack, ex, fn, calm, pn, xe⟩ e1 e2 e3 e4 e5 e6 e7 e8 e9 e10 E c tk hp; dsimp only [Cx.blk] at e1 e2 e3 e4 e5 e6 e7 e8 e9 e10; subst e1 e2 e3 e4 e5 e6 e7 e8 e9 e10; exact s_disp (j := 5) (.cons D_square_sum (by decide) (.cons D_content (by decide) (.cons D_plain (by decide) (.nil)))) (by decide) c tk (a_cons (s_v 1) (a_nil)) (al_cons (al_nil)))))
    (ss_cons (s_set (j := 3) c.nd (s_op y_add (s_v 3) (s_frz (l_comp c (i_any (s_frz (l_lst (a_cons (s_gfx GF_product_of) (a_cons (s_gfx GF_plus) (a_cons (s_gfx GF_minus) (a_cons (s_gfx GF_times_row) (a_nil)))))))) (own := [("call", 7)]) (blkOk_by rfl) (by decide) (fun s H C cc fp => g_n 7 (c.blk).nd) (fun s H C cc fp => ts_nil) (fun s H C cc fp => s_hoE (m := 6) (N := ["call", "odd"]) (ps := []) (fr := ["call", "odd"]) (js := [7, 2]) D_u_law_refused (by decide) (lc.blk) (lamOk_by (N := ["call", "odd"]) (ps := []) (fr := ["call", "odd"]) (js := [7, 2]) rfl (fun _ _ _ _ _ us hl => match us, hl with | [], _ => rfl)) (c.blk) takes0 (by rintro ⟨prog, w2, K2, mg2, base2, A, N, s0, H0, ⟨sc, lo, gl, ce, qu, fu, co, fr, bl⟩, outer, stack, ex, fn, calm, pn, xe⟩ e1 e2 e3 e4 e5 e6 e7 e8 e9 e10 E c tk hp; dsimp only [Cx.blk] at e1 e2 e3 e4 e5 e6 e7 e8 e9 e10; subst e1 e2 e3 e4 e5 e6 e7 e8 e9 e10; exact s_disp (j := 6) (.cons D_product_of (by decide) (.cons D_plus (by decide) (.cons D_minus (by decide) (.cons D_times_row (by decide) (.nil))))) (by decide) c tk (a_cons (s_v 1) (a_cons (s_non) (a_nil))) (al_cons (al_cons (al_nil)))))))))
    (ss_cons (s_set (j := 3) c.nd (s_op y_add (s_v 3) (s_frz (l_comp c (i_any (s_frz (l_lst (a_cons (s_gfx GF_product_of) (a_cons (s_gfx GF_plus) (a_cons (s_gfx GF_minus) (a_nil))))))) (own := [("call", 7)]) (blkOk_by rfl) (by decide) (fun s H C cc fp => g_n 7 (c.blk).nd) (fun s H C cc fp => ts_nil) (fun s H C cc fp => s_hoE (m := 6) (N := ["call", "row", "odd"]) (ps := []) (fr := ["call", "row", "odd"]) (js := [7, 1, 2]) D_u_law_refused (by decide) (lc.blk) (lamOk_by (N := ["call", "row", "odd"]) (ps := []) (fr := ["call", "row", "odd"]) (js := [7, 1, 2]) rfl (fun _ _ _ _ _ us hl => match us, hl with | [], _ => rfl)) (c.blk) takes0 (by rintro ⟨prog, w2, K2, mg2, base2, A, N, s0, H0, ⟨sc, lo, gl, ce, qu, fu, co, fr, bl⟩, outer, stack, ex, fn, calm, pn, xe⟩ e1 e2 e3 e4 e5 e6 e7 e8 e9 e10 E c tk hp; dsimp only [Cx.blk] at e1 e2 e3 e4 e5 e6 e7 e8 e9 e10; subst e1 e2 e3 e4 e5 e6 e7 e8 e9 e10; exact s_disp (j := 6) (.cons D_product_of (by decide) (.cons D_plus (by decide) (.cons D_minus (by decide) (.nil)))) (by decide) c tk (a_cons (s_v 1) (a_cons (s_v 2) (a_nil))) (al_cons (al_cons (al_nil)))))))))
    (ss_cons (s_ifS (t_cmp (y_ne c) (s_v 3) (s_frz (l_mul (l_lst (a_cons (s_tup (a_cons (s_str) (a_cons (s_b (c_repr c) rfl z_repr rfl (a_cons (s_v 2) (a_nil))) (a_nil)))) (a_nil))) (s_int))) rfl) (ss_one (s_ret (s_bl))) (ss_nil))
    (ss_cons (s_setCompM (i := 3) c rfl rfl rfl (i_any (s_frz (l_lst (a_cons (s_gfx GF_product_of) (a_cons (s_gfx GF_plus) (a_cons (s_gfx GF_minus) (a_nil))))))) (own := [("call", 7)]) (blkOk_by rfl) (by decide) (fun s H C cc fp => g_n 7 (c.blk).nd) (fun s H C cc fp => ts_nil) (fun s H C cc fp => s_hoE (m := 6) (N := ["call", "row"]) (ps := []) (fr := ["call", "row"]) (js := [7, 1]) D_u_law_refused (by decide) (lc.blk) (lamOk_by (N := ["call", "row"]) (ps := []) (fr := ["call", "row"]) (js := [7, 1]) rfl (fun _ _ _ _ _ us hl => match us, hl with | [], _ => rfl)) (c.blk) takes0 (by rintro ⟨prog, w2, K2, mg2, base2, A, N, s0, H0, ⟨sc, lo, gl, ce, qu, fu, co, fr, bl⟩, outer, stack, ex, fn, calm, pn, xe⟩ e1 e2 e3 e4 e5 e6 e7 e8 e9 e10 E c tk hp; dsimp only [Cx.blk] at e1 e2 e3 e4 e5 e6 e7 e8 e9 e10; subst e1 e2 e3 e4 e5 e6 e7 e8 e9 e10; exact s_disp (j := 6) (.cons D_product_of (by decide) (.cons D_plus (by decide) (.cons D_minus (by decide) (.nil)))) (by decide) c tk (a_cons (s_v 1) (a_cons (s_op y_add (s_v 1) (s_tup (a_cons (s_int) (a_nil)))) (a_nil))) (al_cons (al_cons (al_nil))))))
    (ss_cons (s_set (j := 4) c.nd (q_call D_u_law_pick (by decide) c tk (a_cons (s_v 0) (a_cons (s_frz (l_lst (a_cons (s_non) (a_cons (s_bl) (a_cons (s_str) (a_nil)))))) (a_nil))) (al_cons (al_cons (al_nil)))))
    (ss_cons (s_app (s_v 3) (s_hoE (m := 6) (N := ["row", "bad"]) (ps := []) (fr := ["row", "bad"]) (js := [1, 4]) D_u_law_refused (by decide) lc (lamOk_by (N := ["row", "bad"]) (ps := []) (fr := ["row", "bad"]) (js := [1, 4]) rfl (fun _ _ _ _ _ us hl => match us, hl with | [], _ => rfl)) c tk (by rintro ⟨prog, w2, K2, mg2, base2, A, N, s0, H0, ⟨sc, lo, gl, ce, qu, fu, co, fr, bl⟩, outer, stack, ex, fn, calm, pn, xe⟩ e1 e2 e3 e4 e5 e6 e7 e8 e9 e10 E c tk hp; dsimp only [Cx.blk] at e1 e2 e3 e4 e5 e6 e7 e8 e9 e10; subst e1 e2 e3 e4 e5 e6 e7 e8 e9 e10; exact q_call D_times_row (by decide) c tk (a_cons (s_v 0) (a_cons (s_v 1) (a_nil))) (al_cons (al_cons (al_nil))))) (fun h1 h2 => pe_bm PySem.F.plainAttrs_list PySem.F.slot_list_append PySem.F.type_list_append mt_append h1 h2))
    (ss_cons (s_ifS (t_cmp (y_ne c) (s_v 3) (s_op y_add (s_frz (l_mul (l_lst (a_cons (s_tup (a_cons (s_str) (a_cons (s_str) (a_nil)))) (a_nil))) (s_int))) (s_frz (l_lst (a_cons (s_tup (a_cons (s_str) (a_cons (s_b (c_repr c) rfl z_repr rfl (a_cons (s_v 4) (a_nil))) (a_nil)))) (a_nil))))) rfl) (ss_one (s_ret (s_bl))) (ss_nil))
    (ss_cons (s_set (j := 5) c.nd (q_call D_u_law_pick (by decide) c tk (a_cons (s_v 0) (a_cons (s_frz (l_lst (a_cons (s_non) (a_cons (s_frz (l_lst (a_cons (s_v 1) (a_nil)))) (a_cons (s_tup (a_cons (s_v 1) (a_cons (s_op y_add (s_v 1) (s_tup (a_cons (s_int) (a_nil)))) (a_nil)))) (a_cons (s_tup (a_cons (s_v 1) (a_cons (s_non) (a_nil)))) (a_cons (s_tup (a_cons (s_frz (l_bT c_list rfl z_list rfl (a_cons (s_v 1) (a_nil)))) (a_nil))) (a_cons (s_int) (a_nil))))))))) (a_nil))) (al_cons (al_cons (al_nil)))))
    (ss_cons (s_ifS (t_cmp y_isNot (q_call D_are_rows (by decide) c tk (a_cons (s_v 5) (a_nil)) (al_cons (al_nil))) (s_bl) rfl) (ss_one (s_ret (s_bl))) (ss_nil))
    (ss_cons (s_set (j := 3) c.nd (s_mut (l_lst (a_cons (s_hoE (m := 6) (N := ["wrong"]) (ps := []) (fr := ["wrong"]) (js := [5]) D_u_law_refused (by decide) lc (lamOk_by (N := ["wrong"]) (ps := []) (fr := ["wrong"]) (js := [5]) rfl (fun _ _ _ _ _ us hl => match us, hl with | [], _ => rfl)) c tk (by rintro ⟨prog, w2, K2, mg2, base2, A, N, s0, H0, ⟨sc, lo, gl, ce, qu, fu, co, fr, bl⟩, outer, stack, ex, fn, calm, pn, xe⟩ e1 e2 e3 e4 e5 e6 e7 e8 e9 e10 E c tk hp; dsimp only [Cx.blk] at e1 e2 e3 e4 e5 e6 e7 e8 e9 e10; subst e1 e2 e3 e4 e5 e6 e7 e8 e9 e10; exact q_call D_mixed (by decide) c tk (a_cons (s_v 0) (a_cons (s_non) (a_nil))) (al_cons (al_cons (al_nil))))) (a_nil)))))
    (ss_cons (s_app (s_v 3) (s_hoE (m := 6) (N := ["wrong"]) (ps := []) (fr := ["wrong"]) (js := [5]) D_u_law_refused (by decide) lc (lamOk_by (N := ["wrong"]) (ps := []) (fr := ["wrong"]) (js := [5]) rfl (fun _ _ _ _ _ us hl => match us, hl with | [], _ => rfl)) c tk (by rintro ⟨prog, w2, K2, mg2, base2, A, N, s0, H0, ⟨sc, lo, gl, ce, qu, fu, co, fr, bl⟩, outer, stack, ex, fn, calm, pn, xe⟩ e1 e2 e3 e4 e5 e6 e7 e8 e9 e10 E c tk hp; dsimp only [Cx.blk] at e1 e2 e3 e4 e5 e6 e7 e8 e9 e10; subst e1 e2 e3 e4 e5 e6 e7 e8 e9 e10; exact q_call D_products_table (by decide) c tk (a_cons (s_v 0) (a_nil)) (al_cons (al_nil)))) (fun h1 h2 => pe_bm PySem.F.plainAttrs_list PySem.F.slot_list_append PySem.F.type_list_append mt_append h1 h2))
    (ss_cons (s_app (s_v 3) (s_hoE (m := 6) (N := ["row"]) (ps := []) (fr := ["row"]) (js := [1]) D_u_law_refused (by decide) lc (lamOk_by (N := ["row"]) (ps := []) (fr := ["row"]) (js := [1]) rfl (fun _ _ _ _ _ us hl => match us, hl with | [], _ => rfl)) c tk (by rintro ⟨prog, w2, K2, mg2, base2, A, N, s0, H0, ⟨sc, lo, gl, ce, qu, fu, co, fr, bl⟩, outer, stack, ex, fn, calm, pn, xe⟩ e1 e2 e3 e4 e5 e6 e7 e8 e9 e10 E c tk hp; dsimp only [Cx.blk] at e1 e2 e3 e4 e5 e6 e7 e8 e9 e10; subst e1 e2 e3 e4 e5 e6 e7 e8 e9 e10; exact q_call D_mixed (by decide) c tk (a_cons (s_tup (a_cons (s_v 0) (a_nil))) (a_cons (s_frz (l_lst (a_cons (s_int) (a_cons (s_int) (a_nil))))) (a_nil))) (al_cons (al_cons (al_nil))))) (fun h1 h2 => pe_bm PySem.F.plainAttrs_list PySem.F.slot_list_append PySem.F.type_list_append mt_append h1 h2))
    (ss_cons (s_app (s_v 3) (s_hoE (m := 6) (N := ["row", "bad"]) (ps := []) (fr := ["row", "bad"]) (js := [1, 4]) D_u_law_refused (by decide) lc (lamOk_by (N := ["row", "bad"]) (ps := []) (fr := ["row", "bad"]) (js := [1, 4]) rfl (fun _ _ _ _ _ us hl => match us, hl with | [], _ => rfl)) c tk (by rintro ⟨prog, w2, K2, mg2, base2, A, N, s0, H0, ⟨sc, lo, gl, ce, qu, fu, co, fr, bl⟩, outer, stack, ex, fn, calm, pn, xe⟩ e1 e2 e3 e4 e5 e6 e7 e8 e9 e10 E c tk hp; dsimp only [Cx.blk] at e1 e2 e3 e4 e5 e6 e7 e8 e9 e10; subst e1 e2 e3 e4 e5 e6 e7 e8 e9 e10; exact q_call D_mixed (by decide) c tk (a_cons (s_tup (a_cons (s_v 0) (a_nil))) (a_cons (s_frz (l_lst (a_cons (s_v 1) (a_nil)))) (a_nil))) (al_cons (al_cons (al_nil))))) (fun h1 h2 => pe_bm PySem.F.plainAttrs_list PySem.F.slot_list_append PySem.F.type_list_append mt_append h1 h2))
    (ss_cons (s_app (s_v 3) (s_hoE (m := 6) (N := []) (ps := []) (fr := []) (js := []) D_u_law_refused (by decide) lc (lamOk_by (N := []) (ps := []) (fr := []) (js := []) rfl (fun _ _ _ _ _ us hl => match us, hl with | [], _ => rfl)) c tk (by rintro ⟨prog, w2, K2, mg2, base2, A, N, s0, H0, ⟨sc, lo, gl, ce, qu, fu, co, fr, bl⟩, outer, stack, ex, fn, calm, pn, xe⟩ e1 e2 e3 e4 e5 e6 e7 e8 e9 e10 E c tk hp; dsimp only [Cx.blk] at e1 e2 e3 e4 e5 e6 e7 e8 e9 e10; subst e1 e2 e3 e4 e5 e6 e7 e8 e9 e10; exact q_call D_mixed (by decide) c tk (a_cons (s_tup (a_nil)) (a_cons (s_frz (l_lst (a_nil))) (a_nil))) (al_cons (al_cons (al_nil))))) (fun h1 h2 => pe_bm PySem.F.plainAttrs_list PySem.F.slot_list_append PySem.F.type_list_append mt_append h1 h2))
    (ss_cons (s_set (j := 6) c.nd (s_op y_add (s_frz (l_mul (l_lst (a_cons (s_tup (a_cons (s_str) (a_cons (s_b (c_repr c) rfl z_repr rfl (a_cons (s_v 5) (a_nil))) (a_nil)))) (a_nil))) (s_int))) (s_frz (l_lst (a_cons (s_tup (a_cons (s_str) (a_cons (s_str) (a_nil)))) (a_cons (s_tup (a_cons (s_str) (a_cons (s_b (c_repr c) rfl z_repr rfl (a_cons (s_tup (a_cons (s_v 4) (a_nil))) (a_nil))) (a_nil)))) (a_cons (s_tup (a_cons (s_str) (a_cons (s_str) (a_nil)))) (a_nil))))))))
    (ss_one (s_ret (s_cmp (y_eq c) (s_v 3) (s_v 6) rfl)))))))))))))))))))))
abbrev s_law : Stmt := top 50
def b_law_l1 : Sv := sIf (tOr (tNot (tT (eCall d_u_law_right (aC (eV 1) (aN))))) (tOr (tNot (tT (eCall d_u_law_mixed_right (aC (eV 1) (aN))))) (tNot (tT (eCall d_u_law_errors_right (aC (eV 1) (aN))))))) (sRet (eC (.bl false))) (sPass)
def b_law_2 : Sv := sRet (eC (.bl true))
def b_law_1 : Sv := sSeq (sFor (iR1 (aC (eC (.int 4)) (aN))) (gN 2) (b_law_l1))
    (b_law_2)
def b_law : Sv := sSeq (sAsg (gN 1) (eCall d_u_law_pen (aC (eV 0) (aN))))
    (b_law_1)
def d_law : Fn := fnP 3 b_law
theorem sc_law : FnScope ["script", "pen", "lap"] ["script"] (defScope s_law) := ⟨rfl, rfl, rfl, by decide +kernel, rfl, by decide +kernel, by decide +kernel⟩
theorem fn_law (F : Fun K "law" "law" s_law f fd) (z_range : mg "range" = none)      (D_u_law_pen : Def P w K mg base 1 "_law_pen" ["script"] (spP K noCl 1 d_u_law_pen)) (D_u_law_right : Def P w K mg base 7 "_law_right" ["pen"] (spP K noCl 1 d_u_law_right)) (D_u_law_mixed_right : Def P w K mg base 7 "_law_mixed_right" ["pen"] (spP K noCl 1 d_u_law_mixed_right)) (D_u_law_errors_right : Def P w K mg base 9 "_law_errors_right" ["pen"] (spP K noCl 1 d_u_law_errors_right))   :
    FnG P w K mg base 10 f fd ["script"] (spP K noCl 1 d_law) := by
  refine fn_P (N := ["script", "pen", "lap"]) F sc_law ?_
  rintro ⟨prog, w2, K2, mg2, base2, A, N, s0, H0, ⟨sc, lo, gl, ce, qu, fu, co, fr, bl⟩, outer, stack, ex, fn, calm, pn, xe⟩ e1 e2 e3 e4 e5 e6 e7 e8 e9 e10 E c tk hp
  dsimp only at e1 e2 e3 e4 e5 e6 e7 e8 e9 e10
  subst e1 e2 e3 e4 e5 e6 e7 e8 e9 e10
  exact ss_cons (s_set (j := 1) c.nd (q_call D_u_law_pen (by decide) c tk (a_cons (s_v 0) (a_nil)) (al_cons (al_nil))))
    (ss_cons (s_for hp c.calm (i_r1 rfl z_range (a_cons (s_int) (a_nil))) (g_n 2 c.nd) (ss_one (s_ifS (t_w (w_or (t_not (t_tr (q_call D_u_law_right (by decide) c tk (a_cons (s_v 1) (a_nil)) (al_cons (al_nil))))) (w_or (t_not (t_tr (q_call D_u_law_mixed_right (by decide) c tk (a_cons (s_v 1) (a_nil)) (al_cons (al_nil))))) (w_or1 (t_not (t_tr (q_call D_u_law_errors_right (by decide) c tk (a_cons (s_v 1) (a_nil)) (al_cons (al_nil))))))))) (ss_one (s_ret (s_bl))) (ss_nil))))
    (ss_one (s_ret (s_bl))))
end
end K06
end

section
set_option Elab.async false
set_option linter.all false
set_option maxRecDepth 100000
/-! L: the bodies of the defs, law-free. -/
namespace L06
open PySem Y
def b_u_law_pen_l1 : Sv := sAsg (gN 1) (e2 oMod (eB bInt (aC (e2 oAdd (e2 oMul (eV 1) (eC (.int 137))) (eV 2)) (aN))) (eC (.int 1000000033)))
def b_u_law_pen_2 : Sv := sRet (eDct (pC (eC (.str "cells")) (eFrz (lB mList (aC (eV 0) (aN)))) (pC (eC (.str "at")) (eC (.int 0)) (pC (eC (.str "digits")) (eC (.int 0)) (pC (eC (.str "count")) (eC (.int 0)) (pC (eC (.str "fold")) (eV 1) (pN)))))))
def b_u_law_pen_1 : Sv := sSeq (sFor (iA (eV 0)) (gN 2) (b_u_law_pen_l1))
    (b_u_law_pen_2)
def b_u_law_pen : Sv := sSeq (sAsg (gN 1) (eC (.int 0)))
    (b_u_law_pen_1)
def d_u_law_pen : Fn := fnK 3 b_u_law_pen
def b_u_law_gcd_l2_1 : Sv := sPar 3 4 (aC (eV 4) (aC (e2 oMod (eB bInt (aC (eV 3) (aN))) (eV 4)) aN))
def b_u_law_gcd_l2 : Sv := sSeq (sIf (tB (e2 oEq (eV 4) (eC (.int 0)))) (sBk) (sPass))
    (b_u_law_gcd_l2_1)
def b_u_law_gcd_l1_2 : Sv := sAsg (gN 1) (eV 3)
def b_u_law_gcd_l1_1 : Sv := sSeq (sFor (iR1 (aC (eC (.int 400)) (aN))) (gN 5) (b_u_law_gcd_l2))
    (b_u_law_gcd_l1_2)
def b_u_law_gcd_l1 : Sv := sSeq (sPar 3 4 (aC (eB bAbs (aC (eV 2) (aN))) (aC (eV 1) aN)))
    (b_u_law_gcd_l1_1)
def b_u_law_gcd_2 : Sv := sRet (eV 1)
def b_u_law_gcd_1 : Sv := sSeq (sFor (iA (eV 0)) (gN 2) (b_u_law_gcd_l1))
    (b_u_law_gcd_2)
def b_u_law_gcd : Sv := sSeq (sAsg (gN 1) (eC (.int 0)))
    (b_u_law_gcd_1)
def d_u_law_gcd : Fn := fnP 6 b_u_law_gcd
def b_u_law_draw_4 : Sv := sRet (e2 oMod (e2 oDiv (eB bInt (aC (e2 oMod (e2 oPow (eV 4) (eC (.int 23))) (eC (.int 2305843009213693951))) (aN))) (eC (.int 128))) (eV 1))
def b_u_law_draw_3 : Sv := sSeq (sAsg (gN 4) (e2 oAdd (e2 oAdd (e2 oIx (eV 0) (eC (.str "fold"))) (e2 oMul (e2 oIx (eV 0) (eC (.str "count"))) (eC (.int 9311)))) (eC (.int 137))))
    (b_u_law_draw_4)
def b_u_law_draw_2 : Sv := sSeq (sIf (tB (e2 oGt (e2 oIx (eV 0) (eC (.str "digits"))) (eC (.int 0)))) (sSeq (sAsg (gN 3) (e2 oMod (eB bInt (aC (e2 oIx (eV 0) (eC (.str "digits"))) (aN))) (eV 1)))
    (sSeq (sStore (eV 0) (eC (.str "digits")) (e2 oDiv (e2 oIx (eV 0) (eC (.str "digits"))) (eV 1)))
    (sRet (eV 3)))) (sPass))
    (b_u_law_draw_3)
def b_u_law_draw_1 : Sv := sSeq (sIf (tAnd (tB (e2 oEq (e2 oIx (eV 0) (eC (.str "digits"))) (eC (.int 0)))) (tB (e2 oLt (e2 oIx (eV 0) (eC (.str "at"))) (eB bLen (aC (e2 oIx (eV 0) (eC (.str "cells"))) (aN)))))) (sSeq (sAsg (gN 2) (e2 oIx (e2 oIx (eV 0) (eC (.str "cells"))) (e2 oIx (eV 0) (eC (.str "at")))))
    (sSeq (sStore (eV 0) (eC (.str "at")) (e2 oAdd (e2 oIx (eV 0) (eC (.str "at"))) (eC (.int 1))))
    (sIf (tB (e2 oGe (eV 2) (e2 oPow (eC (.int 10)) (eC (.int 18))))) (sStore (eV 0) (eC (.str "digits")) (e2 oSub (eV 2) (e2 oPow (eC (.int 10)) (eC (.int 18))))) (sStore (eV 0) (eC (.str "fold")) (e2 oMod (eB bInt (aC (e2 oAdd (e2 oMul (e2 oIx (eV 0) (eC (.str "fold"))) (eC (.int 73327))) (eV 2)) (aN))) (eC (.int 2147483543))))))) (sPass))
    (b_u_law_draw_2)
def b_u_law_draw : Sv := sSeq (sStore (eV 0) (eC (.str "count")) (e2 oAdd (e2 oIx (eV 0) (eC (.str "count"))) (eC (.int 1))))
    (b_u_law_draw_1)
def d_u_law_draw : Fn := fnP 5 b_u_law_draw
def b_u_law_pick : Sv := sRet (e2 oIx (eV 1) (eCall d_u_law_draw (aC (eV 0) (aC (eB bLen (aC (eV 1) (aN))) (aN)))))
def d_u_law_pick : Fn := fnP 2 b_u_law_pick
def b_is_whole : Sv := sRet (eAnd (eIs Ty.int (eV 0)) (e1 uNot (eIs Ty.bool (eV 0))))
def d_is_whole : Fn := fnP 1 b_is_whole
def b_is_row_of : Sv := sRet (eAnd (eIs Ty.tuple (eV 0)) (eAnd (e2 oEq (eB bLen (aC (eV 0) (aN))) (eV 1)) (eB bAll (aC (eFrz (lComp (iA (eV 0)) (gN 2) (tYes) (eCall d_is_whole (aC (eV 2) (aN))) [2])) (aN)))))
def d_is_row_of : Fn := fnP 3 b_is_row_of
def b_is_row : Sv := sRet (eAnd (eIs Ty.tuple (eV 0)) (eCall d_is_row_of (aC (eV 0) (aC (eB bLen (aC (eV 0) (aN))) (aN)))))
def d_is_row : Fn := fnP 1 b_is_row
def b_need_row : Sv := sIf (tNot (tT (eCall d_is_row (aC (eV 0) (aN))))) (sRaise "BadRow" ["row"] (aC (eV 0) (aN))) (sPass)
def d_need_row : Fn := fnP 1 b_need_row
def b_need_two_rows_2 : Sv := sIf (tB (e2 oNe (eB bLen (aC (eV 0) (aN))) (eB bLen (aC (eV 1) (aN))))) (sRaise "NotKept" ["promise", "witness"] (aC (eC (.str "length")) (aC (eTup (aC (eB bLen (aC (eV 0) (aN))) (aC (eB bLen (aC (eV 1) (aN))) (aN)))) (aN)))) (sPass)
def b_need_two_rows_1 : Sv := sSeq (sExpr (eCall d_need_row (aC (eV 1) (aN))))
    (b_need_two_rows_2)
def b_need_two_rows : Sv := sSeq (sExpr (eCall d_need_row (aC (eV 0) (aN))))
    (b_need_two_rows_1)
def d_need_two_rows : Fn := fnP 2 b_need_two_rows
def b_dot : Sv := sRet (eB bSum (aC (eFrz (lComp (iZipD (aC (eV 0) (aC (eV 1) (aN)))) (gT [gN 2, gN 3]) (tYes) (e2 oMul (eV 2) (eV 3)) [2, 3])) (aN)))
def d_dot : Fn := fnP 4 b_dot
def b_product_of_1 : Sv := sRet (eCall d_dot (aC (eV 0) (aC (eV 1) (aN))))
def b_product_of : Sv := sSeq (sExpr (eCall d_need_two_rows (aC (eV 0) (aC (eV 1) (aN)))))
    (b_product_of_1)
def d_product_of : Fn := fnP 2 b_product_of
def b_square_sum_1 : Sv := sRet (eCall d_dot (aC (eV 0) (aC (eV 0) (aN))))
def b_square_sum : Sv := sSeq (sExpr (eCall d_need_row (aC (eV 0) (aN))))
    (b_square_sum_1)
def d_square_sum : Fn := fnP 1 b_square_sum
def b_plus_in : Sv := sRet (eB bTuple (aC (eFrz (lComp (iZipD (aC (eV 0) (aC (eV 1) (aN)))) (gT [gN 2, gN 3]) (tYes) (e2 oAdd (eV 2) (eV 3)) [2, 3])) (aN)))
def d_plus_in : Fn := fnP 4 b_plus_in
def b_plus_1 : Sv := sRet (eCall d_plus_in (aC (eV 0) (aC (eV 1) (aN))))
def b_plus : Sv := sSeq (sExpr (eCall d_need_two_rows (aC (eV 0) (aC (eV 1) (aN)))))
    (b_plus_1)
def d_plus : Fn := fnP 2 b_plus
def b_minus_in : Sv := sRet (eB bTuple (aC (eFrz (lComp (iZipD (aC (eV 0) (aC (eV 1) (aN)))) (gT [gN 2, gN 3]) (tYes) (e2 oSub (eV 2) (eV 3)) [2, 3])) (aN)))
def d_minus_in : Fn := fnP 4 b_minus_in
def b_minus_1 : Sv := sRet (eCall d_minus_in (aC (eV 0) (aC (eV 1) (aN))))
def b_minus : Sv := sSeq (sExpr (eCall d_need_two_rows (aC (eV 0) (aC (eV 1) (aN)))))
    (b_minus_1)
def d_minus : Fn := fnP 2 b_minus
def b_times_row_in : Sv := sRet (eB bTuple (aC (eFrz (lComp (iA (eV 0)) (gN 2) (tYes) (e2 oMul (eV 1) (eV 2)) [2])) (aN)))
def d_times_row_in : Fn := fnP 3 b_times_row_in
def b_times_row_2 : Sv := sRet (eCall d_times_row_in (aC (eV 0) (aC (eV 1) (aN))))
def b_times_row_1 : Sv := sSeq (sIf (tNot (tT (eCall d_is_whole (aC (eV 1) (aN))))) (sRaise "BadNumber" ["what", "number"] (aC (eC (.str "k")) (aC (eV 1) (aN)))) (sPass))
    (b_times_row_2)
def b_times_row : Sv := sSeq (sExpr (eCall d_need_row (aC (eV 0) (aN))))
    (b_times_row_1)
def d_times_row : Fn := fnP 2 b_times_row
def b_content_in_l1 : Sv := sAsg (gN 1) (eB bGcd (aC (eV 1) (aC (eV 2) (aN))))
def b_content_in_2 : Sv := sRet (eV 1)
def b_content_in_1 : Sv := sSeq (sFor (iA (eV 0)) (gN 2) (b_content_in_l1))
    (b_content_in_2)
def b_content_in : Sv := sSeq (sAsg (gN 1) (eC (.int 0)))
    (b_content_in_1)
def d_content_in : Fn := fnP 3 b_content_in
def b_content_1 : Sv := sRet (eCall d_content_in (aC (eV 0) (aN)))
def b_content : Sv := sSeq (sExpr (eCall d_need_row (aC (eV 0) (aN))))
    (b_content_1)
def d_content : Fn := fnP 1 b_content
def b_plain_in_3 : Sv := sRet (eB bTuple (aC (eFrz (lComp (iA (eV 0)) (gN 3) (tYes) (eIf (tB (e2 oGt (eV 2) (eC (.int 0)))) (e2 oDiv (eV 3) (eV 1)) (e2 oDiv (e1 uNeg (eV 3)) (eV 1))) [3])) (aN)))
def b_plain_in_2 : Sv := sSeq (sAsg (gN 2) (e2 oIx (eFrz (lComp (iA (eV 0)) (gN 3) (tT (eV 3)) (eV 3) [3])) (eC (.int 0))))
    (b_plain_in_3)
def b_plain_in_1 : Sv := sSeq (sIf (tB (e2 oEq (eV 1) (eC (.int 0)))) (sRet (eV 0)) (sPass))
    (b_plain_in_2)
def b_plain_in : Sv := sSeq (sAsg (gN 1) (eCall d_content_in (aC (eV 0) (aN))))
    (b_plain_in_1)
def d_plain_in : Fn := fnP 4 b_plain_in
def b_plain_1 : Sv := sRet (eCall d_plain_in (aC (eV 0) (aN)))
def b_plain : Sv := sSeq (sExpr (eCall d_need_row (aC (eV 0) (aN))))
    (b_plain_1)
def d_plain : Fn := fnP 1 b_plain
def b_u_law_right_12 : Sv := sRet (e2 oEq (eB bRepr (aC (eFrz (lLst (aC (eCall d_content (aC (eV 4) (aN))) (aC (eCall d_plain (aC (eV 4) (aN))) (aN))))) (aN))) (eB bRepr (aC (eFrz (lLst (aC (eV 9) (aC (eV 8) (aN))))) (aN))))
def b_u_law_right_11 : Sv := sSeq (sAsg (gN 8) (eIf (tB (e2 oEq (eV 9) (eC (.int 0)))) (eV 4) (eB bTuple (aC (eFrz (lComp (iA (eV 4)) (gN 12) (tYes) (e2 oMul (e2 oMul (eV 11) (e2 oDiv (eB bAbs (aC (eV 12) (aN))) (eV 9))) (eIf (tB (e2 oGt (eV 12) (eC (.int 0)))) (eC (.int 1)) (e1 uNeg (eC (.int 1))))) [12])) (aN)))))
    (b_u_law_right_12)
def b_u_law_right_10 : Sv := sSeq (sAsg (gN 11) (eIf (tAnd (tB (e2 oNe (eV 10) (eFrz (lLst (aN))))) (tB (e2 oLt (e2 oIx (eV 10) (eC (.int 0))) (eC (.int 0))))) (e1 uNeg (eC (.int 1))) (eC (.int 1))))
    (b_u_law_right_11)
def b_u_law_right_9 : Sv := sSeq (sAsg (gN 10) (eSl (eFrz (lComp (iA (eV 4)) (gN 12) (tB (e2 oNe (eV 12) (eC (.int 0)))) (eV 12) [12])) (oN) (oS (eC (.int 1)))))
    (b_u_law_right_10)
def b_u_law_right_8 : Sv := sSeq (sAsg (gN 9) (eCall d_u_law_gcd (aC (eV 4) (aN))))
    (b_u_law_right_9)
def b_u_law_right_7 : Sv := sSeq (sIf (tB (e2 oNe (eB bRepr (aC (eV 7) (aN))) (eB bRepr (aC (e2 oAdd (eV 8) (eFrz (lLst (aC (eB bTuple (aC (eFrz (lComp (iA (eV 4)) (gN 12) (tYes) (e2 oMul (eV 6) (eV 12)) [12])) (aN))) (aN))))) (aN))))) (sRet (eC (.bl false))) (sPass))
    (b_u_law_right_8)
def b_u_law_right_6 : Sv := sSeq (sAsg (gN 8) (e2 oAdd (eV 8) (eFrz (lLst (aC (eB bTuple (aC (eFrz (lComp (iR1 (aC (eV 1) (aN))) (gN 13) (tYes) (e2 oAdd (e2 oIx (eV 4) (eV 13)) (e2 oIx (eV 5) (eV 13))) [13])) (aN))) (aC (eB bTuple (aC (eFrz (lComp (iR1 (aC (eV 1) (aN))) (gN 13) (tYes) (e2 oSub (e2 oIx (eV 4) (eV 13)) (e2 oIx (eV 5) (eV 13))) [13])) (aN))) (aN)))))))
    (b_u_law_right_7)
def b_u_law_right_5 : Sv := sSeq (sAsg (gN 8) (eFrz (lLst (aC (eC (.bl true)) (aC (eB bSum (aC (eFrz (lComp (iR1 (aC (eV 1) (aN))) (gN 13) (tYes) (e2 oMul (e2 oIx (eV 4) (eV 13)) (e2 oIx (eV 5) (eV 13))) [13])) (aN))) (aC (eB bSum (aC (eFrz (lComp (iA (eV 4)) (gN 12) (tYes) (e2 oMul (eV 12) (eV 12)) [12])) (aN))) (aN)))))))
    (b_u_law_right_6)
def b_u_law_right_4 : Sv := sSeq (sAsg (gN 7) (eFrz (lLst (aC (eCall d_is_row (aC (eV 4) (aN))) (aC (eCall d_product_of (aC (eV 4) (aC (eV 5) (aN)))) (aC (eCall d_square_sum (aC (eV 4) (aN))) (aC (eCall d_plus (aC (eV 4) (aC (eV 5) (aN)))) (aC (eCall d_minus (aC (eV 4) (aC (eV 5) (aN)))) (aC (eCall d_times_row (aC (eV 4) (aC (eV 6) (aN)))) (aN))))))))))
    (b_u_law_right_5)
def b_u_law_right_3 : Sv := sSeq (sAsg (gN 6) (e2 oSub (eCall d_u_law_draw (aC (eV 0) (aC (eC (.int 9)) (aN)))) (eC (.int 4))))
    (b_u_law_right_4)
def b_u_law_right_2 : Sv := sSeq (sAsg (gTL [gN 4, gN 5]) (eFrz (lComp (iR1 (aC (eC (.int 2)) (aN))) (gN 6) (tYes) (eB bTuple (aC (eFrz (lComp (iR1 (aC (eV 1) (aN))) (gN 13) (tYes) (e2 oMul (eV 3) (e2 oSub (eCall d_u_law_draw (aC (eV 0) (aC (e2 oAdd (e2 oMul (eC (.int 2)) (eV 2)) (eC (.int 1))) (aN)))) (eV 2))) [13])) (aN))) [6])))
    (b_u_law_right_3)
def b_u_law_right_1 : Sv := sSeq (sAsg (gN 3) (e2 oAdd (eC (.int 1)) (eCall d_u_law_draw (aC (eV 0) (aC (eC (.int 6)) (aN))))))
    (b_u_law_right_2)
def b_u_law_right : Sv := sSeq (sAsg (gT [gN 1, gN 2]) (eTup (aC (eCall d_u_law_draw (aC (eV 0) (aC (eC (.int 9)) (aN)))) (aC (eCall d_u_law_pick (aC (eV 0) (aC (eFrz (lLst (aC (eC (.int 1)) (aC (eC (.int 4)) (aC (e2 oPow (eC (.int 10)) (eC (.int 30))) (aN)))))) (aN)))) (aN)))))
    (b_u_law_right_1)
def d_u_law_right : Fn := fnP 14 b_u_law_right
def b_are_rows_1 : Sv := sRet (eB bAll (aC (eFrz (lComp (iA (eV 0)) (gN 1) (tYes) (e2 oEq (eB bLen (aC (eV 1) (aN))) (eB bLen (aC (e2 oIx (eV 0) (eC (.int 0))) (aN)))) [1])) (aN)))
def b_are_rows : Sv := sSeq (sIf (tOr (tNot (tT (eIs Ty.tuple (eV 0)))) (tNot (tT (eB bAll (aC (eFrz (lComp (iA (eV 0)) (gN 1) (tYes) (eCall d_is_row (aC (eV 1) (aN))) [1])) (aN)))))) (sRet (eC (.bl false))) (sPass))
    (b_are_rows_1)
def d_are_rows : Fn := fnP 2 b_are_rows
def b_need_rows : Sv := sIf (tNot (tT (eCall d_are_rows (aC (eV 0) (aN))))) (sRaise "BadRows" ["rows"] (aC (eV 0) (aN))) (sPass)
def d_need_rows : Fn := fnP 1 b_need_rows
def b_mixed_in_l1 : Sv := sAsg (gN 2) (eCall d_plus_in (aC (eV 2) (aC (eCall d_times_row_in (aC (eV 3) (aC (eV 4) (aN)))) (aN))))
def b_mixed_in_2 : Sv := sRet (eV 2)
def b_mixed_in_1 : Sv := sSeq (sFor (iZipD (aC (eV 0) (aC (eV 1) (aN)))) (gT [gN 3, gN 4]) (b_mixed_in_l1))
    (b_mixed_in_2)
def b_mixed_in : Sv := sSeq (sAsg (gN 2) (e2 oMul (eTup (aC (eC (.int 0)) (aN))) (eB bLen (aC (e2 oIx (eV 0) (eC (.int 0))) (aN)))))
    (b_mixed_in_1)
def d_mixed_in : Fn := fnP 5 b_mixed_in
def b_mixed_3 : Sv := sRet (eCall d_mixed_in (aC (eV 0) (aC (eV 1) (aN))))
def b_mixed_2 : Sv := sSeq (sIf (tNot (tT (eV 0))) (sRaise "NotKept" ["promise", "witness"] (aC (eC (.str "some")) (aC (eC .non) (aN)))) (sPass))
    (b_mixed_3)
def b_mixed_1 : Sv := sSeq (sIf (tNot (tT (eCall d_is_row_of (aC (eB bTuple (aC (eV 1) (aN))) (aC (eB bLen (aC (eV 0) (aN))) (aN)))))) (sRaise "BadRow" ["row"] (aC (eB bTuple (aC (eV 1) (aN))) (aN))) (sPass))
    (b_mixed_2)
def b_mixed : Sv := sSeq (sExpr (eCall d_need_rows (aC (eV 0) (aN))))
    (b_mixed_1)
def d_mixed : Fn := fnP 2 b_mixed
def b_products_in : Sv := sRet (eB bTuple (aC (eFrz (lComp (iA (eV 0)) (gN 1) (tYes) (eB bTuple (aC (eFrz (lComp (iA (eV 0)) (gN 2) (tYes) (eCall d_dot (aC (eV 1) (aC (eV 2) (aN)))) [2])) (aN))) [1])) (aN)))
def d_products_in : Fn := fnP 3 b_products_in
def b_products_table_1 : Sv := sRet (eCall d_products_in (aC (eV 0) (aN)))
def b_products_table : Sv := sSeq (sExpr (eCall d_need_rows (aC (eV 0) (aN))))
    (b_products_table_1)
def d_products_table : Fn := fnP 1 b_products_table
def b_is_table_1 : Sv := sRet (eB bAll (aC (eFrz (lComp2 (iR1 (aC (eB bLen (aC (eV 0) (aN))) (aN))) (gN 1) (tYes) (iR1 (aC (eV 1) (aN))) (gN 2) (tYes) (e2 oEq (e2 oIx (e2 oIx (eV 0) (eV 1)) (eV 2)) (e2 oIx (e2 oIx (eV 0) (eV 2)) (eV 1))) [1, 2] [2])) (aN)))
def b_is_table : Sv := sSeq (sIf (tOr (tNot (tT (eIs Ty.tuple (eV 0)))) (tNot (tT (eB bAll (aC (eFrz (lComp (iA (eV 0)) (gN 3) (tYes) (eCall d_is_row_of (aC (eV 3) (aC (eB bLen (aC (eV 0) (aN))) (aN)))) [3])) (aN)))))) (sRet (eC (.bl false))) (sPass))
    (b_is_table_1)
def d_is_table : Fn := fnP 4 b_is_table
def b_need_table : Sv := sIf (tNot (tT (eCall d_is_table (aC (eV 0) (aN))))) (sRaise "BadTable" ["table"] (aC (eV 0) (aN))) (sPass)
def d_need_table : Fn := fnP 1 b_need_table
def b_need_row_of : Sv := sIf (tNot (tT (eCall d_is_row_of (aC (eV 0) (aC (eV 1) (aN)))))) (sRaise "BadRow" ["row"] (aC (eV 0) (aN))) (sPass)
def d_need_row_of : Fn := fnP 2 b_need_row_of
def b_row_product_in : Sv := sRet (eB bTuple (aC (eFrz (lComp (iA (eV 0)) (gN 2) (tYes) (eCall d_dot (aC (eV 2) (aC (eV 1) (aN)))) [2])) (aN)))
def d_row_product_in : Fn := fnP 3 b_row_product_in
def b_value_in : Sv := sRet (eCall d_dot (aC (eV 1) (aC (eCall d_row_product_in (aC (eV 0) (aC (eV 1) (aN)))) (aN))))
def d_value_in : Fn := fnP 2 b_value_in
def b_value_at_2 : Sv := sRet (eCall d_value_in (aC (eV 0) (aC (eV 1) (aN))))
def b_value_at_1 : Sv := sSeq (sExpr (eCall d_need_row_of (aC (eV 1) (aC (eB bLen (aC (eV 0) (aN))) (aN)))))
    (b_value_at_2)
def b_value_at : Sv := sSeq (sExpr (eCall d_need_table (aC (eV 0) (aN))))
    (b_value_at_1)
def d_value_at : Fn := fnP 2 b_value_at
def b_u_law_mixed_right_7 : Sv := sRet (e2 oEq (eCall d_value_at (aC (eCall d_products_table (aC (eV 3) (aN))) (aC (eB bTuple (aC (eV 4) (aN))) (aN)))) (eCall d_square_sum (aC (eCall d_mixed (aC (eV 3) (aC (eV 4) (aN)))) (aN))))
def b_u_law_mixed_right_6 : Sv := sSeq (sIf (tB (e2 oNe (eB bRepr (aC (eV 7) (aN))) (eB bRepr (aC (eFrz (lLst (aC (eV 5) (aC (eV 6) (aC (eC (.bl true)) (aN)))))) (aN))))) (sRet (eC (.bl false))) (sPass))
    (b_u_law_mixed_right_7)
def b_u_law_mixed_right_5 : Sv := sSeq (sAsg (gN 7) (eFrz (lLst (aC (eCall d_mixed (aC (eV 3) (aC (eCall d_u_law_pick (aC (eV 0) (aC (eFrz (lLst (aC (eV 4) (aC (eB bTuple (aC (eV 4) (aN))) (aN))))) (aN)))) (aN)))) (aC (eCall d_products_table (aC (eV 3) (aN))) (aC (eCall d_are_rows (aC (eV 3) (aN))) (aN)))))))
    (b_u_law_mixed_right_6)
def b_u_law_mixed_right_4 : Sv := sSeq (sAsg (gN 6) (eB bTuple (aC (eFrz (lComp (iA (eV 3)) (gN 10) (tYes) (eB bTuple (aC (eFrz (lComp (iA (eV 3)) (gN 11) (tYes) (eB bSum (aC (eFrz (lComp (iR1 (aC (eV 1) (aN))) (gN 9) (tYes) (e2 oMul (e2 oIx (eV 10) (eV 9)) (e2 oIx (eV 11) (eV 9))) [9])) (aN))) [11])) (aN))) [10])) (aN))))
    (b_u_law_mixed_right_5)
def b_u_law_mixed_right_3 : Sv := sSeq (sAsg (gN 5) (eB bTuple (aC (eFrz (lComp (iR1 (aC (eV 1) (aN))) (gN 9) (tYes) (eB bSum (aC (eFrz (lComp (iR1 (aC (eV 2) (aN))) (gN 8) (tYes) (e2 oMul (e2 oIx (eV 4) (eV 8)) (e2 oIx (e2 oIx (eV 3) (eV 8)) (eV 9))) [8])) (aN))) [9])) (aN))))
    (b_u_law_mixed_right_4)
def b_u_law_mixed_right_2 : Sv := sSeq (sAsg (gN 4) (eFrz (lComp (iR1 (aC (eV 2) (aN))) (gN 8) (tYes) (e2 oSub (eCall d_u_law_draw (aC (eV 0) (aC (eC (.int 9)) (aN)))) (eC (.int 4))) [8])))
    (b_u_law_mixed_right_3)
def b_u_law_mixed_right_1 : Sv := sSeq (sAsg (gN 3) (eB bTuple (aC (eFrz (lComp (iR1 (aC (eV 2) (aN))) (gN 8) (tYes) (eB bTuple (aC (eFrz (lComp (iR1 (aC (eV 1) (aN))) (gN 9) (tYes) (e2 oSub (eCall d_u_law_draw (aC (eV 0) (aC (eC (.int 9)) (aN)))) (eC (.int 4))) [9])) (aN))) [8])) (aN))))
    (b_u_law_mixed_right_2)
def b_u_law_mixed_right : Sv := sSeq (sAsg (gT [gN 1, gN 2]) (eTup (aC (eCall d_u_law_draw (aC (eV 0) (aC (eC (.int 6)) (aN)))) (aC (e2 oAdd (eC (.int 1)) (eCall d_u_law_draw (aC (eV 0) (aC (eC (.int 5)) (aN))))) (aN)))))
    (b_u_law_mixed_right_1)
def d_u_law_mixed_right : Fn := fnP 12 b_u_law_mixed_right
def b_u_law_refused_1 (FF : Fn) : Sv := sRet (eC .non)
def b_u_law_refused (FF : Fn) : Sv := sSeq (sTry ["LineError", "BadNumber", "BadWeb", "BadTable", "BadRow", "BadRows", "NotKept"] (sExpr (eAct FF 0 aN)) [("BadNumber", hNm 1 (sXR (xTup (xA (xF "what") (xA (xB bRepr (xA (xF "number") (xN))) (xN)))))), ("BadWeb", hNm 1 (sXR (xTup (xA (xC (.str "web")) (xA (xB bRepr (xA (xF "web") (xN))) (xN)))))), ("BadTable", hNm 1 (sXR (xTup (xA (xC (.str "table")) (xA (xB bRepr (xA (xF "table") (xN))) (xN)))))), ("BadRow", hNm 1 (sXR (xTup (xA (xC (.str "row")) (xA (xB bRepr (xA (xF "row") (xN))) (xN)))))), ("BadRows", hNm 1 (sXR (xTup (xA (xC (.str "rows")) (xA (xB bRepr (xA (xF "rows") (xN))) (xN)))))), ("NotKept", hNm 1 (sXR (xTup (xA (xF "promise") (xA (xB bRepr (xA (xF "witness") (xN))) (xN))))))])
    (b_u_law_refused_1 FF)
def d_u_law_refused (FF : Fn) : Fn := fnP 2 (b_u_law_refused FF)
def b_u_law_errors_right_19 : Sv := sRet (e2 oEq (eV 3) (eV 6))
def b_u_law_errors_right_18 : Sv := sSeq (sAsg (gN 6) (e2 oAdd (eFrz (lMul (lLst (aC (eTup (aC (eC (.str "rows")) (aC (eB bRepr (aC (eV 5) (aN))) (aN)))) (aN))) (eC (.int 2)))) (eFrz (lLst (aC (eTup (aC (eC (.str "row")) (aC (eC (.str "(1, 2)")) (aN)))) (aC (eTup (aC (eC (.str "row")) (aC (eB bRepr (aC (eTup (aC (eV 4) (aN))) (aN))) (aN)))) (aC (eTup (aC (eC (.str "some")) (aC (eC (.str "None")) (aN)))) (aN))))))))
    (b_u_law_errors_right_19)
def b_u_law_errors_right_17 : Sv := sSeq (sApp (eV 3) (eHo d_u_law_refused aN (fnE 0 (eCall d_mixed (aC (eTup (aN)) (aC (eFrz (lLst (aN))) (aN)))) [])))
    (b_u_law_errors_right_18)
def b_u_law_errors_right_16 : Sv := sSeq (sApp (eV 3) (eHo d_u_law_refused aN (fnE 2 (eCall d_mixed (aC (eTup (aC (eV 0) (aN))) (aC (eFrz (lLst (aC (eV 1) (aN)))) (aN)))) [1, 4])))
    (b_u_law_errors_right_17)
def b_u_law_errors_right_15 : Sv := sSeq (sApp (eV 3) (eHo d_u_law_refused aN (fnE 1 (eCall d_mixed (aC (eTup (aC (eV 0) (aN))) (aC (eFrz (lLst (aC (eC (.int 1)) (aC (eC (.int 2)) (aN))))) (aN)))) [1])))
    (b_u_law_errors_right_16)
def b_u_law_errors_right_14 : Sv := sSeq (sApp (eV 3) (eHo d_u_law_refused aN (fnE 1 (eCall d_products_table (aC (eV 0) (aN))) [5])))
    (b_u_law_errors_right_15)
def b_u_law_errors_right_13 : Sv := sSeq (sAsg (gN 3) (eMut (lLst (aC (eHo d_u_law_refused aN (fnE 1 (eCall d_mixed (aC (eV 0) (aC (eC .non) (aN)))) [5])) (aN)))))
    (b_u_law_errors_right_14)
def b_u_law_errors_right_12 : Sv := sSeq (sIf (tB (e2 oIsNot (eCall d_are_rows (aC (eV 5) (aN))) (eC (.bl false)))) (sRet (eC (.bl false))) (sPass))
    (b_u_law_errors_right_13)
def b_u_law_errors_right_11 : Sv := sSeq (sAsg (gN 5) (eCall d_u_law_pick (aC (eV 0) (aC (eFrz (lLst (aC (eC .non) (aC (eFrz (lLst (aC (eV 1) (aN)))) (aC (eTup (aC (eV 1) (aC (e2 oAdd (eV 1) (eTup (aC (eC (.int 1)) (aN)))) (aN)))) (aC (eTup (aC (eV 1) (aC (eC .non) (aN)))) (aC (eTup (aC (eFrz (lB mList (aC (eV 1) (aN)))) (aN))) (aC (eC (.int 3)) (aN))))))))) (aN)))))
    (b_u_law_errors_right_12)
def b_u_law_errors_right_10 : Sv := sSeq (sIf (tB (e2 oNe (eV 3) (e2 oAdd (eFrz (lMul (lLst (aC (eTup (aC (eC (.str "length")) (aC (eC (.str "(3, 4)")) (aN)))) (aN))) (eC (.int 3)))) (eFrz (lLst (aC (eTup (aC (eC (.str "k")) (aC (eB bRepr (aC (eV 4) (aN))) (aN)))) (aN))))))) (sRet (eC (.bl false))) (sPass))
    (b_u_law_errors_right_11)
def b_u_law_errors_right_9 : Sv := sSeq (sApp (eV 3) (eHo d_u_law_refused aN (fnE 2 (eCall d_times_row (aC (eV 0) (aC (eV 1) (aN)))) [1, 4])))
    (b_u_law_errors_right_10)
def b_u_law_errors_right_8 : Sv := sSeq (sAsg (gN 4) (eCall d_u_law_pick (aC (eV 0) (aC (eFrz (lLst (aC (eC .non) (aC (eC (.bl true)) (aC (eC (.str "1")) (aN)))))) (aN)))))
    (b_u_law_errors_right_9)
def b_u_law_errors_right_7 : Sv := sSeq (sAsg (gN 3) (eMut (lComp (iA (eFrz (lLst (aC (eC (.gfn "product_of")) (aC (eC (.gfn "plus")) (aC (eC (.gfn "minus")) (aN))))))) (gN 7) (tYes) (eHo d_u_law_refused aN (fnE 2 (eDisp [("product_of", d_product_of), ("plus", d_plus), ("minus", d_minus)] (eV 0) (aC (eV 1) (aC (e2 oAdd (eV 1) (eTup (aC (eC (.int 1)) (aN)))) (aN)))) [7, 1])) [7])))
    (b_u_law_errors_right_8)
def b_u_law_errors_right_6 : Sv := sSeq (sIf (tB (e2 oNe (eV 3) (eFrz (lMul (lLst (aC (eTup (aC (eC (.str "row")) (aC (eB bRepr (aC (eV 2) (aN))) (aN)))) (aN))) (eC (.int 10)))))) (sRet (eC (.bl false))) (sPass))
    (b_u_law_errors_right_7)
def b_u_law_errors_right_5 : Sv := sSeq (sAsg (gN 3) (e2 oAdd (eV 3) (eFrz (lComp (iA (eFrz (lLst (aC (eC (.gfn "product_of")) (aC (eC (.gfn "plus")) (aC (eC (.gfn "minus")) (aN))))))) (gN 7) (tYes) (eHo d_u_law_refused aN (fnE 3 (eDisp [("product_of", d_product_of), ("plus", d_plus), ("minus", d_minus)] (eV 0) (aC (eV 1) (aC (eV 2) (aN)))) [7, 1, 2])) [7]))))
    (b_u_law_errors_right_6)
def b_u_law_errors_right_4 : Sv := sSeq (sAsg (gN 3) (e2 oAdd (eV 3) (eFrz (lComp (iA (eFrz (lLst (aC (eC (.gfn "product_of")) (aC (eC (.gfn "plus")) (aC (eC (.gfn "minus")) (aC (eC (.gfn "times_row")) (aN)))))))) (gN 7) (tYes) (eHo d_u_law_refused aN (fnE 2 (eDisp [("product_of", d_product_of), ("plus", d_plus), ("minus", d_minus), ("times_row", d_times_row)] (eV 0) (aC (eV 1) (aC (eC .non) (aN)))) [7, 2])) [7]))))
    (b_u_law_errors_right_5)
def b_u_law_errors_right_3 : Sv := sSeq (sAsg (gN 3) (eMut (lComp (iA (eFrz (lLst (aC (eC (.gfn "square_sum")) (aC (eC (.gfn "content")) (aC (eC (.gfn "plain")) (aN))))))) (gN 7) (tYes) (eHo d_u_law_refused aN (fnE 2 (eDisp [("square_sum", d_square_sum), ("content", d_content), ("plain", d_plain)] (eV 0) (aC (eV 1) (aN))) [7, 2])) [7])))
    (b_u_law_errors_right_4)
def b_u_law_errors_right_2 : Sv := sSeq (sIf (tB (e2 oIsNot (eCall d_is_row (aC (eV 2) (aN))) (eC (.bl false)))) (sRet (eC (.bl false))) (sPass))
    (b_u_law_errors_right_3)
def b_u_law_errors_right_1 : Sv := sSeq (sAsg (gN 2) (eCall d_u_law_pick (aC (eV 0) (aC (eFrz (lLst (aC (eC .non) (aC (eFrz (lB mList (aC (eV 1) (aN)))) (aC (e2 oAdd (eV 1) (eTup (aC (eC (.bl true)) (aN)))) (aC (e2 oAdd (eV 1) (eTup (aC (eC .non) (aN)))) (aC (eC (.int 3)) (aC (eC (.str "12")) (aN))))))))) (aN)))))
    (b_u_law_errors_right_2)
def b_u_law_errors_right : Sv := sSeq (sAsg (gN 1) (eB bTuple (aC (eFrz (lComp (iR1 (aC (eC (.int 3)) (aN))) (gN 8) (tYes) (eCall d_u_law_draw (aC (eV 0) (aC (eC (.int 5)) (aN)))) [8])) (aN))))
    (b_u_law_errors_right_1)
def d_u_law_errors_right : Fn := fnP 9 b_u_law_errors_right
def b_law_l1 : Sv := sIf (tOr (tNot (tT (eCall d_u_law_right (aC (eV 1) (aN))))) (tOr (tNot (tT (eCall d_u_law_mixed_right (aC (eV 1) (aN))))) (tNot (tT (eCall d_u_law_errors_right (aC (eV 1) (aN))))))) (sRet (eC (.bl false))) (sPass)
def b_law_2 : Sv := sRet (eC (.bl true))
def b_law_1 : Sv := sSeq (sFor (iR1 (aC (eC (.int 4)) (aN))) (gN 2) (b_law_l1))
    (b_law_2)
def b_law : Sv := sSeq (sAsg (gN 1) (eCall d_u_law_pen (aC (eV 0) (aN))))
    (b_law_1)
def d_law : Fn := fnP 3 b_law
end L06
end

section
set_option Elab.async false
set_option linter.all false
set_option maxRecDepth 100000
set_option maxHeartbeats 1000000
/-! ZA: comprehensions and loops over typed lists; a def's end. -/
namespace Y
open PySem L2
/-- [F x for x in xs if p x], nothing changed -/
theorem compL_fm {α : Type} {g : Gv} {c : Tv} {e : Ev} {σ : Sl} {h : Hm} (T : α → D) (p : α → Bool) (F : α → D) : ∀ xs : List α, (∀ x ∈ xs, ∃ σ1, g (T x) σ = some σ1 ∧ c σ1 h = .ok (p x) h ∧ (p x = true → e σ1 h = .ok (F x) h)) →
    compL g c e σ (xs.map T) h = .ok ((xs.filter p).map F) h
  | [], _ => rfl
  | x :: xs, H => by
    obtain ⟨σ1, e1, e2, e3⟩ := H x List.mem_cons_self
    have ih := compL_fm T p F xs fun y m => H y (List.mem_cons_of_mem _ m)
    cases hp : p x with
    | true => simp [compL, e1, e2, hp, e3 hp, Rs.bindN, ih]
    | false => simp [compL, e1, e2, hp, Rs.bindN, ih]
theorem compL_m {α : Type} {g : Gv} {e : Ev} {σ : Sl} {h : Hm} (T : α → D) (F : α → D) (xs : List α) (H : ∀ x ∈ xs, ∃ σ1, g (T x) σ = some σ1 ∧ e σ1 h = .ok (F x) h) : compL g tYes e σ (xs.map T) h = .ok (xs.map F) h := by
  have q := compL_fm (g := g) (c := tYes) (e := e) (σ := σ) (h := h) T (fun _ => true) F xs fun x m => by
    obtain ⟨σ1, e1, e2⟩ := H x m
    exact ⟨σ1, e1, rfl, fun _ => e2⟩
  rw [List.filter_eq_self.mpr (by simp)] at q
  exact q
/-- two fors -/
theorem comp2L_m {α : Type} {g : Gv} {m : Sl → Hm → Rs (List D)} {σ : Sl} {h : Hm} (T : α → D) (G : α → List D) : ∀ xs : List α, (∀ x ∈ xs, ∃ σ1, g (T x) σ = some σ1 ∧ m σ1 h = .ok (G x) h) → comp2L g m σ (xs.map T) h = .ok (xs.flatMap G) h
  | [], _ => rfl
  | x :: xs, H => by
    obtain ⟨σ1, e1, e2⟩ := H x List.mem_cons_self
    have ih := comp2L_m T G xs fun y m => H y (List.mem_cons_of_mem _ m)
    simp [comp2L, e1, e2, Rs.bindN, ih]
/-- a loop that changes nothing but its own slots, to its end -/
theorem forL_keep {α : Type} {g : Gv} {b : Sv} {h : Hm} (T : α → D) (S : Sl → Prop) : ∀ (xs : List α) (σ : Sl), S σ → (∀ x ∈ xs, ∀ σ, S σ → ∃ σ1 σ2, g (T x) σ = some σ1 ∧ b σ1 h = .nx σ2 h ∧ S σ2) → ∃ σ', forL g b (xs.map T) σ h = .nx σ' h ∧ S σ'
  | [], σ, s, _ => ⟨σ, rfl, s⟩
  | x :: xs, σ, s, H => by
    obtain ⟨σ1, σ2, e1, e2, s2⟩ := H x List.mem_cons_self σ s
    obtain ⟨σ', e3, s3⟩ := forL_keep T S xs σ2 s2 fun y m => H y (List.mem_cons_of_mem _ m)
    exact ⟨σ', by simp [forL, e1, e2, e3], s3⟩
/-- .. or till it returns -/
theorem forL_ret {α : Type} {g : Gv} {b : Sv} {h : Hm} (T : α → D) (S : Sl → Prop) (p : α → Option D) : ∀ (xs : List α) (σ : Sl), S σ →
    (∀ x ∈ xs, ∀ σ, S σ → ∃ σ1, g (T x) σ = some σ1 ∧ match p x with | some d => b σ1 h = .rt d h | none => ∃ σ2, b σ1 h = .nx σ2 h ∧ S σ2) →
    match xs.findSome? p with | some d => forL g b (xs.map T) σ h = .rt d h | none => ∃ σ', forL g b (xs.map T) σ h = .nx σ' h ∧ S σ'
  | [], σ, s, _ => ⟨σ, rfl, s⟩
  | x :: xs, σ, s, H => by
    obtain ⟨σ1, e1, e2⟩ := H x List.mem_cons_self σ s
    cases hp : p x with
    | some d =>
      rw [hp] at e2
      simp [List.findSome?_cons, hp, forL, e1, e2]
    | none =>
      rw [hp] at e2
      obtain ⟨σ2, e2, s2⟩ := e2
      have ih := forL_ret T S p xs σ2 s2 fun y m => H y (List.mem_cons_of_mem _ m)
      simp only [List.findSome?_cons, hp]
      cases hq : xs.findSome? p with
      | some d => rw [hq] at ih; simpa [forL, e1, e2] using ih
      | none => rw [hq] at ih; simpa [forL, e1, e2] using ih
theorem rangeD_eq (n : Nat) : rangeD 0 n = (List.range n).map fun i => D.int (i : Nat) := by simp [rangeD]
theorem rangeD_at (i n : Nat) : rangeD (i : Nat) n = (List.range' i n).map fun j => D.int (j : Nat) := by
  rw [rangeD, List.range'_eq_map_range, List.map_map]
  apply List.map_congr_left
  intro j _
  simp
theorem seal_app (h l : Hm) : sealed h.length h (h ++ l) = true := by
  have aux : ∀ h : Hm, (h.zip h).all (fun p => decide (p.1 = p.2) || Ob.low (h ++ l).length p.1) = true := fun h => by
    rw [List.all_eq_true]
    intro p hp
    have : p.1 = p.2 := by
      clear l
      induction h with
      | nil => simp at hp
      | cons a h ih =>
        simp only [List.zip_cons_cons, List.mem_cons] at hp
        rcases hp with rfl | hp
        · rfl
        · exact ih hp
    simp [this]
  unfold sealed
  rw [List.take_left, List.all_eq_true]
  intro p hp
  have := List.all_eq_true.mp (aux h) p hp
  have e : p.1 = p.2 := by
    clear aux this l
    induction h with
    | nil => simp at hp
    | cons a h ih =>
      simp only [List.zip_cons_cons, List.mem_cons] at hp
      rcases hp with rfl | hp
      · rfl
      · exact ih hp
  simp [e]
/-- a def forgets what it made -/
theorem fin_app {h l : Hm} {d : D} (hd : D.low h.length d = true) : finP h d (h ++ l) = .ok d h := by
  unfold finP
  split
  · rename_i q
    have : l = [] := by
      have : (h ++ l).length = h.length + l.length := by simp
      cases l with
      | nil => rfl
      | cons _ _ => simp at this; simp at q
    simp [this]
  · rw [hd, seal_app]
    simp
theorem fin_same {h : Hm} {d : D} : finP h d h = .ok d h := by simp [finP]
/-- .. where an elder one was changed -/
theorem fin_one {o o' : Ob} {l : Hm} {d : D} (hd : D.low 1 d = true) (ho : Ob.low 1 o' = true) : finP [o] d (o' :: l) = .ok d [o'] := by
  unfold finP
  split
  · rename_i q
    have : l = [] := by simpa using q
    simp [this]
  · simp [hd, sealed, ho]
/-- tuples of numbers -/
def nD (p : Nat) : D := .int (p : Nat)
def rowN (r : List Nat) : D := .tup (r.map nD)
def tD (t : Nat × Nat) : D := .tup [nD t.1, nD t.2]
theorem low_ints (n : Nat) : ∀ r : List Nat, D.lowL n (r.map nD) = true
  | [] => rfl
  | x :: r => by simp [D.lowL, D.low, nD, low_ints n r]
theorem low_rows (n : Nat) : ∀ r : List (List Nat), D.lowL n (r.map rowN) = true
  | [] => rfl
  | x :: r => by simp [D.lowL, D.low, rowN, low_ints n x, low_rows n r]
theorem low_ties (n : Nat) : ∀ r : List (Nat × Nat), D.lowL n (r.map tD) = true
  | [] => rfl
  | x :: r => by simp [D.lowL, D.low, tD, nD, low_ties n r]
theorem ints_nD : ∀ r : List Nat, intsOf (r.map nD) = some (r.map fun (x : Nat) => (x : Int))
  | [] => rfl
  | x :: r => by simp [intsOf, nD, ints_nD r]
theorem at_nat {xs : List D} {i : Nat} : L2.atI xs (i : Nat) = xs[i]? := by
  unfold L2.atI L2.ixN
  rw [if_pos (by omega)]
  by_cases h : i < xs.length
  · rw [if_pos (by omega), Option.bind_some]; simp
  · rw [if_neg (by omega)]
    simp [List.getElem?_eq_none (Nat.le_of_not_lt h)]
theorem ix_tup {h : Hm} {xs : List D} {i : Nat} : oIx h (.tup xs) (.int (i : Nat)) = xs[i]? := by
  simp [oIx, dctOf, ixD, seqOf, at_nat]
theorem ix_fl {h : Hm} {xs : List D} {i : Nat} : oIx h (.fl xs) (.int (i : Nat)) = xs[i]? := by
  simp [oIx, dctOf, ixD, seqOf, lstOf, at_nat]
theorem bools_map {α : Type} (p : α → Bool) : ∀ xs : List α, bools (xs.map fun x => D.bl (p x)) = some (xs.map p)
  | [] => rfl
  | x :: xs => by simp [bools, bools_map p xs]
theorem pyL_nD (h : Hm) : ∀ r : List Nat, pyL h (r.map nD) = some (r.map fun (x : Nat) => PyData.int x)
  | [] => rfl
  | x :: r => by simp [pyL, py, nD, pyL_nD h r]
theorem can_nD : ∀ r : List Nat, PyData.canLayAll0 (r.map fun (x : Nat) => PyData.int x) = true
  | [] => rfl
  | x :: r => by simp [PyData.canLayAll0, PyData.canLay0, can_nD r]
theorem dep_nD : ∀ r : List Nat, PyData.depthAll (r.map fun (x : Nat) => PyData.int x) = 0
  | [] => rfl
  | x :: r => by simp [PyData.depthAll, PyData.depth, dep_nD r]
theorem any_nD (x : Nat) : ∀ r : List Nat, ((r.map fun (y : Nat) => PyData.int y).any fun z => PyData.eqv z (.int x)) = decide (x ∈ r)
  | [] => rfl
  | y :: r => by
    rw [List.map_cons, List.any_cons, any_nD x r]
    by_cases e : y = x
    · subst e; simp [PyData.eqv]
    · have : ((y : Int) == (x : Int)) = false := by simp; omega
      simp [PyData.eqv, this, Ne.symm e]
theorem inD_nD {h : Hm} {x : Nat} {r : List Nat} : inD h (nD x) (rowN r) = some (decide (x ∈ r)) := by
  have e : py h (nD x) = some (.int x) := rfl
  have sh : SeqAt.shaped (.list (r.map fun (x : Nat) => PyData.int x)) = true := by simp [SeqAt.shaped, PyData.canLay0, PyData.depth, can_nD, dep_nD]
  have sx : SeqAt.shaped (.int (x : Int)) = true := by simp [SeqAt.shaped, PyData.canLay0, PyData.depth]
  simp only [inD, dctOf, dtuOf, rowN, seqOf, e, pyL_nD, sh, sx, Bool.and_self, if_true, any_nD]
/-! ### rows of whole numbers -/
def R (xs : List Int) : D := .tup (xs.map .int)
theorem ints_map : ∀ r : List Int, intsOf (r.map .int) = some r
  | [] => rfl
  | x :: r => by simp [intsOf, ints_map r]
theorem pyL_int (h : Hm) : ∀ r : List Int, pyL h (r.map .int) = some (r.map .int)
  | [] => rfl
  | x :: r => by simp [pyL, py, pyL_int h r]
theorem can_int : ∀ r : List Int, PyData.canLayAll0 (r.map .int) = true
  | [] => rfl
  | x :: r => by simp [PyData.canLayAll0, PyData.canLay0, can_int r]
theorem dep_int : ∀ r : List Int, PyData.depthAll (r.map .int) = 0
  | [] => rfl
  | x :: r => by simp [PyData.depthAll, PyData.depth, dep_int r]
theorem low_int (n : Nat) : ∀ r : List Int, D.lowL n (r.map .int) = true
  | [] => rfl
  | x :: r => by simp [D.lowL, D.low, low_int n r]
theorem low_R (n : Nat) (r : List Int) : D.low n (R r) = true := by simp [R, D.low, low_int]
theorem low_Rs (n : Nat) : ∀ rs : List (List Int), D.lowL n (rs.map R) = true
  | [] => rfl
  | x :: r => by simp [D.lowL, low_R, low_Rs n r]
/-- numbers of at most 200 digits -/
def Sm (x : Int) : Prop := x.natAbs < 10 ^ 200
theorem log_sm {x : Int} (h : Sm x) : x.natAbs.log2 < 700 := by
  by_cases e : x.natAbs = 0
  · rw [e]; decide
  · have h2 : (10 ^ 200 : Nat) < 2 ^ 700 := by decide +kernel
    exact (Nat.log2_lt e).mpr (Nat.lt_trans h h2)
theorem mul_sm {x y : Int} (h1 : Sm x) (h2 : Sm y) : mulOk x y = true := by
  have := log_sm h1
  have := log_sm h2
  have : decide (x.natAbs.log2 + y.natAbs.log2 < 1000000) = true := decide_eq_true (by omega)
  unfold mulOk
  rw [this]
  simp
theorem div_sm {h : Hm} {x y : Int} (y0 : 0 < y) (h2 : Sm y) : oDiv h (.int x) (.int y) = some (.int (x / y)) := by
  have := log_sm h2
  simp only [oDiv]
  rw [if_pos ⟨y0, .inr (by omega)⟩]
/-- what can be told -/
structure Told (d : D) (p : PyData) (w : Nat) : Prop where
  py : ∀ h, Y.py h d = some p
  can : p.canLay0 = true
  dep : p.depth ≤ 9
  wid : Y.wid p ≤ w
theorem rep_ok {h : Hm} {x : D} {p : PyData} (e : py h x = some p) (c : p.canLay0 = true) (d : p.depth ≤ 64) (w : wid p ≤ line) : bRepr h [x] = some (.str p.shown) := by
  show (match py h x with | some p => if (SeqAt.shaped p && decide (wid p ≤ line)) = true then some (D.str p.shown) else none | none => none) = _
  rw [e]
  simp [SeqAt.shaped, c, d, w]
theorem Told.rep {d : D} {p : PyData} {w : Nat} (T : Told d p w) (l : w ≤ 1000000) : ∃ r : Str, ∀ h, bRepr h [d] = some (.str r) :=
  ⟨p.shown, fun h => rep_ok (T.py h) T.can (by have := T.dep; omega) (Nat.le_trans T.wid (Nat.le_trans l (by decide)))⟩
theorem told_int {x : Int} (h : Sm x) : Told (.int x) (.int x) 201 := ⟨fun _ => rfl, rfl, by simp [PyData.depth], by
  rw [wid]
  split
  · decide
  · rw [if_pos (show x.natAbs < 10 ^ 200 from h)]; decide⟩
theorem told_bl {b : Bool} : Told (.bl b) (.bool b) 5 := ⟨fun _ => rfl, rfl, by simp [PyData.depth], by simp [wid]⟩
theorem told_non : Told .non .none 4 := ⟨fun _ => rfl, rfl, by simp [PyData.depth], by simp [wid]⟩
/-- all of a list -/
inductive ToldL : List D → List PyData → Nat → Nat → Prop
  | nil {w n} : ToldL [] [] w n
  | cons {d p ds ps w n} : Told d p w → p.depth ≤ n → ToldL ds ps w n → ToldL (d :: ds) (p :: ps) w n
theorem ToldL.get {ds : List D} {ps : List PyData} {w n : Nat} (T : ToldL ds ps w n) : (∀ h, pyL h ds = some ps) ∧ PyData.canLayAll0 ps = true ∧ PyData.depthAll ps ≤ n ∧ widL ps ≤ ds.length * (w + 2) := by
  induction T with
  | nil => exact ⟨fun _ => rfl, rfl, by simp [PyData.depthAll], by simp [widL]⟩
  | cons t h1 _ ih =>
    obtain ⟨i1, i2, i3, i4⟩ := ih
    refine ⟨fun h => by simp [pyL, t.py, i1], by simp [PyData.canLayAll0, t.can, i2], by simp [PyData.depthAll]; omega, ?_⟩
    have := t.wid
    simp only [widL, List.length_cons]
    rw [Nat.add_mul]
    omega
theorem told_tup {ds : List D} {ps : List PyData} {w n m : Nat} (T : ToldL ds ps w n) (hn : n < 9) (hm : ds.length * (w + 2) + 3 ≤ m) : Told (.tup ds) (.tuple ps) m := by
  obtain ⟨i1, i2, i3, i4⟩ := T.get
  exact ⟨fun h => by simp [Y.py, i1], by simp [PyData.canLay0, i2], by simp [PyData.depth]; omega, by simp only [Y.wid]; omega⟩
theorem told_fl {ds : List D} {ps : List PyData} {w n m : Nat} (T : ToldL ds ps w n) (hn : n < 9) (hm : ds.length * (w + 2) + 3 ≤ m) : Told (.fl ds) (.list ps) m := by
  obtain ⟨i1, i2, i3, i4⟩ := T.get
  exact ⟨fun h => by simp [Y.py, i1], by simp [PyData.canLay0, i2], by simp [PyData.depth]; omega, by simp only [Y.wid]; omega⟩
theorem Told.up {d : D} {p : PyData} {w w' : Nat} (T : Told d p w) (l : w ≤ w') : Told d p w' := ⟨T.py, T.can, T.dep, Nat.le_trans T.wid l⟩
theorem toldL_ints : ∀ {xs : List Int}, (∀ x ∈ xs, Sm x) → ToldL (xs.map .int) (xs.map .int) 201 0
  | [], _ => .nil
  | x :: xs, h => .cons (told_int (h x List.mem_cons_self)) (by simp [PyData.depth]) (toldL_ints fun y m => h y (List.mem_cons_of_mem _ m))
theorem told_R {xs : List Int} {m : Nat} (h : ∀ x ∈ xs, Sm x) (hm : xs.length * 203 + 3 ≤ m) : Told (R xs) (.tuple (xs.map .int)) m := told_tup (toldL_ints h) (by decide) (by simpa using hm)
theorem toldL_Rs {m : Nat} : ∀ {rs : List (List Int)}, (∀ r ∈ rs, (∀ x ∈ r, Sm x) ∧ r.length * 203 + 3 ≤ m) → ToldL (rs.map R) (rs.map fun r => .tuple (r.map .int)) m 1
  | [], _ => .nil
  | x :: xs, h => .cons (told_R (h x List.mem_cons_self).1 (h x List.mem_cons_self).2) (by simp [PyData.depth, dep_int]) (toldL_Rs fun y q => h y (List.mem_cons_of_mem _ q))
/-! ### lists of two -/
theorem zip_R {xs ys : List Int} : zipD [R xs, R ys] = some (pairsD (xs.map .int) (ys.map .int)) := rfl
theorem pairs_map : ∀ (xs ys : List Int), pairsD (xs.map .int) (ys.map .int) = (List.zip xs ys).map fun t => .tup [.int t.1, .int t.2]
  | [], ys => by simp [pairsD]
  | x :: xs, [] => by simp [pairsD]
  | x :: xs, y :: ys => by simp [pairsD, pairs_map xs ys]
theorem range_zip {α : Type} (f : Int → Int → α) (xs ys : List Int) (n : Nat) (h1 : xs.length = n) (h2 : ys.length = n) : (List.range n).map (fun p => f (xs.getD p 0) (ys.getD p 0)) = List.zipWith f xs ys := by
  apply List.ext_getElem
  · simp [h1, h2]
  · intro i a b
    have l1 : i < xs.length := by simp at a; omega
    have l2 : i < ys.length := by simp at a; omega
    simp [List.getD_eq_getElem?_getD, List.getElem?_eq_getElem l1, List.getElem?_eq_getElem l2]
theorem getD_int {xs : List Int} {p : Nat} (h : p < xs.length) : (xs.map D.int)[p]? = some (.int (xs.getD p 0)) := by
  simp [List.getElem?_map, List.getD_eq_getElem?_getD, List.getElem?_eq_getElem h]
theorem ix_R {h : Hm} {xs : List Int} {p : Nat} (l : p < xs.length) : oIx h (R xs) (.int (p : Nat)) = some (.int (xs.getD p 0)) := by rw [R, ix_tup, getD_int l]
/-! ### draws -/
theorem pen_any {o : Ob} {t u : Hm} {N : Nat} (hp : PenAt (o :: t) 0 N) : PenAt (o :: u) 0 N := by
  obtain ⟨cs, q, g, c, f, hk, r⟩ := hp.ex
  exact ⟨cs, q, g, c, f, by simpa using hk, r⟩
/-- a comprehension, each step of which draws c times -/
theorem compL_dr {g : Gv} {e : Ev} {σ : Sl} (P : D → Prop) (c : Nat) : ∀ (ds : List D) (o : Ob) (N : Nat), (∀ d ∈ ds, ∃ σ1, g d σ = some σ1 ∧ ∀ o N, PenAt [o] 0 (N + c) → ∃ r o', e σ1 [o] = .ok r [o'] ∧ P r ∧ PenAt [o'] 0 N) → PenAt [o] 0 (N + c * ds.length) →
    ∃ rs o', compL g tYes e σ ds [o] = .ok rs [o'] ∧ rs.length = ds.length ∧ (∀ r ∈ rs, P r) ∧ PenAt [o'] 0 N
  | [], o, N, _, hp => ⟨[], o, rfl, rfl, by simp, by simpa using hp⟩
  | d :: ds, o, N, H, hp => by
    obtain ⟨σ1, e1, k⟩ := H d List.mem_cons_self
    obtain ⟨r, o1, e2, p1, h1⟩ := k o (N + c * ds.length) (hp.mono (by rw [List.length_cons, Nat.mul_succ]; omega))
    obtain ⟨rs, o', e3, l3, p3, h3⟩ := compL_dr P c ds o1 N (fun d m => H d (List.mem_cons_of_mem _ m)) h1
    refine ⟨r :: rs, o', ?_, by simp [l3], ?_, h3⟩
    · simp [compL, e1, tYes, e2, Rs.bindN, e3]
    · intro x m
      rcases List.mem_cons.mp m with rfl | m
      · exact p1
      · exact p3 x m
theorem ints_of {P : Int → Prop} : ∀ {rs : List D}, (∀ r ∈ rs, ∃ x, r = .int x ∧ P x) → ∃ xs : List Int, rs = xs.map .int ∧ ∀ x ∈ xs, P x
  | [], _ => ⟨[], rfl, by simp⟩
  | r :: rs, h => by
    obtain ⟨x, e, p⟩ := h r List.mem_cons_self
    obtain ⟨xs, e2, p2⟩ := ints_of fun r m => h r (List.mem_cons_of_mem _ m)
    refine ⟨x :: xs, by simp [e, e2], fun y m => ?_⟩
    rcases List.mem_cons.mp m with rfl | m
    · exact p
    · exact p2 y m
theorem rows_of {P : List Int → Prop} : ∀ {rs : List D}, (∀ r ∈ rs, ∃ x, r = R x ∧ P x) → ∃ xs : List (List Int), rs = xs.map R ∧ ∀ x ∈ xs, P x
  | [], _ => ⟨[], rfl, by simp⟩
  | r :: rs, h => by
    obtain ⟨x, e, p⟩ := h r List.mem_cons_self
    obtain ⟨xs, e2, p2⟩ := rows_of fun r m => h r (List.mem_cons_of_mem _ m)
    refine ⟨x :: xs, by simp [e, e2], fun y m => ?_⟩
    rcases List.mem_cons.mp m with rfl | m
    · exact p
    · exact p2 y m
/-! ### a draw below a wide number -/
theorem last_okW (cq ca ex dv : Int) (C : 0 ≤ cq ∧ cq < 1000000 ∧ 0 ≤ ca ∧ ca < 1000000 ∧ 0 ≤ ex ∧ ex < 1000 ∧ 0 < dv ∧ dv < 1000000) {h : Hm} {k : Nat} (lk : k < h.length) {cs : List Int} {p g c f many : Int} (y2 : Option D) (g0 : 0 ≤ g) (c0 : 0 ≤ c) (c1 : c < 1000000000) (f0 : 0 ≤ f) (f1 : f < 2147483648)
    (m0 : 0 < many) (m1 : Sm many) : ∃ r g' : Int, bLast cq ca ex dv [some (.loc k), some (.int many), y2, none, none] (h.set k (penO cs p g c f)) = .rt (.int r) (h.set k (penO cs p g' c f)) ∧ 0 ≤ r ∧ r < many ∧ 0 ≤ g' := by
  obtain ⟨q5, q6, q7, q8, q9, q10, q11, q12⟩ := C
  by_cases hg : 0 < g
  · refine ⟨g % many, g / many, ?_, Int.emod_nonneg _ (by omega), Int.emod_lt_of_pos _ m0, Int.ediv_nonneg g0 (by omega)⟩
    have dv : ∀ h x, oDiv h (.int x) (.int many) = some (.int (x / many)) := fun h x => div_sm m0 m1
    simp [bLast, sStore, bInt, r_dig lk, w_dig lk, hg, m0, dv, fnP, sSeq, sAsg, sRet, sIf, sPass, eV, Rs.out, Rs.bind, outO, gN, Y.e2, eC, aN, aC, oMod, oGt, ofO, Y.tB, eB]
  · have hg' : g = 0 := by omega
    subst hg'
    have b0 : 0 ≤ c * cq := Int.mul_nonneg c0 q5
    have b1 : c * cq ≤ 1000000000 * 1000000 := by
      have := Int.mul_le_mul (a := c) (b := cq) (c := 1000000000) (d := 1000000) (by omega) (by omega) q5 (by omega)
      exact this
    have a1 : mulOk c cq = true := mulOk_l (by omega) (by omega)
    have a2 : 0 ≤ ex ∧ ex ≤ 1000000 ∧ -big < f + c * cq + ca ∧ f + c * cq + ca < big := ⟨q9, by omega, by unfold big; omega, by unfold big; omega⟩
    have a3 : 0 < dv ∧ dv < 1073741824 := ⟨q11, by omega⟩
    refine ⟨_, 0, ?_, Int.emod_nonneg ((f + c * cq + ca) ^ ex.toNat % 2305843009213693951 / dv) (Int.ne_of_gt m0), Int.emod_lt_of_pos _ m0, Int.le_refl _⟩
    simp [bLast, bInt, r_dig lk, r_fold lk, r_cnt lk, a1, a2, a3, m0, fnP, sSeq, sAsg, sRet, sIf, sPass, eV, Rs.out, Rs.bind, outO, gN, Y.e2, eC, aN, aC, oMod, oMul, oAdd, oPow, oGt, oDiv, ofO, Y.tB, eB]
theorem drawW (fq fm cq ca ex dv : Int) (C : 0 ≤ fq ∧ fq < 1000000000 ∧ 0 < fm ∧ fm ≤ 2147483648 ∧ 0 ≤ cq ∧ cq < 1000000 ∧ 0 ≤ ca ∧ ca < 1000000 ∧ 0 ≤ ex ∧ ex < 1000 ∧ 0 < dv ∧ dv < 1000000)
    {h : Hm} {k n : Nat} (hp : PenAt h k (n + 1)) {many : Int} (m0 : 0 < many) (m1 : Sm many) :
    ∃ (r : Int) (o : Ob), dDraw fq fm cq ca ex dv [.loc k, .int many] h = .ok (.int r) (h.set k o) ∧ 0 ≤ r ∧ r < many ∧ PenAt (h.set k o) k n := by
  obtain ⟨cs, p, g, c, f, hk, hl, p0, g0, c0, c1, f0, f1⟩ := hp.ex
  have lk : k < h.length := (List.getElem?_eq_some_iff.mp hk).1
  obtain ⟨q1, q2, q3, q4, C2⟩ := C
  have eh : h = h.set k (penO cs p g c f) := by
    apply List.ext_getElem?
    intro j
    by_cases hj : j = k
    · subst hj; rw [pen_get lk, hk]
    · rw [List.getElem?_set_ne (Ne.symm hj)]
  have done : ∀ (y2 : Option D) (p' g' f' : Int), 0 ≤ p' → 0 ≤ g' → 0 ≤ f' → f' < 2147483648 → ∀ o : Out, o = bLast cq ca ex dv [some (.loc k), some (.int many), y2, none, none] (h.set k (penO cs p' g' (c + 1) f')) →
      ∃ (r : Int) (ob : Ob), (match o with | .rt d h' => finP h d h' | .nx _ h' => finP h .non h' | .ex e _ h' => .ex e h' | _ => .bad) = Rs.ok (.int r) (h.set k ob) ∧ 0 ≤ r ∧ r < many ∧ PenAt (h.set k ob) k n := by
    intro y2 p' g' f' z1 z2 z3 z4 o eo
    obtain ⟨r, g2, e, r0, r1, g3⟩ := last_okW cq ca ex dv C2 lk (cs := cs) (p := p') (g := g') (c := c + 1) (f := f') y2 z2 (by omega) (by omega) z3 z4 m0 m1
    rw [e] at eo
    subst eo
    refine ⟨r, penO cs p' g2 (c + 1) f', ?_, r0, r1, ⟨cs, p', g2, c + 1, f', pen_get lk, hl, z1, g3, by omega, by omega, z3, z4⟩⟩
    simp [finP]
  show ∃ (r : Int) (ob : Ob), (match bDraw fq fm cq ca ex dv [some (.loc k), some (.int many), none, none, none] h with | .rt d h' => finP h d h' | .nx _ h' => finP h .non h' | .ex e _ h' => .ex e h' | _ => .bad) = Rs.ok (.int r) (h.set k ob) ∧ 0 ≤ r ∧ r < many ∧ PenAt (h.set k ob) k n
  by_cases hb : g = 0 ∧ p < cs.length
  · obtain ⟨hg, hp1⟩ := hb
    subst hg
    obtain ⟨x, hx⟩ : ∃ x, cs[p.toNat]? = some x := ⟨cs[p.toNat]'(by omega), List.getElem?_eq_getElem (by omega)⟩
    have ix : ∀ h, oIx h (.fl (cs.map .int)) (.int p) = some (.int x) := fun h => ix_ints p0 hx
    have e10 : (10 : Int) ^ (18 : Int).toNat = 1000000000000000000 := by decide
    have a1 : mulOk f fq = true := mulOk_l (by omega) (by omega)
    by_cases hx1 : 1000000000000000000 ≤ x
    · refine done (some (.int x)) (p + 1) (x - 1000000000000000000) f (by omega) (by omega) f0 f1 _ ?_
      rw [eh]
      simp [bDraw, sStore, r_dig lk, w_dig lk, r_cnt lk, w_cnt lk, r_at lk, w_at lk, r_cells lk, hp1, ix, hx1, big, fnP, sSeq, sAsg, sRet, sIf, sPass, eV, Rs.out, Rs.bind, outO, gN, Y.e2, eC, aN, aC, oEq, eqD, oAdd, oSub, oLt, oGe, oPow, bLen, seqOf, lstOf, Y.tAnd, ofO, Y.tB, eB]
    · refine done (some (.int x)) (p + 1) 0 ((f * fq + x) % fm) (by omega) (by omega) (Int.emod_nonneg _ (by omega)) (Int.lt_of_lt_of_le (Int.emod_lt_of_pos _ q3) q4) _ ?_
      rw [eh]
      simp [bDraw, sStore, bInt, r_dig lk, w_fold lk, r_fold lk, r_cnt lk, w_cnt lk, r_at lk, w_at lk, r_cells lk, hp1, ix, hx1, a1, q3, big, fnP, sSeq, sAsg, sRet, sIf, sPass, eV, Rs.out, Rs.bind, outO, gN, Y.e2, eC, aN, aC, oEq, eqD, oAdd, oMul, oMod, oSub, oLt, oGe, oPow, bLen, seqOf, lstOf, Y.tAnd, ofO, Y.tB, eB]
  · refine done none p g f p0 g0 f0 f1 _ ?_
    rw [eh]
    by_cases hg : g = 0
    · have hp1 : ¬ p < cs.length := fun z => hb ⟨hg, z⟩
      simp [bDraw, sStore, r_dig lk, r_cnt lk, w_cnt lk, r_at lk, r_cells lk, hp1, hg, fnP, sSeq, sAsg, sRet, sIf, sPass, eV, Rs.out, Rs.bind, outO, gN, Y.e2, eC, aN, aC, oEq, eqD, oAdd, oSub, oLt, bLen, seqOf, lstOf, Y.tAnd, ofO, Y.tB, eB]
    · simp [bDraw, sStore, r_dig lk, r_cnt lk, w_cnt lk, hg, fnP, sSeq, sAsg, sRet, sIf, sPass, eV, Rs.out, Rs.bind, outO, gN, Y.e2, eC, aN, aC, oEq, eqD, oAdd, Y.tAnd, ofO, Y.tB, eB]
/-- what is wanted of a draw function, wide -/
def DrawsW (F : Fn) : Prop := ∀ {h : Hm} {k n : Nat}, PenAt h k (n + 1) → ∀ {many : Int}, 0 < many → Sm many → ∃ (r : Int) (o : Ob), F [.loc k, .int many] h = .ok (.int r) (h.set k o) ∧ 0 ≤ r ∧ r < many ∧ PenAt (h.set k o) k n
theorem sm_of {x : Int} (h1 : -10000000000000000000000000000000000000000 < x) (h2 : x < 10000000000000000000000000000000000000000) : Sm x := by
  have : x.natAbs < 10 ^ 40 := by omega
  exact Nat.lt_of_lt_of_le this (by decide +kernel)
theorem DrawsW.low {F : Fn} (hF : DrawsW F) : Draws F := fun hp _ m0 m1 => hF hp m0 (sm_of (by omega) (by omega))
end Y
end

section
set_option Elab.async false
set_option linter.all false
set_option maxRecDepth 100000
set_option maxHeartbeats 1000000
/-! N06a: what the program's functions make of rows of numbers. -/
namespace L06
open PySem Y L2
theorem zipm (f : Int → Int → Int) : ∀ xs ys : List Int, (List.zip xs ys).map (fun t => D.int (f t.1 t.2)) = (List.zipWith f xs ys).map .int
  | [], ys => by simp
  | x :: xs, [] => by simp
  | x :: xs, y :: ys => by simp [zipm f xs ys]
section
variable {h : Hm} {xs ys : List Int} {n : Nat}
theorem zip_T {a b : List D} : zipD [.tup a, .tup b] = some (pairsD a b) := rfl
theorem whole {x : Int} : d_is_whole [.int x] h = .ok (.bl true) h := by simp [d_is_whole, b_is_whole, fnP, fnK, startD, sSeq, sAsg, sPar, sRet, sRetN, sIf, sExpr, sPass, eV, Rs.out, Rs.bind, Rs.bindN, outO, gT, gTs, gN, Y.e1, Y.e2, eC, aN, aC, eTup, lLst, eFrz, eMut, oMul, oSub, oAdd, oEq, oNe, oLt, oLe, oGt, oGe, oIs, oIsNot, isN, oDiv, oMod, uNeg, uNot, uRev, eqD, ofO, finP, Y.tB, Y.tT, Y.tAnd, Y.tOr, Y.tNot, Y.tYes, eAnd, eOr, eIf, eCh, truth, eB, lB, eIs, eCall, lCall, instD, bLen, bInt, seqOf, lstOf, ownL, oIx, ixD, dctOf, atI, ixN, bMin, bMax, intsOf, minI, maxI, bAll, bAny, bools, lComp, compL, iA, unset, ll, Y.oFld, Y.isO, Y.oIn, Y.oNotIn, Y.sRaise, List.lookup, List.zip, List.zipWith]
theorem row_of (hl : xs.length ≤ 1000) : d_is_row_of [R xs, .int n] h = .ok (.bl (decide (xs.length = n))) h := by
  have c : compL (gN 2) tYes (eCall d_is_whole (aC (eV 2) aN)) [some (R xs), some (.int n), none] (xs.map .int) h = .ok (xs.map fun _ => .bl true) h :=
    compL_m .int (fun _ => .bl true) xs fun x m => ⟨_, rfl, by simp [eCall, aC, aN, eV, Rs.bind, whole]⟩
  have b : bools (xs.map fun _ => D.bl true) = some (xs.map fun _ => true) := bools_map (fun _ => true) xs
  have l : (xs.length ≤ line) = True := ll _ (by omega)
  unfold R at c
  by_cases e : xs.length = n
  · subst e
    simp [d_is_row_of, b_is_row_of, fnP, fnK, startD, sSeq, sAsg, sPar, sRet, sRetN, sIf, sExpr, sPass, eV, Rs.out, Rs.bind, Rs.bindN, outO, gT, gTs, gN, Y.e1, Y.e2, eC, aN, aC, eTup, lLst, eFrz, eMut, oMul, oSub, oAdd, oEq, oNe, oLt, oLe, oGt, oGe, oIs, oIsNot, isN, oDiv, oMod, uNeg, uNot, uRev, eqD, ofO, finP, Y.tB, Y.tT, Y.tAnd, Y.tOr, Y.tNot, Y.tYes, eAnd, eOr, eIf, eCh, truth, eB, lB, eIs, eCall, lCall, instD, bLen, bInt, seqOf, lstOf, ownL, oIx, ixD, dctOf, atI, ixN, bMin, bMax, intsOf, minI, maxI, bAll, bAny, bools, lComp, iA, unset, ll, Y.oFld, Y.isO, Y.oIn, Y.oNotIn, Y.sRaise, List.lookup, List.zip, List.zipWith, R, c, b, l]
  · have e' : ¬ ((xs.length : Int) = (n : Int)) := by omega
    simp [d_is_row_of, b_is_row_of, fnP, fnK, startD, sSeq, sAsg, sPar, sRet, sRetN, sIf, sExpr, sPass, eV, Rs.out, Rs.bind, Rs.bindN, outO, gT, gTs, gN, Y.e1, Y.e2, eC, aN, aC, eTup, lLst, eFrz, eMut, oMul, oSub, oAdd, oEq, oNe, oLt, oLe, oGt, oGe, oIs, oIsNot, isN, oDiv, oMod, uNeg, uNot, uRev, eqD, ofO, finP, Y.tB, Y.tT, Y.tAnd, Y.tOr, Y.tNot, Y.tYes, eAnd, eOr, eIf, eCh, truth, eB, lB, eIs, eCall, lCall, instD, bLen, bInt, seqOf, lstOf, ownL, oIx, ixD, dctOf, atI, ixN, bMin, bMax, intsOf, minI, maxI, bAll, bAny, bools, lComp, iA, unset, ll, Y.oFld, Y.isO, Y.oIn, Y.oNotIn, Y.sRaise, List.lookup, List.zip, List.zipWith, R, e, e']
theorem is_row (hl : xs.length ≤ 1000) : d_is_row [R xs] h = .ok (.bl true) h := by
  have r := row_of (h := h) (n := xs.length) hl
  unfold R at r
  simp [d_is_row, b_is_row, fnP, fnK, startD, sSeq, sAsg, sPar, sRet, sRetN, sIf, sExpr, sPass, eV, Rs.out, Rs.bind, Rs.bindN, outO, gT, gTs, gN, Y.e1, Y.e2, eC, aN, aC, eTup, lLst, eFrz, eMut, oMul, oSub, oAdd, oEq, oNe, oLt, oLe, oGt, oGe, oIs, oIsNot, isN, oDiv, oMod, uNeg, uNot, uRev, eqD, ofO, finP, Y.tB, Y.tT, Y.tAnd, Y.tOr, Y.tNot, Y.tYes, eAnd, eOr, eIf, eCh, truth, eB, lB, eIs, eCall, lCall, instD, bLen, bInt, seqOf, lstOf, ownL, oIx, ixD, dctOf, atI, ixN, bMin, bMax, intsOf, minI, maxI, bAll, bAny, bools, lComp, compL, iA, unset, ll, Y.oFld, Y.isO, Y.oIn, Y.oNotIn, Y.sRaise, List.lookup, List.zip, List.zipWith, R, r]
theorem need_row (hl : xs.length ≤ 1000) : d_need_row [R xs] h = .ok .non h := by simp [d_need_row, b_need_row, fnP, fnK, startD, sSeq, sAsg, sPar, sRet, sRetN, sIf, sExpr, sPass, eV, Rs.out, Rs.bind, Rs.bindN, outO, gT, gTs, gN, Y.e1, Y.e2, eC, aN, aC, eTup, lLst, eFrz, eMut, oMul, oSub, oAdd, oEq, oNe, oLt, oLe, oGt, oGe, oIs, oIsNot, isN, oDiv, oMod, uNeg, uNot, uRev, eqD, ofO, finP, Y.tB, Y.tT, Y.tAnd, Y.tOr, Y.tNot, Y.tYes, eAnd, eOr, eIf, eCh, truth, eB, lB, eIs, eCall, lCall, instD, bLen, bInt, seqOf, lstOf, ownL, oIx, ixD, dctOf, atI, ixN, bMin, bMax, intsOf, minI, maxI, bAll, bAny, bools, lComp, compL, iA, unset, ll, Y.oFld, Y.isO, Y.oIn, Y.oNotIn, Y.sRaise, List.lookup, List.zip, List.zipWith, is_row hl]
theorem need_two (h1 : xs.length = n) (h2 : ys.length = n) (hl : n ≤ 1000) : d_need_two_rows [R xs, R ys] h = .ok .non h := by
  have a := need_row (h := h) (xs := xs) (by omega)
  have b := need_row (h := h) (xs := ys) (by omega)
  have la : bLen h [R xs] = some (.int n) := by simp [bLen, R, seqOf, h1]
  have lb : bLen h [R ys] = some (.int n) := by simp [bLen, R, seqOf, h2]
  simp [d_need_two_rows, b_need_two_rows, b_need_two_rows_2, b_need_two_rows_1, fnP, fnK, startD, sSeq, sAsg, sPar, sRet, sRetN, sIf, sExpr, sPass, eV, Rs.out, Rs.bind, Rs.bindN, outO, gT, gTs, gN, Y.e1, Y.e2, eC, aN, aC, eTup, lLst, eFrz, eMut, oMul, oSub, oAdd, oEq, oNe, oLt, oLe, oGt, oGe, oIs, oIsNot, isN, oDiv, oMod, uNeg, uNot, uRev, eqD, ofO, finP, Y.tB, Y.tT, Y.tAnd, Y.tOr, Y.tNot, Y.tYes, eAnd, eOr, eIf, eCh, truth, eB, lB, eIs, eCall, lCall, instD, bInt, seqOf, lstOf, ownL, oIx, ixD, dctOf, atI, ixN, bMin, bMax, intsOf, minI, maxI, bAll, bAny, bools, lComp, compL, iA, unset, ll, Y.oFld, Y.isO, Y.oIn, Y.oNotIn, Y.sRaise, List.lookup, List.zip, List.zipWith, a, b, la, lb]
def dotI (xs ys : List Int) : Int := (List.zipWith (· * ·) xs ys).sum
theorem zip_comp (f : Int → Int → Int) {e : Ev} {σ : Sl} (he : ∀ x ∈ xs, ∀ y ∈ ys, ∀ σ1, gT [gN 2, gN 3] (.tup [.int x, .int y]) σ = some σ1 → e σ1 h = .ok (.int (f x y)) h) (hg : ∀ x y, ∃ σ1, gT [gN 2, gN 3] (.tup [x, y]) σ = some σ1) :
    compL (gT [gN 2, gN 3]) tYes e σ (pairsD (xs.map .int) (ys.map .int)) h = .ok ((List.zipWith f xs ys).map .int) h := by
  rw [pairs_map, ← zipm]
  refine compL_m (α := Int × Int) (fun t => .tup [.int t.1, .int t.2]) (fun t => .int (f t.1 t.2)) _ fun t m => ?_
  obtain ⟨σ1, e1⟩ := hg (.int t.1) (.int t.2)
  exact ⟨σ1, e1, he _ (List.of_mem_zip m).1 _ (List.of_mem_zip m).2 _ e1⟩
theorem dot (hm : ∀ x ∈ xs, ∀ y ∈ ys, mulOk x y = true) (hl : xs.length ≤ 1000) : d_dot [R xs, R ys] h = .ok (.int (dotI xs ys)) h := by
  have c : compL (gT [gN 2, gN 3]) tYes (Y.e2 oMul (eV 2) (eV 3)) [some (R xs), some (R ys), none, none] (pairsD (xs.map .int) (ys.map .int)) h = .ok ((List.zipWith (· * ·) xs ys).map .int) h :=
    zip_comp (· * ·) (fun x mx y my σ1 e => by cases e; simp [Y.e2, eV, Rs.bind, oMul, hm x mx y my, ofO]) (fun x y => ⟨_, rfl⟩)
  have l : ((List.zipWith (· * ·) xs ys).length ≤ line) = True := ll _ (by rw [List.length_zipWith]; omega)
  rw [List.length_zipWith] at l
  simp [d_dot, b_dot, fnP, fnK, startD, sSeq, sAsg, sPar, sRet, sRetN, sIf, sExpr, sPass, eV, Rs.out, Rs.bind, Rs.bindN, outO, Y.e1, Y.e2, eC, aN, aC, eTup, lLst, eFrz, eMut, oMul, oSub, oAdd, oEq, oNe, oLt, oLe, oGt, oGe, oIs, oIsNot, isN, oDiv, oMod, uNeg, uNot, uRev, eqD, ofO, finP, Y.tB, Y.tT, Y.tAnd, Y.tOr, Y.tNot, Y.tYes, eAnd, eOr, eIf, eCh, truth, eB, lB, eIs, eCall, lCall, instD, bLen, bInt, seqOf, lstOf, ownL, oIx, ixD, dctOf, atI, ixN, bMin, bMax, intsOf, minI, maxI, bAll, bAny, bools, lComp, iA, unset, ll, Y.oFld, Y.isO, Y.oIn, Y.oNotIn, Y.sRaise, List.lookup, List.zip, List.zipWith, iZipD, zip_R, c, l, bSum, ints_map, dotI, -List.map_zipWith]
theorem plus_in (hl : xs.length ≤ 1000) : d_plus_in [R xs, R ys] h = .ok (R (List.zipWith (· + ·) xs ys)) h := by
  have c : compL (gT [gN 2, gN 3]) tYes (Y.e2 oAdd (eV 2) (eV 3)) [some (R xs), some (R ys), none, none] (pairsD (xs.map .int) (ys.map .int)) h = .ok ((List.zipWith (· + ·) xs ys).map .int) h :=
    zip_comp (· + ·) (fun x mx y my σ1 e => by cases e; simp [Y.e2, eV, Rs.bind, oAdd, ofO]) (fun x y => ⟨_, rfl⟩)
  have l : ((List.zipWith (· + ·) xs ys).length ≤ line) = True := ll _ (by rw [List.length_zipWith]; omega)
  rw [List.length_zipWith] at l
  unfold R at c
  simp [d_plus_in, b_plus_in, fnP, fnK, startD, sSeq, sAsg, sPar, sRet, sRetN, sIf, sExpr, sPass, eV, Rs.out, Rs.bind, Rs.bindN, outO, Y.e1, Y.e2, eC, aN, aC, eTup, lLst, eFrz, eMut, oMul, oSub, oAdd, oEq, oNe, oLt, oLe, oGt, oGe, oIs, oIsNot, isN, oDiv, oMod, uNeg, uNot, uRev, eqD, ofO, finP, Y.tB, Y.tT, Y.tAnd, Y.tOr, Y.tNot, Y.tYes, eAnd, eOr, eIf, eCh, truth, eB, lB, eIs, eCall, lCall, instD, bLen, bInt, seqOf, lstOf, ownL, oIx, ixD, dctOf, atI, ixN, bMin, bMax, intsOf, minI, maxI, bAll, bAny, bools, lComp, iA, unset, ll, Y.oFld, Y.isO, Y.oIn, Y.oNotIn, Y.sRaise, List.lookup, List.zip, List.zipWith, iZipD, zip_T, c, l, bTuple, R, -List.map_zipWith]
theorem minus_in (hl : xs.length ≤ 1000) : d_minus_in [R xs, R ys] h = .ok (R (List.zipWith (· - ·) xs ys)) h := by
  have c : compL (gT [gN 2, gN 3]) tYes (Y.e2 oSub (eV 2) (eV 3)) [some (R xs), some (R ys), none, none] (pairsD (xs.map .int) (ys.map .int)) h = .ok ((List.zipWith (· - ·) xs ys).map .int) h :=
    zip_comp (· - ·) (fun x mx y my σ1 e => by cases e; simp [Y.e2, eV, Rs.bind, oSub, ofO]) (fun x y => ⟨_, rfl⟩)
  have l : ((List.zipWith (· - ·) xs ys).length ≤ line) = True := ll _ (by rw [List.length_zipWith]; omega)
  rw [List.length_zipWith] at l
  unfold R at c
  simp [d_minus_in, b_minus_in, fnP, fnK, startD, sSeq, sAsg, sPar, sRet, sRetN, sIf, sExpr, sPass, eV, Rs.out, Rs.bind, Rs.bindN, outO, Y.e1, Y.e2, eC, aN, aC, eTup, lLst, eFrz, eMut, oMul, oSub, oAdd, oEq, oNe, oLt, oLe, oGt, oGe, oIs, oIsNot, isN, oDiv, oMod, uNeg, uNot, uRev, eqD, ofO, finP, Y.tB, Y.tT, Y.tAnd, Y.tOr, Y.tNot, Y.tYes, eAnd, eOr, eIf, eCh, truth, eB, lB, eIs, eCall, lCall, instD, bLen, bInt, seqOf, lstOf, ownL, oIx, ixD, dctOf, atI, ixN, bMin, bMax, intsOf, minI, maxI, bAll, bAny, bools, lComp, iA, unset, ll, Y.oFld, Y.isO, Y.oIn, Y.oNotIn, Y.sRaise, List.lookup, List.zip, List.zipWith, iZipD, zip_T, c, l, bTuple, R, -List.map_zipWith]
theorem times_in {k : Int} (hm : ∀ x ∈ xs, mulOk k x = true) (hl : xs.length ≤ 1000) : d_times_row_in [R xs, .int k] h = .ok (R (xs.map (k * ·))) h := by
  have c : compL (gN 2) tYes (Y.e2 oMul (eV 1) (eV 2)) [some (R xs), some (.int k), none] (xs.map .int) h = .ok (xs.map fun x => .int (k * x)) h :=
    compL_m .int (fun x => .int (k * x)) xs fun x m => ⟨_, rfl, by simp [Y.e2, eV, Rs.bind, oMul, hm x m, ofO]⟩
  have l : (xs.length ≤ line) = True := ll _ (by omega)
  unfold R at c
  simp [d_times_row_in, b_times_row_in, fnP, fnK, startD, sSeq, sAsg, sPar, sRet, sRetN, sIf, sExpr, sPass, eV, Rs.out, Rs.bind, Rs.bindN, outO, gT, gTs, gN, Y.e1, Y.e2, eC, aN, aC, eTup, lLst, eFrz, eMut, oMul, oSub, oAdd, oEq, oNe, oLt, oLe, oGt, oGe, oIs, oIsNot, isN, oDiv, oMod, uNeg, uNot, uRev, eqD, ofO, finP, Y.tB, Y.tT, Y.tAnd, Y.tOr, Y.tNot, Y.tYes, eAnd, eOr, eIf, eCh, truth, eB, lB, eIs, eCall, lCall, instD, bLen, bInt, seqOf, lstOf, ownL, oIx, ixD, dctOf, atI, ixN, bMin, bMax, intsOf, minI, maxI, bAll, bAny, bools, lComp, iA, unset, ll, Y.oFld, Y.isO, Y.oIn, Y.oNotIn, Y.sRaise, List.lookup, List.zip, List.zipWith, R, c, l, bTuple]
theorem product_of (h1 : xs.length = n) (h2 : ys.length = n) (hl : n ≤ 1000) (hm : ∀ x ∈ xs, ∀ y ∈ ys, mulOk x y = true) : d_product_of [R xs, R ys] h = .ok (.int (dotI xs ys)) h := by
  simp [d_product_of, b_product_of, b_product_of_1, fnP, fnK, startD, sSeq, sAsg, sPar, sRet, sRetN, sIf, sExpr, sPass, eV, Rs.out, Rs.bind, Rs.bindN, outO, gT, gTs, gN, Y.e1, Y.e2, eC, aN, aC, eTup, lLst, eFrz, eMut, oMul, oSub, oAdd, oEq, oNe, oLt, oLe, oGt, oGe, oIs, oIsNot, isN, oDiv, oMod, uNeg, uNot, uRev, eqD, ofO, finP, Y.tB, Y.tT, Y.tAnd, Y.tOr, Y.tNot, Y.tYes, eAnd, eOr, eIf, eCh, truth, eB, lB, eIs, eCall, lCall, instD, bLen, bInt, seqOf, lstOf, ownL, oIx, ixD, dctOf, atI, ixN, bMin, bMax, intsOf, minI, maxI, bAll, bAny, bools, lComp, compL, iA, unset, ll, Y.oFld, Y.isO, Y.oIn, Y.oNotIn, Y.sRaise, List.lookup, List.zip, List.zipWith, need_two h1 h2 hl, dot hm (by omega)]
theorem square_sum (hl : xs.length ≤ 1000) (hm : ∀ x ∈ xs, ∀ y ∈ xs, mulOk x y = true) : d_square_sum [R xs] h = .ok (.int (dotI xs xs)) h := by
  simp [d_square_sum, b_square_sum, b_square_sum_1, fnP, fnK, startD, sSeq, sAsg, sPar, sRet, sRetN, sIf, sExpr, sPass, eV, Rs.out, Rs.bind, Rs.bindN, outO, gT, gTs, gN, Y.e1, Y.e2, eC, aN, aC, eTup, lLst, eFrz, eMut, oMul, oSub, oAdd, oEq, oNe, oLt, oLe, oGt, oGe, oIs, oIsNot, isN, oDiv, oMod, uNeg, uNot, uRev, eqD, ofO, finP, Y.tB, Y.tT, Y.tAnd, Y.tOr, Y.tNot, Y.tYes, eAnd, eOr, eIf, eCh, truth, eB, lB, eIs, eCall, lCall, instD, bLen, bInt, seqOf, lstOf, ownL, oIx, ixD, dctOf, atI, ixN, bMin, bMax, intsOf, minI, maxI, bAll, bAny, bools, lComp, compL, iA, unset, ll, Y.oFld, Y.isO, Y.oIn, Y.oNotIn, Y.sRaise, List.lookup, List.zip, List.zipWith, need_row hl, dot hm hl]
theorem plus (h1 : xs.length = n) (h2 : ys.length = n) (hl : n ≤ 1000) : d_plus [R xs, R ys] h = .ok (R (List.zipWith (· + ·) xs ys)) h := by
  simp [d_plus, b_plus, b_plus_1, fnP, fnK, startD, sSeq, sAsg, sPar, sRet, sRetN, sIf, sExpr, sPass, eV, Rs.out, Rs.bind, Rs.bindN, outO, gT, gTs, gN, Y.e1, Y.e2, eC, aN, aC, eTup, lLst, eFrz, eMut, oMul, oSub, oAdd, oEq, oNe, oLt, oLe, oGt, oGe, oIs, oIsNot, isN, oDiv, oMod, uNeg, uNot, uRev, eqD, ofO, finP, Y.tB, Y.tT, Y.tAnd, Y.tOr, Y.tNot, Y.tYes, eAnd, eOr, eIf, eCh, truth, eB, lB, eIs, eCall, lCall, instD, bLen, bInt, seqOf, lstOf, ownL, oIx, ixD, dctOf, atI, ixN, bMin, bMax, intsOf, minI, maxI, bAll, bAny, bools, lComp, compL, iA, unset, ll, Y.oFld, Y.isO, Y.oIn, Y.oNotIn, Y.sRaise, List.lookup, List.zip, List.zipWith, need_two h1 h2 hl, plus_in (xs := xs) (ys := ys) (by omega)]
theorem minus (h1 : xs.length = n) (h2 : ys.length = n) (hl : n ≤ 1000) : d_minus [R xs, R ys] h = .ok (R (List.zipWith (· - ·) xs ys)) h := by
  simp [d_minus, b_minus, b_minus_1, fnP, fnK, startD, sSeq, sAsg, sPar, sRet, sRetN, sIf, sExpr, sPass, eV, Rs.out, Rs.bind, Rs.bindN, outO, gT, gTs, gN, Y.e1, Y.e2, eC, aN, aC, eTup, lLst, eFrz, eMut, oMul, oSub, oAdd, oEq, oNe, oLt, oLe, oGt, oGe, oIs, oIsNot, isN, oDiv, oMod, uNeg, uNot, uRev, eqD, ofO, finP, Y.tB, Y.tT, Y.tAnd, Y.tOr, Y.tNot, Y.tYes, eAnd, eOr, eIf, eCh, truth, eB, lB, eIs, eCall, lCall, instD, bLen, bInt, seqOf, lstOf, ownL, oIx, ixD, dctOf, atI, ixN, bMin, bMax, intsOf, minI, maxI, bAll, bAny, bools, lComp, compL, iA, unset, ll, Y.oFld, Y.isO, Y.oIn, Y.oNotIn, Y.sRaise, List.lookup, List.zip, List.zipWith, need_two h1 h2 hl, minus_in (xs := xs) (ys := ys) (by omega)]
theorem times_row {k : Int} (hl : xs.length ≤ 1000) (hm : ∀ x ∈ xs, mulOk k x = true) : d_times_row [R xs, .int k] h = .ok (R (xs.map (k * ·))) h := by
  simp [d_times_row, b_times_row, b_times_row_2, b_times_row_1, fnP, fnK, startD, sSeq, sAsg, sPar, sRet, sRetN, sIf, sExpr, sPass, eV, Rs.out, Rs.bind, Rs.bindN, outO, gT, gTs, gN, Y.e1, Y.e2, eC, aN, aC, eTup, lLst, eFrz, eMut, oMul, oSub, oAdd, oEq, oNe, oLt, oLe, oGt, oGe, oIs, oIsNot, isN, oDiv, oMod, uNeg, uNot, uRev, eqD, ofO, finP, Y.tB, Y.tT, Y.tAnd, Y.tOr, Y.tNot, Y.tYes, eAnd, eOr, eIf, eCh, truth, eB, lB, eIs, eCall, lCall, instD, bLen, bInt, seqOf, lstOf, ownL, oIx, ixD, dctOf, atI, ixN, bMin, bMax, intsOf, minI, maxI, bAll, bAny, bools, lComp, compL, iA, unset, ll, Y.oFld, Y.isO, Y.oIn, Y.oNotIn, Y.sRaise, List.lookup, List.zip, List.zipWith, need_row hl, whole, times_in hm hl]
/-- the common divisor -/
def gl (a : Nat) (xs : List Int) : Nat := xs.foldl (fun a x => Nat.gcd a x.natAbs) a
theorem content_loop {s0 : Option D} : ∀ (xs : List Int) (a : Nat) (s2 : Option D), ∃ s2', forL (gN 2) b_content_in_l1 (xs.map .int) [s0, some (.int a), s2] h = .nx [s0, some (.int (gl a xs : Nat)), s2'] h
  | [], a, s2 => ⟨s2, rfl⟩
  | x :: xs, a, s2 => by
    obtain ⟨s', e⟩ := content_loop (s0 := s0) xs (Nat.gcd a x.natAbs) (some (.int x))
    refine ⟨s', ?_⟩
    rw [gl, List.foldl_cons]
    rw [← gl, ← e]
    simp [forL, gN, b_content_in_l1, sAsg, eB, aC, aN, eV, Rs.bind, Rs.out, bGcd, ofO, outO]
theorem content_in : d_content_in [R xs] h = .ok (.int (gl 0 xs : Nat)) h := by
  obtain ⟨s', e⟩ := content_loop (h := h) (s0 := some (R xs)) xs 0 none
  have e' : forL (gN 2) b_content_in_l1 (xs.map .int) [some (.tup (xs.map .int)), some (.int 0), none] h = .nx [some (.tup (xs.map .int)), some (.int (gl 0 xs : Nat)), s'] h := e
  simp [d_content_in, b_content_in, b_content_in_2, b_content_in_1, fnP, fnK, startD, sSeq, sAsg, sPar, sRet, sRetN, sIf, sExpr, sPass, eV, Rs.out, Rs.bind, Rs.bindN, outO, gT, gTs, gN, Y.e1, Y.e2, eC, aN, aC, eTup, lLst, eFrz, eMut, oMul, oSub, oAdd, oEq, oNe, oLt, oLe, oGt, oGe, oIs, oIsNot, isN, oDiv, oMod, uNeg, uNot, uRev, eqD, ofO, finP, Y.tB, Y.tT, Y.tAnd, Y.tOr, Y.tNot, Y.tYes, eAnd, eOr, eIf, eCh, truth, eB, lB, eIs, eCall, lCall, instD, bLen, bInt, seqOf, lstOf, ownL, oIx, ixD, dctOf, atI, ixN, bMin, bMax, intsOf, minI, maxI, bAll, bAny, bools, lComp, compL, iA, unset, ll, Y.oFld, Y.isO, Y.oIn, Y.oNotIn, Y.sRaise, List.lookup, List.zip, List.zipWith, R, sFor, e']
theorem content (hl : xs.length ≤ 1000) : d_content [R xs] h = .ok (.int (gl 0 xs : Nat)) h := by simp [d_content, b_content, b_content_1, fnP, fnK, startD, sSeq, sAsg, sPar, sRet, sRetN, sIf, sExpr, sPass, eV, Rs.out, Rs.bind, Rs.bindN, outO, gT, gTs, gN, Y.e1, Y.e2, eC, aN, aC, eTup, lLst, eFrz, eMut, oMul, oSub, oAdd, oEq, oNe, oLt, oLe, oGt, oGe, oIs, oIsNot, isN, oDiv, oMod, uNeg, uNot, uRev, eqD, ofO, finP, Y.tB, Y.tT, Y.tAnd, Y.tOr, Y.tNot, Y.tYes, eAnd, eOr, eIf, eCh, truth, eB, lB, eIs, eCall, lCall, instD, bLen, bInt, seqOf, lstOf, ownL, oIx, ixD, dctOf, atI, ixN, bMin, bMax, intsOf, minI, maxI, bAll, bAny, bools, lComp, compL, iA, unset, ll, Y.oFld, Y.isO, Y.oIn, Y.oNotIn, Y.sRaise, List.lookup, List.zip, List.zipWith, need_row hl, content_in]
theorem gl_dvd : ∀ (xs : List Int) (a : Nat), gl a xs ∣ a ∧ ∀ x ∈ xs, (gl a xs : Int) ∣ x
  | [], a => ⟨Nat.dvd_refl _, by simp⟩
  | x :: xs, a => by
    obtain ⟨i1, i2⟩ := gl_dvd xs (Nat.gcd a x.natAbs)
    refine ⟨Nat.dvd_trans i1 (Nat.gcd_dvd_left _ _), fun y m => ?_⟩
    rcases List.mem_cons.mp m with rfl | m
    · exact Int.ofNat_dvd_left.mpr (Nat.dvd_trans i1 (Nat.gcd_dvd_right _ _))
    · exact i2 y m
theorem gl_zero : ∀ (xs : List Int) (a : Nat), (∀ x ∈ xs, x = 0) → gl a xs = a
  | [], a, _ => rfl
  | x :: xs, a, h => by
    have : x = 0 := h x List.mem_cons_self
    subst this
    simp only [gl, List.foldl_cons]
    have := gl_zero xs a fun y m => h y (List.mem_cons_of_mem _ m)
    simpa [gl] using this
/-- what plain gives -/
def plainI (xs : List Int) : List Int := if gl 0 xs = 0 then xs else if 0 < (xs.filter (fun x => decide (x ≠ 0))).headD 0 then xs.map (· / (gl 0 xs : Nat)) else xs.map (fun x => -x / (gl 0 xs : Nat))
theorem ix0 {d : D} {ds : List D} : oIx h (.fl (d :: ds)) (.int 0) = some d := by
  have := ix_fl (h := h) (xs := d :: ds) (i := 0)
  simpa using this
theorem plain_in (hl : xs.length ≤ 1000) (hs : ∀ x ∈ xs, Sm x) (hg : Sm (gl 0 xs : Nat)) : d_plain_in [R xs] h = .ok (R (plainI xs)) h := by
  by_cases g0 : gl 0 xs = 0
  · have : (gl 0 xs : Int) = 0 := by omega
    simp [d_plain_in, b_plain_in, b_plain_in_3, b_plain_in_2, b_plain_in_1, fnP, fnK, startD, sSeq, sAsg, sPar, sRet, sRetN, sIf, sExpr, sPass, eV, Rs.out, Rs.bind, Rs.bindN, outO, gT, gTs, gN, Y.e1, Y.e2, eC, aN, aC, eTup, lLst, eFrz, eMut, oMul, oSub, oAdd, oEq, oNe, oLt, oLe, oGt, oGe, oIs, oIsNot, isN, oDiv, oMod, uNeg, uNot, uRev, eqD, ofO, finP, Y.tB, Y.tT, Y.tAnd, Y.tOr, Y.tNot, Y.tYes, eAnd, eOr, eIf, eCh, truth, eB, lB, eIs, eCall, lCall, instD, bLen, bInt, seqOf, lstOf, ownL, oIx, ixD, dctOf, atI, ixN, bMin, bMax, intsOf, minI, maxI, bAll, bAny, bools, lComp, compL, iA, unset, ll, Y.oFld, Y.isO, Y.oIn, Y.oNotIn, Y.sRaise, List.lookup, List.zip, List.zipWith, content_in, this, plainI, g0]
  · have g0' : ¬ ((gl 0 xs : Int) = 0) := by omega
    have gp : (0 : Int) < (gl 0 xs : Nat) := by omega
    have c1 : compL (gN 3) (Y.tT (eV 3)) (eV 3) [some (R xs), some (.int (gl 0 xs : Nat)), none, none] (xs.map .int) h = .ok ((xs.filter fun x => decide (x ≠ 0)).map .int) h :=
      compL_fm .int (fun x => decide (x ≠ 0)) .int xs fun x m => ⟨_, rfl, by simp [Y.tT, eV, Rs.bind, truth, ofO], fun _ => rfl⟩
    obtain ⟨y, r, ey⟩ : ∃ y r, (xs.filter fun x => decide (x ≠ 0)) = y :: r := by
      cases e : xs.filter fun x => decide (x ≠ 0) with
      | cons y r => exact ⟨y, r, rfl⟩
      | nil =>
        refine absurd (gl_zero xs 0 fun x m => ?_) g0
        have := List.filter_eq_nil_iff.mp e x m
        simpa using this
    rw [ey] at c1
    have c2 : compL (gN 3) Y.tYes (eIf (Y.tB (Y.e2 oGt (eV 2) (eC (.int 0)))) (Y.e2 oDiv (eV 3) (eV 1)) (Y.e2 oDiv (Y.e1 uNeg (eV 3)) (eV 1))) [some (R xs), some (.int (gl 0 xs : Nat)), some (.int y), none] (xs.map .int) h = .ok (xs.map fun x => .int (if 0 < y then x / (gl 0 xs : Nat) else -x / (gl 0 xs : Nat))) h :=
      compL_m .int (fun x => .int (if 0 < y then x / (gl 0 xs : Nat) else -x / (gl 0 xs : Nat))) xs fun x m => ⟨_, rfl, by
        by_cases hy : 0 < y <;> simp [eIf, Y.tB, Y.e2, Y.e1, eV, eC, Rs.bind, oGt, ofO, uNeg, hy, div_sm gp hg]⟩
    have l : (xs.length ≤ line) = True := ll _ (by omega)
    have l2 : ((y :: r).length ≤ line) = True := ll _ (by rw [← ey]; have := List.length_filter_le (fun x => decide (x ≠ 0)) xs; omega)
    have l3 : r.length + 1 ≤ line := by simpa using l2
    have fin : (xs.map fun x => D.int (if 0 < y then x / (gl 0 xs : Nat) else -x / (gl 0 xs : Nat))) = (plainI xs).map .int := by
      unfold plainI
      rw [if_neg g0, ey]
      by_cases hy : 0 < y <;> simp [hy]
    have ci := content_in (h := h) (xs := xs)
    unfold R at c1 c2 ci
    simp only [List.map_cons] at c1
    rw [fin] at c2
    have lp : (plainI xs).length = xs.length := by unfold plainI; split; rfl; split <;> simp
    simp [d_plain_in, b_plain_in, b_plain_in_3, b_plain_in_2, b_plain_in_1, fnP, fnK, startD, sSeq, sAsg, sPar, sRet, sRetN, sIf, sExpr, sPass, eV, Rs.out, Rs.bind, Rs.bindN, outO, gT, gTs, gN, Y.e1, Y.e2, eC, aN, aC, eTup, lLst, eFrz, eMut, oMul, oSub, oAdd, oEq, oNe, oLt, oLe, oGt, oGe, oIs, oIsNot, isN, oDiv, oMod, uNeg, uNot, uRev, eqD, ofO, finP, Y.tB, Y.tT, Y.tAnd, Y.tOr, Y.tNot, Y.tYes, eAnd, eOr, eIf, eCh, truth, eB, lB, eIs, eCall, lCall, instD, bLen, bInt, seqOf, lstOf, ownL, oIx, ixD, dctOf, atI, ixN, bMin, bMax, intsOf, minI, maxI, bAll, bAny, bools, lComp, iA, unset, ll, Y.oFld, Y.isO, Y.oIn, Y.oNotIn, Y.sRaise, List.lookup, List.zip, List.zipWith, ci, g0, g0', c1, c2, l, l3, lp, R, bTuple, ix0]
theorem plain (hl : xs.length ≤ 1000) (hs : ∀ x ∈ xs, Sm x) (hg : Sm (gl 0 xs : Nat)) : d_plain [R xs] h = .ok (R (plainI xs)) h := by simp [d_plain, b_plain, b_plain_1, fnP, fnK, startD, sSeq, sAsg, sPar, sRet, sRetN, sIf, sExpr, sPass, eV, Rs.out, Rs.bind, Rs.bindN, outO, gT, gTs, gN, Y.e1, Y.e2, eC, aN, aC, eTup, lLst, eFrz, eMut, oMul, oSub, oAdd, oEq, oNe, oLt, oLe, oGt, oGe, oIs, oIsNot, isN, oDiv, oMod, uNeg, uNot, uRev, eqD, ofO, finP, Y.tB, Y.tT, Y.tAnd, Y.tOr, Y.tNot, Y.tYes, eAnd, eOr, eIf, eCh, truth, eB, lB, eIs, eCall, lCall, instD, bLen, bInt, seqOf, lstOf, ownL, oIx, ixD, dctOf, atI, ixN, bMin, bMax, intsOf, minI, maxI, bAll, bAny, bools, lComp, compL, iA, unset, ll, Y.oFld, Y.isO, Y.oIn, Y.oNotIn, Y.sRaise, List.lookup, List.zip, List.zipWith, need_row hl, plain_in hl hs hg]
end
end L06
end

section
set_option Elab.async false
set_option linter.all false
set_option maxRecDepth 100000
set_option maxHeartbeats 1000000
/-! N06b: mixed, tables of products, values. -/
namespace L06
open PySem Y L2
def Rs' (rows : List (List Int)) : D := .tup (rows.map R)
theorem small_n {n : Nat} (h : n ≤ 1000) : small (n : Int) = true := by
  unfold small
  refine decide_eq_true ?_
  rw [Int.natAbs_natCast]
  by_cases e : n = 0
  · subst e; decide
  · exact (Nat.log2_lt e).mpr (by omega)
theorem flat_len {k : Nat} {d : D} : ∀ is : List Nat, (∀ i ∈ is, i ≤ k) → (is.flatMap fun i => (List.range i).map fun _ => d).length ≤ is.length * k
  | [], _ => by simp
  | i :: is, h => by
    have i1 := flat_len (d := d) is fun j m => h j (List.mem_cons_of_mem _ m)
    have i2 := h i List.mem_cons_self
    rw [List.flatMap_cons, List.length_append, List.length_map, List.length_range, List.length_cons, Nat.add_mul]
    omega
theorem ixh {h : Hm} {rows : List (List Int)} (ne : rows ≠ []) : oIx h (.tup (rows.map R)) (.int 0) = some (R (rows.headD [])) := by
  cases rows with
  | nil => exact absurd rfl ne
  | cons a b =>
    have := ix_tup (h := h) (xs := (a :: b).map R) (i := 0)
    simpa using this
section
variable {h : Hm} {rows : List (List Int)} {ws : List Int} {n : Nat}
theorem are_rows (ne : rows ≠ []) (hr : ∀ r ∈ rows, r.length = n) (hn : n ≤ 1000) (hl : rows.length ≤ 1000) : d_are_rows [Rs' rows] h = .ok (.bl true) h := by
  have c1 : compL (gN 1) tYes (eCall d_is_row (aC (eV 1) aN)) [some (Rs' rows), none] (rows.map R) h = .ok (rows.map fun _ => .bl true) h :=
    compL_m R (fun _ => .bl true) rows fun r m => ⟨_, rfl, by simp [eCall, aC, aN, eV, Rs.bind, is_row (h := h) (xs := r) (by have := hr r m; omega)]⟩
  have hd : (rows.headD []).length = n := by
    cases rows with
    | nil => exact absurd rfl ne
    | cons a b => exact hr a List.mem_cons_self
  have lR : ∀ r : List Int, bLen h [R r] = some (.int r.length) := fun r => by simp [bLen, R, seqOf]
  have c2 : compL (gN 1) tYes (Y.e2 oEq (eB bLen (aC (eV 1) (aN))) (eB bLen (aC (Y.e2 oIx (eV 0) (eC (.int 0))) (aN)))) [some (Rs' rows), none] (rows.map R) h = .ok (rows.map fun _ => .bl true) h :=
    compL_m R (fun _ => .bl true) rows fun r m => ⟨_, rfl, by
      have e := hr r m
      have hd' : (rows.head?.getD []).length = n := by simpa using hd
      simp [Y.e2, eB, aC, aN, eV, eC, Rs.bind, Rs', ixh ne, ofO, lR, oEq, eqD, e, hd']⟩
  have b : bools (rows.map fun _ => D.bl true) = some (rows.map fun _ => true) := bools_map (fun _ => true) rows
  have l : (rows.length ≤ line) = True := ll _ (by omega)
  unfold Rs' at c1 c2
  simp [d_are_rows, b_are_rows, b_are_rows_1, fnP, fnK, startD, sSeq, sAsg, sPar, sRet, sRetN, sIf, sExpr, sPass, eV, Rs.out, Rs.bind, Rs.bindN, outO, gT, gTs, gN, Y.e1, Y.e2, eC, aN, aC, eTup, lLst, eFrz, eMut, oMul, oSub, oAdd, oEq, oNe, oLt, oLe, oGt, oGe, oIs, oIsNot, isN, oDiv, oMod, uNeg, uNot, uRev, eqD, ofO, finP, Y.tB, Y.tT, Y.tAnd, Y.tOr, Y.tNot, Y.tYes, eAnd, eOr, eIf, eCh, truth, eB, lB, eIs, eCall, lCall, instD, bLen, bInt, seqOf, lstOf, ownL, oIx, ixD, dctOf, atI, ixN, bMin, bMax, intsOf, minI, maxI, bAll, bAny, bools, lComp, iA, unset, ll, Y.oFld, Y.isO, Y.oIn, Y.oNotIn, Y.sRaise, List.lookup, List.zip, List.zipWith, Rs', c1, c2, b, l]
theorem need_rows (ne : rows ≠ []) (hr : ∀ r ∈ rows, r.length = n) (hn : n ≤ 1000) (hl : rows.length ≤ 1000) : d_need_rows [Rs' rows] h = .ok .non h := by simp [d_need_rows, b_need_rows, fnP, fnK, startD, sSeq, sAsg, sPar, sRet, sRetN, sIf, sExpr, sPass, eV, Rs.out, Rs.bind, Rs.bindN, outO, gT, gTs, gN, Y.e1, Y.e2, eC, aN, aC, eTup, lLst, eFrz, eMut, oMul, oSub, oAdd, oEq, oNe, oLt, oLe, oGt, oGe, oIs, oIsNot, isN, oDiv, oMod, uNeg, uNot, uRev, eqD, ofO, finP, Y.tB, Y.tT, Y.tAnd, Y.tOr, Y.tNot, Y.tYes, eAnd, eOr, eIf, eCh, truth, eB, lB, eIs, eCall, lCall, instD, bLen, bInt, seqOf, lstOf, ownL, oIx, ixD, dctOf, atI, ixN, bMin, bMax, intsOf, minI, maxI, bAll, bAny, bools, lComp, compL, iA, unset, ll, Y.oFld, Y.isO, Y.oIn, Y.oNotIn, Y.sRaise, List.lookup, List.zip, List.zipWith, are_rows ne hr hn hl]
/-- the weighted sum -/
def mixL (acc : List Int) (ts : List (List Int × Int)) : List Int := ts.foldl (fun acc t => List.zipWith (· + ·) acc (t.1.map (t.2 * ·))) acc
def SmR (r : List Int) : Prop := ∀ x ∈ r, x.natAbs ≤ 1000
theorem smk {x : Int} (h : x.natAbs ≤ 1000) : Sm x := Nat.lt_of_le_of_lt h (by decide +kernel)
theorem mul_k {x y : Int} (h1 : x.natAbs ≤ 1000) (h2 : y.natAbs ≤ 1000) : mulOk x y = true := mul_sm (smk h1) (smk h2)
theorem pairs_rw : ∀ (rows : List (List Int)) (ws : List Int), pairsD (rows.map R) (ws.map .int) = (List.zip rows ws).map fun t => .tup [R t.1, .int t.2]
  | [], _ => by simp [pairsD]
  | a :: b, [] => by simp [pairsD]
  | a :: b, x :: y => by simp [pairsD, pairs_rw b y]
theorem mix_loop {s0 s1 : Option D} : ∀ (ts : List (List Int × Int)) (acc : List Int) (s3 s4 : Option D), acc.length = n → n ≤ 1000 → (∀ t ∈ ts, t.1.length = n ∧ SmR t.1 ∧ t.2.natAbs ≤ 1000) → ∃ s3' s4',
    forL (gT [gN 3, gN 4]) b_mixed_in_l1 (ts.map fun t => .tup [R t.1, .int t.2]) [s0, s1, some (R acc), s3, s4] h = .nx [s0, s1, some (R (mixL acc ts)), s3', s4'] h ∧ (mixL acc ts).length = n
  | [], acc, s3, s4, e, _, _ => ⟨s3, s4, rfl, e⟩
  | t :: ts, acc, s3, s4, e, hn, ht => by
    obtain ⟨t1, t2, t3⟩ := ht t List.mem_cons_self
    obtain ⟨s3', s4', e1, e2⟩ := mix_loop (s0 := s0) (s1 := s1) ts (List.zipWith (· + ·) acc (t.1.map (t.2 * ·))) (some (R t.1)) (some (.int t.2)) (by simp [e, t1]) hn fun t m => ht t (List.mem_cons_of_mem _ m)
    refine ⟨s3', s4', ?_, e2⟩
    have a1 := times_in (h := h) (xs := t.1) (k := t.2) (fun x m => mul_k t3 (t2 x m)) (by omega)
    have a2 := plus_in (h := h) (xs := acc) (ys := t.1.map (t.2 * ·)) (by omega)
    have e1' : forL (gT [gN 3, gN 4]) b_mixed_in_l1 (ts.map fun t => .tup [R t.1, .int t.2]) [s0, s1, some (R (List.zipWith (· + ·) acc (t.1.map (t.2 * ·)))), some (R t.1), some (.int t.2)] h = .nx [s0, s1, some (R (mixL acc (t :: ts))), s3', s4'] h := e1
    rw [← e1', List.map_cons]
    have st : b_mixed_in_l1 [s0, s1, some (R acc), some (R t.1), some (.int t.2)] h = .nx [s0, s1, some (R (List.zipWith (· + ·) acc (t.1.map (t.2 * ·)))), some (R t.1), some (.int t.2)] h := by
      simp [b_mixed_in_l1, sAsg, eCall, aC, aN, eV, Rs.bind, Rs.out, a1, a2, gN, outO, -List.map_zipWith]
    simp [forL, gT, gTs, gN, st]
theorem zero_row (n : Nat) : (List.replicate n [D.int 0]).flatten = (List.replicate n (0 : Int)).map .int := by
  induction n with
  | zero => rfl
  | succ n ih => simp [List.replicate_succ, ih]
theorem mixed_in (ne : rows ≠ []) (hr : ∀ r ∈ rows, r.length = n ∧ SmR r) (hw : ∀ x ∈ ws, x.natAbs ≤ 1000) (hn : n ≤ 1000) {w : D} (hz : zipD [Rs' rows, w] = some (pairsD (rows.map R) (ws.map .int))) :
    d_mixed_in [Rs' rows, w] h = .ok (R (mixL (List.replicate n 0) (List.zip rows ws))) h ∧ (mixL (List.replicate n 0) (List.zip rows ws)).length = n := by
  obtain ⟨s3, s4, e1, e2⟩ := mix_loop (h := h) (s0 := some (Rs' rows)) (s1 := some w) (List.zip rows ws) (List.replicate n 0) none none (by simp) hn fun t m => by
    have m1 := (List.of_mem_zip m).1
    have m2 := (List.of_mem_zip m).2
    exact ⟨(hr _ m1).1, (hr _ m1).2, hw _ m2⟩
  refine ⟨?_, e2⟩
  rw [← pairs_rw] at e1
  have hd : (rows.headD []).length = n := by
    cases rows with
    | nil => exact absurd rfl ne
    | cons a b => exact (hr a List.mem_cons_self).1
  have lR : ∀ r : List Int, bLen h [R r] = some (.int r.length) := fun r => by simp [bLen, R, seqOf]
  have z : oMul h (.tup [.int 0]) (.int n) = some (R (List.replicate n 0)) := by
    have e : (List.replicate n [D.int 0]).flatten = _ := zero_row n
    simp only [oMul]
    rw [if_pos ⟨by omega, by omega, by simp, by simp⟩, Int.toNat_natCast, e]
    rfl
  have st : b_mixed_in [some (Rs' rows), some w, none, none, none] h = b_mixed_in_1 [some (Rs' rows), some w, some (R (List.replicate n 0)), none, none] h := by
    have hd' : (rows.head?.getD []).length = n := by simpa using hd
    simp [b_mixed_in, sSeq, sAsg, Y.e2, eTup, aC, aN, eC, eV, eB, Rs.bind, Rs.out, Rs', ixh ne, ofO, lR, hd', z, gN, outO, Y.ll]
  have st2 : b_mixed_in_1 [some (Rs' rows), some w, some (R (List.replicate n 0)), none, none] h = .rt (R (mixL (List.replicate n 0) (List.zip rows ws))) h := by
    simp [b_mixed_in_1, b_mixed_in_2, sSeq, sFor, iZipD, aC, aN, eV, Rs.bind, Rs.out, hz, ofO, e1, sRet]
  show (match b_mixed_in [some (Rs' rows), some w, none, none, none] h with | .rt d h' => finP h d h' | .nx _ h' => finP h .non h' | .ex e _ h' => .ex e h' | _ => .bad) = _
  rw [st, st2]
  exact fin_same
theorem mixed (ne : rows ≠ []) (hr : ∀ r ∈ rows, r.length = n ∧ SmR r) (hw : ∀ x ∈ ws, x.natAbs ≤ 1000) (hn : n ≤ 1000) (hl : rows.length ≤ 1000) (lw : ws.length = rows.length) {w : D} (hz : zipD [Rs' rows, w] = some (pairsD (rows.map R) (ws.map .int))) (ht : bTuple h [w] = some (R ws)) :
    d_mixed [Rs' rows, w] h = .ok (R (mixL (List.replicate n 0) (List.zip rows ws))) h := by
  have a1 := need_rows (h := h) ne (fun r m => (hr r m).1) hn hl
  have a2 := row_of (h := h) (xs := ws) (n := rows.length) (by omega)
  have a3 := (mixed_in (h := h) ne hr hw hn hz).1
  have lw' : decide (ws.length = rows.length) = true := decide_eq_true lw
  rw [lw'] at a2
  have lR : bLen h [Rs' rows] = some (.int rows.length) := by simp [bLen, Rs', seqOf]
  have tr : truth h (Rs' rows) = some true := by cases rows with
    | nil => exact absurd rfl ne
    | cons a b => rfl
  have tb : truth h (.bl true) = some true := rfl
  simp [d_mixed, b_mixed, b_mixed_3, b_mixed_2, b_mixed_1, fnP, fnK, startD, sSeq, sAsg, sPar, sRet, sRetN, sIf, sExpr, sPass, eV, Rs.out, Rs.bind, Rs.bindN, outO, gT, gTs, gN, Y.e1, Y.e2, eC, aN, aC, eTup, lLst, eFrz, eMut, oMul, oSub, oAdd, oEq, oNe, oLt, oLe, oGt, oGe, oIs, oIsNot, isN, oDiv, oMod, uNeg, uNot, uRev, eqD, ofO, finP, Y.tB, Y.tT, Y.tAnd, Y.tOr, Y.tNot, Y.tYes, eAnd, eOr, eIf, eCh, eB, lB, eIs, eCall, lCall, instD, bInt, seqOf, lstOf, ownL, oIx, ixD, dctOf, atI, ixN, bMin, bMax, intsOf, minI, maxI, bAll, bAny, bools, lComp, compL, iA, unset, ll, Y.oFld, Y.isO, Y.oIn, Y.oNotIn, Y.sRaise, List.lookup, List.zip, List.zipWith, a1, ht, lR, a2, tr, tb, a3]
/-! ### the table of products -/
def tabL (rows : List (List Int)) : List (List Int) := rows.map fun a => rows.map fun b => dotI a b
theorem products_in (hr : ∀ r ∈ rows, r.length ≤ 1000 ∧ SmR r) (hl : rows.length ≤ 1000) : d_products_in [Rs' rows] h = .ok (Rs' (tabL rows)) h := by
  have l : (rows.length ≤ line) = True := ll _ (by omega)
  have c1 : ∀ a ∈ rows, compL (gN 2) tYes (eCall d_dot (aC (eV 1) (aC (eV 2) aN))) [some (Rs' rows), some (R a), none] (rows.map R) h = .ok (rows.map fun b => .int (dotI a b)) h := fun a ma =>
    compL_m R (fun b => .int (dotI a b)) rows fun b mb => ⟨_, rfl, by
      have := dot (h := h) (xs := a) (ys := b) (fun x mx y my => mul_k ((hr a ma).2 x mx) ((hr b mb).2 y my)) (hr a ma).1
      simp [eCall, aC, aN, eV, Rs.bind, this]⟩
  have c2 : compL (gN 1) tYes (eB bTuple (aC (eFrz (lComp (iA (eV 0)) (gN 2) tYes (eCall d_dot (aC (eV 1) (aC (eV 2) aN))) [2])) aN)) [some (Rs' rows), none, none] (rows.map R) h = .ok (rows.map fun a => R (rows.map fun b => dotI a b)) h :=
    compL_m R (fun a => R (rows.map fun b => dotI a b)) rows fun a ma => ⟨_, rfl, by
      have := c1 a ma
      unfold Rs' at this
      have bt : bTuple h [.fl (rows.map fun b => .int (dotI a b))] = some (R (rows.map fun b => dotI a b)) := by simp [bTuple, lstOf, R]
      simp [eB, aC, aN, eFrz, lComp, iA, eV, unset, Rs.bind, Rs', this, l, ofO, bt]⟩
  unfold Rs' at c2
  have bt : bTuple h [.fl (rows.map fun a => R (rows.map fun b => dotI a b))] = some (Rs' (tabL rows)) := by simp [bTuple, lstOf, Rs', tabL]
  simp only [Rs'] at bt ⊢
  simp [d_products_in, b_products_in, fnP, fnK, startD, sSeq, sAsg, sPar, sRet, sRetN, sIf, sExpr, sPass, eV, Rs.out, Rs.bind, Rs.bindN, outO, gT, gTs, gN, Y.e1, Y.e2, eC, aN, aC, eTup, lLst, eMut, oMul, oSub, oAdd, oEq, oNe, oLt, oLe, oGt, oGe, oIs, oIsNot, isN, oDiv, oMod, uNeg, uNot, uRev, eqD, ofO, finP, Y.tB, Y.tT, Y.tAnd, Y.tOr, Y.tNot, Y.tYes, eAnd, eOr, eIf, eCh, truth, eB, lB, eIs, eCall, lCall, instD, bLen, bInt, seqOf, lstOf, ownL, oIx, ixD, dctOf, atI, ixN, bMin, bMax, intsOf, minI, maxI, bAll, bAny, bools, lComp, iA, unset, ll, Y.oFld, Y.isO, Y.oIn, Y.oNotIn, Y.sRaise, List.lookup, List.zip, List.zipWith, eFrz, c2, l, bt, -List.map_map]
theorem products_table (ne : rows ≠ []) (hr : ∀ r ∈ rows, r.length = n ∧ SmR r) (hn : n ≤ 1000) (hl : rows.length ≤ 1000) : d_products_table [Rs' rows] h = .ok (Rs' (tabL rows)) h := by
  simp [d_products_table, b_products_table, b_products_table_1, fnP, fnK, startD, sSeq, sAsg, sPar, sRet, sRetN, sIf, sExpr, sPass, eV, Rs.out, Rs.bind, Rs.bindN, outO, gT, gTs, gN, Y.e1, Y.e2, eC, aN, aC, eTup, lLst, eFrz, eMut, oMul, oSub, oAdd, oEq, oNe, oLt, oLe, oGt, oGe, oIs, oIsNot, isN, oDiv, oMod, uNeg, uNot, uRev, eqD, ofO, finP, Y.tB, Y.tT, Y.tAnd, Y.tOr, Y.tNot, Y.tYes, eAnd, eOr, eIf, eCh, truth, eB, lB, eIs, eCall, lCall, instD, bLen, bInt, seqOf, lstOf, ownL, oIx, ixD, dctOf, atI, ixN, bMin, bMax, intsOf, minI, maxI, bAll, bAny, bools, lComp, compL, iA, unset, ll, Y.oFld, Y.isO, Y.oIn, Y.oNotIn, Y.sRaise, List.lookup, List.zip, List.zipWith, need_rows ne (fun r m => (hr r m).1) hn hl, products_in (fun r m => ⟨by have := (hr r m).1; omega, (hr r m).2⟩) hl]
theorem dotI_comm : ∀ a b : List Int, dotI a b = dotI b a
  | [], b => by simp [dotI]
  | x :: a, [] => by simp [dotI]
  | x :: a, y :: b => by
    have := dotI_comm a b
    simp only [dotI, List.zipWith_cons_cons, List.sum_cons] at this ⊢
    rw [this, Int.mul_comm]
theorem is_table (tb : List (List Int)) (sq : ∀ r ∈ tb, r.length = tb.length) (sy : ∀ i j, i < tb.length → j < tb.length → (tb.getD i []).getD j 0 = (tb.getD j []).getD i 0) (hl : tb.length ≤ 1000) : d_is_table [Rs' tb] h = .ok (.bl true) h := by
  have c1 : compL (gN 3) tYes (eCall d_is_row_of (aC (eV 3) (aC (eB bLen (aC (eV 0) (aN))) (aN)))) [some (Rs' tb), none, none, none] (tb.map R) h = .ok (tb.map fun _ => .bl true) h :=
    compL_m R (fun _ => .bl true) tb fun r m => ⟨_, rfl, by
      have a := row_of (h := h) (xs := r) (n := tb.length) (by have := sq r m; omega)
      have e := sq r m
      simp only [e, decide_true] at a
      simp [eCall, eB, aC, aN, eV, Rs.bind, Rs', bLen, seqOf, ofO, a]⟩
  have gx : ∀ i, i < tb.length → oIx h (Rs' tb) (.int (i : Nat)) = some (R (tb.getD i [])) := fun i hi => by
    rw [Rs', Y.ix_tup]
    simp [List.getElem?_map, List.getElem?_eq_getElem hi, List.getD_eq_getElem?_getD]
  have lr : ∀ i, i < tb.length → (tb.getD i []).length = tb.length := fun i hi => by
    have : tb.getD i [] ∈ tb := by rw [List.getD_eq_getElem?_getD, List.getElem?_eq_getElem hi]; exact List.getElem_mem hi
    exact sq _ this
  have c2 : ∀ i, i < tb.length → inn tYes (iR1 (aC (eV 1) aN)) (gN 2) tYes (Y.e2 oEq (Y.e2 oIx (Y.e2 oIx (eV 0) (eV 1)) (eV 2)) (Y.e2 oIx (Y.e2 oIx (eV 0) (eV 2)) (eV 1))) [2] [some (Rs' tb), some (.int (i : Nat)), none, none] h = .ok ((List.range i).map fun _ => .bl true) h := fun i hi => by
    have c3 : compL (gN 2) tYes (Y.e2 oEq (Y.e2 oIx (Y.e2 oIx (eV 0) (eV 1)) (eV 2)) (Y.e2 oIx (Y.e2 oIx (eV 0) (eV 2)) (eV 1))) [some (Rs' tb), some (.int (i : Nat)), none, none] ((List.range i).map fun (j : Nat) => .int j) h = .ok ((List.range i).map fun _ => .bl true) h :=
      compL_m (fun (j : Nat) => .int j) (fun _ => .bl true) (List.range i) fun j m => ⟨_, rfl, by
        have hj : j < i := by simpa using m
        have s := sy i j hi (by omega)
        have x1 : oIx h (R (tb.getD i [])) (.int (j : Nat)) = some (.int ((tb.getD i []).getD j 0)) := ix_R (by rw [lr i hi]; omega)
        have x2 : oIx h (R (tb.getD j [])) (.int (i : Nat)) = some (.int ((tb.getD j []).getD i 0)) := ix_R (by rw [lr j (by omega)]; omega)
        have y1 := gx i hi
        have y2 := gx j (by omega)
        simp only [Y.e2, eV, Rs.bind, List.getElem?_cons_zero, List.getElem?_cons_succ, List.set_cons_succ, List.set_cons_zero, y1, y2, ofO, x1, x2, oEq, eqD, s, Option.map_some, decide_true]⟩
    have r : iR1 (aC (eV 1) aN) [some (Rs' tb), some (.int (i : Nat)), none, none] h = .ok ((List.range i).map fun (j : Nat) => .int j) h := by
      have : small (i : Int) = true := small_n (by omega)
      simp [iR1, aC, aN, eV, Rs.bind, this, rangeD_eq]
    simp [inn, Y.tYes, r, Rs.bind, Rs.bindN, unset, c3]
  have c4 : comp2L (gN 1) (inn tYes (iR1 (aC (eV 1) aN)) (gN 2) tYes (Y.e2 oEq (Y.e2 oIx (Y.e2 oIx (eV 0) (eV 1)) (eV 2)) (Y.e2 oIx (Y.e2 oIx (eV 0) (eV 2)) (eV 1))) [2]) [some (Rs' tb), none, none, none] ((List.range tb.length).map fun (j : Nat) => .int j) h = .ok ((List.range tb.length).flatMap fun i => (List.range i).map fun _ => .bl true) h :=
    comp2L_m (fun (j : Nat) => .int j) (fun i => (List.range i).map fun _ => .bl true) (List.range tb.length) fun i m => ⟨_, rfl, c2 i (by simpa using m)⟩
  have bb : ∀ is : List Nat, ∃ bs : List Bool, bools (is.flatMap fun i => (List.range i).map fun _ => D.bl true) = some bs ∧ bs.all id = true := fun is => by
    refine ⟨(is.flatMap fun i => (List.range i).map fun _ => true), ?_, ?_⟩
    · have := bools_map (fun b : Bool => b) (is.flatMap fun i => (List.range i).map fun _ => true)
      rw [List.map_id' , List.map_flatMap] at this
      simpa only [List.map_map, Function.comp_def] using this
    · rw [List.all_eq_true]
      intro b m
      obtain ⟨i, _, mi⟩ := List.mem_flatMap.mp m
      obtain ⟨_, _, rfl⟩ := List.mem_map.mp mi
      rfl
  have sm : small (tb.length : Int) = true := small_n hl
  have ln : ((List.range tb.length).flatMap fun i => (List.range i).map fun _ => D.bl true).length ≤ line := by
    have a := flat_len (k := 1000) (d := D.bl true) (List.range tb.length) fun i m => by have := List.mem_range.mp m; omega
    rw [List.length_range] at a
    exact Nat.le_trans a (Nat.le_trans (Nat.mul_le_mul_right 1000 hl) (by decide))
  obtain ⟨bs, b1, b2⟩ := bb (List.range tb.length)
  have b : bools (tb.map fun _ => D.bl true) = some (tb.map fun _ => true) := bools_map (fun _ => true) tb
  have l : (tb.length ≤ line) = True := ll _ (by omega)
  have k1 : b_is_table [some (Rs' tb), none, none, none] h = b_is_table_1 [some (Rs' tb), none, none, none] h := by
    unfold Rs' at c1
    simp [b_is_table, fnP, fnK, startD, sSeq, sAsg, sPar, sRet, sRetN, sIf, sExpr, sPass, eV, Rs.out, Rs.bind, Rs.bindN, outO, gT, gTs, gN, Y.e1, Y.e2, eC, aN, aC, eTup, lLst, eFrz, eMut, oMul, oSub, oAdd, oEq, oNe, oLt, oLe, oGt, oGe, oIs, oIsNot, isN, oDiv, oMod, uNeg, uNot, uRev, eqD, ofO, finP, Y.tB, Y.tT, Y.tAnd, Y.tOr, Y.tNot, Y.tYes, eAnd, eOr, eIf, eCh, truth, eB, lB, eIs, eCall, lCall, instD, bLen, bInt, seqOf, lstOf, ownL, oIx, ixD, dctOf, atI, ixN, bMin, bMax, intsOf, minI, maxI, bAll, bAny, bools, lComp, iA, unset, ll, Y.oFld, Y.isO, Y.oIn, Y.oNotIn, Y.sRaise, List.lookup, List.zip, List.zipWith, Rs', c1, b, l]
  have k2 : lComp2 (iR1 (aC (eB bLen (aC (eV 0) (aN))) (aN))) (gN 1) (tYes) (iR1 (aC (eV 1) (aN))) (gN 2) (tYes) (Y.e2 oEq (Y.e2 oIx (Y.e2 oIx (eV 0) (eV 1)) (eV 2)) (Y.e2 oIx (Y.e2 oIx (eV 0) (eV 2)) (eV 1))) [1, 2] [2] [some (Rs' tb), none, none, none] h = .ok ((List.range tb.length).flatMap fun i => (List.range i).map fun _ => .bl true) h := by
    have r : iR1 (aC (eB bLen (aC (eV 0) (aN))) (aN)) [some (Rs' tb), none, none, none] h = .ok ((List.range tb.length).map fun (j : Nat) => .int j) h := by
      simp [iR1, eB, aC, aN, eV, Rs.bind, Rs', bLen, seqOf, ofO, sm, rangeD_eq]
    unfold lComp2
    rw [r]
    simp only [Rs.bind, unset, List.set_cons_succ, List.set_cons_zero, c4]
    rw [if_pos ln]
  have k3 : b_is_table_1 [some (Rs' tb), none, none, none] h = .rt (.bl true) h := by
    simp only [b_is_table_1, sRet, eB, aC, aN, eFrz, k2, Rs.bind, Rs.out, bAll, lstOf, Option.bind_some, b1, b2, ofO]
  show (match b_is_table [some (Rs' tb), none, none, none] h with | .rt d h' => finP h d h' | .nx _ h' => finP h .non h' | .ex e _ h' => .ex e h' | _ => .bad) = _
  rw [k1, k3]
  exact fin_same
theorem row_product {tb : List (List Int)} {ws : List Int} (h1 : ∀ r ∈ tb, r.length ≤ 1000 ∧ SmR r) (h2 : SmR ws) (hl : tb.length ≤ 1000) : d_row_product_in [Rs' tb, R ws] h = .ok (R (tb.map (dotI · ws))) h := by
  have c1 : compL (gN 2) tYes (eCall d_dot (aC (eV 2) (aC (eV 1) aN))) [some (Rs' tb), some (R ws), none] (tb.map R) h = .ok (tb.map fun r => .int (dotI r ws)) h :=
    compL_m R (fun r => .int (dotI r ws)) tb fun r m => ⟨_, rfl, by
      have := dot (h := h) (xs := r) (ys := ws) (fun x mx y my => mul_k ((h1 r m).2 x mx) (h2 y my)) (h1 r m).1
      simp [eCall, aC, aN, eV, Rs.bind, this]⟩
  have l : (tb.length ≤ line) = True := ll _ (by omega)
  unfold Rs' at c1
  have bt : bTuple h [.fl (tb.map fun r => .int (dotI r ws))] = some (R (tb.map (dotI · ws))) := by simp [bTuple, lstOf, R]
  unfold Rs'
  simp [d_row_product_in, b_row_product_in, fnP, fnK, startD, sSeq, sAsg, sPar, sRet, sRetN, sIf, sExpr, sPass, eV, Rs.out, Rs.bind, Rs.bindN, outO, gT, gTs, gN, Y.e1, Y.e2, eC, aN, aC, eTup, lLst, eFrz, eMut, oMul, oSub, oAdd, oEq, oNe, oLt, oLe, oGt, oGe, oIs, oIsNot, isN, oDiv, oMod, uNeg, uNot, uRev, eqD, ofO, finP, Y.tB, Y.tT, Y.tAnd, Y.tOr, Y.tNot, Y.tYes, eAnd, eOr, eIf, eCh, truth, eB, lB, eIs, eCall, lCall, instD, bLen, bInt, seqOf, lstOf, ownL, oIx, ixD, dctOf, atI, ixN, bMin, bMax, intsOf, minI, maxI, bAll, bAny, bools, lComp, iA, unset, ll, Y.oFld, Y.isO, Y.oIn, Y.oNotIn, Y.sRaise, List.lookup, List.zip, List.zipWith, c1, l, bt]
theorem value_at {tb : List (List Int)} {ws : List Int} (sq : ∀ r ∈ tb, r.length = tb.length) (sy : ∀ i j, i < tb.length → j < tb.length → (tb.getD i []).getD j 0 = (tb.getD j []).getD i 0) (hl : tb.length ≤ 1000) (h1 : ∀ r ∈ tb, SmR r) (h2 : SmR ws) (lw : ws.length = tb.length)
    (h3 : ∀ r ∈ tb, Sm (dotI r ws)) : d_value_at [Rs' tb, R ws] h = .ok (.int (dotI ws (tb.map (dotI · ws)))) h := by
  have a1 := is_table (h := h) tb sq sy hl
  have a2 := row_of (h := h) (xs := ws) (n := tb.length) (by omega)
  rw [decide_eq_true lw] at a2
  have a3 := row_product (h := h) (tb := tb) (ws := ws) (fun r m => ⟨by rw [sq r m]; exact hl, h1 r m⟩) h2 hl
  have a4 := dot (h := h) (xs := ws) (ys := tb.map (dotI · ws)) (fun x mx y my => by
    obtain ⟨r, mr, rfl⟩ := List.mem_map.mp my
    exact mul_sm (smk (h2 x mx)) (h3 r mr)) (by omega)
  have n1 : d_need_table [Rs' tb] h = .ok .non h := by simp [d_need_table, b_need_table, fnP, fnK, startD, sSeq, sAsg, sPar, sRet, sRetN, sIf, sExpr, sPass, eV, Rs.out, Rs.bind, Rs.bindN, outO, gT, gTs, gN, Y.e1, Y.e2, eC, aN, aC, eTup, lLst, eFrz, eMut, oMul, oSub, oAdd, oEq, oNe, oLt, oLe, oGt, oGe, oIs, oIsNot, isN, oDiv, oMod, uNeg, uNot, uRev, eqD, ofO, finP, Y.tB, Y.tT, Y.tAnd, Y.tOr, Y.tNot, Y.tYes, eAnd, eOr, eIf, eCh, truth, eB, lB, eIs, eCall, lCall, instD, bLen, bInt, seqOf, lstOf, ownL, oIx, ixD, dctOf, atI, ixN, bMin, bMax, intsOf, minI, maxI, bAll, bAny, bools, lComp, compL, iA, unset, ll, Y.oFld, Y.isO, Y.oIn, Y.oNotIn, Y.sRaise, List.lookup, List.zip, List.zipWith, a1]
  have n2 : d_need_row_of [R ws, .int tb.length] h = .ok .non h := by simp [d_need_row_of, b_need_row_of, fnP, fnK, startD, sSeq, sAsg, sPar, sRet, sRetN, sIf, sExpr, sPass, eV, Rs.out, Rs.bind, Rs.bindN, outO, gT, gTs, gN, Y.e1, Y.e2, eC, aN, aC, eTup, lLst, eFrz, eMut, oMul, oSub, oAdd, oEq, oNe, oLt, oLe, oGt, oGe, oIs, oIsNot, isN, oDiv, oMod, uNeg, uNot, uRev, eqD, ofO, finP, Y.tB, Y.tT, Y.tAnd, Y.tOr, Y.tNot, Y.tYes, eAnd, eOr, eIf, eCh, truth, eB, lB, eIs, eCall, lCall, instD, bLen, bInt, seqOf, lstOf, ownL, oIx, ixD, dctOf, atI, ixN, bMin, bMax, intsOf, minI, maxI, bAll, bAny, bools, lComp, compL, iA, unset, ll, Y.oFld, Y.isO, Y.oIn, Y.oNotIn, Y.sRaise, List.lookup, List.zip, List.zipWith, a2]
  have lR : bLen h [Rs' tb] = some (.int tb.length) := by simp [bLen, Rs', seqOf]
  simp [d_value_at, b_value_at, b_value_at_2, b_value_at_1, d_value_in, b_value_in, fnP, fnK, startD, sSeq, sAsg, sPar, sRet, sRetN, sIf, sExpr, sPass, eV, Rs.out, Rs.bind, Rs.bindN, outO, gT, gTs, gN, Y.e1, Y.e2, eC, aN, aC, eTup, lLst, eFrz, eMut, oMul, oSub, oAdd, oEq, oNe, oLt, oLe, oGt, oGe, oIs, oIsNot, isN, oDiv, oMod, uNeg, uNot, uRev, eqD, ofO, finP, Y.tB, Y.tT, Y.tAnd, Y.tOr, Y.tNot, Y.tYes, eAnd, eOr, eIf, eCh, truth, eB, lB, eIs, eCall, lCall, instD, bInt, seqOf, lstOf, ownL, oIx, ixD, dctOf, atI, ixN, bMin, bMax, intsOf, minI, maxI, bAll, bAny, bools, lComp, compL, iA, unset, ll, Y.oFld, Y.isO, Y.oIn, Y.oNotIn, Y.sRaise, List.lookup, List.zip, List.zipWith, n1, n2, lR, a3, a4]
end
end L06
end

section
set_option Elab.async false
set_option linter.all false
set_option maxRecDepth 100000
set_option maxHeartbeats 1000000
/-! N06c: the law's own gcd; draws of rows. -/
namespace L06
open PySem Y L2
theorem dr : DrawsW d_u_law_draw := fun hp _ m0 m1 => drawW 73327 2147483543 9311 137 23 128 (by decide) hp m0 m1
theorem draw1 {o : Ob} {n : Nat} (hp : PenAt [o] 0 (n + 1)) {many : Int} (m0 : 0 < many) (m1 : Sm many) : ∃ (r : Int) (o' : Ob), d_u_law_draw [.loc 0, .int many] [o] = .ok (.int r) [o'] ∧ 0 ≤ r ∧ r < many ∧ PenAt [o'] 0 n := dr hp m0 m1
theorem pickd {o : Ob} {n : Nat} (hp : PenAt [o] 0 (n + 1)) {xs : List D} (h0 : 0 < xs.length) (h1 : xs.length < 1073741824) : ∃ (x : D) (o' : Ob), d_u_law_pick [.loc 0, .fl xs] [o] = .ok x [o'] ∧ x ∈ xs ∧ PenAt [o'] 0 n := pick1 dr.low hp (.inl rfl) h0 h1
section
variable {h : Hm}
theorem lap {s0 s1 s2 s5 : Option D} {a b : Nat} (hb : b ≠ 0) : b_u_law_gcd_l2 [s0, s1, s2, some (.int a), some (.int b), s5] h = .nx [s0, s1, s2, some (.int b), some (.int (a % b : Nat)), s5] h := by
  have h1 : ¬ ((b : Int) = 0) := by omega
  have h2 : (0 : Int) < b := by omega
  have h3 : 0 < b := by omega
  simp [b_u_law_gcd_l2, b_u_law_gcd_l2_1, fnP, fnK, startD, sSeq, sAsg, sPar, sRet, sRetN, sIf, sExpr, sPass, eV, Rs.out, Rs.bind, Rs.bindN, outO, gT, gTs, gN, Y.e1, Y.e2, eC, aN, aC, eTup, lLst, eFrz, eMut, oMul, oSub, oAdd, oEq, oNe, oLt, oLe, oGt, oGe, oIs, oIsNot, isN, oDiv, oMod, uNeg, uNot, uRev, eqD, ofO, finP, Y.tB, Y.tT, Y.tAnd, Y.tOr, Y.tNot, Y.tYes, eAnd, eOr, eIf, eCh, truth, eB, lB, eIs, eCall, lCall, instD, bLen, bInt, seqOf, lstOf, ownL, oIx, ixD, dctOf, atI, ixN, bMin, bMax, intsOf, minI, maxI, bAll, bAny, bools, lComp, compL, iA, unset, ll, Y.oFld, Y.isO, Y.oIn, Y.oNotIn, Y.sRaise, List.lookup, List.zip, List.zipWith, h1, h2, h3, hb, sBk]
theorem lap0 {s0 s1 s2 s5 : Option D} {a : Nat} : b_u_law_gcd_l2 [s0, s1, s2, some (.int a), some (.int (0 : Nat)), s5] h = .bk [s0, s1, s2, some (.int a), some (.int (0 : Nat)), s5] h := by
  simp [b_u_law_gcd_l2, b_u_law_gcd_l2_1, fnP, fnK, startD, sSeq, sAsg, sPar, sRet, sRetN, sIf, sExpr, sPass, eV, Rs.out, Rs.bind, Rs.bindN, outO, gT, gTs, gN, Y.e1, Y.e2, eC, aN, aC, eTup, lLst, eFrz, eMut, oMul, oSub, oAdd, oEq, oNe, oLt, oLe, oGt, oGe, oIs, oIsNot, isN, oDiv, oMod, uNeg, uNot, uRev, eqD, ofO, finP, Y.tB, Y.tT, Y.tAnd, Y.tOr, Y.tNot, Y.tYes, eAnd, eOr, eIf, eCh, truth, eB, lB, eIs, eCall, lCall, instD, bLen, bInt, seqOf, lstOf, ownL, oIx, ixD, dctOf, atI, ixN, bMin, bMax, intsOf, minI, maxI, bAll, bAny, bools, lComp, compL, iA, unset, ll, Y.oFld, Y.isO, Y.oIn, Y.oNotIn, Y.sRaise, List.lookup, List.zip, List.zipWith, sBk]
theorem euclid {s0 s1 s2 : Option D} : ∀ (k a b : Nat) (ds : List D) (s5 : Option D), b < 2 ^ k → 2 * k + 1 ≤ ds.length → ∃ b' s5', forL (gN 5) b_u_law_gcd_l2 ds [s0, s1, s2, some (.int a), some (.int b), s5] h = .nx [s0, s1, s2, some (.int (Nat.gcd a b : Nat)), b', s5'] h
  | k, a, 0, [], s5, _, hd => by simp at hd
  | k, a, 0, d :: ds, s5, _, _ => ⟨some (.int (0 : Nat)), some d, by
      have := lap0 (h := h) (s0 := s0) (s1 := s1) (s2 := s2) (s5 := some d) (a := a)
      simp only [forL, gN, List.set_cons_succ, List.set_cons_zero, this, Nat.gcd_zero_right]⟩
  | 0, a, b + 1, ds, s5, hb, _ => by simp at hb
  | k + 1, a, b + 1, [], s5, _, hd => by simp at hd
  | k + 1, a, b + 1, [d], s5, _, hd => by simp at hd
  | k + 1, a, b + 1, d :: d2 :: ds, s5, hb, hd => by
    have l1 := lap (h := h) (s0 := s0) (s1 := s1) (s2 := s2) (s5 := some d) (a := a) (b := b + 1) (by omega)
    have hc : a % (b + 1) < b + 1 := Nat.mod_lt _ (by omega)
    by_cases c0 : a % (b + 1) = 0
    · have l2 := lap0 (h := h) (s0 := s0) (s1 := s1) (s2 := s2) (s5 := some d2) (a := b + 1)
      refine ⟨some (.int (0 : Nat)), some d2, ?_⟩
      rw [c0] at l1
      have g : Nat.gcd a (b + 1) = b + 1 := Nat.gcd_eq_right (Nat.dvd_of_mod_eq_zero c0)
      simp only [forL, gN, List.set_cons_succ, List.set_cons_zero, l1, l2, g]
    · have l2 := lap (h := h) (s0 := s0) (s1 := s1) (s2 := s2) (s5 := some d2) (a := b + 1) (b := a % (b + 1)) c0
      have m1 := Nat.mod_lt (b + 1) (Nat.pos_of_ne_zero c0)
      have m2 := Nat.div_add_mod (b + 1) (a % (b + 1))
      have m3 : 1 ≤ (b + 1) / (a % (b + 1)) := (Nat.one_le_div_iff (Nat.pos_of_ne_zero c0)).mpr (by omega)
      have m4 : a % (b + 1) * 1 ≤ a % (b + 1) * ((b + 1) / (a % (b + 1))) := Nat.mul_le_mul_left _ m3
      obtain ⟨b', s5', e⟩ := euclid (s0 := s0) (s1 := s1) (s2 := s2) k (a % (b + 1)) ((b + 1) % (a % (b + 1))) ds (some d2) (by rw [Nat.pow_succ] at hb; omega) (by simp at hd; omega)
      refine ⟨b', s5', ?_⟩
      have g : Nat.gcd (a % (b + 1)) ((b + 1) % (a % (b + 1))) = Nat.gcd a (b + 1) := by
        rw [Nat.gcd_comm, ← Nat.gcd_rec, ← Nat.gcd_rec, Nat.gcd_comm]
      rw [g] at e
      simp only [forL, gN, List.set_cons_succ, List.set_cons_zero, l1, l2, e]
theorem gcd_small {a k : Nat} {x : Int} (ha : a < 2 ^ k) (hx : x.natAbs < 2 ^ k) : Nat.gcd a x.natAbs < 2 ^ k := by
  by_cases e : a = 0
  · subst e; rw [Nat.gcd_zero_left]; exact hx
  · exact Nat.lt_of_le_of_lt (Nat.gcd_le_left _ (Nat.pos_of_ne_zero e)) ha
theorem gcd_loop {s0 : Option D} : ∀ (xs : List Int) (a : Nat) (s2 s3 s4 s5 : Option D), a < 2 ^ 190 → (∀ x ∈ xs, x.natAbs < 2 ^ 190) → ∃ s2' s3' s4' s5', forL (gN 2) b_u_law_gcd_l1 (xs.map .int) [s0, some (.int a), s2, s3, s4, s5] h = .nx [s0, some (.int (gl a xs : Nat)), s2', s3', s4', s5'] h
  | [], a, s2, s3, s4, s5, _, _ => ⟨s2, s3, s4, s5, rfl⟩
  | x :: xs, a, s2, s3, s4, s5, ha, hx => by
    have h1 := hx x List.mem_cons_self
    obtain ⟨b', s5', e1⟩ := euclid (h := h) (s0 := s0) (s1 := some (.int a)) (s2 := some (.int x)) 190 x.natAbs a (rangeD 0 400) s5 ha (by simp [rangeD])
    obtain ⟨t2, t3, t4, t5, e2⟩ := gcd_loop (s0 := s0) xs (Nat.gcd a x.natAbs) (some (.int x)) (some (.int (Nat.gcd x.natAbs a : Nat))) b' s5' (gcd_small ha h1) fun y m => hx y (List.mem_cons_of_mem _ m)
    refine ⟨t2, t3, t4, t5, ?_⟩
    have ab : (if x < 0 then -x else x) = (x.natAbs : Int) := by split <;> omega
    have k0 : b_u_law_gcd_l1 [s0, some (.int a), some (.int x), s3, s4, s5] h = b_u_law_gcd_l1_1 [s0, some (.int a), some (.int x), some (.int x.natAbs), some (.int a), s5] h := by
      simp [b_u_law_gcd_l1, sSeq, sPar, eB, bAbs, ab, aC, aN, eV, Rs.bind, Rs.out, ofO]
    have r : iR1 (aC (eC (.int 400)) aN) [s0, some (.int a), some (.int x), some (.int x.natAbs), some (.int a), s5] h = .ok (rangeD 0 400) h := by
      have : small (400 : Int) = true := by decide
      simp [iR1, aC, aN, eC, Rs.bind, this]
    have k1 : b_u_law_gcd_l1_1 [s0, some (.int a), some (.int x), some (.int x.natAbs), some (.int a), s5] h = .nx [s0, some (.int (Nat.gcd a x.natAbs : Nat)), some (.int x), some (.int (Nat.gcd x.natAbs a : Nat)), b', s5'] h := by
      unfold b_u_law_gcd_l1_1 sSeq sFor
      rw [r]
      simp only [Rs.out, e1]
      rw [Nat.gcd_comm a]
      simp [b_u_law_gcd_l1_2, sAsg, eV, Rs.out, gN, outO]
    rw [gl, List.foldl_cons, ← gl, ← e2]
    simp only [List.map_cons, forL, gN, List.set_cons_succ, List.set_cons_zero, k0, k1]
theorem gcd_ok {xs : List Int} (hx : ∀ x ∈ xs, x.natAbs < 2 ^ 190) : d_u_law_gcd [R xs] h = .ok (.int (gl 0 xs : Nat)) h := by
  obtain ⟨s2, s3, s4, s5, e⟩ := gcd_loop (h := h) (s0 := some (R xs)) xs 0 none none none none (by decide) hx
  have e' : forL (gN 2) b_u_law_gcd_l1 (xs.map .int) [some (.tup (xs.map .int)), some (.int 0), none, none, none, none] h = .nx [some (.tup (xs.map .int)), some (.int (gl 0 xs : Nat)), s2, s3, s4, s5] h := e
  simp [d_u_law_gcd, b_u_law_gcd, b_u_law_gcd_1, b_u_law_gcd_2, fnP, fnK, startD, sSeq, sAsg, sPar, sRet, sRetN, sIf, sExpr, sPass, eV, Rs.out, Rs.bind, Rs.bindN, outO, gT, gTs, gN, Y.e1, Y.e2, eC, aN, aC, eTup, lLst, eFrz, eMut, oMul, oSub, oAdd, oEq, oNe, oLt, oLe, oGt, oGe, oIs, oIsNot, isN, oDiv, oMod, uNeg, uNot, uRev, eqD, ofO, finP, Y.tB, Y.tT, Y.tAnd, Y.tOr, Y.tNot, Y.tYes, eAnd, eOr, eIf, eCh, truth, eB, lB, eIs, eCall, lCall, instD, bLen, bInt, seqOf, lstOf, ownL, oIx, ixD, dctOf, atI, ixN, bMin, bMax, intsOf, minI, maxI, bAll, bAny, bools, lComp, compL, iA, unset, ll, Y.oFld, Y.isO, Y.oIn, Y.oNotIn, Y.sRaise, List.lookup, List.zip, List.zipWith, R, sFor, e']
end
end L06
end

section
set_option Elab.async false
set_option linter.all false
set_option maxRecDepth 100000
set_option maxHeartbeats 1000000
/-! N06d: the law of rows. -/
namespace L06
open PySem Y L2
/-- numbers of at most 31 digits -/
def B (x : Int) : Prop := x.natAbs ≤ 10 ^ 31
def BR (r : List Int) : Prop := ∀ x ∈ r, B x
theorem B.sm {x : Int} (h : B x) : Sm x := Nat.lt_of_le_of_lt h (by decide +kernel)
theorem B.lt {x : Int} (h : B x) : x.natAbs < 2 ^ 190 := Nat.lt_of_le_of_lt h (by decide +kernel)
theorem dot_bd {A C : Nat} : ∀ xs ys : List Int, (∀ x ∈ xs, x.natAbs ≤ A) → (∀ y ∈ ys, y.natAbs ≤ C) → (dotI xs ys).natAbs ≤ xs.length * (A * C)
  | [], ys, _, _ => by simp [dotI]
  | x :: xs, [], _, _ => by simp [dotI]
  | x :: xs, y :: ys, h1, h2 => by
    have i := dot_bd xs ys (fun x m => h1 x (List.mem_cons_of_mem _ m)) fun y m => h2 y (List.mem_cons_of_mem _ m)
    have a := Nat.mul_le_mul (h1 x List.mem_cons_self) (h2 y List.mem_cons_self)
    rw [← Int.natAbs_mul] at a
    simp only [dotI, List.zipWith_cons_cons, List.sum_cons, List.length_cons] at i ⊢
    have t := Int.natAbs_add_le (x * y) (List.zipWith (fun x1 x2 => x1 * x2) xs ys).sum
    rw [Nat.add_mul]
    omega
theorem comp_range {n i : Nat} (f : Nat → D) {e : Ev} {σ : Sl} {h : Hm} (H : ∀ p, p < n → e (σ.set i (some (.int (p : Nat)))) h = .ok (f p) h) : compL (gN i) tYes e σ ((List.range n).map fun (p : Nat) => .int p) h = .ok ((List.range n).map f) h :=
  compL_m (fun (p : Nat) => .int p) f (List.range n) fun p m => ⟨_, rfl, H p (by simpa using m)⟩
theorem compL2 {e : Ev} {i : Nat} {σ : Sl} {h h1 h2 : Hm} {x y : D} (e1 : e (σ.set i (some (.int 0))) h = .ok x h1) (e2 : e (σ.set i (some (.int 1))) h1 = .ok y h2) : compL (gN i) tYes e σ [.int 0, .int 1] h = .ok [x, y] h2 := by
  simp only [compL, gN, Y.tYes, Rs.bindN, if_true, e1, e2]
theorem lc' {it : Iv} {g : Gv} {c : Tv} {e : Ev} {vs : List Nat} {σ : Sl} {h h1 h2 : Hm} {ds ys : List D} (k1 : it σ h = .ok ds h1) (k2 : compL g c e (unset σ vs) ds h1 = .ok ys h2) (h3 : ys.length ≤ 1000) : lComp it g c e vs σ h = .ok ys h2 := by
  have l : (ys.length ≤ line) = True := ll _ (by omega)
  unfold lComp
  rw [k1]
  simp only [Rs.bind, k2, l, if_true]
theorem eFrz_ok {f : Lv} {σ : Sl} {h h1 : Hm} {ys : List D} (e : f σ h = .ok ys h1) : eFrz f σ h = .ok (.fl ys) h1 := by simp only [eFrz, e, Rs.bind]
/-- one drawn row -/
theorem row_drawn {s4 s5 s6 s7 s8 s9 s10 s11 s12 : Option D} {n : Nat} {most by' : Int} {o : Ob} {N : Nat} (hn : n ≤ 8) (m0 : 1 ≤ most) (m1 : most ≤ 1000000000000000000000000000000) (b0 : 1 ≤ by') (b1 : by' ≤ 6) (hp : PenAt [o] 0 (N + 8)) :
    ∃ xs o', eB bTuple (aC (eFrz (lComp (iR1 (aC (eV 1) (aN))) (gN 13) (tYes) (Y.e2 oMul (eV 3) (Y.e2 oSub (eCall d_u_law_draw (aC (eV 0) (aC (Y.e2 oAdd (Y.e2 oMul (eC (.int 2)) (eV 2)) (eC (.int 1))) (aN)))) (eV 2))) [13])) (aN)) [some (.loc 0), some (.int n), some (.int most), some (.int by'), s4, s5, s6, s7, s8, s9, s10, s11, s12, none] [o] = .ok (R xs) [o'] ∧ (xs.length = n ∧ BR xs) ∧ PenAt [o'] 0 N := by
  obtain ⟨rs, o', e, l, p, h⟩ := compL_dr (g := gN 13) (e := Y.e2 oMul (eV 3) (Y.e2 oSub (eCall d_u_law_draw (aC (eV 0) (aC (Y.e2 oAdd (Y.e2 oMul (eC (.int 2)) (eV 2)) (eC (.int 1))) (aN)))) (eV 2)))
    (σ := [some (.loc 0), some (.int n), some (.int most), some (.int by'), s4, s5, s6, s7, s8, s9, s10, s11, s12, none]) (fun d => ∃ x, d = .int x ∧ B x) 1 ((List.range n).map fun (p : Nat) => .int p) o N (fun d _ => ⟨_, rfl, fun o N hp => by
      obtain ⟨r, o', e, r0, r1, h⟩ := draw1 hp (many := 2 * most + 1) (by omega) (sm_of (by omega) (by omega))
      have a1 : mulOk 2 most = true := mulOk_l (by omega) (by omega)
      have a2 : mulOk by' (r - most) = true := mulOk_l (by omega) (by omega)
      refine ⟨.int (by' * (r - most)), o', ?_, ⟨_, rfl, ?_⟩, h⟩
      · simp [Y.e2, eCall, aC, aN, eV, eC, Rs.bind, oMul, a1, oAdd, ofO, e, oSub, a2]
      · unfold B
        rw [Int.natAbs_mul]
        have z1 : by'.natAbs ≤ 6 := by omega
        have z2 : (r - most).natAbs ≤ 1000000000000000000000000000000 := by omega
        exact Nat.le_trans (Nat.mul_le_mul z1 z2) (by decide)⟩) (hp.mono (by simp; omega))
  obtain ⟨xs, rfl, hx⟩ := ints_of p
  refine ⟨xs, o', ?_, ⟨by simpa using l, hx⟩, h⟩
  have r : iR1 (aC (eV 1) (aN)) [some (.loc 0), some (.int n), some (.int most), some (.int by'), s4, s5, s6, s7, s8, s9, s10, s11, s12, none] [o] = .ok ((List.range n).map fun (p : Nat) => .int p) [o] := by
    have : small (n : Int) = true := small_n (by omega)
    simp [iR1, aC, aN, eV, Rs.bind, this, rangeD_eq]
  have l' : ((xs.map D.int).length ≤ line) = True := ll _ (by simp at l; simp; omega)
  have e' : lComp (iR1 (aC (eV 1) (aN))) (gN 13) (tYes) (Y.e2 oMul (eV 3) (Y.e2 oSub (eCall d_u_law_draw (aC (eV 0) (aC (Y.e2 oAdd (Y.e2 oMul (eC (.int 2)) (eV 2)) (eC (.int 1))) (aN)))) (eV 2))) [13] [some (.loc 0), some (.int n), some (.int most), some (.int by'), s4, s5, s6, s7, s8, s9, s10, s11, s12, none] [o] = .ok (xs.map .int) [o'] := by
    unfold lComp
    rw [r]
    simp only [Rs.bind, unset, List.set_cons_succ, List.set_cons_zero, e, l', if_true]
  simp only [eB, aC, aN, eFrz, e', Rs.bind, bTuple, lstOf, Option.map_some, ofO, R]
abbrev sR (n : Nat) (most by' : Int) (a b : List Int) (k : Int) (s7 s8 s9 s10 s11 s12 s13 : Option D) : Sl := [some (.loc 0), some (.int n), some (.int most), some (.int by'), some (R a), some (R b), some (.int k), s7, s8, s9, s10, s11, s12, s13]
/-- the draws -/
theorem right_draws {o : Ob} {N : Nat} (hp : PenAt [o] 0 (N + 30)) : ∃ (n : Nat) (most by' : Int) (a b : List Int) (k : Int) (o' : Ob), b_u_law_right [some (.loc 0), none, none, none, none, none, none, none, none, none, none, none, none, none] [o] = b_u_law_right_4 (sR n most by' a b k none none none none none none none) [o'] ∧
    a.length = n ∧ b.length = n ∧ n ≤ 8 ∧ BR a ∧ BR b ∧ k.natAbs ≤ 4 ∧ PenAt [o'] 0 N := by
  obtain ⟨n, o1, e1, n0, n1, h1⟩ := draw1 (n := N + 29) hp (many := 9) (by decide) (sm_of (by decide) (by decide))
  obtain ⟨most, o2, e2, mm, h2⟩ := pickd (n := N + 28) h1 (xs := [.int 1, .int 4, .int 1000000000000000000000000000000]) (by simp) (by simp)
  obtain ⟨ms, rfl, m0, m1⟩ : ∃ ms : Int, most = .int ms ∧ 1 ≤ ms ∧ ms ≤ 1000000000000000000000000000000 := by
    simp only [List.mem_cons, List.not_mem_nil, or_false] at mm
    rcases mm with rfl | rfl | rfl
    · exact ⟨_, rfl, by decide, by decide⟩
    · exact ⟨_, rfl, by decide, by decide⟩
    · exact ⟨_, rfl, by decide, by decide⟩
  obtain ⟨b, o3, e3, b0, b1, h3⟩ := draw1 (n := N + 27) h2 (many := 6) (by decide) (sm_of (by decide) (by decide))
  obtain ⟨m, rfl⟩ : ∃ m : Nat, n = m := ⟨n.toNat, by omega⟩
  have hm : m ≤ 8 := by omega
  obtain ⟨xs, o4, e4, ⟨lx, bx⟩, h4⟩ := row_drawn (s4 := none) (s5 := none) (s6 := some (.int 0)) (s7 := none) (s8 := none) (s9 := none) (s10 := none) (s11 := none) (s12 := none) (most := ms) (by' := 1 + b) (N := N + 19) hm m0 m1 (by omega) (by omega) h3
  obtain ⟨ys, o5, e5, ⟨ly, by5⟩, h5⟩ := row_drawn (s4 := none) (s5 := none) (s6 := some (.int 1)) (s7 := none) (s8 := none) (s9 := none) (s10 := none) (s11 := none) (s12 := none) (most := ms) (by' := 1 + b) (N := N + 11) hm m0 m1 (by omega) (by omega) h4
  obtain ⟨k, o6, e6, k0, k1, h6⟩ := draw1 (n := N + 10) h5 (many := 9) (by decide) (sm_of (by decide) (by decide))
  refine ⟨m, ms, 1 + b, xs, ys, k - 4, o6, ?_, lx, ly, hm, bx, by5, by omega, h6.mono (by omega)⟩
  have p30 : ∀ h, oPow h (.int 10) (.int 30) = some (.int 1000000000000000000000000000000) := fun h => by
    simp only [oPow]
    rw [if_pos (by unfold big; omega)]
    rfl
  have k0 : b_u_law_right [some (.loc 0), none, none, none, none, none, none, none, none, none, none, none, none, none] [o] = b_u_law_right_1 [some (.loc 0), some (.int m), some (.int ms), none, none, none, none, none, none, none, none, none, none, none] [o2] := by
    simp [b_u_law_right, sSeq, sAsg, eTup, aC, aN, eCall, eV, eC, eFrz, lLst, Y.e2, p30, ofO, Rs.bind, Rs.out, e1, e2, gT, gTs, gN, outO, Y.ll]
  have k1 : b_u_law_right_1 [some (.loc 0), some (.int m), some (.int ms), none, none, none, none, none, none, none, none, none, none, none] [o2] = b_u_law_right_2 [some (.loc 0), some (.int m), some (.int ms), some (.int (1 + b)), none, none, none, none, none, none, none, none, none, none] [o3] := by
    simp [b_u_law_right_1, sSeq, sAsg, aC, aN, eCall, eV, eC, Y.e2, oAdd, ofO, Rs.bind, Rs.out, e3, gN, outO]
  have r2 : rangeD 0 2 = [.int 0, .int 1] := by decide
  have s2 : small 2 = true := by decide
  have k2 : b_u_law_right_2 [some (.loc 0), some (.int m), some (.int ms), some (.int (1 + b)), none, none, none, none, none, none, none, none, none, none] [o3] = b_u_law_right_3 [some (.loc 0), some (.int m), some (.int ms), some (.int (1 + b)), some (R xs), some (R ys), none, none, none, none, none, none, none, none] [o5] := by
    have i : iR1 (aC (eC (.int 2)) (aN)) [some (.loc 0), some (.int m), some (.int ms), some (.int (1 + b)), none, none, none, none, none, none, none, none, none, none] [o3] = .ok [.int 0, .int 1] [o3] := by
      simp [iR1, aC, aN, eC, Rs.bind, s2, r2]
    have C := compL2 (e := eB bTuple (aC (eFrz (lComp (iR1 (aC (eV 1) (aN))) (gN 13) (tYes) (Y.e2 oMul (eV 3) (Y.e2 oSub (eCall d_u_law_draw (aC (eV 0) (aC (Y.e2 oAdd (Y.e2 oMul (eC (.int 2)) (eV 2)) (eC (.int 1))) (aN)))) (eV 2))) [13])) (aN))) (i := 6) (σ := [some (.loc 0), some (.int m), some (.int ms), some (.int (1 + b)), none, none, none, none, none, none, none, none, none, none]) e4 e5
    have L := lc' (vs := [6]) (σ := [some (.loc 0), some (.int m), some (.int ms), some (.int (1 + b)), none, none, none, none, none, none, none, none, none, none]) i C (by simp)
    simp only [b_u_law_right_2, sSeq, sAsg, eFrz_ok L, Rs.out, gTL, gTs, gN, Option.bind_some, outO, List.set_cons_succ, List.set_cons_zero]
  have k3 : b_u_law_right_3 [some (.loc 0), some (.int m), some (.int ms), some (.int (1 + b)), some (R xs), some (R ys), none, none, none, none, none, none, none, none] [o5] = b_u_law_right_4 (sR m ms (1 + b) xs ys (k - 4) none none none none none none none) [o6] := by
    simp [b_u_law_right_3, sSeq, sAsg, aC, aN, eCall, eV, eC, Y.e2, oSub, ofO, Rs.bind, Rs.out, e6, gN, outO]
  rw [k0, k1, k2, k3]
end L06
end

section
set_option Elab.async false
set_option linter.all false
set_option maxRecDepth 100000
set_option maxHeartbeats 1000000
/-! N06e: the law of rows, what is told. -/
namespace L06
open PySem Y L2
theorem lc {it : Iv} {g : Gv} {c : Tv} {e : Ev} {vs : List Nat} {σ : Sl} {h : Hm} {ds ys : List D} (h1 : it σ h = .ok ds h) (h2 : compL g c e (unset σ vs) ds h = .ok ys h) (h3 : ys.length ≤ 1000) : lComp it g c e vs σ h = .ok ys h := by
  have l : (ys.length ≤ line) = True := ll _ (by omega)
  unfold lComp
  rw [h1]
  simp only [Rs.bind, h2, l, if_true]
theorem sum_of {f : Lv} {σ : Sl} {h : Hm} {ns : List Int} (e : f σ h = .ok (ns.map .int) h) : eB bSum (aC (eFrz f) aN) σ h = .ok (.int ns.sum) h := by
  simp only [eB, aC, aN, eFrz, e, Rs.bind, bSum, lstOf, Option.bind_some, ints_map, ofO]
theorem tup_of {f : Lv} {σ : Sl} {h : Hm} {ns : List Int} (e : f σ h = .ok (ns.map .int) h) : eB bTuple (aC (eFrz f) aN) σ h = .ok (R ns) h := by
  simp only [eB, aC, aN, eFrz, e, Rs.bind, bTuple, lstOf, Option.map_some, ofO, R]
theorem frz1 {e1 : Ev} {σ : Sl} {h : Hm} {x : D} (a : e1 σ h = .ok x h) : eFrz (lLst (aC e1 aN)) σ h = .ok (.fl [x]) h := by
  have l : (1 ≤ line) = True := ll _ (by decide)
  simp only [eFrz, lLst, aC, aN, a, Rs.bind, List.length_cons, List.length_nil, l, if_true]
theorem frz2 {e1 e2 : Ev} {σ : Sl} {h : Hm} {x y : D} (a : e1 σ h = .ok x h) (b : e2 σ h = .ok y h) : eFrz (lLst (aC e1 (aC e2 aN))) σ h = .ok (.fl [x, y]) h := by
  have l : (2 ≤ line) = True := ll _ (by decide)
  simp only [eFrz, lLst, aC, aN, a, b, Rs.bind, List.length_cons, List.length_nil, l, if_true]
theorem frz3 {e1 e2 e3 : Ev} {σ : Sl} {h : Hm} {x y z : D} (a : e1 σ h = .ok x h) (b : e2 σ h = .ok y h) (c : e3 σ h = .ok z h) : eFrz (lLst (aC e1 (aC e2 (aC e3 aN)))) σ h = .ok (.fl [x, y, z]) h := by
  have l : (3 ≤ line) = True := ll _ (by decide)
  simp only [eFrz, lLst, aC, aN, a, b, c, Rs.bind, List.length_cons, List.length_nil, l, if_true]
theorem add_fl {f g : Ev} {σ : Sl} {h : Hm} {xs ys : List D} (a : f σ h = .ok (.fl xs) h) (b : g σ h = .ok (.fl ys) h) (hl : xs.length + ys.length ≤ 1000) : Y.e2 oAdd f g σ h = .ok (.fl (xs ++ ys)) h := by
  have l : (xs.length + ys.length ≤ line) = True := ll _ (by omega)
  simp only [Y.e2, a, b, Rs.bind, oAdd, ownL, l, if_true, ofO]
theorem rep_of {f : Ev} {σ : Sl} {h : Hm} {x : D} {r : Str} (a : f σ h = .ok x h) (b : bRepr h [x] = some (.str r)) : eB bRepr (aC f aN) σ h = .ok (.str r) h := by
  simp only [eB, aC, aN, a, Rs.bind, b, ofO]
theorem ne_same {f g : Ev} {σ : Sl} {h : Hm} {r : Str} (a : f σ h = .ok (.str r) h) (b : g σ h = .ok (.str r) h) : Y.tB (Y.e2 oNe f g) σ h = .ok false h := by
  simp [Y.tB, Y.e2, a, b, Rs.bind, oNe, eqD, ofO]
theorem it_n {j n : Nat} {σ : Sl} {h : Hm} (e : σ[j]? = some (some (.int n))) (hn : n ≤ 1000) : iR1 (aC (eV j) aN) σ h = .ok ((List.range n).map fun (p : Nat) => .int p) h := by
  have : small (n : Int) = true := small_n hn
  simp [iR1, aC, aN, eV, Rs.bind, this, rangeD_eq, e]
theorem it_R {j : Nat} {xs : List Int} {σ : Sl} {h : Hm} (e : σ[j]? = some (some (R xs))) : iA (eV j) σ h = .ok (xs.map .int) h := by
  simp [iA, eV, Rs.bind, e, R]
theorem rz {f : Int → Int → Int} {a b : List Int} {n : Nat} (h1 : a.length = n) (h2 : b.length = n) : (List.range n).map (fun p => D.int (f (a.getD p 0) (b.getD p 0))) = (List.zipWith f a b).map .int := by
  rw [range_zip (fun x y => D.int (f x y)) a b n h1 h2, List.map_zipWith]
theorem gl_small : ∀ (xs : List Int) (a k : Nat), a < 2 ^ k → (∀ x ∈ xs, x.natAbs < 2 ^ k) → gl a xs < 2 ^ k
  | [], a, k, h, _ => h
  | x :: xs, a, k, h, hx => by
    rw [gl, List.foldl_cons, ← gl]
    exact gl_small xs _ k (gcd_small h (hx x List.mem_cons_self)) fun y m => hx y (List.mem_cons_of_mem _ m)
theorem sgn_div {x g : Int} (g0 : 0 < g) (hd : g ∣ x) : 1 * ((if x < 0 then -x else x) / g) * (if 0 < x then 1 else -1) = x / g ∧ -1 * ((if x < 0 then -x else x) / g) * (if 0 < x then 1 else -1) = -x / g := by
  obtain ⟨q, rfl⟩ := hd
  have d1 : g * q / g = q := Int.mul_ediv_cancel_left q (by omega)
  have d2 : -(g * q) / g = -q := by rw [← Int.mul_neg]; exact Int.mul_ediv_cancel_left (-q) (by omega)
  rcases Int.lt_trichotomy q 0 with h | h | h
  · have n : g * q < 0 := Int.mul_neg_of_pos_of_neg g0 h
    have n2 : ¬ 0 < g * q := by omega
    rw [if_pos n, if_neg n2, d1, d2]
    omega
  · subst h
    simp
  · have n : 0 < g * q := Int.mul_pos g0 h
    have n2 : ¬ g * q < 0 := by omega
    rw [if_neg n2, if_pos n, d1, d2]
    omega
theorem div_abs {x g : Int} (g0 : 0 < g) : (x / g).natAbs ≤ x.natAbs := by
  exact Int.natAbs_ediv_le_natAbs x g
theorem plain_sm {a : List Int} (ha : BR a) : ∀ x ∈ plainI a, Sm x := fun x m => by
  unfold plainI at m
  split at m
  · exact (ha x m).sm
  · split at m
    · obtain ⟨y, my, rfl⟩ := List.mem_map.mp m
      exact Nat.lt_of_le_of_lt (Int.natAbs_ediv_le_natAbs _ _) (ha y my).sm
    · obtain ⟨y, my, rfl⟩ := List.mem_map.mp m
      exact Nat.lt_of_le_of_lt (Int.natAbs_ediv_le_natAbs _ _) (by rw [Int.natAbs_neg]; exact (ha y my).sm)
section
variable {h : Hm} {n : Nat} {most by' k : Int} {a b : List Int}
abbrev tl1 (a b : List Int) : List D := [.bl true, .int (dotI a b), .int (dotI a a)]
abbrev tl2 (a b : List Int) : List D := [R (List.zipWith (· + ·) a b), R (List.zipWith (· - ·) a b)]
def told (a b : List Int) (k : Int) : D := .fl (tl1 a b ++ tl2 a b ++ [R (a.map (k * ·))])
theorem told_ok (la : a.length = n) (lb : b.length = n) (hn : n ≤ 8) (ha : BR a) (hb : BR b) (hk : k.natAbs ≤ 4) : ∃ r : Str, ∀ h, bRepr h [told a b k] = some (.str r) := by
  have big : ∀ xs ys : List Int, xs.length ≤ 8 → BR xs → BR ys → Sm (dotI xs ys) := fun xs ys l h1 h2 => by
    have := dot_bd (A := 10 ^ 31) (C := 10 ^ 31) xs ys h1 h2
    exact Nat.lt_of_le_of_lt this (Nat.lt_of_le_of_lt (Nat.mul_le_mul_right _ l) (by decide +kernel))
  have sp : ∀ f : Int → Int → Int, (∀ x y, B x → B y → Sm (f x y)) → ∀ x ∈ List.zipWith f a b, Sm x := fun f hf x m => by
    obtain ⟨i, l, rfl⟩ := List.mem_iff_getElem.mp m
    rw [List.getElem_zipWith]
    exact hf _ _ (ha _ (List.getElem_mem _)) (hb _ (List.getElem_mem _))
  have p31 : (10 ^ 31 : Nat) + 10 ^ 31 < 10 ^ 200 := by decide +kernel
  refine (told_fl (n := 1) (m := 20000) (w := 2000) (.cons (told_bl.up (by decide)) (by simp [PyData.depth]) (.cons ((told_int (big a b (by omega) ha hb)).up (by decide)) (by simp [PyData.depth]) (.cons ((told_int (big a a (by omega) ha ha)).up (by decide)) (by simp [PyData.depth])
    (.cons (told_R (sp (· + ·) fun x y h1 h2 => Nat.lt_of_le_of_lt (Nat.le_trans (Int.natAbs_add_le x y) (Nat.add_le_add h1 h2)) p31) (by simp; omega)) (by simp only [PyData.depth, dep_int]; decide)
    (.cons (told_R (sp (· - ·) fun x y h1 h2 => Nat.lt_of_le_of_lt (Nat.le_trans (Int.natAbs_sub_le x y) (Nat.add_le_add h1 h2)) p31) (by simp; omega)) (by simp only [PyData.depth, dep_int]; decide)
    (.cons (told_R (fun x m => by
      obtain ⟨y, my, rfl⟩ := List.mem_map.mp m
      unfold Sm
      rw [Int.natAbs_mul]
      exact Nat.lt_of_le_of_lt (Nat.mul_le_mul hk (ha y my)) (by decide +kernel)) (by simp; omega)) (by simp only [PyData.depth, dep_int]; decide) .nil)))))) (by decide) (by simp)).rep (by decide)
theorem right_told (la : a.length = n) (lb : b.length = n) (hn : n ≤ 8) (ha : BR a) (hb : BR b) (hk : k.natAbs ≤ 4) : b_u_law_right_4 (sR n most by' a b k none none none none none none none) h = b_u_law_right_8 (sR n most by' a b k (some (told a b k)) (some (.fl (tl1 a b ++ tl2 a b))) none none none none none) h := by
  have mm : ∀ {x y : Int}, B x → B y → mulOk x y = true := fun h1 h2 => mul_sm h1.sm h2.sm
  have f1 := is_row (h := h) (xs := a) (by omega)
  have f2 := product_of (h := h) (n := n) la lb (by omega) fun x mx y my => mm (ha x mx) (hb y my)
  have f3 := square_sum (h := h) (xs := a) (by omega) fun x mx y my => mm (ha x mx) (ha y my)
  have f4 := plus (h := h) (n := n) la lb (by omega)
  have f5 := minus (h := h) (n := n) la lb (by omega)
  have hkm : ∀ x ∈ a, mulOk k x = true := fun x mx => mulOk_l (by omega) (by omega)
  have f6 := times_row (h := h) (xs := a) (k := k) (by omega) hkm
  have k4 : b_u_law_right_4 (sR n most by' a b k none none none none none none none) h = b_u_law_right_5 (sR n most by' a b k (some (told a b k)) none none none none none none) h := by
    simp [b_u_law_right_4, sSeq, sAsg, eFrz, lLst, eCall, aC, aN, eV, Rs.bind, Rs.out, f1, f2, f3, f4, f5, f6, Y.ll, gN, outO, told, -List.map_zipWith, -List.map_map]
  have S1 : eB bSum (aC (eFrz (lComp (iR1 (aC (eV 1) (aN))) (gN 13) (tYes) (Y.e2 oMul (Y.e2 oIx (eV 4) (eV 13)) (Y.e2 oIx (eV 5) (eV 13))) [13])) (aN)) (sR n most by' a b k (some (told a b k)) none none none none none none) h = .ok (.int (dotI a b)) h :=
    sum_of (lc (it_n rfl (by omega)) (by
      rw [← rz la lb]
      refine comp_range _ fun p hp => ?_
      have x1 : oIx h (R a) (.int (p : Nat)) = some (.int (a.getD p 0)) := ix_R (by omega)
      have x2 : oIx h (R b) (.int (p : Nat)) = some (.int (b.getD p 0)) := ix_R (by omega)
      have z : mulOk (a.getD p 0) (b.getD p 0) = true := mm (by
        rw [List.getD_eq_getElem?_getD, List.getElem?_eq_getElem (by omega : p < a.length)]; exact ha _ (List.getElem_mem _)) (by
        rw [List.getD_eq_getElem?_getD, List.getElem?_eq_getElem (by omega : p < b.length)]; exact hb _ (List.getElem_mem _))
      simp only [unset, List.set_cons_succ, List.set_cons_zero, Y.e2, eV, List.getElem?_cons_succ, List.getElem?_cons_zero, Rs.bind, x1, x2, ofO, oMul, z, if_true]) (by simp; omega))
  have S2 : eB bSum (aC (eFrz (lComp (iA (eV 4)) (gN 12) (tYes) (Y.e2 oMul (eV 12) (eV 12)) [12])) (aN)) (sR n most by' a b k (some (told a b k)) none none none none none none) h = .ok (.int (dotI a a)) h :=
    sum_of (lc (it_R rfl) (by
      rw [List.zipWith_self, List.map_map]
      exact compL_m .int _ a fun x m => ⟨_, rfl, by simp [unset, Y.e2, eV, Rs.bind, oMul, mm (ha x m) (ha x m), ofO]⟩) (by simp; omega))
  have k5 : b_u_law_right_5 (sR n most by' a b k (some (told a b k)) none none none none none none) h = b_u_law_right_6 (sR n most by' a b k (some (told a b k)) (some (.fl (tl1 a b))) none none none none none) h := by
    have A := frz3 (e1 := eC (.bl true)) (σ := sR n most by' a b k (some (told a b k)) none none none none none none) rfl S1 S2
    simp only [b_u_law_right_5, sSeq, sAsg, A, Rs.out, gN, outO, List.set_cons_succ, List.set_cons_zero]
  have S3 : eB bTuple (aC (eFrz (lComp (iR1 (aC (eV 1) (aN))) (gN 13) (tYes) (Y.e2 oAdd (Y.e2 oIx (eV 4) (eV 13)) (Y.e2 oIx (eV 5) (eV 13))) [13])) (aN)) (sR n most by' a b k (some (told a b k)) (some (.fl (tl1 a b))) none none none none none) h = .ok (R (List.zipWith (· + ·) a b)) h :=
    tup_of (lc (it_n rfl (by omega)) (by
      rw [← rz la lb]
      refine comp_range _ fun p hp => ?_
      have x1 : oIx h (R a) (.int (p : Nat)) = some (.int (a.getD p 0)) := ix_R (by omega)
      have x2 : oIx h (R b) (.int (p : Nat)) = some (.int (b.getD p 0)) := ix_R (by omega)
      simp only [unset, List.set_cons_succ, List.set_cons_zero, Y.e2, eV, List.getElem?_cons_succ, List.getElem?_cons_zero, Rs.bind, x1, x2, ofO, oAdd]) (by simp; omega))
  have S4 : eB bTuple (aC (eFrz (lComp (iR1 (aC (eV 1) (aN))) (gN 13) (tYes) (Y.e2 oSub (Y.e2 oIx (eV 4) (eV 13)) (Y.e2 oIx (eV 5) (eV 13))) [13])) (aN)) (sR n most by' a b k (some (told a b k)) (some (.fl (tl1 a b))) none none none none none) h = .ok (R (List.zipWith (· - ·) a b)) h :=
    tup_of (lc (it_n rfl (by omega)) (by
      rw [← rz la lb]
      refine comp_range _ fun p hp => ?_
      have x1 : oIx h (R a) (.int (p : Nat)) = some (.int (a.getD p 0)) := ix_R (by omega)
      have x2 : oIx h (R b) (.int (p : Nat)) = some (.int (b.getD p 0)) := ix_R (by omega)
      simp only [unset, List.set_cons_succ, List.set_cons_zero, Y.e2, eV, List.getElem?_cons_succ, List.getElem?_cons_zero, Rs.bind, x1, x2, ofO, oSub]) (by simp; omega))
  have k6 : b_u_law_right_6 (sR n most by' a b k (some (told a b k)) (some (.fl (tl1 a b))) none none none none none) h = b_u_law_right_7 (sR n most by' a b k (some (told a b k)) (some (.fl (tl1 a b ++ tl2 a b))) none none none none none) h := by
    have A := frz2 S3 S4
    have P := add_fl (f := eV 8) (σ := sR n most by' a b k (some (told a b k)) (some (.fl (tl1 a b))) none none none none none) (xs := tl1 a b) rfl A (by simp)
    simp only [b_u_law_right_6, sSeq, sAsg, P, Rs.out, gN, outO, List.set_cons_succ, List.set_cons_zero]
  have S5 : eB bTuple (aC (eFrz (lComp (iA (eV 4)) (gN 12) (tYes) (Y.e2 oMul (eV 6) (eV 12)) [12])) (aN)) (sR n most by' a b k (some (told a b k)) (some (.fl (tl1 a b ++ tl2 a b))) none none none none none) h = .ok (R (a.map (k * ·))) h :=
    tup_of (lc (it_R rfl) (by
      rw [List.map_map]
      exact compL_m .int _ a fun x m => ⟨_, rfl, by simp [unset, Y.e2, eV, Rs.bind, oMul, hkm x m, ofO]⟩) (by simp; omega))
  obtain ⟨r, hr⟩ := told_ok la lb hn ha hb hk
  have k7 : b_u_law_right_7 (sR n most by' a b k (some (told a b k)) (some (.fl (tl1 a b ++ tl2 a b))) none none none none none) h = b_u_law_right_8 (sR n most by' a b k (some (told a b k)) (some (.fl (tl1 a b ++ tl2 a b))) none none none none none) h := by
    have A := frz1 S5
    have P := add_fl (f := eV 8) (σ := sR n most by' a b k (some (told a b k)) (some (.fl (tl1 a b ++ tl2 a b))) none none none none none) (xs := tl1 a b ++ tl2 a b) rfl A (by simp)
    have hr' : bRepr h [.fl (tl1 a b ++ tl2 a b ++ [R (a.map (k * ·))])] = some (.str r) := hr h
    have Q1 := rep_of P hr'
    have Q2 := rep_of (f := eV 7) (σ := sR n most by' a b k (some (told a b k)) (some (.fl (tl1 a b ++ tl2 a b))) none none none none none) rfl (hr h)
    have T := ne_same Q2 Q1
    simp only [b_u_law_right_7, sSeq, sIf, T, Rs.out, Bool.false_eq_true, if_false, sPass]
  rw [k4, k5, k6, k7]
/-! ### the common divisor, the plain row -/
def sgn (a : List Int) : Int := if (a.filter (fun x => decide (x ≠ 0))).headD 0 < 0 then -1 else 1
theorem right_plain (la : a.length = n) (hn : n ≤ 8) (ha : BR a) {s7 s8 : Option D} : b_u_law_right_8 (sR n most by' a b k s7 s8 none none none none none) h = .rt (.bl true) h := by
  have g190 : gl 0 a < 2 ^ 190 := gl_small a 0 190 (by decide) fun x m => (ha x m).lt
  have sg : Sm (gl 0 a : Nat) := by
    unfold Sm
    rw [Int.natAbs_natCast]
    exact Nat.lt_trans g190 (by decide +kernel)
  have G := gcd_ok (h := h) (xs := a) fun x m => (ha x m).lt
  have k8 : b_u_law_right_8 (sR n most by' a b k s7 s8 none none none none none) h = b_u_law_right_9 (sR n most by' a b k s7 s8 (some (.int (gl 0 a : Nat))) none none none none) h := by
    simp only [b_u_law_right_8, sSeq, sAsg, eCall, aC, aN, eV, List.getElem?_cons_succ, List.getElem?_cons_zero, Rs.bind, G, Rs.out, gN, outO, List.set_cons_succ, List.set_cons_zero]
  have C1 : lComp (iA (eV 4)) (gN 12) (Y.tB (Y.e2 oNe (eV 12) (eC (.int 0)))) (eV 12) [12] (sR n most by' a b k s7 s8 (some (.int (gl 0 a : Nat))) none none none none) h = .ok ((a.filter fun x => decide (x ≠ 0)).map .int) h :=
    lc (it_R rfl) (compL_fm .int (fun x => decide (x ≠ 0)) .int a fun x m => ⟨_, rfl, by simp [unset, Y.tB, Y.e2, eV, eC, Rs.bind, oNe, eqD, ofO], fun _ => rfl⟩) (by
      have := List.length_filter_le (fun x => decide (x ≠ 0)) a
      simp only [List.length_map]
      omega)
  have k9 : b_u_law_right_9 (sR n most by' a b k s7 s8 (some (.int (gl 0 a : Nat))) none none none none) h = b_u_law_right_10 (sR n most by' a b k s7 s8 (some (.int (gl 0 a : Nat))) (some (.fl (((a.filter fun x => decide (x ≠ 0)).map .int).take 1))) none none none) h := by
    have A := eFrz_ok C1
    have c : cutD ((a.filter fun x => decide (x ≠ 0)).map D.int) none (some 1) = ((a.filter fun x => decide (x ≠ 0)).map D.int).take 1 := by
      unfold cutD
      rw [HT.sIx_none, show (1 : Int) = ((1 : Nat) : Int) from rfl, HT.sIx_nat, List.drop_zero, Nat.sub_zero]
      cases a.filter fun x => decide (x ≠ 0) with
      | nil => rfl
      | cons x r => simp
    simp only [b_u_law_right_9, sSeq, sAsg, eSl, A, oN, oS, eC, Rs.bind, lstOf, c, Rs.out, gN, outO, List.set_cons_succ, List.set_cons_zero]
  have k10 : b_u_law_right_10 (sR n most by' a b k s7 s8 (some (.int (gl 0 a : Nat))) (some (.fl (((a.filter fun x => decide (x ≠ 0)).map .int).take 1))) none none none) h = b_u_law_right_11 (sR n most by' a b k s7 s8 (some (.int (gl 0 a : Nat))) (some (.fl (((a.filter fun x => decide (x ≠ 0)).map .int).take 1))) (some (.int (sgn a))) none none) h := by
    cases e : a.filter fun x => decide (x ≠ 0) with
    | nil =>
      have z : oNe h (.fl []) (.fl []) = some (.bl false) := rfl
      have sv : sgn a = 1 := by unfold sgn; rw [e]; rfl
      rw [sv]
      simp [b_u_law_right_10, sSeq, sAsg, eIf, Y.tAnd, Y.tB, Y.e2, eV, eC, eFrz, lLst, aN, Rs.bind, z, ofO, Rs.out, gN, outO, Y.ll]
    | cons x r =>
      have z : oNe h (.fl [.int x]) (.fl []) = some (.bl true) := rfl
      have sv : sgn a = if x < 0 then -1 else 1 := by unfold sgn; rw [e]; rfl
      rw [sv]
      by_cases hx : x < 0 <;> simp [b_u_law_right_10, sSeq, sAsg, eIf, Y.tAnd, Y.tB, Y.e1, Y.e2, eV, eC, eFrz, lLst, aN, Rs.bind, z, ix0, oLt, uNeg, ofO, Rs.out, gN, outO, Y.ll, hx]
  have k11 : b_u_law_right_11 (sR n most by' a b k s7 s8 (some (.int (gl 0 a : Nat))) (some (.fl (((a.filter fun x => decide (x ≠ 0)).map .int).take 1))) (some (.int (sgn a))) none none) h = b_u_law_right_12 (sR n most by' a b k s7 (some (R (plainI a))) (some (.int (gl 0 a : Nat))) (some (.fl (((a.filter fun x => decide (x ≠ 0)).map .int).take 1))) (some (.int (sgn a))) none none) h := by
    by_cases g0 : gl 0 a = 0
    · have g0' : (gl 0 a : Int) = 0 := by omega
      have pl : plainI a = a := by unfold plainI; rw [if_pos g0]
      simp [b_u_law_right_11, sSeq, sAsg, eIf, Y.tB, Y.e2, eV, eC, Rs.bind, oEq, eqD, g0', ofO, Rs.out, gN, outO, pl, g0]
    · have g0' : ¬ (gl 0 a : Int) = 0 := by omega
      have gp : (0 : Int) < (gl 0 a : Nat) := by omega
      obtain ⟨y, r, ey⟩ : ∃ y r, (a.filter fun x => decide (x ≠ 0)) = y :: r := by
        cases e : a.filter fun x => decide (x ≠ 0) with
        | cons y r => exact ⟨y, r, rfl⟩
        | nil =>
          refine absurd (gl_zero a 0 fun x m => ?_) g0
          have := List.filter_eq_nil_iff.mp e x m
          simpa using this
      have y0 : y ≠ 0 := by
        have : y ∈ a.filter fun x => decide (x ≠ 0) := by rw [ey]; exact List.mem_cons_self
        simpa using (List.mem_filter.mp this).2
      have sgv : (sgn a = 1 ∧ 0 < y) ∨ (sgn a = -1 ∧ ¬ 0 < y) := by
        unfold sgn
        rw [ey]
        simp only [List.headD_cons]
        by_cases hy : y < 0
        · right; exact ⟨if_pos hy, by omega⟩
        · left; exact ⟨if_neg hy, by omega⟩
      have val : ∀ x ∈ a, sgn a * ((if x < 0 then -x else x) / (gl 0 a : Nat)) * (if 0 < x then 1 else -1) = if 0 < y then x / (gl 0 a : Nat) else -x / (gl 0 a : Nat) := fun x m => by
        have q := sgn_div gp ((gl_dvd a 0).2 x m)
        rcases sgv with ⟨s1, s2⟩ | ⟨s1, s2⟩
        · rw [s1, if_pos s2]; exact q.1
        · rw [s1, if_neg s2]; exact q.2
      have pl : plainI a = a.map fun (x : Int) => if 0 < y then x / ((gl 0 a : Nat) : Int) else -x / ((gl 0 a : Nat) : Int) := by
        unfold plainI
        rw [if_neg g0, ey]
        by_cases hy : 0 < y <;> simp [hy]
      have T : eB bTuple (aC (eFrz (lComp (iA (eV 4)) (gN 12) (tYes) (Y.e2 oMul (Y.e2 oMul (eV 11) (Y.e2 oDiv (eB bAbs (aC (eV 12) (aN))) (eV 9))) (eIf (Y.tB (Y.e2 oGt (eV 12) (eC (.int 0)))) (eC (.int 1)) (Y.e1 uNeg (eC (.int 1))))) [12])) (aN)) (sR n most by' a b k s7 s8 (some (.int (gl 0 a : Nat))) (some (.fl (((a.filter fun x => decide (x ≠ 0)).map .int).take 1))) (some (.int (sgn a))) none none) h = .ok (R (plainI a)) h :=
        tup_of (lc (it_R rfl) (by
          rw [pl, List.map_map]
          refine compL_m .int _ a fun x m => ⟨_, rfl, ?_⟩
          have d := div_sm (h := h) (x := if x < 0 then -x else x) gp sg
          have m1 : mulOk (sgn a) ((if x < 0 then -x else x) / (gl 0 a : Nat)) = true := mulOk_l (by rcases sgv with z | z <;> omega) (by rcases sgv with z | z <;> omega)
          have v := val x m
          by_cases hx : 0 < x
          · have m2 : mulOk (sgn a * ((if x < 0 then -x else x) / (gl 0 a : Nat))) 1 = true := mulOk_r (by decide) (by decide)
            rw [if_pos hx] at v
            simp only [unset, List.set_cons_succ, List.set_cons_zero, Y.e2, Y.e1, eB, aC, aN, eV, eC, eIf, Y.tB, List.getElem?_cons_succ, List.getElem?_cons_zero, Rs.bind, bAbs, ofO, d, oMul, m1, if_true, oGt, hx, decide_true, m2, v, Function.comp]
          · have m2 : mulOk (sgn a * ((if x < 0 then -x else x) / (gl 0 a : Nat))) (-1) = true := mulOk_r (by decide) (by decide)
            rw [if_neg hx] at v
            simp only [unset, List.set_cons_succ, List.set_cons_zero, Y.e2, Y.e1, eB, aC, aN, eV, eC, eIf, Y.tB, List.getElem?_cons_succ, List.getElem?_cons_zero, Rs.bind, bAbs, ofO, d, oMul, m1, if_true, oGt, hx, decide_false, Bool.false_eq_true, if_false, uNeg, m2, v, Function.comp]) (by unfold plainI; split; simp; omega; split <;> simp <;> omega))
      have E : Y.tB (Y.e2 oEq (eV 9) (eC (.int 0))) (sR n most by' a b k s7 s8 (some (.int (gl 0 a : Nat))) (some (.fl (((a.filter fun x => decide (x ≠ 0)).map .int).take 1))) (some (.int (sgn a))) none none) h = .ok false h := by
        simp [Y.tB, Y.e2, eV, eC, Rs.bind, oEq, eqD, g0, ofO]
      simp only [b_u_law_right_11, sSeq, sAsg, eIf, E, Rs.bind, Bool.false_eq_true, if_false, T, Rs.out, gN, outO, List.set_cons_succ, List.set_cons_zero]
  have k12 : b_u_law_right_12 (sR n most by' a b k s7 (some (R (plainI a))) (some (.int (gl 0 a : Nat))) (some (.fl (((a.filter fun x => decide (x ≠ 0)).map .int).take 1))) (some (.int (sgn a))) none none) h = .rt (.bl true) h := by
    have P1 := content (h := h) (xs := a) (by omega)
    have P2 := plain (h := h) (xs := a) (by omega) (fun x m => (ha x m).sm) sg
    have lp : (plainI a).length = a.length := by unfold plainI; split; rfl; split <;> simp
    obtain ⟨r, hr⟩ := (told_fl (n := 1) (m := 20000) (w := 2000) (.cons ((told_int sg).up (by decide)) (by simp [PyData.depth]) (.cons (told_R (plain_sm ha) (by omega)) (by simp only [PyData.depth, dep_int]; decide) .nil)) (by decide) (by simp)).rep (by decide)
    have hr' := hr h
    simp only [b_u_law_right_12, sRet, Y.e2, eB, aC, aN, eFrz, lLst, eCall, eV, List.getElem?_cons_succ, List.getElem?_cons_zero, Rs.bind, P1, P2, Y.ll _ (by decide : 2 ≤ 100000), List.length_cons, List.length_nil, if_true, hr', ofO, oEq, eqD, decide_true, Option.map_some, Rs.out]
  rw [k8, k9, k10, k11, k12]
end
/-- the law of rows -/
theorem right {o : Ob} {N : Nat} (hp : PenAt [o] 0 (N + 30)) : ∃ o', d_u_law_right [.loc 0] [o] = .ok (.bl true) [o'] ∧ PenAt [o'] 0 N := by
  obtain ⟨n, most, by', a, b, k, o', e, la, lb, hn, ha, hb, hk, h⟩ := right_draws hp
  refine ⟨o', ?_, h⟩
  show (match b_u_law_right [some (.loc 0), none, none, none, none, none, none, none, none, none, none, none, none, none] [o] with | .rt d h' => finP [o] d h' | .nx _ h' => finP [o] .non h' | .ex e _ h' => .ex e h' | _ => .bad) = _
  rw [e, right_told la lb hn ha hb hk, right_plain la hn ha]
  rfl
end L06
end

section
set_option Elab.async false
set_option linter.all false
set_option maxRecDepth 100000
set_option maxHeartbeats 1000000
/-! N06f: the law of rows of rows. -/
namespace L06
open PySem Y L2
/-! ### sums -/
def S (ts : List (List Int × Int)) (g : List Int → Int) : Int := (ts.map fun t => t.2 * g t.1).sum
theorem dot_S (g : List Int → Int) : ∀ (rows : List (List Int)) (ws : List Int), ws.length = rows.length → dotI ws (rows.map g) = S (List.zip rows ws) g
  | [], [], _ => by simp [dotI, S]
  | r :: rows, [], h => by simp at h
  | [], w :: ws, h => by simp at h
  | r :: rows, w :: ws, h => by
    have := dot_S g rows ws (by simpa using h)
    simp only [dotI, S, List.map_cons, List.zipWith_cons_cons, List.zip_cons_cons, List.sum_cons] at this ⊢
    rw [this]
theorem dot_add : ∀ (a b c : List Int), a.length = b.length → dotI (List.zipWith (· + ·) a b) c = dotI a c + dotI b c
  | [], [], c, _ => by simp [dotI]
  | [], _ :: _, c, h => by simp at h
  | _ :: _, [], c, h => by simp at h
  | x :: a, y :: b, [], _ => by simp [dotI]
  | x :: a, y :: b, z :: c, h => by
    have := dot_add a b c (by simpa using h)
    simp only [dotI, List.zipWith_cons_cons, List.sum_cons] at this ⊢
    rw [this, Int.add_mul]
    omega
theorem dot_mul (k : Int) : ∀ (a c : List Int), dotI (a.map (k * ·)) c = k * dotI a c
  | [], c => by simp [dotI]
  | x :: a, [] => by simp [dotI]
  | x :: a, z :: c => by
    have := dot_mul k a c
    simp only [dotI, List.map_cons, List.zipWith_cons_cons, List.sum_cons] at this ⊢
    rw [this, Int.mul_add, Int.mul_assoc]
theorem dot_zero (c : List Int) : ∀ n : Nat, dotI (List.replicate n 0) c = 0 := fun n => by
  induction n generalizing c with
  | zero => simp [dotI]
  | succ n ih =>
    cases c with
    | nil => simp [dotI]
    | cons z c =>
      have := ih c
      simp only [dotI, List.replicate_succ, List.zipWith_cons_cons, List.sum_cons] at this ⊢
      rw [this]; simp
theorem dot_mix {n : Nat} (c : List Int) : ∀ (ts : List (List Int × Int)) (acc : List Int), acc.length = n → (∀ t ∈ ts, t.1.length = n) → dotI (mixL acc ts) c = dotI acc c + S ts fun r => dotI r c
  | [], acc, _, _ => by simp [mixL, S]
  | t :: ts, acc, h, ht => by
    have t1 := ht t List.mem_cons_self
    have := dot_mix c ts (List.zipWith (· + ·) acc (t.1.map (t.2 * ·))) (by simp [h, t1]) fun t m => ht t (List.mem_cons_of_mem _ m)
    rw [mixL, List.foldl_cons, ← mixL, this, dot_add _ _ _ (by simp [h, t1]), dot_mul]
    simp only [S, List.map_cons, List.sum_cons]
    omega
theorem value_eq {n : Nat} {rows : List (List Int)} {ws : List Int} (lw : ws.length = rows.length) (hr : ∀ r ∈ rows, r.length = n) :
    dotI ws ((tabL rows).map (dotI · ws)) = dotI (mixL (List.replicate n 0) (List.zip rows ws)) (mixL (List.replicate n 0) (List.zip rows ws)) := by
  have ht : ∀ t ∈ List.zip rows ws, t.1.length = n := fun t m => hr _ (List.of_mem_zip m).1
  have e1 : (tabL rows).map (dotI · ws) = rows.map fun a => S (List.zip rows ws) fun b => dotI a b := by
    rw [tabL, List.map_map]
    apply List.map_congr_left
    intro a _
    show dotI (rows.map fun b => dotI a b) ws = _
    rw [dotI_comm, dot_S _ _ _ lw]
  rw [e1, dot_S _ _ _ lw, dot_mix _ _ _ (by simp) ht, dot_zero, Int.zero_add]
  unfold S
  congr 1
  apply List.map_congr_left
  intro t _
  congr 1
  have := dot_mix t.1 (List.zip rows ws) (List.replicate n 0) (by simp) ht
  show (List.map (fun u => u.2 * dotI t.1 u.1) (rows.zip ws)).sum = dotI t.1 (mixL (List.replicate n 0) (rows.zip ws))
  rw [dotI_comm t.1 (mixL (List.replicate n 0) (rows.zip ws)), this, dot_zero, Int.zero_add]
  unfold S
  congr 1
  apply List.map_congr_left
  intro u _
  rw [dotI_comm]
theorem mix_get {n p : Nat} (hp : p < n) : ∀ (ts : List (List Int × Int)) (acc : List Int), acc.length = n → (∀ t ∈ ts, t.1.length = n) → (mixL acc ts).getD p 0 = acc.getD p 0 + (ts.map fun t => t.2 * t.1.getD p 0).sum
  | [], acc, _, _ => by simp [mixL]
  | t :: ts, acc, h, ht => by
    have t1 := ht t List.mem_cons_self
    have ih := mix_get hp ts (List.zipWith (· + ·) acc (t.1.map (t.2 * ·))) (by simp [h, t1]) fun t m => ht t (List.mem_cons_of_mem _ m)
    rw [mixL, List.foldl_cons, ← mixL, ih]
    have z : (List.zipWith (· + ·) acc (t.1.map (t.2 * ·))).getD p 0 = acc.getD p 0 + t.2 * t.1.getD p 0 := by
      have l1 : p < acc.length := by omega
      have l2 : p < t.1.length := by omega
      simp [List.getD_eq_getElem?_getD, List.getElem?_zipWith, List.getElem?_map, List.getElem?_eq_getElem l1, List.getElem?_eq_getElem l2]
    rw [z]
    simp only [List.map_cons, List.sum_cons]
    omega
theorem mix_len {n : Nat} : ∀ (ts : List (List Int × Int)) (acc : List Int), acc.length = n → (∀ t ∈ ts, t.1.length = n) → (mixL acc ts).length = n
  | [], acc, h, _ => h
  | t :: ts, acc, h, ht => by
    have t1 := ht t List.mem_cons_self
    exact mix_len ts _ (by simp [h, t1]) fun t m => ht t (List.mem_cons_of_mem _ m)
theorem zip_range {rows : List (List Int)} {ws : List Int} {m : Nat} (f : List Int → Int → Int) (h1 : rows.length = m) (h2 : ws.length = m) : (List.range m).map (fun k => f (rows.getD k []) (ws.getD k 0)) = (List.zip rows ws).map fun t => f t.1 t.2 := by
  apply List.ext_getElem
  · simp [h1, h2]
  · intro i a b
    have l1 : i < rows.length := by simp at a; omega
    have l2 : i < ws.length := by simp at a; omega
    simp [List.getD_eq_getElem?_getD, List.getElem?_eq_getElem l1, List.getElem?_eq_getElem l2]
theorem total_eq {n m : Nat} {rows : List (List Int)} {ws : List Int} (h1 : rows.length = m) (h2 : ws.length = m) (hr : ∀ r ∈ rows, r.length = n) :
    (List.range n).map (fun p => ((List.range m).map fun k => ws.getD k 0 * (rows.getD k []).getD p 0).sum) = mixL (List.replicate n 0) (List.zip rows ws) := by
  have ht : ∀ t ∈ List.zip rows ws, t.1.length = n := fun t m => hr _ (List.of_mem_zip m).1
  have l := mix_len (List.zip rows ws) (List.replicate n 0) (by simp) ht
  apply List.ext_getElem
  · simp [l]
  · intro i a b
    have hi : i < n := by simpa using a
    have g := mix_get hi (List.zip rows ws) (List.replicate n 0) (by simp) ht
    have g0 : (List.replicate n (0 : Int)).getD i 0 = 0 := by simp [List.getD_eq_getElem?_getD, List.getElem?_replicate, hi]
    rw [g0, Int.zero_add, List.getD_eq_getElem?_getD, List.getElem?_eq_getElem b] at g
    simp only [List.getElem_map, List.getElem_range]
    rw [zip_range (fun r w => w * r.getD i 0) h1 h2]
    exact g.symm
theorem sum_bd {A : Nat} : ∀ xs : List Int, (∀ x ∈ xs, x.natAbs ≤ A) → xs.sum.natAbs ≤ xs.length * A
  | [], _ => by simp
  | x :: xs, h => by
    have i := sum_bd xs fun y m => h y (List.mem_cons_of_mem _ m)
    have a := h x List.mem_cons_self
    have t := Int.natAbs_add_le x xs.sum
    rw [List.sum_cons, List.length_cons, Nat.add_mul]
    omega
def Q (x : Int) : Prop := x.natAbs ≤ 4
theorem mix_bd {n : Nat} {rows : List (List Int)} {ws : List Int} (h1 : rows.length ≤ 5) (hr : ∀ r ∈ rows, r.length = n ∧ ∀ x ∈ r, Q x) (hw : ∀ x ∈ ws, Q x) : SmR (mixL (List.replicate n 0) (List.zip rows ws)) := fun x m => by
  have ht : ∀ t ∈ List.zip rows ws, t.1.length = n := fun t m => (hr _ (List.of_mem_zip m).1).1
  have l := mix_len (List.zip rows ws) (List.replicate n 0) (by simp) ht
  obtain ⟨i, hi, rfl⟩ := List.mem_iff_getElem.mp m
  have hn : i < n := by omega
  have g := mix_get hn (List.zip rows ws) (List.replicate n 0) (by simp) ht
  have g0 : (List.replicate n (0 : Int)).getD i 0 = 0 := by simp [List.getD_eq_getElem?_getD, List.getElem?_replicate, hn]
  rw [g0, Int.zero_add, List.getD_eq_getElem?_getD, List.getElem?_eq_getElem hi] at g
  have g' : (mixL (List.replicate n 0) (List.zip rows ws))[i] = _ := g
  rw [g']
  have s := sum_bd (A := 16) ((List.zip rows ws).map fun t => t.2 * t.1.getD i 0) fun y my => by
    obtain ⟨t, mt, rfl⟩ := List.mem_map.mp my
    have a1 := hw _ (List.of_mem_zip mt).2
    have r1 := hr _ (List.of_mem_zip mt).1
    have a2 : Q (t.1.getD i 0) := by
      have : i < t.1.length := by omega
      rw [List.getD_eq_getElem?_getD, List.getElem?_eq_getElem this]
      exact r1.2 _ (List.getElem_mem _)
    rw [Int.natAbs_mul]
    exact Nat.mul_le_mul a1 a2
  rw [List.length_map, List.length_zip] at s
  have : min rows.length ws.length ≤ 5 := by omega
  have := Nat.mul_le_mul_right 16 this
  omega
/-! ### the draws -/
abbrev sM (n m : Nat) (s3 s4 s5 s6 s7 s8 s9 s10 s11 : Option D) : Sl := [some (.loc 0), some (.int n), some (.int m), s3, s4, s5, s6, s7, s8, s9, s10, s11]
theorem draws_of {g : Gv} {n m c : Nat} {σ : Sl} {j i : Nat} {o : Ob} {N : Nat} (hn : n ≤ c) (hc : c ≤ 1000) (ej : σ[j]? = some (some (.int n))) (ej2 : ∀ d : D, (σ.set i none)[0]? = some (some (.loc 0)) ∧ ((σ.set i none).set i (some d))[0]? = some (some (.loc 0))) (hp : PenAt [o] 0 (N + c)) :
    ∃ (xs : List Int) (o' : Ob), lComp (iR1 (aC (eV j) (aN))) (gN i) (tYes) (Y.e2 oSub (eCall d_u_law_draw (aC (eV 0) (aC (eC (.int 9)) (aN)))) (eC (.int 4))) [i] σ [o] = .ok (xs.map .int) [o'] ∧ (xs.length = n ∧ ∀ x ∈ xs, Q x) ∧ PenAt [o'] 0 N := by
  obtain ⟨rs, o', e, l, p, h⟩ := compL_dr (g := gN i) (e := Y.e2 oSub (eCall d_u_law_draw (aC (eV 0) (aC (eC (.int 9)) (aN)))) (eC (.int 4))) (σ := σ.set i none) (fun d => ∃ x, d = .int x ∧ Q x) 1 ((List.range n).map fun (p : Nat) => .int p) o N (fun d _ => ⟨_, rfl, fun o N hp => by
      obtain ⟨r, o', e, r0, r1, h⟩ := draw1 hp (many := 9) (by omega) (sm_of (by omega) (by omega))
      refine ⟨.int (r - 4), o', ?_, ⟨_, rfl, by unfold Q; omega⟩, h⟩
      have e0 := (ej2 d).2
      simp only [Y.e2, eCall, aC, aN, eV, e0, eC, Rs.bind, ofO, e, oSub]⟩) (hp.mono (by simp; omega))
  obtain ⟨xs, rfl, hx⟩ := ints_of p
  exact ⟨xs, o', lc' (it_n ej (by omega)) e (by simp at l; simp; omega), ⟨by simpa using l, hx⟩, h⟩
theorem tup_of' {f : Lv} {σ : Sl} {h h1 : Hm} {ns : List Int} (e : f σ h = .ok (ns.map .int) h1) : eB bTuple (aC (eFrz f) aN) σ h = .ok (R ns) h1 := by
  simp only [eB, aC, aN, eFrz, e, Rs.bind, bTuple, lstOf, Option.map_some, ofO, R]
theorem tups_of {f : Lv} {σ : Sl} {h h1 : Hm} {rs : List (List Int)} (e : f σ h = .ok (rs.map R) h1) : eB bTuple (aC (eFrz f) aN) σ h = .ok (Rs' rs) h1 := by
  simp only [eB, aC, aN, eFrz, e, Rs.bind, bTuple, lstOf, Option.map_some, ofO, Rs']
theorem mixed_draws {o : Ob} {N : Nat} (hp : PenAt [o] 0 (N + 40)) : ∃ (n m : Nat) (rows : List (List Int)) (ws : List Int) (o' : Ob), b_u_law_mixed_right [some (.loc 0), none, none, none, none, none, none, none, none, none, none, none] [o] = b_u_law_mixed_right_3 (sM n m (some (Rs' rows)) (some (.fl (ws.map .int))) none none none none none none none) [o'] ∧
    n ≤ 5 ∧ 1 ≤ m ∧ m ≤ 5 ∧ rows.length = m ∧ ws.length = m ∧ (∀ r ∈ rows, r.length = n ∧ ∀ x ∈ r, Q x) ∧ (∀ x ∈ ws, Q x) ∧ PenAt [o'] 0 N := by
  obtain ⟨n, o1, e1, n0, n1, h1⟩ := draw1 (n := N + 39) hp (many := 6) (by decide) (sm_of (by decide) (by decide))
  obtain ⟨m, o2, e2, m0, m1, h2⟩ := draw1 (n := N + 38) h1 (many := 5) (by decide) (sm_of (by decide) (by decide))
  obtain ⟨n, rfl⟩ : ∃ k : Nat, n = k := ⟨n.toNat, by omega⟩
  obtain ⟨mm, em⟩ : ∃ k : Nat, 1 + m = k := ⟨(1 + m).toNat, by omega⟩
  have k0 : b_u_law_mixed_right [some (.loc 0), none, none, none, none, none, none, none, none, none, none, none] [o] = b_u_law_mixed_right_1 (sM n mm none none none none none none none none none) [o2] := by
    simp [b_u_law_mixed_right, sSeq, sAsg, eTup, aC, aN, eCall, eV, eC, Y.e2, oAdd, em, ofO, Rs.bind, Rs.out, e1, e2, gT, gTs, gN, outO, Y.ll]
  obtain ⟨rs, o3, e3, l3, p3, h3⟩ := compL_dr (g := gN 8) (e := eB bTuple (aC (eFrz (lComp (iR1 (aC (eV 1) (aN))) (gN 9) (tYes) (Y.e2 oSub (eCall d_u_law_draw (aC (eV 0) (aC (eC (.int 9)) (aN)))) (eC (.int 4))) [9])) (aN)))
    (σ := sM n mm none none none none none none none none none) (fun d => ∃ x, d = R x ∧ (x.length = n ∧ ∀ y ∈ x, Q y)) 5 ((List.range mm).map fun (p : Nat) => .int p) o2 (N + 10) (fun d _ => ⟨_, rfl, fun o N hp => by
      obtain ⟨xs, o', e, b, h⟩ := draws_of (g := gN 9) (m := 0) (n := n) (c := 5) (j := 1) (i := 9) (σ := sM n mm none none none none none (some d) none none none) (by omega) (by decide) rfl (fun d => ⟨rfl, rfl⟩) hp
      exact ⟨R xs, o', tup_of' e, ⟨_, rfl, b⟩, h⟩⟩) (h2.mono (by simp; omega))
  obtain ⟨rows, rfl, hrows⟩ := rows_of p3
  obtain ⟨ws, o4, e4, ⟨lw, qw⟩, h4⟩ := draws_of (g := gN 8) (m := 0) (n := mm) (c := 5) (j := 2) (i := 8) (σ := sM n mm (some (Rs' rows)) none none none none none none none none) (o := o3) (N := N) (by omega) (by decide) rfl (fun d => ⟨rfl, rfl⟩) (h3.mono (by omega))
  have k1 : b_u_law_mixed_right_1 (sM n mm none none none none none none none none none) [o2] = b_u_law_mixed_right_2 (sM n mm (some (Rs' rows)) none none none none none none none none) [o3] := by
    have T := tups_of (lc' (vs := [8]) (σ := sM n mm none none none none none none none none none) (it_n (j := 2) (n := mm) rfl (by omega)) e3 (by simp at l3; simp; omega))
    simp only [b_u_law_mixed_right_1, sSeq, sAsg, T, Rs.out, gN, outO, List.set_cons_succ, List.set_cons_zero]
  have k2 : b_u_law_mixed_right_2 (sM n mm (some (Rs' rows)) none none none none none none none none) [o3] = b_u_law_mixed_right_3 (sM n mm (some (Rs' rows)) (some (.fl (ws.map .int))) none none none none none none none) [o4] := by
    simp only [b_u_law_mixed_right_2, sSeq, sAsg, eFrz_ok e4, Rs.out, gN, outO, List.set_cons_succ, List.set_cons_zero]
  exact ⟨n, mm, rows, ws, o4, by rw [k0, k1, k2], by omega, by omega, by omega, by simpa using l3, lw, hrows, qw, h4⟩
end L06
end

section
set_option Elab.async false
set_option linter.all false
set_option maxRecDepth 100000
set_option maxHeartbeats 1000000
/-! N06g: the law of rows of rows, what is told. -/
namespace L06
open PySem Y L2
theorem ix_Rs {h : Hm} {rows : List (List Int)} {i : Nat} (hi : i < rows.length) : oIx h (Rs' rows) (.int (i : Nat)) = some (R (rows.getD i [])) := by
  rw [Rs', Y.ix_tup]
  simp [List.getElem?_map, List.getElem?_eq_getElem hi, List.getD_eq_getElem?_getD]
theorem it_Rs {j : Nat} {rows : List (List Int)} {σ : Sl} {h : Hm} (e : σ[j]? = some (some (Rs' rows))) : iA (eV j) σ h = .ok (rows.map R) h := by
  simp [iA, eV, Rs.bind, e, Rs']
theorem getD_mem {α : Type} {xs : List α} {i : Nat} {d : α} (hi : i < xs.length) : xs.getD i d ∈ xs := by
  rw [List.getD_eq_getElem?_getD, List.getElem?_eq_getElem hi]
  exact List.getElem_mem _
theorem ix_fi {h : Hm} {ws : List Int} {k : Nat} (l : k < ws.length) : oIx h (.fl (ws.map .int)) (.int (k : Nat)) = some (.int (ws.getD k 0)) := by rw [Y.ix_fl, getD_int l]
theorem Q.k {x : Int} (h : Q x) : x.natAbs ≤ 1000 := Nat.le_trans h (by decide)
section
variable {h : Hm} {n m : Nat} {rows : List (List Int)} {ws : List Int}
theorem total_ok (hn : n ≤ 5) (m1 : m ≤ 5) (lr : rows.length = m) (lw : ws.length = m) (hr : ∀ r ∈ rows, r.length = n ∧ ∀ x ∈ r, Q x) (hw : ∀ x ∈ ws, Q x) : b_u_law_mixed_right_3 (sM n m (some (Rs' rows)) (some (.fl (ws.map .int))) none none none none none none none) h = b_u_law_mixed_right_4 (sM n m (some (Rs' rows)) (some (.fl (ws.map .int))) (some (R (mixL (List.replicate n 0) (List.zip rows ws)))) none none none none none none) h := by
  have T : eB bTuple (aC (eFrz (lComp (iR1 (aC (eV 1) (aN))) (gN 9) (tYes) (eB bSum (aC (eFrz (lComp (iR1 (aC (eV 2) (aN))) (gN 8) (tYes) (Y.e2 oMul (Y.e2 oIx (eV 4) (eV 8)) (Y.e2 oIx (Y.e2 oIx (eV 3) (eV 8)) (eV 9))) [8])) (aN))) [9])) (aN)) (sM n m (some (Rs' rows)) (some (.fl (ws.map .int))) none none none none none none none) h = .ok (R (mixL (List.replicate n 0) (List.zip rows ws))) h :=
    tup_of (lc (it_n rfl (by omega)) (by
      rw [← total_eq lr lw (fun r m => (hr r m).1), List.map_map]
      refine comp_range _ fun p hp => ?_
      refine sum_of (lc (it_n rfl (by omega)) (by
        rw [List.map_map]
        refine comp_range _ fun k hk => ?_
        have x1 : oIx h (.fl (ws.map .int)) (.int (k : Nat)) = some (.int (ws.getD k 0)) := ix_fi (by omega)
        have x2 : oIx h (Rs' rows) (.int (k : Nat)) = some (R (rows.getD k [])) := ix_Rs (by omega)
        have q := hr _ (getD_mem (d := []) (by omega : k < rows.length))
        have x3 : oIx h (R (rows.getD k [])) (.int (p : Nat)) = some (.int ((rows.getD k []).getD p 0)) := ix_R (by omega)
        have z : mulOk (ws.getD k 0) ((rows.getD k []).getD p 0) = true := mul_k (hw _ (getD_mem (by omega))).k (q.2 _ (getD_mem (by omega))).k
        simp only [unset, List.set_cons_succ, List.set_cons_zero, Y.e2, eV, List.getElem?_cons_succ, List.getElem?_cons_zero, Rs.bind, x1, x2, x3, ofO, oMul, z, if_true, Function.comp]) (by simp; omega))) (by
      have := mix_len (n := n) (List.zip rows ws) (List.replicate n 0) (by simp) fun t m => (hr _ (List.of_mem_zip m).1).1
      simp [this]; omega))
  simp only [b_u_law_mixed_right_3, sSeq, sAsg, T, Rs.out, gN, outO, List.set_cons_succ, List.set_cons_zero]
theorem table_ok {s5 : Option D} (hn : n ≤ 5) (lr : rows.length ≤ 5) (hr : ∀ r ∈ rows, r.length = n ∧ ∀ x ∈ r, Q x) : b_u_law_mixed_right_4 (sM n m (some (Rs' rows)) (some (.fl (ws.map .int))) s5 none none none none none none) h = b_u_law_mixed_right_5 (sM n m (some (Rs' rows)) (some (.fl (ws.map .int))) s5 (some (Rs' (tabL rows))) none none none none none) h := by
  have T : eB bTuple (aC (eFrz (lComp (iA (eV 3)) (gN 10) (tYes) (eB bTuple (aC (eFrz (lComp (iA (eV 3)) (gN 11) (tYes) (eB bSum (aC (eFrz (lComp (iR1 (aC (eV 1) (aN))) (gN 9) (tYes) (Y.e2 oMul (Y.e2 oIx (eV 10) (eV 9)) (Y.e2 oIx (eV 11) (eV 9))) [9])) (aN))) [11])) (aN))) [10])) (aN)) (sM n m (some (Rs' rows)) (some (.fl (ws.map .int))) s5 none none none none none none) h = .ok (Rs' (tabL rows)) h :=
    tups_of (lc (it_Rs rfl) (by
      rw [tabL, List.map_map]
      refine compL_m R _ rows fun a ma => ⟨_, rfl, ?_⟩
      refine tup_of (lc (it_Rs rfl) (by
        rw [List.map_map]
        refine compL_m R _ rows fun b mb => ⟨_, rfl, ?_⟩
        refine sum_of (lc (it_n rfl (by omega)) (by
          rw [← rz (hr a ma).1 (hr b mb).1]
          refine comp_range _ fun p hp => ?_
          have qa := hr a ma
          have qb := hr b mb
          have x1 : oIx h (R a) (.int (p : Nat)) = some (.int (a.getD p 0)) := ix_R (by omega)
          have x2 : oIx h (R b) (.int (p : Nat)) = some (.int (b.getD p 0)) := ix_R (by omega)
          have z : mulOk (a.getD p 0) (b.getD p 0) = true := mul_k (qa.2 _ (getD_mem (by omega))).k (qb.2 _ (getD_mem (by omega))).k
          simp only [unset, List.set_cons_succ, List.set_cons_zero, Y.e2, eV, List.getElem?_cons_succ, List.getElem?_cons_zero, Rs.bind, x1, x2, ofO, oMul, z, if_true]) (by have := (hr a ma).1; have := (hr b mb).1; simp; omega))) (by simp; omega))) (by simp [tabL]; omega))
  simp only [b_u_law_mixed_right_4, sSeq, sAsg, T, Rs.out, gN, outO, List.set_cons_succ, List.set_cons_zero]
theorem tab_bd (hn : n ≤ 5) (hr : ∀ r ∈ rows, r.length = n ∧ ∀ x ∈ r, Q x) : ∀ r ∈ tabL rows, r.length = (tabL rows).length ∧ ∀ x ∈ r, x.natAbs ≤ 80 := fun r mr => by
  obtain ⟨a, ma, rfl⟩ := List.mem_map.mp mr
  refine ⟨by simp [tabL], fun x mx => ?_⟩
  obtain ⟨b, mb, rfl⟩ := List.mem_map.mp mx
  have := dot_bd (A := 4) (C := 4) a b (hr a ma).2 (hr b mb).2
  rw [(hr a ma).1] at this
  omega
theorem tab_sym : ∀ i j, i < (tabL rows).length → j < (tabL rows).length → ((tabL rows).getD i []).getD j 0 = ((tabL rows).getD j []).getD i 0 := fun i j hi hj => by
  have li : i < rows.length := by simpa [tabL] using hi
  have lj : j < rows.length := by simpa [tabL] using hj
  simp [tabL, List.getD_eq_getElem?_getD, List.getElem?_eq_getElem li, List.getElem?_eq_getElem lj]
  exact dotI_comm _ _
end
/-- what is told -/
def toldM (n : Nat) (rows : List (List Int)) (ws : List Int) : D := .fl [R (mixL (List.replicate n 0) (List.zip rows ws)), Rs' (tabL rows), .bl true]
theorem toldM_ok {n : Nat} {rows : List (List Int)} {ws : List Int} (hn : n ≤ 5) (lr : rows.length ≤ 5) (hr : ∀ r ∈ rows, r.length = n ∧ ∀ x ∈ r, Q x) (hw : ∀ x ∈ ws, Q x) : ∃ r : Str, ∀ h, bRepr h [toldM n rows ws] = some (.str r) := by
  have ml := mix_len (n := n) (List.zip rows ws) (List.replicate n 0) (by simp) fun t m => (hr _ (List.of_mem_zip m).1).1
  have mb := mix_bd lr hr hw
  have tl : (tabL rows).length = rows.length := by simp [tabL]
  have tb := tab_bd hn hr
  refine (told_fl (n := 2) (m := 100000) (w := 20000) (.cons (told_R (fun x m => smk (mb x m)) (by omega)) (by simp only [PyData.depth, dep_int]; decide) (.cons (told_tup (n := 1) (w := 2000) (toldL_Rs fun r mr => ⟨fun x mx => smk (Nat.le_trans ((tb r mr).2 x mx) (by decide)), by have := (tb r mr).1; omega⟩) (by decide) (by simp; omega)) ?_ (.cons (told_bl.up (by decide)) (by simp [PyData.depth]) .nil))) (by decide) (by simp)).rep (by decide)
  have := (toldL_Rs (m := 2000) (rs := tabL rows) fun r mr => ⟨fun x mx => smk (Nat.le_trans ((tb r mr).2 x mx) (by decide)), by have := (tb r mr).1; omega⟩).get.2.2.1
  simp only [PyData.depth]
  omega
/-- the law of rows of rows -/
theorem mixed_right {o : Ob} {N : Nat} (hp : PenAt [o] 0 (N + 41)) : ∃ o', d_u_law_mixed_right [.loc 0] [o] = .ok (.bl true) [o'] ∧ PenAt [o'] 0 N := by
  obtain ⟨n, m, rows, ws, o1, e, hn, m0, m1, lr, lw, hr, hw, h1⟩ := mixed_draws (N := N + 1) hp
  obtain ⟨w, o2, e2, mw, h2⟩ := pickd h1 (xs := [.fl (ws.map .int), R ws]) (by simp) (by simp)
  refine ⟨o2, ?_, h2⟩
  have ne : rows ≠ [] := fun z => by rw [z] at lr; simp at lr; omega
  have hr' : ∀ r ∈ rows, r.length = n ∧ SmR r := fun r mr => ⟨(hr r mr).1, fun x mx => ((hr r mr).2 x mx).k⟩
  have hw' : ∀ x ∈ ws, x.natAbs ≤ 1000 := fun x mx => (hw x mx).k
  have zw : zipD [Rs' rows, w] = some (pairsD (rows.map R) (ws.map .int)) ∧ ∀ h, bTuple h [w] = some (R ws) := by
    simp only [List.mem_cons, List.not_mem_nil, or_false] at mw
    rcases mw with rfl | rfl
    · exact ⟨rfl, fun h => rfl⟩
    · exact ⟨rfl, fun h => rfl⟩
  have F1 := mixed (h := [o2]) ne hr' hw' (by omega) (by omega) (by omega) zw.1 (zw.2 _)
  have F1' := mixed (h := [o2]) (w := .fl (ws.map .int)) ne hr' hw' (by omega) (by omega) (by omega) rfl rfl
  have F2 := products_table (h := [o2]) ne hr' (by omega) (by omega)
  have F3 := are_rows (h := [o2]) ne (fun r m => (hr r m).1) (by omega : n ≤ 1000) (by omega)
  have tl : (tabL rows).length = rows.length := by simp [tabL]
  have tb := tab_bd hn hr
  have F4 := value_at (h := [o2]) (tb := tabL rows) (ws := ws) (fun r mr => (tb r mr).1) tab_sym (by omega) (fun r mr x mx => Nat.le_trans ((tb r mr).2 x mx) (by decide)) hw' (by omega) (fun r mr => by
    have := dot_bd (A := 80) (C := 4) r ws (tb r mr).2 hw
    have l := (tb r mr).1
    have b16 : (dotI r ws).natAbs ≤ 1600 := by omega
    exact Nat.lt_of_le_of_lt b16 (by decide +kernel))
  have mb := mix_bd (by omega : rows.length ≤ 5) hr hw
  have ml := mix_len (n := n) (List.zip rows ws) (List.replicate n 0) (by simp) fun t m => (hr _ (List.of_mem_zip m).1).1
  have F5 := square_sum (h := [o2]) (xs := mixL (List.replicate n 0) (List.zip rows ws)) (by omega) fun x mx y my => mul_k (mb x mx) (mb y my)
  obtain ⟨r, hrr⟩ := toldM_ok hn (by omega : rows.length ≤ 5) hr hw
  have k5 : b_u_law_mixed_right_5 (sM n m (some (Rs' rows)) (some (.fl (ws.map .int))) (some (R (mixL (List.replicate n 0) (List.zip rows ws)))) (some (Rs' (tabL rows))) none none none none none) [o1] = b_u_law_mixed_right_6 (sM n m (some (Rs' rows)) (some (.fl (ws.map .int))) (some (R (mixL (List.replicate n 0) (List.zip rows ws)))) (some (Rs' (tabL rows))) (some (toldM n rows ws)) none none none none) [o2] := by
    have e2' : d_u_law_pick [.loc 0, .fl [.fl (ws.map .int), .tup (ws.map .int)]] [o1] = .ok w [o2] := e2
    simp [b_u_law_mixed_right_5, sSeq, sAsg, eFrz, lLst, eCall, eB, bTuple, lstOf, aC, aN, eV, Rs.bind, Rs.out, ofO, e2', F1, F2, F3, Y.ll, gN, outO, toldM]
  have k6 : b_u_law_mixed_right_6 (sM n m (some (Rs' rows)) (some (.fl (ws.map .int))) (some (R (mixL (List.replicate n 0) (List.zip rows ws)))) (some (Rs' (tabL rows))) (some (toldM n rows ws)) none none none none) [o2] = b_u_law_mixed_right_7 (sM n m (some (Rs' rows)) (some (.fl (ws.map .int))) (some (R (mixL (List.replicate n 0) (List.zip rows ws)))) (some (Rs' (tabL rows))) (some (toldM n rows ws)) none none none none) [o2] := by
    have A := frz3 (e1 := eV 5) (e2 := eV 6) (e3 := eC (.bl true)) (h := [o2]) (σ := sM n m (some (Rs' rows)) (some (.fl (ws.map .int))) (some (R (mixL (List.replicate n 0) (List.zip rows ws)))) (some (Rs' (tabL rows))) (some (toldM n rows ws)) none none none none) rfl rfl rfl
    have Q1 := rep_of A (hrr [o2])
    have Q2 := rep_of (f := eV 7) (h := [o2]) (σ := sM n m (some (Rs' rows)) (some (.fl (ws.map .int))) (some (R (mixL (List.replicate n 0) (List.zip rows ws)))) (some (Rs' (tabL rows))) (some (toldM n rows ws)) none none none none) rfl (hrr [o2])
    have T := ne_same Q2 Q1
    simp only [b_u_law_mixed_right_6, sSeq, sIf, T, Rs.out, Bool.false_eq_true, if_false, sPass]
  have k7 : b_u_law_mixed_right_7 (sM n m (some (Rs' rows)) (some (.fl (ws.map .int))) (some (R (mixL (List.replicate n 0) (List.zip rows ws)))) (some (Rs' (tabL rows))) (some (toldM n rows ws)) none none none none) [o2] = .rt (.bl true) [o2] := by
    have v := value_eq (n := n) (rows := rows) (ws := ws) (by omega) fun r m => (hr r m).1
    have bt : bTuple [o2] [.fl (ws.map .int)] = some (R ws) := rfl
    simp only [b_u_law_mixed_right_7, sRet, Y.e2, eCall, eB, aC, aN, eV, List.getElem?_cons_succ, List.getElem?_cons_zero, Rs.bind, F2, bt, ofO, F4, F1', F5, oEq, eqD, v, decide_true, Option.map_some, Rs.out]
  show (match b_u_law_mixed_right [some (.loc 0), none, none, none, none, none, none, none, none, none, none, none] [o] with | .rt d h' => finP [o] d h' | .nx _ h' => finP [o] .non h' | .ex e _ h' => .ex e h' | _ => .bad) = _
  rw [e, total_ok hn m1 lr lw hr hw, table_ok hn (by omega) hr, k5, k6, k7]
  rfl
end L06
end

section
set_option Elab.async false
set_option linter.all false
set_option maxRecDepth 100000
set_option maxHeartbeats 1000000
/-! N06h: errors, one by one. -/
namespace L06
open PySem Y L2
theorem q1 : ((Str.ofString "what") == (Str.ofString "number")) = false := by decide
theorem q2 : ((Str.ofString "promise") == (Str.ofString "witness")) = false := by decide
section
variable {h : Hm} {v : D} {r s : Str} {FF : Fn}
theorem r_row (hc : FF [] h = .ex ⟨"BadRow", [("row", v)]⟩ h) (hr : bRepr h [v] = some (.str r)) : d_u_law_refused FF [] h = .ok (.tup [.str "row", .str r]) h := by
  simp (decide := true) [d_u_law_refused, b_u_law_refused, b_u_law_refused_1, fnP, startD, sSeq, sTry, sExpr, eAct, aN, Rs.bind, Rs.out, hc, handle, hNm, sXR, xA, xB, xN, xTup, xF, xC, List.lookup, ofO, hr, finP, Y.ll]
theorem r_rows (hc : FF [] h = .ex ⟨"BadRows", [("rows", v)]⟩ h) (hr : bRepr h [v] = some (.str r)) : d_u_law_refused FF [] h = .ok (.tup [.str "rows", .str r]) h := by
  simp (decide := true) [d_u_law_refused, b_u_law_refused, b_u_law_refused_1, fnP, startD, sSeq, sTry, sExpr, eAct, aN, Rs.bind, Rs.out, hc, handle, hNm, sXR, xA, xB, xN, xTup, xF, xC, List.lookup, ofO, hr, finP, Y.ll]
theorem r_num (hc : FF [] h = .ex ⟨"BadNumber", [("number", v), ("what", .str s)]⟩ h) (hr : bRepr h [v] = some (.str r)) : d_u_law_refused FF [] h = .ok (.tup [.str s, .str r]) h := by
  simp (decide := true) [d_u_law_refused, b_u_law_refused, b_u_law_refused_1, fnP, startD, sSeq, sTry, sExpr, eAct, aN, Rs.bind, Rs.out, hc, handle, hNm, sXR, xA, xB, xN, xTup, xF, xC, List.lookup, ofO, hr, finP, Y.ll, q1, q2]
theorem r_kept (hc : FF [] h = .ex ⟨"NotKept", [("witness", v), ("promise", .str s)]⟩ h) (hr : bRepr h [v] = some (.str r)) : d_u_law_refused FF [] h = .ok (.tup [.str s, .str r]) h := by
  simp (decide := true) [d_u_law_refused, b_u_law_refused, b_u_law_refused_1, fnP, startD, sSeq, sTry, sExpr, eAct, aN, Rs.bind, Rs.out, hc, handle, hNm, sXR, xA, xB, xN, xTup, xF, xC, List.lookup, ofO, hr, finP, Y.ll, q1, q2]
end
theorem bT_fl {h : Hm} {xs : List D} : bTuple h [.fl xs] = some (.tup xs) := rfl
/-! ### values near a row -/
def odds (a b c : Int) : List D := [.non, .fl [.int a, .int b, .int c], .tup [.int a, .int b, .int c, .bl true], .tup [.int a, .int b, .int c, .non], .int 3, .str "12"]
def wrongs (a b c : Int) : List D := [.non, .fl [R [a, b, c]], .tup [R [a, b, c], .tup [.int a, .int b, .int c, .int 1]], .tup [R [a, b, c], .non], .tup [.fl [.int a, .int b, .int c]], .int 3]
def bads : List D := [.non, .bl true, .str "1"]
section
variable {h : Hm} {a b c : Int} {v : D}
theorem odd_is (m : v ∈ odds a b c) : d_is_row [v] h = .ok (.bl false) h := by
  simp only [odds, List.mem_cons, List.not_mem_nil, or_false] at m
  rcases m with rfl | rfl | rfl | rfl | rfl | rfl <;> simp [d_is_row, b_is_row, d_is_row_of, b_is_row_of, d_is_whole, b_is_whole, fnP, fnK, startD, sSeq, sAsg, sPar, sRet, sRetN, sIf, sExpr, sPass, eV, Rs.out, Rs.bind, Rs.bindN, outO, gT, gTs, gN, Y.e1, Y.e2, eC, aN, aC, eTup, lLst, eFrz, eMut, oMul, oSub, oAdd, oEq, oNe, oLt, oLe, oGt, oGe, oIs, oIsNot, isN, oDiv, oMod, uNeg, uNot, uRev, eqD, ofO, finP, Y.tB, Y.tT, Y.tAnd, Y.tOr, Y.tNot, Y.tYes, eAnd, eOr, eIf, eCh, truth, eB, lB, eIs, eCall, lCall, instD, bLen, bInt, seqOf, lstOf, ownL, oIx, ixD, dctOf, atI, ixN, bMin, bMax, intsOf, minI, maxI, bAll, bAny, bools, lComp, compL, iA, unset, ll, Y.oFld, Y.isO, Y.oIn, Y.oNotIn, Y.sRaise, List.lookup, List.zip, List.zipWith]
theorem odd_need (m : v ∈ odds a b c) : d_need_row [v] h = .ex ⟨"BadRow", [("row", v)]⟩ h := by simp [d_need_row, b_need_row, fnP, fnK, startD, sSeq, sAsg, sPar, sRet, sRetN, sIf, sExpr, sPass, eV, Rs.out, Rs.bind, Rs.bindN, outO, gT, gTs, gN, Y.e1, Y.e2, eC, aN, aC, eTup, lLst, eFrz, eMut, oMul, oSub, oAdd, oEq, oNe, oLt, oLe, oGt, oGe, oIs, oIsNot, isN, oDiv, oMod, uNeg, uNot, uRev, eqD, ofO, finP, Y.tB, Y.tT, Y.tAnd, Y.tOr, Y.tNot, Y.tYes, eAnd, eOr, eIf, eCh, truth, eB, lB, eIs, eCall, lCall, instD, bLen, bInt, seqOf, lstOf, ownL, oIx, ixD, dctOf, atI, ixN, bMin, bMax, intsOf, minI, maxI, bAll, bAny, bools, lComp, compL, iA, unset, ll, Y.oFld, Y.isO, Y.oIn, Y.oNotIn, Y.sRaise, List.lookup, List.zip, List.zipWith, odd_is m]
theorem odd_two (m : v ∈ odds a b c) {w : D} : d_need_two_rows [v, w] h = .ex ⟨"BadRow", [("row", v)]⟩ h := by simp [d_need_two_rows, b_need_two_rows, b_need_two_rows_2, b_need_two_rows_1, fnP, fnK, startD, sSeq, sAsg, sPar, sRet, sRetN, sIf, sExpr, sPass, eV, Rs.out, Rs.bind, Rs.bindN, outO, gT, gTs, gN, Y.e1, Y.e2, eC, aN, aC, eTup, lLst, eFrz, eMut, oMul, oSub, oAdd, oEq, oNe, oLt, oLe, oGt, oGe, oIs, oIsNot, isN, oDiv, oMod, uNeg, uNot, uRev, eqD, ofO, finP, Y.tB, Y.tT, Y.tAnd, Y.tOr, Y.tNot, Y.tYes, eAnd, eOr, eIf, eCh, truth, eB, lB, eIs, eCall, lCall, instD, bLen, bInt, seqOf, lstOf, ownL, oIx, ixD, dctOf, atI, ixN, bMin, bMax, intsOf, minI, maxI, bAll, bAny, bools, lComp, compL, iA, unset, ll, Y.oFld, Y.isO, Y.oIn, Y.oNotIn, Y.sRaise, List.lookup, List.zip, List.zipWith, odd_need m]
theorem odd_two2 (m : v ∈ odds a b c) : d_need_two_rows [R [a, b, c], v] h = .ex ⟨"BadRow", [("row", v)]⟩ h := by
  have := need_row (h := h) (xs := [a, b, c]) (by simp)
  simp [d_need_two_rows, b_need_two_rows, b_need_two_rows_2, b_need_two_rows_1, fnP, fnK, startD, sSeq, sAsg, sPar, sRet, sRetN, sIf, sExpr, sPass, eV, Rs.out, Rs.bind, Rs.bindN, outO, gT, gTs, gN, Y.e1, Y.e2, eC, aN, aC, eTup, lLst, eFrz, eMut, oMul, oSub, oAdd, oEq, oNe, oLt, oLe, oGt, oGe, oIs, oIsNot, isN, oDiv, oMod, uNeg, uNot, uRev, eqD, ofO, finP, Y.tB, Y.tT, Y.tAnd, Y.tOr, Y.tNot, Y.tYes, eAnd, eOr, eIf, eCh, truth, eB, lB, eIs, eCall, lCall, instD, bLen, bInt, seqOf, lstOf, ownL, oIx, ixD, dctOf, atI, ixN, bMin, bMax, intsOf, minI, maxI, bAll, bAny, bools, lComp, compL, iA, unset, ll, Y.oFld, Y.isO, Y.oIn, Y.oNotIn, Y.sRaise, List.lookup, List.zip, List.zipWith, odd_need m, this]
theorem o1 (m : v ∈ odds a b c) : d_square_sum [v] h = .ex ⟨"BadRow", [("row", v)]⟩ h ∧ d_content [v] h = .ex ⟨"BadRow", [("row", v)]⟩ h ∧ d_plain [v] h = .ex ⟨"BadRow", [("row", v)]⟩ h := by
  refine ⟨?_, ?_, ?_⟩
  · simp [d_square_sum, b_square_sum, b_square_sum_1, fnP, fnK, startD, sSeq, sAsg, sPar, sRet, sRetN, sIf, sExpr, sPass, eV, Rs.out, Rs.bind, Rs.bindN, outO, gT, gTs, gN, Y.e1, Y.e2, eC, aN, aC, eTup, lLst, eFrz, eMut, oMul, oSub, oAdd, oEq, oNe, oLt, oLe, oGt, oGe, oIs, oIsNot, isN, oDiv, oMod, uNeg, uNot, uRev, eqD, ofO, finP, Y.tB, Y.tT, Y.tAnd, Y.tOr, Y.tNot, Y.tYes, eAnd, eOr, eIf, eCh, truth, eB, lB, eIs, eCall, lCall, instD, bLen, bInt, seqOf, lstOf, ownL, oIx, ixD, dctOf, atI, ixN, bMin, bMax, intsOf, minI, maxI, bAll, bAny, bools, lComp, compL, iA, unset, ll, Y.oFld, Y.isO, Y.oIn, Y.oNotIn, Y.sRaise, List.lookup, List.zip, List.zipWith, odd_need m]
  · simp [d_content, b_content, b_content_1, fnP, fnK, startD, sSeq, sAsg, sPar, sRet, sRetN, sIf, sExpr, sPass, eV, Rs.out, Rs.bind, Rs.bindN, outO, gT, gTs, gN, Y.e1, Y.e2, eC, aN, aC, eTup, lLst, eFrz, eMut, oMul, oSub, oAdd, oEq, oNe, oLt, oLe, oGt, oGe, oIs, oIsNot, isN, oDiv, oMod, uNeg, uNot, uRev, eqD, ofO, finP, Y.tB, Y.tT, Y.tAnd, Y.tOr, Y.tNot, Y.tYes, eAnd, eOr, eIf, eCh, truth, eB, lB, eIs, eCall, lCall, instD, bLen, bInt, seqOf, lstOf, ownL, oIx, ixD, dctOf, atI, ixN, bMin, bMax, intsOf, minI, maxI, bAll, bAny, bools, lComp, compL, iA, unset, ll, Y.oFld, Y.isO, Y.oIn, Y.oNotIn, Y.sRaise, List.lookup, List.zip, List.zipWith, odd_need m]
  · simp [d_plain, b_plain, b_plain_1, fnP, fnK, startD, sSeq, sAsg, sPar, sRet, sRetN, sIf, sExpr, sPass, eV, Rs.out, Rs.bind, Rs.bindN, outO, gT, gTs, gN, Y.e1, Y.e2, eC, aN, aC, eTup, lLst, eFrz, eMut, oMul, oSub, oAdd, oEq, oNe, oLt, oLe, oGt, oGe, oIs, oIsNot, isN, oDiv, oMod, uNeg, uNot, uRev, eqD, ofO, finP, Y.tB, Y.tT, Y.tAnd, Y.tOr, Y.tNot, Y.tYes, eAnd, eOr, eIf, eCh, truth, eB, lB, eIs, eCall, lCall, instD, bLen, bInt, seqOf, lstOf, ownL, oIx, ixD, dctOf, atI, ixN, bMin, bMax, intsOf, minI, maxI, bAll, bAny, bools, lComp, compL, iA, unset, ll, Y.oFld, Y.isO, Y.oIn, Y.oNotIn, Y.sRaise, List.lookup, List.zip, List.zipWith, odd_need m]
theorem o2 (m : v ∈ odds a b c) {w : D} : d_product_of [v, w] h = .ex ⟨"BadRow", [("row", v)]⟩ h ∧ d_plus [v, w] h = .ex ⟨"BadRow", [("row", v)]⟩ h ∧ d_minus [v, w] h = .ex ⟨"BadRow", [("row", v)]⟩ h ∧ d_times_row [v, w] h = .ex ⟨"BadRow", [("row", v)]⟩ h := by
  refine ⟨?_, ?_, ?_, ?_⟩
  · simp [d_product_of, b_product_of, b_product_of_1, fnP, fnK, startD, sSeq, sAsg, sPar, sRet, sRetN, sIf, sExpr, sPass, eV, Rs.out, Rs.bind, Rs.bindN, outO, gT, gTs, gN, Y.e1, Y.e2, eC, aN, aC, eTup, lLst, eFrz, eMut, oMul, oSub, oAdd, oEq, oNe, oLt, oLe, oGt, oGe, oIs, oIsNot, isN, oDiv, oMod, uNeg, uNot, uRev, eqD, ofO, finP, Y.tB, Y.tT, Y.tAnd, Y.tOr, Y.tNot, Y.tYes, eAnd, eOr, eIf, eCh, truth, eB, lB, eIs, eCall, lCall, instD, bLen, bInt, seqOf, lstOf, ownL, oIx, ixD, dctOf, atI, ixN, bMin, bMax, intsOf, minI, maxI, bAll, bAny, bools, lComp, compL, iA, unset, ll, Y.oFld, Y.isO, Y.oIn, Y.oNotIn, Y.sRaise, List.lookup, List.zip, List.zipWith, odd_two m]
  · simp [d_plus, b_plus, b_plus_1, fnP, fnK, startD, sSeq, sAsg, sPar, sRet, sRetN, sIf, sExpr, sPass, eV, Rs.out, Rs.bind, Rs.bindN, outO, gT, gTs, gN, Y.e1, Y.e2, eC, aN, aC, eTup, lLst, eFrz, eMut, oMul, oSub, oAdd, oEq, oNe, oLt, oLe, oGt, oGe, oIs, oIsNot, isN, oDiv, oMod, uNeg, uNot, uRev, eqD, ofO, finP, Y.tB, Y.tT, Y.tAnd, Y.tOr, Y.tNot, Y.tYes, eAnd, eOr, eIf, eCh, truth, eB, lB, eIs, eCall, lCall, instD, bLen, bInt, seqOf, lstOf, ownL, oIx, ixD, dctOf, atI, ixN, bMin, bMax, intsOf, minI, maxI, bAll, bAny, bools, lComp, compL, iA, unset, ll, Y.oFld, Y.isO, Y.oIn, Y.oNotIn, Y.sRaise, List.lookup, List.zip, List.zipWith, odd_two m]
  · simp [d_minus, b_minus, b_minus_1, fnP, fnK, startD, sSeq, sAsg, sPar, sRet, sRetN, sIf, sExpr, sPass, eV, Rs.out, Rs.bind, Rs.bindN, outO, gT, gTs, gN, Y.e1, Y.e2, eC, aN, aC, eTup, lLst, eFrz, eMut, oMul, oSub, oAdd, oEq, oNe, oLt, oLe, oGt, oGe, oIs, oIsNot, isN, oDiv, oMod, uNeg, uNot, uRev, eqD, ofO, finP, Y.tB, Y.tT, Y.tAnd, Y.tOr, Y.tNot, Y.tYes, eAnd, eOr, eIf, eCh, truth, eB, lB, eIs, eCall, lCall, instD, bLen, bInt, seqOf, lstOf, ownL, oIx, ixD, dctOf, atI, ixN, bMin, bMax, intsOf, minI, maxI, bAll, bAny, bools, lComp, compL, iA, unset, ll, Y.oFld, Y.isO, Y.oIn, Y.oNotIn, Y.sRaise, List.lookup, List.zip, List.zipWith, odd_two m]
  · simp [d_times_row, b_times_row, b_times_row_2, b_times_row_1, fnP, fnK, startD, sSeq, sAsg, sPar, sRet, sRetN, sIf, sExpr, sPass, eV, Rs.out, Rs.bind, Rs.bindN, outO, gT, gTs, gN, Y.e1, Y.e2, eC, aN, aC, eTup, lLst, eFrz, eMut, oMul, oSub, oAdd, oEq, oNe, oLt, oLe, oGt, oGe, oIs, oIsNot, isN, oDiv, oMod, uNeg, uNot, uRev, eqD, ofO, finP, Y.tB, Y.tT, Y.tAnd, Y.tOr, Y.tNot, Y.tYes, eAnd, eOr, eIf, eCh, truth, eB, lB, eIs, eCall, lCall, instD, bLen, bInt, seqOf, lstOf, ownL, oIx, ixD, dctOf, atI, ixN, bMin, bMax, intsOf, minI, maxI, bAll, bAny, bools, lComp, compL, iA, unset, ll, Y.oFld, Y.isO, Y.oIn, Y.oNotIn, Y.sRaise, List.lookup, List.zip, List.zipWith, odd_need m]
theorem o3 (m : v ∈ odds a b c) : d_product_of [R [a, b, c], v] h = .ex ⟨"BadRow", [("row", v)]⟩ h ∧ d_plus [R [a, b, c], v] h = .ex ⟨"BadRow", [("row", v)]⟩ h ∧ d_minus [R [a, b, c], v] h = .ex ⟨"BadRow", [("row", v)]⟩ h := by
  refine ⟨?_, ?_, ?_⟩
  · simp [d_product_of, b_product_of, b_product_of_1, fnP, fnK, startD, sSeq, sAsg, sPar, sRet, sRetN, sIf, sExpr, sPass, eV, Rs.out, Rs.bind, Rs.bindN, outO, gT, gTs, gN, Y.e1, Y.e2, eC, aN, aC, eTup, lLst, eFrz, eMut, oMul, oSub, oAdd, oEq, oNe, oLt, oLe, oGt, oGe, oIs, oIsNot, isN, oDiv, oMod, uNeg, uNot, uRev, eqD, ofO, finP, Y.tB, Y.tT, Y.tAnd, Y.tOr, Y.tNot, Y.tYes, eAnd, eOr, eIf, eCh, truth, eB, lB, eIs, eCall, lCall, instD, bLen, bInt, seqOf, lstOf, ownL, oIx, ixD, dctOf, atI, ixN, bMin, bMax, intsOf, minI, maxI, bAll, bAny, bools, lComp, compL, iA, unset, ll, Y.oFld, Y.isO, Y.oIn, Y.oNotIn, Y.sRaise, List.lookup, List.zip, List.zipWith, odd_two2 m]
  · simp [d_plus, b_plus, b_plus_1, fnP, fnK, startD, sSeq, sAsg, sPar, sRet, sRetN, sIf, sExpr, sPass, eV, Rs.out, Rs.bind, Rs.bindN, outO, gT, gTs, gN, Y.e1, Y.e2, eC, aN, aC, eTup, lLst, eFrz, eMut, oMul, oSub, oAdd, oEq, oNe, oLt, oLe, oGt, oGe, oIs, oIsNot, isN, oDiv, oMod, uNeg, uNot, uRev, eqD, ofO, finP, Y.tB, Y.tT, Y.tAnd, Y.tOr, Y.tNot, Y.tYes, eAnd, eOr, eIf, eCh, truth, eB, lB, eIs, eCall, lCall, instD, bLen, bInt, seqOf, lstOf, ownL, oIx, ixD, dctOf, atI, ixN, bMin, bMax, intsOf, minI, maxI, bAll, bAny, bools, lComp, compL, iA, unset, ll, Y.oFld, Y.isO, Y.oIn, Y.oNotIn, Y.sRaise, List.lookup, List.zip, List.zipWith, odd_two2 m]
  · simp [d_minus, b_minus, b_minus_1, fnP, fnK, startD, sSeq, sAsg, sPar, sRet, sRetN, sIf, sExpr, sPass, eV, Rs.out, Rs.bind, Rs.bindN, outO, gT, gTs, gN, Y.e1, Y.e2, eC, aN, aC, eTup, lLst, eFrz, eMut, oMul, oSub, oAdd, oEq, oNe, oLt, oLe, oGt, oGe, oIs, oIsNot, isN, oDiv, oMod, uNeg, uNot, uRev, eqD, ofO, finP, Y.tB, Y.tT, Y.tAnd, Y.tOr, Y.tNot, Y.tYes, eAnd, eOr, eIf, eCh, truth, eB, lB, eIs, eCall, lCall, instD, bLen, bInt, seqOf, lstOf, ownL, oIx, ixD, dctOf, atI, ixN, bMin, bMax, intsOf, minI, maxI, bAll, bAny, bools, lComp, compL, iA, unset, ll, Y.oFld, Y.isO, Y.oIn, Y.oNotIn, Y.sRaise, List.lookup, List.zip, List.zipWith, odd_two2 m]
def kept34 : Exn := ⟨"NotKept", [("witness", .tup [.int 3, .int 4]), ("promise", .str "length")]⟩
theorem len_two : d_need_two_rows [R [a, b, c], R [a, b, c, 1]] h = .ex kept34 h := by
  have x := need_row (h := h) (xs := [a, b, c]) (by simp)
  have y := need_row (h := h) (xs := [a, b, c, 1]) (by simp)
  simp [R] at x y
  simp [d_need_two_rows, b_need_two_rows, b_need_two_rows_2, b_need_two_rows_1, fnP, fnK, startD, sSeq, sAsg, sPar, sRet, sRetN, sIf, sExpr, sPass, eV, Rs.out, Rs.bind, Rs.bindN, outO, gT, gTs, gN, Y.e1, Y.e2, eC, aN, aC, eTup, lLst, eFrz, eMut, oMul, oSub, oAdd, oEq, oNe, oLt, oLe, oGt, oGe, oIs, oIsNot, isN, oDiv, oMod, uNeg, uNot, uRev, eqD, ofO, finP, Y.tB, Y.tT, Y.tAnd, Y.tOr, Y.tNot, Y.tYes, eAnd, eOr, eIf, eCh, truth, eB, lB, eIs, eCall, lCall, instD, bLen, bInt, seqOf, lstOf, ownL, oIx, ixD, dctOf, atI, ixN, bMin, bMax, intsOf, minI, maxI, bAll, bAny, bools, lComp, compL, iA, unset, ll, Y.oFld, Y.isO, Y.oIn, Y.oNotIn, Y.sRaise, List.lookup, List.zip, List.zipWith, R, x, y, kept34]
theorem o4 : d_product_of [R [a, b, c], R [a, b, c, 1]] h = .ex kept34 h ∧ d_plus [R [a, b, c], R [a, b, c, 1]] h = .ex kept34 h ∧ d_minus [R [a, b, c], R [a, b, c, 1]] h = .ex kept34 h := by
  refine ⟨?_, ?_, ?_⟩
  · simp [d_product_of, b_product_of, b_product_of_1, fnP, fnK, startD, sSeq, sAsg, sPar, sRet, sRetN, sIf, sExpr, sPass, eV, Rs.out, Rs.bind, Rs.bindN, outO, gT, gTs, gN, Y.e1, Y.e2, eC, aN, aC, eTup, lLst, eFrz, eMut, oMul, oSub, oAdd, oEq, oNe, oLt, oLe, oGt, oGe, oIs, oIsNot, isN, oDiv, oMod, uNeg, uNot, uRev, eqD, ofO, finP, Y.tB, Y.tT, Y.tAnd, Y.tOr, Y.tNot, Y.tYes, eAnd, eOr, eIf, eCh, truth, eB, lB, eIs, eCall, lCall, instD, bLen, bInt, seqOf, lstOf, ownL, oIx, ixD, dctOf, atI, ixN, bMin, bMax, intsOf, minI, maxI, bAll, bAny, bools, lComp, compL, iA, unset, ll, Y.oFld, Y.isO, Y.oIn, Y.oNotIn, Y.sRaise, List.lookup, List.zip, List.zipWith, len_two]
  · simp [d_plus, b_plus, b_plus_1, fnP, fnK, startD, sSeq, sAsg, sPar, sRet, sRetN, sIf, sExpr, sPass, eV, Rs.out, Rs.bind, Rs.bindN, outO, gT, gTs, gN, Y.e1, Y.e2, eC, aN, aC, eTup, lLst, eFrz, eMut, oMul, oSub, oAdd, oEq, oNe, oLt, oLe, oGt, oGe, oIs, oIsNot, isN, oDiv, oMod, uNeg, uNot, uRev, eqD, ofO, finP, Y.tB, Y.tT, Y.tAnd, Y.tOr, Y.tNot, Y.tYes, eAnd, eOr, eIf, eCh, truth, eB, lB, eIs, eCall, lCall, instD, bLen, bInt, seqOf, lstOf, ownL, oIx, ixD, dctOf, atI, ixN, bMin, bMax, intsOf, minI, maxI, bAll, bAny, bools, lComp, compL, iA, unset, ll, Y.oFld, Y.isO, Y.oIn, Y.oNotIn, Y.sRaise, List.lookup, List.zip, List.zipWith, len_two]
  · simp [d_minus, b_minus, b_minus_1, fnP, fnK, startD, sSeq, sAsg, sPar, sRet, sRetN, sIf, sExpr, sPass, eV, Rs.out, Rs.bind, Rs.bindN, outO, gT, gTs, gN, Y.e1, Y.e2, eC, aN, aC, eTup, lLst, eFrz, eMut, oMul, oSub, oAdd, oEq, oNe, oLt, oLe, oGt, oGe, oIs, oIsNot, isN, oDiv, oMod, uNeg, uNot, uRev, eqD, ofO, finP, Y.tB, Y.tT, Y.tAnd, Y.tOr, Y.tNot, Y.tYes, eAnd, eOr, eIf, eCh, truth, eB, lB, eIs, eCall, lCall, instD, bLen, bInt, seqOf, lstOf, ownL, oIx, ixD, dctOf, atI, ixN, bMin, bMax, intsOf, minI, maxI, bAll, bAny, bools, lComp, compL, iA, unset, ll, Y.oFld, Y.isO, Y.oIn, Y.oNotIn, Y.sRaise, List.lookup, List.zip, List.zipWith, len_two]
theorem o5 (m : v ∈ bads) : d_times_row [R [a, b, c], v] h = .ex ⟨"BadNumber", [("number", v), ("what", .str "k")]⟩ h := by
  have x := need_row (h := h) (xs := [a, b, c]) (by simp)
  simp only [bads, List.mem_cons, List.not_mem_nil, or_false] at m
  rcases m with rfl | rfl | rfl <;> simp [d_times_row, b_times_row, b_times_row_2, b_times_row_1, d_is_whole, b_is_whole, fnP, fnK, startD, sSeq, sAsg, sPar, sRet, sRetN, sIf, sExpr, sPass, eV, Rs.out, Rs.bind, Rs.bindN, outO, gT, gTs, gN, Y.e1, Y.e2, eC, aN, aC, eTup, lLst, eFrz, eMut, oMul, oSub, oAdd, oEq, oNe, oLt, oLe, oGt, oGe, oIs, oIsNot, isN, oDiv, oMod, uNeg, uNot, uRev, eqD, ofO, finP, Y.tB, Y.tT, Y.tAnd, Y.tOr, Y.tNot, Y.tYes, eAnd, eOr, eIf, eCh, truth, eB, lB, eIs, eCall, lCall, instD, bLen, bInt, seqOf, lstOf, ownL, oIx, ixD, dctOf, atI, ixN, bMin, bMax, intsOf, minI, maxI, bAll, bAny, bools, lComp, compL, iA, unset, ll, Y.oFld, Y.isO, Y.oIn, Y.oNotIn, Y.sRaise, List.lookup, List.zip, List.zipWith, x]
theorem wrong_is (m : v ∈ wrongs a b c) : d_are_rows [v] h = .ok (.bl false) h := by
  have x := is_row (h := h) (xs := [a, b, c]) (by simp)
  have y := is_row (h := h) (xs := [a, b, c, 1]) (by simp)
  simp [R] at x y
  simp only [wrongs, List.mem_cons, List.not_mem_nil, or_false] at m
  rcases m with rfl | rfl | rfl | rfl | rfl | rfl
  · simp [d_are_rows, b_are_rows, b_are_rows_1, fnP, fnK, startD, sSeq, sAsg, sPar, sRet, sRetN, sIf, sExpr, sPass, eV, Rs.out, Rs.bind, Rs.bindN, outO, gT, gTs, gN, Y.e1, Y.e2, eC, aN, aC, eTup, lLst, eFrz, eMut, oMul, oSub, oAdd, oEq, oNe, oLt, oLe, oGt, oGe, oIs, oIsNot, isN, oDiv, oMod, uNeg, uNot, uRev, eqD, ofO, finP, Y.tB, Y.tT, Y.tAnd, Y.tOr, Y.tNot, Y.tYes, eAnd, eOr, eIf, eCh, truth, eB, lB, eIs, eCall, lCall, instD, bLen, bInt, seqOf, lstOf, ownL, oIx, ixD, dctOf, atI, ixN, bMin, bMax, intsOf, minI, maxI, bAll, bAny, bools, lComp, compL, iA, unset, ll, Y.oFld, Y.isO, Y.oIn, Y.oNotIn, Y.sRaise, List.lookup, List.zip, List.zipWith]
  · simp [d_are_rows, b_are_rows, b_are_rows_1, fnP, fnK, startD, sSeq, sAsg, sPar, sRet, sRetN, sIf, sExpr, sPass, eV, Rs.out, Rs.bind, Rs.bindN, outO, gT, gTs, gN, Y.e1, Y.e2, eC, aN, aC, eTup, lLst, eFrz, eMut, oMul, oSub, oAdd, oEq, oNe, oLt, oLe, oGt, oGe, oIs, oIsNot, isN, oDiv, oMod, uNeg, uNot, uRev, eqD, ofO, finP, Y.tB, Y.tT, Y.tAnd, Y.tOr, Y.tNot, Y.tYes, eAnd, eOr, eIf, eCh, truth, eB, lB, eIs, eCall, lCall, instD, bLen, bInt, seqOf, lstOf, ownL, oIx, ixD, dctOf, atI, ixN, bMin, bMax, intsOf, minI, maxI, bAll, bAny, bools, lComp, compL, iA, unset, ll, Y.oFld, Y.isO, Y.oIn, Y.oNotIn, Y.sRaise, List.lookup, List.zip, List.zipWith]
  · simp [d_are_rows, b_are_rows, b_are_rows_1, fnP, fnK, startD, sSeq, sAsg, sPar, sRet, sRetN, sIf, sExpr, sPass, eV, Rs.out, Rs.bind, Rs.bindN, outO, gT, gTs, gN, Y.e1, Y.e2, eC, aN, aC, eTup, lLst, eFrz, eMut, oMul, oSub, oAdd, oEq, oNe, oLt, oLe, oGt, oGe, oIs, oIsNot, isN, oDiv, oMod, uNeg, uNot, uRev, eqD, ofO, finP, Y.tB, Y.tT, Y.tAnd, Y.tOr, Y.tNot, Y.tYes, eAnd, eOr, eIf, eCh, truth, eB, lB, eIs, eCall, lCall, instD, bLen, bInt, seqOf, lstOf, ownL, oIx, ixD, dctOf, atI, ixN, bMin, bMax, intsOf, minI, maxI, bAll, bAny, bools, lComp, compL, iA, unset, ll, Y.oFld, Y.isO, Y.oIn, Y.oNotIn, Y.sRaise, List.lookup, List.zip, List.zipWith, R, x, y]
  · have z : d_is_row [.non] h = .ok (.bl false) h := odd_is (a := a) (b := b) (c := c) (by simp [odds])
    simp [d_are_rows, b_are_rows, b_are_rows_1, fnP, fnK, startD, sSeq, sAsg, sPar, sRet, sRetN, sIf, sExpr, sPass, eV, Rs.out, Rs.bind, Rs.bindN, outO, gT, gTs, gN, Y.e1, Y.e2, eC, aN, aC, eTup, lLst, eFrz, eMut, oMul, oSub, oAdd, oEq, oNe, oLt, oLe, oGt, oGe, oIs, oIsNot, isN, oDiv, oMod, uNeg, uNot, uRev, eqD, ofO, finP, Y.tB, Y.tT, Y.tAnd, Y.tOr, Y.tNot, Y.tYes, eAnd, eOr, eIf, eCh, truth, eB, lB, eIs, eCall, lCall, instD, bLen, bInt, seqOf, lstOf, ownL, oIx, ixD, dctOf, atI, ixN, bMin, bMax, intsOf, minI, maxI, bAll, bAny, bools, lComp, compL, iA, unset, ll, Y.oFld, Y.isO, Y.oIn, Y.oNotIn, Y.sRaise, List.lookup, List.zip, List.zipWith, R, x, z]
  · have z : d_is_row [.fl [.int a, .int b, .int c]] h = .ok (.bl false) h := odd_is (a := a) (b := b) (c := c) (by simp [odds])
    simp [d_are_rows, b_are_rows, b_are_rows_1, fnP, fnK, startD, sSeq, sAsg, sPar, sRet, sRetN, sIf, sExpr, sPass, eV, Rs.out, Rs.bind, Rs.bindN, outO, gT, gTs, gN, Y.e1, Y.e2, eC, aN, aC, eTup, lLst, eFrz, eMut, oMul, oSub, oAdd, oEq, oNe, oLt, oLe, oGt, oGe, oIs, oIsNot, isN, oDiv, oMod, uNeg, uNot, uRev, eqD, ofO, finP, Y.tB, Y.tT, Y.tAnd, Y.tOr, Y.tNot, Y.tYes, eAnd, eOr, eIf, eCh, truth, eB, lB, eIs, eCall, lCall, instD, bLen, bInt, seqOf, lstOf, ownL, oIx, ixD, dctOf, atI, ixN, bMin, bMax, intsOf, minI, maxI, bAll, bAny, bools, lComp, compL, iA, unset, ll, Y.oFld, Y.isO, Y.oIn, Y.oNotIn, Y.sRaise, List.lookup, List.zip, List.zipWith, z]
  · simp [d_are_rows, b_are_rows, b_are_rows_1, fnP, fnK, startD, sSeq, sAsg, sPar, sRet, sRetN, sIf, sExpr, sPass, eV, Rs.out, Rs.bind, Rs.bindN, outO, gT, gTs, gN, Y.e1, Y.e2, eC, aN, aC, eTup, lLst, eFrz, eMut, oMul, oSub, oAdd, oEq, oNe, oLt, oLe, oGt, oGe, oIs, oIsNot, isN, oDiv, oMod, uNeg, uNot, uRev, eqD, ofO, finP, Y.tB, Y.tT, Y.tAnd, Y.tOr, Y.tNot, Y.tYes, eAnd, eOr, eIf, eCh, truth, eB, lB, eIs, eCall, lCall, instD, bLen, bInt, seqOf, lstOf, ownL, oIx, ixD, dctOf, atI, ixN, bMin, bMax, intsOf, minI, maxI, bAll, bAny, bools, lComp, compL, iA, unset, ll, Y.oFld, Y.isO, Y.oIn, Y.oNotIn, Y.sRaise, List.lookup, List.zip, List.zipWith]
theorem o6 (m : v ∈ wrongs a b c) {w : D} : d_mixed [v, w] h = .ex ⟨"BadRows", [("rows", v)]⟩ h ∧ d_products_table [v] h = .ex ⟨"BadRows", [("rows", v)]⟩ h := by
  have n : d_need_rows [v] h = .ex ⟨"BadRows", [("rows", v)]⟩ h := by simp [d_need_rows, b_need_rows, fnP, fnK, startD, sSeq, sAsg, sPar, sRet, sRetN, sIf, sExpr, sPass, eV, Rs.out, Rs.bind, Rs.bindN, outO, gT, gTs, gN, Y.e1, Y.e2, eC, aN, aC, eTup, lLst, eFrz, eMut, oMul, oSub, oAdd, oEq, oNe, oLt, oLe, oGt, oGe, oIs, oIsNot, isN, oDiv, oMod, uNeg, uNot, uRev, eqD, ofO, finP, Y.tB, Y.tT, Y.tAnd, Y.tOr, Y.tNot, Y.tYes, eAnd, eOr, eIf, eCh, truth, eB, lB, eIs, eCall, lCall, instD, bLen, bInt, seqOf, lstOf, ownL, oIx, ixD, dctOf, atI, ixN, bMin, bMax, intsOf, minI, maxI, bAll, bAny, bools, lComp, compL, iA, unset, ll, Y.oFld, Y.isO, Y.oIn, Y.oNotIn, Y.sRaise, List.lookup, List.zip, List.zipWith, wrong_is m]
  constructor
  · simp [d_mixed, b_mixed, b_mixed_3, b_mixed_2, b_mixed_1, fnP, fnK, startD, sSeq, sAsg, sPar, sRet, sRetN, sIf, sExpr, sPass, eV, Rs.out, Rs.bind, Rs.bindN, outO, gT, gTs, gN, Y.e1, Y.e2, eC, aN, aC, eTup, lLst, eFrz, eMut, oMul, oSub, oAdd, oEq, oNe, oLt, oLe, oGt, oGe, oIs, oIsNot, isN, oDiv, oMod, uNeg, uNot, uRev, eqD, ofO, finP, Y.tB, Y.tT, Y.tAnd, Y.tOr, Y.tNot, Y.tYes, eAnd, eOr, eIf, eCh, truth, eB, lB, eIs, eCall, lCall, instD, bLen, bInt, seqOf, lstOf, ownL, oIx, ixD, dctOf, atI, ixN, bMin, bMax, intsOf, minI, maxI, bAll, bAny, bools, lComp, compL, iA, unset, ll, Y.oFld, Y.isO, Y.oIn, Y.oNotIn, Y.sRaise, List.lookup, List.zip, List.zipWith, n]
  · simp [d_products_table, b_products_table, b_products_table_1, fnP, fnK, startD, sSeq, sAsg, sPar, sRet, sRetN, sIf, sExpr, sPass, eV, Rs.out, Rs.bind, Rs.bindN, outO, gT, gTs, gN, Y.e1, Y.e2, eC, aN, aC, eTup, lLst, eFrz, eMut, oMul, oSub, oAdd, oEq, oNe, oLt, oLe, oGt, oGe, oIs, oIsNot, isN, oDiv, oMod, uNeg, uNot, uRev, eqD, ofO, finP, Y.tB, Y.tT, Y.tAnd, Y.tOr, Y.tNot, Y.tYes, eAnd, eOr, eIf, eCh, truth, eB, lB, eIs, eCall, lCall, instD, bLen, bInt, seqOf, lstOf, ownL, oIx, ixD, dctOf, atI, ixN, bMin, bMax, intsOf, minI, maxI, bAll, bAny, bools, lComp, compL, iA, unset, ll, Y.oFld, Y.isO, Y.oIn, Y.oNotIn, Y.sRaise, List.lookup, List.zip, List.zipWith, n]
theorem one_row : d_need_rows [.tup [R [a, b, c]]] h = .ok .non h := need_rows (h := h) (rows := [[a, b, c]]) (n := 3) (by simp) (by simp) (by simp) (by simp)
theorem o7 : d_mixed [.tup [R [a, b, c]], .fl [.int 1, .int 2]] h = .ex ⟨"BadRow", [("row", .tup [.int 1, .int 2])]⟩ h := by
  have n := one_row (h := h) (a := a) (b := b) (c := c)
  simp [d_mixed, b_mixed, b_mixed_3, b_mixed_2, b_mixed_1, d_is_row_of, b_is_row_of, fnP, fnK, startD, sSeq, sAsg, sPar, sRet, sRetN, sIf, sExpr, sPass, eV, Rs.out, Rs.bind, Rs.bindN, outO, gT, gTs, gN, Y.e1, Y.e2, eC, aN, aC, eTup, lLst, eFrz, eMut, oMul, oSub, oAdd, oEq, oNe, oLt, oLe, oGt, oGe, oIs, oIsNot, isN, oDiv, oMod, uNeg, uNot, uRev, eqD, ofO, finP, Y.tB, Y.tT, Y.tAnd, Y.tOr, Y.tNot, Y.tYes, eAnd, eOr, eIf, eCh, truth, eB, lB, eIs, eCall, lCall, instD, bLen, bInt, seqOf, lstOf, ownL, oIx, ixD, dctOf, atI, ixN, bMin, bMax, intsOf, minI, maxI, bAll, bAny, bools, lComp, compL, iA, unset, ll, Y.oFld, Y.isO, Y.oIn, Y.oNotIn, Y.sRaise, List.lookup, List.zip, List.zipWith, bT_fl, n]
theorem o8 (m : v ∈ bads) : d_mixed [.tup [R [a, b, c]], .fl [v]] h = .ex ⟨"BadRow", [("row", .tup [v])]⟩ h := by
  have n := one_row (h := h) (a := a) (b := b) (c := c)
  simp only [bads, List.mem_cons, List.not_mem_nil, or_false] at m
  rcases m with rfl | rfl | rfl <;> simp [d_mixed, b_mixed, b_mixed_3, b_mixed_2, b_mixed_1, d_is_row_of, b_is_row_of, d_is_whole, b_is_whole, fnP, fnK, startD, sSeq, sAsg, sPar, sRet, sRetN, sIf, sExpr, sPass, eV, Rs.out, Rs.bind, Rs.bindN, outO, gT, gTs, gN, Y.e1, Y.e2, eC, aN, aC, eTup, lLst, eFrz, eMut, oMul, oSub, oAdd, oEq, oNe, oLt, oLe, oGt, oGe, oIs, oIsNot, isN, oDiv, oMod, uNeg, uNot, uRev, eqD, ofO, finP, Y.tB, Y.tT, Y.tAnd, Y.tOr, Y.tNot, Y.tYes, eAnd, eOr, eIf, eCh, truth, eB, lB, eIs, eCall, lCall, instD, bLen, bInt, seqOf, lstOf, ownL, oIx, ixD, dctOf, atI, ixN, bMin, bMax, intsOf, minI, maxI, bAll, bAny, bools, lComp, compL, iA, unset, ll, Y.oFld, Y.isO, Y.oIn, Y.oNotIn, Y.sRaise, List.lookup, List.zip, List.zipWith, bT_fl, n]
theorem o9 : d_mixed [.tup [], .fl []] h = .ex ⟨"NotKept", [("witness", .non), ("promise", .str "some")]⟩ h := by
  have n : d_are_rows [.tup []] h = .ok (.bl true) h := by simp [d_are_rows, b_are_rows, b_are_rows_1, fnP, fnK, startD, sSeq, sAsg, sPar, sRet, sRetN, sIf, sExpr, sPass, eV, Rs.out, Rs.bind, Rs.bindN, outO, gT, gTs, gN, Y.e1, Y.e2, eC, aN, aC, eTup, lLst, eFrz, eMut, oMul, oSub, oAdd, oEq, oNe, oLt, oLe, oGt, oGe, oIs, oIsNot, isN, oDiv, oMod, uNeg, uNot, uRev, eqD, ofO, finP, Y.tB, Y.tT, Y.tAnd, Y.tOr, Y.tNot, Y.tYes, eAnd, eOr, eIf, eCh, truth, eB, lB, eIs, eCall, lCall, instD, bLen, bInt, seqOf, lstOf, ownL, oIx, ixD, dctOf, atI, ixN, bMin, bMax, intsOf, minI, maxI, bAll, bAny, bools, lComp, compL, iA, unset, ll, Y.oFld, Y.isO, Y.oIn, Y.oNotIn, Y.sRaise, List.lookup, List.zip, List.zipWith]
  have n2 : d_need_rows [.tup []] h = .ok .non h := by simp [d_need_rows, b_need_rows, fnP, fnK, startD, sSeq, sAsg, sPar, sRet, sRetN, sIf, sExpr, sPass, eV, Rs.out, Rs.bind, Rs.bindN, outO, gT, gTs, gN, Y.e1, Y.e2, eC, aN, aC, eTup, lLst, eFrz, eMut, oMul, oSub, oAdd, oEq, oNe, oLt, oLe, oGt, oGe, oIs, oIsNot, isN, oDiv, oMod, uNeg, uNot, uRev, eqD, ofO, finP, Y.tB, Y.tT, Y.tAnd, Y.tOr, Y.tNot, Y.tYes, eAnd, eOr, eIf, eCh, truth, eB, lB, eIs, eCall, lCall, instD, bLen, bInt, seqOf, lstOf, ownL, oIx, ixD, dctOf, atI, ixN, bMin, bMax, intsOf, minI, maxI, bAll, bAny, bools, lComp, compL, iA, unset, ll, Y.oFld, Y.isO, Y.oIn, Y.oNotIn, Y.sRaise, List.lookup, List.zip, List.zipWith, n]
  have n3 : d_is_row_of [.tup [], .int 0] h = .ok (.bl true) h := by simp [d_is_row_of, b_is_row_of, fnP, fnK, startD, sSeq, sAsg, sPar, sRet, sRetN, sIf, sExpr, sPass, eV, Rs.out, Rs.bind, Rs.bindN, outO, gT, gTs, gN, Y.e1, Y.e2, eC, aN, aC, eTup, lLst, eFrz, eMut, oMul, oSub, oAdd, oEq, oNe, oLt, oLe, oGt, oGe, oIs, oIsNot, isN, oDiv, oMod, uNeg, uNot, uRev, eqD, ofO, finP, Y.tB, Y.tT, Y.tAnd, Y.tOr, Y.tNot, Y.tYes, eAnd, eOr, eIf, eCh, truth, eB, lB, eIs, eCall, lCall, instD, bLen, bInt, seqOf, lstOf, ownL, oIx, ixD, dctOf, atI, ixN, bMin, bMax, intsOf, minI, maxI, bAll, bAny, bools, lComp, compL, iA, unset, ll, Y.oFld, Y.isO, Y.oIn, Y.oNotIn, Y.sRaise, List.lookup, List.zip, List.zipWith]
  simp [d_mixed, b_mixed, b_mixed_3, b_mixed_2, b_mixed_1, fnP, fnK, startD, sSeq, sAsg, sPar, sRet, sRetN, sIf, sExpr, sPass, eV, Rs.out, Rs.bind, Rs.bindN, outO, gT, gTs, gN, Y.e1, Y.e2, eC, aN, aC, eTup, lLst, eFrz, eMut, oMul, oSub, oAdd, oEq, oNe, oLt, oLe, oGt, oGe, oIs, oIsNot, isN, oDiv, oMod, uNeg, uNot, uRev, eqD, ofO, finP, Y.tB, Y.tT, Y.tAnd, Y.tOr, Y.tNot, Y.tYes, eAnd, eOr, eIf, eCh, truth, eB, lB, eIs, eCall, lCall, instD, bLen, bInt, seqOf, lstOf, ownL, oIx, ixD, dctOf, atI, ixN, bMin, bMax, intsOf, minI, maxI, bAll, bAny, bools, lComp, compL, iA, unset, ll, Y.oFld, Y.isO, Y.oIn, Y.oNotIn, Y.sRaise, List.lookup, List.zip, List.zipWith, bT_fl, n2, n3]
/-! ### what is told of them -/
theorem rep_odd (ha : Sm a) (hb : Sm b) (hc : Sm c) (m : v ∈ odds a b c) : ∃ r : Str, ∀ h, bRepr h [v] = some (.str r) := by
  have I : ∀ {x : Int}, Sm x → Told (.int x) (.int x) 300 := fun h => (told_int h).up (by decide)
  have d0 : ∀ x : Int, (PyData.int x).depth ≤ 0 := fun x => by simp [PyData.depth]
  simp only [odds, List.mem_cons, List.not_mem_nil, or_false] at m
  rcases m with rfl | rfl | rfl | rfl | rfl | rfl
  · exact told_non.rep (by decide)
  · exact (told_fl (n := 0) (m := 2000) (.cons (I ha) (d0 _) (.cons (I hb) (d0 _) (.cons (I hc) (d0 _) .nil))) (by decide) (by simp)).rep (by decide)
  · exact (told_tup (n := 0) (m := 2000) (.cons (I ha) (d0 _) (.cons (I hb) (d0 _) (.cons (I hc) (d0 _) (.cons (told_bl.up (by decide)) (by simp [PyData.depth]) .nil)))) (by decide) (by simp)).rep (by decide)
  · exact (told_tup (n := 0) (m := 2000) (.cons (I ha) (d0 _) (.cons (I hb) (d0 _) (.cons (I hc) (d0 _) (.cons (told_non.up (by decide)) (by simp [PyData.depth]) .nil)))) (by decide) (by simp)).rep (by decide)
  · exact (told_int (x := 3) (sm_of (by decide) (by decide))).rep (by decide)
  · exact ⟨_, fun h => rep_ok (p := .str "12") rfl (by decide +kernel) (by decide +kernel) (by decide +kernel)⟩
theorem rep_wrong (ha : Sm a) (hb : Sm b) (hc : Sm c) (m : v ∈ wrongs a b c) : ∃ r : Str, ∀ h, bRepr h [v] = some (.str r) := by
  have I : ∀ {x : Int}, Sm x → Told (.int x) (.int x) 300 := fun h => (told_int h).up (by decide)
  have d0 : ∀ x : Int, (PyData.int x).depth ≤ 0 := fun x => by simp [PyData.depth]
  have T : Told (R [a, b, c]) (.tuple [.int a, .int b, .int c]) 2000 := told_tup (n := 0) (.cons (I ha) (d0 _) (.cons (I hb) (d0 _) (.cons (I hc) (d0 _) .nil))) (by decide) (by simp)
  have T' : Told (.fl [.int a, .int b, .int c]) (.list [.int a, .int b, .int c]) 2000 := told_fl (n := 0) (.cons (I ha) (d0 _) (.cons (I hb) (d0 _) (.cons (I hc) (d0 _) .nil))) (by decide) (by simp)
  have dT : (PyData.tuple [.int a, .int b, .int c]).depth ≤ 1 := by simp [PyData.depth, PyData.depthAll]
  have dT' : (PyData.list [.int a, .int b, .int c]).depth ≤ 1 := by simp [PyData.depth, PyData.depthAll]
  simp only [wrongs, List.mem_cons, List.not_mem_nil, or_false] at m
  rcases m with rfl | rfl | rfl | rfl | rfl | rfl
  · exact told_non.rep (by decide)
  · exact (told_fl (n := 1) (m := 9000) (.cons T dT .nil) (by decide) (by simp)).rep (by decide)
  · have T4 : Told (.tup [.int a, .int b, .int c, .int 1]) (.tuple [.int a, .int b, .int c, .int 1]) 2000 := told_tup (n := 0) (.cons (I ha) (d0 _) (.cons (I hb) (d0 _) (.cons (I hc) (d0 _) (.cons (I (sm_of (by decide) (by decide))) (d0 _) .nil)))) (by decide) (by simp)
    exact (told_tup (n := 1) (m := 9000) (.cons T dT (.cons T4 (by simp [PyData.depth, PyData.depthAll]) .nil)) (by decide) (by simp)).rep (by decide)
  · exact (told_tup (n := 1) (m := 9000) (.cons T dT (.cons (told_non.up (by decide)) (by simp [PyData.depth]) .nil)) (by decide) (by simp)).rep (by decide)
  · exact (told_tup (n := 1) (m := 9000) (.cons T' dT' .nil) (by decide) (by simp)).rep (by decide)
  · exact (told_int (x := 3) (sm_of (by decide) (by decide))).rep (by decide)
theorem rep_bad (m : v ∈ bads) : (∃ r : Str, ∀ h, bRepr h [v] = some (.str r)) ∧ ∃ r : Str, ∀ h, bRepr h [.tup [v]] = some (.str r) := by
  simp only [bads, List.mem_cons, List.not_mem_nil, or_false] at m
  rcases m with rfl | rfl | rfl
  · exact ⟨told_non.rep (by decide), (told_tup (n := 0) (m := 2000) (.cons told_non (by simp [PyData.depth]) .nil) (by decide) (by simp)).rep (by decide)⟩
  · exact ⟨told_bl.rep (by decide), (told_tup (n := 0) (m := 2000) (.cons told_bl (by simp [PyData.depth]) .nil) (by decide) (by simp)).rep (by decide)⟩
  · exact ⟨⟨_, fun h => rep_ok (p := .str "1") rfl (by decide +kernel) (by decide +kernel) (by decide +kernel)⟩, ⟨_, fun h => rep_ok (p := .tuple [.str "1"]) rfl (by decide +kernel) (by decide +kernel) (by decide +kernel)⟩⟩
end
theorem ok_string (s : String) : PyData.strOk (Str.ofString s) = true := by
  unfold PyData.strOk
  rw [Str.ofString_eq_toList]
  simp only [List.all_toArray, List.all_eq_true, List.mem_map, decide_eq_true_eq]
  rintro x ⟨c, _, rfl⟩
  have := c.valid
  show c.val.toNat < 1114112
  rcases this with h | h
  · exact Nat.lt_trans h (by decide)
  · exact h.2
theorem ok_app {a b : Str} (h1 : PyData.strOk a = true) (h2 : PyData.strOk b = true) : PyData.strOk (a ++ b) = true := by
  unfold PyData.strOk at *
  show (a.cps ++ b.cps).all _ = true
  rw [Array.all_append, h1, h2]
  rfl
theorem ok_join {sep : Str} (hs : PyData.strOk sep = true) : ∀ ts : List Str, (∀ t ∈ ts, PyData.strOk t = true) → PyData.strOk (Str.join sep ts) = true
  | [], _ => (by decide +kernel : PyData.strOk Str.empty = true)
  | [x], h => h x List.mem_cons_self
  | x :: y :: r, h => ok_app (ok_app (h x List.mem_cons_self) hs) (ok_join hs (y :: r) fun t m => h t (List.mem_cons_of_mem _ m))
theorem ok_from : ∀ (ts : List Str) (k : Nat) (acc : Str), PyData.strOk acc = true → (∀ t ∈ ts, PyData.strOk t = true) → PyData.strOk (textFrom k acc ts) = true
  | [], k, acc, h, _ => h
  | t :: ts, k, acc, h, ht => ok_from ts (k + 1) _ (ok_app (ok_app h (ok_string _)) (ht t List.mem_cons_self)) fun t m => ht t (List.mem_cons_of_mem _ m)
mutual
def okS : PyData → Bool
  | .none => true
  | .bool _ => true
  | .int _ => true
  | .str x => PyData.strOk (reprText x)
  | .list xs => okSs xs
  | .tuple xs => okSs xs
  | .dict _ => false
def okSs : List PyData → Bool
  | [] => true
  | x :: xs => okS x && okSs xs
end
mutual
theorem ok_shown : ∀ p : PyData, okS p = true → PyData.strOk p.shown = true
  | .none, _ => ok_string _
  | .bool b, _ => by cases b <;> exact ok_string _
  | .int i, _ => ok_string _
  | .str x, h => by simpa only [okS, PyData.shown] using h
  | .list xs, h => by
    simp only [okS] at h
    simp only [PyData.shown, listText]
    exact ok_app (ok_from _ _ _ (ok_string _) (oks_shown xs h)) (ok_string _)
  | .tuple xs, h => by
    simp only [okS] at h
    simp only [PyData.shown, tupleText]
    exact ok_app (ok_app (ok_string _) (ok_join (ok_string _) _ (oks_shown xs h))) (ok_string _)
  | .dict _, h => by simp [okS] at h
theorem oks_shown : ∀ ps : List PyData, okSs ps = true → ∀ t ∈ PyData.shownAll ps, PyData.strOk t = true
  | [], _, t, m => by simp [PyData.shownAll] at m
  | p :: ps, h, t, m => by
    simp only [okSs, Bool.and_eq_true] at h
    simp only [PyData.shownAll, List.mem_cons] at m
    rcases m with rfl | m
    · exact ok_shown p h.1
    · exact oks_shown ps h.2 t m
end
def okk (v : D) : Bool := match py [] v with | some p => okS p | none => false
theorem r12 : PyData.strOk (reprText "12") = true := by decide +kernel
theorem r1 : PyData.strOk (reprText "1") = true := by decide +kernel
theorem odds_ok {a b c : Int} {v : D} (m : v ∈ odds a b c) : okk v = true := by
  simp only [odds, List.mem_cons, List.not_mem_nil, or_false] at m
  rcases m with rfl | rfl | rfl | rfl | rfl | rfl <;> simp [okk, py, pyL, okS, okSs, r12]
theorem wrongs_ok {a b c : Int} {v : D} (m : v ∈ wrongs a b c) : okk v = true := by
  simp only [wrongs, R, List.mem_cons, List.not_mem_nil, or_false] at m
  rcases m with rfl | rfl | rfl | rfl | rfl | rfl <;> simp [okk, py, pyL, okS, okSs]
theorem bads_ok {v : D} (m : v ∈ bads) : okk v = true ∧ okk (.tup [v]) = true := by
  simp only [bads, List.mem_cons, List.not_mem_nil, or_false] at m
  rcases m with rfl | rfl | rfl <;> simp [okk, py, pyL, okS, okSs, r1]
end L06
end

section
set_option Elab.async false
set_option linter.all false
set_option maxRecDepth 100000
set_option maxHeartbeats 1000000
/-! N06i: the law of errors. -/
namespace L06
open PySem Y L2
theorem ok_of {v : D} {r : Str} (e : bRepr [] [v] = some (.str r)) (k : okk v = true) : PyData.strOk r = true := by
  unfold okk at k
  have e' : (match py [] v with | some p => if (SeqAt.shaped p && decide (wid p ≤ line)) = true then some (D.str p.shown) else none | none => none) = some (.str r) := e
  cases hp : py [] v with
  | none => rw [hp] at k; cases k
  | some p =>
    rw [hp] at k e'
    simp only at k e'
    split at e'
    · cases e'; exact ok_shown p k
    · cases e'
theorem sm5 (a : Fin 5) : Sm (a.val : Nat) := sm_of (by omega) (by omega)
theorem odd_r (a b c : Fin 5) {v : D} (m : v ∈ odds a.val b.val c.val) : ∃ r : Str, PyData.strOk r = true ∧ ∀ h, bRepr h [v] = some (.str r) := by
  obtain ⟨r, hr⟩ := rep_odd (sm5 a) (sm5 b) (sm5 c) m
  exact ⟨r, ok_of (hr []) (odds_ok m), hr⟩
theorem wrong_r (a b c : Fin 5) {v : D} (m : v ∈ wrongs a.val b.val c.val) : ∃ r : Str, PyData.strOk r = true ∧ ∀ h, bRepr h [v] = some (.str r) := by
  obtain ⟨r, hr⟩ := rep_wrong (sm5 a) (sm5 b) (sm5 c) m
  exact ⟨r, ok_of (hr []) (wrongs_ok m), hr⟩
theorem bad_r {v : D} (m : v ∈ bads) : (∃ r : Str, PyData.strOk r = true ∧ ∀ h, bRepr h [v] = some (.str r)) ∧ ∃ r : Str, PyData.strOk r = true ∧ ∀ h, bRepr h [.tup [v]] = some (.str r) := by
  obtain ⟨⟨r, hr⟩, ⟨s, hs⟩⟩ := rep_bad m
  exact ⟨⟨r, ok_of (hr []) (bads_ok m).1, hr⟩, ⟨s, ok_of (hs []) (bads_ok m).2, hs⟩⟩
/-! ### lists of pairs of texts -/
def tP (t : Str × Str) : D := .tup [.str t.1, .str t.2]
def pP (t : Str × Str) : PyData := .tuple [.str t.1, .str t.2]
theorem py_pairs (h : Hm) : ∀ ts : List (Str × Str), pyL h (ts.map tP) = some (ts.map pP)
  | [] => rfl
  | t :: ts => by simp [pyL, py, tP, pP, py_pairs h ts]
theorem can_pairs : ∀ ts : List (Str × Str), (∀ t ∈ ts, PyData.strOk t.1 = true ∧ PyData.strOk t.2 = true) → PyData.canLayAll0 (ts.map pP) = true
  | [], _ => rfl
  | t :: ts, h => by
    have t1 := h t List.mem_cons_self
    simp [PyData.canLayAll0, PyData.canLay0, pP, t1.1, t1.2, can_pairs ts fun u m => h u (List.mem_cons_of_mem _ m)]
theorem dep_pairs : ∀ ts : List (Str × Str), PyData.depthAll (ts.map pP) ≤ 1
  | [] => by simp [PyData.depthAll]
  | t :: ts => by
    have := dep_pairs ts
    simp [PyData.depthAll, PyData.depth, pP]
    omega
theorem shp {ts : List (Str × Str)} (k : ∀ t ∈ ts, PyData.strOk t.1 = true ∧ PyData.strOk t.2 = true) : SeqAt.shaped (.list (ts.map pP)) = true := by
  have d := dep_pairs ts
  have : PyData.depthAll (ts.map pP) + 1 ≤ 64 := by omega
  simp [SeqAt.shaped, PyData.canLay0, can_pairs ts k, PyData.depth]
  omega
theorem ne_ff {h : Hm} {ts : List (Str × Str)} (k : ∀ t ∈ ts, PyData.strOk t.1 = true ∧ PyData.strOk t.2 = true) : oNe h (.fl (ts.map tP)) (.fl (ts.map tP)) = some (.bl false) := by
  have e : pyE h (.fl (ts.map tP)) = some (.list (ts.map pP)) := by simp [pyE, py, py_pairs]
  have q : PyData.eqv (.list (ts.map pP)) (.list (ts.map pP)) = true := SeqAt.eqv_refl _ (by simp [PyData.canLay0, can_pairs ts k])
  simp [oNe, eqD, e, shp k, q]
theorem ne_lf {h : Hm} {j : Nat} {ts : List (Str × Str)} (g : h[j]? = some (.lst (ts.map tP))) (k : ∀ t ∈ ts, PyData.strOk t.1 = true ∧ PyData.strOk t.2 = true) : oNe h (.loc j) (.fl (ts.map tP)) = some (.bl false) ∧ oEq h (.loc j) (.fl (ts.map tP)) = some (.bl true) := by
  have e : pyE h (.fl (ts.map tP)) = some (.list (ts.map pP)) := by simp [pyE, py, py_pairs]
  have e2 : pyE h (.loc j) = some (.list (ts.map pP)) := by simp [pyE, g, py_pairs]
  have q : PyData.eqv (.list (ts.map pP)) (.list (ts.map pP)) = true := SeqAt.eqv_refl _ (by simp [PyData.canLay0, can_pairs ts k])
  constructor
  · simp [oNe, eqD, e, e2, shp k, q]
  · simp [oEq, eqD, e, e2, shp k, q]
/-! ### draws beside other lists -/
theorem drawT {o : Ob} {t : Hm} {N : Nat} (hp : PenAt [o] 0 (N + 1)) {many : Int} (m0 : 0 < many) (m1 : Sm many) : ∃ (r : Int) (o' : Ob), d_u_law_draw [.loc 0, .int many] (o :: t) = .ok (.int r) (o' :: t) ∧ 0 ≤ r ∧ r < many ∧ PenAt [o'] 0 N := by
  obtain ⟨r, o', e, r0, r1, hq⟩ := dr (pen_any (u := t) hp) m0 m1
  exact ⟨r, o', e, r0, r1, pen_any (t := t) hq⟩
theorem pickT {o : Ob} {t : Hm} {N : Nat} (hp : PenAt [o] 0 (N + 1)) {xs : List D} (h0 : 0 < xs.length) (h1 : xs.length < 1073741824) : ∃ (x : D) (o' : Ob), d_u_law_pick [.loc 0, .fl xs] (o :: t) = .ok x (o' :: t) ∧ x ∈ xs ∧ PenAt [o'] 0 N := by
  obtain ⟨x, o', e, m, hq⟩ := pick dr.low (pen_any (u := t) hp) (.inl rfl) h0 h1
  exact ⟨x, o', e, m, pen_any (t := t) hq⟩
theorem pen_low' (n : Nat) (cs : List Int) (p g c f : Int) : Ob.low n (penO cs p g c f) = true := by
  simp [penO, kvP, Ob.low, D.lowL, D.low, low_int]
theorem pen_lw {o : Ob} {N : Nat} (hp : PenAt [o] 0 N) (n : Nat) : Ob.low n o = true := by
  obtain ⟨cs, p, g, c, f, hk, _⟩ := hp.ex
  simp at hk
  rw [hk]; exact pen_low' n cs p g c f
/-! ### the steps -/
abbrev sE (row : D) (odd found bad wrong due : Option D) : Sl := [some (.loc 0), some row, odd, found, bad, wrong, due, none, none]
theorem comp_ref {lam : Sl → Fn} {σ : Sl} {h : Hm} {t : D} (ns : List Str) (H : ∀ x ∈ ns, d_u_law_refused (lam (σ.set 7 (some (.gfn x)))) [] h = .ok t h) : compL (gN 7) tYes (eHo d_u_law_refused aN lam) σ (ns.map .gfn) h = .ok (ns.map fun _ => t) h :=
  compL_m D.gfn (fun _ => t) ns fun x m => ⟨_, rfl, by
    have := H x m
    simp only [eHo, aN, Rs.bind, this]⟩
theorem err0 {o : Ob} {N : Nat} (hp : PenAt [o] 0 (N + 4)) : ∃ (a b c : Fin 5) (odd : D) (o' : Ob), odd ∈ odds a.val b.val c.val ∧ b_u_law_errors_right [some (.loc 0), none, none, none, none, none, none, none, none] [o] = b_u_law_errors_right_2 (sE (R [a.val, b.val, c.val]) (some odd) none none none none) [o'] ∧ PenAt [o'] 0 N := by
  obtain ⟨rs, o1, e1, l1, p1, h1⟩ := compL_dr (g := gN 8) (e := eCall d_u_law_draw (aC (eV 0) (aC (eC (.int 5)) (aN)))) (σ := [some (.loc 0), none, none, none, none, none, none, none, none]) (fun d => ∃ x, d = .int x ∧ 0 ≤ x ∧ x < 5) 1 [.int 0, .int 1, .int 2] o (N + 1) (fun d _ => ⟨_, rfl, fun o N hp => by
      obtain ⟨r, o', e, r0, r1, h⟩ := draw1 hp (many := 5) (by omega) (sm_of (by omega) (by omega))
      exact ⟨.int r, o', by simp [eCall, aC, aN, eV, eC, Rs.bind, e], ⟨_, rfl, r0, r1⟩, h⟩⟩) hp
  obtain ⟨xs, rfl, hx⟩ := ints_of p1
  obtain ⟨x, y, z, rfl⟩ : ∃ x y z, xs = [x, y, z] := by
    rcases xs with _ | ⟨x, _ | ⟨y, _ | ⟨z, _ | _⟩⟩⟩ <;> simp at l1
    exact ⟨_, _, _, rfl⟩
  have hx1 := hx x (by simp)
  have hy1 := hx y (by simp)
  have hz1 := hx z (by simp)
  obtain ⟨a, ea⟩ : ∃ a : Fin 5, x = (a.val : Int) := ⟨⟨x.toNat, by omega⟩, by simp; omega⟩
  obtain ⟨b, eb⟩ : ∃ a : Fin 5, y = (a.val : Int) := ⟨⟨y.toNat, by omega⟩, by simp; omega⟩
  obtain ⟨c, ec⟩ : ∃ a : Fin 5, z = (a.val : Int) := ⟨⟨z.toNat, by omega⟩, by simp; omega⟩
  obtain ⟨odd, o2, e2, m2, h2⟩ := pickd h1 (xs := odds x y z) (by simp [odds]) (by simp [odds])
  subst ea eb ec
  refine ⟨a, b, c, odd, o2, m2, ?_, h2⟩
  have r3 : rangeD 0 3 = [.int 0, .int 1, .int 2] := by decide
  have s3 : small 3 = true := by decide
  have i : iR1 (aC (eC (.int 3)) (aN)) [some (.loc 0), none, none, none, none, none, none, none, none] [o] = .ok [.int 0, .int 1, .int 2] [o] := by
    simp [iR1, aC, aN, eC, Rs.bind, s3, r3]
  have T := tup_of' (lc' (vs := [8]) (σ := [some (.loc 0), none, none, none, none, none, none, none, none]) i e1 (by simp))
  have k0 : b_u_law_errors_right [some (.loc 0), none, none, none, none, none, none, none, none] [o] = b_u_law_errors_right_1 (sE (R [a.val, b.val, c.val]) none none none none none) [o1] := by
    simp only [b_u_law_errors_right, sSeq, sAsg, T, Rs.out, gN, outO, List.set_cons_succ, List.set_cons_zero]
  have e2' : d_u_law_pick [.loc 0, .fl [.non, .fl [.int a.val, .int b.val, .int c.val], .tup [.int a.val, .int b.val, .int c.val, .bl true], .tup [.int a.val, .int b.val, .int c.val, .non], .int 3, .str "12"]] [o1] = .ok odd [o2] := e2
  have k1 : b_u_law_errors_right_1 (sE (R [a.val, b.val, c.val]) none none none none none) [o1] = b_u_law_errors_right_2 (sE (R [a.val, b.val, c.val]) (some odd) none none none none) [o2] := by
    simp [b_u_law_errors_right_1, sSeq, sAsg, eCall, eFrz, lLst, lB, mList, seqOf, Y.e2, oAdd, eTup, aC, aN, eV, eC, Rs.bind, Rs.out, ofO, R, e2', Y.ll, gN, outO]
  rw [k0, k1]
end L06
end

section
set_option Elab.async false
set_option linter.all false
set_option maxRecDepth 100000
set_option maxHeartbeats 2000000
/-! N06j: the law of errors, the steps; the law. -/
namespace L06
open PySem Y L2
theorem nb0 : ((Str.ofString "content") == (Str.ofString "square_sum")) = false := by decide
theorem nb1 : ((Str.ofString "plain") == (Str.ofString "square_sum")) = false := by decide
theorem nb2 : ((Str.ofString "plain") == (Str.ofString "content")) = false := by decide
theorem nb3 : ((Str.ofString "plus") == (Str.ofString "product_of")) = false := by decide
theorem nb4 : ((Str.ofString "minus") == (Str.ofString "product_of")) = false := by decide
theorem nb5 : ((Str.ofString "minus") == (Str.ofString "plus")) = false := by decide
theorem nb6 : ((Str.ofString "times_row") == (Str.ofString "product_of")) = false := by decide
theorem nb7 : ((Str.ofString "times_row") == (Str.ofString "plus")) = false := by decide
theorem nb8 : ((Str.ofString "times_row") == (Str.ofString "minus")) = false := by decide
section
variable {h : Hm} {a b c : Int} {odd bad wrong : D} {r s : Str} {s3 s4 s5 s6 : Option D}
theorem it3 {σ : Sl} (x y z : Str) : iA (eFrz (lLst (aC (eC (.gfn x)) (aC (eC (.gfn y)) (aC (eC (.gfn z)) (aN)))))) σ h = .ok ([x, y, z].map .gfn) h := by simp [iA, eFrz, lLst, aC, aN, eC, Rs.bind, Y.ll]
theorem it4 {σ : Sl} (x y z w : Str) : iA (eFrz (lLst (aC (eC (.gfn x)) (aC (eC (.gfn y)) (aC (eC (.gfn z)) (aC (eC (.gfn w)) (aN))))))) σ h = .ok ([x, y, z, w].map .gfn) h := by simp [iA, eFrz, lLst, aC, aN, eC, Rs.bind, Y.ll]
abbrev tr (r : Str) : Str × Str := ("row", r)
theorem step2 (m : odd ∈ odds a b c) : b_u_law_errors_right_2 (sE (R [a, b, c]) (some odd) s3 s4 s5 s6) h = b_u_law_errors_right_3 (sE (R [a, b, c]) (some odd) s3 s4 s5 s6) h := by
  simp [b_u_law_errors_right_2, sSeq, sIf, Y.tB, Y.e2, eCall, aC, aN, eV, eC, Rs.bind, Rs.out, odd_is m, oIsNot, isN, ofO, sPass]
theorem step3 (m : odd ∈ odds a b c) (hr : ∀ h, bRepr h [odd] = some (.str r)) : b_u_law_errors_right_3 (sE (R [a, b, c]) (some odd) s3 s4 s5 s6) h = b_u_law_errors_right_4 (sE (R [a, b, c]) (some odd) (some (.loc h.length)) s4 s5 s6) (h ++ [.lst ((List.replicate 3 (tr r)).map tP)]) := by
  have C := comp_ref (h := h) (σ := sE (R [a, b, c]) (some odd) s3 s4 s5 s6) (t := tP (tr r)) (lam := fnE 2 (eDisp [("square_sum", d_square_sum), ("content", d_content), ("plain", d_plain)] (eV 0) (aC (eV 1) (aN))) [7, 2]) ["square_sum", "content", "plain"] fun x mx => by
    refine r_row ?_ (hr h)
    have q := o1 (h := h) m
    simp only [List.mem_cons, List.not_mem_nil, or_false] at mx
    rcases mx with rfl | rfl | rfl <;> simp (decide := true) [fnE, startE, slotD, eDisp, eV, aC, aN, Rs.bind, List.lookup, nb0, nb1, nb2, nb3, nb4, nb5, nb6, nb7, nb8, q.1, q.2.1, q.2.2]
  have L := lc (vs := [7]) (σ := sE (R [a, b, c]) (some odd) s3 s4 s5 s6) (it3 "square_sum" "content" "plain") C (by simp)
  simp only [b_u_law_errors_right_3, sSeq, sAsg, eMut, L, Rs.bind, Rs.out, gN, outO, List.set_cons_succ, List.set_cons_zero]
  rfl
theorem step4 {k : Nat} {l : List D} (m : odd ∈ odds a b c) (hr : ∀ h, bRepr h [odd] = some (.str r)) (g : h[k]? = some (.lst l)) (ll3 : l.length ≤ 100) : b_u_law_errors_right_4 (sE (R [a, b, c]) (some odd) (some (.loc k)) s4 s5 s6) h = b_u_law_errors_right_5 (sE (R [a, b, c]) (some odd) (some (.fl (l ++ (List.replicate 4 (tr r)).map tP))) s4 s5 s6) h := by
  have C := comp_ref (h := h) (σ := sE (R [a, b, c]) (some odd) (some (.loc k)) s4 s5 s6) (t := tP (tr r)) (lam := fnE 2 (eDisp [("product_of", d_product_of), ("plus", d_plus), ("minus", d_minus), ("times_row", d_times_row)] (eV 0) (aC (eV 1) (aC (eC .non) (aN)))) [7, 2]) ["product_of", "plus", "minus", "times_row"] fun x mx => by
    refine r_row ?_ (hr h)
    have q := o2 (h := h) m (w := .non)
    simp only [List.mem_cons, List.not_mem_nil, or_false] at mx
    rcases mx with rfl | rfl | rfl | rfl <;> simp (decide := true) [fnE, startE, slotD, eDisp, eV, eC, aC, aN, Rs.bind, List.lookup, nb0, nb1, nb2, nb3, nb4, nb5, nb6, nb7, nb8, q.1, q.2.1, q.2.2.1, q.2.2.2]
  have L := eFrz_ok (lc (vs := [7]) (σ := sE (R [a, b, c]) (some odd) (some (.loc k)) s4 s5 s6) (it4 "product_of" "plus" "minus" "times_row") C (by simp))
  have l4 : (l.length + 4 ≤ line) = True := Y.ll _ (by omega)
  simp [b_u_law_errors_right_4, sSeq, sAsg, Y.e2, eV, L, Rs.bind, Rs.out, oAdd, ownL, g, l4, ofO, gN, outO]
theorem step5 {l : List D} (m : odd ∈ odds a b c) (hr : ∀ h, bRepr h [odd] = some (.str r)) (ll3 : l.length ≤ 100) : b_u_law_errors_right_5 (sE (R [a, b, c]) (some odd) (some (.fl l)) s4 s5 s6) h = b_u_law_errors_right_6 (sE (R [a, b, c]) (some odd) (some (.fl (l ++ (List.replicate 3 (tr r)).map tP))) s4 s5 s6) h := by
  have C := comp_ref (h := h) (σ := sE (R [a, b, c]) (some odd) (some (.fl l)) s4 s5 s6) (t := tP (tr r)) (lam := fnE 3 (eDisp [("product_of", d_product_of), ("plus", d_plus), ("minus", d_minus)] (eV 0) (aC (eV 1) (aC (eV 2) (aN)))) [7, 1, 2]) ["product_of", "plus", "minus"] fun x mx => by
    refine r_row ?_ (hr h)
    have q := o3 (h := h) m
    simp only [List.mem_cons, List.not_mem_nil, or_false] at mx
    rcases mx with rfl | rfl | rfl <;> simp (decide := true) [fnE, startE, slotD, eDisp, eV, eC, aC, aN, Rs.bind, List.lookup, nb0, nb1, nb2, nb3, nb4, nb5, nb6, nb7, nb8, q.1, q.2.1, q.2.2]
  have L := eFrz_ok (lc (vs := [7]) (σ := sE (R [a, b, c]) (some odd) (some (.fl l)) s4 s5 s6) (it3 "product_of" "plus" "minus") C (by simp))
  have l4 : (l.length + 3 ≤ line) = True := Y.ll _ (by omega)
  simp [b_u_law_errors_right_5, sSeq, sAsg, Y.e2, eV, L, Rs.bind, Rs.out, oAdd, ownL, l4, ofO, gN, outO]
theorem mul_c (n : Nat) (F : ∀ (t : D) (h : Hm), ((Rs.ok [t] h).bind fun xs h1 => ((eC (.int n)) [] h1).bind fun m h2 => match m with
    | .int k => if -4611686018427387904 ≤ k ∧ k < 4611686018427387904 ∧ xs.length * k.toNat ≤ line then .ok (List.replicate k.toNat xs).flatten h2 else .bad
    | _ => .bad) = .ok (List.replicate n t) h) {σ : Sl} {t : D} {e : Ev} (he : e σ h = .ok t h) : eFrz (lMul (lLst (aC e aN)) (eC (.int n))) σ h = .ok (.fl (List.replicate n t)) h := by
  have l1 : (1 ≤ line) = True := Y.ll _ (by omega)
  have L : lLst (aC e aN) σ h = .ok [t] h := by simp only [lLst, aC, aN, he, Rs.bind, List.length_cons, List.length_nil, l1, if_true]
  have M : lMul (lLst (aC e aN)) (eC (.int n)) σ h = .ok (List.replicate n t) h := by
    rw [← F t h, ← L]
    rfl
  exact eFrz_ok M
theorem mul_10 {σ : Sl} {t : D} {e : Ev} (he : e σ h = .ok t h) : eFrz (lMul (lLst (aC e aN)) (eC (.int 10))) σ h = .ok (.fl (List.replicate 10 t)) h := mul_c 10 (fun t h => by kernel_rfl) he
theorem mul_3 {σ : Sl} {t : D} {e : Ev} (he : e σ h = .ok t h) : eFrz (lMul (lLst (aC e aN)) (eC (.int 3))) σ h = .ok (.fl (List.replicate 3 t)) h := mul_c 3 (fun t h => by kernel_rfl) he
theorem mul_2 {σ : Sl} {t : D} {e : Ev} (he : e σ h = .ok t h) : eFrz (lMul (lLst (aC e aN)) (eC (.int 2))) σ h = .ok (.fl (List.replicate 2 t)) h := mul_c 2 (fun t h => by kernel_rfl) he
theorem pair_t {σ : Sl} {x y : Str} {e1 e2 : Ev} (h1 : e1 σ h = .ok (.str x) h) (h2 : e2 σ h = .ok (.str y) h) : eTup (aC e1 (aC e2 aN)) σ h = .ok (tP (x, y)) h := by
  have l1 : (2 ≤ line) = True := Y.ll _ (by omega)
  simp only [eTup, aC, aN, h1, h2, Rs.bind, List.length_cons, List.length_nil, l1, if_true, tP]
theorem row_ok : PyData.strOk "row" = true := by decide +kernel
theorem ok_row (k : PyData.strOk r = true) (n : Nat) : ∀ t ∈ List.replicate n (tr r), PyData.strOk t.1 = true ∧ PyData.strOk t.2 = true := fun t m => by
  rw [(List.mem_replicate.mp m).2]
  exact ⟨row_ok, k⟩
theorem step6 (k : PyData.strOk r = true) (hr : ∀ h, bRepr h [odd] = some (.str r)) : b_u_law_errors_right_6 (sE (R [a, b, c]) (some odd) (some (.fl ((List.replicate 10 (tr r)).map tP))) s4 s5 s6) h = b_u_law_errors_right_7 (sE (R [a, b, c]) (some odd) (some (.fl ((List.replicate 10 (tr r)).map tP))) s4 s5 s6) h := by
  have P := pair_t (h := h) (σ := sE (R [a, b, c]) (some odd) (some (.fl ((List.replicate 10 (tr r)).map tP))) s4 s5 s6) (e1 := eC (.str "row")) (e2 := eB bRepr (aC (eV 2) aN)) (x := "row") (y := r) rfl (rep_of rfl (hr h))
  have M := mul_10 P
  have e : List.replicate 10 (tP ("row", r)) = (List.replicate 10 (tr r)).map tP := by simp
  rw [e] at M
  have N := ne_ff (h := h) (ok_row k 10)
  have T : Y.tB (Y.e2 oNe (eV 3) (eFrz (lMul (lLst (aC (eTup (aC (eC (.str "row")) (aC (eB bRepr (aC (eV 2) (aN))) (aN)))) (aN))) (eC (.int 10))))) (sE (R [a, b, c]) (some odd) (some (.fl ((List.replicate 10 (tr r)).map tP))) s4 s5 s6) h = .ok false h := by
    have M' : eFrz (lMul (lLst (aC (eTup (aC (eC (.str "row")) (aC (eB bRepr (aC (eV 2) (aN))) (aN)))) (aN))) (eC (.int 10))) (sE (R [a, b, c]) (some odd) (some (.fl ((List.replicate 10 (tr r)).map tP))) s4 s5 s6) h = .ok (.fl ((List.replicate 10 (tr r)).map tP)) h := M
    simp only [Y.tB, Y.e2, M', eV, List.getElem?_cons_succ, List.getElem?_cons_zero, Rs.bind, N, ofO]
  simp only [b_u_law_errors_right_6, sSeq, sIf, T, Rs.out, Bool.false_eq_true, if_false, sPass]
def tk : Str × Str := ("length", "(3, 4)")
theorem rep34 : bRepr h [.tup [.int 3, .int 4]] = some (.str "(3, 4)") := by kernel_rfl
theorem rep12 : bRepr h [.tup [.int 1, .int 2]] = some (.str "(1, 2)") := by kernel_rfl
theorem repN : bRepr h [.non] = some (.str "None") := by kernel_rfl
theorem step7 : b_u_law_errors_right_7 (sE (R [a, b, c]) (some odd) s3 s4 s5 s6) h = b_u_law_errors_right_8 (sE (R [a, b, c]) (some odd) (some (.loc h.length)) s4 s5 s6) (h ++ [.lst ((List.replicate 3 tk).map tP)]) := by
  have C := comp_ref (h := h) (σ := sE (R [a, b, c]) (some odd) s3 s4 s5 s6) (t := tP tk) (lam := fnE 2 (eDisp [("product_of", d_product_of), ("plus", d_plus), ("minus", d_minus)] (eV 0) (aC (eV 1) (aC (Y.e2 oAdd (eV 1) (eTup (aC (eC (.int 1)) (aN)))) (aN)))) [7, 1]) ["product_of", "plus", "minus"] fun x mx => by
    refine r_kept (v := .tup [.int 3, .int 4]) (s := "length") ?_ rep34
    have q := o4 (h := h) (a := a) (b := b) (c := c)
    simp [R] at q
    simp only [List.mem_cons, List.not_mem_nil, or_false] at mx
    rcases mx with rfl | rfl | rfl <;> simp (decide := true) [fnE, startE, slotD, eDisp, eV, eC, eTup, Y.e2, oAdd, R, aC, aN, Rs.bind, List.lookup, nb0, nb1, nb2, nb3, nb4, nb5, nb6, nb7, nb8, ofO, Y.ll, q.1, q.2.1, q.2.2, kept34]
  have L := lc (vs := [7]) (σ := sE (R [a, b, c]) (some odd) s3 s4 s5 s6) (it3 "product_of" "plus" "minus") C (by simp)
  simp only [b_u_law_errors_right_7, sSeq, sAsg, eMut, L, Rs.bind, Rs.out, gN, outO, List.set_cons_succ, List.set_cons_zero]
  rfl
end
end L06
end

section
set_option Elab.async false
set_option linter.all false
set_option maxRecDepth 100000
set_option maxHeartbeats 2000000
/-! N06k: the law of errors, the last steps; the law. -/
namespace L06
open PySem Y L2
theorem e2_of {o : Hm → D → D → Option D} {f g : Ev} {σ : Sl} {h : Hm} {x y z : D} (a : f σ h = .ok x h) (b : g σ h = .ok y h) (c : o h x y = some z) : Y.e2 o f g σ h = .ok z h := by simp only [Y.e2, a, b, Rs.bind, c, ofO]
theorem tb_of {f : Ev} {σ : Sl} {h : Hm} {v : Bool} (a : f σ h = .ok (.bl v) h) : Y.tB f σ h = .ok v h := by simp only [Y.tB, a, Rs.bind]
theorem app_to {h : Hm} {σ : Sl} {k : Nat} {l : List D} {t : D} {e : Ev} (hk : σ[3]? = some (some (.loc k))) (g : h[k]? = some (.lst l)) (he : e σ h = .ok t h) (hl : l.length ≤ 100) : sApp (eV 3) e σ h = .nx σ (h.set k (.lst (l ++ [t]))) := by
  have l1 : l.length < line := Nat.lt_of_le_of_lt hl (by decide)
  simp only [sApp, eV, hk, Rs.out, isLst, g, he, appD, l1, if_true]
section
variable {h : Hm} {a b c : Int} {odd bad wrong : D} {r s : Str} {s2 s3 s4 s5 s6 : Option D} {k : Nat} {l : List D}
theorem step8 {o : Ob} {t : Hm} {N : Nat} (hp : PenAt [o] 0 (N + 1)) : ∃ (bad : D) (o' : Ob), bad ∈ bads ∧ b_u_law_errors_right_8 (sE (R [a, b, c]) s2 s3 s4 s5 s6) (o :: t) = b_u_law_errors_right_9 (sE (R [a, b, c]) s2 s3 (some bad) s5 s6) (o' :: t) ∧ PenAt [o'] 0 N := by
  obtain ⟨x, o', e, m, h1⟩ := pickT (t := t) hp (xs := [.non, .bl true, .str "1"]) (by simp) (by simp)
  exact ⟨x, o', m, by simp [b_u_law_errors_right_8, sSeq, sAsg, eCall, eFrz, lLst, aC, aN, eV, eC, Rs.bind, Rs.out, e, Y.ll, gN, outO], h1⟩
theorem ref1 {F : Fn} {σ : Sl} {js : List Nat} {e : Ev} {n : Nat} {t : D} (he : d_u_law_refused (fnE n e js σ) [] h = .ok t h) : eHo d_u_law_refused aN (fnE n e js) σ h = .ok t h := by simp only [eHo, aN, Rs.bind, he]
theorem step9 (m : bad ∈ bads) (hr : ∀ h, bRepr h [bad] = some (.str r)) (g : h[k]? = some (.lst l)) (hl : l.length ≤ 100) : b_u_law_errors_right_9 (sE (R [a, b, c]) s2 (some (.loc k)) (some bad) s5 s6) h = b_u_law_errors_right_10 (sE (R [a, b, c]) s2 (some (.loc k)) (some bad) s5 s6) (h.set k (.lst (l ++ [tP ("k", r)]))) := by
  have E : eHo d_u_law_refused aN (fnE 2 (eCall d_times_row (aC (eV 0) (aC (eV 1) (aN)))) [1, 4]) (sE (R [a, b, c]) s2 (some (.loc k)) (some bad) s5 s6) h = .ok (tP ("k", r)) h := ref1 (F := d_times_row) (r_num (by
    have q := o5 (h := h) (a := a) (b := b) (c := c) m
    simp [fnE, startE, slotD, eCall, eV, aC, aN, Rs.bind, q]) (hr h))
  simp only [b_u_law_errors_right_9, sSeq, app_to (σ := sE (R [a, b, c]) s2 (some (.loc k)) (some bad) s5 s6) rfl g E hl]
def tsK (r : Str) : List (Str × Str) := [tk, tk, tk, ("k", r)]
theorem tk_ok : (PyData.strOk tk.1 && PyData.strOk tk.2 && PyData.strOk "k" && PyData.strOk "rows" && PyData.strOk "row" && PyData.strOk "(1, 2)" && PyData.strOk "some" && PyData.strOk "None") = true := by decide +kernel
theorem tsK_ok (k : PyData.strOk r = true) : ∀ t ∈ tsK r, PyData.strOk t.1 = true ∧ PyData.strOk t.2 = true := fun t m => by
  have q := tk_ok
  simp only [Bool.and_eq_true] at q
  obtain ⟨⟨⟨⟨⟨⟨⟨q1, q2⟩, q3⟩, q4⟩, q5⟩, q6⟩, q7⟩, q8⟩ := q
  simp only [tsK, List.mem_cons, List.not_mem_nil, or_false] at m
  rcases m with rfl | rfl | rfl | rfl
  · exact ⟨q1, q2⟩
  · exact ⟨q1, q2⟩
  · exact ⟨q1, q2⟩
  · exact ⟨q3, k⟩
theorem step10 (ok : PyData.strOk r = true) (hr : ∀ h, bRepr h [bad] = some (.str r)) (g : h[k]? = some (.lst ((tsK r).map tP))) : b_u_law_errors_right_10 (sE (R [a, b, c]) s2 (some (.loc k)) (some bad) s5 s6) h = b_u_law_errors_right_11 (sE (R [a, b, c]) s2 (some (.loc k)) (some bad) s5 s6) h := by
  have P := pair_t (h := h) (σ := sE (R [a, b, c]) s2 (some (.loc k)) (some bad) s5 s6) (e1 := eC (.str "length")) (e2 := eC (.str "(3, 4)")) (x := "length") (y := "(3, 4)") rfl rfl
  have M := mul_3 P
  have P2 := pair_t (h := h) (σ := sE (R [a, b, c]) s2 (some (.loc k)) (some bad) s5 s6) (e1 := eC (.str "k")) (e2 := eB bRepr (aC (eV 4) aN)) (x := "k") (y := r) rfl (rep_of rfl (hr h))
  have A := add_fl M (frz1 P2) (by simp)
  have e : List.replicate 3 (tP ("length", "(3, 4)")) ++ [tP ("k", r)] = (tsK r).map tP := rfl
  rw [e] at A
  have N := (ne_lf g (tsK_ok ok)).1
  have A' : Y.e2 oAdd (eFrz (lMul (lLst (aC (eTup (aC (eC (.str "length")) (aC (eC (.str "(3, 4)")) (aN)))) (aN))) (eC (.int 3)))) (eFrz (lLst (aC (eTup (aC (eC (.str "k")) (aC (eB bRepr (aC (eV 4) (aN))) (aN)))) (aN)))) (sE (R [a, b, c]) s2 (some (.loc k)) (some bad) s5 s6) h = .ok (.fl ((tsK r).map tP)) h := A
  have T : Y.tB (Y.e2 oNe (eV 3) (Y.e2 oAdd (eFrz (lMul (lLst (aC (eTup (aC (eC (.str "length")) (aC (eC (.str "(3, 4)")) (aN)))) (aN))) (eC (.int 3)))) (eFrz (lLst (aC (eTup (aC (eC (.str "k")) (aC (eB bRepr (aC (eV 4) (aN))) (aN)))) (aN)))))) (sE (R [a, b, c]) s2 (some (.loc k)) (some bad) s5 s6) h = .ok false h := tb_of (e2_of (f := eV 3) rfl A' N)
  simp only [b_u_law_errors_right_10, sSeq, sIf, T, Rs.out, Bool.false_eq_true, if_false, sPass]
theorem step11 {o : Ob} {t : Hm} {N : Nat} (hp : PenAt [o] 0 (N + 1)) : ∃ (w : D) (o' : Ob), w ∈ wrongs a b c ∧ b_u_law_errors_right_11 (sE (R [a, b, c]) s2 s3 s4 s5 s6) (o :: t) = b_u_law_errors_right_12 (sE (R [a, b, c]) s2 s3 s4 (some w) s6) (o' :: t) ∧ PenAt [o'] 0 N := by
  obtain ⟨x, o', e, m, h1⟩ := pickT (t := t) hp (xs := wrongs a b c) (by simp [wrongs]) (by simp [wrongs])
  simp [wrongs, R] at e
  exact ⟨x, o', m, by simp [b_u_law_errors_right_11, sSeq, sAsg, eCall, eFrz, lLst, lB, mList, seqOf, Y.e2, oAdd, eTup, aC, aN, eV, eC, Rs.bind, Rs.out, ofO, R, e, Y.ll, gN, outO], h1⟩
theorem step12 (m : wrong ∈ wrongs a b c) : b_u_law_errors_right_12 (sE (R [a, b, c]) s2 s3 s4 (some wrong) s6) h = b_u_law_errors_right_13 (sE (R [a, b, c]) s2 s3 s4 (some wrong) s6) h := by
  simp [b_u_law_errors_right_12, sSeq, sIf, Y.tB, Y.e2, eCall, aC, aN, eV, eC, Rs.bind, Rs.out, wrong_is m, oIsNot, isN, ofO, sPass]
theorem step13 (m : wrong ∈ wrongs a b c) (hr : ∀ h, bRepr h [wrong] = some (.str r)) : b_u_law_errors_right_13 (sE (R [a, b, c]) s2 s3 s4 (some wrong) s6) h = b_u_law_errors_right_14 (sE (R [a, b, c]) s2 (some (.loc h.length)) s4 (some wrong) s6) (h ++ [.lst [tP ("rows", r)]]) := by
  have E : eHo d_u_law_refused aN (fnE 1 (eCall d_mixed (aC (eV 0) (aC (eC .non) (aN)))) [5]) (sE (R [a, b, c]) s2 s3 s4 (some wrong) s6) h = .ok (tP ("rows", r)) h := ref1 (F := d_mixed) (r_rows (by
    have q := (o6 (h := h) m (w := .non)).1
    simp [fnE, startE, slotD, eCall, eV, eC, aC, aN, Rs.bind, q]) (hr h))
  have l1 : (1 ≤ line) = True := Y.ll _ (by decide)
  simp only [b_u_law_errors_right_13, sSeq, sAsg, eMut, lLst, aC, aN, E, Rs.bind, List.length_cons, List.length_nil, l1, if_true, Rs.out, gN, outO, List.set_cons_succ, List.set_cons_zero]
theorem step14 (m : wrong ∈ wrongs a b c) (hr : ∀ h, bRepr h [wrong] = some (.str r)) (g : h[k]? = some (.lst l)) (hl : l.length ≤ 100) : b_u_law_errors_right_14 (sE (R [a, b, c]) s2 (some (.loc k)) s4 (some wrong) s6) h = b_u_law_errors_right_15 (sE (R [a, b, c]) s2 (some (.loc k)) s4 (some wrong) s6) (h.set k (.lst (l ++ [tP ("rows", r)]))) := by
  have E : eHo d_u_law_refused aN (fnE 1 (eCall d_products_table (aC (eV 0) (aN))) [5]) (sE (R [a, b, c]) s2 (some (.loc k)) s4 (some wrong) s6) h = .ok (tP ("rows", r)) h := ref1 (F := d_mixed) (r_rows (by
    have q := (o6 (h := h) m (w := .non)).2
    simp [fnE, startE, slotD, eCall, eV, aC, aN, Rs.bind, q]) (hr h))
  simp only [b_u_law_errors_right_14, sSeq, app_to (σ := sE (R [a, b, c]) s2 (some (.loc k)) s4 (some wrong) s6) rfl g E hl]
theorem step15 (g : h[k]? = some (.lst l)) (hl : l.length ≤ 100) : b_u_law_errors_right_15 (sE (R [a, b, c]) s2 (some (.loc k)) s4 s5 s6) h = b_u_law_errors_right_16 (sE (R [a, b, c]) s2 (some (.loc k)) s4 s5 s6) (h.set k (.lst (l ++ [tP ("row", "(1, 2)")]))) := by
  have E : eHo d_u_law_refused aN (fnE 1 (eCall d_mixed (aC (eTup (aC (eV 0) (aN))) (aC (eFrz (lLst (aC (eC (.int 1)) (aC (eC (.int 2)) (aN))))) (aN)))) [1]) (sE (R [a, b, c]) s2 (some (.loc k)) s4 s5 s6) h = .ok (tP ("row", "(1, 2)")) h := ref1 (F := d_mixed) (r_row (by
    have q := o7 (h := h) (a := a) (b := b) (c := c)
    simp [fnE, startE, slotD, eCall, eTup, eFrz, lLst, eV, eC, aC, aN, Rs.bind, Y.ll, q]) rep12)
  simp only [b_u_law_errors_right_15, sSeq, app_to (σ := sE (R [a, b, c]) s2 (some (.loc k)) s4 s5 s6) rfl g E hl]
theorem step16 (m : bad ∈ bads) (hr : ∀ h, bRepr h [.tup [bad]] = some (.str r)) (g : h[k]? = some (.lst l)) (hl : l.length ≤ 100) : b_u_law_errors_right_16 (sE (R [a, b, c]) s2 (some (.loc k)) (some bad) s5 s6) h = b_u_law_errors_right_17 (sE (R [a, b, c]) s2 (some (.loc k)) (some bad) s5 s6) (h.set k (.lst (l ++ [tP ("row", r)]))) := by
  have E : eHo d_u_law_refused aN (fnE 2 (eCall d_mixed (aC (eTup (aC (eV 0) (aN))) (aC (eFrz (lLst (aC (eV 1) (aN)))) (aN)))) [1, 4]) (sE (R [a, b, c]) s2 (some (.loc k)) (some bad) s5 s6) h = .ok (tP ("row", r)) h := ref1 (F := d_mixed) (r_row (by
    have q := o8 (h := h) (a := a) (b := b) (c := c) m
    simp [fnE, startE, slotD, eCall, eTup, eFrz, lLst, eV, eC, aC, aN, Rs.bind, Y.ll, q]) (hr h))
  simp only [b_u_law_errors_right_16, sSeq, app_to (σ := sE (R [a, b, c]) s2 (some (.loc k)) (some bad) s5 s6) rfl g E hl]
theorem step17 (g : h[k]? = some (.lst l)) (hl : l.length ≤ 100) : b_u_law_errors_right_17 (sE (R [a, b, c]) s2 (some (.loc k)) s4 s5 s6) h = b_u_law_errors_right_18 (sE (R [a, b, c]) s2 (some (.loc k)) s4 s5 s6) (h.set k (.lst (l ++ [tP ("some", "None")]))) := by
  have E : eHo d_u_law_refused aN (fnE 0 (eCall d_mixed (aC (eTup (aN)) (aC (eFrz (lLst (aN))) (aN)))) []) (sE (R [a, b, c]) s2 (some (.loc k)) s4 s5 s6) h = .ok (tP ("some", "None")) h := ref1 (F := d_mixed) (r_kept (by
    have q := o9 (h := h)
    simp [fnE, startE, slotD, eCall, eTup, eFrz, lLst, eV, eC, aC, aN, Rs.bind, Y.ll, q]) repN)
  simp only [b_u_law_errors_right_17, sSeq, app_to (σ := sE (R [a, b, c]) s2 (some (.loc k)) s4 s5 s6) rfl g E hl]
def tsE (r s : Str) : List (Str × Str) := [("rows", r), ("rows", r), ("row", "(1, 2)"), ("row", s), ("some", "None")]
theorem tsE_ok (k : PyData.strOk r = true) (k2 : PyData.strOk s = true) : ∀ t ∈ tsE r s, PyData.strOk t.1 = true ∧ PyData.strOk t.2 = true := fun t m => by
  have q := tk_ok
  simp only [Bool.and_eq_true] at q
  obtain ⟨⟨⟨⟨⟨⟨⟨q1, q2⟩, q3⟩, q4⟩, q5⟩, q6⟩, q7⟩, q8⟩ := q
  simp only [tsE, List.mem_cons, List.not_mem_nil, or_false] at m
  rcases m with rfl | rfl | rfl | rfl | rfl
  · exact ⟨q4, k⟩
  · exact ⟨q4, k⟩
  · exact ⟨q5, q6⟩
  · exact ⟨q5, k2⟩
  · exact ⟨q7, q8⟩
theorem step18 (hw : ∀ h, bRepr h [wrong] = some (.str r)) (hb : ∀ h, bRepr h [.tup [bad]] = some (.str s)) : b_u_law_errors_right_18 (sE (R [a, b, c]) s2 s3 (some bad) (some wrong) s6) h = b_u_law_errors_right_19 (sE (R [a, b, c]) s2 s3 (some bad) (some wrong) (some (.fl ((tsE r s).map tP)))) h := by
  have P := pair_t (h := h) (σ := sE (R [a, b, c]) s2 s3 (some bad) (some wrong) s6) (e1 := eC (.str "rows")) (e2 := eB bRepr (aC (eV 5) aN)) (x := "rows") (y := r) rfl (rep_of rfl (hw h))
  have M := mul_2 P
  have B : eTup (aC (eV 4) aN) (sE (R [a, b, c]) s2 s3 (some bad) (some wrong) s6) h = .ok (.tup [bad]) h := by
    have l1 : (1 ≤ line) = True := Y.ll _ (by decide)
    simp only [eTup, aC, aN, eV, List.getElem?_cons_succ, List.getElem?_cons_zero, Rs.bind, List.length_cons, List.length_nil, l1, if_true]
  have P1 := pair_t (h := h) (σ := sE (R [a, b, c]) s2 s3 (some bad) (some wrong) s6) (e1 := eC (.str "row")) (e2 := eC (.str "(1, 2)")) (x := "row") (y := "(1, 2)") rfl rfl
  have P2 := pair_t (h := h) (σ := sE (R [a, b, c]) s2 s3 (some bad) (some wrong) s6) (e1 := eC (.str "row")) (e2 := eB bRepr (aC (eTup (aC (eV 4) aN)) aN)) (x := "row") (y := s) rfl (rep_of B (hb h))
  have P3 := pair_t (h := h) (σ := sE (R [a, b, c]) s2 s3 (some bad) (some wrong) s6) (e1 := eC (.str "some")) (e2 := eC (.str "None")) (x := "some") (y := "None") rfl rfl
  have A := add_fl M (frz3 P1 P2 P3) (by simp)
  have A' : Y.e2 oAdd (eFrz (lMul (lLst (aC (eTup (aC (eC (.str "rows")) (aC (eB bRepr (aC (eV 5) (aN))) (aN)))) (aN))) (eC (.int 2)))) (eFrz (lLst (aC (eTup (aC (eC (.str "row")) (aC (eC (.str "(1, 2)")) (aN)))) (aC (eTup (aC (eC (.str "row")) (aC (eB bRepr (aC (eTup (aC (eV 4) (aN))) (aN))) (aN)))) (aC (eTup (aC (eC (.str "some")) (aC (eC (.str "None")) (aN)))) (aN)))))) (sE (R [a, b, c]) s2 s3 (some bad) (some wrong) s6) h = .ok (.fl ((tsE r s).map tP)) h := A
  simp only [b_u_law_errors_right_18, sSeq, sAsg, A', Rs.out, gN, outO, List.set_cons_succ, List.set_cons_zero]
theorem step19 (k1 : PyData.strOk r = true) (k2 : PyData.strOk s = true) (g : h[k]? = some (.lst ((tsE r s).map tP))) : b_u_law_errors_right_19 (sE (R [a, b, c]) s2 (some (.loc k)) s4 s5 (some (.fl ((tsE r s).map tP)))) h = .rt (.bl true) h := by
  have N := (ne_lf g (tsE_ok k1 k2)).2
  have E := e2_of (f := eV 3) (g := eV 6) (σ := sE (R [a, b, c]) s2 (some (.loc k)) s4 s5 (some (.fl ((tsE r s).map tP)))) rfl rfl N
  simp only [b_u_law_errors_right_19, sRet, E, Rs.out]
end
/-- the law of errors -/
theorem errors_right {o : Ob} {N : Nat} (hp : PenAt [o] 0 (N + 6)) : ∃ o', d_u_law_errors_right [.loc 0] [o] = .ok (.bl true) [o'] ∧ PenAt [o'] 0 N := by
  obtain ⟨a, b, c, odd, o1, mo, e1, h1⟩ := err0 (N := N + 2) hp
  obtain ⟨r, kr, hr⟩ := odd_r a b c mo
  obtain ⟨bad, o2, mb, e2, h2⟩ := step8 (a := a.val) (b := b.val) (c := c.val) (s2 := some odd) (s3 := some (.loc 2)) (s4 := none) (s5 := none) (s6 := none) (N := N + 1) (t := [.lst ((List.replicate 3 (tr r)).map tP), .lst ((List.replicate 3 tk).map tP)]) h1
  obtain ⟨⟨rb, kb, hb⟩, ⟨rt, kt, ht⟩⟩ := bad_r mb
  obtain ⟨w, o3, mw, e3, h3⟩ := step11 (a := a.val) (b := b.val) (c := c.val) (s2 := some odd) (s3 := some (.loc 2)) (s4 := some bad) (s5 := none) (s6 := none) (N := N) (t := [.lst ((List.replicate 3 (tr r)).map tP), .lst ((tsK rb).map tP)]) h2
  obtain ⟨rw', kw, hw⟩ := wrong_r a b c mw
  refine ⟨o3, ?_, h3⟩
  have body : b_u_law_errors_right [some (.loc 0), none, none, none, none, none, none, none, none] [o] = .rt (.bl true) (o3 :: [.lst ((List.replicate 3 (tr r)).map tP), .lst ((tsK rb).map tP), .lst ((tsE rw' rt).map tP)]) := by
    have l3 : ((List.replicate 3 (tr r)).map tP).length ≤ 100 := by simp
    have l4 : ((List.replicate 3 (tr r)).map tP ++ (List.replicate 4 (tr r)).map tP).length ≤ 100 := by simp
    have l5 : ((List.replicate 3 tk).map tP).length ≤ 100 := by simp
    exact e1.trans <| (step2 mo).trans <| (step3 mo hr).trans <| (step4 (h := [o1, .lst ((List.replicate 3 (tr r)).map tP)]) (k := 1) (l := (List.replicate 3 (tr r)).map tP) mo hr rfl l3).trans <| (step5 mo hr l4).trans <| (step6 kr hr).trans <| step7.trans <| e2.trans <|
      (step9 (k := 2) (l := (List.replicate 3 tk).map tP) mb hb rfl l5).trans <| (step10 (k := 2) (h := [o2, .lst ((List.replicate 3 (tr r)).map tP), .lst ((tsK rb).map tP)]) kb hb rfl).trans <| e3.trans <| (step12 mw).trans <| (step13 mw hw).trans <|
      (step14 (k := 3) (l := [tP ("rows", rw')]) mw hw rfl (Nat.le_of_ble_eq_true rfl)).trans <| (step15 (k := 3) (l := [tP ("rows", rw'), tP ("rows", rw')]) rfl (Nat.le_of_ble_eq_true rfl)).trans <| (step16 (k := 3) (l := [tP ("rows", rw'), tP ("rows", rw'), tP ("row", "(1, 2)")]) mb ht rfl (Nat.le_of_ble_eq_true rfl)).trans <|
      (step17 (k := 3) (l := [tP ("rows", rw'), tP ("rows", rw'), tP ("row", "(1, 2)"), tP ("row", rt)]) rfl (Nat.le_of_ble_eq_true rfl)).trans <| (step18 hw ht).trans <| step19 (k := 3) kw kt rfl
  show (match b_u_law_errors_right [some (.loc 0), none, none, none, none, none, none, none, none] [o] with | .rt d h' => finP [o] d h' | .nx _ h' => finP [o] .non h' | .ex e _ h' => .ex e h' | _ => .bad) = _
  rw [body]
  exact fin_one rfl (pen_lw h3 1)
/-- four laps -/
theorem laps {s0 : Option D} : ∀ (ds : List D) (o : Ob) (N : Nat) (s2 : Option D), PenAt [o] 0 (N + 77 * ds.length) → ∃ (s2' : Option D) (o' : Ob), forL (gN 2) b_law_l1 ds [s0, some (.loc 0), s2] [o] = .nx [s0, some (.loc 0), s2'] [o']
  | [], o, N, s2, _ => ⟨s2, o, rfl⟩
  | d :: ds, o, N, s2, hp => by
    rw [List.length_cons, Nat.mul_succ] at hp
    obtain ⟨o1, e1, h1⟩ := right (N := N + 77 * ds.length + 47) (hp.mono (by omega))
    obtain ⟨o2, e2, h2⟩ := mixed_right (N := N + 77 * ds.length + 6) (h1.mono (by omega))
    obtain ⟨o3, e3, h3⟩ := errors_right h2
    obtain ⟨s2', o', e4⟩ := laps (s0 := s0) ds o3 N (some d) h3
    refine ⟨s2', o', ?_⟩
    have st : b_law_l1 [s0, some (.loc 0), some d] [o] = .nx [s0, some (.loc 0), some d] [o3] := by
      simp [b_law_l1, sIf, Y.tOr, Y.tNot, Y.tT, eCall, aC, aN, eV, Rs.bind, Rs.out, e1, e2, e3, truth, ofO, sPass]
    simp only [forL, gN, List.set_cons_succ, List.set_cons_zero, st, e4]
theorem law_true (ns : List Int) (hl : ns.length ≤ 63) : LawTrue d_law ns := by
  obtain ⟨o, e, hp⟩ := pen_made 0 137 1000000033 (by decide) ns hl []
  have e' : d_u_law_pen [.sq (ns.map .int)] [] = .ok (.loc 0) [o] := e
  have hp' : PenAt [o] 0 (0 + 77 * (rangeD 0 4).length) := PenAt.mono hp (by decide)
  obtain ⟨s2, o', e2⟩ := laps (s0 := some (.sq (ns.map .int))) (rangeD 0 4) o 0 none hp'
  have s4 : small 4 = true := by decide
  have i : iR1 (aC (eC (.int 4)) (aN)) [some (.sq (ns.map .int)), some (.loc 0), none] [o] = .ok (rangeD 0 4) [o] := by
    simp [iR1, aC, aN, eC, Rs.bind, s4]
  have k0 : b_law [some (.sq (ns.map .int)), none, none] [] = b_law_1 [some (.sq (ns.map .int)), some (.loc 0), none] [o] := by
    simp only [b_law, sSeq, sAsg, eCall, aC, aN, eV, List.getElem?_cons_succ, List.getElem?_cons_zero, Rs.bind, e', Rs.out, gN, outO, List.set_cons_succ, List.set_cons_zero]
  have k1 : b_law_1 [some (.sq (ns.map .int)), some (.loc 0), none] [o] = .rt (.bl true) [o'] := by
    simp only [b_law_1, sSeq, sFor, i, Rs.out, e2, b_law_2, sRet, eC]
  refine ⟨[], ?_⟩
  show (match b_law [some (.sq (ns.map .int)), none, none] [] with | .rt d h' => finP [] d h' | .nx _ h' => finP [] .non h' | .ex e _ h' => .ex e h' | _ => .bad) = _
  rw [k0, k1]
  exact fin_app (h := []) rfl
end L06
end

section
set_option Elab.async false
set_option linter.all false
set_option maxRecDepth 100000
namespace K06
open PySem PySem.Spec PyProof.Rows L2 Y
abbrev s_E_BadNumber : Stmt := (clsB (top 3)).getD 0 (.Pass ⟨0, 0, 0, 0⟩)
theorem sc_E_BadNumber : FnScope ["self", "what", "number"] ["self", "what", "number"] (defScope s_E_BadNumber) := ⟨rfl, rfl, rfl, by decide +kernel, rfl, by decide +kernel, by decide +kernel⟩
abbrev s_E_BadTable : Stmt := (clsB (top 5)).getD 0 (.Pass ⟨0, 0, 0, 0⟩)
theorem sc_E_BadTable : FnScope ["self", "table"] ["self", "table"] (defScope s_E_BadTable) := ⟨rfl, rfl, rfl, by decide +kernel, rfl, by decide +kernel, by decide +kernel⟩
abbrev s_E_BadRow : Stmt := (clsB (top 6)).getD 0 (.Pass ⟨0, 0, 0, 0⟩)
theorem sc_E_BadRow : FnScope ["self", "row"] ["self", "row"] (defScope s_E_BadRow) := ⟨rfl, rfl, rfl, by decide +kernel, rfl, by decide +kernel, by decide +kernel⟩
abbrev s_E_BadRows : Stmt := (clsB (top 7)).getD 0 (.Pass ⟨0, 0, 0, 0⟩)
theorem sc_E_BadRows : FnScope ["self", "rows"] ["self", "rows"] (defScope s_E_BadRows) := ⟨rfl, rfl, rfl, by decide +kernel, rfl, by decide +kernel, by decide +kernel⟩
abbrev s_E_NotKept : Stmt := (clsB (top 8)).getD 0 (.Pass ⟨0, 0, 0, 0⟩)
theorem sc_E_NotKept : FnScope ["self", "promise", "witness"] ["self", "promise", "witness"] (defScope s_E_NotKept) := ⟨rfl, rfl, rfl, by decide +kernel, rfl, by decide +kernel, by decide +kernel⟩
set_option maxHeartbeats 0 in
theorem all_mk {P : Program} {w : World} {K : PySem.W.Frag} {h : Heap} {mg : Str → Option Value} (X : K.In h) (G : h.Ns mainGlobals mg)
    {fa : Addr}
    {C_LineError : Addr}
    (n_LineError : PySem.W.nsIn K mainGlobals "LineError" = some (some (.ref C_LineError)))
    {C_BadNumber : Addr}
    (n_BadNumber : PySem.W.nsIn K mainGlobals "BadNumber" = some (some (.ref C_BadNumber)))
    {C_BadWeb : Addr}
    (n_BadWeb : PySem.W.nsIn K mainGlobals "BadWeb" = some (some (.ref C_BadWeb)))
    {C_BadTable : Addr}
    (n_BadTable : PySem.W.nsIn K mainGlobals "BadTable" = some (some (.ref C_BadTable)))
    {C_BadRow : Addr}
    (n_BadRow : PySem.W.nsIn K mainGlobals "BadRow" = some (some (.ref C_BadRow)))
    {C_BadRows : Addr}
    (n_BadRows : PySem.W.nsIn K mainGlobals "BadRows" = some (some (.ref C_BadRows)))
    {C_NotKept : Addr}
    (n_NotKept : PySem.W.nsIn K mainGlobals "NotKept" = some (some (.ref C_NotKept)))
    (eC_LineError : PySem.W.subIn K (.ref C_LineError) (.type "BaseException") = some true)
    (tC_LineError : PySem.W.typeIn K (.ref C_LineError) = some (.type "type"))
    (ic_LineError : PySem.W.isClsIn K C_LineError = true)
    (eC_BadNumber : PySem.W.subIn K (.ref C_BadNumber) (.type "BaseException") = some true)
    (tC_BadNumber : PySem.W.typeIn K (.ref C_BadNumber) = some (.type "type"))
    (ic_BadNumber : PySem.W.isClsIn K C_BadNumber = true)
    {nm_BadNumber qn_BadNumber : Str} {N_BadNumber : _} {bs_BadNumber : _} {sn_BadNumber : _} {sb_BadNumber : _} {ab_BadNumber : _} {co_BadNumber : _} {dd_BadNumber : _} {m0_BadNumber m1_BadNumber m2_BadNumber m3_BadNumber m5_BadNumber : _}
    (x_BadNumber : K.lookup C_BadNumber = some (excClassObj nm_BadNumber qn_BadNumber C_BadNumber N_BadNumber bs_BadNumber [.ref C_LineError, .type "ValueError", .type "Exception", .type "BaseException", .type "object"] true sn_BadNumber sb_BadNumber ab_BadNumber co_BadNumber dd_BadNumber m0_BadNumber m1_BadNumber m2_BadNumber m3_BadNumber m5_BadNumber "ValueError.__new__"))
    (sa_BadNumber : PySem.W.findIn K (.ref C_BadNumber) "__setattr__" = some (some (.builtin "object.__setattr__")))
    (kC_BadNumber : PySem.W.keepIn K (.ref C_BadNumber) = true)
    {f39 : Addr}
    (i_BadNumber : PySem.W.findIn K (.ref C_BadNumber) "__init__" = some (some (.ref f39)))
    (ti_BadNumber : PySem.W.typeIn K (.ref f39) = some (.type "function"))
    {od39 an39 : Option Addr} {sl39 : Array (Option Value)} {oc39 kV39 dc39 pm39 cd39 ct39 : Value}
    (l39 : K.lookup f39 = some ⟨oc39, od39, .func (PySem.W.fnOf "__init__" "BadNumber.__init__" (defArgs s_E_BadNumber) (defBody s_E_BadNumber) (defScope s_E_BadNumber) .none kV39 dc39 pm39 an39 cd39 ct39), sl39⟩)
    (c39 : PySem.W.codeIn K cd39 "BadNumber.__init__" = true)
    (k39 : PySem.W.keepIn K (.ref f39) = true)
    (no_BadNumber_what : PySem.W.findIn K (.ref C_BadNumber) "what" = some none)
    (no_BadNumber_number : PySem.W.findIn K (.ref C_BadNumber) "number" = some none)
    (ga_BadNumber : PySem.W.findIn K (.ref C_BadNumber) "__getattribute__" = some (some (.builtin "BaseException.__getattribute__")))
    (gg_BadNumber : PySem.W.findIn K (.ref C_BadNumber) "__getattr__" = some none)
    (hd_BadNumber : PySem.W.hasDictIn K C_BadNumber = true)
    (eC_BadWeb : PySem.W.subIn K (.ref C_BadWeb) (.type "BaseException") = some true)
    (tC_BadWeb : PySem.W.typeIn K (.ref C_BadWeb) = some (.type "type"))
    (ic_BadWeb : PySem.W.isClsIn K C_BadWeb = true)
    (no_BadWeb_web : PySem.W.findIn K (.ref C_BadWeb) "web" = some none)
    (ga_BadWeb : PySem.W.findIn K (.ref C_BadWeb) "__getattribute__" = some (some (.builtin "BaseException.__getattribute__")))
    (gg_BadWeb : PySem.W.findIn K (.ref C_BadWeb) "__getattr__" = some none)
    (hd_BadWeb : PySem.W.hasDictIn K C_BadWeb = true)
    (eC_BadTable : PySem.W.subIn K (.ref C_BadTable) (.type "BaseException") = some true)
    (tC_BadTable : PySem.W.typeIn K (.ref C_BadTable) = some (.type "type"))
    (ic_BadTable : PySem.W.isClsIn K C_BadTable = true)
    {nm_BadTable qn_BadTable : Str} {N_BadTable : _} {bs_BadTable : _} {sn_BadTable : _} {sb_BadTable : _} {ab_BadTable : _} {co_BadTable : _} {dd_BadTable : _} {m0_BadTable m1_BadTable m2_BadTable m3_BadTable m5_BadTable : _}
    (x_BadTable : K.lookup C_BadTable = some (excClassObj nm_BadTable qn_BadTable C_BadTable N_BadTable bs_BadTable [.ref C_LineError, .type "ValueError", .type "Exception", .type "BaseException", .type "object"] true sn_BadTable sb_BadTable ab_BadTable co_BadTable dd_BadTable m0_BadTable m1_BadTable m2_BadTable m3_BadTable m5_BadTable "ValueError.__new__"))
    (sa_BadTable : PySem.W.findIn K (.ref C_BadTable) "__setattr__" = some (some (.builtin "object.__setattr__")))
    (kC_BadTable : PySem.W.keepIn K (.ref C_BadTable) = true)
    {f40 : Addr}
    (i_BadTable : PySem.W.findIn K (.ref C_BadTable) "__init__" = some (some (.ref f40)))
    (ti_BadTable : PySem.W.typeIn K (.ref f40) = some (.type "function"))
    {od40 an40 : Option Addr} {sl40 : Array (Option Value)} {oc40 kV40 dc40 pm40 cd40 ct40 : Value}
    (l40 : K.lookup f40 = some ⟨oc40, od40, .func (PySem.W.fnOf "__init__" "BadTable.__init__" (defArgs s_E_BadTable) (defBody s_E_BadTable) (defScope s_E_BadTable) .none kV40 dc40 pm40 an40 cd40 ct40), sl40⟩)
    (c40 : PySem.W.codeIn K cd40 "BadTable.__init__" = true)
    (k40 : PySem.W.keepIn K (.ref f40) = true)
    (no_BadTable_table : PySem.W.findIn K (.ref C_BadTable) "table" = some none)
    (ga_BadTable : PySem.W.findIn K (.ref C_BadTable) "__getattribute__" = some (some (.builtin "BaseException.__getattribute__")))
    (gg_BadTable : PySem.W.findIn K (.ref C_BadTable) "__getattr__" = some none)
    (hd_BadTable : PySem.W.hasDictIn K C_BadTable = true)
    (eC_BadRow : PySem.W.subIn K (.ref C_BadRow) (.type "BaseException") = some true)
    (tC_BadRow : PySem.W.typeIn K (.ref C_BadRow) = some (.type "type"))
    (ic_BadRow : PySem.W.isClsIn K C_BadRow = true)
    {nm_BadRow qn_BadRow : Str} {N_BadRow : _} {bs_BadRow : _} {sn_BadRow : _} {sb_BadRow : _} {ab_BadRow : _} {co_BadRow : _} {dd_BadRow : _} {m0_BadRow m1_BadRow m2_BadRow m3_BadRow m5_BadRow : _}
    (x_BadRow : K.lookup C_BadRow = some (excClassObj nm_BadRow qn_BadRow C_BadRow N_BadRow bs_BadRow [.ref C_LineError, .type "ValueError", .type "Exception", .type "BaseException", .type "object"] true sn_BadRow sb_BadRow ab_BadRow co_BadRow dd_BadRow m0_BadRow m1_BadRow m2_BadRow m3_BadRow m5_BadRow "ValueError.__new__"))
    (sa_BadRow : PySem.W.findIn K (.ref C_BadRow) "__setattr__" = some (some (.builtin "object.__setattr__")))
    (kC_BadRow : PySem.W.keepIn K (.ref C_BadRow) = true)
    {f41 : Addr}
    (i_BadRow : PySem.W.findIn K (.ref C_BadRow) "__init__" = some (some (.ref f41)))
    (ti_BadRow : PySem.W.typeIn K (.ref f41) = some (.type "function"))
    {od41 an41 : Option Addr} {sl41 : Array (Option Value)} {oc41 kV41 dc41 pm41 cd41 ct41 : Value}
    (l41 : K.lookup f41 = some ⟨oc41, od41, .func (PySem.W.fnOf "__init__" "BadRow.__init__" (defArgs s_E_BadRow) (defBody s_E_BadRow) (defScope s_E_BadRow) .none kV41 dc41 pm41 an41 cd41 ct41), sl41⟩)
    (c41 : PySem.W.codeIn K cd41 "BadRow.__init__" = true)
    (k41 : PySem.W.keepIn K (.ref f41) = true)
    (no_BadRow_row : PySem.W.findIn K (.ref C_BadRow) "row" = some none)
    (ga_BadRow : PySem.W.findIn K (.ref C_BadRow) "__getattribute__" = some (some (.builtin "BaseException.__getattribute__")))
    (gg_BadRow : PySem.W.findIn K (.ref C_BadRow) "__getattr__" = some none)
    (hd_BadRow : PySem.W.hasDictIn K C_BadRow = true)
    (eC_BadRows : PySem.W.subIn K (.ref C_BadRows) (.type "BaseException") = some true)
    (tC_BadRows : PySem.W.typeIn K (.ref C_BadRows) = some (.type "type"))
    (ic_BadRows : PySem.W.isClsIn K C_BadRows = true)
    {nm_BadRows qn_BadRows : Str} {N_BadRows : _} {bs_BadRows : _} {sn_BadRows : _} {sb_BadRows : _} {ab_BadRows : _} {co_BadRows : _} {dd_BadRows : _} {m0_BadRows m1_BadRows m2_BadRows m3_BadRows m5_BadRows : _}
    (x_BadRows : K.lookup C_BadRows = some (excClassObj nm_BadRows qn_BadRows C_BadRows N_BadRows bs_BadRows [.ref C_LineError, .type "ValueError", .type "Exception", .type "BaseException", .type "object"] true sn_BadRows sb_BadRows ab_BadRows co_BadRows dd_BadRows m0_BadRows m1_BadRows m2_BadRows m3_BadRows m5_BadRows "ValueError.__new__"))
    (sa_BadRows : PySem.W.findIn K (.ref C_BadRows) "__setattr__" = some (some (.builtin "object.__setattr__")))
    (kC_BadRows : PySem.W.keepIn K (.ref C_BadRows) = true)
    {f42 : Addr}
    (i_BadRows : PySem.W.findIn K (.ref C_BadRows) "__init__" = some (some (.ref f42)))
    (ti_BadRows : PySem.W.typeIn K (.ref f42) = some (.type "function"))
    {od42 an42 : Option Addr} {sl42 : Array (Option Value)} {oc42 kV42 dc42 pm42 cd42 ct42 : Value}
    (l42 : K.lookup f42 = some ⟨oc42, od42, .func (PySem.W.fnOf "__init__" "BadRows.__init__" (defArgs s_E_BadRows) (defBody s_E_BadRows) (defScope s_E_BadRows) .none kV42 dc42 pm42 an42 cd42 ct42), sl42⟩)
    (c42 : PySem.W.codeIn K cd42 "BadRows.__init__" = true)
    (k42 : PySem.W.keepIn K (.ref f42) = true)
    (no_BadRows_rows : PySem.W.findIn K (.ref C_BadRows) "rows" = some none)
    (ga_BadRows : PySem.W.findIn K (.ref C_BadRows) "__getattribute__" = some (some (.builtin "BaseException.__getattribute__")))
    (gg_BadRows : PySem.W.findIn K (.ref C_BadRows) "__getattr__" = some none)
    (hd_BadRows : PySem.W.hasDictIn K C_BadRows = true)
    (eC_NotKept : PySem.W.subIn K (.ref C_NotKept) (.type "BaseException") = some true)
    (tC_NotKept : PySem.W.typeIn K (.ref C_NotKept) = some (.type "type"))
    (ic_NotKept : PySem.W.isClsIn K C_NotKept = true)
    {nm_NotKept qn_NotKept : Str} {N_NotKept : _} {bs_NotKept : _} {sn_NotKept : _} {sb_NotKept : _} {ab_NotKept : _} {co_NotKept : _} {dd_NotKept : _} {m0_NotKept m1_NotKept m2_NotKept m3_NotKept m5_NotKept : _}
    (x_NotKept : K.lookup C_NotKept = some (excClassObj nm_NotKept qn_NotKept C_NotKept N_NotKept bs_NotKept [.ref C_LineError, .type "ValueError", .type "Exception", .type "BaseException", .type "object"] true sn_NotKept sb_NotKept ab_NotKept co_NotKept dd_NotKept m0_NotKept m1_NotKept m2_NotKept m3_NotKept m5_NotKept "ValueError.__new__"))
    (sa_NotKept : PySem.W.findIn K (.ref C_NotKept) "__setattr__" = some (some (.builtin "object.__setattr__")))
    (kC_NotKept : PySem.W.keepIn K (.ref C_NotKept) = true)
    {f43 : Addr}
    (i_NotKept : PySem.W.findIn K (.ref C_NotKept) "__init__" = some (some (.ref f43)))
    (ti_NotKept : PySem.W.typeIn K (.ref f43) = some (.type "function"))
    {od43 an43 : Option Addr} {sl43 : Array (Option Value)} {oc43 kV43 dc43 pm43 cd43 ct43 : Value}
    (l43 : K.lookup f43 = some ⟨oc43, od43, .func (PySem.W.fnOf "__init__" "NotKept.__init__" (defArgs s_E_NotKept) (defBody s_E_NotKept) (defScope s_E_NotKept) .none kV43 dc43 pm43 an43 cd43 ct43), sl43⟩)
    (c43 : PySem.W.codeIn K cd43 "NotKept.__init__" = true)
    (k43 : PySem.W.keepIn K (.ref f43) = true)
    (no_NotKept_promise : PySem.W.findIn K (.ref C_NotKept) "promise" = some none)
    (no_NotKept_witness : PySem.W.findIn K (.ref C_NotKept) "witness" = some none)
    (ga_NotKept : PySem.W.findIn K (.ref C_NotKept) "__getattribute__" = some (some (.builtin "BaseException.__getattribute__")))
    (gg_NotKept : PySem.W.findIn K (.ref C_NotKept) "__getattr__" = some none)
    (hd_NotKept : PySem.W.hasDictIn K C_NotKept = true)
    (q_LineError_LineError : PySem.W.subIn K (.ref C_LineError) (.ref C_LineError) = some true)
    (q_LineError_BadNumber : PySem.W.subIn K (.ref C_LineError) (.ref C_BadNumber) = some false)
    (q_LineError_BadWeb : PySem.W.subIn K (.ref C_LineError) (.ref C_BadWeb) = some false)
    (q_LineError_BadTable : PySem.W.subIn K (.ref C_LineError) (.ref C_BadTable) = some false)
    (q_LineError_BadRow : PySem.W.subIn K (.ref C_LineError) (.ref C_BadRow) = some false)
    (q_LineError_BadRows : PySem.W.subIn K (.ref C_LineError) (.ref C_BadRows) = some false)
    (q_LineError_NotKept : PySem.W.subIn K (.ref C_LineError) (.ref C_NotKept) = some false)
    (q_BadNumber_LineError : PySem.W.subIn K (.ref C_BadNumber) (.ref C_LineError) = some true)
    (q_BadNumber_BadNumber : PySem.W.subIn K (.ref C_BadNumber) (.ref C_BadNumber) = some true)
    (q_BadNumber_BadWeb : PySem.W.subIn K (.ref C_BadNumber) (.ref C_BadWeb) = some false)
    (q_BadNumber_BadTable : PySem.W.subIn K (.ref C_BadNumber) (.ref C_BadTable) = some false)
    (q_BadNumber_BadRow : PySem.W.subIn K (.ref C_BadNumber) (.ref C_BadRow) = some false)
    (q_BadNumber_BadRows : PySem.W.subIn K (.ref C_BadNumber) (.ref C_BadRows) = some false)
    (q_BadNumber_NotKept : PySem.W.subIn K (.ref C_BadNumber) (.ref C_NotKept) = some false)
    (q_BadWeb_LineError : PySem.W.subIn K (.ref C_BadWeb) (.ref C_LineError) = some true)
    (q_BadWeb_BadNumber : PySem.W.subIn K (.ref C_BadWeb) (.ref C_BadNumber) = some false)
    (q_BadWeb_BadWeb : PySem.W.subIn K (.ref C_BadWeb) (.ref C_BadWeb) = some true)
    (q_BadWeb_BadTable : PySem.W.subIn K (.ref C_BadWeb) (.ref C_BadTable) = some false)
    (q_BadWeb_BadRow : PySem.W.subIn K (.ref C_BadWeb) (.ref C_BadRow) = some false)
    (q_BadWeb_BadRows : PySem.W.subIn K (.ref C_BadWeb) (.ref C_BadRows) = some false)
    (q_BadWeb_NotKept : PySem.W.subIn K (.ref C_BadWeb) (.ref C_NotKept) = some false)
    (q_BadTable_LineError : PySem.W.subIn K (.ref C_BadTable) (.ref C_LineError) = some true)
    (q_BadTable_BadNumber : PySem.W.subIn K (.ref C_BadTable) (.ref C_BadNumber) = some false)
    (q_BadTable_BadWeb : PySem.W.subIn K (.ref C_BadTable) (.ref C_BadWeb) = some false)
    (q_BadTable_BadTable : PySem.W.subIn K (.ref C_BadTable) (.ref C_BadTable) = some true)
    (q_BadTable_BadRow : PySem.W.subIn K (.ref C_BadTable) (.ref C_BadRow) = some false)
    (q_BadTable_BadRows : PySem.W.subIn K (.ref C_BadTable) (.ref C_BadRows) = some false)
    (q_BadTable_NotKept : PySem.W.subIn K (.ref C_BadTable) (.ref C_NotKept) = some false)
    (q_BadRow_LineError : PySem.W.subIn K (.ref C_BadRow) (.ref C_LineError) = some true)
    (q_BadRow_BadNumber : PySem.W.subIn K (.ref C_BadRow) (.ref C_BadNumber) = some false)
    (q_BadRow_BadWeb : PySem.W.subIn K (.ref C_BadRow) (.ref C_BadWeb) = some false)
    (q_BadRow_BadTable : PySem.W.subIn K (.ref C_BadRow) (.ref C_BadTable) = some false)
    (q_BadRow_BadRow : PySem.W.subIn K (.ref C_BadRow) (.ref C_BadRow) = some true)
    (q_BadRow_BadRows : PySem.W.subIn K (.ref C_BadRow) (.ref C_BadRows) = some false)
    (q_BadRow_NotKept : PySem.W.subIn K (.ref C_BadRow) (.ref C_NotKept) = some false)
    (q_BadRows_LineError : PySem.W.subIn K (.ref C_BadRows) (.ref C_LineError) = some true)
    (q_BadRows_BadNumber : PySem.W.subIn K (.ref C_BadRows) (.ref C_BadNumber) = some false)
    (q_BadRows_BadWeb : PySem.W.subIn K (.ref C_BadRows) (.ref C_BadWeb) = some false)
    (q_BadRows_BadTable : PySem.W.subIn K (.ref C_BadRows) (.ref C_BadTable) = some false)
    (q_BadRows_BadRow : PySem.W.subIn K (.ref C_BadRows) (.ref C_BadRow) = some false)
    (q_BadRows_BadRows : PySem.W.subIn K (.ref C_BadRows) (.ref C_BadRows) = some true)
    (q_BadRows_NotKept : PySem.W.subIn K (.ref C_BadRows) (.ref C_NotKept) = some false)
    (q_NotKept_LineError : PySem.W.subIn K (.ref C_NotKept) (.ref C_LineError) = some true)
    (q_NotKept_BadNumber : PySem.W.subIn K (.ref C_NotKept) (.ref C_BadNumber) = some false)
    (q_NotKept_BadWeb : PySem.W.subIn K (.ref C_NotKept) (.ref C_BadWeb) = some false)
    (q_NotKept_BadTable : PySem.W.subIn K (.ref C_NotKept) (.ref C_BadTable) = some false)
    (q_NotKept_BadRow : PySem.W.subIn K (.ref C_NotKept) (.ref C_BadRow) = some false)
    (q_NotKept_BadRows : PySem.W.subIn K (.ref C_NotKept) (.ref C_BadRows) = some false)
    (q_NotKept_NotKept : PySem.W.subIn K (.ref C_NotKept) (.ref C_NotKept) = some true)
    {f0 : Addr}
    (a0 : PySem.W.nsIn K mainGlobals "_law_pen" = some (some (.ref f0)))
    {od0 an0 : Option Addr} {sl0 : Array (Option Value)} {oc0 kV0 dc0 pm0 cd0 ct0 : Value}
    (l0 : K.lookup f0 = some ⟨oc0, od0, .func (PySem.W.fnOf "_law_pen" "_law_pen" (defArgs s_u_law_pen) (defBody s_u_law_pen) (defScope s_u_law_pen) .none kV0 dc0 pm0 an0 cd0 ct0), sl0⟩)
    (c0 : PySem.W.codeIn K cd0 "_law_pen" = true)
    (k0 : PySem.W.keepIn K (.ref f0) = true)
    {f1 : Addr}
    (a1 : PySem.W.nsIn K mainGlobals "_law_gcd" = some (some (.ref f1)))
    {od1 an1 : Option Addr} {sl1 : Array (Option Value)} {oc1 kV1 dc1 pm1 cd1 ct1 : Value}
    (l1 : K.lookup f1 = some ⟨oc1, od1, .func (PySem.W.fnOf "_law_gcd" "_law_gcd" (defArgs s_u_law_gcd) (defBody s_u_law_gcd) (defScope s_u_law_gcd) .none kV1 dc1 pm1 an1 cd1 ct1), sl1⟩)
    (c1 : PySem.W.codeIn K cd1 "_law_gcd" = true)
    (k1 : PySem.W.keepIn K (.ref f1) = true)
    {f2 : Addr}
    (a2 : PySem.W.nsIn K mainGlobals "_law_draw" = some (some (.ref f2)))
    {od2 an2 : Option Addr} {sl2 : Array (Option Value)} {oc2 kV2 dc2 pm2 cd2 ct2 : Value}
    (l2 : K.lookup f2 = some ⟨oc2, od2, .func (PySem.W.fnOf "_law_draw" "_law_draw" (defArgs s_u_law_draw) (defBody s_u_law_draw) (defScope s_u_law_draw) .none kV2 dc2 pm2 an2 cd2 ct2), sl2⟩)
    (c2 : PySem.W.codeIn K cd2 "_law_draw" = true)
    (k2 : PySem.W.keepIn K (.ref f2) = true)
    {f3 : Addr}
    (a3 : PySem.W.nsIn K mainGlobals "_law_pick" = some (some (.ref f3)))
    {od3 an3 : Option Addr} {sl3 : Array (Option Value)} {oc3 kV3 dc3 pm3 cd3 ct3 : Value}
    (l3 : K.lookup f3 = some ⟨oc3, od3, .func (PySem.W.fnOf "_law_pick" "_law_pick" (defArgs s_u_law_pick) (defBody s_u_law_pick) (defScope s_u_law_pick) .none kV3 dc3 pm3 an3 cd3 ct3), sl3⟩)
    (c3 : PySem.W.codeIn K cd3 "_law_pick" = true)
    (k3 : PySem.W.keepIn K (.ref f3) = true)
    {f4 : Addr}
    (a4 : PySem.W.nsIn K mainGlobals "is_whole" = some (some (.ref f4)))
    {od4 an4 : Option Addr} {sl4 : Array (Option Value)} {oc4 kV4 dc4 pm4 cd4 ct4 : Value}
    (l4 : K.lookup f4 = some ⟨oc4, od4, .func (PySem.W.fnOf "is_whole" "is_whole" (defArgs s_is_whole) (defBody s_is_whole) (defScope s_is_whole) .none kV4 dc4 pm4 an4 cd4 ct4), sl4⟩)
    (c4 : PySem.W.codeIn K cd4 "is_whole" = true)
    (k4 : PySem.W.keepIn K (.ref f4) = true)
    {f5 : Addr}
    (a5 : PySem.W.nsIn K mainGlobals "is_row_of" = some (some (.ref f5)))
    {od5 an5 : Option Addr} {sl5 : Array (Option Value)} {oc5 kV5 dc5 pm5 cd5 ct5 : Value}
    (l5 : K.lookup f5 = some ⟨oc5, od5, .func (PySem.W.fnOf "is_row_of" "is_row_of" (defArgs s_is_row_of) (defBody s_is_row_of) (defScope s_is_row_of) .none kV5 dc5 pm5 an5 cd5 ct5), sl5⟩)
    (c5 : PySem.W.codeIn K cd5 "is_row_of" = true)
    (k5 : PySem.W.keepIn K (.ref f5) = true)
    {f6 : Addr}
    (a6 : PySem.W.nsIn K mainGlobals "is_row" = some (some (.ref f6)))
    {od6 an6 : Option Addr} {sl6 : Array (Option Value)} {oc6 kV6 dc6 pm6 cd6 ct6 : Value}
    (l6 : K.lookup f6 = some ⟨oc6, od6, .func (PySem.W.fnOf "is_row" "is_row" (defArgs s_is_row) (defBody s_is_row) (defScope s_is_row) .none kV6 dc6 pm6 an6 cd6 ct6), sl6⟩)
    (c6 : PySem.W.codeIn K cd6 "is_row" = true)
    (k6 : PySem.W.keepIn K (.ref f6) = true)
    {f7 : Addr}
    (a7 : PySem.W.nsIn K mainGlobals "need_row" = some (some (.ref f7)))
    {od7 an7 : Option Addr} {sl7 : Array (Option Value)} {oc7 kV7 dc7 pm7 cd7 ct7 : Value}
    (l7 : K.lookup f7 = some ⟨oc7, od7, .func (PySem.W.fnOf "need_row" "need_row" (defArgs s_need_row) (defBody s_need_row) (defScope s_need_row) .none kV7 dc7 pm7 an7 cd7 ct7), sl7⟩)
    (c7 : PySem.W.codeIn K cd7 "need_row" = true)
    (k7 : PySem.W.keepIn K (.ref f7) = true)
    {f8 : Addr}
    (a8 : PySem.W.nsIn K mainGlobals "need_two_rows" = some (some (.ref f8)))
    {od8 an8 : Option Addr} {sl8 : Array (Option Value)} {oc8 kV8 dc8 pm8 cd8 ct8 : Value}
    (l8 : K.lookup f8 = some ⟨oc8, od8, .func (PySem.W.fnOf "need_two_rows" "need_two_rows" (defArgs s_need_two_rows) (defBody s_need_two_rows) (defScope s_need_two_rows) .none kV8 dc8 pm8 an8 cd8 ct8), sl8⟩)
    (c8 : PySem.W.codeIn K cd8 "need_two_rows" = true)
    (k8 : PySem.W.keepIn K (.ref f8) = true)
    {f9 : Addr}
    (a9 : PySem.W.nsIn K mainGlobals "dot" = some (some (.ref f9)))
    {od9 an9 : Option Addr} {sl9 : Array (Option Value)} {oc9 kV9 dc9 pm9 cd9 ct9 : Value}
    (l9 : K.lookup f9 = some ⟨oc9, od9, .func (PySem.W.fnOf "dot" "dot" (defArgs s_dot) (defBody s_dot) (defScope s_dot) .none kV9 dc9 pm9 an9 cd9 ct9), sl9⟩)
    (c9 : PySem.W.codeIn K cd9 "dot" = true)
    (k9 : PySem.W.keepIn K (.ref f9) = true)
    {f10 : Addr}
    (a10 : PySem.W.nsIn K mainGlobals "product_of" = some (some (.ref f10)))
    {od10 an10 : Option Addr} {sl10 : Array (Option Value)} {oc10 kV10 dc10 pm10 cd10 ct10 : Value}
    (l10 : K.lookup f10 = some ⟨oc10, od10, .func (PySem.W.fnOf "product_of" "product_of" (defArgs s_product_of) (defBody s_product_of) (defScope s_product_of) .none kV10 dc10 pm10 an10 cd10 ct10), sl10⟩)
    (c10 : PySem.W.codeIn K cd10 "product_of" = true)
    (k10 : PySem.W.keepIn K (.ref f10) = true)
    {f11 : Addr}
    (a11 : PySem.W.nsIn K mainGlobals "square_sum" = some (some (.ref f11)))
    {od11 an11 : Option Addr} {sl11 : Array (Option Value)} {oc11 kV11 dc11 pm11 cd11 ct11 : Value}
    (l11 : K.lookup f11 = some ⟨oc11, od11, .func (PySem.W.fnOf "square_sum" "square_sum" (defArgs s_square_sum) (defBody s_square_sum) (defScope s_square_sum) .none kV11 dc11 pm11 an11 cd11 ct11), sl11⟩)
    (c11 : PySem.W.codeIn K cd11 "square_sum" = true)
    (k11 : PySem.W.keepIn K (.ref f11) = true)
    {f12 : Addr}
    (a12 : PySem.W.nsIn K mainGlobals "plus_in" = some (some (.ref f12)))
    {od12 an12 : Option Addr} {sl12 : Array (Option Value)} {oc12 kV12 dc12 pm12 cd12 ct12 : Value}
    (l12 : K.lookup f12 = some ⟨oc12, od12, .func (PySem.W.fnOf "plus_in" "plus_in" (defArgs s_plus_in) (defBody s_plus_in) (defScope s_plus_in) .none kV12 dc12 pm12 an12 cd12 ct12), sl12⟩)
    (c12 : PySem.W.codeIn K cd12 "plus_in" = true)
    (k12 : PySem.W.keepIn K (.ref f12) = true)
    {f13 : Addr}
    (a13 : PySem.W.nsIn K mainGlobals "plus" = some (some (.ref f13)))
    {od13 an13 : Option Addr} {sl13 : Array (Option Value)} {oc13 kV13 dc13 pm13 cd13 ct13 : Value}
    (l13 : K.lookup f13 = some ⟨oc13, od13, .func (PySem.W.fnOf "plus" "plus" (defArgs s_plus) (defBody s_plus) (defScope s_plus) .none kV13 dc13 pm13 an13 cd13 ct13), sl13⟩)
    (c13 : PySem.W.codeIn K cd13 "plus" = true)
    (k13 : PySem.W.keepIn K (.ref f13) = true)
    {f14 : Addr}
    (a14 : PySem.W.nsIn K mainGlobals "minus_in" = some (some (.ref f14)))
    {od14 an14 : Option Addr} {sl14 : Array (Option Value)} {oc14 kV14 dc14 pm14 cd14 ct14 : Value}
    (l14 : K.lookup f14 = some ⟨oc14, od14, .func (PySem.W.fnOf "minus_in" "minus_in" (defArgs s_minus_in) (defBody s_minus_in) (defScope s_minus_in) .none kV14 dc14 pm14 an14 cd14 ct14), sl14⟩)
    (c14 : PySem.W.codeIn K cd14 "minus_in" = true)
    (k14 : PySem.W.keepIn K (.ref f14) = true)
    {f15 : Addr}
    (a15 : PySem.W.nsIn K mainGlobals "minus" = some (some (.ref f15)))
    {od15 an15 : Option Addr} {sl15 : Array (Option Value)} {oc15 kV15 dc15 pm15 cd15 ct15 : Value}
    (l15 : K.lookup f15 = some ⟨oc15, od15, .func (PySem.W.fnOf "minus" "minus" (defArgs s_minus) (defBody s_minus) (defScope s_minus) .none kV15 dc15 pm15 an15 cd15 ct15), sl15⟩)
    (c15 : PySem.W.codeIn K cd15 "minus" = true)
    (k15 : PySem.W.keepIn K (.ref f15) = true)
    {f16 : Addr}
    (a16 : PySem.W.nsIn K mainGlobals "times_row_in" = some (some (.ref f16)))
    {od16 an16 : Option Addr} {sl16 : Array (Option Value)} {oc16 kV16 dc16 pm16 cd16 ct16 : Value}
    (l16 : K.lookup f16 = some ⟨oc16, od16, .func (PySem.W.fnOf "times_row_in" "times_row_in" (defArgs s_times_row_in) (defBody s_times_row_in) (defScope s_times_row_in) .none kV16 dc16 pm16 an16 cd16 ct16), sl16⟩)
    (c16 : PySem.W.codeIn K cd16 "times_row_in" = true)
    (k16 : PySem.W.keepIn K (.ref f16) = true)
    {f17 : Addr}
    (a17 : PySem.W.nsIn K mainGlobals "times_row" = some (some (.ref f17)))
    {od17 an17 : Option Addr} {sl17 : Array (Option Value)} {oc17 kV17 dc17 pm17 cd17 ct17 : Value}
    (l17 : K.lookup f17 = some ⟨oc17, od17, .func (PySem.W.fnOf "times_row" "times_row" (defArgs s_times_row) (defBody s_times_row) (defScope s_times_row) .none kV17 dc17 pm17 an17 cd17 ct17), sl17⟩)
    (c17 : PySem.W.codeIn K cd17 "times_row" = true)
    (k17 : PySem.W.keepIn K (.ref f17) = true)
    {f18 : Addr}
    (a18 : PySem.W.nsIn K mainGlobals "content_in" = some (some (.ref f18)))
    {od18 an18 : Option Addr} {sl18 : Array (Option Value)} {oc18 kV18 dc18 pm18 cd18 ct18 : Value}
    (l18 : K.lookup f18 = some ⟨oc18, od18, .func (PySem.W.fnOf "content_in" "content_in" (defArgs s_content_in) (defBody s_content_in) (defScope s_content_in) .none kV18 dc18 pm18 an18 cd18 ct18), sl18⟩)
    (c18 : PySem.W.codeIn K cd18 "content_in" = true)
    (k18 : PySem.W.keepIn K (.ref f18) = true)
    {f19 : Addr}
    (a19 : PySem.W.nsIn K mainGlobals "content" = some (some (.ref f19)))
    {od19 an19 : Option Addr} {sl19 : Array (Option Value)} {oc19 kV19 dc19 pm19 cd19 ct19 : Value}
    (l19 : K.lookup f19 = some ⟨oc19, od19, .func (PySem.W.fnOf "content" "content" (defArgs s_content) (defBody s_content) (defScope s_content) .none kV19 dc19 pm19 an19 cd19 ct19), sl19⟩)
    (c19 : PySem.W.codeIn K cd19 "content" = true)
    (k19 : PySem.W.keepIn K (.ref f19) = true)
    {f20 : Addr}
    (a20 : PySem.W.nsIn K mainGlobals "plain_in" = some (some (.ref f20)))
    {od20 an20 : Option Addr} {sl20 : Array (Option Value)} {oc20 kV20 dc20 pm20 cd20 ct20 : Value}
    (l20 : K.lookup f20 = some ⟨oc20, od20, .func (PySem.W.fnOf "plain_in" "plain_in" (defArgs s_plain_in) (defBody s_plain_in) (defScope s_plain_in) .none kV20 dc20 pm20 an20 cd20 ct20), sl20⟩)
    (c20 : PySem.W.codeIn K cd20 "plain_in" = true)
    (k20 : PySem.W.keepIn K (.ref f20) = true)
    {f21 : Addr}
    (a21 : PySem.W.nsIn K mainGlobals "plain" = some (some (.ref f21)))
    {od21 an21 : Option Addr} {sl21 : Array (Option Value)} {oc21 kV21 dc21 pm21 cd21 ct21 : Value}
    (l21 : K.lookup f21 = some ⟨oc21, od21, .func (PySem.W.fnOf "plain" "plain" (defArgs s_plain) (defBody s_plain) (defScope s_plain) .none kV21 dc21 pm21 an21 cd21 ct21), sl21⟩)
    (c21 : PySem.W.codeIn K cd21 "plain" = true)
    (k21 : PySem.W.keepIn K (.ref f21) = true)
    {f22 : Addr}
    (a22 : PySem.W.nsIn K mainGlobals "_law_right" = some (some (.ref f22)))
    {od22 an22 : Option Addr} {sl22 : Array (Option Value)} {oc22 kV22 dc22 pm22 cd22 ct22 : Value}
    (l22 : K.lookup f22 = some ⟨oc22, od22, .func (PySem.W.fnOf "_law_right" "_law_right" (defArgs s_u_law_right) (defBody s_u_law_right) (defScope s_u_law_right) .none kV22 dc22 pm22 an22 cd22 ct22), sl22⟩)
    (c22 : PySem.W.codeIn K cd22 "_law_right" = true)
    (k22 : PySem.W.keepIn K (.ref f22) = true)
    {f23 : Addr}
    (a23 : PySem.W.nsIn K mainGlobals "are_rows" = some (some (.ref f23)))
    {od23 an23 : Option Addr} {sl23 : Array (Option Value)} {oc23 kV23 dc23 pm23 cd23 ct23 : Value}
    (l23 : K.lookup f23 = some ⟨oc23, od23, .func (PySem.W.fnOf "are_rows" "are_rows" (defArgs s_are_rows) (defBody s_are_rows) (defScope s_are_rows) .none kV23 dc23 pm23 an23 cd23 ct23), sl23⟩)
    (c23 : PySem.W.codeIn K cd23 "are_rows" = true)
    (k23 : PySem.W.keepIn K (.ref f23) = true)
    {f24 : Addr}
    (a24 : PySem.W.nsIn K mainGlobals "need_rows" = some (some (.ref f24)))
    {od24 an24 : Option Addr} {sl24 : Array (Option Value)} {oc24 kV24 dc24 pm24 cd24 ct24 : Value}
    (l24 : K.lookup f24 = some ⟨oc24, od24, .func (PySem.W.fnOf "need_rows" "need_rows" (defArgs s_need_rows) (defBody s_need_rows) (defScope s_need_rows) .none kV24 dc24 pm24 an24 cd24 ct24), sl24⟩)
    (c24 : PySem.W.codeIn K cd24 "need_rows" = true)
    (k24 : PySem.W.keepIn K (.ref f24) = true)
    {f25 : Addr}
    (a25 : PySem.W.nsIn K mainGlobals "mixed_in" = some (some (.ref f25)))
    {od25 an25 : Option Addr} {sl25 : Array (Option Value)} {oc25 kV25 dc25 pm25 cd25 ct25 : Value}
    (l25 : K.lookup f25 = some ⟨oc25, od25, .func (PySem.W.fnOf "mixed_in" "mixed_in" (defArgs s_mixed_in) (defBody s_mixed_in) (defScope s_mixed_in) .none kV25 dc25 pm25 an25 cd25 ct25), sl25⟩)
    (c25 : PySem.W.codeIn K cd25 "mixed_in" = true)
    (k25 : PySem.W.keepIn K (.ref f25) = true)
    {f26 : Addr}
    (a26 : PySem.W.nsIn K mainGlobals "mixed" = some (some (.ref f26)))
    {od26 an26 : Option Addr} {sl26 : Array (Option Value)} {oc26 kV26 dc26 pm26 cd26 ct26 : Value}
    (l26 : K.lookup f26 = some ⟨oc26, od26, .func (PySem.W.fnOf "mixed" "mixed" (defArgs s_mixed) (defBody s_mixed) (defScope s_mixed) .none kV26 dc26 pm26 an26 cd26 ct26), sl26⟩)
    (c26 : PySem.W.codeIn K cd26 "mixed" = true)
    (k26 : PySem.W.keepIn K (.ref f26) = true)
    {f27 : Addr}
    (a27 : PySem.W.nsIn K mainGlobals "products_in" = some (some (.ref f27)))
    {od27 an27 : Option Addr} {sl27 : Array (Option Value)} {oc27 kV27 dc27 pm27 cd27 ct27 : Value}
    (l27 : K.lookup f27 = some ⟨oc27, od27, .func (PySem.W.fnOf "products_in" "products_in" (defArgs s_products_in) (defBody s_products_in) (defScope s_products_in) .none kV27 dc27 pm27 an27 cd27 ct27), sl27⟩)
    (c27 : PySem.W.codeIn K cd27 "products_in" = true)
    (k27 : PySem.W.keepIn K (.ref f27) = true)
    {f28 : Addr}
    (a28 : PySem.W.nsIn K mainGlobals "products_table" = some (some (.ref f28)))
    {od28 an28 : Option Addr} {sl28 : Array (Option Value)} {oc28 kV28 dc28 pm28 cd28 ct28 : Value}
    (l28 : K.lookup f28 = some ⟨oc28, od28, .func (PySem.W.fnOf "products_table" "products_table" (defArgs s_products_table) (defBody s_products_table) (defScope s_products_table) .none kV28 dc28 pm28 an28 cd28 ct28), sl28⟩)
    (c28 : PySem.W.codeIn K cd28 "products_table" = true)
    (k28 : PySem.W.keepIn K (.ref f28) = true)
    {f29 : Addr}
    (a29 : PySem.W.nsIn K mainGlobals "is_table" = some (some (.ref f29)))
    {od29 an29 : Option Addr} {sl29 : Array (Option Value)} {oc29 kV29 dc29 pm29 cd29 ct29 : Value}
    (l29 : K.lookup f29 = some ⟨oc29, od29, .func (PySem.W.fnOf "is_table" "is_table" (defArgs s_is_table) (defBody s_is_table) (defScope s_is_table) .none kV29 dc29 pm29 an29 cd29 ct29), sl29⟩)
    (c29 : PySem.W.codeIn K cd29 "is_table" = true)
    (k29 : PySem.W.keepIn K (.ref f29) = true)
    {f30 : Addr}
    (a30 : PySem.W.nsIn K mainGlobals "need_table" = some (some (.ref f30)))
    {od30 an30 : Option Addr} {sl30 : Array (Option Value)} {oc30 kV30 dc30 pm30 cd30 ct30 : Value}
    (l30 : K.lookup f30 = some ⟨oc30, od30, .func (PySem.W.fnOf "need_table" "need_table" (defArgs s_need_table) (defBody s_need_table) (defScope s_need_table) .none kV30 dc30 pm30 an30 cd30 ct30), sl30⟩)
    (c30 : PySem.W.codeIn K cd30 "need_table" = true)
    (k30 : PySem.W.keepIn K (.ref f30) = true)
    {f31 : Addr}
    (a31 : PySem.W.nsIn K mainGlobals "need_row_of" = some (some (.ref f31)))
    {od31 an31 : Option Addr} {sl31 : Array (Option Value)} {oc31 kV31 dc31 pm31 cd31 ct31 : Value}
    (l31 : K.lookup f31 = some ⟨oc31, od31, .func (PySem.W.fnOf "need_row_of" "need_row_of" (defArgs s_need_row_of) (defBody s_need_row_of) (defScope s_need_row_of) .none kV31 dc31 pm31 an31 cd31 ct31), sl31⟩)
    (c31 : PySem.W.codeIn K cd31 "need_row_of" = true)
    (k31 : PySem.W.keepIn K (.ref f31) = true)
    {f32 : Addr}
    (a32 : PySem.W.nsIn K mainGlobals "row_product_in" = some (some (.ref f32)))
    {od32 an32 : Option Addr} {sl32 : Array (Option Value)} {oc32 kV32 dc32 pm32 cd32 ct32 : Value}
    (l32 : K.lookup f32 = some ⟨oc32, od32, .func (PySem.W.fnOf "row_product_in" "row_product_in" (defArgs s_row_product_in) (defBody s_row_product_in) (defScope s_row_product_in) .none kV32 dc32 pm32 an32 cd32 ct32), sl32⟩)
    (c32 : PySem.W.codeIn K cd32 "row_product_in" = true)
    (k32 : PySem.W.keepIn K (.ref f32) = true)
    {f33 : Addr}
    (a33 : PySem.W.nsIn K mainGlobals "value_in" = some (some (.ref f33)))
    {od33 an33 : Option Addr} {sl33 : Array (Option Value)} {oc33 kV33 dc33 pm33 cd33 ct33 : Value}
    (l33 : K.lookup f33 = some ⟨oc33, od33, .func (PySem.W.fnOf "value_in" "value_in" (defArgs s_value_in) (defBody s_value_in) (defScope s_value_in) .none kV33 dc33 pm33 an33 cd33 ct33), sl33⟩)
    (c33 : PySem.W.codeIn K cd33 "value_in" = true)
    (k33 : PySem.W.keepIn K (.ref f33) = true)
    {f34 : Addr}
    (a34 : PySem.W.nsIn K mainGlobals "value_at" = some (some (.ref f34)))
    {od34 an34 : Option Addr} {sl34 : Array (Option Value)} {oc34 kV34 dc34 pm34 cd34 ct34 : Value}
    (l34 : K.lookup f34 = some ⟨oc34, od34, .func (PySem.W.fnOf "value_at" "value_at" (defArgs s_value_at) (defBody s_value_at) (defScope s_value_at) .none kV34 dc34 pm34 an34 cd34 ct34), sl34⟩)
    (c34 : PySem.W.codeIn K cd34 "value_at" = true)
    (k34 : PySem.W.keepIn K (.ref f34) = true)
    {f35 : Addr}
    (a35 : PySem.W.nsIn K mainGlobals "_law_mixed_right" = some (some (.ref f35)))
    {od35 an35 : Option Addr} {sl35 : Array (Option Value)} {oc35 kV35 dc35 pm35 cd35 ct35 : Value}
    (l35 : K.lookup f35 = some ⟨oc35, od35, .func (PySem.W.fnOf "_law_mixed_right" "_law_mixed_right" (defArgs s_u_law_mixed_right) (defBody s_u_law_mixed_right) (defScope s_u_law_mixed_right) .none kV35 dc35 pm35 an35 cd35 ct35), sl35⟩)
    (c35 : PySem.W.codeIn K cd35 "_law_mixed_right" = true)
    (k35 : PySem.W.keepIn K (.ref f35) = true)
    {f36 : Addr}
    (a36 : PySem.W.nsIn K mainGlobals "_law_refused" = some (some (.ref f36)))
    {od36 an36 : Option Addr} {sl36 : Array (Option Value)} {oc36 kV36 dc36 pm36 cd36 ct36 : Value}
    (l36 : K.lookup f36 = some ⟨oc36, od36, .func (PySem.W.fnOf "_law_refused" "_law_refused" (defArgs s_u_law_refused) (defBody s_u_law_refused) (defScope s_u_law_refused) .none kV36 dc36 pm36 an36 cd36 ct36), sl36⟩)
    (c36 : PySem.W.codeIn K cd36 "_law_refused" = true)
    (k36 : PySem.W.keepIn K (.ref f36) = true)
    {f37 : Addr}
    (a37 : PySem.W.nsIn K mainGlobals "_law_errors_right" = some (some (.ref f37)))
    {od37 an37 : Option Addr} {sl37 : Array (Option Value)} {oc37 kV37 dc37 pm37 cd37 ct37 : Value}
    (l37 : K.lookup f37 = some ⟨oc37, od37, .func (PySem.W.fnOf "_law_errors_right" "_law_errors_right" (defArgs s_u_law_errors_right) (defBody s_u_law_errors_right) (defScope s_u_law_errors_right) .none kV37 dc37 pm37 an37 cd37 ct37), sl37⟩)
    (c37 : PySem.W.codeIn K cd37 "_law_errors_right" = true)
    (k37 : PySem.W.keepIn K (.ref f37) = true)
    {f38 : Addr}
    (a38 : PySem.W.nsIn K mainGlobals "law" = some (some (.ref f38)))
    {od38 an38 : Option Addr} {sl38 : Array (Option Value)} {oc38 kV38 dc38 pm38 cd38 ct38 : Value}
    (l38 : K.lookup f38 = some ⟨oc38, od38, .func (PySem.W.fnOf "law" "law" (defArgs s_law) (defBody s_law) (defScope s_law) .none kV38 dc38 pm38 an38 cd38 ct38), sl38⟩)
    (c38 : PySem.W.codeIn K cd38 "law" = true)
    (k38 : PySem.W.keepIn K (.ref f38) = true)
    (z_int : PySem.W.nsIn K mainGlobals "int" = some none)
    (z_list : PySem.W.nsIn K mainGlobals "list" = some none)
    (z_abs : PySem.W.nsIn K mainGlobals "abs" = some none)
    (z_range : PySem.W.nsIn K mainGlobals "range" = some none)
    (z_len : PySem.W.nsIn K mainGlobals "len" = some none)
    (z_isinstance : PySem.W.nsIn K mainGlobals "isinstance" = some none)
    (z_bool : PySem.W.nsIn K mainGlobals "bool" = some none)
    (z_tuple : PySem.W.nsIn K mainGlobals "tuple" = some none)
    (z_all : PySem.W.nsIn K mainGlobals "all" = some none)
    (z_zip : PySem.W.nsIn K mainGlobals "zip" = some none)
    (z_sum : PySem.W.nsIn K mainGlobals "sum" = some none)
    (z_gcd : PySem.W.nsIn K mainGlobals "gcd" = some (some (.builtin "math.gcd")))
    (z_repr : PySem.W.nsIn K mainGlobals "repr" = some none) (hfa : mg "law" = some (.ref fa))
    (u : lamB K = true) : ∃ fd : FuncData, (∀ (s : Shared) (u : Value), BindsTo s fd ⟨[u], []⟩ [("script", u)]) ∧ (∀ x c P, x ∈ lamN → PySem.W.tabIn K x = some (c, P) → K.lookup P = none) ∧ ∀ base : Heap, K.In base → base.Ns mainGlobals mg → TBs K base mg → FnG P w K mg base 10 fa fd ["script"] (spP K noCl 1 d_law) := by
  have ef := hfa.symm.trans (PySem.W.mg_of X G a38)
  cases ef
  refine ⟨PySem.W.fnOf "law" "law" (defArgs s_law) (defBody s_law) (defScope s_law) .none kV38 dc38 pm38 an38 cd38 ct38, fun s v => .of_eq rfl, fun x c P hx e => lamB_no u hx e, fun base _ _ tb => ?_⟩
  have y_int := PySem.W.mg_none_of X G z_int
  have y_list := PySem.W.mg_none_of X G z_list
  have y_abs := PySem.W.mg_none_of X G z_abs
  have y_range := PySem.W.mg_none_of X G z_range
  have y_len := PySem.W.mg_none_of X G z_len
  have y_isinstance := PySem.W.mg_none_of X G z_isinstance
  have y_bool := PySem.W.mg_none_of X G z_bool
  have y_tuple := PySem.W.mg_none_of X G z_tuple
  have y_all := PySem.W.mg_none_of X G z_all
  have y_zip := PySem.W.mg_none_of X G z_zip
  have y_sum := PySem.W.mg_none_of X G z_sum
  have y_gcd := PySem.W.mg_of X G z_gcd
  have y_repr := PySem.W.mg_none_of X G z_repr
  have FE41 := fun_mk (st := s_E_BadRow) l41 c41 k41
  have bE41 := FE41.binds (ps := ["self", "row"]) fun _ _ _ _ _ _ us hl => match us, hl with | [_, _], _ => rfl
  have E_BadRow : ∀ base, Exc P w K mg base "BadRow" ["row"] := fun base => exc1 (PySem.W.mg_of X G n_BadRow) n_BadRow ⟨⟨_, _, _, _, _, _, _, _, _, _, _, _, _, _, _, x_BadRow, rfl⟩, sa_BadRow, eC_BadRow, tC_BadRow, kC_BadRow⟩ i_BadRow ti_BadRow FE41 sc_E_BadRow rfl no_BadRow_row bE41 rfl rfl (by decide) (by decide) (fun _ => rfl)
  have FE43 := fun_mk (st := s_E_NotKept) l43 c43 k43
  have bE43 := FE43.binds (ps := ["self", "promise", "witness"]) fun _ _ _ _ _ _ us hl => match us, hl with | [_, _, _], _ => rfl
  have E_NotKept : ∀ base, Exc P w K mg base "NotKept" ["promise", "witness"] := fun base => exc2 (PySem.W.mg_of X G n_NotKept) n_NotKept ⟨⟨_, _, _, _, _, _, _, _, _, _, _, _, _, _, _, x_NotKept, rfl⟩, sa_NotKept, eC_NotKept, tC_NotKept, kC_NotKept⟩ i_NotKept ti_NotKept FE43 sc_E_NotKept rfl no_NotKept_promise no_NotKept_witness bE43 rfl rfl rfl (by decide) (by decide) (by decide) (by decide) (fun _ => rfl) (fun _ => rfl)
  have FE39 := fun_mk (st := s_E_BadNumber) l39 c39 k39
  have bE39 := FE39.binds (ps := ["self", "what", "number"]) fun _ _ _ _ _ _ us hl => match us, hl with | [_, _, _], _ => rfl
  have E_BadNumber : ∀ base, Exc P w K mg base "BadNumber" ["what", "number"] := fun base => exc2 (PySem.W.mg_of X G n_BadNumber) n_BadNumber ⟨⟨_, _, _, _, _, _, _, _, _, _, _, _, _, _, _, x_BadNumber, rfl⟩, sa_BadNumber, eC_BadNumber, tC_BadNumber, kC_BadNumber⟩ i_BadNumber ti_BadNumber FE39 sc_E_BadNumber rfl no_BadNumber_what no_BadNumber_number bE39 rfl rfl rfl (by decide) (by decide) (by decide) (by decide) (fun _ => rfl) (fun _ => rfl)
  have FE42 := fun_mk (st := s_E_BadRows) l42 c42 k42
  have bE42 := FE42.binds (ps := ["self", "rows"]) fun _ _ _ _ _ _ us hl => match us, hl with | [_, _], _ => rfl
  have E_BadRows : ∀ base, Exc P w K mg base "BadRows" ["rows"] := fun base => exc1 (PySem.W.mg_of X G n_BadRows) n_BadRows ⟨⟨_, _, _, _, _, _, _, _, _, _, _, _, _, _, _, x_BadRows, rfl⟩, sa_BadRows, eC_BadRows, tC_BadRows, kC_BadRows⟩ i_BadRows ti_BadRows FE42 sc_E_BadRows rfl no_BadRows_rows bE42 rfl rfl (by decide) (by decide) (fun _ => rfl)
  have FE40 := fun_mk (st := s_E_BadTable) l40 c40 k40
  have bE40 := FE40.binds (ps := ["self", "table"]) fun _ _ _ _ _ _ us hl => match us, hl with | [_, _], _ => rfl
  have E_BadTable : ∀ base, Exc P w K mg base "BadTable" ["table"] := fun base => exc1 (PySem.W.mg_of X G n_BadTable) n_BadTable ⟨⟨_, _, _, _, _, _, _, _, _, _, _, _, _, _, _, x_BadTable, rfl⟩, sa_BadTable, eC_BadTable, tC_BadTable, kC_BadTable⟩ i_BadTable ti_BadTable FE40 sc_E_BadTable rfl no_BadTable_table bE40 rfl rfl (by decide) (by decide) (fun _ => rfl)
  have H_NotKept : Hcl K mg "NotKept" ["promise", "witness"] := ⟨_, PySem.W.mg_of X G n_NotKept, n_NotKept, fun _ => ⟨ga_NotKept, gg_NotKept, eC_NotKept, hd_NotKept⟩, (by intro n hn; simp only [List.mem_cons, List.not_mem_nil, or_false] at hn; rcases hn with rfl | rfl <;> assumption)⟩
  have H_BadRows : Hcl K mg "BadRows" ["rows"] := ⟨_, PySem.W.mg_of X G n_BadRows, n_BadRows, fun _ => ⟨ga_BadRows, gg_BadRows, eC_BadRows, hd_BadRows⟩, (by intro n hn; simp only [List.mem_cons, List.not_mem_nil, or_false] at hn; rcases hn with rfl <;> assumption)⟩
  have H_BadRow : Hcl K mg "BadRow" ["row"] := ⟨_, PySem.W.mg_of X G n_BadRow, n_BadRow, fun _ => ⟨ga_BadRow, gg_BadRow, eC_BadRow, hd_BadRow⟩, (by intro n hn; simp only [List.mem_cons, List.not_mem_nil, or_false] at hn; rcases hn with rfl <;> assumption)⟩
  have H_BadTable : Hcl K mg "BadTable" ["table"] := ⟨_, PySem.W.mg_of X G n_BadTable, n_BadTable, fun _ => ⟨ga_BadTable, gg_BadTable, eC_BadTable, hd_BadTable⟩, (by intro n hn; simp only [List.mem_cons, List.not_mem_nil, or_false] at hn; rcases hn with rfl <;> assumption)⟩
  have H_BadWeb : Hcl K mg "BadWeb" ["web"] := ⟨_, PySem.W.mg_of X G n_BadWeb, n_BadWeb, fun _ => ⟨ga_BadWeb, gg_BadWeb, eC_BadWeb, hd_BadWeb⟩, (by intro n hn; simp only [List.mem_cons, List.not_mem_nil, or_false] at hn; rcases hn with rfl <;> assumption)⟩
  have H_BadNumber : Hcl K mg "BadNumber" ["what", "number"] := ⟨_, PySem.W.mg_of X G n_BadNumber, n_BadNumber, fun _ => ⟨ga_BadNumber, gg_BadNumber, eC_BadNumber, hd_BadNumber⟩, (by intro n hn; simp only [List.mem_cons, List.not_mem_nil, or_false] at hn; rcases hn with rfl | rfl <;> assumption)⟩
  have X_errs : ErrsOk K ["LineError", "BadNumber", "BadWeb", "BadTable", "BadRow", "BadRows", "NotKept"] := by
    intro c hc d hd
    simp only [List.mem_cons, List.not_mem_nil, or_false] at hc hd
    rcases hc with rfl | rfl | rfl | rfl | rfl | rfl | rfl <;> rcases hd with rfl | rfl | rfl | rfl | rfl | rfl | rfl
    · exact ⟨_, _, n_LineError, n_LineError, exm_of eC_LineError ic_LineError tC_LineError q_LineError_LineError⟩
    · exact ⟨_, _, n_LineError, n_BadNumber, exm_of eC_BadNumber ic_BadNumber tC_BadNumber q_LineError_BadNumber⟩
    · exact ⟨_, _, n_LineError, n_BadWeb, exm_of eC_BadWeb ic_BadWeb tC_BadWeb q_LineError_BadWeb⟩
    · exact ⟨_, _, n_LineError, n_BadTable, exm_of eC_BadTable ic_BadTable tC_BadTable q_LineError_BadTable⟩
    · exact ⟨_, _, n_LineError, n_BadRow, exm_of eC_BadRow ic_BadRow tC_BadRow q_LineError_BadRow⟩
    · exact ⟨_, _, n_LineError, n_BadRows, exm_of eC_BadRows ic_BadRows tC_BadRows q_LineError_BadRows⟩
    · exact ⟨_, _, n_LineError, n_NotKept, exm_of eC_NotKept ic_NotKept tC_NotKept q_LineError_NotKept⟩
    · exact ⟨_, _, n_BadNumber, n_LineError, exm_of eC_LineError ic_LineError tC_LineError q_BadNumber_LineError⟩
    · exact ⟨_, _, n_BadNumber, n_BadNumber, exm_of eC_BadNumber ic_BadNumber tC_BadNumber q_BadNumber_BadNumber⟩
    · exact ⟨_, _, n_BadNumber, n_BadWeb, exm_of eC_BadWeb ic_BadWeb tC_BadWeb q_BadNumber_BadWeb⟩
    · exact ⟨_, _, n_BadNumber, n_BadTable, exm_of eC_BadTable ic_BadTable tC_BadTable q_BadNumber_BadTable⟩
    · exact ⟨_, _, n_BadNumber, n_BadRow, exm_of eC_BadRow ic_BadRow tC_BadRow q_BadNumber_BadRow⟩
    · exact ⟨_, _, n_BadNumber, n_BadRows, exm_of eC_BadRows ic_BadRows tC_BadRows q_BadNumber_BadRows⟩
    · exact ⟨_, _, n_BadNumber, n_NotKept, exm_of eC_NotKept ic_NotKept tC_NotKept q_BadNumber_NotKept⟩
    · exact ⟨_, _, n_BadWeb, n_LineError, exm_of eC_LineError ic_LineError tC_LineError q_BadWeb_LineError⟩
    · exact ⟨_, _, n_BadWeb, n_BadNumber, exm_of eC_BadNumber ic_BadNumber tC_BadNumber q_BadWeb_BadNumber⟩
    · exact ⟨_, _, n_BadWeb, n_BadWeb, exm_of eC_BadWeb ic_BadWeb tC_BadWeb q_BadWeb_BadWeb⟩
    · exact ⟨_, _, n_BadWeb, n_BadTable, exm_of eC_BadTable ic_BadTable tC_BadTable q_BadWeb_BadTable⟩
    · exact ⟨_, _, n_BadWeb, n_BadRow, exm_of eC_BadRow ic_BadRow tC_BadRow q_BadWeb_BadRow⟩
    · exact ⟨_, _, n_BadWeb, n_BadRows, exm_of eC_BadRows ic_BadRows tC_BadRows q_BadWeb_BadRows⟩
    · exact ⟨_, _, n_BadWeb, n_NotKept, exm_of eC_NotKept ic_NotKept tC_NotKept q_BadWeb_NotKept⟩
    · exact ⟨_, _, n_BadTable, n_LineError, exm_of eC_LineError ic_LineError tC_LineError q_BadTable_LineError⟩
    · exact ⟨_, _, n_BadTable, n_BadNumber, exm_of eC_BadNumber ic_BadNumber tC_BadNumber q_BadTable_BadNumber⟩
    · exact ⟨_, _, n_BadTable, n_BadWeb, exm_of eC_BadWeb ic_BadWeb tC_BadWeb q_BadTable_BadWeb⟩
    · exact ⟨_, _, n_BadTable, n_BadTable, exm_of eC_BadTable ic_BadTable tC_BadTable q_BadTable_BadTable⟩
    · exact ⟨_, _, n_BadTable, n_BadRow, exm_of eC_BadRow ic_BadRow tC_BadRow q_BadTable_BadRow⟩
    · exact ⟨_, _, n_BadTable, n_BadRows, exm_of eC_BadRows ic_BadRows tC_BadRows q_BadTable_BadRows⟩
    · exact ⟨_, _, n_BadTable, n_NotKept, exm_of eC_NotKept ic_NotKept tC_NotKept q_BadTable_NotKept⟩
    · exact ⟨_, _, n_BadRow, n_LineError, exm_of eC_LineError ic_LineError tC_LineError q_BadRow_LineError⟩
    · exact ⟨_, _, n_BadRow, n_BadNumber, exm_of eC_BadNumber ic_BadNumber tC_BadNumber q_BadRow_BadNumber⟩
    · exact ⟨_, _, n_BadRow, n_BadWeb, exm_of eC_BadWeb ic_BadWeb tC_BadWeb q_BadRow_BadWeb⟩
    · exact ⟨_, _, n_BadRow, n_BadTable, exm_of eC_BadTable ic_BadTable tC_BadTable q_BadRow_BadTable⟩
    · exact ⟨_, _, n_BadRow, n_BadRow, exm_of eC_BadRow ic_BadRow tC_BadRow q_BadRow_BadRow⟩
    · exact ⟨_, _, n_BadRow, n_BadRows, exm_of eC_BadRows ic_BadRows tC_BadRows q_BadRow_BadRows⟩
    · exact ⟨_, _, n_BadRow, n_NotKept, exm_of eC_NotKept ic_NotKept tC_NotKept q_BadRow_NotKept⟩
    · exact ⟨_, _, n_BadRows, n_LineError, exm_of eC_LineError ic_LineError tC_LineError q_BadRows_LineError⟩
    · exact ⟨_, _, n_BadRows, n_BadNumber, exm_of eC_BadNumber ic_BadNumber tC_BadNumber q_BadRows_BadNumber⟩
    · exact ⟨_, _, n_BadRows, n_BadWeb, exm_of eC_BadWeb ic_BadWeb tC_BadWeb q_BadRows_BadWeb⟩
    · exact ⟨_, _, n_BadRows, n_BadTable, exm_of eC_BadTable ic_BadTable tC_BadTable q_BadRows_BadTable⟩
    · exact ⟨_, _, n_BadRows, n_BadRow, exm_of eC_BadRow ic_BadRow tC_BadRow q_BadRows_BadRow⟩
    · exact ⟨_, _, n_BadRows, n_BadRows, exm_of eC_BadRows ic_BadRows tC_BadRows q_BadRows_BadRows⟩
    · exact ⟨_, _, n_BadRows, n_NotKept, exm_of eC_NotKept ic_NotKept tC_NotKept q_BadRows_NotKept⟩
    · exact ⟨_, _, n_NotKept, n_LineError, exm_of eC_LineError ic_LineError tC_LineError q_NotKept_LineError⟩
    · exact ⟨_, _, n_NotKept, n_BadNumber, exm_of eC_BadNumber ic_BadNumber tC_BadNumber q_NotKept_BadNumber⟩
    · exact ⟨_, _, n_NotKept, n_BadWeb, exm_of eC_BadWeb ic_BadWeb tC_BadWeb q_NotKept_BadWeb⟩
    · exact ⟨_, _, n_NotKept, n_BadTable, exm_of eC_BadTable ic_BadTable tC_BadTable q_NotKept_BadTable⟩
    · exact ⟨_, _, n_NotKept, n_BadRow, exm_of eC_BadRow ic_BadRow tC_BadRow q_NotKept_BadRow⟩
    · exact ⟨_, _, n_NotKept, n_BadRows, exm_of eC_BadRows ic_BadRows tC_BadRows q_NotKept_BadRows⟩
    · exact ⟨_, _, n_NotKept, n_NotKept, exm_of eC_NotKept ic_NotKept tC_NotKept q_NotKept_NotKept⟩
  have GF_content : GFn K mg "content" := ⟨_, PySem.W.mg_of X G a19, a19⟩
  have GF_minus : GFn K mg "minus" := ⟨_, PySem.W.mg_of X G a15, a15⟩
  have GF_plain : GFn K mg "plain" := ⟨_, PySem.W.mg_of X G a21, a21⟩
  have GF_plus : GFn K mg "plus" := ⟨_, PySem.W.mg_of X G a13, a13⟩
  have GF_product_of : GFn K mg "product_of" := ⟨_, PySem.W.mg_of X G a10, a10⟩
  have GF_square_sum : GFn K mg "square_sum" := ⟨_, PySem.W.mg_of X G a11, a11⟩
  have GF_times_row : GFn K mg "times_row" := ⟨_, PySem.W.mg_of X G a17, a17⟩
  have F0 := fun_mk (st := s_u_law_pen) l0 c0 k0
  have b0 := F0.binds (ps := ["script"]) fun _ _ _ _ _ _ us hl => match us, hl with | [_], _ => rfl
  have D0 : Def P w K mg base 1 "_law_pen" ["script"] (spP K noCl 1 d_u_law_pen) := ⟨_, _, PySem.W.mg_of X G a0, k0, b0, fun base9 ex => fn_u_law_pen F0 y_int y_list⟩
  have F1 := fun_mk (st := s_u_law_gcd) l1 c1 k1
  have b1 := F1.binds (ps := ["values"]) fun _ _ _ _ _ _ us hl => match us, hl with | [_], _ => rfl
  have D1 : Def P w K mg base 1 "_law_gcd" ["values"] (spP K noCl 1 d_u_law_gcd) := ⟨_, _, PySem.W.mg_of X G a1, k1, b1, fun base9 ex => fn_u_law_gcd F1 y_abs y_range y_int⟩
  have F2 := fun_mk (st := s_u_law_draw) l2 c2 k2
  have b2 := F2.binds (ps := ["pen", "many"]) fun _ _ _ _ _ _ us hl => match us, hl with | [_, _], _ => rfl
  have D2 : Def P w K mg base 1 "_law_draw" ["pen", "many"] (spP K noCl 2 d_u_law_draw) := ⟨_, _, PySem.W.mg_of X G a2, k2, b2, fun base9 ex => fn_u_law_draw F2 y_len y_int⟩
  have F3 := fun_mk (st := s_u_law_pick) l3 c3 k3
  have b3 := F3.binds (ps := ["pen", "some"]) fun _ _ _ _ _ _ us hl => match us, hl with | [_, _], _ => rfl
  have D3 : Def P w K mg base 2 "_law_pick" ["pen", "some"] (spP K noCl 2 d_u_law_pick) := ⟨_, _, PySem.W.mg_of X G a3, k3, b3, fun base9 ex => fn_u_law_pick F3 y_len (D2.up ex)⟩
  have F4 := fun_mk (st := s_is_whole) l4 c4 k4
  have b4 := F4.binds (ps := ["value"]) fun _ _ _ _ _ _ us hl => match us, hl with | [_], _ => rfl
  have D4 : Def P w K mg base 1 "is_whole" ["value"] (spP K noCl 1 d_is_whole) := ⟨_, _, PySem.W.mg_of X G a4, k4, b4, fun base9 ex => fn_is_whole F4 y_isinstance y_int y_bool⟩
  have F5 := fun_mk (st := s_is_row_of) l5 c5 k5
  have b5 := F5.binds (ps := ["value", "many"]) fun _ _ _ _ _ _ us hl => match us, hl with | [_, _], _ => rfl
  have D5 : Def P w K mg base 2 "is_row_of" ["value", "many"] (spP K noCl 2 d_is_row_of) := ⟨_, _, PySem.W.mg_of X G a5, k5, b5, fun base9 ex => fn_is_row_of F5 y_isinstance y_tuple y_len y_all (D4.up ex)⟩
  have F6 := fun_mk (st := s_is_row) l6 c6 k6
  have b6 := F6.binds (ps := ["value"]) fun _ _ _ _ _ _ us hl => match us, hl with | [_], _ => rfl
  have D6 : Def P w K mg base 3 "is_row" ["value"] (spP K noCl 1 d_is_row) := ⟨_, _, PySem.W.mg_of X G a6, k6, b6, fun base9 ex => fn_is_row F6 y_isinstance y_tuple y_len (D5.up ex)⟩
  have F7 := fun_mk (st := s_need_row) l7 c7 k7
  have b7 := F7.binds (ps := ["row"]) fun _ _ _ _ _ _ us hl => match us, hl with | [_], _ => rfl
  have D7 : Def P w K mg base 4 "need_row" ["row"] (spP K noCl 1 d_need_row) := ⟨_, _, PySem.W.mg_of X G a7, k7, b7, fun base9 ex => fn_need_row F7 (E_BadRow base9) (D6.up ex)⟩
  have F8 := fun_mk (st := s_need_two_rows) l8 c8 k8
  have b8 := F8.binds (ps := ["one", "two"]) fun _ _ _ _ _ _ us hl => match us, hl with | [_, _], _ => rfl
  have D8 : Def P w K mg base 5 "need_two_rows" ["one", "two"] (spP K noCl 2 d_need_two_rows) := ⟨_, _, PySem.W.mg_of X G a8, k8, b8, fun base9 ex => fn_need_two_rows F8 y_len (E_NotKept base9) (D7.up ex)⟩
  have F9 := fun_mk (st := s_dot) l9 c9 k9
  have b9 := F9.binds (ps := ["one", "two"]) fun _ _ _ _ _ _ us hl => match us, hl with | [_, _], _ => rfl
  have D9 : Def P w K mg base 1 "dot" ["one", "two"] (spP K noCl 2 d_dot) := ⟨_, _, PySem.W.mg_of X G a9, k9, b9, fun base9 ex => fn_dot F9 y_zip y_sum⟩
  have F10 := fun_mk (st := s_product_of) l10 c10 k10
  have b10 := F10.binds (ps := ["one", "two"]) fun _ _ _ _ _ _ us hl => match us, hl with | [_, _], _ => rfl
  have D10 : Def P w K mg base 6 "product_of" ["one", "two"] (spP K noCl 2 d_product_of) := ⟨_, _, PySem.W.mg_of X G a10, k10, b10, fun base9 ex => fn_product_of F10 (D8.up ex) (D9.up ex)⟩
  have F11 := fun_mk (st := s_square_sum) l11 c11 k11
  have b11 := F11.binds (ps := ["row"]) fun _ _ _ _ _ _ us hl => match us, hl with | [_], _ => rfl
  have D11 : Def P w K mg base 5 "square_sum" ["row"] (spP K noCl 1 d_square_sum) := ⟨_, _, PySem.W.mg_of X G a11, k11, b11, fun base9 ex => fn_square_sum F11 (D7.up ex) (D9.up ex)⟩
  have F12 := fun_mk (st := s_plus_in) l12 c12 k12
  have b12 := F12.binds (ps := ["one", "two"]) fun _ _ _ _ _ _ us hl => match us, hl with | [_, _], _ => rfl
  have D12 : Def P w K mg base 1 "plus_in" ["one", "two"] (spP K noCl 2 d_plus_in) := ⟨_, _, PySem.W.mg_of X G a12, k12, b12, fun base9 ex => fn_plus_in F12 y_zip y_tuple⟩
  have F13 := fun_mk (st := s_plus) l13 c13 k13
  have b13 := F13.binds (ps := ["one", "two"]) fun _ _ _ _ _ _ us hl => match us, hl with | [_, _], _ => rfl
  have D13 : Def P w K mg base 6 "plus" ["one", "two"] (spP K noCl 2 d_plus) := ⟨_, _, PySem.W.mg_of X G a13, k13, b13, fun base9 ex => fn_plus F13 (D8.up ex) (D12.up ex)⟩
  have F14 := fun_mk (st := s_minus_in) l14 c14 k14
  have b14 := F14.binds (ps := ["one", "two"]) fun _ _ _ _ _ _ us hl => match us, hl with | [_, _], _ => rfl
  have D14 : Def P w K mg base 1 "minus_in" ["one", "two"] (spP K noCl 2 d_minus_in) := ⟨_, _, PySem.W.mg_of X G a14, k14, b14, fun base9 ex => fn_minus_in F14 y_zip y_tuple⟩
  have F15 := fun_mk (st := s_minus) l15 c15 k15
  have b15 := F15.binds (ps := ["one", "two"]) fun _ _ _ _ _ _ us hl => match us, hl with | [_, _], _ => rfl
  have D15 : Def P w K mg base 6 "minus" ["one", "two"] (spP K noCl 2 d_minus) := ⟨_, _, PySem.W.mg_of X G a15, k15, b15, fun base9 ex => fn_minus F15 (D8.up ex) (D14.up ex)⟩
  have F16 := fun_mk (st := s_times_row_in) l16 c16 k16
  have b16 := F16.binds (ps := ["row", "k"]) fun _ _ _ _ _ _ us hl => match us, hl with | [_, _], _ => rfl
  have D16 : Def P w K mg base 1 "times_row_in" ["row", "k"] (spP K noCl 2 d_times_row_in) := ⟨_, _, PySem.W.mg_of X G a16, k16, b16, fun base9 ex => fn_times_row_in F16 y_tuple⟩
  have F17 := fun_mk (st := s_times_row) l17 c17 k17
  have b17 := F17.binds (ps := ["row", "k"]) fun _ _ _ _ _ _ us hl => match us, hl with | [_, _], _ => rfl
  have D17 : Def P w K mg base 5 "times_row" ["row", "k"] (spP K noCl 2 d_times_row) := ⟨_, _, PySem.W.mg_of X G a17, k17, b17, fun base9 ex => fn_times_row F17 (E_BadNumber base9) (D7.up ex) (D4.up ex) (D16.up ex)⟩
  have F18 := fun_mk (st := s_content_in) l18 c18 k18
  have b18 := F18.binds (ps := ["row"]) fun _ _ _ _ _ _ us hl => match us, hl with | [_], _ => rfl
  have D18 : Def P w K mg base 1 "content_in" ["row"] (spP K noCl 1 d_content_in) := ⟨_, _, PySem.W.mg_of X G a18, k18, b18, fun base9 ex => fn_content_in F18 y_gcd⟩
  have F19 := fun_mk (st := s_content) l19 c19 k19
  have b19 := F19.binds (ps := ["row"]) fun _ _ _ _ _ _ us hl => match us, hl with | [_], _ => rfl
  have D19 : Def P w K mg base 5 "content" ["row"] (spP K noCl 1 d_content) := ⟨_, _, PySem.W.mg_of X G a19, k19, b19, fun base9 ex => fn_content F19 (D7.up ex) (D18.up ex)⟩
  have F20 := fun_mk (st := s_plain_in) l20 c20 k20
  have b20 := F20.binds (ps := ["row"]) fun _ _ _ _ _ _ us hl => match us, hl with | [_], _ => rfl
  have D20 : Def P w K mg base 2 "plain_in" ["row"] (spP K noCl 1 d_plain_in) := ⟨_, _, PySem.W.mg_of X G a20, k20, b20, fun base9 ex => fn_plain_in F20 y_tuple (D18.up ex)⟩
  have F21 := fun_mk (st := s_plain) l21 c21 k21
  have b21 := F21.binds (ps := ["row"]) fun _ _ _ _ _ _ us hl => match us, hl with | [_], _ => rfl
  have D21 : Def P w K mg base 5 "plain" ["row"] (spP K noCl 1 d_plain) := ⟨_, _, PySem.W.mg_of X G a21, k21, b21, fun base9 ex => fn_plain F21 (D7.up ex) (D20.up ex)⟩
  have F22 := fun_mk (st := s_u_law_right) l22 c22 k22
  have b22 := F22.binds (ps := ["pen"]) fun _ _ _ _ _ _ us hl => match us, hl with | [_], _ => rfl
  have D22 : Def P w K mg base 7 "_law_right" ["pen"] (spP K noCl 1 d_u_law_right) := ⟨_, _, PySem.W.mg_of X G a22, k22, b22, fun base9 ex => fn_u_law_right F22 y_range y_tuple y_sum y_repr y_abs (D3.up ex) (D2.up ex) (D17.up ex) (D15.up ex) (D13.up ex) (D11.up ex) (D10.up ex) (D6.up ex) (D1.up ex) (D21.up ex) (D19.up ex)⟩
  have F23 := fun_mk (st := s_are_rows) l23 c23 k23
  have b23 := F23.binds (ps := ["value"]) fun _ _ _ _ _ _ us hl => match us, hl with | [_], _ => rfl
  have D23 : Def P w K mg base 4 "are_rows" ["value"] (spP K noCl 1 d_are_rows) := ⟨_, _, PySem.W.mg_of X G a23, k23, b23, fun base9 ex => fn_are_rows F23 y_isinstance y_tuple y_all y_len (D6.up ex)⟩
  have F24 := fun_mk (st := s_need_rows) l24 c24 k24
  have b24 := F24.binds (ps := ["rows"]) fun _ _ _ _ _ _ us hl => match us, hl with | [_], _ => rfl
  have D24 : Def P w K mg base 5 "need_rows" ["rows"] (spP K noCl 1 d_need_rows) := ⟨_, _, PySem.W.mg_of X G a24, k24, b24, fun base9 ex => fn_need_rows F24 (E_BadRows base9) (D23.up ex)⟩
  have F25 := fun_mk (st := s_mixed_in) l25 c25 k25
  have b25 := F25.binds (ps := ["rows", "weights"]) fun _ _ _ _ _ _ us hl => match us, hl with | [_, _], _ => rfl
  have D25 : Def P w K mg base 2 "mixed_in" ["rows", "weights"] (spP K noCl 2 d_mixed_in) := ⟨_, _, PySem.W.mg_of X G a25, k25, b25, fun base9 ex => fn_mixed_in F25 y_len y_zip (D12.up ex) (D16.up ex)⟩
  have F26 := fun_mk (st := s_mixed) l26 c26 k26
  have b26 := F26.binds (ps := ["rows", "weights"]) fun _ _ _ _ _ _ us hl => match us, hl with | [_, _], _ => rfl
  have D26 : Def P w K mg base 6 "mixed" ["rows", "weights"] (spP K noCl 2 d_mixed) := ⟨_, _, PySem.W.mg_of X G a26, k26, b26, fun base9 ex => fn_mixed F26 y_len y_tuple (E_BadRow base9) (E_NotKept base9) (D24.up ex) (D5.up ex) (D25.up ex)⟩
  have F27 := fun_mk (st := s_products_in) l27 c27 k27
  have b27 := F27.binds (ps := ["rows"]) fun _ _ _ _ _ _ us hl => match us, hl with | [_], _ => rfl
  have D27 : Def P w K mg base 2 "products_in" ["rows"] (spP K noCl 1 d_products_in) := ⟨_, _, PySem.W.mg_of X G a27, k27, b27, fun base9 ex => fn_products_in F27 y_tuple (D9.up ex)⟩
  have F28 := fun_mk (st := s_products_table) l28 c28 k28
  have b28 := F28.binds (ps := ["rows"]) fun _ _ _ _ _ _ us hl => match us, hl with | [_], _ => rfl
  have D28 : Def P w K mg base 6 "products_table" ["rows"] (spP K noCl 1 d_products_table) := ⟨_, _, PySem.W.mg_of X G a28, k28, b28, fun base9 ex => fn_products_table F28 (D24.up ex) (D27.up ex)⟩
  have F29 := fun_mk (st := s_is_table) l29 c29 k29
  have b29 := F29.binds (ps := ["value"]) fun _ _ _ _ _ _ us hl => match us, hl with | [_], _ => rfl
  have D29 : Def P w K mg base 3 "is_table" ["value"] (spP K noCl 1 d_is_table) := ⟨_, _, PySem.W.mg_of X G a29, k29, b29, fun base9 ex => fn_is_table F29 y_isinstance y_tuple y_len y_all y_range (D5.up ex)⟩
  have F30 := fun_mk (st := s_need_table) l30 c30 k30
  have b30 := F30.binds (ps := ["table"]) fun _ _ _ _ _ _ us hl => match us, hl with | [_], _ => rfl
  have D30 : Def P w K mg base 4 "need_table" ["table"] (spP K noCl 1 d_need_table) := ⟨_, _, PySem.W.mg_of X G a30, k30, b30, fun base9 ex => fn_need_table F30 (E_BadTable base9) (D29.up ex)⟩
  have F31 := fun_mk (st := s_need_row_of) l31 c31 k31
  have b31 := F31.binds (ps := ["row", "many"]) fun _ _ _ _ _ _ us hl => match us, hl with | [_, _], _ => rfl
  have D31 : Def P w K mg base 3 "need_row_of" ["row", "many"] (spP K noCl 2 d_need_row_of) := ⟨_, _, PySem.W.mg_of X G a31, k31, b31, fun base9 ex => fn_need_row_of F31 (E_BadRow base9) (D5.up ex)⟩
  have F32 := fun_mk (st := s_row_product_in) l32 c32 k32
  have b32 := F32.binds (ps := ["table", "row"]) fun _ _ _ _ _ _ us hl => match us, hl with | [_, _], _ => rfl
  have D32 : Def P w K mg base 2 "row_product_in" ["table", "row"] (spP K noCl 2 d_row_product_in) := ⟨_, _, PySem.W.mg_of X G a32, k32, b32, fun base9 ex => fn_row_product_in F32 y_tuple (D9.up ex)⟩
  have F33 := fun_mk (st := s_value_in) l33 c33 k33
  have b33 := F33.binds (ps := ["table", "row"]) fun _ _ _ _ _ _ us hl => match us, hl with | [_, _], _ => rfl
  have D33 : Def P w K mg base 3 "value_in" ["table", "row"] (spP K noCl 2 d_value_in) := ⟨_, _, PySem.W.mg_of X G a33, k33, b33, fun base9 ex => fn_value_in F33 (D9.up ex) (D32.up ex)⟩
  have F34 := fun_mk (st := s_value_at) l34 c34 k34
  have b34 := F34.binds (ps := ["table", "row"]) fun _ _ _ _ _ _ us hl => match us, hl with | [_, _], _ => rfl
  have D34 : Def P w K mg base 5 "value_at" ["table", "row"] (spP K noCl 2 d_value_at) := ⟨_, _, PySem.W.mg_of X G a34, k34, b34, fun base9 ex => fn_value_at F34 y_len (D30.up ex) (D31.up ex) (D33.up ex)⟩
  have F35 := fun_mk (st := s_u_law_mixed_right) l35 c35 k35
  have b35 := F35.binds (ps := ["pen"]) fun _ _ _ _ _ _ us hl => match us, hl with | [_], _ => rfl
  have D35 : Def P w K mg base 7 "_law_mixed_right" ["pen"] (spP K noCl 1 d_u_law_mixed_right) := ⟨_, _, PySem.W.mg_of X G a35, k35, b35, fun base9 ex => fn_u_law_mixed_right F35 y_range y_tuple y_sum y_repr (D2.up ex) (D23.up ex) (D28.up ex) (D26.up ex) (D3.up ex) (D34.up ex) (D11.up ex)⟩
  have F36 := fun_mk (st := s_u_law_refused) l36 c36 k36
  have b36 := F36.binds (ps := ["call"]) fun _ _ _ _ _ _ us hl => match us, hl with | [_], _ => rfl
  have D36 : HoE P w K mg base 7 8 "_law_refused" ["call"] 0 d_u_law_refused := ⟨_, _, PySem.W.mg_of X G a36, k36, b36, fun base9 ex => fn_u_law_refused F36 y_repr H_NotKept H_BadRows H_BadRow H_BadTable H_BadWeb H_BadNumber X_errs⟩
  have F37 := fun_mk (st := s_u_law_errors_right) l37 c37 k37
  have b37 := F37.binds (ps := ["pen"]) fun _ _ _ _ _ _ us hl => match us, hl with | [_], _ => rfl
  have D37 : Def P w K mg base 9 "_law_errors_right" ["pen"] (spP K noCl 1 d_u_law_errors_right) := ⟨_, _, PySem.W.mg_of X G a37, k37, b37, fun base9 ex => fn_u_law_errors_right F37 y_range y_tuple y_list y_repr (D2.up ex) (D3.up ex) (D6.up ex) (D36.up ex) (D21.up ex) (D19.up ex) (D11.up ex) (D17.up ex) (D15.up ex) (D13.up ex) (D10.up ex) (D23.up ex) (D26.up ex) (D28.up ex) GF_plain GF_content GF_square_sum GF_times_row GF_minus GF_plus GF_product_of u (ex.tbs tb) a37⟩
  have F38 := fun_mk (st := s_law) l38 c38 k38
  have b38 := F38.binds (ps := ["script"]) fun _ _ _ _ _ _ us hl => match us, hl with | [_], _ => rfl
  have ex := Ext.refl base
  obtain ⟨base9, eb⟩ : ∃ b, b = base := ⟨_, rfl⟩
  subst eb
  exact fn_law F38 y_range (D0.up ex) (D22.up ex) (D35.up ex) (D37.up ex)
end K06
theorem K06.law_true (ns : List Int) (hl : ns.length ≤ 63) : Y.LawTrue K06.d_law ns := by
  have e : K06.d_law = L06.d_law := rfl
  rw [e]
  exact L06.law_true ns hl
open PySem PySem.W PyProof.Rows in
set_option maxHeartbeats 0 in
theorem PySem.Challenge.cw_sixtylines_k06_whole_rows_and_products_holds : PySem.Challenge.rw_sixtylines_k06_whole_rows_and_products.Holds := by
  w_on; o_law; k_head; (case hw => w_witness2)
  k_fill
  refine Y.walkG (l := PySem.Challenge.rw_sixtylines_k06_whole_rows_and_products) (n := 63) (k := 10) (x := "script") (d := K06.d_law) rfl (by decide) rfl ⟨rfl, by decide, by decide⟩ (fun w h Y => by first | exact PySem.W.km_in_of Y | exact PySem.W.kIn_of Y) K06.law_true (by kernel_rfl) ?F
  case F =>
    intro w mg fa h KX G hmg
    refine' K06.all_mk KX G ?n_LineError ?n_BadNumber ?n_BadWeb ?n_BadTable ?n_BadRow ?n_BadRows ?n_NotKept ?eC_LineError ?tC_LineError ?ic_LineError ?eC_BadNumber ?tC_BadNumber ?ic_BadNumber ?x_BadNumber ?sa_BadNumber ?kC_BadNumber ?i_BadNumber ?ti_BadNumber ?l39 ?c39 ?k39 ?no_BadNumber_what ?no_BadNumber_number ?ga_BadNumber ?gg_BadNumber ?hd_BadNumber ?eC_BadWeb ?tC_BadWeb ?ic_BadWeb ?no_BadWeb_web ?ga_BadWeb ?gg_BadWeb ?hd_BadWeb ?eC_BadTable ?tC_BadTable ?ic_BadTable ?x_BadTable ?sa_BadTable ?kC_BadTable ?i_BadTable ?ti_BadTable ?l40 ?c40 ?k40 ?no_BadTable_table ?ga_BadTable ?gg_BadTable ?hd_BadTable ?eC_BadRow ?tC_BadRow ?ic_BadRow ?x_BadRow ?sa_BadRow ?kC_BadRow ?i_BadRow ?ti_BadRow ?l41 ?c41 ?k41 ?no_BadRow_row ?ga_BadRow ?gg_BadRow ?hd_BadRow ?eC_BadRows ?tC_BadRows ?ic_BadRows ?x_BadRows ?sa_BadRows ?kC_BadRows ?i_BadRows ?ti_BadRows ?l42 ?c42 ?k42 ?no_BadRows_rows ?ga_BadRows ?gg_BadRows ?hd_BadRows ?eC_NotKept ?tC_NotKept ?ic_NotKept ?x_NotKept ?sa_NotKept ?kC_NotKept ?i_NotKept ?ti_NotKept ?l43 ?c43 ?k43 ?no_NotKept_promise ?no_NotKept_witness ?ga_NotKept ?gg_NotKept ?hd_NotKept ?q_LineError_LineError ?q_LineError_BadNumber ?q_LineError_BadWeb ?q_LineError_BadTable ?q_LineError_BadRow ?q_LineError_BadRows ?q_LineError_NotKept ?q_BadNumber_LineError ?q_BadNumber_BadNumber ?q_BadNumber_BadWeb ?q_BadNumber_BadTable ?q_BadNumber_BadRow ?q_BadNumber_BadRows ?q_BadNumber_NotKept ?q_BadWeb_LineError ?q_BadWeb_BadNumber ?q_BadWeb_BadWeb ?q_BadWeb_BadTable ?q_BadWeb_BadRow ?q_BadWeb_BadRows ?q_BadWeb_NotKept ?q_BadTable_LineError ?q_BadTable_BadNumber ?q_BadTable_BadWeb ?q_BadTable_BadTable ?q_BadTable_BadRow ?q_BadTable_BadRows ?q_BadTable_NotKept ?q_BadRow_LineError ?q_BadRow_BadNumber ?q_BadRow_BadWeb ?q_BadRow_BadTable ?q_BadRow_BadRow ?q_BadRow_BadRows ?q_BadRow_NotKept ?q_BadRows_LineError ?q_BadRows_BadNumber ?q_BadRows_BadWeb ?q_BadRows_BadTable ?q_BadRows_BadRow ?q_BadRows_BadRows ?q_BadRows_NotKept ?q_NotKept_LineError ?q_NotKept_BadNumber ?q_NotKept_BadWeb ?q_NotKept_BadTable ?q_NotKept_BadRow ?q_NotKept_BadRows ?q_NotKept_NotKept ?a0 ?l0 ?c0 ?k0 ?a1 ?l1 ?c1 ?k1 ?a2 ?l2 ?c2 ?k2 ?a3 ?l3 ?c3 ?k3 ?a4 ?l4 ?c4 ?k4 ?a5 ?l5 ?c5 ?k5 ?a6 ?l6 ?c6 ?k6 ?a7 ?l7 ?c7 ?k7 ?a8 ?l8 ?c8 ?k8 ?a9 ?l9 ?c9 ?k9 ?a10 ?l10 ?c10 ?k10 ?a11 ?l11 ?c11 ?k11 ?a12 ?l12 ?c12 ?k12 ?a13 ?l13 ?c13 ?k13 ?a14 ?l14 ?c14 ?k14 ?a15 ?l15 ?c15 ?k15 ?a16 ?l16 ?c16 ?k16 ?a17 ?l17 ?c17 ?k17 ?a18 ?l18 ?c18 ?k18 ?a19 ?l19 ?c19 ?k19 ?a20 ?l20 ?c20 ?k20 ?a21 ?l21 ?c21 ?k21 ?a22 ?l22 ?c22 ?k22 ?a23 ?l23 ?c23 ?k23 ?a24 ?l24 ?c24 ?k24 ?a25 ?l25 ?c25 ?k25 ?a26 ?l26 ?c26 ?k26 ?a27 ?l27 ?c27 ?k27 ?a28 ?l28 ?c28 ?k28 ?a29 ?l29 ?c29 ?k29 ?a30 ?l30 ?c30 ?k30 ?a31 ?l31 ?c31 ?k31 ?a32 ?l32 ?c32 ?k32 ?a33 ?l33 ?c33 ?k33 ?a34 ?l34 ?c34 ?k34 ?a35 ?l35 ?c35 ?k35 ?a36 ?l36 ?c36 ?k36 ?a37 ?l37 ?c37 ?k37 ?a38 ?l38 ?c38 ?k38 ?z_int ?z_list ?z_abs ?z_range ?z_len ?z_isinstance ?z_bool ?z_tuple ?z_all ?z_zip ?z_sum ?z_gcd ?z_repr hmg ?u
    (case n_LineError => k_is)
    (case n_BadNumber => k_is)
    (case n_BadWeb => k_is)
    (case n_BadTable => k_is)
    (case n_BadRow => k_is)
    (case n_BadRows => k_is)
    (case n_NotKept => k_is)
    (case eC_LineError => k_is)
    (case tC_LineError => k_is)
    (case ic_LineError => k_is)
    (case eC_BadNumber => k_is)
    (case tC_BadNumber => k_is)
    (case ic_BadNumber => k_is)
    (case x_BadNumber => k_is)
    (case sa_BadNumber => k_is)
    (case kC_BadNumber => k_is)
    (case i_BadNumber => k_is)
    (case ti_BadNumber => k_is)
    (case l39 => k_is)
    (case c39 => k_is)
    (case k39 => k_is)
    (case no_BadNumber_what => k_is)
    (case no_BadNumber_number => k_is)
    (case ga_BadNumber => k_is)
    (case gg_BadNumber => k_is)
    (case hd_BadNumber => k_is)
    (case eC_BadWeb => k_is)
    (case tC_BadWeb => k_is)
    (case ic_BadWeb => k_is)
    (case no_BadWeb_web => k_is)
    (case ga_BadWeb => k_is)
    (case gg_BadWeb => k_is)
    (case hd_BadWeb => k_is)
    (case eC_BadTable => k_is)
    (case tC_BadTable => k_is)
    (case ic_BadTable => k_is)
    (case x_BadTable => k_is)
    (case sa_BadTable => k_is)
    (case kC_BadTable => k_is)
    (case i_BadTable => k_is)
    (case ti_BadTable => k_is)
    (case l40 => k_is)
    (case c40 => k_is)
    (case k40 => k_is)
    (case no_BadTable_table => k_is)
    (case ga_BadTable => k_is)
    (case gg_BadTable => k_is)
    (case hd_BadTable => k_is)
    (case eC_BadRow => k_is)
    (case tC_BadRow => k_is)
    (case ic_BadRow => k_is)
    (case x_BadRow => k_is)
    (case sa_BadRow => k_is)
    (case kC_BadRow => k_is)
    (case i_BadRow => k_is)
    (case ti_BadRow => k_is)
    (case l41 => k_is)
    (case c41 => k_is)
    (case k41 => k_is)
    (case no_BadRow_row => k_is)
    (case ga_BadRow => k_is)
    (case gg_BadRow => k_is)
    (case hd_BadRow => k_is)
    (case eC_BadRows => k_is)
    (case tC_BadRows => k_is)
    (case ic_BadRows => k_is)
    (case x_BadRows => k_is)
    (case sa_BadRows => k_is)
    (case kC_BadRows => k_is)
    (case i_BadRows => k_is)
    (case ti_BadRows => k_is)
    (case l42 => k_is)
    (case c42 => k_is)
    (case k42 => k_is)
    (case no_BadRows_rows => k_is)
    (case ga_BadRows => k_is)
    (case gg_BadRows => k_is)
    (case hd_BadRows => k_is)
    (case eC_NotKept => k_is)
    (case tC_NotKept => k_is)
    (case ic_NotKept => k_is)
    (case x_NotKept => k_is)
    (case sa_NotKept => k_is)
    (case kC_NotKept => k_is)
    (case i_NotKept => k_is)
    (case ti_NotKept => k_is)
    (case l43 => k_is)
    (case c43 => k_is)
    (case k43 => k_is)
    (case no_NotKept_promise => k_is)
    (case no_NotKept_witness => k_is)
    (case ga_NotKept => k_is)
    (case gg_NotKept => k_is)
    (case hd_NotKept => k_is)
    (case q_LineError_LineError => k_is)
    (case q_LineError_BadNumber => k_is)
    (case q_LineError_BadWeb => k_is)
    (case q_LineError_BadTable => k_is)
    (case q_LineError_BadRow => k_is)
    (case q_LineError_BadRows => k_is)
    (case q_LineError_NotKept => k_is)
    (case q_BadNumber_LineError => k_is)
    (case q_BadNumber_BadNumber => k_is)
    (case q_BadNumber_BadWeb => k_is)
    (case q_BadNumber_BadTable => k_is)
    (case q_BadNumber_BadRow => k_is)
    (case q_BadNumber_BadRows => k_is)
    (case q_BadNumber_NotKept => k_is)
    (case q_BadWeb_LineError => k_is)
    (case q_BadWeb_BadNumber => k_is)
    (case q_BadWeb_BadWeb => k_is)
    (case q_BadWeb_BadTable => k_is)
    (case q_BadWeb_BadRow => k_is)
    (case q_BadWeb_BadRows => k_is)
    (case q_BadWeb_NotKept => k_is)
    (case q_BadTable_LineError => k_is)
    (case q_BadTable_BadNumber => k_is)
    (case q_BadTable_BadWeb => k_is)
    (case q_BadTable_BadTable => k_is)
    (case q_BadTable_BadRow => k_is)
    (case q_BadTable_BadRows => k_is)
    (case q_BadTable_NotKept => k_is)
    (case q_BadRow_LineError => k_is)
    (case q_BadRow_BadNumber => k_is)
    (case q_BadRow_BadWeb => k_is)
    (case q_BadRow_BadTable => k_is)
    (case q_BadRow_BadRow => k_is)
    (case q_BadRow_BadRows => k_is)
    (case q_BadRow_NotKept => k_is)
    (case q_BadRows_LineError => k_is)
    (case q_BadRows_BadNumber => k_is)
    (case q_BadRows_BadWeb => k_is)
    (case q_BadRows_BadTable => k_is)
    (case q_BadRows_BadRow => k_is)
    (case q_BadRows_BadRows => k_is)
    (case q_BadRows_NotKept => k_is)
    (case q_NotKept_LineError => k_is)
    (case q_NotKept_BadNumber => k_is)
    (case q_NotKept_BadWeb => k_is)
    (case q_NotKept_BadTable => k_is)
    (case q_NotKept_BadRow => k_is)
    (case q_NotKept_BadRows => k_is)
    (case q_NotKept_NotKept => k_is)
    (case a0 => k_is)
    (case l0 => k_is)
    (case c0 => k_is)
    (case k0 => k_is)
    (case a1 => k_is)
    (case l1 => k_is)
    (case c1 => k_is)
    (case k1 => k_is)
    (case a2 => k_is)
    (case l2 => k_is)
    (case c2 => k_is)
    (case k2 => k_is)
    (case a3 => k_is)
    (case l3 => k_is)
    (case c3 => k_is)
    (case k3 => k_is)
    (case a4 => k_is)
    (case l4 => k_is)
    (case c4 => k_is)
    (case k4 => k_is)
    (case a5 => k_is)
    (case l5 => k_is)
    (case c5 => k_is)
    (case k5 => k_is)
    (case a6 => k_is)
    (case l6 => k_is)
    (case c6 => k_is)
    (case k6 => k_is)
    (case a7 => k_is)
    (case l7 => k_is)
    (case c7 => k_is)
    (case k7 => k_is)
    (case a8 => k_is)
    (case l8 => k_is)
    (case c8 => k_is)
    (case k8 => k_is)
    (case a9 => k_is)
    (case l9 => k_is)
    (case c9 => k_is)
    (case k9 => k_is)
    (case a10 => k_is)
    (case l10 => k_is)
    (case c10 => k_is)
    (case k10 => k_is)
    (case a11 => k_is)
    (case l11 => k_is)
    (case c11 => k_is)
    (case k11 => k_is)
    (case a12 => k_is)
    (case l12 => k_is)
    (case c12 => k_is)
    (case k12 => k_is)
    (case a13 => k_is)
    (case l13 => k_is)
    (case c13 => k_is)
    (case k13 => k_is)
    (case a14 => k_is)
    (case l14 => k_is)
    (case c14 => k_is)
    (case k14 => k_is)
    (case a15 => k_is)
    (case l15 => k_is)
    (case c15 => k_is)
    (case k15 => k_is)
    (case a16 => k_is)
    (case l16 => k_is)
    (case c16 => k_is)
    (case k16 => k_is)
    (case a17 => k_is)
    (case l17 => k_is)
    (case c17 => k_is)
    (case k17 => k_is)
    (case a18 => k_is)
    (case l18 => k_is)
    (case c18 => k_is)
    (case k18 => k_is)
    (case a19 => k_is)
    (case l19 => k_is)
    (case c19 => k_is)
    (case k19 => k_is)
    (case a20 => k_is)
    (case l20 => k_is)
    (case c20 => k_is)
    (case k20 => k_is)
    (case a21 => k_is)
    (case l21 => k_is)
    (case c21 => k_is)
    (case k21 => k_is)
    (case a22 => k_is)
    (case l22 => k_is)
    (case c22 => k_is)
    (case k22 => k_is)
    (case a23 => k_is)
    (case l23 => k_is)
    (case c23 => k_is)
    (case k23 => k_is)
    (case a24 => k_is)
    (case l24 => k_is)
    (case c24 => k_is)
    (case k24 => k_is)
    (case a25 => k_is)
    (case l25 => k_is)
    (case c25 => k_is)
    (case k25 => k_is)
    (case a26 => k_is)
    (case l26 => k_is)
    (case c26 => k_is)
    (case k26 => k_is)
    (case a27 => k_is)
    (case l27 => k_is)
    (case c27 => k_is)
    (case k27 => k_is)
    (case a28 => k_is)
    (case l28 => k_is)
    (case c28 => k_is)
    (case k28 => k_is)
    (case a29 => k_is)
    (case l29 => k_is)
    (case c29 => k_is)
    (case k29 => k_is)
    (case a30 => k_is)
    (case l30 => k_is)
    (case c30 => k_is)
    (case k30 => k_is)
    (case a31 => k_is)
    (case l31 => k_is)
    (case c31 => k_is)
    (case k31 => k_is)
    (case a32 => k_is)
    (case l32 => k_is)
    (case c32 => k_is)
    (case k32 => k_is)
    (case a33 => k_is)
    (case l33 => k_is)
    (case c33 => k_is)
    (case k33 => k_is)
    (case a34 => k_is)
    (case l34 => k_is)
    (case c34 => k_is)
    (case k34 => k_is)
    (case a35 => k_is)
    (case l35 => k_is)
    (case c35 => k_is)
    (case k35 => k_is)
    (case a36 => k_is)
    (case l36 => k_is)
    (case c36 => k_is)
    (case k36 => k_is)
    (case a37 => k_is)
    (case l37 => k_is)
    (case c37 => k_is)
    (case k37 => k_is)
    (case a38 => k_is)
    (case l38 => k_is)
    (case c38 => k_is)
    (case k38 => k_is)
    (case z_int => k_is)
    (case z_list => k_is)
    (case z_abs => k_is)
    (case z_range => k_is)
    (case z_len => k_is)
    (case z_isinstance => k_is)
    (case z_bool => k_is)
    (case z_tuple => k_is)
    (case z_all => k_is)
    (case z_zip => k_is)
    (case z_sum => k_is)
    (case z_gcd => k_is)
    (case z_repr => k_is)
    (case u => kernel_rfl)
end
