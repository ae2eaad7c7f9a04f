import PyProof.Rows.All
import Wide.All
import OpenK.AllK
import Wide.FinOn
import HandS.ForMost
import HandS.ForExc
import HandS.TupAny
import HandS.TupMul
import HandS.TupLe
import HandS.Style
import HandS.Flow
import HandS.IsInst
import HandS.Conv
import HandS.Zip
import HandS.ExcInit
import HandS.ExcSuper
import PyProof.Rows.ReprR
import PyProof.Rows.NestShow
import KE.SortData
import KE.KDictKeyed
import KE.KDictCopyH
import HandS.Defaults
import HandS.HeadHook2
import HandS.Head2
import HandS.HeadEnd
import HandS.Deep
import HandS.DictComp
import HandS.ExcField
import HandS.ExcOwn
import HandS.ExcCtx
import HandS.TryOnly
import HandS.NestedK
import HandS.ClsMeth
import KE.KExcSuper
import KE.KSuper
import HandS.Words
import HandS.WordsExc
import HandS.Head0
import HandS.Head1
import PySem.Challenge.RW_shareforsure_k82_households_by_hand
set_option Elab.async false
set_option linter.all false
set_option maxRecDepth 100000
set_option maxHeartbeats 0
/-! P0: pure data, a logical heap, results, and what each construct does. -/
namespace PD
open PySem

inductive D where
  | non
  | bl (b : Bool)
  | int (i : Int)
  | str (x : Str)
  | tup (l : List D)
  | ref (n : Nat)
  | rol (l : List D)
  | fn (i : Nat)
  deriving Inhabited

inductive Cell where
  | lst (xs : List D)
  | dct (kvs : List (D × D))
  | ins (c : Nat) (fs : List (Str × D))
  | set (xs : List D)

/-! ### the logical heap -/
inductive Tr where
  | nil
  | node (l : Tr) (v : Option Cell) (r : Tr)
def Tr.get : Tr → Nat → Option Cell
  | .nil, _ => none
  | .node l v r, n => if n = 0 then v else if n % 2 = 1 then l.get (n / 2) else r.get (n / 2 - 1)
def Tr.put : Nat → Tr → Nat → Cell → Tr
  | 0, t, _, _ => t
  | f + 1, .nil, n, c => if n = 0 then .node .nil (some c) .nil else if n % 2 = 1 then .node (Tr.put f .nil (n / 2) c) none .nil else .node .nil none (Tr.put f .nil (n / 2 - 1) c)
  | f + 1, .node l v r, n, c => if n = 0 then .node l (some c) r else if n % 2 = 1 then .node (Tr.put f l (n / 2) c) v r else .node l v (Tr.put f r (n / 2 - 1) c)
theorem Tr.get_node (l : Tr) (v : Option Cell) (r : Tr) (n : Nat) : (Tr.node l v r).get n = if n = 0 then v else if n % 2 = 1 then l.get (n / 2) else r.get (n / 2 - 1) := rfl
theorem Tr.get_nil (n : Nat) : Tr.nil.get n = none := rfl
theorem Tr.get_put : ∀ (f : Nat) (t : Tr) (n m : Nat) (c : Cell), n < f → (Tr.put f t n c).get m = if m = n then some c else t.get m
  | 0, _, _, _, _, h => absurd h (Nat.not_lt_zero _)
  | f + 1, t, n, m, c, h => by
    have i1 := fun t (a : ¬ n = 0) => Tr.get_put f t (n / 2) (m / 2) c (by omega)
    have i2 := fun t (a : ¬ n = 0) => Tr.get_put f t (n / 2 - 1) (m / 2 - 1) c (by omega)
    cases t with
    | nil =>
      unfold Tr.put
      by_cases h0 : n = 0
      · rw [if_pos h0, Tr.get_node, Tr.get_nil, Tr.get_nil, Tr.get_nil]
        by_cases hm : m = 0
        · rw [if_pos hm, if_pos (by omega)]
        · rw [if_neg hm, if_neg (show ¬ m = n by omega)]
          split <;> rfl
      · rw [if_neg h0]
        by_cases h1 : n % 2 = 1
        · rw [if_pos h1, Tr.get_node, i1 _ h0, Tr.get_nil, Tr.get_nil, Tr.get_nil]
          by_cases hm : m = 0
          · rw [if_pos hm, if_neg (by omega)]
          · rw [if_neg hm]
            by_cases e : m = n
            · rw [if_pos (by omega), if_pos (by omega), if_pos e]
            · rw [if_neg e]
              by_cases hp : m % 2 = 1
              · rw [if_pos hp, if_neg (by omega)]
              · rw [if_neg hp]
        · rw [if_neg h1, Tr.get_node, i2 _ h0, Tr.get_nil, Tr.get_nil, Tr.get_nil]
          by_cases hm : m = 0
          · rw [if_pos hm, if_neg (by omega)]
          · rw [if_neg hm]
            by_cases e : m = n
            · rw [if_neg (by omega), if_pos (by omega), if_pos e]
            · rw [if_neg e]
              by_cases hp : m % 2 = 1
              · rw [if_pos hp]
              · rw [if_neg hp, if_neg (by omega)]
    | node l v r =>
      unfold Tr.put
      by_cases h0 : n = 0
      · rw [if_pos h0, Tr.get_node, Tr.get_node]
        by_cases hm : m = 0
        · rw [if_pos hm, if_pos (by omega)]
        · rw [if_neg hm, if_neg (show ¬ m = n by omega), if_neg hm]
      · rw [if_neg h0]
        by_cases h1 : n % 2 = 1
        · rw [if_pos h1, Tr.get_node, i1 _ h0, Tr.get_node]
          by_cases hm : m = 0
          · rw [if_pos hm, if_neg (by omega), if_pos hm]
          · rw [if_neg hm, if_neg hm]
            by_cases e : m = n
            · rw [if_pos (by omega), if_pos (by omega), if_pos e]
            · rw [if_neg e]
              by_cases hp : m % 2 = 1
              · rw [if_pos hp, if_pos hp, if_neg (by omega)]
              · rw [if_neg hp, if_neg hp]
        · rw [if_neg h1, Tr.get_node, i2 _ h0, Tr.get_node]
          by_cases hm : m = 0
          · rw [if_pos hm, if_neg (by omega), if_pos hm]
          · rw [if_neg hm, if_neg hm]
            by_cases e : m = n
            · rw [if_neg (by omega), if_pos (by omega), if_pos e]
            · rw [if_neg e]
              by_cases hp : m % 2 = 1
              · rw [if_pos hp, if_pos hp]
              · rw [if_neg hp, if_neg hp, if_neg (by omega)]

structure LH where
  t : Tr
  len : Nat
def LH.nil : LH := ⟨.nil, 0⟩
def LH.get (L : LH) (n : Nat) : Option Cell := if n < L.len then L.t.get n else none
def LH.push (L : LH) (c : Cell) : LH := ⟨Tr.put (L.len + 1) L.t L.len c, L.len + 1⟩
def LH.put (L : LH) (n : Nat) (c : Cell) : LH := ⟨Tr.put (n + 1) L.t n c, L.len⟩
theorem LH.push_len (L : LH) (c : Cell) : (L.push c).len = L.len + 1 := rfl
theorem LH.put_len (L : LH) (n : Nat) (c : Cell) : (L.put n c).len = L.len := rfl
theorem LH.get_push (L : LH) (c : Cell) (m : Nat) : (L.push c).get m = if m = L.len then some c else L.get m := by
  unfold LH.get LH.push
  dsimp only
  rw [Tr.get_put _ _ _ _ _ (Nat.lt_succ_self _)]
  by_cases e : m = L.len
  · rw [if_pos e, if_pos e, if_pos (by omega)]
  · rw [if_neg e, if_neg e]
    by_cases h : m < L.len
    · rw [if_pos h, if_pos (by omega)]
    · rw [if_neg h, if_neg (by omega)]
theorem LH.get_put {L : LH} {n : Nat} (c : Cell) (m : Nat) (h : n < L.len) : (L.put n c).get m = if m = n then some c else L.get m := by
  unfold LH.get LH.put
  dsimp only
  rw [Tr.get_put _ _ _ _ _ (Nat.lt_succ_self _)]
  by_cases e : m = n
  · rw [if_pos e, if_pos e, if_pos (by omega)]
  · rw [if_neg e, if_neg e]
theorem LH.get_lt {L : LH} {n : Nat} {c : Cell} (h : L.get n = some c) : n < L.len := by
  unfold LH.get at h
  by_cases e : n < L.len
  · exact e
  · rw [if_neg e] at h; cases h
theorem LH.get_ge {L : LH} {n : Nat} (h : L.len ≤ n) : L.get n = none := by
  unfold LH.get
  rw [if_neg (by omega)]

/-! ### results -/
inductive Res (α : Type) where
  | ok (a : α) (L : LH)
  | exc (c : Nat) (fs : List (Str × D)) (L : LH)
  | bad
def Res.bind {α β : Type} (r : Res α) (k : α → LH → Res β) : Res β :=
  match r with
  | .ok a L => k a L
  | .exc c fs L => .exc c fs L
  | .bad => .bad
@[simp] theorem Res.bind_ok {α β : Type} (a : α) (L : LH) (k : α → LH → Res β) : (Res.ok a L).bind k = k a L := rfl
@[simp] theorem Res.bind_exc {α β : Type} (c : Nat) (fs : List (Str × D)) (L : LH) (k : α → LH → Res β) : (Res.exc c fs L).bind k = .exc c fs L := rfl
@[simp] theorem Res.bind_bad {α β : Type} (k : α → LH → Res β) : (Res.bad).bind k = .bad := rfl

abbrev Slt := List (Option D)
abbrev Rec := Nat → List D → LH → Res D
abbrev FE := Rec → Slt → LH → Res D
abbrev FA := Rec → Slt → LH → Res (List D)
abbrev FT := Rec → Slt → LH → Res Bool
inductive Fl where
  | nx
  | rt (d : D)
  | bk
  | ct
  | ex (c : Nat) (fs : List (Str × D))
abbrev FS := Rec → Slt → LH → Res (Fl × Slt)
abbrev FG := Rec → D → Slt → LH → Res Slt

/-! ### data of any depth -/
def mapO {α β : Type} (f : α → Option β) : List α → Option (List β)
  | [] => some []
  | x :: r => match f x with
    | some y => match mapO f r with
      | some s => some (y :: s)
      | none => none
    | none => none
/-- as the library's data: lists and tuples at any depth, no dicts -/
def toP : Nat → LH → D → Option PyData
  | 0, _, _ => none
  | n + 1, L, d => match d with
    | .non => some .none
    | .bl b => some (.bool b)
    | .int i => some (.int i)
    | .str x => if PyData.strOk x then some (.str x) else none
    | .tup l => (mapO (toP n L) l).map .tuple
    | .ref k => match L.get k with
      | some (.lst xs) => (mapO (toP n L) xs).map .list
      | _ => none
    | .rol _ => none
    | .fn _ => none
def eqD (L : LH) (a b : D) : Option Bool := match toP 60 L a with
  | some p => match toP 60 L b with
    | some q => some (PyData.eqv p q)
    | none => none
  | none => none
def truthD (L : LH) : D → Option Bool
  | .non => some false
  | .bl b => some b
  | .int i => some (i != 0)
  | .str x => if x.length ≤ sizeLine then some (x.length != 0) else none
  | .tup l => some (!l.isEmpty)
  | .ref n => match L.get n with
    | some (.lst xs) => some (!xs.isEmpty)
    | some (.dct kvs) => some (!kvs.isEmpty)
    | _ => none
  | .rol _ => none
  | .fn _ => none

/-! ### expressions -/
def eC (d : D) : FE := fun _ _ L => .ok d L
def eVar (i : Nat) : FE := fun _ ρ L => match ρ[i]? with
  | some (some d) => .ok d L
  | _ => .bad
def e1 (op : D → LH → Res D) (a : FE) : FE := fun R ρ L => (a R ρ L).bind fun x L1 => op x L1
def e2 (op : D → D → LH → Res D) (a b : FE) : FE := fun R ρ L => (a R ρ L).bind fun x L1 => (b R ρ L1).bind fun y L2 => op x y L2
def aNil : FA := fun _ _ L => .ok [] L
def aCons (a : FE) (r : FA) : FA := fun R ρ L => (a R ρ L).bind fun x L1 => (r R ρ L1).bind fun xs L2 => .ok (x :: xs) L2
def aApp (a : FA) (op : List D → LH → Res D) : FE := fun R ρ L => (a R ρ L).bind fun xs L1 => op xs L1
def oTup (xs : List D) (L : LH) : Res D := if xs.length ≤ sizeLine then .ok (.tup xs) L else .bad
def oLst (xs : List D) (L : LH) : Res D := if xs.length ≤ sizeLine then .ok (.ref L.len) (L.push (.lst xs)) else .bad
def eIf (t : FT) (a b : FE) : FE := fun R ρ L => (t R ρ L).bind fun c L1 => if c then a R ρ L1 else b R ρ L1
def eAnd (a b : FE) : FE := fun R ρ L => (a R ρ L).bind fun x L1 => match truthD L1 x with
  | some true => b R ρ L1
  | some false => .ok x L1
  | none => .bad
def eOr (a b : FE) : FE := fun R ρ L => (a R ρ L).bind fun x L1 => match truthD L1 x with
  | some true => .ok x L1
  | some false => b R ρ L1
  | none => .bad
/-- tests -/
def tV (a : FE) : FT := fun R ρ L => (a R ρ L).bind fun x L1 => match truthD L1 x with
  | some c => .ok c L1
  | none => .bad
def tAnd (a b : FT) : FT := fun R ρ L => (a R ρ L).bind fun c L1 => if c then b R ρ L1 else .ok false L1
def tOr (a b : FT) : FT := fun R ρ L => (a R ρ L).bind fun c L1 => if c then .ok true L1 else b R ρ L1
def tNot (a : FT) : FT := fun R ρ L => (a R ρ L).bind fun c L1 => .ok (!c) L1
def eNot (a : FE) : FE := fun R ρ L => (a R ρ L).bind fun x L1 => match truthD L1 x with
  | some c => .ok (.bl (!c)) L1
  | none => .bad
/-- a < b < c -/
def eCh (op op' : D → D → LH → Res D) (a b c : FE) : FE := fun R ρ L => (a R ρ L).bind fun x L1 => (b R ρ L1).bind fun y L2 => (op x y L2).bind fun k L3 =>
  match k with
  | .bl true => (c R ρ L3).bind fun z L4 => op' y z L4
  | .bl false => .ok (.bl false) L3
  | _ => .bad

/-! ### operators -/
def big64 : Int := 2 ^ 64
def oAdd (a b : D) (L : LH) : Res D := match a, b with
  | .int i, .int j => .ok (.int (i + j)) L
  | .str x, .str y => if x.length + y.length ≤ sizeLine then .ok (.str (x ++ y)) L else .bad
  | .tup x, .tup y => if x.length + y.length ≤ sizeLine then .ok (.tup (x ++ y)) L else .bad
  | .ref m, .ref n => match L.get m, L.get n with
    | some (.lst xs), some (.lst ys) => if xs.length + ys.length ≤ sizeLine then .ok (.ref L.len) (L.push (.lst (xs ++ ys))) else .bad
    | _, _ => .bad
  | .int i, .bl k => .ok (.int (i + (if k then 1 else 0))) L
  | _, _ => .bad
def oSub (a b : D) (L : LH) : Res D := match a, b with
  | .int i, .int j => .ok (.int (i - j)) L
  | _, _ => .bad
/-- op= : ints only -/
def oIAdd (a b : D) (L : LH) : Res D := match a, b with
  | .int i, .int j => .ok (.int (i + j)) L
  | _, _ => .bad
def oMul (a b : D) (L : LH) : Res D := match a, b with
  | .int i, .int j => if (-big64 < i ∧ i < big64) ∨ (-big64 < j ∧ j < big64) then .ok (.int (i * j)) L else .bad
  | .tup x, .int k => if 2 ≤ k ∧ k ≤ 1000 ∧ x.isEmpty = false ∧ x.length ≤ 1000 then .ok (.tup (List.replicate k.toNat x).flatten) L else .bad
  | .ref m, .int k => match L.get m with
    | some (.lst xs) => if k < 2 ^ 63 ∧ -(2 ^ 63) ≤ k ∧ xs.length * k.toNat ≤ sizeLine then .ok (.ref L.len) (L.push (.lst (List.replicate k.toNat xs).flatten)) else .bad
    | _ => .bad
  | _, _ => .bad
def oDiv (a b : D) (L : LH) : Res D := match a, b with
  | .int i, .int j => if 0 < j ∧ j < 1073741824 then .ok (.int (i / j)) L else .bad
  | _, _ => .bad
def oMod (a b : D) (L : LH) : Res D := match a, b with
  | .int i, .int j => if 0 < j then .ok (.int (i % j)) L else .bad
  | _, _ => .bad
def oPow (a b : D) (L : LH) : Res D := match a, b with
  | .int i, .int j => if 0 ≤ j ∧ j ≤ 1000000 ∧ i.natAbs < 2 ^ 64 then .ok (.int (i ^ j.toNat)) L else .bad
  | _, _ => .bad
def oShl (a b : D) (L : LH) : Res D := match a, b with
  | .int i, .int j => if 0 ≤ j ∧ j ≤ 1000000 ∧ i.natAbs < 2 ^ 64 then .ok (.int (i * 2 ^ j.toNat)) L else .bad
  | _, _ => .bad
def oShr (a b : D) (L : LH) : Res D := match a, b with
  | .int i, .int j => if 0 ≤ j then .ok (.int (i / 2 ^ j.toNat)) L else .bad
  | _, _ => .bad
def oBand (a b : D) (L : LH) : Res D := match a, b with
  | .int i, .int j => .ok (.int (Builtin.bitAnd i j)) L
  | _, _ => .bad
def oNeg (a : D) (L : LH) : Res D := match a with
  | .int i => .ok (.int (-i)) L
  | _ => .bad
def oEq (a b : D) (L : LH) : Res D := match eqD L a b with
  | some c => .ok (.bl c) L
  | none => .bad
def oNe (a b : D) (L : LH) : Res D := match eqD L a b with
  | some c => .ok (.bl (!c)) L
  | none => .bad
def lexLt : List Int → List Int → Bool
  | [], [] => false
  | [], _ :: _ => true
  | _ :: _, [] => false
  | x :: xs, y :: ys => if x = y then lexLt xs ys else decide (x < y)
def oLt (a b : D) (L : LH) : Res D := match a, b with
  | .int i, .int j => .ok (.bl (decide (i < j))) L
  | _, _ => .bad
def oLe (a b : D) (L : LH) : Res D := match a, b with
  | .int i, .int j => .ok (.bl (decide (i ≤ j))) L
  | _, _ => .bad
def oGt (a b : D) (L : LH) : Res D := match a, b with
  | .int i, .int j => .ok (.bl (decide (j < i))) L
  | _, _ => .bad
def oGe (a b : D) (L : LH) : Res D := match a, b with
  | .int i, .int j => .ok (.bl (decide (j ≤ i))) L
  | _, _ => .bad
def isNon : D → Bool
  | .non => true
  | _ => false
/-- is: with None, and of two bools -/
def isD (a b : D) : Option Bool := match a, b with
  | a, .non => some (isNon a)
  | .bl x, .bl y => some (decide (x = y))
  | _, _ => none
def oIs (a b : D) (L : LH) : Res D := match isD a b with
  | some c => .ok (.bl c) L
  | none => .bad
def oIsNot (a b : D) (L : LH) : Res D := match isD a b with
  | some c => .ok (.bl (!c)) L
  | none => .bad

/-! ### dicts -/
def eqL {α : Type} (f : α → α → Bool) : List α → List α → Bool
  | [], [] => true
  | x :: xs, y :: ys => f x y && eqL f xs ys
  | _, _ => false
def kEq : Nat → D → D → Bool
  | 0, _, _ => false
  | n + 1, a, b => match a, b with
    | .int i, .int j => decide (i = j)
    | .str x, .str y => decide (x = y)
    | .non, .non => true
    | .tup l, .tup m => eqL (kEq n) l m
    | _, _ => false
/-- a number or a text, as a key -/
def leafKey : D → Bool
  | .int _ => true
  | .str _ => true
  | _ => false
/-- a tuple of such, nested -/
def okKey : Nat → D → Bool
  | 0, _ => false
  | n + 1, a => match a with
    | .int _ => true
    | .str _ => true
    | .non => true
    | .tup l => l.all (okKey n)
    | _ => false
def tupKey : D → Bool
  | .tup l => okKey 8 (.tup l)
  | _ => false
def dLook : List (D × D) → D → Option D
  | [], _ => none
  | (k, v) :: r, x => if kEq 9 k x then some v else dLook r x
def dPut : List (D × D) → D → D → List (D × D)
  | [], x, y => [(x, y)]
  | (k, v) :: r, x, y => if kEq 9 k x then (k, y) :: r else (k, v) :: dPut r x y
def dDrop : List (D × D) → D → List (D × D)
  | [], _ => []
  | (k, v) :: r, x => if kEq 9 k x then r else (k, v) :: dDrop r x
/-- whether the key may be asked of the dict: all keys of one sort -/
def keyFits (kvs : List (D × D)) (x : D) : Bool := leafKey x && kvs.all fun p => leafKey p.1

/-! ### subscripts, attributes, lengths -/
def ixOf (n : Nat) (i : Int) : Option Nat := if 0 ≤ i then (if i < n then some i.toNat else none) else if -(n : Int) ≤ i then some (i + n).toNat else none
def oIx (a b : D) (L : LH) : Res D := match a, b with
  | .tup l, .int i => match (ixOf l.length i).bind (l[·]?) with
    | some d => .ok d L
    | none => .bad
  | .str x, .int i => if x.length ≤ sizeLine then (match (ixOf x.cps.toList.length i).bind (x.cps.toList[·]?) with
    | some c => .ok (.str ⟨#[c]⟩) L
    | none => .bad) else .bad
  | .ref n, k => match L.get n with
    | some (.lst xs) => (match k with
      | .int i => (match (ixOf xs.length i).bind (xs[·]?) with
        | some d => .ok d L
        | none => .bad)
      | _ => .bad)
    | some (.dct kvs) => if keyFits kvs k then (match dLook kvs k with
      | some d => .ok d L
      | none => .bad) else .bad
    | _ => .bad
  | _, _ => .bad
/-- xs[i], a list, i no less than 0 -/
def oIxL (a b : D) (L : LH) : Res D := match a, b with
  | .ref n, .int i => match L.get n with
    | some (.lst xs) => if 0 ≤ i ∧ i < 2 ^ 62 then (match xs[i.toNat]? with
      | some d => .ok d L
      | none => .bad) else .bad
    | _ => .bad
  | _, _ => .bad
/-- a slice's bound -/
def cIx (n d : Nat) : Option Int → Nat
  | none => d
  | some v => if v < 0 then (v + (n : Int)).toNat else min v.toNat n
def cut {α : Type} (xs : List α) (lo hi : Option Int) : List α := (xs.drop (cIx xs.length 0 lo)).take (cIx xs.length xs.length hi - cIx xs.length 0 lo)
def oSl (a : D) (lo hi : Option Int) (L : LH) : Res D := match a with
  | .tup l => .ok (.tup (cut l lo hi)) L
  | .ref n => match L.get n with
    | some (.lst xs) => .ok (.ref L.len) (L.push (.lst (cut xs lo hi)))
    | _ => .bad
  | .str x => if x.length ≤ sizeLine then .ok (.str ⟨(cut x.cps.toList lo hi).toArray⟩) L else .bad
  | _ => .bad
abbrev FO := Rec → Slt → LH → Res (Option Int)
def bNo : FO := fun _ _ L => .ok none L
def bAt (a : FE) : FO := fun R ρ L => (a R ρ L).bind fun d L1 => match d with
  | .int i => .ok (some i) L1
  | _ => .bad
def eSl (a : FE) (lo hi : FO) : FE := fun R ρ L => (a R ρ L).bind fun d L1 => (lo R ρ L1).bind fun l L2 => (hi R ρ L2).bind fun h L3 => oSl d l h L3
/-- xs[::-1], xs a list -/
def oRevL (a : D) (L : LH) : Res D := match a with
  | .rol l => .ok (.ref L.len) (L.push (.lst l.reverse))
  | .ref n => match L.get n with
    | some (.lst xs) => .ok (.ref L.len) (L.push (.lst xs.reverse))
    | _ => .bad
  | _ => .bad
def oFld (cs : List Nat) (f : Str) (a : D) (L : LH) : Res D := match a with
  | .ref n => match L.get n with
    | some (.ins c fs) => if cs.contains c then (match fs.lookup f with
      | some d => .ok d L
      | none => .bad) else .bad
    | _ => .bad
  | _ => .bad

/-! ### calls -/
def eCall (i : Nat) (a : FA) : FE := fun R ρ L => (a R ρ L).bind fun xs L1 => R i xs L1
/-- o.m(..): by the class of o -/
def dispOf (tb : List (Nat × Nat)) (c : Nat) : Option Nat := tb.lookup c
def eMeth (m : Str) (tb : List (Nat × Nat)) (o : FE) (a : FA) : FE := fun R ρ L => (o R ρ L).bind fun d L1 => match d with
  | .ref n => match L1.get n with
    | some (.ins c fs) => match tb.lookup c with
      | some i => if (fs.lookup m).isNone then (a R ρ L1).bind fun xs L2 => R i (d :: xs) L2 else .bad
      | none => .bad
    | _ => .bad
  | _ => .bad
/-- C(..): a new instance, then its __init__ -/
def eMake (c i : Nat) (a : FA) : FE := fun R ρ L => (a R ρ L).bind fun xs L1 => (R i (.ref L1.len :: xs) (L1.push (.ins c []))).bind fun d L2 => match d with
  | .non => .ok (.ref L1.len) L2
  | _ => .bad
/-- o.name(..), a built-in's method -/
def tyIs (T : String) (d : D) (L : LH) : Bool := match d with
  | .ref n => match L.get n with
    | some (.lst _) => T == "list"
    | some (.dct _) => T == "dict"
    | _ => false
  | .str _ => T == "str"
  | _ => false
/-- an exception does not leave -/
def noExc {α : Type} : Res α → Res α
  | .ok a L => .ok a L
  | .exc _ _ _ => .bad
  | .bad => .bad
def eBM (T : String) (op : D → List D → LH → Res D) (o : FE) (a : FA) : FE := fun R ρ L => (o R ρ L).bind fun d L1 => if tyIs T d L1 then (a R ρ L1).bind fun xs L2 => noExc (op d xs L2) else .bad

/-! ### what is walked -/
inductive Itr where
  | pur (xs : List D)
  | dyn (nx : LH → Nat → Option (Option D)) (bound : Nat)
abbrev FI := Rec → Slt → LH → Res Itr
def listAt (n : Nat) (L : LH) (i : Nat) : Option (Option D) := match L.get n with
  | some (.lst xs) => some xs[i]?
  | _ => none
def chars (x : Str) : List D := x.cps.toList.map fun c => .str ⟨#[c]⟩
def itOf (d : D) (L : LH) : Res Itr := match d with
  | .tup l => .ok (.pur l) L
  | .rol l => .ok (.pur l) L
  | .str x => .ok (.pur (chars x)) L
  | .ref n => match L.get n with
    | some (.lst xs) => .ok (.dyn (listAt n) (xs.length + 1)) L
    | _ => .bad
  | _ => .bad
/-- enumerate(xs), xs a list -/
def enuAt (n : Nat) (L : LH) (i : Nat) : Option (Option D) := match L.get n with
  | some (.lst xs) => some (xs[i]?.map fun x => .tup [.int i, x])
  | _ => none
def itEnum (ds : List D) (L : LH) : Res Itr := match ds with
  | [.ref n] => match L.get n with
    | some (.lst xs) => .ok (.dyn (enuAt n) (xs.length + 1)) L
    | _ => .bad
  | _ => .bad
def iEnumE (a : FA) : FI := fun R ρ L => (a R ρ L).bind itEnum
def iE (a : FE) : FI := fun R ρ L => (a R ρ L).bind itOf
def rgInts (lo : Int) (n : Nat) : List D := (List.range n).map fun (k : Nat) => .int (lo + k)
def in62 (i : Int) : Bool := decide (-(2 ^ 62) ≤ i) && decide (i < 2 ^ 62)
def iRange1 (a : FA) : FI := fun R ρ L => (a R ρ L).bind fun xs L1 => match xs with
  | [.int j] => if in62 j then .ok (.pur (rgInts 0 j.toNat)) L1 else .bad
  | _ => .bad
def iRange2 (a : FA) : FI := fun R ρ L => (a R ρ L).bind fun xs L1 => match xs with
  | [.int i, .int j] => if in62 i && in62 j then .ok (.pur (rgInts i (j - i).toNat)) L1 else .bad
  | _ => .bad

/-! ### targets -/
def gNm (i : Nat) : FG := fun _ d ρ L => .ok (ρ.set i (some d)) L
abbrev FGs := Rec → List D → Slt → LH → Res Slt
def gsNil : FGs := fun _ ds ρ L => match ds with
  | [] => .ok ρ L
  | _ => .bad
def gsCons (g : FG) (r : FGs) : FGs := fun R ds ρ L => match ds with
  | d :: l => (g R d ρ L).bind fun ρ1 L1 => r R l ρ1 L1
  | [] => .bad
def gTp (n : Nat) (g : FGs) : FG := fun R d ρ L => match d with
  | .tup l => if l.length = n then noExc (g R l ρ L) else .bad
  | _ => .bad
def oSet (a b v : D) (L : LH) : Res Unit := match a with
  | .ref n => match L.get n with
    | some (.lst xs) => (match b with
      | .int i => (match ixOf xs.length i with
        | some j => .ok () (L.put n (.lst (xs.set j v)))
        | none => .bad)
      | _ => .bad)
    | some (.dct kvs) => if keyFits kvs b && decide (kvs.length < sizeLine) then .ok () (L.put n (.dct (dPut kvs b v))) else .bad
    | _ => .bad
  | _ => .bad
def gSub (o i : FE) : FG := fun R v ρ L => (o R ρ L).bind fun x L1 => (i R ρ L1).bind fun y L2 => (oSet x y v L2).bind fun _ L3 => .ok ρ L3
def putFs (f : Str) (v : D) : List (Str × D) → List (Str × D)
  | [] => [(f, v)]
  | (g, x) :: r => if g = f then (g, v) :: r else (g, x) :: putFs f v r
def oSetF (cs : List Nat) (f : Str) (a v : D) (L : LH) : Res Unit := match a with
  | .ref n => match L.get n with
    | some (.ins c fs) => if cs.contains c && decide (fs.length < 1000) then .ok () (L.put n (.ins c (putFs f v fs))) else .bad
    | _ => .bad
  | _ => .bad

/-! ### comprehensions -/
def wipeE (ρ : Slt) : List Nat → Slt
  | [] => ρ
  | i :: r => (wipeE ρ r).set i none
/-- one item: none, or the new item -/
abbrev FC := Rec → D → Slt → LH → Res (Option D)
def lcPur (b : D → LH → Res (Option D)) : List D → List D → LH → Res (List D)
  | [], acc, L => .ok acc L
  | x :: r, acc, L => (b x L).bind fun o L1 => match o with
    | none => lcPur b r acc L1
    | some y => if acc.length < sizeLine then lcPur b r (acc ++ [y]) L1 else .bad
def lcDyn (b : D → LH → Res (Option D)) (nx : LH → Nat → Option (Option D)) : Nat → Nat → List D → LH → Res (List D)
  | 0, _, _, _ => .bad
  | k + 1, i, acc, L => match nx L i with
    | none => .bad
    | some none => .ok acc L
    | some (some x) => (b x L).bind fun o L1 => match o with
      | none => lcDyn b nx k (i + 1) acc L1
      | some y => if acc.length < sizeLine then lcDyn b nx k (i + 1) (acc ++ [y]) L1 else .bad
def lcRun (b : D → LH → Res (Option D)) (it : Itr) (L : LH) : Res (List D) := match it with
  | .pur xs => lcPur b xs [] L
  | .dyn nx k => lcDyn b nx k 0 [] L
def tYesT : FT := fun _ _ L => .ok true L
def cTurn (g : FG) (t : FT) (e : FE) : FC := fun R x ρ L => noExc ((g R x ρ L).bind fun ρ1 L1 => (t R ρ1 L1).bind fun c L2 => if c then (e R ρ1 L2).bind fun y L3 => .ok (some y) L3 else .ok none L2)
def eLc (vs : List Nat) (it : FI) (c : FC) : FE := fun R ρ L => (it R ρ L).bind fun j L1 => (lcRun (fun x M => c R x (wipeE ρ vs) M) j L1).bind fun ys L2 => .ok (.ref L2.len) (L2.push (.lst ys))

/-! ### dict displays -/
def pPairs : List (FE × FE) → Rec → Slt → LH → Res (List (D × D))
  | [], _, _, L => .ok [] L
  | (a, b) :: r, R, ρ, L => (a R ρ L).bind fun x L1 => (b R ρ L1).bind fun y L2 => (pPairs r R ρ L2).bind fun ps L3 => .ok ((x, y) :: ps) L3
def eDct (ps : List (FE × FE)) : FE := fun R ρ L => (pPairs ps R ρ L).bind fun kvs L1 => if (kvs.all fun p => leafKey p.1) && decide (kvs.length ≤ 15) then .ok (.ref L1.len) (L1.push (.dct (kvs.foldl (fun acc p => dPut acc p.1 p.2) []))) else .bad
def oIn (a b : D) (L : LH) : Res D := match b with
  | .ref n => match L.get n with
    | some (.dct kvs) => if keyFits kvs a then .ok (.bl (dLook kvs a).isSome) L else .bad
    | some (.lst xs) => match toP 50 L a with
      | some p => (match mapO (toP 50 L) xs with
        | some ps => .ok (.bl (ps.any fun q => PyData.eqv q p)) L
        | none => .bad)
      | none => .bad
    | _ => .bad
  | .str z => match a with
    | .str y => .ok (.bl (!(Builtin.Str.occurrences z y 0 z.length 1).isEmpty)) L
    | _ => .bad
  | _ => .bad
def oNotR (r : Res D) : Res D := match r with
  | .ok (.bl c) L => .ok (.bl (!c)) L
  | _ => .bad
def oNotIn (a b : D) (L : LH) : Res D := oNotR (oIn a b L)

/-! ### dict comprehensions -/
def cPair (g : FG) (t : FT) (k e : FE) : Rec → D → Slt → LH → Res (Option (D × D)) := fun R x ρ L => noExc ((g R x ρ L).bind fun ρ1 L1 => (t R ρ1 L1).bind fun c L2 => if c then (k R ρ1 L2).bind fun y L3 => (e R ρ1 L3).bind fun z L4 => .ok (some (y, z)) L4 else .ok none L2)
def dcPur (b : D → LH → Res (Option (D × D))) : List D → List (D × D) → LH → Res (List (D × D))
  | [], acc, L => .ok acc L
  | x :: r, acc, L => (b x L).bind fun o L1 => match o with
    | none => dcPur b r acc L1
    | some (y, z) => if keyFits acc y && decide (acc.length < sizeLine) then dcPur b r (dPut acc y z) L1 else .bad
def dcDyn (b : D → LH → Res (Option (D × D))) (nx : LH → Nat → Option (Option D)) : Nat → Nat → List (D × D) → LH → Res (List (D × D))
  | 0, _, _, _ => .bad
  | k + 1, i, acc, L => match nx L i with
    | none => .bad
    | some none => .ok acc L
    | some (some x) => (b x L).bind fun o L1 => match o with
      | none => dcDyn b nx k (i + 1) acc L1
      | some (y, z) => if keyFits acc y && decide (acc.length < sizeLine) then dcDyn b nx k (i + 1) (dPut acc y z) L1 else .bad
def dcRun (b : D → LH → Res (Option (D × D))) (it : Itr) (L : LH) : Res (List (D × D)) := match it with
  | .pur xs => dcPur b xs [] L
  | .dyn nx k => dcDyn b nx k 0 [] L
def eDc (vs : List Nat) (it : FI) (c : Rec → D → Slt → LH → Res (Option (D × D))) : FE := fun R ρ L => (it R ρ L).bind fun j L1 => (dcRun (fun x M => c R x (wipeE ρ vs) M) j L1).bind fun kvs L2 => .ok (.ref L2.len) (L2.push (.dct kvs))

/-! ### isinstance -/
def tyNames : List String := ["int", "bool", "str", "tuple", "list", "dict"]
def tyNames7 : List String := ["NoneType", "int", "bool", "str", "tuple", "list", "dict"]
def tyOfD (d : D) (L : LH) : Option String := match d with
  | .non => some "NoneType"
  | .bl _ => some "bool"
  | .int _ => some "int"
  | .str _ => some "str"
  | .tup _ => some "tuple"
  | .ref n => match L.get n with
    | some (.lst _) => some "list"
    | some (.dct _) => some "dict"
    | _ => none
  | _ => none
def subTy (s T : String) : Bool := s == T || (s == "bool" && T == "int")
def isTyD (T : String) (d : D) (L : LH) : Option Bool := if tyNames.contains T then (tyOfD d L).map fun s => subTy s T else none
def oIsi (T : String) (a : D) (L : LH) : Res D := match isTyD T a L with
  | some b => .ok (.bl b) L
  | none => .bad

/-! ### built-ins -/
def bLen (as : List D) (L : LH) : Res D := match as with
  | [.tup l] => .ok (.int l.length) L
  | [.str x] => if x.length ≤ sizeLine then .ok (.int x.length) L else .bad
  | [.ref n] => match L.get n with
    | some (.lst xs) => .ok (.int xs.length) L
    | some (.dct kvs) => .ok (.int kvs.length) L
    | _ => .bad
  | _ => .bad
def bInt (as : List D) (L : LH) : Res D := match as with
  | [.int i] => .ok (.int i) L
  | [.bl k] => .ok (.int (if k then 1 else 0)) L
  | _ => .bad
def bAbs (as : List D) (L : LH) : Res D := match as with
  | [.int i] => .ok (.int (if i < 0 then -i else i)) L
  | _ => .bad
def bMax (as : List D) (L : LH) : Res D := match as with
  | [.int i, .int j] => .ok (.int (if j > i then j else i)) L
  | _ => .bad
def bMin (as : List D) (L : LH) : Res D := match as with
  | [.int i, .int j] => .ok (.int (if j < i then j else i)) L
  | _ => .bad
def bTup (as : List D) (L : LH) : Res D := match as with
  | [.tup l] => .ok (.tup l) L
  | [.ref n] => match L.get n with
    | some (.lst xs) => .ok (.tup xs) L
    | _ => .bad
  | _ => .bad
def bLst (as : List D) (L : LH) : Res D := match as with
  | [.tup l] => .ok (.ref L.len) (L.push (.lst l))
  | [.ref n] => match L.get n with
    | some (.lst xs) => .ok (.ref L.len) (L.push (.lst xs))
    | some (.dct kvs) => if kvs.all fun p => leafKey p.1 then .ok (.ref L.len) (L.push (.lst (kvs.map (·.1)))) else .bad
    | _ => .bad
  | _ => .bad
/-- list(range(..)), tuple(range(..)) -/
def rgOk (a b : Int) : Bool := in62 a && in62 b && decide ((b - a).toNat ≤ 2 ^ 24)
def rg1 (f : Int → Int → LH → Res D) (a : FE) : FE := fun R ρ L => (a R ρ L).bind fun x L1 => match x with
  | .int j => if rgOk 0 j then f 0 j L1 else .bad
  | _ => .bad
def rg2 (f : Int → Int → LH → Res D) (a b : FE) : FE := fun R ρ L => (a R ρ L).bind fun x L1 => (b R ρ L1).bind fun y L2 => match x, y with
  | .int i, .int j => if rgOk i j then f i j L2 else .bad
  | _, _ => .bad
def oLstR (a b : Int) (L : LH) : Res D := .ok (.ref L.len) (L.push (.lst (rgInts a (b - a).toNat)))
def oTupR (a b : Int) (L : LH) : Res D := .ok (.tup (rgInts a (b - a).toNat)) L
/-- repr of data -/
def bRepr (as : List D) (L : LH) : Res D := match as with
  | [a] => match toP 60 L a with
    | some p => if p.showable && decide (p.shown.length ≤ sizeLine) then .ok (.str p.shown) L else .bad
    | none => .bad
  | _ => .bad
/-! ### methods of built-ins -/
def mAppend (a : D) (as : List D) (L : LH) : Res D := match a, as with
  | .ref n, [y] => match L.get n with
    | some (.lst xs) => if xs.length < sizeLine then .ok .non (L.put n (.lst (xs ++ [y]))) else .bad
    | _ => .bad
  | _, _ => .bad
def mPop (a : D) (as : List D) (L : LH) : Res D := match a, as with
  | .ref n, [] => match L.get n with
    | some (.lst xs) => match xs[xs.length - 1]? with
      | some y => .ok y (L.put n (.lst xs.dropLast))
      | none => .bad
    | _ => .bad
  | .ref n, [.int i] => match L.get n with
    | some (.lst xs) => if -(2 ^ 63) ≤ i ∧ i < 2 ^ 63 then (match (ixOf xs.length i) with
      | some k => match xs[k]? with
        | some y => .ok y (L.put n (.lst (xs.eraseIdx k)))
        | none => .bad
      | none => .bad) else .bad
    | _ => .bad
  | _, _ => .bad

def mGet (a : D) (as : List D) (L : LH) : Res D := match a with
  | .ref n => match L.get n with
    | some (.dct kvs) => match as with
      | [k] => if keyFits kvs k then .ok ((dLook kvs k).getD .non) L else .bad
      | [k, d] => if keyFits kvs k then .ok ((dLook kvs k).getD d) L else .bad
      | _ => .bad
    | _ => .bad
  | _ => .bad
def mExtend (a : D) (as : List D) (L : LH) : Res D := match a, as with
  | .ref n, [.ref m] => match L.get n, L.get m with
    | some (.lst xs), some (.lst ys) => if xs.length + ys.length ≤ sizeLine then .ok .non (L.put n (.lst (xs ++ ys))) else .bad
    | _, _ => .bad
  | _, _ => .bad
def mClear (a : D) (as : List D) (L : LH) : Res D := match a, as with
  | .ref n, [] => match L.get n with
    | some (.lst _) => .ok .non (L.put n (.lst []))
    | _ => .bad
  | _, _ => .bad
/-! ### statements -/
/-- an expression's result within a statement: what is raised is a way to go on -/
def Res.st {α : Type} (r : Res α) (ρ : Slt) (k : α → LH → Res (Fl × Slt)) : Res (Fl × Slt) := match r with
  | .ok a L => k a L
  | .exc c fs L => .ok (.ex c fs, ρ) L
  | .bad => .bad
def sNext : FS := fun _ ρ L => .ok (.nx, ρ) L
def sSeq (a b : FS) : FS := fun R ρ L => (a R ρ L).bind fun p L1 => match p.1 with
  | .nx => b R p.2 L1
  | f => .ok (f, p.2) L1
def sAsg (e : FE) (g : FG) : FS := fun R ρ L => (e R ρ L).st ρ fun d L1 => (g R d ρ L1).st ρ fun ρ1 L2 => .ok (.nx, ρ1) L2
def sExpr (e : FE) : FS := fun R ρ L => (e R ρ L).st ρ fun _ L1 => .ok (.nx, ρ) L1
def sRet (e : FE) : FS := fun R ρ L => (e R ρ L).st ρ fun d L1 => .ok (.rt d, ρ) L1
def sRetN : FS := fun _ ρ L => .ok (.rt .non, ρ) L
def sIf (t : FT) (a b : FS) : FS := fun R ρ L => (t R ρ L).st ρ fun c L1 => if c then a R ρ L1 else b R ρ L1
def sBrk : FS := fun _ ρ L => .ok (.bk, ρ) L
def sCnt : FS := fun _ ρ L => .ok (.ct, ρ) L
def sAug (i : Nat) (op : D → D → LH → Res D) (e : FE) : FS := fun R ρ L => match ρ[i]? with
  | some (some x) => (e R ρ L).st ρ fun y L1 => (op x y L1).st ρ fun z L2 => .ok (.nx, ρ.set i (some z)) L2
  | _ => .bad
def sFldSet (cs : List Nat) (f : Str) (o e : FE) : FS := fun R ρ L => (e R ρ L).st ρ fun v L1 => (o R ρ L1).st ρ fun x L2 => (oSetF cs f x v L2).st ρ fun _ L3 => .ok (.nx, ρ) L3
def sSubAug (o i : FE) (op : D → D → LH → Res D) (e : FE) : FS := fun R ρ L => (o R ρ L).st ρ fun x L1 => (i R ρ L1).st ρ fun y L2 => (oIxL x y L2).st ρ fun z L3 => (e R ρ L3).st ρ fun v L4 => (op z v L4).st ρ fun w L5 => (oSet x y w L5).st ρ fun _ L6 => .ok (.nx, ρ) L6
def forPur (b : D → Slt → LH → Res (Fl × Slt)) : List D → Slt → LH → Res (Fl × Slt)
  | [], ρ, L => .ok (.nx, ρ) L
  | x :: r, ρ, L => (b x ρ L).bind fun p L1 => match p.1 with
    | .nx => forPur b r p.2 L1
    | .ct => forPur b r p.2 L1
    | .bk => .ok (.nx, p.2) L1
    | f => .ok (f, p.2) L1
def forDyn (b : D → Slt → LH → Res (Fl × Slt)) (nx : LH → Nat → Option (Option D)) : Nat → Nat → Slt → LH → Res (Fl × Slt)
  | 0, _, _, _ => .bad
  | k + 1, i, ρ, L => match nx L i with
    | none => .bad
    | some none => .ok (.nx, ρ) L
    | some (some x) => (b x ρ L).bind fun p L1 => match p.1 with
      | .nx => forDyn b nx k (i + 1) p.2 L1
      | .ct => forDyn b nx k (i + 1) p.2 L1
      | .bk => .ok (.nx, p.2) L1
      | f => .ok (f, p.2) L1
def forRun (b : D → Slt → LH → Res (Fl × Slt)) (it : Itr) (ρ : Slt) (L : LH) : Res (Fl × Slt) := match it with
  | .pur xs => forPur b xs ρ L
  | .dyn nx k => forDyn b nx k 0 ρ L
def sFor (g : FG) (it : FI) (body : FS) : FS := fun R ρ L => (it R ρ L).st ρ fun j L1 => forRun (fun x ρ1 M => (g R x ρ1 M).st ρ1 fun ρ2 M1 => body R ρ2 M1) j ρ L1
def whileN (t : Slt → LH → Res Bool) (b : Slt → LH → Res (Fl × Slt)) : Nat → Slt → LH → Res (Fl × Slt)
  | 0, _, _ => .bad
  | k + 1, ρ, L => (t ρ L).st ρ fun c L1 => if c then (b ρ L1).bind fun p L2 => (match p.1 with
    | .nx => whileN t b k p.2 L2
    | .ct => whileN t b k p.2 L2
    | .bk => .ok (.nx, p.2) L2
    | f => .ok (f, p.2) L2) else .ok (.nx, ρ) L1
def fuel : Nat := 1000000000
def sWhile (t : FT) (body : FS) : FS := fun R ρ L => whileN (t R) (body R) fuel ρ L

/-! ### raise, try -/
/-- raise C(..), C's __init__ sets one field, i its value -/
def sRaise (c : Nat) (f : Str) (i : Nat) (a : FA) : FS := fun R ρ L => (a R ρ L).st ρ fun xs L1 => if xs.length ≤ 900 then (noExc (R i (.non :: xs) L1)).st ρ fun v L2 => .ok (.ex c [(f, v)], ρ) L2 else .bad
/-- raise C(), C without an __init__ -/
def sRaise0 (c : Nat) : FS := fun _ ρ L => .ok (.ex c [], ρ) L
/-- try: b, except C: s; cs: the classes that are C's, of all there are -/
def noEx (r : Res (Fl × Slt)) : Res (Fl × Slt) := match r with
  | .ok (.ex _ _, _) _ => .bad
  | r => r
def sTry (all cs : List Nat) (b s : FS) : FS := fun R ρ L => (b R ρ L).bind fun p L1 => match p.1 with
  | .ex c fs => if all.contains c then (if cs.contains c then noEx (s R p.2 L1) else .ok (.ex c fs, p.2) L1) else .bad
  | fl => .ok (fl, p.2) L1
/-- try: b, except C as x: return x.f -/
def sTryF (all cs : List Nat) (i : Nat) (f : Str) (b : FS) : FS := fun R ρ L => (b R ρ L).bind fun p L1 => match p.1 with
  | .ex c fs => if all.contains c then (if cs.contains c then (match fs.lookup f with
    | some d => if i < p.2.length then .ok (.rt d, p.2.set i none) L1 else .bad
    | none => .bad) else .ok (.ex c fs, p.2) L1) else .bad
  | fl => .ok (fl, p.2) L1

/-! ### defs -/
/-- a def: its number of slots, of parameters, its body -/
structure Fn where
  slots : Nat
  pars : Nat
  body : FS
def Fn.run (f : Fn) (R : Rec) (as : List D) (L : LH) : Res D :=
  if as.length = f.pars then (noExc (f.body R (as.map some ++ List.replicate (f.slots - f.pars) none) L)).bind fun p L1 => match p.1 with
    | .rt d => .ok d L1
    | .nx => .ok .non L1
    | .ex c fs => .exc c fs L1
    | _ => .bad
  else .bad
def runN (F : Nat → Option Fn) : Nat → Rec
  | 0, _, _, _ => .bad
  | n + 1, i, as, L => match F i with
    | some f => f.run (runN F n) as L
    | none => .bad
end PD
/-! P1: pure data against HandS's values and abstract heap; readings of combinators. -/
namespace PD
open PySem PySem.Spec PyProof.Rows L2

/-- what is fixed for a whole program -/
structure Sta where
  P : Program
  w : World
  K : PySem.W.Frag
  mg : Str → Option Value
  base : Heap
  CA : Nat → Addr
  FA : Nat → Addr

/-- a list that nobody writes -/
def RoL (K : PySem.W.Frag) (H : Hp) (a : Addr) (vs : List V) : Prop :=
  (∃ o, H a = some (.frz o (.lst vs))) ∨
    ∃ (o : Obj) (its : Array Value) (n : Nat), K.lookup a = some o ∧ o.cls = .type "list" ∧ o.dict = none ∧ o.data = .seq its n ∧ its.size ≤ sizeLine ∧ Vals vs its.toList
theorem RoL.sq {K : PySem.W.Frag} {H : Hp} {a : Addr} {vs : List V} (h : RoL K H a vs) : SqL K H a vs := by
  rcases h with h | h
  · exact .inl (.inr h)
  · exact .inr h

mutual
inductive Rep (G : Sta) (ms : List Addr) (H : Hp) : D → V → Prop
  | non : Rep G ms H .non .non
  | bl (b : Bool) : Rep G ms H (.bl b) (.bl b)
  | int (i : Int) : Rep G ms H (.int i) (.int i)
  | str (x : Str) : Rep G ms H (.str x) (.str x)
  | tup {a : Addr} {vs : List V} {l : List D} : SqT G.K H a vs → Reps G ms H l vs → Rep G ms H (.tup l) (.ref a)
  | rol {a : Addr} {vs : List V} {l : List D} : RoL G.K H a vs → Reps G ms H l vs → Rep G ms H (.rol l) (.ref a)
  | ref {n : Nat} {a : Addr} : ms[n]? = some a → Rep G ms H (.ref n) (.ref a)
  | fn (i : Nat) : Rep G ms H (.fn i) (.ref (G.FA i))
inductive Reps (G : Sta) (ms : List Addr) (H : Hp) : List D → List V → Prop
  | nil : Reps G ms H [] []
  | cons {d : D} {l : List D} {v : V} {vs : List V} : Rep G ms H d v → Reps G ms H l vs → Reps G ms H (d :: l) (v :: vs)
end

/-- what an evaluation may do to the heap: objects that are not the logical heap's stay -/
structure Ext (ms : List Addr) (H : Hp) (ms' : List Addr) (H' : Hp) : Prop where
  pre : ∀ (n : Nat) (a : Addr), ms[n]? = some a → ms'[n]? = some a
  new : ∀ a, a ∈ ms' → a ∈ ms ∨ H a = none
  keep : ∀ a o, H a = some o → a ∉ ms → H' a = some o
theorem Ext.refl (ms : List Addr) (H : Hp) : Ext ms H ms H := ⟨fun _ _ h => h, fun _ h => .inl h, fun _ _ h _ => h⟩
theorem Ext.trans {ms ms1 ms2 : List Addr} {H H1 H2 : Hp} (a : Ext ms H ms1 H1) (b : Ext ms1 H1 ms2 H2) : Ext ms H ms2 H2 where
  pre := fun n x h => b.pre n x (a.pre n x h)
  new := fun x h => by
    rcases b.new x h with h | h
    · exact a.new x h
    · by_cases hx : x ∈ ms
      · exact .inl hx
      · refine .inr ?_
        cases e : H x with
        | none => rfl
        | some o => rw [a.keep x o e hx] at h; cases h
  keep := fun x o e hx => by
    have e1 := a.keep x o e hx
    refine b.keep x o e1 fun h => ?_
    rcases a.new x h with q | q
    · exact hx q
    · rw [q] at e; cases e
/-- a tuple is never the logical heap's -/
structure Fine (ms : List Addr) (H : Hp) : Prop where
  muts : ∀ a, a ∈ ms → ∃ o, H a = some o ∧ Mut (some o)
theorem Fine.ntup {ms : List Addr} {H : Hp} (f : Fine ms H) {a : Addr} {o : HO} (e : H a = some o) (n : ¬ Mut (some o)) : a ∉ ms := fun h => by
  obtain ⟨o', e', m⟩ := f.muts a h
  rw [e] at e'; cases e'
  exact n m
theorem Ext.tup {K : PySem.W.Frag} {ms ms' : List Addr} {H H' : Hp} (x : Ext ms H ms' H') (f : Fine ms H) {a : Addr} {vs : List V} (h : SqT K H a vs) : SqT K H' a vs := by
  rcases h with (h | ⟨o, h⟩) | h
  · exact .inl (.inl (x.keep _ _ h (f.ntup h fun z => z)))
  · exact .inl (.inr ⟨o, x.keep _ _ h (f.ntup h fun z => z)⟩)
  · exact .inr h
theorem Ext.rol {K : PySem.W.Frag} {ms ms' : List Addr} {H H' : Hp} (x : Ext ms H ms' H') (f : Fine ms H) {a : Addr} {vs : List V} (h : RoL K H a vs) : RoL K H' a vs := by
  rcases h with ⟨o, h⟩ | h
  · exact .inl ⟨o, x.keep _ _ h (f.ntup h fun z => z)⟩
  · exact .inr h
/-- what a value's description leans on is kept -/
structure Kp (K : PySem.W.Frag) (ms : List Addr) (H : Hp) (ms' : List Addr) (H' : Hp) : Prop where
  pre : ∀ (n : Nat) (a : Addr), ms[n]? = some a → ms'[n]? = some a
  tup : ∀ a vs, SqT K H a vs → SqT K H' a vs
  rol : ∀ a vs, RoL K H a vs → RoL K H' a vs
theorem Ext.kp {K : PySem.W.Frag} {ms ms' : List Addr} {H H' : Hp} (x : Ext ms H ms' H') (f : Fine ms H) : Kp K ms H ms' H' := ⟨x.pre, fun _ _ h => x.tup f h, fun _ _ h => x.rol f h⟩
/-- an object that is no tuple and no locked list is changed -/
theorem Kp.off {K : PySem.W.Frag} {ms : List Addr} {H : Hp} {p : Addr} {o u : HO} (h : H p = some o) (n : Mut (some o)) : Kp K ms H ms (upd H p u) where
  pre := fun _ _ h => h
  tup := fun a vs q => by
    rcases q with (q | ⟨ob, q⟩) | q
    · exact .inl (.inl (by rw [upd_ne (show a ≠ p from fun e => by subst e; rw [h] at q; cases q; exact n)]; exact q))
    · exact .inl (.inr ⟨ob, by rw [upd_ne (show a ≠ p from fun e => by subst e; rw [h] at q; cases q; exact n)]; exact q⟩)
    · exact .inr q
  rol := fun a vs q => by
    rcases q with ⟨ob, q⟩ | q
    · exact .inl ⟨ob, by rw [upd_ne (show a ≠ p from fun e => by subst e; rw [h] at q; cases q; exact n)]; exact q⟩
    · exact .inr q
mutual
theorem Rep.kp {G : Sta} {ms ms' : List Addr} {H H' : Hp} (x : Kp G.K ms H ms' H') : ∀ (d : D) (v : V), Rep G ms H d v → Rep G ms' H' d v
  | .non, _, h => by cases h; exact .non
  | .bl b, _, h => by cases h; exact .bl b
  | .int i, _, h => by cases h; exact .int i
  | .str y, _, h => by cases h; exact .str y
  | .tup l, _, h => by
    cases h with
    | tup a b => exact .tup (x.tup _ _ a) (Reps.kp x l _ b)
  | .rol l, _, h => by
    cases h with
    | rol a b => exact .rol (x.rol _ _ a) (Reps.kp x l _ b)
  | .ref n, _, h => by
    cases h with
    | ref a => exact .ref (x.pre _ _ a)
  | .fn i, _, h => by cases h; exact .fn i
theorem Reps.kp {G : Sta} {ms ms' : List Addr} {H H' : Hp} (x : Kp G.K ms H ms' H') : ∀ (l : List D) (vs : List V), Reps G ms H l vs → Reps G ms' H' l vs
  | [], _, h => by cases h; exact .nil
  | d :: l, _, h => by
    cases h with
    | cons a b => exact .cons (Rep.kp x d _ a) (Reps.kp x l _ b)
end
theorem Rep.ext {G : Sta} {ms ms' : List Addr} {H H' : Hp} (x : Ext ms H ms' H') (f : Fine ms H) (d : D) (v : V) (h : Rep G ms H d v) : Rep G ms' H' d v := Rep.kp (x.kp f) d v h
theorem Reps.ext {G : Sta} {ms ms' : List Addr} {H H' : Hp} (x : Ext ms H ms' H') (f : Fine ms H) (d : List D) (v : List V) (h : Reps G ms H d v) : Reps G ms' H' d v := Reps.kp (x.kp f) d v h
theorem Reps.length {G : Sta} {ms : List Addr} {H : Hp} : ∀ {l : List D} {vs : List V}, Reps G ms H l vs → l.length = vs.length
  | [], _, h => by cases h; rfl
  | d :: l, _, h => by
    cases h with
    | cons a b => rw [List.length_cons, List.length_cons, Reps.length b]
theorem Reps.get {G : Sta} {ms : List Addr} {H : Hp} : ∀ {l : List D} {vs : List V} {i : Nat} {d : D}, Reps G ms H l vs → l[i]? = some d → ∃ v, vs[i]? = some v ∧ Rep G ms H d v
  | [], _, _, _, _, e => by simp at e
  | d :: l, _, 0, _, h, e => by
    cases h with
    | cons a b =>
      rw [List.getElem?_cons_zero] at e; cases e
      exact ⟨_, rfl, a⟩
  | d :: l, _, i + 1, _, h, e => by
    cases h with
    | cons a b =>
      rw [List.getElem?_cons_succ] at e
      obtain ⟨v, q, r⟩ := Reps.get b e
      exact ⟨v, by rw [List.getElem?_cons_succ]; exact q, r⟩
theorem Reps.append {G : Sta} {ms : List Addr} {H : Hp} : ∀ {l k : List D} {vs ws : List V}, Reps G ms H l vs → Reps G ms H k ws → Reps G ms H (l ++ k) (vs ++ ws)
  | [], _, _, _, h, q => by cases h; exact q
  | d :: l, _, _, _, h, q => by
    cases h with
    | cons a b => exact .cons a (Reps.append b q)
theorem Reps.set {G : Sta} {ms : List Addr} {H : Hp} {d : D} {v : V} (r : Rep G ms H d v) : ∀ {l : List D} {vs : List V} (i : Nat), Reps G ms H l vs → Reps G ms H (l.set i d) (vs.set i v)
  | [], _, _, h => by cases h; exact .nil
  | e :: l, _, 0, h => by
    cases h with
    | cons a b => exact .cons r b
  | e :: l, _, i + 1, h => by
    cases h with
    | cons a b => exact .cons a (Reps.set r i b)
theorem Reps.take {G : Sta} {ms : List Addr} {H : Hp} : ∀ {l : List D} {vs : List V} (n : Nat), Reps G ms H l vs → Reps G ms H (l.take n) (vs.take n)
  | _, _, 0, _ => by rw [List.take_zero, List.take_zero]; exact .nil
  | [], _, n + 1, h => by cases h; exact .nil
  | e :: l, _, n + 1, h => by
    cases h with
    | cons a b => exact .cons a (Reps.take n b)
theorem Reps.drop {G : Sta} {ms : List Addr} {H : Hp} : ∀ {l : List D} {vs : List V} (n : Nat), Reps G ms H l vs → Reps G ms H (l.drop n) (vs.drop n)
  | _, _, 0, h => h
  | [], _, n + 1, h => by cases h; exact .nil
  | e :: l, _, n + 1, h => by
    cases h with
    | cons a b => exact Reps.drop n b
theorem Reps.reverse {G : Sta} {ms : List Addr} {H : Hp} : ∀ {l : List D} {vs : List V}, Reps G ms H l vs → Reps G ms H l.reverse vs.reverse
  | [], _, h => by cases h; exact .nil
  | e :: l, _, h => by
    cases h with
    | cons a b =>
      rw [List.reverse_cons, List.reverse_cons]
      exact (Reps.reverse b).append (.cons a .nil)
theorem Reps.rep {G : Sta} {ms : List Addr} {H : Hp} {l : List D} {vs : List V} (h : Reps G ms H l vs) : ∀ n : Nat, Reps G ms H (List.replicate n l).flatten (List.replicate n vs).flatten
  | 0 => .nil
  | n + 1 => by
    rw [List.replicate_succ, List.replicate_succ, List.flatten_cons, List.flatten_cons]
    exact h.append (Reps.rep h n)

/-! ### the logical heap, seen in the abstract one -/
inductive Flds (G : Sta) (ms : List Addr) (H : Hp) : List (Str × D) → List (Str × V) → Prop
  | nil : Flds G ms H [] []
  | cons {f : Str} {d : D} {v : V} {l : List (Str × D)} {vs : List (Str × V)} : Rep G ms H d v → Flds G ms H l vs → Flds G ms H ((f, d) :: l) ((f, v) :: vs)
/-- a key that HandS's dicts take -/
def keyD : D → Option Key
  | .int i => some (.inl i)
  | .str x => some (.inr x)
  | _ => none
inductive KvRep (G : Sta) (ms : List Addr) (H : Hp) : List (D × D) → List (Key × V) → Prop
  | nil : KvRep G ms H [] []
  | cons {k d : D} {key : Key} {v : V} {l : List (D × D)} {vs : List (Key × V)} : keyD k = some key → Rep G ms H d v → KvRep G ms H l vs → KvRep G ms H ((k, d) :: l) ((key, v) :: vs)
theorem KvRep.kp {G : Sta} {ms ms' : List Addr} {H H' : Hp} (x : Kp G.K ms H ms' H') {l : List (D × D)} {vs : List (Key × V)} (h : KvRep G ms H l vs) : KvRep G ms' H' l vs := by
  induction h with
  | nil => exact .nil
  | cons a b _ ih => exact .cons a (Rep.kp x _ _ b) ih
/-- what stands at the address of a cell -/
def CellOk (G : Sta) (ms : List Addr) (H : Hp) (a : Addr) : Cell → Prop
  | .lst xs => ∃ vs, H a = some (.lst vs) ∧ Reps G ms H xs vs
  | .ins c fs => ∃ dx vs, H a = some (.ins (G.CA c) dx vs) ∧ Flds G ms H fs vs
  | .dct kvs => ∃ ks, H a = some (.dK ks) ∧ KvRep G ms H kvs ks ∧ (ks.map (·.1)).Nodup
  | .set _ => False
theorem Flds.kp {G : Sta} {ms ms' : List Addr} {H H' : Hp} (x : Kp G.K ms H ms' H') {l : List (Str × D)} {vs : List (Str × V)} (h : Flds G ms H l vs) : Flds G ms' H' l vs := by
  induction h with
  | nil => exact .nil
  | cons a _ ih => exact .cons (Rep.kp x _ _ a) ih
theorem Flds.ext {G : Sta} {ms ms' : List Addr} {H H' : Hp} (x : Ext ms H ms' H') (f : Fine ms H) {l : List (Str × D)} {vs : List (Str × V)} (h : Flds G ms H l vs) : Flds G ms' H' l vs := h.kp (x.kp f)
theorem Flds.lookup {G : Sta} {ms : List Addr} {H : Hp} {f : Str} {d : D} : ∀ {l : List (Str × D)} {vs : List (Str × V)}, Flds G ms H l vs → l.lookup f = some d → ∃ v, vs.lookup f = some v ∧ Rep G ms H d v
  | [], _, _, e => by simp at e
  | (g, x) :: l, _, h, e => by
    cases h with
    | cons a b =>
      rw [List.lookup_cons] at e
      rw [List.lookup_cons]
      cases q : f == g with
      | true =>
        rw [q] at e
        cases e
        exact ⟨_, rfl, a⟩
      | false =>
        rw [q] at e
        exact Flds.lookup b e
theorem Flds.none {G : Sta} {ms : List Addr} {H : Hp} {f : Str} : ∀ {l : List (Str × D)} {vs : List (Str × V)}, Flds G ms H l vs → l.lookup f = none → vs.lookup f = none
  | [], _, h, _ => by cases h; rfl
  | (g, x) :: l, _, h, e => by
    cases h with
    | cons a b =>
      rw [List.lookup_cons] at e
      rw [List.lookup_cons]
      cases q : f == g with
      | true => rw [q] at e; cases e
      | false => rw [q] at e; exact Flds.none b e
theorem Flds.length {G : Sta} {ms : List Addr} {H : Hp} {l : List (Str × D)} {vs : List (Str × V)} (h : Flds G ms H l vs) : l.length = vs.length := by
  induction h with
  | nil => rfl
  | cons _ _ ih => rw [List.length_cons, List.length_cons, ih]

theorem Flds.put {G : Sta} {ms : List Addr} {H : Hp} {f : Str} {d : D} {v : V} (r : Rep G ms H d v) : ∀ {l : List (Str × D)} {vs : List (Str × V)}, Flds G ms H l vs → Flds G ms H (putFs f d l) (putF f v vs)
  | [], _, h => by
    cases h
    exact .cons r .nil
  | (g, x) :: l, _, h => by
    cases h with
    | cons a b =>
      unfold putFs putF
      by_cases e : g = f
      · rw [if_pos e, if_pos e]; exact .cons r b
      · rw [if_neg e, if_neg e]; exact .cons a (Flds.put r b)

structure Sees (G : Sta) (ms : List Addr) (L : LH) (H : Hp) : Prop where
  len : ms.length = L.len
  nd : ms.Nodup
  fine : Fine ms H
  cell : ∀ n a c, L.get n = some c → ms[n]? = some a → CellOk G ms H a c
theorem Sees.at {G : Sta} {ms : List Addr} {L : LH} {H : Hp} (S : Sees G ms L H) {n : Nat} {c : Cell} (h : L.get n = some c) : ∃ a, ms[n]? = some a ∧ CellOk G ms H a c := by
  have hl : n < ms.length := by rw [S.len]; exact LH.get_lt h
  exact ⟨ms[n], List.getElem?_eq_getElem hl, S.cell n _ c h (List.getElem?_eq_getElem hl)⟩
/-- the cell, from a value that stands for it -/
theorem Sees.ref {G : Sta} {ms : List Addr} {L : LH} {H : Hp} (S : Sees G ms L H) {n : Nat} {c : Cell} {v : V} (h : L.get n = some c) (r : Rep G ms H (.ref n) v) : ∃ a, v = .ref a ∧ ms[n]? = some a ∧ CellOk G ms H a c := by
  obtain ⟨a, e, q⟩ := S.at h
  cases r with
  | ref e' =>
    rw [e] at e'; cases e'
    exact ⟨a, rfl, e, q⟩
theorem CellOk.kp {G : Sta} {ms ms' : List Addr} {H H' : Hp} (x : Kp G.K ms H ms' H') {a : Addr} (same : ∀ o, H a = some o → H' a = some o) : ∀ {c : Cell}, CellOk G ms H a c → CellOk G ms' H' a c
  | .lst xs, ⟨vs, e, r⟩ => ⟨vs, same _ e, Reps.kp x _ _ r⟩
  | .ins c fs, ⟨dx, vs, e, r⟩ => ⟨dx, vs, same _ e, r.kp x⟩
  | .dct kvs, ⟨ks, e, r, n⟩ => ⟨ks, same _ e, r.kp x, n⟩
  | .set _, h => h.elim
theorem CellOk.ext {G : Sta} {ms ms' : List Addr} {H H' : Hp} (x : Ext ms H ms' H') (f : Fine ms H) {a : Addr} (same : ∀ o, H a = some o → H' a = some o) {c : Cell} (h : CellOk G ms H a c) : CellOk G ms' H' a c := h.kp (x.kp f) same
/-- an object that is no cell is changed -/
theorem Sees.off {G : Sta} {ms : List Addr} {L : LH} {H : Hp} {p : Addr} {o u : HO} (S : Sees G ms L H) (h : H p = some o) (n : Mut (some o)) (hp : p ∉ ms) : Sees G ms L (upd H p u) :=
  ⟨S.len, S.nd, ⟨fun a ha => by
    obtain ⟨w, e, m⟩ := S.fine.muts a ha
    exact ⟨w, by rw [upd_ne (show a ≠ p from fun e => hp (e ▸ ha))]; exact e, m⟩⟩, fun k a c hk e => (S.cell k a c hk e).kp (Kp.off h n) fun w q => by
      rw [upd_ne (show a ≠ p from fun e' => hp (by rw [← e']; exact List.mem_of_getElem? e))]; exact q⟩

theorem Ext.fresh {ms : List Addr} {H : Hp} {p : Addr} {o : HO} (hp : H p = none) : Ext ms H ms (upd H p o) :=
  ⟨fun _ _ h => h, fun _ h => .inl h, fun a o' h _ => by
    rw [upd_ne (ne_of_none h hp)]; exact h⟩
theorem Fine.fresh {ms : List Addr} {H : Hp} {p : Addr} {o : HO} (f : Fine ms H) (hp : H p = none) : Fine ms (upd H p o) := ⟨fun a h => by
  obtain ⟨u, e, m⟩ := f.muts a h
  exact ⟨u, by rw [upd_ne (ne_of_none e hp)]; exact e, m⟩⟩
/-- a new object that is no cell (a tuple) -/
theorem Sees.fresh {G : Sta} {ms : List Addr} {L : LH} {H : Hp} {p : Addr} {o : HO} (S : Sees G ms L H) (hp : H p = none) : Sees G ms L (upd H p o) :=
  ⟨S.len, S.nd, S.fine.fresh hp, fun n a c h e => (S.cell n a c h e).ext (Ext.fresh hp) S.fine fun u q => by rw [upd_ne (ne_of_none q hp)]; exact q⟩
theorem get_app {α : Type} {l : List α} {x : α} {n : Nat} : (l ++ [x])[n]? = if n = l.length then some x else l[n]? := by
  by_cases h : n = l.length
  · rw [if_pos h, h, List.getElem?_append_right (Nat.le_refl _), Nat.sub_self]; rfl
  · rw [if_neg h]
    by_cases h2 : n < l.length
    · rw [List.getElem?_append_left h2]
    · rw [List.getElem?_append_right (by omega), List.getElem?_eq_none (by simp; omega), List.getElem?_eq_none (by omega)]
/-- a new cell -/
theorem Ext.push {ms : List Addr} {H : Hp} {p : Addr} {o : HO} (hp : H p = none) : Ext ms H (ms ++ [p]) (upd H p o) :=
  ⟨fun n a h => by rw [get_app, if_neg (by have := (List.getElem?_eq_some_iff.mp h).1; omega)]; exact h,
   fun a h => by
    rcases List.mem_append.mp h with h | h
    · exact .inl h
    · exact .inr (by rw [List.mem_singleton.mp h]; exact hp),
   fun a o' h _ => by rw [upd_ne (ne_of_none h hp)]; exact h⟩
theorem Sees.push {G : Sta} {ms : List Addr} {L : LH} {H : Hp} {p : Addr} {o : HO} {c : Cell} (S : Sees G ms L H) (hp : H p = none) (m : Mut (some o)) (q : CellOk G (ms ++ [p]) (upd H p o) p c) : Sees G (ms ++ [p]) (L.push c) (upd H p o) := by
  have np : p ∉ ms := fun h => by
    obtain ⟨u, e, _⟩ := S.fine.muts p h
    rw [hp] at e; cases e
  refine ⟨by rw [List.length_append, S.len]; rfl, ?_, ⟨fun a h => ?_⟩, fun n a c' h e => ?_⟩
  · exact List.nodup_append.mpr ⟨S.nd, by simp, fun a h b hb => by rw [List.mem_singleton.mp hb]; exact fun e => np (e ▸ h)⟩
  · rcases List.mem_append.mp h with h | h
    · obtain ⟨u, e, m'⟩ := S.fine.muts a h
      exact ⟨u, by rw [upd_ne (ne_of_none e hp)]; exact e, m'⟩
    · rw [List.mem_singleton.mp h]
      exact ⟨o, upd_same, m⟩
  · rw [LH.get_push, ← S.len] at h
    rw [get_app] at e
    by_cases hn : n = ms.length
    · rw [if_pos hn] at h e
      cases h; cases e
      exact q
    · rw [if_neg hn] at h e
      exact (S.cell n a c' h e).ext (Ext.push hp) S.fine fun u z => by rw [upd_ne (ne_of_none z hp)]; exact z
/-- a cell is written -/
theorem Ext.put {ms : List Addr} {H : Hp} {p : Addr} {o : HO} {n : Nat} (hn : ms[n]? = some p) : Ext ms H ms (upd H p o) :=
  ⟨fun _ _ h => h, fun _ h => .inl h, fun a o' h na => by
    rw [upd_ne (show a ≠ p from fun e => na (by rw [e]; exact List.mem_of_getElem? hn))]; exact h⟩
theorem Sees.put {G : Sta} {ms : List Addr} {L : LH} {H : Hp} {p : Addr} {o : HO} {n : Nat} {c : Cell} (S : Sees G ms L H) (hn : ms[n]? = some p) (m : Mut (some o)) (q : CellOk G ms (upd H p o) p c) : Sees G ms (L.put n c) (upd H p o) := by
  have hlt : n < L.len := by rw [← S.len]; exact (List.getElem?_eq_some_iff.mp hn).1
  refine ⟨by rw [S.len]; rfl, S.nd, ⟨fun a h => ?_⟩, fun k a c' h e => ?_⟩
  · by_cases e : a = p
    · rw [e]; exact ⟨o, upd_same, m⟩
    · obtain ⟨u, e', m'⟩ := S.fine.muts a h
      exact ⟨u, by rw [upd_ne e]; exact e', m'⟩
  · rw [LH.get_put c k hlt] at h
    by_cases hk : k = n
    · rw [if_pos hk] at h
      cases h
      rw [hk, hn] at e; cases e
      exact q
    · rw [if_neg hk] at h
      have hne : a ≠ p := fun z => by
        subst z
        obtain ⟨h1, e1⟩ := List.getElem?_eq_some_iff.mp hn
        obtain ⟨h2, e2⟩ := List.getElem?_eq_some_iff.mp e
        exact hk ((List.getElem_inj S.nd).mp (e2.trans e1.symm))
      exact (S.cell k a c' h e).ext (Ext.put hn) S.fine fun u z => by rw [upd_ne hne]; exact z

/-! ### slots -/
structure EnvOk (G : Sta) (ms : List Addr) (H : Hp) (ρ : Slt) (σ : L2.St) : Prop where
  len : ρ.length = σ.length
  at_ : ∀ (i : Nat) (d : D), ρ[i]? = some (some d) → ∃ v, σ[i]? = some (some v) ∧ Rep G ms H d v
theorem EnvOk.kp {G : Sta} {ms ms' : List Addr} {H H' : Hp} {ρ : Slt} {σ : L2.St} (x : Kp G.K ms H ms' H') (e : EnvOk G ms H ρ σ) : EnvOk G ms' H' ρ σ :=
  ⟨e.len, fun i d h => by
    obtain ⟨v, q, r⟩ := e.at_ i d h
    exact ⟨v, q, Rep.kp x _ _ r⟩⟩
theorem EnvOk.ext {G : Sta} {ms ms' : List Addr} {H H' : Hp} {ρ : Slt} {σ : L2.St} (x : Ext ms H ms' H') (f : Fine ms H) (e : EnvOk G ms H ρ σ) : EnvOk G ms' H' ρ σ :=
  ⟨e.len, fun i d h => by
    obtain ⟨v, q, r⟩ := e.at_ i d h
    exact ⟨v, q, Rep.ext x f _ _ r⟩⟩
theorem EnvOk.set {G : Sta} {ms : List Addr} {H : Hp} {ρ : Slt} {σ : L2.St} (e : EnvOk G ms H ρ σ) {d : D} {v : V} (r : Rep G ms H d v) (i : Nat) : EnvOk G ms H (ρ.set i (some d)) (σ.set i (some v)) := by
  refine ⟨by rw [List.length_set, List.length_set, e.len], fun j d' h => ?_⟩
  by_cases hj : j = i
  · subst hj
    by_cases hl : j < ρ.length
    · rw [List.getElem?_set_self hl] at h
      cases h
      exact ⟨v, by rw [List.getElem?_set_self (by rw [← e.len]; exact hl)], r⟩
    · rw [List.getElem?_eq_none (by rw [List.length_set]; omega)] at h; cases h
  · rw [List.getElem?_set_ne (Ne.symm hj)] at h
    obtain ⟨w, q, r'⟩ := e.at_ j d' h
    exact ⟨w, by rw [List.getElem?_set_ne (Ne.symm hj)]; exact q, r'⟩

/-! ### what is wanted of a result -/
/-- an exception of the class c with the fields fs, as HandS tells it -/
def ExOk (G : Sta) (ms : List Addr) (H : Hp) (c : Nat) (fs : List (Str × D)) (cls : Value) (dx : Option Addr) : Prop :=
  cls = .ref (G.CA c) ∧ match dx with
    | none => fs = []
    | some d => ∃ vs, H d = some (.xd vs) ∧ Flds G ms H fs vs
def post (G : Sta) (ms : List Addr) (H : Hp) {α β : Type} (Rel : List Addr → Hp → α → β → Prop) (Q : β → Hp → Prop) (E : XK) : Res α → Prop
  | .ok d L' => ∀ ms' H' v, Ext ms H ms' H' → Sees G ms' L' H' → Rel ms' H' d v → Q v H'
  | .exc c fs L' => ∀ ms' H' cls dx, Ext ms H ms' H' → Sees G ms' L' H' → ExOk G ms' H' c fs cls dx → E cls dx H'
  | .bad => False
theorem post.ext {G : Sta} {ms ms1 : List Addr} {H H1 : Hp} {α β : Type} {Rel : List Addr → Hp → α → β → Prop} {Q : β → Hp → Prop} {E : XK} (x : Ext ms H ms1 H1) : ∀ {r : Res α}, post G ms H Rel Q E r → post G ms1 H1 Rel Q E r
  | .ok _ _, h => fun ms' H' v e s r => h ms' H' v (x.trans e) s r
  | .exc _ _ _, h => fun ms' H' c d e s r => h ms' H' c d (x.trans e) s r
  | .bad, h => h
theorem post.imp {G : Sta} {ms : List Addr} {H : Hp} {α β : Type} {Rel : List Addr → Hp → α → β → Prop} {Q Q' : β → Hp → Prop} {E E' : XK} (hQ : ∀ v H', Q v H' → Q' v H') (hE : ∀ c d H', E c d H' → E' c d H') : ∀ {r : Res α}, post G ms H Rel Q E r → post G ms H Rel Q' E' r
  | .ok _ _, h => fun ms' H' v e s r => hQ _ _ (h ms' H' v e s r)
  | .exc _ _ _, h => fun ms' H' c d e s r => hE _ _ _ (h ms' H' c d e s r)
  | .bad, h => h
/-- one thing after another -/
theorem post.bind {G : Sta} {ms : List Addr} {H : Hp} {α β γ δ : Type} {R1 : List Addr → Hp → α → β → Prop} {R2 : List Addr → Hp → γ → δ → Prop} {Q : δ → Hp → Prop} {E : XK} {k : α → LH → Res γ} :
    ∀ {r : Res α}, post G ms H R2 Q E (r.bind k) → post G ms H R1 (fun v H1 => ∃ ms1 L1 a, Ext ms H ms1 H1 ∧ Sees G ms1 L1 H1 ∧ R1 ms1 H1 a v ∧ post G ms H R2 Q E (k a L1)) E r
  | .ok a L1, h => fun ms1 H1 v x s r => ⟨ms1, L1, a, x, s, r, h⟩
  | .exc _ _ _, h => h
  | .bad, h => h

/-! ### dicts -/
theorem leaf_key {d : D} (h : leafKey d = true) : ∃ k, keyD d = some k := by
  cases d <;> first
    | exact ⟨_, rfl⟩
    | cases h
theorem keyD_rep {G : Sta} {ms : List Addr} {H : Hp} {d : D} {v : V} {k : Key} (h : keyD d = some k) (r : Rep G ms H d v) : v = kV k := by
  cases r <;> first
    | (cases h; rfl)
    | cases h
theorem kEq_leaf {a b : D} {x y : Key} (ha : keyD a = some x) (hb : keyD b = some y) (n : Nat) : kEq (n + 1) a b = decide (x = y) := by
  have aux : ∀ {d : D} {k : Key}, keyD d = some k → (∃ i, d = .int i ∧ k = .inl i) ∨ (∃ t, d = .str t ∧ k = .inr t) := by
    intro d k h
    cases d <;> first
      | (cases h; exact .inl ⟨_, rfl, rfl⟩)
      | (cases h; exact .inr ⟨_, rfl, rfl⟩)
      | cases h
  rcases aux ha with ⟨i, rfl, rfl⟩ | ⟨i, rfl, rfl⟩ <;> rcases aux hb with ⟨j, rfl, rfl⟩ | ⟨j, rfl, rfl⟩ <;> simp [kEq]
theorem keyFits_leaf {kvs : List (D × D)} {x : D} (h : keyFits kvs x = true) : ∃ k, keyD x = some k := by
  unfold keyFits at h
  rw [Bool.and_eq_true] at h
  exact leaf_key h.1
section
variable {G : Sta} {ms : List Addr} {H : Hp}
theorem KvRep.length {l : List (D × D)} {ks : List (Key × V)} (h : KvRep G ms H l ks) : l.length = ks.length := by
  induction h with
  | nil => rfl
  | cons _ _ _ ih => rw [List.length_cons, List.length_cons, ih]
theorem KvRep.look {x : D} {k : Key} (hx : keyD x = some k) {l : List (D × D)} {ks : List (Key × V)} (h : KvRep G ms H l ks) : (∃ d v, dLook l x = some d ∧ valV ks k = some v ∧ Rep G ms H d v) ∨ (dLook l x = none ∧ valV ks k = none) := by
  induction h with
  | nil => exact .inr ⟨rfl, rfl⟩
  | @cons a d key v l vs h1 h2 _ ih =>
    unfold dLook
    rw [kEq_leaf h1 hx]
    by_cases e : key = k
    · rw [decide_eq_true e, if_pos rfl, valV_pos (p := (key, v)) e]
      exact .inl ⟨d, v, rfl, rfl, h2⟩
    · rw [decide_eq_false e, if_neg Bool.false_ne_true]
      have e2 : valV ((key, v) :: vs) k = valV vs k := by simp [valV, List.find?_cons, e]
      rw [e2]
      exact ih
theorem KvRep.nomap {x : Key} {y : V} {ks : List (Key × V)} (h : x ∉ ks.map (·.1)) : ks.map (fun kv => if kv.1 = x then (kv.1, y) else kv) = ks := by
  induction ks with
  | nil => rfl
  | cons p r ih =>
    rw [List.map_cons, List.mem_cons, not_or] at h
    rw [List.map_cons, if_neg (fun e => h.1 e.symm), ih h.2]
theorem KvRep.put {x y : D} {k : Key} {v : V} (hx : keyD x = some k) (hy : Rep G ms H y v) {l : List (D × D)} {ks : List (Key × V)} (h : KvRep G ms H l ks) (nd : (ks.map (·.1)).Nodup) : KvRep G ms H (dPut l x y) (putK ks k v) := by
  induction h with
  | nil => exact .cons hx hy .nil
  | @cons a d key w l vs h1 h2 h3 ih =>
    rw [List.map_cons, List.nodup_cons] at nd
    unfold dPut
    rw [kEq_leaf h1 hx]
    by_cases e : key = k
    · subst e
      rw [decide_eq_true rfl, if_pos rfl]
      unfold putK
      rw [List.any_cons, decide_eq_true rfl, Bool.true_or, if_pos rfl, List.map_cons, if_pos rfl, KvRep.nomap nd.1]
      exact .cons h1 hy h3
    · rw [decide_eq_false e, if_neg Bool.false_ne_true]
      have e2 : putK ((key, w) :: vs) k v = (key, w) :: putK vs k v := by
        unfold putK
        rw [List.any_cons, decide_eq_false e, Bool.false_or]
        by_cases q : (vs.any fun kv => decide (kv.1 = k)) = true
        · rw [if_pos q, if_pos q, List.map_cons, if_neg e]
        · rw [if_neg q, if_neg q]; rfl
      rw [e2]
      exact .cons h1 h2 (ih nd.2)
theorem putK_keys {ks : List (Key × V)} {k : Key} {v : V} (nd : (ks.map (·.1)).Nodup) : ((putK ks k v).map (·.1)).Nodup := by
  unfold putK
  by_cases q : (ks.any fun kv => decide (kv.1 = k)) = true
  · rw [if_pos q]
    have e : (ks.map fun kv => if kv.1 = k then (kv.1, v) else kv).map (·.1) = ks.map (·.1) := by
      rw [List.map_map]
      apply List.map_congr_left
      intro p _
      show (if p.1 = k then (p.1, v) else p).1 = p.1
      split <;> rfl
    rw [e]; exact nd
  · rw [if_neg q, List.map_append]
    refine List.nodup_append.mpr ⟨nd, by simp, fun a ha b hb => ?_⟩
    have hb' : b = k := by simpa using hb
    subst hb'
    intro e
    subst e
    apply q
    rw [List.any_eq_true]
    obtain ⟨p, hp, hp2⟩ := List.mem_map.mp ha
    exact ⟨p, hp, decide_eq_true hp2⟩
end
end PD
/-! P2: each construct refines its combinator. -/
namespace PD
open PySem PySem.Spec PyProof.Rows L2

/-- readings of combinators -/
def upE (G : Sta) (W : WX) (R : Rec) (f : FE) : TE := fun σ H Q => ∃ ms L ρ, Sees G ms L H ∧ EnvOk G ms H ρ σ ∧ post G ms H (Rep G) Q (WE W σ) (f R ρ L)
def upA (G : Sta) (W : WX) (R : Rec) (f : FA) : TA := fun σ H Q => ∃ ms L ρ, Sees G ms L H ∧ EnvOk G ms H ρ σ ∧ post G ms H (Reps G) Q (WE W σ) (f R ρ L)
abbrev EqB : List Addr → Hp → Bool → Bool → Prop := fun _ _ a b => a = b
def upT (G : Sta) (W : WX) (R : Rec) (f : FT) : TT := fun σ H Q => ∃ ms L ρ, Sees G ms L H ∧ EnvOk G ms H ρ σ ∧ post G ms H EqB Q (WE W σ) (f R ρ L)

section
variable {X : Cx} {e : Expr} {es : List Expr}
theorem peOf {t t' : TE} (h : PE X e t) (hi : ∀ σ H Q, t' σ H Q → t σ H Q) : PE X e t' := ⟨fun pins s σ H Q I q => h.run pins s σ H Q I (hi σ H Q q)⟩
theorem ptOf {t t' : TT} (h : PT X e t) (hi : ∀ σ H Q, t' σ H Q → t σ H Q) : PT X e t' := ⟨fun pins s σ H Q I q => h.run pins s σ H Q I (hi σ H Q q)⟩
theorem pwOf {t t' : TT} (h : PW X e t) (hi : ∀ σ H Q, t' σ H Q → t σ H Q) : PW X e t' := ⟨fun wh pins s σ H Q I q => h.run wh pins s σ H Q I (hi σ H Q q)⟩
theorem paOf {t t' : TA} (h : PA X es t) (hi : ∀ σ H Q, t' σ H Q → t σ H Q) : PA X es t' := ⟨fun pos pins s σ H Q I q => h.run pos pins s σ H Q I (hi σ H Q q)⟩
end

/-- what is known behind a part -/
structure Mid (G : Sta) (W : WX) (ρ : Slt) (σ : L2.St) {γ δ : Type} (R2 : List Addr → Hp → γ → δ → Prop) (Q : δ → Hp → Prop) (ms : List Addr) (H : Hp) (ms1 : List Addr) (H1 : Hp) (L1 : LH) (r : Res γ) : Prop where
  ext : Ext ms H ms1 H1
  sees : Sees G ms1 L1 H1
  env : EnvOk G ms1 H1 ρ σ
  post : post G ms1 H1 R2 Q (WE W σ) r

section
variable {G : Sta} {W : WX} {R : Rec} {σ : L2.St} {H : Hp} {ms : List Addr} {L : LH} {ρ : Slt}
theorem midE {γ δ : Type} {R2 : List Addr → Hp → γ → δ → Prop} {Q : δ → Hp → Prop} {f : FE} {k : D → LH → Res γ} (S : Sees G ms L H) (e : EnvOk G ms H ρ σ) (h : post G ms H R2 Q (WE W σ) ((f R ρ L).bind k)) :
    upE G W R f σ H fun v H1 => ∃ ms1 L1 d, Rep G ms1 H1 d v ∧ Mid G W ρ σ R2 Q ms H ms1 H1 L1 (k d L1) :=
  ⟨ms, L, ρ, S, e, (post.bind h).imp (fun v H1 ⟨ms1, L1, d, x, s, r, q⟩ => ⟨ms1, L1, d, r, x, s, e.ext x S.fine, post.ext x q⟩) fun _ _ _ z => z⟩
theorem midA {γ δ : Type} {R2 : List Addr → Hp → γ → δ → Prop} {Q : δ → Hp → Prop} {f : FA} {k : List D → LH → Res γ} (S : Sees G ms L H) (e : EnvOk G ms H ρ σ) (h : post G ms H R2 Q (WE W σ) ((f R ρ L).bind k)) :
    upA G W R f σ H fun v H1 => ∃ ms1 L1 d, Reps G ms1 H1 d v ∧ Mid G W ρ σ R2 Q ms H ms1 H1 L1 (k d L1) :=
  ⟨ms, L, ρ, S, e, (post.bind h).imp (fun v H1 ⟨ms1, L1, d, x, s, r, q⟩ => ⟨ms1, L1, d, r, x, s, e.ext x S.fine, post.ext x q⟩) fun _ _ _ z => z⟩
theorem midT {γ δ : Type} {R2 : List Addr → Hp → γ → δ → Prop} {Q : δ → Hp → Prop} {f : FT} {k : Bool → LH → Res γ} (S : Sees G ms L H) (e : EnvOk G ms H ρ σ) (h : post G ms H R2 Q (WE W σ) ((f R ρ L).bind k)) :
    upT G W R f σ H fun v H1 => ∃ ms1 L1, Mid G W ρ σ R2 Q ms H ms1 H1 L1 (k v L1) :=
  ⟨ms, L, ρ, S, e, (post.bind h).imp (fun v H1 ⟨ms1, L1, d, x, s, r, q⟩ => by
    cases (show d = v from r)
    exact ⟨ms1, L1, x, s, e.ext x S.fine, post.ext x q⟩) fun _ _ _ z => z⟩
theorem Mid.rep {γ δ : Type} {R2 : List Addr → Hp → γ → δ → Prop} {Q : δ → Hp → Prop} {ms1 : List Addr} {H1 : Hp} {L1 : LH} {r : Res γ} (m : Mid G W ρ σ R2 Q ms H ms1 H1 L1 r) (f : Fine ms H) {d : D} {v : V} (h : Rep G ms H d v) : Rep G ms1 H1 d v := Rep.ext m.ext f _ _ h

/-! ### operations by values -/
/-- what an operation wants: results that keep all cells -/
theorem post.same {Q : VK} {E : XK} {d : D} {v : V} (S : Sees G ms L H) (h : post G ms H (Rep G) Q E (.ok d L)) (r : Rep G ms H d v) : Q v H := h ms H v (Ext.refl _ _) S r
theorem post.tuple {Q : VK} {E : XK} {l : List D} {vs : List V} (S : Sees G ms L H) (h : post G ms H (Rep G) Q E (.ok (.tup l) L)) (r : Reps G ms H l vs) : ∀ p, H p = none → Q (.ref p) (upd H p (.tup vs)) := fun p hp =>
  h ms _ _ (Ext.fresh hp) (S.fresh hp) (.tup (SqT.of upd_same) (Reps.ext (Ext.fresh hp) S.fine _ _ r))
theorem post.list {Q : VK} {E : XK} {l : List D} {vs : List V} (S : Sees G ms L H) (h : post G ms H (Rep G) Q E (.ok (.ref L.len) (L.push (.lst l)))) (r : Reps G ms H l vs) : ∀ p, H p = none → Q (.ref p) (upd H p (.lst vs)) := fun p hp =>
  h (ms ++ [p]) _ _ (Ext.push hp) (S.push hp True.intro ⟨vs, upd_same, Reps.ext (Ext.push hp) S.fine _ _ r⟩) (.ref (by rw [get_app, if_pos S.len.symm]))
end

section
variable (X : Cx) (G : Sta) (W : WX)
/-- two values in, one out -/
def Op2 (f : Value → Value → Sem Value) (g : D → D → LH → Res D) : Prop :=
  ∀ (pins : List (Addr × Obj)) (s : Shared) (σ : L2.St) (H : Hp) (ms : List Addr) (L : LH) (a b : D) (x y : V) (v u : Value) (Q : VK), Inv X pins σ H s → Sees G ms L H → Rep G ms H a x → Rep G ms H b y → RelV x v → RelV y u →
    post G ms H (Rep G) Q (WE W σ) (g a b L) → wpAny (model X.prog X.w) X.A (f v u) (EP X pins σ Q) X.xe s
def Op1 (f : Value → Sem Value) (g : D → LH → Res D) : Prop :=
  ∀ (pins : List (Addr × Obj)) (s : Shared) (σ : L2.St) (H : Hp) (ms : List Addr) (L : LH) (a : D) (x : V) (v : Value) (Q : VK), Inv X pins σ H s → Sees G ms L H → Rep G ms H a x → RelV x v →
    post G ms H (Rep G) Q (WE W σ) (g a L) → wpAny (model X.prog X.w) X.A (f v) (EP X pins σ Q) X.xe s
/-- a call of a known value with values -/
def OpA (f : Value) (g : List D → LH → Res D) : Prop :=
  ∀ (pins : List (Addr × Obj)) (s : Shared) (σ : L2.St) (H : Hp) (ms : List Addr) (L : LH) (as : List D) (xs : List V) (us : List Value) (Q : VK), Inv X pins σ H s → Sees G ms L H → Reps G ms H as xs → Vals xs us →
    post G ms H (Rep G) Q (WE W σ) (g as L) → wpAny (model X.prog X.w) X.A (call f us) (EP X pins σ Q) X.xe s
end

section
variable {X : Cx} {G : Sta} {W : WX} {R : Rec}
theorem re_var {i : Nat} {x : Str} {pos : Pos} (h : PE X (.Name x pos) (tVar i)) : PE X (.Name x pos) (upE G W R (eVar i)) := peOf h fun σ H Q ⟨ms, L, ρ, S, e, q⟩ => by
  unfold eVar at q
  cases h : ρ[i]? with
  | none => rw [h] at q; exact q.elim
  | some o =>
    rw [h] at q
    cases o with
    | none => exact q.elim
    | some d =>
      obtain ⟨v, ev, r⟩ := e.at_ i d h
      exact ⟨v, ev, post.same S q r⟩
theorem re_c {d : D} {v : V} {ex : Expr} (h : PE X ex (tC v)) (r : ∀ ms H, Rep G ms H d v) : PE X ex (upE G W R (eC d)) := peOf h fun σ H Q ⟨ms, L, ρ, S, e, q⟩ => post.same S q (r ms H)
theorem re_int {i : Int} {j pos} : PE X (.Constant (.int i) j pos) (upE G W R (eC (.int i))) := re_c pe_int fun _ _ => .int i
theorem re_bl {b : Bool} {j pos} : PE X (.Constant (.bool b) j pos) (upE G W R (eC (.bl b))) := re_c pe_bl fun _ _ => .bl b
theorem re_non {j pos} : PE X (.Constant .none j pos) (upE G W R (eC .non)) := re_c pe_non fun _ _ => .non
theorem re_str {x : Str} {j pos} : PE X (.Constant (.str x) j pos) (upE G W R (eC (.str x))) := re_c pe_str fun _ _ => .str x

/-! ### arguments -/
theorem ra_nil : PA X [] (upA G W R aNil) := paOf pa_nil fun σ H Q ⟨ms, L, ρ, S, e, q⟩ => q ms H [] (Ext.refl _ _) S .nil
theorem ra_cons {e : Expr} {es : List Expr} {fa : FE} {fr : FA} (ha : PE X e (upE G W R fa)) (hr : PA X es (upA G W R fr)) (hs : starEach (e :: es) X.env = (false, eval e X.env) :: starEach es X.env) : PA X (e :: es) (upA G W R (aCons fa fr)) :=
  paOf (pa_cons ha hr hs) fun σ H Q ⟨ms, L, ρ, S, e, q⟩ => by
    obtain ⟨ms0, L0, ρ0, S0, e0, q0⟩ := midE (f := fa) S e q
    refine ⟨ms0, L0, ρ0, S0, e0, q0.imp (fun v H1 ⟨ms1, L1, d, r, m⟩ => ?_) fun _ _ _ z => z⟩
    obtain ⟨ms2, L2, ρ2, S2, e2, q2⟩ := midA (f := fr) m.sees m.env m.post
    refine ⟨ms2, L2, ρ2, S2, e2, q2.imp (fun vs H2 ⟨ms3, L3, ds, rs, m2⟩ => ?_) fun _ _ _ z => z⟩
    exact m2.post ms3 H2 _ (Ext.refl _ _) m2.sees (.cons (m2.rep m.sees.fine r) rs)
/-- an operation on arguments, from HandS's rule -/
theorem re_app {ex : Expr} {es : List Expr} {fa : FA} {op : List D → LH → Res D} {k : List V → Hp → VK → Prop} (h : ∀ t, PA X es t → PE X ex (fun σ H Q => t σ H fun vs H1 => k vs H1 Q)) (ha : PA X es (upA G W R fa))
    (hk : ∀ (ms : List Addr) (L : LH) (H : Hp) (ds : List D) (vs : List V) (Q : VK) (E : XK), Sees G ms L H → Reps G ms H ds vs → post G ms H (Rep G) Q E (op ds L) → k vs H Q) : PE X ex (upE G W R (aApp fa op)) :=
  peOf (h _ ha) fun σ H Q ⟨ms, L, ρ, S, e, q⟩ => by
    obtain ⟨ms0, L0, ρ0, S0, e0, q0⟩ := midA (f := fa) S e q
    refine ⟨ms0, L0, ρ0, S0, e0, q0.imp (fun vs H1 ⟨ms1, L1, ds, rs, m⟩ => ?_) fun _ _ _ z => z⟩
    exact hk ms1 L1 H1 ds vs Q _ m.sees rs m.post
theorem re_tup {es : List Expr} {fa : FA} {x1 pos} (ha : PA X es (upA G W R fa)) : PE X (.Tuple es x1 pos) (upE G W R (aApp fa oTup)) :=
  re_app (fun t h => pe_tup h) ha fun ms L H ds vs Q E S r q => by
    unfold oTup at q
    by_cases hz : ds.length ≤ sizeLine
    · rw [if_pos hz] at q
      exact ⟨by rw [← r.length]; exact hz, post.tuple S q r⟩
    · rw [if_neg hz] at q; exact q.elim
theorem re_lst {es : List Expr} {fa : FA} {pos} (ha : PA X es (upA G W R fa)) : PE X (.List es pos) (upE G W R (aApp fa oLst)) :=
  re_app (fun t h => pe_lst h) ha fun ms L H ds vs Q E S r q => by
    unfold oLst at q
    by_cases hz : ds.length ≤ sizeLine
    · rw [if_pos hz] at q
      exact ⟨by rw [← r.length]; exact hz, post.list S q r⟩
    · rw [if_neg hz] at q; exact q.elim

/-! ### operators -/
theorem run2 {a b : Expr} {fa fb : FE} {f : Value → Value → Sem Value} {g : D → D → LH → Res D} (ha : PE X a (upE G W R fa)) (hb : PE X b (upE G W R fb)) (ho : Op2 X G W f g) {pins : List (Addr × Obj)} {s : Shared} {σ : L2.St} {H : Hp} {Q : VK} (I : Inv X pins σ H s)
    (h : upE G W R (e2 g fa fb) σ H Q) : wpAny (model X.prog X.w) X.A (eval a X.env) (fun v s₁ => wpAny (model X.prog X.w) X.A (eval b X.env) (fun u s₂ => wpAny (model X.prog X.w) X.A (f v u) (EP X pins σ Q) X.xe s₂) X.xe s₁) X.xe s := by
  obtain ⟨ms, L, ρ, S, e, q⟩ := h
  refine thn (ha.run pins s σ H _ I (midE (f := fa) S e q)) fun v s1 ⟨x, H1, I1, r1, ms1, L1, d1, rx, m⟩ => ?_
  refine thn (hb.run pins s1 σ H1 _ I1 (midE (f := fb) m.sees m.env m.post)) fun u s2 ⟨y, H2, I2, r2, ms2, L2, d2, ry, m2⟩ => ?_
  exact ho pins s2 σ H2 ms2 L2 d1 d2 x y v u Q I2 m2.sees (m2.rep m.sees.fine rx) ry r1 r2 m2.post
theorem re_bin {a b : Expr} {fa fb : FE} {op : Operator} {g : D → D → LH → Res D} {pos : Pos} (ho : Op2 X G W (binaryOp op) g) (ha : PE X a (upE G W R fa)) (hb : PE X b (upE G W R fb)) : PE X (.BinOp a op b pos) (upE G W R (e2 g fa fb)) :=
  ⟨fun pins s σ H Q I h => wpAny_BinOp (run2 ha hb ho I h)⟩
theorem re_cmp {a b : Expr} {fa fb : FE} {op : CmpOp} {g : D → D → LH → Res D} {pos : Pos} (ho : Op2 X G W (compareOp op) g) (ha : PE X a (upE G W R fa)) (hb : PE X b (upE G W R fb)) (hm : behindInMarks op b = false) : PE X (.Compare a [op] [b] pos) (upE G W R (e2 g fa fb)) :=
  ⟨fun pins s σ H Q I h => wpAny_Compare1 (run2 ha hb ho I h) hm⟩
theorem re_un {a : Expr} {fa : FE} {op : UnaryOp} {g : D → LH → Res D} {pos : Pos} (ho : Op1 X G W (unaryOp op) g) (ha : PE X a (upE G W R fa)) : PE X (.UnaryOp op a pos) (upE G W R (e1 g fa)) :=
  ⟨fun pins s σ H Q I h => by
    obtain ⟨ms, L, ρ, S, e, q⟩ := h
    refine UnaryOp_ (thn (ha.run pins s σ H _ I (midE (f := fa) S e q)) fun v s1 ⟨x, H1, I1, r1, ms1, L1, d1, rx, m⟩ => ?_)
    exact ho pins s1 σ H1 ms1 L1 d1 x v Q I1 m.sees rx r1 m.post⟩

/-- from HandS's rules by values -/
theorem Op2.of {f : Value → Value → Sem Value} {g : D → D → LH → Res D} {r : R2} (h : OpR X f r) (hi : ∀ (ms : List Addr) (L : LH) (H : Hp) (a b : D) (x y : V) (Q : VK) (E : XK), Sees G ms L H → Rep G ms H a x → Rep G ms H b y → post G ms H (Rep G) Q E (g a b L) → r x y H Q) : Op2 X G W f g :=
  fun pins s σ H ms L a b x y v u Q I S ra rb rx ry q => h pins s σ H x y v u Q I rx ry (hi ms L H a b x y Q _ S ra rb q)
theorem op2_case {f : Value → Value → Sem Value} {r : R2} (h : OpR X f r) {pins : List (Addr × Obj)} {s : Shared} {σ : L2.St} {H : Hp} {x y : V} {v u : Value} {Q : VK} (I : Inv X pins σ H s) (rx : RelV x v) (ry : RelV y u) (q : r x y H Q) : wpAny (model X.prog X.w) X.A (f v u) (EP X pins σ Q) X.xe s := h pins s σ H x y v u Q I rx ry q

theorem op_oAdd (hK : X.K = G.K) : Op2 X G W (binaryOp .Add) oAdd := by
  intro pins s σ H ms L a b x y v u Q I S ra rb rx ry q
  unfold oAdd at q
  split at q
  · cases ra; cases rb
    exact op_add pins s σ H _ _ v u Q I rx ry ⟨_, _, rfl, rfl, post.same S q (.int _)⟩
  · cases ra; cases rb
    split at q
    · rename_i hz
      exact op_add_str pins s σ H _ _ v u Q I rx ry ⟨_, _, rfl, rfl, hz, post.same S q (.str _)⟩
    · exact q.elim
  · cases ra with
    | @tup p vs l h1 r1 =>
      cases rb with
      | @tup p' vs' l' h2 r2 =>
        split at q
        · rename_i hz
          rw [r1.length, r2.length] at hz
          refine op_catA pins s σ H _ _ v u Q I rx ry ⟨p, p', vs, vs', rfl, rfl, hK ▸ h1, hK ▸ h2, hz, fun e => ?_, fun _ e => ?_, fun _ _ => post.tuple S q (r1.append r2)⟩
          · subst e; cases r1
            exact post.same S q (.tup h2 r2)
          · subst e; cases r2
            rw [List.append_nil] at q
            exact post.same S q (.tup h1 r1)
        · exact q.elim
  · rename_i m n
    split at q
    · rename_i xs ys em en
      obtain ⟨p, rfl, e1, vs, h1, r1⟩ := S.ref em ra
      obtain ⟨p', rfl, e2, vs', h2, r2⟩ := S.ref en rb
      split at q
      · rename_i hz
        rw [r1.length, r2.length] at hz
        exact op_cat pins s σ H _ _ v u Q I rx ry ⟨p, p', vs, vs', rfl, rfl, h1, h2, hz, post.list S q (r1.append r2)⟩
      · exact q.elim
    · exact q.elim
  · cases ra; cases rb
    exact op_add_ib pins s σ H _ _ v u Q I rx ry ⟨_, _, rfl, rfl, post.same S q (.int _)⟩
  · exact q.elim
theorem op_ii {f : Value → Value → Sem Value} {g : Int → Int → V} {k : D → D → LH → Res D} {gd : Int → Int → D} (C : Int → Int → Prop) (h : OpR X f (rI C g)) (hg : ∀ i j ms H, Rep G ms H (gd i j) (g i j))
    (hk : ∀ a b L, k a b L = .bad ∨ ∃ i j, a = .int i ∧ b = .int j ∧ C i j ∧ k a b L = .ok (gd i j) L) : Op2 X G W f k := by
  intro pins s σ H ms L a b x y v u Q I S ra rb rx ry q
  rcases hk a b L with e | ⟨i, j, rfl, rfl, c, e⟩
  · rw [e] at q; exact q.elim
  · rw [e] at q
    cases ra; cases rb
    exact h pins s σ H _ _ v u Q I rx ry ⟨i, j, rfl, rfl, c, post.same S q (hg i j ms H)⟩
theorem rI_of {f : Value → Value → Sem Value} {g : Int → Int → V} (h : OpR X f (rI0 g)) : OpR X f (rI (fun _ _ => True) g) := fun pins s σ H x y v u Q I rx ry ⟨i, j, e1, e2, _, q⟩ => h pins s σ H x y v u Q I rx ry ⟨i, j, e1, e2, q⟩
theorem op_oSub : Op2 X G W (binaryOp .Sub) oSub := op_ii (gd := fun i j => .int (i - j)) _ (rI_of op_sub) (fun _ _ _ _ => .int _) fun a b L => by
  unfold oSub; split
  · exact .inr ⟨_, _, rfl, rfl, trivial, rfl⟩
  · exact .inl rfl
theorem op_oDiv : Op2 X G W (binaryOp .FloorDiv) oDiv := op_ii (gd := fun i j => .int (i / j)) _ op_fdiv (fun _ _ _ _ => .int _) fun a b L => by
  unfold oDiv; split
  · split
    · rename_i h; exact .inr ⟨_, _, rfl, rfl, h, rfl⟩
    · exact .inl rfl
  · exact .inl rfl
theorem op_oMod : Op2 X G W (binaryOp .Mod) oMod := op_ii (gd := fun i j => .int (i % j)) _ op_mod (fun _ _ _ _ => .int _) fun a b L => by
  unfold oMod; split
  · split
    · rename_i h; exact .inr ⟨_, _, rfl, rfl, h, rfl⟩
    · exact .inl rfl
  · exact .inl rfl
theorem op_oPow : Op2 X G W (binaryOp .Pow) oPow := op_ii (gd := fun i j => .int (i ^ j.toNat)) _ op_pow (fun _ _ _ _ => .int _) fun a b L => by
  unfold oPow; split
  · split
    · rename_i h; exact .inr ⟨_, _, rfl, rfl, h, rfl⟩
    · exact .inl rfl
  · exact .inl rfl
theorem op_oShl : Op2 X G W (binaryOp .LShift) oShl := op_ii (gd := fun i j => .int (i * 2 ^ j.toNat)) _ op_shl (fun _ _ _ _ => .int _) fun a b L => by
  unfold oShl; split
  · split
    · rename_i h; exact .inr ⟨_, _, rfl, rfl, h, rfl⟩
    · exact .inl rfl
  · exact .inl rfl
theorem op_oShr : Op2 X G W (binaryOp .RShift) oShr := op_ii (gd := fun i j => .int (i / 2 ^ j.toNat)) _ op_shr (fun _ _ _ _ => .int _) fun a b L => by
  unfold oShr; split
  · split
    · rename_i h; exact .inr ⟨_, _, rfl, rfl, h, rfl⟩
    · exact .inl rfl
  · exact .inl rfl
theorem op_oBand : Op2 X G W (binaryOp .BitAnd) oBand := op_ii (gd := fun i j => .int (Builtin.bitAnd i j)) _ (rI_of op_and) (fun _ _ _ _ => .int _) fun a b L => by
  unfold oBand; split
  · exact .inr ⟨_, _, rfl, rfl, trivial, rfl⟩
  · exact .inl rfl
theorem op_oLt : Op2 X G W (compareOp .Lt) oLt := op_ii (gd := fun i j => .bl (decide (i < j))) _ (rI_of op_lt) (fun _ _ _ _ => .bl _) fun a b L => by
  unfold oLt; split
  · exact .inr ⟨_, _, rfl, rfl, trivial, rfl⟩
  · exact .inl rfl
theorem op_oLe : Op2 X G W (compareOp .LtE) oLe := op_ii (gd := fun i j => .bl (decide (i ≤ j))) _ (rI_of op_le) (fun _ _ _ _ => .bl _) fun a b L => by
  unfold oLe; split
  · exact .inr ⟨_, _, rfl, rfl, trivial, rfl⟩
  · exact .inl rfl
theorem op_oGt : Op2 X G W (compareOp .Gt) oGt := op_ii (gd := fun i j => .bl (decide (j < i))) _ (rI_of op_gt) (fun _ _ _ _ => .bl _) fun a b L => by
  unfold oGt; split
  · exact .inr ⟨_, _, rfl, rfl, trivial, rfl⟩
  · exact .inl rfl
theorem op_oGe : Op2 X G W (compareOp .GtE) oGe := op_ii (gd := fun i j => .bl (decide (j ≤ i))) _ (rI_of op_ge) (fun _ _ _ _ => .bl _) fun a b L => by
  unfold oGe; split
  · exact .inr ⟨_, _, rfl, rfl, trivial, rfl⟩
  · exact .inl rfl

/-! ### data at any depth -/
mutual
theorem toP_ok {ms : List Addr} {L : LH} {H : Hp} (S : Sees G ms L H) : ∀ (n : Nat) (d : D) (v : V) (p : PyData), toP n L d = some p → Rep G ms H d v → Dp G.K H v p ∧ p.canLay0 = true ∧ p.depth ≤ n
  | 0, _, _, _, h, _ => by cases h
  | n + 1, .non, _, _, h, r => by
    cases h; cases r
    exact ⟨.non, by simp [PyData.canLay0], by simp [PyData.depth]⟩
  | n + 1, .bl b, _, _, h, r => by
    cases h; cases r
    exact ⟨.bl b, by simp [PyData.canLay0], by simp [PyData.depth]⟩
  | n + 1, .int i, _, _, h, r => by
    cases h; cases r
    exact ⟨.int i, by simp [PyData.canLay0], by simp [PyData.depth]⟩
  | n + 1, .str x, _, _, h, r => by
    unfold toP at h
    by_cases hx : PyData.strOk x = true
    · simp only [hx, if_true] at h
      cases h; cases r
      exact ⟨.str x, by simpa [PyData.canLay0] using hx, by simp [PyData.depth]⟩
    · simp only [hx] at h; cases h
  | n + 1, .tup l, _, _, h, r => by
    unfold toP at h
    dsimp only at h
    cases e : mapO (toP n L) l with
    | none => rw [e] at h; cases h
    | some ps =>
      rw [e] at h; cases h
      cases r with
      | tup h1 r1 =>
        obtain ⟨q1, q2, q3⟩ := toPs_ok S n l _ ps e r1
        exact ⟨.tup h1 q1, by simpa [PyData.canLay0] using q2, by simp only [PyData.depth]; omega⟩
  | n + 1, .rol _, _, _, h, _ => by cases h
  | n + 1, .ref k, _, _, h, r => by
    unfold toP at h
    dsimp only at h
    split at h
    · rename_i xs ek
      cases e : mapO (toP n L) xs with
      | none => rw [e] at h; cases h
      | some ps =>
        rw [e] at h; cases h
        obtain ⟨a, rfl, _, vs, h1, r1⟩ := S.ref ek r
        obtain ⟨q1, q2, q3⟩ := toPs_ok S n xs _ ps e r1
        exact ⟨.lst (SqL.of h1) q1, by simpa [PyData.canLay0] using q2, by simp only [PyData.depth]; omega⟩
    · cases h
  | n + 1, .fn _, _, _, h, _ => by cases h
theorem toPs_ok {ms : List Addr} {L : LH} {H : Hp} (S : Sees G ms L H) : ∀ (n : Nat) (l : List D) (vs : List V) (ps : List PyData), mapO (toP n L) l = some ps → Reps G ms H l vs → DpAll G.K H vs ps ∧ PyData.canLayAll0 ps = true ∧ PyData.depthAll ps ≤ n
  | n, [], _, _, h, r => by
    cases h; cases r
    exact ⟨.nil, by simp [PyData.canLayAll0], by simp [PyData.depthAll]⟩
  | n, d :: l, _, _, h, r => by
    unfold mapO at h
    cases e1 : toP n L d with
    | none => rw [e1] at h; cases h
    | some p =>
      rw [e1] at h
      dsimp only at h
      cases e2 : mapO (toP n L) l with
      | none => rw [e2] at h; cases h
      | some ps =>
        rw [e2] at h; cases h
        cases r with
        | cons r1 r2 =>
          obtain ⟨a1, a2, a3⟩ := toP_ok S n d _ p e1 r1
          obtain ⟨b1, b2, b3⟩ := toPs_ok S n l _ ps e2 r2
          exact ⟨.cons a1 b1, by simp [PyData.canLayAll0, a2, b2], by simp only [PyData.depthAll]; omega⟩
end
theorem op_oEq (hK : X.K = G.K) (hu : X.A.units + 64 < cLine) : Op2 X G W (compareOp .Eq) oEq := by
  intro pins s σ H ms L a b x y v u Q I S ra rb rx ry q
  unfold oEq eqD at q
  cases e1 : toP 60 L a with
  | none => rw [e1] at q; exact q.elim
  | some p =>
    rw [e1] at q
    dsimp only at q
    cases e2 : toP 60 L b with
    | none => rw [e2] at q; exact q.elim
    | some p' =>
      rw [e2] at q
      obtain ⟨a1, a2, a3⟩ := toP_ok S 60 a x p e1 ra
      obtain ⟨b1, b2, b3⟩ := toP_ok S 60 b y p' e2 rb
      refine op_eqD hu pins s σ H x y v u Q I rx ry ⟨p, p', hK ▸ a1, hK ▸ b1, ?_, ?_, post.same S q (.bl _)⟩
      · unfold SeqAt.shaped; rw [a2, decide_eq_true (by omega)]; rfl
      · unfold SeqAt.shaped; rw [b2, decide_eq_true (by omega)]; rfl
theorem op_oNe (hK : X.K = G.K) (hu : X.A.units + 64 < cLine) : Op2 X G W (compareOp .NotEq) oNe := by
  intro pins s σ H ms L a b x y v u Q I S ra rb rx ry q
  unfold oNe eqD at q
  cases e1 : toP 60 L a with
  | none => rw [e1] at q; exact q.elim
  | some p =>
    rw [e1] at q
    dsimp only at q
    cases e2 : toP 60 L b with
    | none => rw [e2] at q; exact q.elim
    | some p' =>
      rw [e2] at q
      obtain ⟨a1, a2, a3⟩ := toP_ok S 60 a x p e1 ra
      obtain ⟨b1, b2, b3⟩ := toP_ok S 60 b y p' e2 rb
      refine op_neD hu pins s σ H x y v u Q I rx ry ⟨p, p', hK ▸ a1, hK ▸ b1, ?_, ?_, post.same S q (.bl _)⟩
      · unfold SeqAt.shaped; rw [a2, decide_eq_true (by omega)]; rfl
      · unfold SeqAt.shaped; rw [b2, decide_eq_true (by omega)]; rfl
theorem rep_non {ms : List Addr} {H : Hp} {d : D} {v : V} (r : Rep G ms H d v) : decide (v = .non) = isNon d := by
  cases r <;> simp [isNon]
theorem op_oIs : Op2 X G W (compareOp .Is) oIs := by
  intro pins s σ H ms L a b x y v u Q I S ra rb rx ry q
  unfold oIs at q
  cases h : isD a b with
  | none => rw [h] at q; exact q.elim
  | some c =>
    rw [h] at q
    unfold isD at h
    split at h
    · cases h; cases rb
      exact op_isN pins s σ H _ _ v u Q I rx ry ⟨rfl, by rw [rep_non ra]; exact post.same S q (.bl _)⟩
    · cases h; cases ra; cases rb
      exact op_isBl pins s σ H _ _ v u Q I rx ry ⟨_, _, rfl, rfl, post.same S q (.bl _)⟩
    · cases h
theorem op_oIsNot : Op2 X G W (compareOp .IsNot) oIsNot := by
  intro pins s σ H ms L a b x y v u Q I S ra rb rx ry q
  unfold oIsNot at q
  cases h : isD a b with
  | none => rw [h] at q; exact q.elim
  | some c =>
    rw [h] at q
    unfold isD at h
    split at h
    · cases h; cases rb
      exact op_notN pins s σ H _ _ v u Q I rx ry ⟨rfl, by rw [rep_non ra]; exact post.same S q (.bl _)⟩
    · cases h; cases ra; cases rb
      exact op_notBl pins s σ H _ _ v u Q I rx ry ⟨_, _, rfl, rfl, post.same S q (.bl _)⟩
    · cases h
theorem op_oNeg : Op1 X G W (unaryOp .USub) oNeg := by
  intro pins s σ H ms L a x v Q I S ra rx q
  unfold oNeg at q
  split at q
  · cases ra
    exact un_neg pins s σ H _ v Q I rx ⟨_, rfl, post.same S q (.int _)⟩
  · exact q.elim

/-! ### tests -/
theorem tru_D {ms : List Addr} {L : LH} {H : Hp} {d : D} {v : V} {k : Bool} (hK : X.K = G.K) (S : Sees G ms L H) (r : Rep G ms H d v) (h : truthD L d = some k) : TruV X.K v H k := by
  unfold truthD at h
  split at h
  · cases h; cases r; rfl
  · cases h; cases r; rfl
  · cases h; cases r; rfl
  · cases r
    split at h
    · rename_i hz
      cases h
      refine ⟨hz, ?_⟩
      rename_i y
      cases e : y.length with
      | zero => rfl
      | succ n => simp; omega
    · cases h
  · cases h
    cases r with
    | tup h1 r1 =>
      refine .inr (.inl ⟨_, hK ▸ h1, ?_⟩)
      cases r1 <;> rfl
  · split at h
    · rename_i xs ek
      cases h
      obtain ⟨a, rfl, _, vs, h1, r1⟩ := S.ref ek r
      refine .inl ⟨_, SqL.of h1, ?_⟩
      cases r1 <;> rfl
    · rename_i kvs ek
      cases h
      obtain ⟨a, rfl, _, ks, h1, r1, _⟩ := S.ref ek r
      refine .inr (.inr ⟨ks, h1, ?_⟩)
      cases r1 <;> rfl
    · cases h
  · cases h
  · cases h
theorem rt_truth {a : Expr} {fa : FE} (hK : X.K = G.K) (ha : PE X a (upE G W R fa)) (he : ∀ whole, isTrue a X.env whole = (do let v ← whole; standAt a.pos; holding [v] (truthy v))) : PT X a (upT G W R (tV fa)) :=
  ptOf (pt_truth ha he) fun σ H Q ⟨ms, L, ρ, S, e, q⟩ => by
    obtain ⟨ms0, L0, ρ0, S0, e0, q0⟩ := midE (f := fa) S e q
    refine ⟨ms0, L0, ρ0, S0, e0, q0.imp (fun v H1 ⟨ms1, L1, d, r, m⟩ => ?_) fun _ _ _ z => z⟩
    have q1 := m.post
    cases h : truthD L1 d with
    | none => rw [h] at q1; exact q1.elim
    | some k =>
      rw [h] at q1
      exact ⟨k, tru_D hK m.sees r h, q1 ms1 H1 k (Ext.refl _ _) m.sees rfl⟩
/-- a comparison that gives a bool, as a test -/
theorem rt_cmp {a b : Expr} {fa fb : FE} {op : CmpOp} {g : D → D → LH → Res D} {pos : Pos} (hK : X.K = G.K) (ho : Op2 X G W (compareOp op) g) (ha : PE X a (upE G W R fa)) (hb : PE X b (upE G W R fb)) (hm : behindInMarks op b = false) : PT X (.Compare a [op] [b] pos) (upT G W R (tV (e2 g fa fb))) := by
  refine ⟨fun pins s σ H Q I h => ?_⟩
  obtain ⟨ms, L, ρ, S, e, q⟩ := h
  have q' := midE (f := e2 g fa fb) S e q
  refine wpAny_isTrue_Compare1 (thn (run2 ha hb ho I q') fun v s1 h1 => thn h1 fun u s2 h2 => thn h2 fun c s3 ⟨x, H1, I1, r1, ms1, L1, d, rx, m⟩ => ?_) hm
  have q1 := m.post
  cases h : truthD L1 d with
  | none => rw [h] at q1; exact q1.elim
  | some k =>
    rw [h] at q1
    exact tru_ok pins s3 σ H1 x c Q I1 r1 ⟨k, tru_D hK m.sees rx h, q1 ms1 H1 k (Ext.refl _ _) m.sees rfl⟩
theorem rt_and1 {a : Expr} {fa : FT} {pos} (ha : PT X a (upT G W R fa)) : PW X (.BoolOp .And [a] pos) (upT G W R fa) := pw_and1 ha
theorem rt_or1 {a : Expr} {fa : FT} {pos} (ha : PT X a (upT G W R fa)) : PW X (.BoolOp .Or [a] pos) (upT G W R fa) := pw_or1 ha
theorem rt_and {a b : Expr} {rest : List Expr} {fa fb : FT} {pos} (ha : PT X a (upT G W R fa)) (hb : PW X (.BoolOp .And (b :: rest) pos) (upT G W R fb)) : PW X (.BoolOp .And (a :: b :: rest) pos) (upT G W R (tAnd fa fb)) :=
  pwOf (pw_and ha hb) fun σ H Q ⟨ms, L, ρ, S, e, q⟩ => by
    obtain ⟨ms0, L0, ρ0, S0, e0, q0⟩ := midT (f := fa) S e q
    refine ⟨ms0, L0, ρ0, S0, e0, q0.imp (fun c H1 ⟨ms1, L1, m⟩ => ?_) fun _ _ _ z => z⟩
    have q1 := m.post
    cases c with
    | true => exact iteT ⟨ms1, L1, ρ, m.sees, m.env, q1⟩
    | false => exact iteF (q1 ms1 H1 false (Ext.refl _ _) m.sees rfl)
theorem rt_or {a b : Expr} {rest : List Expr} {fa fb : FT} {pos} (ha : PT X a (upT G W R fa)) (hb : PW X (.BoolOp .Or (b :: rest) pos) (upT G W R fb)) : PW X (.BoolOp .Or (a :: b :: rest) pos) (upT G W R (tOr fa fb)) :=
  pwOf (pw_or ha hb) fun σ H Q ⟨ms, L, ρ, S, e, q⟩ => by
    obtain ⟨ms0, L0, ρ0, S0, e0, q0⟩ := midT (f := fa) S e q
    refine ⟨ms0, L0, ρ0, S0, e0, q0.imp (fun c H1 ⟨ms1, L1, m⟩ => ?_) fun _ _ _ z => z⟩
    have q1 := m.post
    cases c with
    | true => exact iteT (q1 ms1 H1 true (Ext.refl _ _) m.sees rfl)
    | false => exact iteF ⟨ms1, L1, ρ, m.sees, m.env, q1⟩
theorem rt_not {a : Expr} {fa : FT} {pos} (ha : PT X a (upT G W R fa)) : PT X (.UnaryOp .Not a pos) (upT G W R (tNot fa)) :=
  ptOf (pt_not ha) fun σ H Q ⟨ms, L, ρ, S, e, q⟩ => by
    obtain ⟨ms0, L0, ρ0, S0, e0, q0⟩ := midT (f := fa) S e q
    refine ⟨ms0, L0, ρ0, S0, e0, q0.imp (fun c H1 ⟨ms1, L1, m⟩ => ?_) fun _ _ _ z => z⟩
    exact m.post ms1 H1 _ (Ext.refl _ _) m.sees rfl
theorem re_if {c a b : Expr} {fc : FT} {fa fb : FE} {pos} (hc : PT X c (upT G W R fc)) (ha : PE X a (upE G W R fa)) (hb : PE X b (upE G W R fb)) : PE X (.IfExp c a b pos) (upE G W R (eIf fc fa fb)) :=
  peOf (pe_ifExp hc ha hb) fun σ H Q ⟨ms, L, ρ, S, e, q⟩ => by
    obtain ⟨ms0, L0, ρ0, S0, e0, q0⟩ := midT (f := fc) S e q
    refine ⟨ms0, L0, ρ0, S0, e0, q0.imp (fun c H1 ⟨ms1, L1, m⟩ => ?_) fun _ _ _ z => z⟩
    have q1 := m.post
    cases c with
    | true => exact iteT ⟨ms1, L1, ρ, m.sees, m.env, q1⟩
    | false => exact iteF ⟨ms1, L1, ρ, m.sees, m.env, q1⟩
/-- and, or as values -/
theorem re_one {op} {a : Expr} {fa : FE} {pos} (ha : PE X a (upE G W R fa)) : PE X (.BoolOp op [a] pos) (upE G W R fa) := pe_one ha
theorem re_and {a b : Expr} {rest : List Expr} {fa fb : FE} {pos} (hK : X.K = G.K) (ha : PE X a (upE G W R fa)) (hb : PE X (.BoolOp .And (b :: rest) pos) (upE G W R fb)) : PE X (.BoolOp .And (a :: b :: rest) pos) (upE G W R (eAnd fa fb)) :=
  peOf (pe_andT ha hb) fun σ H Q ⟨ms, L, ρ, S, e, q⟩ => by
    obtain ⟨ms0, L0, ρ0, S0, e0, q0⟩ := midE (f := fa) S e q
    refine ⟨ms0, L0, ρ0, S0, e0, q0.imp (fun v H1 ⟨ms1, L1, d, r, m⟩ => ?_) fun _ _ _ z => z⟩
    have q1 := m.post
    cases h : truthD L1 d with
    | none => rw [h] at q1; exact q1.elim
    | some k =>
      rw [h] at q1
      refine ⟨k, tru_D hK m.sees r h, ?_⟩
      cases k with
      | true => exact iteT ⟨ms1, L1, ρ, m.sees, m.env, q1⟩
      | false => exact iteF (post.same m.sees q1 r)
theorem re_or {a b : Expr} {rest : List Expr} {fa fb : FE} {pos} (hK : X.K = G.K) (ha : PE X a (upE G W R fa)) (hb : PE X (.BoolOp .Or (b :: rest) pos) (upE G W R fb)) : PE X (.BoolOp .Or (a :: b :: rest) pos) (upE G W R (eOr fa fb)) :=
  peOf (pe_orT ha hb) fun σ H Q ⟨ms, L, ρ, S, e, q⟩ => by
    obtain ⟨ms0, L0, ρ0, S0, e0, q0⟩ := midE (f := fa) S e q
    refine ⟨ms0, L0, ρ0, S0, e0, q0.imp (fun v H1 ⟨ms1, L1, d, r, m⟩ => ?_) fun _ _ _ z => z⟩
    have q1 := m.post
    cases h : truthD L1 d with
    | none => rw [h] at q1; exact q1.elim
    | some k =>
      rw [h] at q1
      refine ⟨k, tru_D hK m.sees r h, ?_⟩
      cases k with
      | true => exact iteT (post.same m.sees q1 r)
      | false => exact iteF ⟨ms1, L1, ρ, m.sees, m.env, q1⟩
theorem re_not {a : Expr} {fa : FE} {pos} (hK : X.K = G.K) (ha : PE X a (upE G W R fa)) : PE X (.UnaryOp .Not a pos) (upE G W R (eNot fa)) :=
  peOf (pe_notT ha) fun σ H Q ⟨ms, L, ρ, S, e, q⟩ => by
    obtain ⟨ms0, L0, ρ0, S0, e0, q0⟩ := midE (f := fa) S e q
    refine ⟨ms0, L0, ρ0, S0, e0, q0.imp (fun v H1 ⟨ms1, L1, d, r, m⟩ => ?_) fun _ _ _ z => z⟩
    have q1 := m.post
    cases h : truthD L1 d with
    | none => rw [h] at q1; exact q1.elim
    | some k =>
      rw [h] at q1
      exact ⟨k, tru_D hK m.sees r h, post.same m.sees q1 (.bl _)⟩
end
end PD
/-! P3: subscripts, slices, attributes, calls. -/
namespace PD
open PySem PySem.Spec PyProof.Rows L2

theorem ixOf_eq (n : Nat) (i : Int) : ixOf n i = L2.ixN n i := rfl
theorem cIx_eq (n d : Nat) (o : Option Int) : cIx n d o = HT.sIx n d o := by cases o <;> rfl
theorem cut_eq (xs : List V) (lo hi : Option Int) : cut xs lo hi = cutV xs lo hi := by unfold cut cutV; rw [cIx_eq, cIx_eq]
theorem Reps.cut {G : Sta} {ms : List Addr} {H : Hp} {l : List D} {vs : List V} (r : Reps G ms H l vs) (lo hi : Option Int) : Reps G ms H (PD.cut l lo hi) (cutV vs lo hi) := by
  rw [← cut_eq]
  unfold PD.cut
  rw [← r.length]
  exact (r.drop _).take _
theorem Reps.at_ {G : Sta} {ms : List Addr} {H : Hp} {l : List D} {vs : List V} (r : Reps G ms H l vs) {i : Int} {d : D} (h : (ixOf l.length i).bind (l[·]?) = some d) : ∃ v, atI vs i = some v ∧ Rep G ms H d v := by
  rw [ixOf_eq, r.length] at h
  unfold atI
  cases e : L2.ixN vs.length i with
  | none => rw [e] at h; cases h
  | some j =>
    rw [e] at h
    exact r.get h

section
variable (X : Cx) (G : Sta) (W : WX)
/-- a subscript by values -/
def OpI (g : D → D → LH → Res D) : Prop :=
  ∀ (value slice : Expr) (pins : List (Addr × Obj)) (s : Shared) (σ : L2.St) (H : Hp) (ms : List Addr) (L : LH) (a b : D) (x y : V) (v u : Value) (Q : VK), Inv X pins σ H s → Sees G ms L H → Rep G ms H a x → Rep G ms H b y → RelV x v → RelV y u →
    post G ms H (Rep G) Q (WE W σ) (g a b L) → subscripted slice false v u = operate [v, u] (getItem v u) → wpAny (model X.prog X.w) X.A (subscriptTail value slice v u) (EP X pins σ Q) X.xe s
end
section
variable {X : Cx} {G : Sta} {W : WX} {R : Rec}
theorem op_oIx (hK : X.K = G.K) (hu : X.A.units + 64 < cLine) : OpI X G W oIx := by
  intro value slice pins s σ H ms L a b x y v u Q I S ra rb rx ry q hs
  unfold oIx at q
  split at q
  · rename_i l i
    cases rb
    cases ra with
    | @tup p vs l' h1 r1 =>
      split at q
      · rename_i d e
        obtain ⟨w', e', r'⟩ := r1.at_ e
        exact ix_tup value slice pins s σ H _ _ v u Q I rx ry ⟨p, vs, i, w', rfl, rfl, hK ▸ h1, e', post.same S q r'⟩ hs
      · exact q.elim
  · rename_i z i
    cases ra; cases rb
    split at q
    · rename_i hz
      split at q
      · rename_i c e
        exact ix_str value slice pins s σ H _ _ v u Q I rx ry ⟨z, i, c, rfl, rfl, hz, e, post.same S q (.str _)⟩ hs
      · exact q.elim
    · exact q.elim
  · rename_i n
    split at q
    · rename_i xs en
      obtain ⟨p, rfl, e1, vs, h1, r1⟩ := S.ref en ra
      split at q
      · rename_i i
        cases rb
        split at q
        · rename_i d e
          obtain ⟨w', e', r'⟩ := r1.at_ e
          exact ix_list value slice pins s σ H _ _ v u Q I rx ry ⟨p, vs, i, w', rfl, rfl, SqL.of h1, e', post.same S q r'⟩ hs
        · exact q.elim
      · exact q.elim
    · rename_i kvs en
      obtain ⟨p, rfl, e1, ks, h1, r1, nd⟩ := S.ref en ra
      split at q
      · rename_i hf
        split at q
        · rename_i d hd
          obtain ⟨key, hk⟩ := keyFits_leaf hf
          cases keyD_rep hk rb
          obtain rfl : v = Value.ref p := rx
          rcases r1.look hk with ⟨d', v', e2, e3, r'⟩ | ⟨e2, _⟩
          · rw [hd] at e2; cases e2
            have g : DGet H p (kV key) (some v') := by rw [← e3]; exact DGet.k h1
            exact tail_any (dict_typeIs I g) PySem.F.slot_dict_getitem.lookup (d_getItem (by omega) I g ry fun w' s3 I3 rw' => ⟨v', H, I3, rw', post.same S q r'⟩) hs
          · rw [hd] at e2; cases e2
        · exact q.elim
      · exact q.elim
    · exact q.elim
  · exact q.elim
theorem plainIx {b : Expr} (h : ∀ l u s p, b ≠ .Slice l u s p) : PlainIx b := by
  intro o i
  cases b <;> first
    | rfl
    | exact absurd rfl (h _ _ _ _)
theorem re_ix {a b : Expr} {fa fb : FE} {pos : Pos} (hK : X.K = G.K) (hu : X.A.units + 64 < cLine) (ha : PE X a (upE G W R fa)) (hb : PE X b (upE G W R fb)) (hs : PlainIx b) : PE X (.Subscript a b pos) (upE G W R (e2 oIx fa fb)) := by
  refine ⟨fun pins s σ H Q I h => ?_⟩
  obtain ⟨ms, L, ρ, S, e, q⟩ := h
  refine Subscript_ ?_
  refine thn (ha.run pins s σ H _ I (midE (f := fa) S e q)) fun v s1 ⟨x, H1, I1, r1, ms1, L1, d1, rx, m⟩ => ?_
  refine thn (hb.run pins s1 σ H1 _ I1 (midE (f := fb) m.sees m.env m.post)) fun u s2 ⟨y, H2, I2, r2, ms2, L2, d2, ry, m2⟩ => ?_
  exact op_oIx hK hu a b pins s2 σ H2 ms2 L2 d1 d2 x y v u Q I2 m2.sees (m2.rep m.sees.fine rx) ry r1 r2 m2.post (hs _ _)

/-! ### slices -/
def upO (G : Sta) (W : WX) (R : Rec) (f : FO) : TO := fun σ H Q => ∃ ms L ρ, Sees G ms L H ∧ EnvOk G ms H ρ σ ∧ post G ms H (fun _ _ (a b : Option Int) => a = b) Q (WE W σ) (f R ρ L)
theorem poOf {e : Option Expr} {t t' : TO} (h : PO X e t) (hi : ∀ σ H Q, t' σ H Q → t σ H Q) : PO X e t' := ⟨fun pins s σ H Q I q => h.run pins s σ H Q I (hi σ H Q q)⟩
theorem ro_none : PO X none (upO G W R bNo) := poOf po_none fun σ H Q ⟨ms, L, ρ, S, e, q⟩ => q ms H none (Ext.refl _ _) S rfl
theorem ro_some {a : Expr} {fa : FE} (ha : PE X a (upE G W R fa)) : PO X (some a) (upO G W R (bAt fa)) := poOf (po_some ha) fun σ H Q ⟨ms, L, ρ, S, e, q⟩ => by
  obtain ⟨ms0, L0, ρ0, S0, e0, q0⟩ := midE (f := fa) S e q
  refine ⟨ms0, L0, ρ0, S0, e0, q0.imp (fun v H1 ⟨ms1, L1, d, r, m⟩ => ?_) fun _ _ _ z => z⟩
  have q1 := m.post
  split at q1
  · cases r
    exact ⟨_, rfl, q1 ms1 H1 _ (Ext.refl _ _) m.sees rfl⟩
  · exact q1.elim
theorem midO {σ : L2.St} {H : Hp} {ms : List Addr} {L : LH} {ρ : Slt} {γ δ : Type} {R2 : List Addr → Hp → γ → δ → Prop} {Q : δ → Hp → Prop} {f : FO} {k : Option Int → LH → Res γ} (S : Sees G ms L H) (e : EnvOk G ms H ρ σ) (h : post G ms H R2 Q (WE W σ) ((f R ρ L).bind k)) :
    upO G W R f σ H fun v H1 => ∃ ms1 L1, Mid G W ρ σ R2 Q ms H ms1 H1 L1 (k v L1) :=
  ⟨ms, L, ρ, S, e, (post.bind h).imp (fun v H1 ⟨ms1, L1, d, x, s, r, q⟩ => by
    cases (show d = v from r)
    exact ⟨ms1, L1, x, s, e.ext x S.fine, post.ext x q⟩) fun _ _ _ z => z⟩
/-- a slice of a text -/
theorem cutS_eq (z : Str) (lo hi : Option Int) : (⟨(cut z.cps.toList lo hi).toArray⟩ : Str) = cutS z lo hi := by
  unfold cut cutS
  simp only [cIx_eq, Array.length_toList]
  rfl
theorem op_oSl (hK : X.K = G.K) {lo hi : Option Int} {pins : List (Addr × Obj)} {s : Shared} {σ : L2.St} {H : Hp} {ms : List Addr} {L : LH} {a : D} {x : V} {v vl vu : Value} {sl : Addr} {Q : VK} (I : Inv X pins σ H s) (S : Sees G ms L H) (ra : Rep G ms H a x) (rx : RelV x v)
    (hs : s.heap.IsSliceOf sl vl vu .none) (pl : IsPart vl lo) (pu : IsPart vu hi) (q : post G ms H (Rep G) Q (WE W σ) (oSl a lo hi L)) :
    ∃ T id, typeLookup (.type T) "__getitem__" = pure (some (.builtin id)) ∧ s.TypeIs v T ∧ wpAny (model X.prog X.w) X.A (getItem v (.ref sl)) (EP X pins σ Q) X.xe s := by
  unfold oSl at q
  split at q
  · rename_i l0
    cases ra with
    | @tup p vs l' h1 r1 =>
      refine sl_tupA pins s σ H _ v vl vu lo hi sl Q I rx hs pl pu ⟨p, vs, rfl, hK ▸ h1, fun hw => ?_, fun _ => post.tuple S q (r1.cut lo hi)⟩
      have e : PD.cut l0 lo hi = l0 := by
        unfold PD.cut
        rw [cIx_eq, cIx_eq, r1.length, hw.1, hw.2, List.drop_zero, Nat.sub_zero, ← r1.length, List.take_length]
      rw [e] at q
      exact post.same S q (.tup h1 r1)
  · rename_i n
    split at q
    · rename_i xs en
      obtain ⟨p, rfl, e1, vs, h1, r1⟩ := S.ref en ra
      exact sl_list pins s σ H _ v vl vu lo hi sl Q I rx hs pl pu ⟨p, vs, rfl, SqL.of h1, post.list S q (r1.cut lo hi)⟩
    · exact q.elim
  · rename_i z
    split at q
    · rename_i hz
      cases ra
      refine sl_str pins s σ H _ v vl vu lo hi sl Q I rx hs pl pu ⟨z, rfl, hz, ?_⟩
      rw [← cutS_eq]
      exact post.same S q (.str _)
    · exact q.elim
  · exact q.elim
theorem re_sl {a : Expr} {lo hi : Option Expr} {fa : FE} {fl fh : FO} {p2 pos : Pos} (hK : X.K = G.K) (ha : PE X a (upE G W R fa)) (hl : PO X lo (upO G W R fl)) (hu : PO X hi (upO G W R fh)) : PE X (.Subscript a (.Slice lo hi none p2) pos) (upE G W R (eSl fa fl fh)) := by
  refine ⟨fun pins s σ H Q I h => ?_⟩
  obtain ⟨ms, L, ρ, S, e, q⟩ := h
  refine Subscript_ (thn (ha.run pins s σ H _ I (midE (f := fa) S e q)) fun v s1 ⟨x, H1, I1, r1, ms1, L1, d1, rx, m⟩ => ?_)
  refine wpAny_Slice (thn (hl.run pins s1 σ H1 _ I1 (midO (f := fl) m.sees m.env m.post)) fun vl s2 ⟨l, H2, I2, pl, ms2, L2, m2⟩ => thn (hu.run pins s2 σ H2 _ I2 (midO (f := fh) m2.sees m2.env m2.post)) fun vu s3 ⟨u, H3, I3, pu, ms3, L3, m3⟩ => ?_)
  rw [evalPart_none]
  refine wpAny_pure ?_
  have I4 : Inv X pins σ H3 { s3 with heap := s3.heap.push { cls := .type "slice", data := .fields #[vl, vu, .none] } } := I3.kept (t' := s3.toks) fun b ob q => Heap.get?_push_of_some _ q
  obtain ⟨T, id, hT, ht, hg⟩ := op_oSl (W := W) hK I4 m3.sees (m3.rep m2.sees.fine (m2.rep m.sees.fine rx)) r1 (Heap.IsSliceOf.new ..) pl pu m3.post
  exact tail_any (ops := [.ref s3.heap.objs.size, v]) ht hT hg (by with_unfolding_all rfl)

/-! ### attributes -/
/-- what the classes of the program have -/
structure FldOk (G : Sta) (cs : List Nat) (f : Str) : Prop where
  cl : ∀ c ∈ cs, Cls G.K (G.CA c)
  no : ∀ c ∈ cs, NoAttr G.K (G.CA c) f
theorem re_fld {o : Expr} {fo : FE} {cs : List Nat} {f : Str} {pos : Pos} (hK : X.K = G.K) (F : FldOk G cs f) (ho : PE X o (upE G W R fo)) (hb : attributeBase o f X.env (eval o X.env) = eval o X.env) : PE X (.Attribute o f pos) (upE G W R (e1 (oFld cs f) fo)) :=
  peOf (pe_fld ho hb) fun σ H Q ⟨ms, L, ρ, S, e, q⟩ => by
    obtain ⟨ms0, L0, ρ0, S0, e0, q0⟩ := midE (f := fo) S e q
    refine ⟨ms0, L0, ρ0, S0, e0, q0.imp (fun v H1 ⟨ms1, L1, d, r, m⟩ => ?_) fun _ _ _ z => z⟩
    have q1 := m.post
    unfold oFld at q1
    split at q1
    · rename_i n
      split at q1
      · rename_i c fs en
        split at q1
        · rename_i hc
          split at q1
          · rename_i d' e'
            obtain ⟨p, rfl, e1, dx, vs, h1, r1⟩ := m.sees.ref en r
            obtain ⟨w', e2, r2⟩ := r1.lookup e'
            have hm : c ∈ cs := by simpa using hc
            exact ⟨p, G.CA c, dx, vs, w', rfl, h1, hK ▸ F.cl c hm, hK ▸ F.no c hm, e2, post.same m.sees q1 r2⟩
          · exact q1.elim
        · exact q1.elim
      · exact q1.elim
    · exact q1.elim
end
end PD
/-! P4: defs that keep what their combinators say; their calls. -/
namespace PD
open PySem PySem.Spec PyProof.Rows L2

/-- as FnOk, where no guard stands around (so that repr may be asked) -/
structure FnG (P : Program) (w : World) (K : PySem.W.Frag) (mg : Str → Option Value) (base : Heap) (k : Nat) (f : Addr) (fd : FuncData) (ps : List Str) (sp : Sp) : Prop where
  len : ∀ vs H Q E, sp vs H Q E → vs.length = ps.length
  run : ∀ (A : Around) (outer : List PySem.Env) (s : Shared) (H : Hp) (args : Args) (us : List Value) (vs : List V) (Q : VK) (E : XK), Room k A → A.guards = some [] → Env0 P w K mg base A outer s H →
    BindsTo s fd args (ps.zip us) → Vals vs us → sp vs H Q E → codeAny (model P w) A (.call (.ref f) args) (CR (L2.CX P w) outer P w H s Q E) s

/-- from a body -/
theorem FnG.of {P : Program} {w : World} {K : PySem.W.Frag} {mg : Str → Option Value} {base : Heap} {x qual : Str} {params : Arguments} {body : List Stmt} {scope : Scope} {dvs : List V} {kws : List (Str × V)} {f : Addr} {fd : FuncData} {N ps : List Str} {k : Nat} {sp : Sp}
    (F : FunD K x qual params body scope dvs kws f fd) (S : FnScope N ps scope) (len : ∀ vs H Q E, sp vs H Q E → vs.length = ps.length)
    (hbody : ∀ (cdv : Value) (A : Around) (outer : List PySem.Env) (s : Shared) (H : Hp) (vs : List V) (Q : VK) (E : XK), Room k (A.deeper (envOfC qual scope s.heap.objs.size f cdv)) → A.guards = some [] → sp vs H Q E →
      ∃ t, PSs (cxOf (L2.CX P w) P w K mg base N qual scope f cdv A outer s H E) body t ∧ t { nx := fun _ H' => Q .non H', rt := Q } (start N vs) H) :
    FnG P w K mg base (k + 1) f fd ps sp := by
  obtain ⟨oc, od, dV, kV, doc, pm, an, cdv, ct, osl, rfl, lk, hcd, _, _⟩ := F.ex
  refine ⟨len, fun A outer s H args us vs Q E hr hg e0 hb r hsp => ?_⟩
  have hl := len _ _ _ _ hsp
  have kin := e0.mod.kin.keeps (fun b o e => (e0.bs b o e).1)
  have kinds : ∀ y ∈ ps.zip us, scope.names.lookup y.1 = some .local ∨ (scope.names.lookup y.1 = some .cell ∧ ((cellsFrom (s.heap.objs.size + 1) scope.names []).lookup y.1).isSome = true) := by
    rintro ⟨n, v⟩ hy
    rcases S.par n (List.of_mem_zip hy).1 with q | q
    · exact .inl q
    · exact .inr ⟨q, PySem.W.cellsFrom_some _ _ _ (.inl q)⟩
  refine codeAny_call_function hr.depth (kin _ _ lk) rfl S.co S.gen rfl (PySem.W.codeRec_of kin hcd) (hb _ _ _ _ (wpAny_newFunctionEnv_cells S.kind kinds fun env he s1 x => ?_))
  subst he
  refine ⟨(e0.mod.nolimit.keeps fun b o e => (e0.bs b o e).1).keeps x.toInCall.keep, codeAny_func ?_⟩
  obtain ⟨t, ht, hq⟩ := hbody cdv A outer s H vs Q E (hr.deeper _) hg hsp
  refine wpAny_mono (ht.run [] s1 (start N vs) H _ (inv_start S hr.hd e0 hl r x) hq) (fun fl s' hs => ?_) fun e s' hs => hs
  cases fl with
  | ret u =>
    obtain ⟨v, σ', H', J, rv, q⟩ := hs
    exact ⟨v, H', J.os, J.bare, J.base, J.hok, rv, q⟩
  | next =>
    obtain ⟨σ', H', J, q⟩ := hs
    exact ⟨V.non, H', J.os, J.bare, J.base, J.hok, rfl, q⟩
  | brk =>
    obtain ⟨_, _, _, q⟩ := hs
    exact q.elim
  | cont =>
    obtain ⟨_, _, _, q⟩ := hs
    exact q.elim
theorem FnG.mono {P : Program} {w : World} {K : PySem.W.Frag} {mg : Str → Option Value} {base : Heap} {j k : Nat} {f : Addr} {fd : FuncData} {ps : List Str} {sp : Sp} (F : FnG P w K mg base j f fd ps sp) (h : j ≤ k) : FnG P w K mg base k f fd ps sp :=
  ⟨F.len, fun A outer s H args us vs Q E hr => F.run A outer s H args us vs Q E (hr.mono h)⟩

/-- what a def's promise is: what its combinator says -/
def spOf (G : Sta) (m : Nat) (r : List D → LH → Res D) : Sp := fun vs H Q E => vs.length = m ∧ ∃ ms L ds, Sees G ms L H ∧ Reps G ms H ds vs ∧ post G ms H (Rep G) Q E (r ds L)

/-- a callee, as a caller needs it -/
structure CalleeP (P : Program) (w : World) (K : PySem.W.Frag) (mg : Str → Option Value) (base : Heap) (G : Sta) (k : Nat) (f : Addr) (ps : List Str) (r : List D → LH → Res D) : Prop where
  ok : ∃ fd, FnG P w K mg base k f fd ps (spOf G ps.length r) ∧ Binds K fd ps []
  kp : PySem.W.keepIn K (.ref f) = true
abbrev Callee (X : Cx) (G : Sta) (k : Nat) (f : Addr) (ps : List Str) (r : List D → LH → Res D) : Prop := CalleeP X.prog X.w X.K X.mg X.base G k f ps r

section
variable {X : Cx} {G : Sta} {W : WX} {R : Rec} {k : Nat} {f : Addr} {ps : List Str} {r : List D → LH → Res D}
theorem CalleeP.run (C : Callee X G k f ps r) (hr : Room k X.A) (hg : X.A.guards = some []) (tk : Takes X W) {pins : List (Addr × Obj)} {σ : L2.St} {H : Hp} {s : Shared} {Q : VK} {us : List Value} {vs : List V} {ms : List Addr} {L : LH} {ds : List D}
    (I : Inv X pins σ H s) (rv : Vals vs us) (S : Sees G ms L H) (rs : Reps G ms H ds vs) (hn : ds.length = ps.length) (q : post G ms H (Rep G) Q (WE W σ) (r ds L)) : wpAny (model X.prog X.w) X.A (call (.ref f) us) (EP X pins σ Q) X.xe s := by
  obtain ⟨⟨fd, F, hb⟩, _⟩ := C
  have hl : us.length = ps.length := by rw [← rv.length, ← rs.length]; exact hn
  have b := hb s us I.kIn (by rw [List.append_nil]; exact hl)
  rw [List.append_nil] at b
  refine wpAny_call (codeAny_mono (F.run X.A X.stack s H ⟨us, []⟩ us vs Q (WE W σ) hr hg I.env0 b rv ⟨by rw [← rs.length]; exact hn, ms, L, ds, S, rs, q⟩) fun res s' hq => ?_)
  cases res with
  | error e => exact passAt tk σ pins H s e s' I hq
  | ok fl =>
    cases fl with
    | ret u => exact I.after hq
    | next => exact False.elim hq
    | brk => exact False.elim hq
    | cont => exact False.elim hq
/-- the arguments are as many as the parameters, or nothing is said -/
def fits (m : Nat) (r : List D → LH → Res D) : Prop := ∀ ds L, ds.length ≠ m → r ds L = .bad

theorem starEach_plain {e : Expr} {es : List Expr} {env : PySem.Env} (h : ∀ v p, e ≠ .Starred v p) : starEach (e :: es) env = (false, eval e env) :: starEach es env := by
  cases e <;> first
    | rfl
    | exact absurd rfl (h _ _)
/-- no star among the arguments -/
def plainArgs (es : List Expr) : Bool := es.all fun e => match e with
  | .Starred _ _ => false
  | _ => true
theorem plain_ne {e : Expr} {es : List Expr} (h : plainArgs (e :: es) = true) : (∀ v p, e ≠ .Starred v p) ∧ plainArgs es = true := by
  unfold plainArgs at h
  rw [List.all_cons, Bool.and_eq_true] at h
  refine ⟨fun v p z => ?_, h.2⟩
  subst z
  exact absurd h.1 Bool.false_ne_true
theorem plain_any {pos : Pos} {env : PySem.Env} : ∀ {es : List Expr}, plainArgs es = true → (backTo pos (starEach es env)).any (·.1) = false
  | [], _ => rfl
  | e :: es, h => by
    obtain ⟨h1, h2⟩ := plain_ne h
    rw [starEach_plain h1]
    show (false || (backTo pos (starEach es env)).any (·.1)) = false
    rw [plain_any h2]; rfl

theorem CalleeP.mid (C : Callee X G k f ps r) (hfit : fits ps.length r) (hr : Room k X.A) (hg : X.A.guards = some []) (tk : Takes X W) {pins : List (Addr × Obj)} {σ : L2.St} {H H1 : Hp} {s : Shared} {Q : VK} {us : List Value} {vs : List V} {ms ms1 : List Addr} {L1 : LH} {ρ : Slt} {ds : List D}
    (I : Inv X pins σ H1 s) (rv : Vals vs us) (rs : Reps G ms1 H1 ds vs) (m : Mid G W ρ σ (Rep G) Q ms H ms1 H1 L1 (r ds L1)) : wpAny (model X.prog X.w) X.A (call (.ref f) us) (EP X pins σ Q) X.xe s := by
  by_cases hn : ds.length = ps.length
  · exact C.run hr hg tk I rv m.sees rs hn m.post
  · have q1 := m.post
    rw [hfit ds L1 hn] at q1
    exact q1.elim
/-- f(e, ..), f a def of the module -/
theorem re_call {i : Nat} {x : Str} {p pos : Pos} {e0 : Expr} {es : List Expr} {fa : FA} (C : Callee X G k f ps (R i)) (hfit : fits ps.length (R i)) (hr : Room k X.A) (hg : X.A.guards = some []) (tk : Takes X W) (hx : Gl X x) (hm : X.mg x = some (.ref f))
    (ha : PA X (e0 :: es) (upA G W R fa)) (hp : plainArgs (e0 :: es) = true) (hdb : (x == ("__debug__" : Str)) = false) : PE X (.Call (.Name x p) (e0 :: es) [] pos) (upE G W R (eCall i fa)) := by
  refine ⟨fun pins s σ H Q I ⟨ms, L, ρ, S, e, q⟩ => ?_⟩
  obtain ⟨h1, h2⟩ := plain_ne hp
  refine wpAny_Call_Name_kw (ld_glob I hx hm ?_ hdb)
  exact PySem.W.callWith_K (h₀ := X.base) I.ok.mod.kin C.kp (thn (ha.run pos pins s σ H _ I (midA (f := fa) S e q)) fun us s1 ⟨vs, H1, I1, rv, ms1, L1, ds, rs, m⟩ => ⟨I1.kIn, C.mid hfit hr hg tk I1 rv rs m⟩) (starEach_plain h1) (plain_any h2)
theorem re_call0 {i : Nat} {x : Str} {p pos : Pos} (C : Callee X G k f ps (R i)) (hfit : fits ps.length (R i)) (hr : Room k X.A) (hg : X.A.guards = some []) (tk : Takes X W) (hx : Gl X x) (hm : X.mg x = some (.ref f))
    (hdb : (x == ("__debug__" : Str)) = false) : PE X (.Call (.Name x p) [] [] pos) (upE G W R (eCall i aNil)) := by
  refine ⟨fun pins s σ H Q I ⟨ms, L, ρ, S, e, q⟩ => ?_⟩
  refine wpAny_Call_Name_kw (ld_glob I hx hm (PySem.W.callWith_K0 I.kIn C.kp ?_) hdb)
  exact C.mid (us := []) hfit hr hg tk I .nil .nil ⟨Ext.refl _ _, S, e, q⟩

/-- which defs the method m is, by the class -/
structure Disp (X : Cx) (G : Sta) (R : Rec) (k : Nat) (m : Str) (tb : List (Nat × Nat)) : Prop where
  at_ : ∀ c i, tb.lookup c = some i → Cls X.K (G.CA c) ∧ ∃ f ps, Meth X.K (G.CA c) m f ∧ Callee X G k f ps (R i) ∧ fits ps.length (R i)
/-- o.m(..) -/
theorem re_meth {m : Str} {tb : List (Nat × Nat)} {o : Expr} {fo : FE} {es : List Expr} {fa : FA} {pos apos : Pos} {pl : Sem Bool} (D0 : Disp X G R k m tb) (hr : Room k X.A) (hg : X.A.guards = some []) (tk : Takes X W) (ho : PE X o (upE G W R fo)) (ha : PA X es (upA G W R fa)) (hp : plainArgs es = true)
    (hnil : es = [] → fa = aNil)
    (ht : eval (.Call (.Attribute o m apos) es [] pos) X.env = (do
      let ov ← eval o X.env
      standAt apos.atName
      let (f, first) ← holding [ov] (getMethod ov m pl)
      callWith pos f first (backTo pos (starEach es X.env)) (backToKw pos (keywordEach [] X.env)))) :
    PE X (.Call (.Attribute o m apos) es [] pos) (upE G W R (eMeth m tb fo fa)) := by
  refine ⟨fun pins s σ H Q I ⟨ms, L, ρ, S, e, q⟩ => ?_⟩
  refine PySem.W.methodCall_KW (pl := pl) (thn (ho.run pins s σ H _ I (midE (f := fo) S e q)) fun u s1 ⟨x, H1, I1, rx, ms1, L1, d, rd, m1⟩ => ?_) ht
  have q1 := m1.post
  split at q1
  · rename_i n
    split at q1
    · rename_i c fs en
      split at q1
      · rename_i i ei
        split at q1
        · rename_i hno
          obtain ⟨p, rfl, e1, dx, vs, h1, r1⟩ := m1.sees.ref en rd
          obtain rfl : u = Value.ref p := rx
          obtain ⟨cl, f, ps, hm, C, hfit⟩ := D0.at_ c i ei
          have hl : vs.lookup m = none := r1.none (Option.isNone_iff_eq_none.mp hno)
          refine getmeth_ok I1 h1 cl hm hl ?_
          have m1' : Mid G W ρ σ (Rep G) Q ms H ms1 H1 L1 ((fa R ρ L1).bind fun xs L2 => R i (.ref n :: xs) L2) := ⟨m1.ext, m1.sees, m1.env, q1⟩
          cases es with
          | nil =>
            cases hnil rfl
            exact PySem.W.callWith_K0 (first := [.ref p]) I1.kIn hm.kp (C.mid (us := [.ref p]) (vs := [.ref p]) hfit hr hg tk I1 (.cons rfl .nil) (.cons rd .nil) ⟨m1.ext, m1.sees, m1.env, q1⟩)
          | cons e0 es0 =>
            obtain ⟨z1, z2⟩ := plain_ne hp
            refine PySem.W.callWith_K (first := [.ref p]) (h₀ := X.base) I.ok.mod.kin hm.kp (thn (ha.run pos pins s1 σ H1 _ I1 (midA (f := fa) m1.sees m1.env m1'.post)) fun us s2 ⟨ws, H2, I2, rv, ms2, L2, ds, rs, m2⟩ => ⟨I2.kIn, ?_⟩) (starEach_plain z1) (plain_any z2)
            exact C.mid (us := .ref p :: us) (vs := .ref p :: ws) hfit hr hg tk I2 (.cons rfl rv) (.cons (m2.rep m1.sees.fine rd) rs) m2
        · exact q1.elim
      · exact q1.elim
    · exact q1.elim
  · exact q1.elim
theorem make_guards {A : Around} {C : Addr} {us : List Value} {kw : List (Str × Value)} (h : A.guards = some []) : (A.under (.builtin "type.__call__" ⟨.ref C :: us, kw⟩)).guards = some [] := by
  simp [Around.under, Code.guards, Code.isGuard, guardIds, pushGuards, h]
/-- C(e, ..), C an own class with an __init__ -/
theorem re_make {c i : Nat} {x : Str} {p pos : Pos} {e0 : Expr} {es : List Expr} {fa : FA} {fI : Addr} (M : Mk X.K (G.CA c) fI) (C : Callee X G k fI ps (R i)) (hfit : fits ps.length (R i)) (hr : Room (k + 1) X.A) (hg : X.A.guards = some []) (tk : Takes X W) (hx : Gl X x) (hm : X.mg x = some (.ref (G.CA c)))
    (ha : PA X (e0 :: es) (upA G W R fa)) (hp : plainArgs (e0 :: es) = true) (hdb : (x == ("__debug__" : Str)) = false) : PE X (.Call (.Name x p) (e0 :: es) [] pos) (upE G W R (eMake c i fa)) := by
  refine ⟨fun pins s σ H Q I ⟨ms, L, ρ, S, e, q⟩ => ?_⟩
  obtain ⟨h1, h2⟩ := plain_ne hp
  refine wpAny_Call_Name_kw (ld_glob I hx hm ?_ hdb)
  refine PySem.W.callWith_K (h₀ := X.base) I.ok.mod.kin M.kp (thn (ha.run pos pins s σ H _ I (midA (f := fa) S e q)) fun us s1 ⟨vs, H1, I1, rv, ms1, L1, ds, rs, m⟩ => ⟨I1.kIn, ?_⟩) (starEach_plain h1) (plain_any h2)
  have I2 := Inv.made (C := G.CA c) I1
  have f1 : H1 (s1.heap.objs.size + 1) = none := I1.hok.fresh (Nat.le_succ _)
  have f0 : H1 s1.heap.objs.size = none := I1.hok.fresh (Nat.le_refl _)
  have ne01 : s1.heap.objs.size + 1 ≠ s1.heap.objs.size := by omega
  have f1' : upd H1 s1.heap.objs.size (HO.own (s1.heap.objs.size + 1)) (s1.heap.objs.size + 1) = none := by rw [upd_ne ne01]; exact f1
  have S1 := m.sees.fresh (o := .own (s1.heap.objs.size + 1)) f0
  have x1 : Ext ms1 H1 ms1 _ := Ext.fresh (o := .own (s1.heap.objs.size + 1)) f0
  have S2 := S1.push (c := .ins c []) (o := .ins (G.CA c) s1.heap.objs.size []) f1' True.intro ⟨_, [], upd_same, .nil⟩
  have x2 := x1.trans (Ext.push (o := .ins (G.CA c) s1.heap.objs.size []) f1')
  have q1 := post.ext x2 m.post
  have self : Rep G (ms1 ++ [s1.heap.objs.size + 1]) (upd (upd H1 s1.heap.objs.size (.own (s1.heap.objs.size + 1))) (s1.heap.objs.size + 1) (.ins (G.CA c) s1.heap.objs.size [])) (.ref L1.len) (.ref (s1.heap.objs.size + 1)) := .ref (by rw [get_app, if_pos m.sees.len.symm])
  have rs2 := Reps.ext x2 m.sees.fine _ _ rs
  by_cases hn : (D.ref L1.len :: ds).length = ps.length
  · obtain ⟨⟨fd, F, hb⟩, _⟩ := C
    have hus : (Value.ref (s1.heap.objs.size + 1) :: us).length = ps.length := by
      rw [List.length_cons, ← rv.length, ← rs.length]; exact hn
    have b := hb { s1 with heap := (s1.heap.push PySem.W.emptyDict).push (PySem.W.instObj (G.CA c) s1.heap.objs.size) } (Value.ref (s1.heap.objs.size + 1) :: us) I2.kIn (by rw [List.append_nil]; exact hus)
    rw [List.append_nil] at b
    have mid := post.bind (R1 := Rep G) q1
    refine wpAny_call (make_map (f := fI) I1.kIn M.makes M.init (beq_iff_eq.mp M.fn) (codeAny_mono (F.run _ X.stack _ _ ⟨Value.ref (s1.heap.objs.size + 1) :: us, []⟩ (Value.ref (s1.heap.objs.size + 1) :: us) (V.ref (s1.heap.objs.size + 1) :: vs) _ (WE W σ) (hr.make (G.CA c) us [])
      (make_guards hg) (I2.env0.make (G.CA c) us []) b (.cons rfl rv) ⟨by rw [List.length_cons, ← rs.length]; exact hn, _, _, _, S2, .cons self rs2, mid⟩) fun res s' hq' => ?_))
    cases res with
    | error e => exact passAt tk σ pins _ _ e s' I2 hq'
    | ok fl =>
      cases fl with
      | ret u =>
        obtain ⟨v, H', I3, rvv, ms3, L3, d3, x3, S3, r3, q3'⟩ := I2.after hq'
        have q3 := post.ext x3 q3'
        cases d3 with
        | non =>
          cases r3
          exact ⟨rvv, ⟨V.ref (s1.heap.objs.size + 1), H', I3, rfl, post.same S3 q3 (.ref (x3.pre _ _ (by rw [get_app, if_pos m.sees.len.symm])))⟩⟩
        | _ => exact q3.elim
      | next => exact False.elim hq'
      | brk => exact False.elim hq'
      | cont => exact False.elim hq'
  · rw [hfit _ _ hn] at q1
    exact q1.elim
end
end PD
/-! P5: what is walked, targets, comprehensions, statements. -/
namespace PD
open PySem PySem.Spec PyProof.Rows L2

/-- a walk's turns, told by place -/
def Itr.nx : Itr → LH → Nat → Option (Option D)
  | .pur xs => fun _ i => some xs[i]?
  | .dyn nx _ => nx
def Itr.bnd : Itr → Nat
  | .pur xs => xs.length + 1
  | .dyn _ k => k
theorem forPur_dyn (b : D → Slt → LH → Res (Fl × Slt)) (xs : List D) : ∀ (r : List D) (i : Nat) (ρ : Slt) (L : LH), xs.drop i = r → forPur b r ρ L = forDyn b (fun _ i => some xs[i]?) (r.length + 1) i ρ L
  | [], i, ρ, L, h => by
    have e : xs[i]? = none := by
      rw [List.getElem?_eq_none_iff]
      exact List.drop_eq_nil_iff.mp h
    unfold forPur forDyn
    rw [e]
  | x :: r, i, ρ, L, h => by
    have e : xs[i]? = some x := by
      have h2 := congrArg (fun l => l[0]?) h
      simpa [List.getElem?_drop] using h2
    have e2 : xs.drop (i + 1) = r := by
      rw [← List.drop_drop, h]; rfl
    rw [forPur, List.length_cons, forDyn, e]
    dsimp only
    congr 1
    funext p L1
    rw [forPur_dyn b xs r (i + 1) p.2 L1 e2]
theorem forRun_dyn (b : D → Slt → LH → Res (Fl × Slt)) (j : Itr) (ρ : Slt) (L : LH) : forRun b j ρ L = forDyn b j.nx j.bnd 0 ρ L := by
  cases j with
  | pur xs => exact forPur_dyn b xs xs 0 ρ L rfl
  | dyn nx k => rfl
theorem lcPur_dyn (b : D → LH → Res (Option D)) (xs : List D) : ∀ (r : List D) (i : Nat) (acc : List D) (L : LH), xs.drop i = r → lcPur b r acc L = lcDyn b (fun _ i => some xs[i]?) (r.length + 1) i acc L
  | [], i, acc, L, h => by
    have e : xs[i]? = none := by
      rw [List.getElem?_eq_none_iff]
      exact List.drop_eq_nil_iff.mp h
    unfold lcPur lcDyn
    rw [e]
  | x :: r, i, acc, L, h => by
    have e : xs[i]? = some x := by
      have h2 := congrArg (fun l => l[0]?) h
      simpa [List.getElem?_drop] using h2
    have e2 : xs.drop (i + 1) = r := by
      rw [← List.drop_drop, h]; rfl
    rw [lcPur, List.length_cons, lcDyn, e]
    dsimp only
    congr 1
    funext o L1
    cases o with
    | none => exact lcPur_dyn b xs r (i + 1) acc L1 e2
    | some y =>
      dsimp only
      split
      · exact lcPur_dyn b xs r (i + 1) (acc ++ [y]) L1 e2
      · rfl
theorem lcRun_dyn (b : D → LH → Res (Option D)) (j : Itr) (L : LH) : lcRun b j L = lcDyn b j.nx j.bnd 0 [] L := by
  cases j with
  | pur xs => exact lcPur_dyn b xs xs 0 [] L rfl
  | dyn nx k => rfl

/-- an iterator of HandS walks as ours does, from here on -/
def ItOk (G : Sta) (ms : List Addr) (H : Hp) (j : Itr) (J : It) : Prop :=
  ∀ (ms' : List Addr) (L' : LH) (H' : Hp) (i : Nat), Ext ms H ms' H' → Sees G ms' L' H' → match j.nx L' i with
    | none => True
    | some none => J.stop i H'
    | some (some d) => J.go i H' ∧ ∀ x H'', J.yld i H' x H'' → Ext ms' H' ms' H'' ∧ Sees G ms' L' H'' ∧ Rep G ms' H'' d x
def upI (G : Sta) (W : WX) (R : Rec) (f : FI) : TI := fun σ H Q => ∃ ms L ρ, Sees G ms L H ∧ EnvOk G ms H ρ σ ∧ post G ms H (ItOk G) Q (WE W σ) (f R ρ L)
/-- Pr: what a target keeps of the slots -/
def upGp (Pr : L2.St → L2.St → Prop) (G : Sta) (W : WX) (R : Rec) (f : FG) : TG := fun v σ H Q => ∃ ms L ρ d, Sees G ms L H ∧ EnvOk G ms H ρ σ ∧ Rep G ms H d v ∧ post G ms H (fun ms H a b => EnvOk G ms H a b ∧ Pr σ b) Q (WE W σ) (f R d ρ L)
def upGs (Pr : L2.St → L2.St → Prop) (G : Sta) (W : WX) (R : Rec) (f : FGs) : TGs := fun vs σ H Q => ∃ ms L ρ ds, Sees G ms L H ∧ EnvOk G ms H ρ σ ∧ Reps G ms H ds vs ∧ post G ms H (fun ms H a b => EnvOk G ms H a b ∧ Pr σ b) Q (WE W σ) (f R ds ρ L)
abbrev PrT : L2.St → L2.St → Prop := fun _ _ => True
abbrev upG := upGp PrT
/-- a relation that targets may keep -/
structure PrOk (Pr : L2.St → L2.St → Prop) : Prop where
  rfl_ : ∀ σ, Pr σ σ
  trans : ∀ a b c, Pr a b → Pr b c → Pr a c
theorem prT : PrOk PrT := ⟨fun _ => trivial, fun _ _ _ _ _ => trivial⟩
/-- what is wanted behind a statement -/
def postS (G : Sta) (W : WX) (ms : List Addr) (H : Hp) (E : Ends) : Res (Fl × Slt) → Prop
  | .ok (.nx, ρ) L' => ∀ ms' H' σ', Ext ms H ms' H' → Sees G ms' L' H' → EnvOk G ms' H' ρ σ' → E.nx σ' H'
  | .ok (.rt d, _) L' => ∀ ms' H' v, Ext ms H ms' H' → Sees G ms' L' H' → Rep G ms' H' d v → E.rt v H'
  | .ok (.bk, ρ) L' => ∀ ms' H' σ', Ext ms H ms' H' → Sees G ms' L' H' → EnvOk G ms' H' ρ σ' → E.bk σ' H'
  | .ok (.ct, ρ) L' => ∀ ms' H' σ', Ext ms H ms' H' → Sees G ms' L' H' → EnvOk G ms' H' ρ σ' → E.ct σ' H'
  | .ok (.ex c fs, ρ) L' => ∀ ms' H' σ' cls dx, Ext ms H ms' H' → Sees G ms' L' H' → EnvOk G ms' H' ρ σ' → ExOk G ms' H' c fs cls dx → W cls dx σ' H'
  | .exc _ _ _ => False
  | .bad => False
def upS (G : Sta) (W : WX) (R : Rec) (f : FS) : TS := fun E σ H => ∃ ms L ρ, Sees G ms L H ∧ EnvOk G ms H ρ σ ∧ postS G W ms H E (f R ρ L)

theorem postS.ext {G : Sta} {W : WX} {ms ms1 : List Addr} {H H1 : Hp} {E : Ends} (x : Ext ms H ms1 H1) : ∀ {r : Res (Fl × Slt)}, postS G W ms H E r → postS G W ms1 H1 E r
  | .ok (.nx, _) _, h => fun ms' H' σ' e s r => h ms' H' σ' (x.trans e) s r
  | .ok (.rt _, _) _, h => fun ms' H' v e s r => h ms' H' v (x.trans e) s r
  | .ok (.bk, _) _, h => fun ms' H' σ' e s r => h ms' H' σ' (x.trans e) s r
  | .ok (.ct, _) _, h => fun ms' H' σ' e s r => h ms' H' σ' (x.trans e) s r
  | .ok (.ex _ _, _) _, h => fun ms' H' σ' c d e s r k => h ms' H' σ' c d (x.trans e) s r k
  | .exc _ _ _, h => h
  | .bad, h => h
section
variable {G : Sta} {W : WX} {R : Rec} {σ : L2.St} {H : Hp} {ms : List Addr} {L : LH} {ρ : Slt} {E : Ends}
theorem postS.st {α β : Type} {R1 : List Addr → Hp → α → β → Prop} {k : α → LH → Res (Fl × Slt)} (S : Sees G ms L H) (e : EnvOk G ms H ρ σ) : ∀ {r : Res α}, postS G W ms H E (r.st ρ k) →
    post G ms H R1 (fun v H1 => ∃ ms1 L1 a, Ext ms H ms1 H1 ∧ Sees G ms1 L1 H1 ∧ R1 ms1 H1 a v ∧ EnvOk G ms1 H1 ρ σ ∧ postS G W ms H E (k a L1)) (WE W σ) r
  | .ok a L1, h => fun ms1 H1 v x s r => ⟨ms1, L1, a, x, s, r, e.ext x S.fine, h⟩
  | .exc c fs L1, h => fun ms1 H1 cls dx x s r => h ms1 H1 σ cls dx x s (e.ext x S.fine) r
  | .bad, h => h
/-- an expression within a statement -/
theorem stE {f : FE} {k : D → LH → Res (Fl × Slt)} (S : Sees G ms L H) (e : EnvOk G ms H ρ σ) (h : postS G W ms H E ((f R ρ L).st ρ k)) :
    upE G W R f σ H fun v H1 => ∃ ms1 L1 d, Ext ms H ms1 H1 ∧ Sees G ms1 L1 H1 ∧ Rep G ms1 H1 d v ∧ EnvOk G ms1 H1 ρ σ ∧ postS G W ms H E (k d L1) := ⟨ms, L, ρ, S, e, postS.st S e h⟩
theorem stT {f : FT} {k : Bool → LH → Res (Fl × Slt)} (S : Sees G ms L H) (e : EnvOk G ms H ρ σ) (h : postS G W ms H E ((f R ρ L).st ρ k)) :
    upT G W R f σ H fun c H1 => ∃ ms1 L1, Ext ms H ms1 H1 ∧ Sees G ms1 L1 H1 ∧ EnvOk G ms1 H1 ρ σ ∧ postS G W ms H E (k c L1) :=
  ⟨ms, L, ρ, S, e, (postS.st (R1 := EqB) S e h).imp (fun c H1 ⟨ms1, L1, a, x, s, r, en, q⟩ => by
    cases (show a = c from r)
    exact ⟨ms1, L1, x, s, en, q⟩) fun _ _ _ z => z⟩
/-- one statement's result after another's -/
theorem postS.bind {F : Ends} {k : Fl × Slt → LH → Res (Fl × Slt)} {r : Res (Fl × Slt)} (h : postS G W ms H E (r.bind k))
    (hn : ∀ ρ1 L1 ms1 H1 σ1, Ext ms H ms1 H1 → Sees G ms1 L1 H1 → EnvOk G ms1 H1 ρ1 σ1 → postS G W ms H E (k (.nx, ρ1) L1) → F.nx σ1 H1)
    (hr : ∀ d ρ1 L1 ms1 H1 v, Ext ms H ms1 H1 → Sees G ms1 L1 H1 → Rep G ms1 H1 d v → postS G W ms H E (k (.rt d, ρ1) L1) → F.rt v H1)
    (hb : ∀ ρ1 L1 ms1 H1 σ1, Ext ms H ms1 H1 → Sees G ms1 L1 H1 → EnvOk G ms1 H1 ρ1 σ1 → postS G W ms H E (k (.bk, ρ1) L1) → F.bk σ1 H1)
    (hc : ∀ ρ1 L1 ms1 H1 σ1, Ext ms H ms1 H1 → Sees G ms1 L1 H1 → EnvOk G ms1 H1 ρ1 σ1 → postS G W ms H E (k (.ct, ρ1) L1) → F.ct σ1 H1)
    (he : ∀ c fs ρ1 L1, k (.ex c fs, ρ1) L1 = .ok (.ex c fs, ρ1) L1) : postS G W ms H F r := by
  cases r with
  | ok p L1 =>
    obtain ⟨fl, ρ1⟩ := p
    have h' : postS G W ms H E (k (fl, ρ1) L1) := h
    cases fl with
    | nx => exact fun ms' H' σ' x s e => hn ρ1 L1 ms' H' σ' x s e h'
    | rt d => exact fun ms' H' v x s e => hr d ρ1 L1 ms' H' v x s e h'
    | bk => exact fun ms' H' σ' x s e => hb ρ1 L1 ms' H' σ' x s e h'
    | ct => exact fun ms' H' σ' x s e => hc ρ1 L1 ms' H' σ' x s e h'
    | ex c fs =>
      rw [he] at h'
      exact h'
  | exc _ _ _ => exact h
  | bad => exact h
end

section
variable {X : Cx} {G : Sta} {W : WX} {R : Rec}
theorem psOf {st : Stmt} {t t' : TS} (h : PS X st t) (hi : ∀ E σ H, t' E σ H → t E σ H) : PS X st t' := ⟨fun pins s σ H E I q => h.run pins s σ H E I (hi E σ H q)⟩
theorem pssOf {st : List Stmt} {t t' : TS} (h : PSs X st t) (hi : ∀ E σ H, t' E σ H → t E σ H) : PSs X st t' := ⟨fun pins s σ H E I q => h.run pins s σ H E I (hi E σ H q)⟩
theorem piOf {tg e : Expr} {t t' : TI} (h : PI X tg e t) (hi : ∀ σ H Q, t' σ H Q → t σ H Q) : PI X tg e t' := ⟨fun pins s σ H Q I q => h.run pins s σ H Q I (hi σ H Q q)⟩
theorem pgOf {e : Expr} {t t' : TG} (h : PG X e t) (hi : ∀ v σ H Q, t' v σ H Q → t v σ H Q) : PG X e t' := ⟨fun pins s σ H v u Q I r q => h.run pins s σ H v u Q I r (hi v σ H Q q)⟩
theorem pgsOf {e : List Expr} {t t' : TGs} (h : PGs X e t) (hi : ∀ v σ H Q, t' v σ H Q → t v σ H Q) : PGs X e t' := ⟨fun pins s σ H v u Q I r q => h.run pins s σ H v u Q I r (hi v σ H Q q)⟩

/-! ### blocks -/
theorem rss_nil : PSs X [] (upS G W R sNext) := pssOf pss_nil fun E σ H ⟨ms, L, ρ, S, e, q⟩ => q ms H σ (Ext.refl _ _) S e
theorem rss_cons {st : Stmt} {rest : List Stmt} {fa fb : FS} (ha : PS X st (upS G W R fa)) (hb : PSs X rest (upS G W R fb)) : PSs X (st :: rest) (upS G W R (sSeq fa fb)) :=
  pssOf (pss_cons ha hb) fun E σ H ⟨ms, L, ρ, S, e, q⟩ => by
    refine ⟨ms, L, ρ, S, e, ?_⟩
    refine postS.bind (k := fun p L1 => match p.1 with
      | .nx => fb R p.2 L1
      | f => .ok (f, p.2) L1) q (fun ρ1 L1 ms1 H1 σ1 x s e1 q1 => ⟨ms1, L1, ρ1, s, e1, postS.ext x q1⟩) (fun d ρ1 L1 ms1 H1 v x s r q1 => q1 ms1 H1 v x s r)
      (fun ρ1 L1 ms1 H1 σ1 x s e1 q1 => q1 ms1 H1 σ1 x s e1) (fun ρ1 L1 ms1 H1 σ1 x s e1 q1 => q1 ms1 H1 σ1 x s e1) (fun c fs ρ1 L1 => rfl)
theorem rss_one {st : Stmt} {fa : FS} (ha : PS X st (upS G W R fa)) : PSs X [st] (upS G W R fa) := pss_one ha

/-! ### small statements -/
theorem rs_pass {pos} : PS X (.Pass pos) (upS G W R sNext) := psOf ps_pass fun E σ H ⟨ms, L, ρ, S, e, q⟩ => q ms H σ (Ext.refl _ _) S e
theorem rs_break {pos} : PS X (.Break pos) (upS G W R sBrk) := psOf ps_break fun E σ H ⟨ms, L, ρ, S, e, q⟩ => q ms H σ (Ext.refl _ _) S e
theorem rs_cont {pos} : PS X (.Continue pos) (upS G W R sCnt) := psOf ps_continue fun E σ H ⟨ms, L, ρ, S, e, q⟩ => q ms H σ (Ext.refl _ _) S e
theorem rs_retN {pos} : PS X (.Return none pos) (upS G W R sRetN) := psOf ps_retN fun E σ H ⟨ms, L, ρ, S, e, q⟩ => q ms H _ (Ext.refl _ _) S .non
theorem rs_ret {a : Expr} {fa : FE} {pos} (ha : PE X a (upE G W R fa)) : PS X (.Return (some a) pos) (upS G W R (sRet fa)) :=
  psOf (ps_ret ha) fun E σ H ⟨ms, L, ρ, S, e, q⟩ => by
    obtain ⟨ms0, L0, ρ0, S0, e0, q0⟩ := stE (f := fa) S e q
    exact ⟨ms0, L0, ρ0, S0, e0, q0.imp (fun v H1 ⟨ms1, L1, d, x, s, r, _, q1⟩ => q1 ms1 H1 v x s r) fun _ _ _ z => z⟩
theorem rs_expr {a : Expr} {fa : FE} {pos : Pos} (ha : PE X a (upE G W R fa)) (hs : swapsWith a none pos.line X.env = pure false) : PS X (.Expr a pos) (upS G W R (sExpr fa)) :=
  psOf (ps_expr ha hs) fun E σ H ⟨ms, L, ρ, S, e, q⟩ => by
    obtain ⟨ms0, L0, ρ0, S0, e0, q0⟩ := stE (f := fa) S e q
    exact ⟨ms0, L0, ρ0, S0, e0, q0.imp (fun v H1 ⟨ms1, L1, d, x, s, r, en, q1⟩ => q1 ms1 H1 σ x s en) fun _ _ _ z => z⟩
theorem rs_if {c : Expr} {a b : List Stmt} {fc : FT} {fa fb : FS} {pos} (hc : PT X c (upT G W R fc)) (ha : PSs X a (upS G W R fa)) (hb : PSs X b (upS G W R fb)) : PS X (.If c a b pos) (upS G W R (sIf fc fa fb)) :=
  psOf (ps_if hc ha hb) fun E σ H ⟨ms, L, ρ, S, e, q⟩ => by
    obtain ⟨ms0, L0, ρ0, S0, e0, q0⟩ := stT (f := fc) S e q
    refine ⟨ms0, L0, ρ0, S0, e0, q0.imp (fun v H1 ⟨ms1, L1, x, s, en, q1⟩ => ?_) fun _ _ _ z => z⟩
    cases v with
    | true => exact iteT ⟨ms1, L1, ρ, s, en, postS.ext x q1⟩
    | false => exact iteF ⟨ms1, L1, ρ, s, en, postS.ext x q1⟩

/-! ### targets -/
section
variable {Pr : L2.St → L2.St → Prop}
theorem rg_name {i : Nat} {e : Expr} (hp : ∀ σ v, Pr σ (σ.set i (some v))) (h : PG X e (gName i)) : PG X e (upGp Pr G W R (gNm i)) := pgOf h fun v σ H Q ⟨ms, L, ρ, d, S, e, r, q⟩ => q ms H _ (Ext.refl _ _) S ⟨e.set r i, hp σ v⟩
theorem rgs_nil (P : PrOk Pr) : PGs X [] (upGs Pr G W R gsNil) := pgsOf pgs_nil fun vs σ H Q ⟨ms, L, ρ, ds, S, e, r, q⟩ => by
  cases r with
  | nil => exact ⟨rfl, q ms H _ (Ext.refl _ _) S ⟨e, P.rfl_ σ⟩⟩
  | cons _ _ => exact q.elim
theorem rgs_cons {e : Expr} {es : List Expr} {g : FG} {gr : FGs} (P : PrOk Pr) (h1 : PG X e (upGp Pr G (fun _ _ _ _ => False) R g)) (h2 : PGs X es (upGs Pr G (fun _ _ _ _ => False) R gr)) (hs : (assignEach (e :: es) X.env).map (·.2) = assign e X.env :: (assignEach es X.env).map (·.2)) : PGs X (e :: es) (upGs Pr G (fun _ _ _ _ => False) R (gsCons g gr)) :=
  pgsOf (pgs_cons h1 h2 hs) fun vs σ H Q ⟨ms, L, ρ, ds, S, e, r, q⟩ => by
    cases r with
    | nil => exact q.elim
    | @cons d l v vs r1 r2 =>
      refine ⟨v, vs, rfl, ms, L, ρ, d, S, e, r1, (post.bind q).imp (fun σ1 H1 ⟨ms1, L1, ρ1, x, s, ⟨en, p1⟩, q1⟩ => ?_) fun _ _ _ z => z⟩
      refine ⟨ms1, L1, ρ1, l, s, en, Reps.ext x S.fine _ _ r2, ?_⟩
      have q2 := post.ext x q1
      cases hz : gr R l ρ1 L1 with
      | ok ρ2 L2 =>
        rw [hz] at q2
        exact fun ms' H' v x' s' ⟨e', p'⟩ => q2 ms' H' v x' s' ⟨e', P.trans _ _ _ p1 p'⟩
      | exc _ _ _ => rw [hz] at q2; exact fun ms' H' c d x' s' k => q2 ms' H' c d x' s' k
      | bad => rw [hz] at q2; exact q2
abbrev W0 : WX := fun _ _ _ _ => False
theorem rg_tup {es : List Expr} {j n : Nat} {gr : FGs} {pos : Pos} (hK : X.K = G.K) (hc : X.calm = true) (h : PGs X es (upGs Pr G W0 R gr)) (hn : (assignEach es X.env).length = n) (hst : (assignEach es X.env).findIdx? (·.1) = none) : PG X (.Tuple es j pos) (upGp Pr G W R (gTp n gr)) :=
  pgOf (pg_tup hc h hn hst) fun v σ H Q ⟨ms, L, ρ, d, S, e, r, q⟩ => by
    unfold gTp at q
    split at q
    · rename_i l
      cases r with
      | @tup a vs l h1 r1 =>
        split at q
        · rename_i hl
          refine ⟨a, vs, rfl, hK ▸ h1, by rw [← r1.length]; exact hl, ms, L, ρ, l, S, e, r1, ?_⟩
          cases hz : gr R l ρ L with
          | ok ρ1 L1 => rw [hz] at q; exact q
          | exc _ _ _ => rw [hz] at q; exact q.elim
          | bad => rw [hz] at q; exact q.elim
        · exact q.elim
    · exact q.elim
end
/-- a store by values -/
theorem set_oSet (hu : X.A.units + 64 < cLine) (hK : X.K = G.K) {pins : List (Addr × Obj)} {s : Shared} {σ : L2.St} {H : Hp} {ms : List Addr} {L : LH} {a b c : D} {x y z : V} {v u t : Value} {Q : Unit → Hp → Prop} {E : XK} (I : Inv X pins σ H s) (S : Sees G ms L H) (ra : Rep G ms H a x) (rb : Rep G ms H b y) (rc : Rep G ms H c z) (rx : RelV x v) (ry : RelV y u) (rz : RelV z t)
    (q : post G ms H (fun _ _ (_ _ : Unit) => True) Q E (oSet a b c L)) : wpAny (model X.prog X.w) X.A (setItem v u t) (fun _ s' => ∃ H', Inv X pins σ H' s' ∧ Q () H') X.xe s := by
  unfold oSet at q
  split at q
  · rename_i n
    split at q
    · rename_i xs en
      split at q
      · rename_i i
        split at q
        · rename_i j ej
          obtain ⟨p, rfl, e1, vs, h1, r1⟩ := S.ref en ra
          cases rb
          refine set_list pins s σ H _ _ z v u t _ I rx ry rz ⟨p, vs, i, j, rfl, rfl, h1, by rw [← r1.length, ← ixOf_eq]; exact ej, ?_⟩
          refine q ms _ () (Ext.put e1) (S.put e1 True.intro ⟨_, upd_same, ?_⟩) trivial
          exact Reps.ext (Ext.put e1) S.fine _ _ (Reps.set rc j r1)
        · exact q.elim
      · exact q.elim
    · rename_i kvs en
      obtain ⟨p, rfl, e1, ks, h1, r1, nd⟩ := S.ref en ra
      split at q
      · rename_i hf
        rw [Bool.and_eq_true] at hf
        obtain ⟨key, hk⟩ := keyFits_leaf hf.1
        cases keyD_rep hk rb
        obtain rfl : v = Value.ref p := rx
        have hl : ks.length < sizeLine := by rw [← r1.length]; exact of_decide_eq_true hf.2
        refine d_setItem (by omega) I (DPut.k h1 hl) ry rz fun s3 I3 => ⟨_, I3, ?_⟩
        refine q ms _ () (Ext.put e1) (S.put e1 True.intro ⟨_, upd_same, ?_, putK_keys nd⟩) trivial
        exact (KvRep.put hk rc r1 nd).kp ((Ext.put e1).kp S.fine)
      · exact q.elim
    · exact q.elim
  · exact q.elim
theorem rg_sub {o i : Expr} {fo fi : FE} {pos : Pos} (hK : X.K = G.K) (hu : X.A.units + 64 < cLine) (ho : PE X o (upE G W R fo)) (hi : PE X i (upE G W R fi))
    (ha : ∀ v, assign (.Subscript o i pos) X.env v = (do
      let ov ← holding [v] (eval o X.env)
      let iv ← holding [v, ov] (eval i X.env)
      standAt pos
      holding [v, ov, iv] (setItem ov iv v)
      release [v, ov, iv] [])) : PG X (.Subscript o i pos) (upG G W R (gSub fo fi)) := by
  refine ⟨fun pins s σ H v u Q I rv ⟨ms, L, ρ, d, S, e, r, q⟩ => ?_⟩
  rw [ha]
  refine wpAny_bind (wpAny_holding (thn (ho.run pins s σ H _ I (midE (f := fo) S e q)) fun ov s1 ⟨x, H1, I1, r1, ms1, L1, d1, rx, m1⟩ => ?_))
  refine wpAny_bind (wpAny_holding (thn (hi.run pins s1 σ H1 _ I1 (midE (f := fi) m1.sees m1.env m1.post)) fun iv s2 ⟨y, H2, I2, r2, ms2, L2, d2, ry, m2⟩ => ?_))
  have q2 := post.bind (R1 := fun _ _ (_ _ : Unit) => True) m2.post
  have rd : Rep G ms2 H2 d v := m2.rep m1.sees.fine (m1.rep S.fine r)
  refine wpAny_bind (wpAny_standAt (wpAny_bind (wpAny_holding (thn (set_oSet (z := v) (t := u) hu hK I2 m2.sees (m2.rep m1.sees.fine rx) ry rd r1 r2 rv q2) fun _ s3 ⟨H3, I3, ms3, L3, un, x3, S3, _, q3⟩ => ?_))))
  exact wpAny_release ⟨σ, H3, I3, q3 ms3 H3 σ x3 S3 ⟨m2.env.ext x3 m2.sees.fine, trivial⟩⟩

/-! ### assignments -/
theorem rs_asg {tg a : Expr} {fa : FE} {g : FG} {pos : Pos} (ha : PE X a (upE G W R fa)) (hg : PG X tg (upG G W R g)) (hs : swapsWithSole [tg] a pos.line X.env = pure false) (hw : swappedStores [tg] a X.env = pure none)
    (h1 : (assignEach [tg] X.env).map (·.2) = [assign tg X.env]) : PS X (.Assign [tg] a pos) (upS G W R (sAsg fa g)) :=
  psOf (ps_asg ha hg hs hw h1) fun E σ H ⟨ms, L, ρ, S, e, q⟩ => by
    obtain ⟨ms0, L0, ρ0, S0, e0, q0⟩ := stE (f := fa) S e q
    refine ⟨ms0, L0, ρ0, S0, e0, q0.imp (fun v H1 ⟨ms1, L1, d, x, s, r, en, q1⟩ => ?_) fun _ _ _ z => z⟩
    refine ⟨ms1, L1, ρ, d, s, en, r, (postS.st (R1 := fun ms H a b => EnvOk G ms H a b ∧ PrT σ b) s en (postS.ext x q1)).imp (fun σ2 H2 ⟨ms2, L2, ρ2, x2, s2, ⟨e2, _⟩, _, q2⟩ => ?_) fun _ _ _ z => z⟩
    exact q2 ms2 H2 σ2 x2 s2 e2
theorem rs_set {i : Nat} {x : Str} {a : Expr} {fa : FE} {pos pos' : Pos} (hN : X.N.Nodup) (hi : X.N[i]? = some x) (hx : Loc X.env.scope x) (ha : PE X a (upE G W R fa)) (hs : swapsWith a (some (.Name x pos')) pos.line X.env = pure false) (hf : X.fn x = true ∨ X.env.scope.names.lookup x = some .local) :
    PS X (.Assign [.Name x pos'] a pos) (upS G W R (sAsg fa (gNm i))) :=
  psOf (ps_set hN hi hx ha hs hf) fun E σ H ⟨ms, L, ρ, S, e, q⟩ => by
    obtain ⟨ms0, L0, ρ0, S0, e0, q0⟩ := stE (f := fa) S e q
    refine ⟨ms0, L0, ρ0, S0, e0, q0.imp (fun v H1 ⟨ms1, L1, d, x, s, r, en, q1⟩ => ?_) fun _ _ _ z => z⟩
    exact q1 ms1 H1 _ x s (en.set r i)
/-- a, b = e1, e2 with two plain names: no tuple is made; the combinator makes it all the same -/
theorem rs_par {i j : Nat} {x y : Str} {a b : Expr} {fa fb : FE} {px py pt pos : Pos} {kt k2 pt2} (hc : X.calm = true) (hN : X.N.Nodup) (hi : X.N[i]? = some x) (hj : X.N[j]? = some y) (hij : i ≠ j)
    (hx : X.env.scope.names.lookup x = some .local) (hy : X.env.scope.names.lookup y = some .local) (ha : PA X [a, b] (upA G W R (aCons fa (aCons fb aNil))))
    (hw : swappedStores [.Tuple [.Name x px, .Name y py] kt pt] (.Tuple [a, b] k2 pt2) X.env = pure (some [x, y]))
    (hs : swapsWithSole [.Tuple [.Name x px, .Name y py] kt pt] (.Tuple [a, b] k2 pt2) pos.line X.env = pure false) :
    PS X (.Assign [.Tuple [.Name x px, .Name y py] kt pt] (.Tuple [a, b] k2 pt2) pos) (upS G W R (sAsg (aApp (aCons fa (aCons fb aNil)) oTup) (gTp 2 (gsCons (gNm i) (gsCons (gNm j) gsNil))))) :=
  psOf (ps_par hc hN hi hj hij hx hy ha hw hs) fun E σ H ⟨ms, L, ρ, S, e, q⟩ => by
    have q' : postS G W ms H E (((aCons fa (aCons fb aNil)) R ρ L).st ρ fun ds L1 => (oTup ds L1).st ρ fun d L1 => (gTp 2 (gsCons (gNm i) (gsCons (gNm j) gsNil)) R d ρ L1).st ρ fun ρ1 L2 => .ok (.nx, ρ1) L2) := by
      have q1 := q
      unfold sAsg aApp at q1
      cases h : (aCons fa (aCons fb aNil)) R ρ L with
      | ok ds L1 => rw [h] at q1; exact q1
      | exc _ _ _ => rw [h] at q1; exact q1
      | bad => rw [h] at q1; exact q1
    refine ⟨ms, L, ρ, S, e, (postS.st (R1 := Reps G) S e q').imp (fun vs H1 ⟨ms1, L1, ds, x, s, r, en, q1⟩ => ?_) fun _ _ _ z => z⟩
    cases r with
    | nil => exact q1.elim
    | cons r1 r =>
      cases r with
      | nil => exact q1.elim
      | cons r2 r =>
        cases r with
        | nil => exact ⟨_, _, rfl, q1 ms1 H1 _ x s ((en.set r1 i).set r2 j)⟩
        | cons r3 r =>
          exfalso
          unfold oTup at q1
          split at q1
          · exact q1
          · exact q1
theorem rs_fldset {o a : Expr} {fo fa : FE} {cs : List Nat} {f : Str} {pos pos' : Pos} (hK : X.K = G.K) (F : FldOk G cs f) (ho : PE X o (upE G W R fo)) (ha : PE X a (upE G W R fa)) (hs : swapsWith a (some (.Attribute o f pos')) pos.line X.env = pure false) :
    PS X (.Assign [.Attribute o f pos'] a pos) (upS G W R (sFldSet cs f fo fa)) :=
  psOf (ps_fld ho ha hs) fun E σ H ⟨ms, L, ρ, S, e, q⟩ => by
    obtain ⟨ms0, L0, ρ0, S0, e0, q0⟩ := stE (f := fa) S e q
    refine ⟨ms0, L0, ρ0, S0, e0, q0.imp (fun v H1 ⟨ms1, L1, d, x, s, r, en, q1⟩ => ?_) fun _ _ _ z => z⟩
    obtain ⟨ms2, L2, ρ2, S2, e2, q2⟩ := stE (f := fo) s en (postS.ext x q1)
    refine ⟨ms2, L2, ρ2, S2, e2, q2.imp (fun w H2 ⟨ms3, L3, d3, x3, s3, r3, en3, q3⟩ => ?_) fun _ _ _ z => z⟩
    have rv := Rep.ext x3 s.fine _ _ r
    unfold oSetF at q3
    split at q3
    · rename_i n
      split at q3
      · rename_i c fs en'
        split at q3
        · rename_i hc
          rw [Bool.and_eq_true] at hc
          obtain ⟨p, rfl, e1, dx, vs, h1, r1⟩ := s3.ref en' r3
          have hm : c ∈ cs := by simpa using hc.1
          have hl : fs.length < 1000 := of_decide_eq_true hc.2
          refine ⟨p, G.CA c, dx, vs, rfl, h1, hK ▸ F.cl c hm, hK ▸ F.no c hm, by rw [← r1.length]; exact hl, ?_⟩
          have xp : Ext ms3 H2 ms3 (upd H2 p (.ins (G.CA c) dx (putF f v vs))) := Ext.put e1
          refine q3 ms3 _ σ (x3.trans xp) (s3.put e1 True.intro ⟨dx, _, upd_same, ?_⟩) (en3.ext xp s3.fine)
          exact Flds.put rv r1 |>.ext xp s3.fine
        · exact q3.elim
      · exact q3.elim
    · exact q3.elim

/-! ### for, while -/
theorem rs_for {tg iter : Expr} {body : List Stmt} {g : FG} {it : FI} {fb : FS} {pos : Pos} (hp : PassesOwn (model X.prog X.w) X.A X.env X.xe) (hc : X.calm = true) (hi : PI X tg iter (upI G W R it)) (hg : PG X tg (upG G W R g)) (hb : PSs X body (upS G W R fb)) (hs : ∀ x, foldedSetIterable iter X.env x = pure x) :
    PS X (.For tg iter body [] pos) (upS G W R (sFor g it fb)) :=
  psOf (ps_for hp hc hi hg hb hs) fun E σ H ⟨ms, L, ρ, S, e, q⟩ => by
    refine ⟨ms, L, ρ, S, e, (postS.st (R1 := ItOk G) S e q).imp (fun J H1 ⟨ms1, L1, j, x1, s1, itok, e1, q1⟩ => ?_) fun _ _ _ z => z⟩
    rw [forRun_dyn] at q1
    let b : D → Slt → LH → Res (Fl × Slt) := fun x ρ1 M => (g R x ρ1 M).st ρ1 fun ρ2 M1 => fb R ρ2 M1
    refine ⟨fun i m σ' H' => ∃ ms' L' ρ', Ext ms1 H1 ms' H' ∧ Sees G ms' L' H' ∧ EnvOk G ms' H' ρ' σ' ∧ postS G W ms' H' E (forDyn b j.nx m i ρ' L'), ⟨j.bnd, ms1, L1, ρ, Ext.refl _ _, s1, e1, postS.ext x1 q1⟩, ?_⟩
    rintro i m σ' H' ⟨ms', L', ρ', x', s', e', q'⟩
    cases m with
    | zero => exact q'.elim
    | succ k =>
      have ok := itok ms' L' H' i x' s'
      unfold forDyn at q'
      cases hn : j.nx L' i with
      | none => rw [hn] at q'; exact q'.elim
      | some o =>
        rw [hn] at q' ok
        cases o with
        | none => exact .inl ⟨ok, q' ms' H' σ' (Ext.refl _ _) s' e'⟩
        | some d =>
          refine .inr ⟨ok.1, fun σ2 H2 => ∃ ms2 L2 ρ2, Ext ms1 H1 ms2 H2 ∧ Sees G ms2 L2 H2 ∧ EnvOk G ms2 H2 ρ2 σ2 ∧ postS G W ms2 H2 E (forDyn b j.nx k (i + 1) ρ2 L2), fun σ2 H2 z => ⟨k, Nat.lt_succ_self _, z⟩, fun v H'' hy => ?_⟩
          obtain ⟨x2, s2, r2⟩ := ok.2 v H'' hy
          have q2 : postS G W ms' H'' E ((b d ρ' L').bind fun p L1 => match p.1 with
            | .nx => forDyn b j.nx k (i + 1) p.2 L1
            | .ct => forDyn b j.nx k (i + 1) p.2 L1
            | .bk => .ok (.nx, p.2) L1
            | f => .ok (f, p.2) L1) := postS.ext x2 q'
          have again : ∀ ρ3 L3 ms3 H3 σ3, Ext ms' H'' ms3 H3 → Sees G ms3 L3 H3 → EnvOk G ms3 H3 ρ3 σ3 → postS G W ms' H'' E (forDyn b j.nx k (i + 1) ρ3 L3) → ∃ ms2 L2 ρ2, Ext ms1 H1 ms2 H3 ∧ Sees G ms2 L2 H3 ∧ EnvOk G ms2 H3 ρ2 σ3 ∧ postS G W ms2 H3 E (forDyn b j.nx k (i + 1) ρ2 L2) :=
            fun ρ3 L3 ms3 H3 σ3 x3 s3 e3 q3 => ⟨ms3, L3, ρ3, (x'.trans x2).trans x3, s3, e3, postS.ext x3 q3⟩
          have q3 := postS.bind (F := { E with nx := fun σ2 H2 => ∃ ms2 L2 ρ2, Ext ms1 H1 ms2 H2 ∧ Sees G ms2 L2 H2 ∧ EnvOk G ms2 H2 ρ2 σ2 ∧ postS G W ms2 H2 E (forDyn b j.nx k (i + 1) ρ2 L2), ct := fun σ2 H2 => ∃ ms2 L2 ρ2, Ext ms1 H1 ms2 H2 ∧ Sees G ms2 L2 H2 ∧ EnvOk G ms2 H2 ρ2 σ2 ∧ postS G W ms2 H2 E (forDyn b j.nx k (i + 1) ρ2 L2), bk := E.nx }) q2
            (fun ρ3 L3 ms3 H3 σ3 x3 s3 e3 q3 => again ρ3 L3 ms3 H3 σ3 x3 s3 e3 q3) (fun d3 ρ3 L3 ms3 H3 v3 x3 s3 r3 q3 => q3 ms3 H3 v3 x3 s3 r3) (fun ρ3 L3 ms3 H3 σ3 x3 s3 e3 q3 => q3 ms3 H3 σ3 x3 s3 e3)
            (fun ρ3 L3 ms3 H3 σ3 x3 s3 e3 q3 => again ρ3 L3 ms3 H3 σ3 x3 s3 e3 q3) (fun c fs ρ3 L3 => rfl)
          refine ⟨ms', L', ρ', d, s2, e'.ext x2 s'.fine, r2, (postS.st (R1 := fun ms H a b => EnvOk G ms H a b ∧ PrT σ' b) s2 (e'.ext x2 s'.fine) q3).imp (fun σ3 H3 ⟨ms3, L3, ρ3, x3, s3, ⟨e3, _⟩, _, q4⟩ => ?_) fun _ _ _ z => z⟩
          exact ⟨ms3, L3, ρ3, s3, e3, postS.ext x3 q4⟩
theorem rs_while {c : Expr} {body : List Stmt} {fc : FT} {fb : FS} {pos : Pos} (hp : PassesOwn (model X.prog X.w) X.A X.env X.xe) (hc : PT X c (upT G W R fc)) (hb : PSs X body (upS G W R fb)) : PS X (.While c body [] pos) (upS G W R (sWhile fc fb)) :=
  psOf (ps_while hp hc hb) fun E σ H ⟨ms, L, ρ, S, e, q⟩ => by
    refine ⟨fun m σ' H' => ∃ ms' L' ρ', Sees G ms' L' H' ∧ EnvOk G ms' H' ρ' σ' ∧ postS G W ms' H' E (whileN (fc R) (fb R) m ρ' L'), ⟨fuel, ms, L, ρ, S, e, q⟩, ?_⟩
    rintro m σ' H' ⟨ms', L', ρ', s', e', q'⟩
    cases m with
    | zero => exact q'.elim
    | succ k =>
      unfold whileN at q'
      obtain ⟨ms0, L0, ρ0, S0, e0, q0⟩ := stT (f := fc) s' e' q'
      refine ⟨ms0, L0, ρ0, S0, e0, q0.imp (fun v H1 ⟨ms1, L1, x1, s1, en1, q1⟩ => ?_) fun _ _ _ z => z⟩
      cases v with
      | false => exact iteF (q1 ms1 H1 σ' x1 s1 en1)
      | true =>
        refine iteT ⟨fun σ2 H2 => ∃ ms2 L2 ρ2, Sees G ms2 L2 H2 ∧ EnvOk G ms2 H2 ρ2 σ2 ∧ postS G W ms2 H2 E (whileN (fc R) (fb R) k ρ2 L2), fun σ2 H2 z => ⟨k, Nat.lt_succ_self _, z⟩, ?_⟩
        have q2 : postS G W ms1 H1 E ((fb R ρ' L1).bind fun p L2 => match p.1 with
          | .nx => whileN (fc R) (fb R) k p.2 L2
          | .ct => whileN (fc R) (fb R) k p.2 L2
          | .bk => .ok (.nx, p.2) L2
          | f => .ok (f, p.2) L2) := postS.ext x1 q1
        refine ⟨ms1, L1, ρ', s1, en1, postS.bind q2 (fun ρ3 L3 ms3 H3 σ3 x3 s3 e3 q3 => ⟨ms3, L3, ρ3, s3, e3, postS.ext x3 q3⟩) (fun d3 ρ3 L3 ms3 H3 v3 x3 s3 r3 q3 => q3 ms3 H3 v3 x3 s3 r3) (fun ρ3 L3 ms3 H3 σ3 x3 s3 e3 q3 => q3 ms3 H3 σ3 x3 s3 e3)
            (fun ρ3 L3 ms3 H3 σ3 x3 s3 e3 q3 => ⟨ms3, L3, ρ3, s3, e3, postS.ext x3 q3⟩) (fun c fs ρ3 L3 => rfl)⟩
end
end PD
/-! P6: comprehensions; a def's body and its promise. -/
namespace PD
open PySem PySem.Spec PyProof.Rows L2

theorem EnvOk.setN {G : Sta} {ms : List Addr} {H : Hp} {ρ : Slt} {σ : L2.St} (e : EnvOk G ms H ρ σ) (i : Nat) : EnvOk G ms H (ρ.set i none) (σ.set i none) := by
  refine ⟨by rw [List.length_set, List.length_set, e.len], fun j d h => ?_⟩
  by_cases hj : j = i
  · subst hj
    by_cases hl : j < ρ.length
    · rw [List.getElem?_set_self hl] at h; cases h
    · rw [List.getElem?_eq_none (by rw [List.length_set]; omega)] at h; cases h
  · rw [List.getElem?_set_ne (Ne.symm hj)] at h
    obtain ⟨w, q, r⟩ := e.at_ j d h
    exact ⟨w, by rw [List.getElem?_set_ne (Ne.symm hj)]; exact q, r⟩
theorem EnvOk.wipe {G : Sta} {ms : List Addr} {H : Hp} {ρ : Slt} {σ : L2.St} (e : EnvOk G ms H ρ σ) : ∀ vs : List Nat, EnvOk G ms H (wipeE ρ vs) (L2.wipe σ vs)
  | [] => e
  | i :: r => (e.wipe r).setN i
theorem wipe_at (σ : L2.St) (j : Nat) : ∀ vs : List Nat, (L2.wipe σ vs)[j]? = if j ∈ vs ∧ j < σ.length then some none else σ[j]?
  | [] => by simp [L2.wipe]
  | i :: r => by
    have ih := wipe_at σ j r
    have hl := L2.wipe_length σ r
    unfold L2.wipe
    by_cases hj : j = i
    · subst hj
      by_cases h : j < σ.length
      · rw [List.getElem?_set_self (by rw [hl]; exact h), if_pos ⟨List.mem_cons_self, h⟩]
      · rw [List.getElem?_eq_none (by rw [List.length_set, hl]; omega), if_neg (fun q => h q.2), List.getElem?_eq_none (by omega)]
    · rw [List.getElem?_set_ne (Ne.symm hj), ih]
      have e : (j ∈ i :: r) ↔ j ∈ r := by simp [hj]
      by_cases h : j ∈ r ∧ j < σ.length
      · rw [if_pos h, if_pos ⟨e.mpr h.1, h.2⟩]
      · rw [if_neg h, if_neg (fun q => h ⟨e.mp q.1, q.2⟩)]
theorem wipe_set {σ : L2.St} {i : Nat} {x : Option V} {vs : List Nat} (h : i ∈ vs) : L2.wipe (σ.set i x) vs = L2.wipe σ vs := by
  apply List.ext_getElem?
  intro j
  rw [wipe_at, wipe_at, List.length_set]
  by_cases hc : j ∈ vs ∧ j < σ.length
  · rw [if_pos hc, if_pos hc]
  · rw [if_neg hc, if_neg hc]
    by_cases hj : j = i
    · subst hj
      have : ¬ j < σ.length := fun q => hc ⟨h, q⟩
      rw [List.getElem?_eq_none (by rw [List.length_set]; omega), List.getElem?_eq_none (by omega)]
    · rw [List.getElem?_set_ne (Ne.symm hj)]
theorem wipe_idem (σ : L2.St) (vs : List Nat) : L2.wipe (L2.wipe σ vs) vs = L2.wipe σ vs := by
  apply List.ext_getElem?
  intro j
  rw [wipe_at (L2.wipe σ vs), L2.wipe_length]
  by_cases hc : j ∈ vs ∧ j < σ.length
  · rw [if_pos hc, wipe_at, if_pos hc]
  · rw [if_neg hc]
abbrev PrW (vs : List Nat) : L2.St → L2.St → Prop := fun a b => L2.wipe b vs = L2.wipe a vs
theorem prW (vs : List Nat) : PrOk (PrW vs) := ⟨fun _ => rfl, fun _ _ _ h q => q.trans h⟩

section
variable {X : Cx} {G : Sta} {W : WX} {R : Rec}
theorem ptsOf {es : List Expr} {t t' : TT} (h : PTs X es t) (hi : ∀ σ H Q, t' σ H Q → t σ H Q) : PTs X es t' := ⟨fun pins s σ H Q I q => h.run pins s σ H Q I (hi σ H Q q)⟩
theorem rts_nil : PTs X [] (upT G W R tYesT) := ptsOf pts_nil fun σ H Q ⟨ms, L, ρ, S, e, q⟩ => q ms H true (Ext.refl _ _) S rfl
theorem rts_one {c : Expr} {t : FT} (h : PT X c (upT G W R t)) : PTs X [c] (upT G W R t) := pts_one h
theorem bind_ok {α β : Type} {r : Res α} {k : α → LH → Res β} {b : β} {M : LH} (h : r.bind k = .ok b M) : ∃ a L1, r = .ok a L1 ∧ k a L1 = .ok b M := by
  cases r with
  | ok a L1 => exact ⟨a, L1, rfl, h⟩
  | exc _ _ _ => cases h
  | bad => cases h
theorem noExc_ok {α : Type} {r : Res α} {b : α} {M : LH} (h : noExc r = .ok b M) : r = .ok b M := by
  cases r with
  | ok a L1 => exact h
  | exc _ _ _ => cases h
  | bad => cases h
theorem noExc_cases {α : Type} (r : Res α) : (∃ a L, r = .ok a L ∧ noExc r = .ok a L) ∨ noExc r = .bad := by
  cases r with
  | ok a L1 => exact .inl ⟨a, L1, rfl, rfl⟩
  | exc _ _ _ => exact .inr rfl
  | bad => exact .inr rfl
/-- the turns of a comprehension -/
theorem lc_read {wi : TI} {g : FG} {t : FT} {fe : FE} {it : FI} {vs : List Nat} {σ : L2.St} {H : Hp} {Q : VK} {ms : List Addr} {L : LH} {ρ : Slt} (S : Sees G ms L H) (e : EnvOk G ms H ρ σ) (q : post G ms H (Rep G) Q (WE W σ) (eLc vs it (cTurn g t fe) R ρ L)) :
    tLc (upI G W R it) (upGp (PrW vs) G W0 R g) (upT G W0 R t) (upE G W0 R fe) vs σ H Q := by
  refine ⟨ms, L, ρ, S, e, (post.bind (R1 := ItOk G) q).imp (fun J H1 ⟨ms1, L1, j, x1, s1, itok, q1⟩ => ?_) fun _ _ _ z => z⟩
  intro dd hD
  rw [lcRun_dyn] at q1
  let b : D → LH → Res (Option D) := fun x M => cTurn g t fe R x (wipeE ρ vs) M
  let fin : List D → LH → Res D := fun ys L2 => .ok (.ref L2.len) (L2.push (.lst ys))
  have nD : dd ∉ ms1 := fun h => by
    obtain ⟨u, z, _⟩ := s1.fine.muts dd h
    rw [hD] at z; cases z
  let Wd : Nat → Nat → Hp → Prop := fun i m H' => ∃ ms' L' acc ws, Ext ms1 H1 ms' H' ∧ Sees G ms' L' H' ∧ H' dd = some (.lst ws) ∧ dd ∉ ms' ∧ Reps G ms' H' acc ws ∧ post G ms H (Rep G) Q (WE W σ) ((lcDyn b j.nx m i acc L').bind fin)
  refine ⟨Wd, ⟨j.bnd, ms1, L1, [], [], Ext.fresh hD, s1.fresh hD, upd_same, nD, .nil, q1⟩, ?_⟩
  rintro i m H' ⟨ms', L', acc, ws, x', s', hD', nD', rs', q'⟩
  cases m with
  | zero => exact q'.elim
  | succ k =>
    have ok := itok ms' L' H' i x' s'
    unfold lcDyn at q'
    cases hn : j.nx L' i with
    | none => rw [hn] at q'; exact q'.elim
    | some o =>
      rw [hn] at q' ok
      cases o with
      | none =>
        refine .inl ⟨ok, ?_⟩
        have q2 : post G ms H (Rep G) Q (WE W σ) (.ok (.ref L'.len) (L'.push (.lst acc))) := q'
        have xf : Ext ms H (ms' ++ [dd]) H' := by
          have y := x1.trans x'
          refine ⟨fun n a h => ?_, fun a h => ?_, y.keep⟩
          · have h2 := y.pre n a h
            rw [get_app, if_neg (by have := (List.getElem?_eq_some_iff.mp h2).1; omega)]; exact h2
          · rcases List.mem_append.mp h with h | h
            · exact y.new a h
            · rw [List.mem_singleton.mp h]
              by_cases hm : dd ∈ ms
              · exact .inl hm
              · refine .inr ?_
                cases z : H dd with
                | none => rfl
                | some u => rw [x1.keep dd u z hm] at hD; cases hD
        have kp : Kp G.K ms' H' (ms' ++ [dd]) H' := ⟨fun n a h => by rw [get_app, if_neg (by have := (List.getElem?_eq_some_iff.mp h).1; omega)]; exact h, fun _ _ h => h, fun _ _ h => h⟩
        refine q2 (ms' ++ [dd]) H' (.ref dd) xf ?_ (.ref (by rw [get_app, if_pos s'.len.symm]))
        refine ⟨by rw [List.length_append, s'.len]; rfl, List.nodup_append.mpr ⟨s'.nd, by simp, fun a h c hc => by rw [List.mem_singleton.mp hc]; exact fun z => nD' (z ▸ h)⟩, ⟨fun a h => ?_⟩, fun n a c h z => ?_⟩
        · rcases List.mem_append.mp h with h | h
          · exact s'.fine.muts a h
          · rw [List.mem_singleton.mp h]; exact ⟨_, hD', True.intro⟩
        · rw [LH.get_push, ← s'.len] at h
          rw [get_app] at z
          by_cases hn : n = ms'.length
          · rw [if_pos hn] at h z
            cases h; cases z
            exact ⟨ws, hD', Reps.kp kp _ _ rs'⟩
          · rw [if_neg hn] at h z
            exact (s'.cell n a c h z).kp kp fun _ h => h
      | some d =>
        refine .inr ⟨ok.1, fun H2 => Wd (i + 1) k H2, fun H2 z => ⟨k, Nat.lt_succ_self _, z⟩, fun v H'' hy => ?_⟩
        obtain ⟨x2, s2, r2⟩ := ok.2 v H'' hy
        have hD2 := x2.keep dd _ hD' nD'
        have nD2 : dd ∉ ms' := nD'
        have ew : EnvOk G ms' H'' (wipeE ρ vs) (L2.wipe σ vs) := (e.ext ((x1.trans x').trans x2) S.fine).wipe vs
        have rs2 := Reps.ext x2 s'.fine _ _ rs'
        have q2 : post G ms H (Rep G) Q (WE W σ) (((b d L').bind fun o L1 => match o with
          | none => lcDyn b j.nx k (i + 1) acc L1
          | some y => if acc.length < sizeLine then lcDyn b j.nx k (i + 1) (acc ++ [y]) L1 else .bad).bind fin) := q'
        rcases noExc_cases ((g R d (wipeE ρ vs) L').bind fun ρ1 L1 => (t R ρ1 L1).bind fun c L2 => if c then (fe R ρ1 L2).bind fun y L3 => .ok (some y) L3 else .ok none L2) with ⟨o, M, ho, hb⟩ | hb
        · have hb' : b d L' = .ok o M := hb
          rw [hb'] at q2
          obtain ⟨ρ1, M1, hg1, ho⟩ := bind_ok ho
          obtain ⟨c, M2, ht1, ho⟩ := bind_ok ho
          refine ⟨ms', L', wipeE ρ vs, d, s2, ew, r2, ?_⟩
          rw [hg1]
          rintro ms2 H2 σ2 y2 z2 ⟨e2, p2⟩
          have p2' : L2.wipe σ2 vs = L2.wipe σ vs := p2.trans (wipe_idem σ vs)
          refine ⟨p2', ms2, M1, ρ1, z2, e2, ?_⟩
          rw [ht1]
          intro ms3 H3 c' y3 z3 hc'
          cases (show c = c' from hc')
          have nD3 : dd ∉ ms3 := fun h => by
            rcases y3.new dd h with h | h
            · rcases y2.new dd h with h | h
              · exact nD2 h
              · rw [hD2] at h; cases h
            · have hD3 := y2.keep dd _ hD2 nD2
              rw [hD3] at h; cases h
          have nDm2 : dd ∉ ms2 := fun h => by
            rcases y2.new dd h with h | h
            · exact nD2 h
            · rw [hD2] at h; cases h
          have hD3 : H3 dd = some (.lst ws) := y3.keep dd _ (y2.keep dd _ hD2 nD2) nDm2
          have ex3 : Ext ms1 H1 ms3 H3 := ((x'.trans x2).trans y2).trans y3
          have rs3 := Reps.ext y3 z2.fine _ _ (Reps.ext y2 s2.fine _ _ rs2)
          cases c with
          | false =>
            cases ho
            exact iteF ⟨ms3, _, acc, ws, ex3, z3, hD3, nD3, rs3, q2⟩
          | true =>
            obtain ⟨y, M3, he1, ho⟩ := bind_ok ho
            cases ho
            refine iteT ⟨ms3, M2, ρ1, z3, e2.ext y3 z2.fine, ?_⟩
            rw [he1]
            intro ms4 H4 yv y4 z4 r4
            have nD4 : dd ∉ ms4 := fun h => by
              rcases y4.new dd h with h | h
              · exact nD3 h
              · rw [hD3] at h; cases h
            have hD4 : H4 dd = some (.lst ws) := y4.keep dd _ hD3 nD3
            have q3 : post G ms H (Rep G) Q (WE W σ) ((if acc.length < sizeLine then lcDyn b j.nx k (i + 1) (acc ++ [y]) M else .bad).bind fin) := q2
            have rs4 := Reps.ext y4 z3.fine _ _ rs3
            by_cases hl : acc.length < sizeLine
            · rw [if_pos hl] at q3
              refine ⟨ws, hD4, by rw [← rs3.length]; exact hl, ms4, _, acc ++ [y], ws ++ [yv], ?_, z4.off hD4 True.intro nD4, upd_same, nD4, ?_, q3⟩
              · have ex4 := ex3.trans y4
                exact ⟨ex4.pre, ex4.new, fun a o' h na => by rw [upd_ne (ne_of_none h hD)]; exact ex4.keep a o' h na⟩
              · exact (Reps.kp (Kp.off hD4 True.intro) _ _ rs4).append (.cons (Rep.kp (Kp.off hD4 True.intro) _ _ r4) .nil)
            · rw [if_neg hl] at q3; exact q3.elim
        · have hb' : b d L' = .bad := hb
          rw [hb'] at q2
          exact q2.elim
theorem re_lc {elt tg iter : Expr} {ifs : List Expr} {scope : Scope} {own : List (Str × Nat)} {pos : Pos} {g : FG} {t : FT} {fe : FE} {it : FI} (hc : X.calm = true) (hN : X.N.Nodup) (hi : PI X tg iter (upI G W R it)) (ok : BlkOk X.N X.env.scope scope own)
    (hg : ∀ (s : Shared) (H : Hp) (C : Addr) (cl : List (Str × Addr)) (fp : List Addr), PG (X.blk s H scope (compEnvC scope cl C X.env) fp) tg (upGp (PrW (own.map (·.2))) G W0 R g))
    (ht : ∀ (s : Shared) (H : Hp) (C : Addr) (cl : List (Str × Addr)) (fp : List Addr), PTs (X.blk s H scope (compEnvC scope cl C X.env) fp) ifs (upT G W0 R t))
    (he : ∀ (s : Shared) (H : Hp) (C : Addr) (cl : List (Str × Addr)) (fp : List Addr), PE (X.blk s H scope (compEnvC scope cl C X.env) fp) elt (upE G W0 R fe)) (hs : ∀ x, foldedSetIterable iter X.env x = pure x) :
    PE X (.ListComp elt [⟨tg, iter, ifs, 0⟩] scope pos) (upE G W R (eLc (own.map (·.2)) it (cTurn g t fe))) :=
  peOf (pe_lc hc hN hi ok hg ht he hs) fun σ H Q ⟨ms, L, ρ, S, e, q⟩ => lc_read (wi := upI G W R it) S e q
theorem rs_setLc {i : Nat} {y : Str} {py : Pos} {elt tg iter : Expr} {ifs : List Expr} {scope : Scope} {own : List (Str × Nat)} {pos spos : Pos} {g : FG} {t : FT} {fe : FE} {it : FI} (hc : X.calm = true) (hN : X.N.Nodup) (hy : X.N[i]? = some y) (hyl : X.env.scope.names.lookup y = some .local)
    (hsw : swapsWith (.ListComp elt [⟨tg, iter, ifs, 0⟩] scope pos) (some (.Name y py)) spos.line X.env = pure true) (hi : PI X tg iter (upI G W R it)) (ok : BlkOk X.N X.env.scope scope own)
    (hg : ∀ (s : Shared) (H : Hp) (C : Addr) (cl : List (Str × Addr)) (fp : List Addr), PG (X.blk s H scope (compEnvC scope cl C X.env) fp) tg (upGp (PrW (own.map (·.2))) G W0 R g))
    (ht : ∀ (s : Shared) (H : Hp) (C : Addr) (cl : List (Str × Addr)) (fp : List Addr), PTs (X.blk s H scope (compEnvC scope cl C X.env) fp) ifs (upT G W0 R t))
    (he : ∀ (s : Shared) (H : Hp) (C : Addr) (cl : List (Str × Addr)) (fp : List Addr), PE (X.blk s H scope (compEnvC scope cl C X.env) fp) elt (upE G W0 R fe)) (hs : ∀ x, foldedSetIterable iter X.env x = pure x) :
    PS X (.Assign [.Name y py] (.ListComp elt [⟨tg, iter, ifs, 0⟩] scope pos) spos) (upS G W R (sAsg (eLc (own.map (·.2)) it (cTurn g t fe)) (gNm i))) :=
  psOf (ps_setLc hc hN hy hyl hsw hi ok hg ht he hs) fun E σ H ⟨ms, L, ρ, S, e, q⟩ => by
    obtain ⟨ms0, L0, ρ0, S0, e0, q0⟩ := stE (f := eLc (own.map (·.2)) it (cTurn g t fe)) S e q
    refine lc_read (wi := upI G W R it) S0 e0 (q0.imp (fun v H1 ⟨ms1, L1, d, x, s, r, en, q1⟩ => ?_) fun _ _ _ z => z)
    exact q1 ms1 H1 _ x s (en.set r i)
end
end PD
/-! P7: contexts that fit a program; a def's promise from its body. -/
namespace PD
open PySem PySem.Spec PyProof.Rows L2

def isLoc (sc : Scope) (x : Str) : Bool := match sc.names.lookup x with
  | some .local => true
  | _ => false
def isCell (sc : Scope) (x : Str) : Bool := match sc.names.lookup x with
  | some .cell => true
  | _ => false
def isFree (sc : Scope) (x : Str) : Bool := match sc.names.lookup x with
  | some .free => true
  | _ => false
def isGlo (sc : Scope) (x : Str) : Bool := match sc.names.lookup x with
  | some .globalImplicit => true
  | _ => false
theorem isLoc_ok {sc : Scope} {x : Str} (h : isLoc sc x = true) : sc.names.lookup x = some .local := by
  unfold isLoc at h; split at h
  · assumption
  · cases h
theorem isCell_ok {sc : Scope} {x : Str} (h : isCell sc x = true) : sc.names.lookup x = some .cell := by
  unfold isCell at h; split at h
  · assumption
  · cases h
theorem isFree_ok {sc : Scope} {x : Str} (h : isFree sc x = true) : sc.names.lookup x = some .free := by
  unfold isFree at h; split at h
  · assumption
  · cases h
theorem isGlo_ok {sc : Scope} {x : Str} (h : isGlo sc x = true) : sc.names.lookup x = some .globalImplicit := by
  unfold isGlo at h; split at h
  · assumption
  · cases h
/-- a place in a def: slots, whether within a comprehension's block, whether no handler stands around, the scope -/
structure Ctx where
  N : List Str
  bk : Bool
  cm : Bool
  sc : Scope
/-- whether the name may be stored here (bk: within a comprehension's block) -/
def canAsg (bk : Bool) (sc : Scope) (x : Str) : Bool := isLoc sc x || (!bk && isCell sc x)

/-- a place in the program: room for k calls; W: what is wanted of what is raised -/
structure Fit (X : Cx) (G : Sta) (W : WX) (k : Nat) (x : Ctx) : Prop where
  eP : X.prog = G.P
  ew : X.w = G.w
  eK : X.K = G.K
  emg : X.mg = G.mg
  ebase : X.base = G.base
  room : x.cm = true → Room k X.A
  un : X.A.units + 200 < cLine
  grd : x.cm = true → X.A.guards = some []
  calm : x.cm = true → X.calm = true
  nd : x.N.Nodup
  eN : X.N = x.N
  esc : X.env.scope = x.sc
  fnc : x.bk = false → ∀ x, X.fn x = true
  tk : Takes X W
/-- where statements stand -/
structure FitS (X : Cx) (G : Sta) (W : WX) (k : Nat) (x : Ctx) : Prop extends Fit X G W k x where
  nbk : x.bk = false
  own : PassesOwn (model X.prog X.w) X.A X.env X.xe
  stk : X.stack = X.env :: X.outer
  frm : X.env.frame = some X.env.locals
  kind : x.sc.kind = .function

theorem Fit.blk {X : Cx} {G : Sta} {W : WX} {k : Nat} {x : Ctx} (F : Fit X G W k x) (s : Shared) (H : Hp) (scope : Scope) (C : Addr) (cl : List (Str × Addr)) (fp : List Addr) : Fit (X.blk s H scope (compEnvC scope cl C X.env) fp) G W0 k ⟨x.N, true, x.cm, relS scope x.sc⟩ where
  eP := F.eP
  ew := F.ew
  eK := F.eK
  emg := F.emg
  ebase := F.ebase
  room := F.room
  un := F.un
  grd := F.grd
  calm := F.calm
  nd := F.nd
  eN := F.eN
  esc := by
    show relS scope X.env.scope = relS scope x.sc
    rw [F.esc]
  fnc := fun h => by cases h
  tk := takes0
section
variable {X : Cx} {G : Sta} {W : WX} {k : Nat} {c : Ctx}
theorem Fit.hN (F : Fit X G W k c) : X.N.Nodup := by rw [F.eN]; exact F.nd
theorem Fit.loc (F : Fit X G W k c) {x : Str} (h : canAsg c.bk c.sc x = true) : Loc X.env.scope x ∧ (X.fn x = true ∨ X.env.scope.names.lookup x = some .local) := by
  rw [F.esc]
  unfold canAsg at h
  rw [Bool.or_eq_true] at h
  rcases h with h | h
  · exact ⟨.inl (isLoc_ok h), .inr (isLoc_ok h)⟩
  · rw [Bool.and_eq_true] at h
    have hb : c.bk = false := by simpa using h.1
    exact ⟨.inr (isCell_ok h.2), .inl (F.fnc hb x)⟩
theorem Fit.gl (F : Fit X G W k c) {x : Str} (h : isGlo c.sc x = true) : Gl X x := by
  show X.env.scope.names.lookup x = _
  rw [F.esc]
  exact isGlo_ok h
theorem Fit.vis (F : Fit X G W k c) {x : Str} (h : (isLoc c.sc x || isCell c.sc x || isFree c.sc x) = true) : Vis X.env.scope x := by
  rw [F.esc]
  rw [Bool.or_eq_true, Bool.or_eq_true] at h
  rcases h with (h | h) | h
  · exact .inl (isLoc_ok h)
  · exact .inr (.inl (isCell_ok h))
  · exact .inr (.inr (isFree_ok h))
theorem Fit.u64 (F : Fit X G W k c) : X.A.units + 64 < cLine := by have := F.un; omega
/-- a callee, carried to the place -/
theorem Fit.callee (F : Fit X G W k c) {j : Nat} {f : Addr} {ps : List Str} {r : List D → LH → Res D} (C : CalleeP G.P G.w G.K G.mg G.base G j f ps r) : Callee X G j f ps r := by
  unfold Callee
  rw [F.eP, F.ew, F.eK, F.emg, F.ebase]
  exact C
end

/-- a def keeps what its combinator says, if its body does wherever it stands -/
theorem FnG.body {G : Sta} {x qual : Str} {params : Arguments} {body : List Stmt} {scope : Scope} {dvs : List V} {kws : List (Str × V)} {f : Addr} {fd : FuncData} {N ps : List Str} {k : Nat} {R : Rec} {fn : Fn}
    (F : FunD G.K x qual params body scope dvs kws f fd) (S : FnScope N ps scope) (hs : fn.slots = N.length) (hp : fn.pars = ps.length)
    (hb : ∀ (X : Cx) (W : WX), FitS X G W k ⟨N, false, true, scope⟩ → PSs X body (upS G W R fn.body)) :
    FnG G.P G.w G.K G.mg G.base (k + 1) f fd ps (spOf G ps.length (fn.run R)) := by
  refine FnG.of F S (fun vs H Q E h => h.1) fun cdv A outer s H vs Q E hr hg h => ?_
  obtain ⟨hl, ms, L, ds, Se, rs, q⟩ := h
  refine ⟨_, hb _ (fun c d _ H => E c d H) ⟨⟨rfl, rfl, rfl, rfl, rfl, fun _ => hr, Nat.lt_of_le_of_lt (Nat.add_le_add_right (Nat.le_add_right _ (16 * k)) 200) hr.un, fun _ => hg, fun _ => rfl, S.nd, rfl, rfl, fun _ _ => rfl, takes_of rfl rfl rfl rfl⟩, rfl, passes_of rfl, rfl, rfl, S.kind⟩, ?_⟩
  have hd : ds.length = ps.length := by rw [rs.length]; exact hl
  have hpl : ps.length ≤ N.length := by
    have := congrArg List.length S.pre
    rw [List.length_take] at this
    omega
  unfold Fn.run at q
  rw [if_pos (by rw [hp]; exact hd)] at q
  refine ⟨ms, L, ds.map some ++ List.replicate (fn.slots - fn.pars) none, Se, ?_, ?_⟩
  · refine ⟨?_, fun i d h => ?_⟩
    · unfold L2.start
      rw [List.length_append, List.length_append, List.length_map, List.length_map, List.length_replicate, List.length_replicate, rs.length]
      omega
    · by_cases hi : i < ds.length
      · rw [List.getElem?_append_left (by rw [List.length_map]; exact hi), List.getElem?_map] at h
        cases e : ds[i]? with
        | none => rw [e] at h; cases h
        | some d' =>
          rw [e] at h
          cases h
          obtain ⟨v, e2, r⟩ := rs.get e
          refine ⟨v, ?_, r⟩
          unfold L2.start
          rw [List.getElem?_append_left (by rw [List.length_map, ← rs.length]; exact hi), List.getElem?_map, e2]
          rfl
      · rw [List.getElem?_append_right (by rw [List.length_map]; omega), List.getElem?_replicate] at h
        split at h <;> cases h
  · cases hz : fn.body R (ds.map some ++ List.replicate (fn.slots - fn.pars) none) L with
    | ok p L1 =>
      rw [hz] at q
      obtain ⟨fl, ρ1⟩ := p
      cases fl with
      | nx => exact fun ms' H' σ' x s e => q ms' H' _ x s .non
      | rt d => exact q
      | bk => exact q.elim
      | ct => exact q.elim
      | ex c fs => exact fun ms' H' σ' cls dx x s e ex => q ms' H' cls dx x s ex
    | exc _ _ _ => rw [hz] at q; exact q.elim
    | bad => rw [hz] at q; exact q.elim
end PD
/-! P8: built-ins by values; sorting; list methods. -/
namespace PD
open PySem PySem.Spec PyProof.Rows L2

/-! ### stable insertion sort -/
def insBy {α : Type} (le : α → α → Bool) (a : α) : List α → List α
  | [] => [a]
  | b :: r => if le a b then a :: b :: r else b :: insBy le a r
def isort {α : Type} (le : α → α → Bool) : List α → List α
  | [] => []
  | a :: r => insBy le a (isort le r)
theorem insBy_split {α : Type} {le : α → α → Bool} {a : α} : ∀ {l1 l2 : List α}, (∀ b ∈ l1, le a b = false) → (∀ b ∈ l2, le a b = true) → insBy le a (l1 ++ l2) = l1 ++ a :: l2
  | [], [], _, _ => rfl
  | [], b :: r, _, h => by
    show (if le a b then a :: b :: r else b :: insBy le a r) = _
    rw [h b List.mem_cons_self]; rfl
  | b :: l1, l2, h, h2 => by
    show (if le a b then a :: b :: (l1 ++ l2) else b :: insBy le a (l1 ++ l2)) = _
    rw [h b List.mem_cons_self, insBy_split (fun x hx => h x (List.mem_cons_of_mem _ hx)) h2]; rfl
theorem mergeSort_isort {α : Type} {le : α → α → Bool} (tr : ∀ a b c : α, le a b = true → le b c = true → le a c = true) (to : ∀ a b : α, (le a b || le b a) = true) : ∀ l : List α, l.mergeSort le = isort le l
  | [] => by simp [isort]
  | a :: l => by
    obtain ⟨l1, l2, h1, h2, h3⟩ := List.mergeSort_cons (le := le) tr to a l
    have ih := mergeSort_isort tr to l
    show _ = insBy le a (isort le l)
    rw [h1, ← ih, h2]
    refine (insBy_split (fun b hb => ?_) fun b hb => ?_).symm
    · have := h3 b hb
      simpa using this
    · have s := List.pairwise_mergeSort (le := le) tr to (a :: l)
      rw [h1] at s
      have s2 := (List.pairwise_append.mp s).2.1
      exact (List.pairwise_cons.mp s2).1 b hb
theorem dataLe_isort {β : Type} (k : β → PyData) (l : List β) : l.mergeSort (PySem.W.dataLe false k) = isort (PySem.W.dataLe false k) l :=
  have t := PySem.W.sortLe_total (PyProof.Rows.listOrd PyProof.Rows.itemOrd) false fun b => PySem.W.keyToks (k b)
  mergeSort_isort t.trans (fun a b => by rw [Bool.or_eq_true]; exact t.total a b) l

def zipO {α β : Type} : List α → List β → List (α × β)
  | a :: x, b :: y => (a, b) :: zipO x y
  | _, _ => []
def likes (ps : List PyData) : Bool := ps.all fun p => ps.all fun q => PySem.W.alike p q
def sortables (ps : List PyData) : Bool := (ps.all fun p => match p with
  | .tuple (_ :: _) => true
  | _ => false) || ps.all fun p => match p with
  | .none => false
  | .tuple _ => false
  | _ => true
def bSorted (as : List D) (L : LH) : Res D := match as with
  | [.ref n] => match L.get n with
    | some (.lst xs) => (match mapO (toP 50 L) xs with
      | some ps => if likes ps && sortables ps && decide (xs.length ≤ sizeLine) then .ok (.ref L.len) (L.push (.lst ((isort (PySem.W.dataLe false fun p : D × PyData => p.2) (zipO xs ps)).map (·.1)))) else .bad
      | none => .bad)
    | _ => .bad
  | _ => .bad

section
variable {X : Cx} {G : Sta} {W : WX} {R : Rec}
theorem OpA.of {f : Value} {g : List D → LH → Res D} {r : List V → Hp → VK → Prop} (h : CallR X f r) (hi : ∀ (ms : List Addr) (L : LH) (H : Hp) (ds : List D) (vs : List V) (Q : VK) (E : XK), Sees G ms L H → Reps G ms H ds vs → post G ms H (Rep G) Q E (g ds L) → r vs H Q) : OpA X G W f g :=
  fun pins s σ H ms L as xs us Q I S rs rv q => h pins s σ H xs us Q I rv (hi ms L H as xs Q _ S rs q)
theorem reps1 {ms : List Addr} {H : Hp} {a : D} {vs : List V} (r : Reps G ms H [a] vs) : ∃ v, vs = [v] ∧ Rep G ms H a v := by
  cases r with
  | cons a b => cases b; exact ⟨_, rfl, a⟩
theorem reps2 {ms : List Addr} {H : Hp} {a b : D} {vs : List V} (r : Reps G ms H [a, b] vs) : ∃ v w, vs = [v, w] ∧ Rep G ms H a v ∧ Rep G ms H b w := by
  cases r with
  | cons a b =>
    obtain ⟨w, rfl, r⟩ := reps1 b
    exact ⟨_, _, rfl, a, r⟩
theorem op_bLen (hK : X.K = G.K) : OpA X G W (.builtin "len") bLen := by
  intro pins s σ H ms L as xs us Q I S rs rv q
  unfold bLen at q
  split at q
  · obtain ⟨v, rfl, r⟩ := reps1 rs
    cases r with
    | tup h1 r1 => exact call_len_seq pins s σ H _ us Q I rv ⟨_, _, rfl, .inr (hK ▸ h1), by rw [← r1.length]; exact post.same S q (.int _)⟩
  · obtain ⟨v, rfl, r⟩ := reps1 rs
    cases r
    split at q
    · rename_i hz
      exact call_len_str pins s σ H _ us Q I rv ⟨_, rfl, hz, post.same S q (.int _)⟩
    · exact q.elim
  · obtain ⟨v, rfl, r⟩ := reps1 rs
    split at q
    · rename_i xs en
      obtain ⟨p, rfl, _, vs, h1, r1⟩ := S.ref en r
      exact call_len_seq pins s σ H _ us Q I rv ⟨_, _, rfl, .inl (SqL.of h1), by rw [← r1.length]; exact post.same S q (.int _)⟩
    · rename_i kvs en
      obtain ⟨p, rfl, _, ks, h1, r1, _⟩ := S.ref en r
      exact call_lenD pins s σ H _ us Q I rv ⟨_, _, rfl, h1, by rw [← r1.length]; exact post.same S q (.int _)⟩
    · exact q.elim
  · exact q.elim
theorem op_bInt : OpA X G W (.type "int") bInt := OpA.of call_int1 fun ms L H ds vs Q E S rs q => by
  unfold bInt at q
  split at q
  · obtain ⟨v, rfl, r⟩ := reps1 rs; cases r
    exact .inl ⟨_, rfl, post.same S q (.int _)⟩
  · obtain ⟨v, rfl, r⟩ := reps1 rs; cases r
    exact .inr ⟨_, rfl, post.same S q (.int _)⟩
  · exact q.elim
theorem op_bAbs : OpA X G W (.builtin "abs") bAbs := OpA.of call_abs fun ms L H ds vs Q E S rs q => by
  unfold bAbs at q
  split at q
  · obtain ⟨v, rfl, r⟩ := reps1 rs; cases r
    exact ⟨_, rfl, post.same S q (.int _)⟩
  · exact q.elim

/-! ints of a list -/
def intsOf : List D → Option (List Int)
  | [] => some []
  | .int i :: r => match intsOf r with
    | some l => some (i :: l)
    | none => none
  | _ :: _ => none
theorem intsOf_rep {ms : List Addr} {H : Hp} : ∀ {l : List D} {vs : List V} {ns : List Int}, intsOf l = some ns → Reps G ms H l vs → vs = ns.map V.int
  | [], _, _, h, r => by cases h; cases r; rfl
  | d :: l, _, _, h, r => by
    cases r with
    | cons a b =>
      cases a with
      | int i =>
        unfold intsOf at h
        split at h
        · rename_i l' e
          cases h
          rw [List.map_cons, intsOf_rep e b]
        · cases h
      | _ => cases h
def maxI (m : Int) : List Int → Int
  | [] => m
  | x :: r => maxI (if x > m then x else m) r
def minI (m : Int) : List Int → Int
  | [] => m
  | x :: r => minI (if x < m then x else m) r
theorem maxI_spec : ∀ (l : List Int) (m : Int), (maxI m l = m ∨ maxI m l ∈ l) ∧ m ≤ maxI m l ∧ ∀ x ∈ l, x ≤ maxI m l
  | [], m => ⟨.inl rfl, Int.le_refl _, fun x h => absurd h (by simp)⟩
  | x :: r, m => by
    have h := maxI_spec r (if x > m then x else m)
    unfold maxI
    by_cases e : x > m
    · rw [if_pos e] at h ⊢
      refine ⟨.inr ?_, by omega, fun y hy => ?_⟩
      · rcases h.1 with h1 | h1
        · rw [h1]; exact List.mem_cons_self
        · exact List.mem_cons_of_mem _ h1
      · rcases List.mem_cons.mp hy with rfl | hy
        · exact h.2.1
        · exact h.2.2 y hy
    · rw [if_neg e] at h ⊢
      refine ⟨?_, by omega, fun y hy => ?_⟩
      · rcases h.1 with h1 | h1
        · exact .inl h1
        · exact .inr (List.mem_cons_of_mem _ h1)
      · rcases List.mem_cons.mp hy with rfl | hy
        · omega
        · exact h.2.2 y hy
theorem minI_spec : ∀ (l : List Int) (m : Int), (minI m l = m ∨ minI m l ∈ l) ∧ minI m l ≤ m ∧ ∀ x ∈ l, minI m l ≤ x
  | [], m => ⟨.inl rfl, Int.le_refl _, fun x h => absurd h (by simp)⟩
  | x :: r, m => by
    have h := minI_spec r (if x < m then x else m)
    unfold minI
    by_cases e : x < m
    · rw [if_pos e] at h ⊢
      refine ⟨.inr ?_, by omega, fun y hy => ?_⟩
      · rcases h.1 with h1 | h1
        · rw [h1]; exact List.mem_cons_self
        · exact List.mem_cons_of_mem _ h1
      · rcases List.mem_cons.mp hy with rfl | hy
        · exact h.2.1
        · exact h.2.2 y hy
    · rw [if_neg e] at h ⊢
      refine ⟨?_, by omega, fun y hy => ?_⟩
      · rcases h.1 with h1 | h1
        · exact .inl h1
        · exact .inr (List.mem_cons_of_mem _ h1)
      · rcases List.mem_cons.mp hy with rfl | hy
        · omega
        · exact h.2.2 y hy
/-- max(i, j), max(xs) -/
def bMaxA (as : List D) (L : LH) : Res D := match as with
  | [.int i, .int j] => .ok (.int (if j > i then j else i)) L
  | [.ref n] => match L.get n with
    | some (.lst xs) => (match intsOf xs with
      | some (i :: r) => .ok (.int (maxI i r)) L
      | _ => .bad)
    | _ => .bad
  | _ => .bad
def bMinA (as : List D) (L : LH) : Res D := match as with
  | [.int i, .int j] => .ok (.int (if j < i then j else i)) L
  | [.ref n] => match L.get n with
    | some (.lst xs) => (match intsOf xs with
      | some (i :: r) => .ok (.int (minI i r)) L
      | _ => .bad)
    | _ => .bad
  | _ => .bad
def bSum (as : List D) (L : LH) : Res D := match as with
  | [.ref n] => match L.get n with
    | some (.lst xs) => (match intsOf xs with
      | some ns => .ok (.int ns.sum) L
      | _ => .bad)
    | _ => .bad
  | _ => .bad
theorem op_bMaxA (hc : X.calm = true) : OpA X G W (.builtin "max") bMaxA := by
  intro pins s σ H ms L as xs us Q I S rs rv q
  unfold bMaxA at q
  split at q
  · obtain ⟨v, w, rfl, r1, r2⟩ := reps2 rs; cases r1; cases r2
    exact call_max2 hc pins s σ H _ us Q I rv ⟨_, _, rfl, post.same S q (.int _)⟩
  · obtain ⟨v, rfl, r⟩ := reps1 rs
    split at q
    · rename_i xs en
      obtain ⟨p, rfl, _, vs, h1, r1⟩ := S.ref en r
      split at q
      · rename_i i l e
        have hv := intsOf_rep e r1
        have hs := maxI_spec l i
        refine cr_max hc pins s σ H _ us Q I rv ⟨p, i :: l, rfl, SqL.of (by rw [← hv]; exact h1), by simp, fun m hm hy => ?_⟩
        have e1 : m = maxI i l := by
          have a1 : m ≤ maxI i l := by
            rcases List.mem_cons.mp hm with rfl | hm
            · exact hs.2.1
            · exact hs.2.2 m hm
          have a2 : maxI i l ≤ m := by
            rcases hs.1 with h | h
            · rw [h]; exact hy i List.mem_cons_self
            · exact hy _ (List.mem_cons_of_mem _ h)
          omega
        rw [e1]
        exact post.same S q (.int _)
      · exact q.elim
    · exact q.elim
  · exact q.elim
theorem op_bMinA (hc : X.calm = true) : OpA X G W (.builtin "min") bMinA := by
  intro pins s σ H ms L as xs us Q I S rs rv q
  unfold bMinA at q
  split at q
  · obtain ⟨v, w, rfl, r1, r2⟩ := reps2 rs; cases r1; cases r2
    exact call_min2 hc pins s σ H _ us Q I rv ⟨_, _, rfl, post.same S q (.int _)⟩
  · obtain ⟨v, rfl, r⟩ := reps1 rs
    split at q
    · rename_i xs en
      obtain ⟨p, rfl, _, vs, h1, r1⟩ := S.ref en r
      split at q
      · rename_i i l e
        have hv := intsOf_rep e r1
        have hs := minI_spec l i
        refine cr_min hc pins s σ H _ us Q I rv ⟨p, i :: l, rfl, SqL.of (by rw [← hv]; exact h1), by simp, fun m hm hy => ?_⟩
        have e1 : m = minI i l := by
          have a1 : minI i l ≤ m := by
            rcases List.mem_cons.mp hm with rfl | hm
            · exact hs.2.1
            · exact hs.2.2 m hm
          have a2 : m ≤ minI i l := by
            rcases hs.1 with h | h
            · rw [h]; exact hy i List.mem_cons_self
            · exact hy _ (List.mem_cons_of_mem _ h)
          omega
        rw [e1]
        exact post.same S q (.int _)
      · exact q.elim
    · exact q.elim
  · exact q.elim
theorem op_bSum (hc : X.calm = true) : OpA X G W (.builtin "sum") bSum := OpA.of (cr_sum hc) fun ms L H ds vs Q E S rs q => by
  unfold bSum at q
  split at q
  · obtain ⟨v, rfl, r⟩ := reps1 rs
    split at q
    · rename_i xs en
      obtain ⟨p, rfl, _, vs, h1, r1⟩ := S.ref en r
      split at q
      · rename_i ns e
        exact ⟨p, ns, rfl, SqL.of (by rw [← intsOf_rep e r1]; exact h1), post.same S q (.int _)⟩
      · exact q.elim
    · exact q.elim
  · exact q.elim
theorem op_bTup (hK : X.K = G.K) : OpA X G W (.type "tuple") bTup := OpA.of call_tuple_of fun ms L H ds vs Q E S rs q => by
  unfold bTup at q
  split at q
  · obtain ⟨v, rfl, r⟩ := reps1 rs
    cases r with
    | tup h1 r1 => exact ⟨_, _, rfl, .inr ⟨hK ▸ h1, post.same S q (.tup h1 r1)⟩⟩
  · obtain ⟨v, rfl, r⟩ := reps1 rs
    split at q
    · rename_i xs en
      obtain ⟨p, rfl, _, vs, h1, r1⟩ := S.ref en r
      exact ⟨_, _, rfl, .inl ⟨SqL.of h1, post.tuple S q r1⟩⟩
    · exact q.elim
  · exact q.elim
theorem KvRep.keys {ms : List Addr} {H : Hp} {l : List (D × D)} {ks : List (Key × V)} (h : KvRep G ms H l ks) : Reps G ms H (l.map (·.1)) (ks.map fun kv => kV kv.1) := by
  induction h with
  | nil => exact .nil
  | @cons k d key v l vs h1 h2 h3 ih =>
    refine .cons ?_ ih
    cases k <;> first
      | (cases h1; first | exact .int _ | exact .str _)
      | cases h1
theorem op_bLst (hK : X.K = G.K) (hc : X.calm = true) : OpA X G W (.type "list") bLst := by
  intro pins s σ H ms L as xs us Q I S rs rv q
  unfold bLst at q
  split at q
  · obtain ⟨v, rfl, r⟩ := reps1 rs
    cases r with
    | tup h1 r1 => exact call_list_of pins s σ H _ us Q I rv ⟨_, _, rfl, .inr (hK ▸ h1), post.list S q r1⟩
  · obtain ⟨v, rfl, r⟩ := reps1 rs
    split at q
    · rename_i xs en
      obtain ⟨p, rfl, _, vs, h1, r1⟩ := S.ref en r
      exact call_list_of pins s σ H _ us Q I rv ⟨_, _, rfl, .inl (SqL.of h1), post.list S q r1⟩
    · rename_i kvs en
      obtain ⟨p, rfl, _, ks, h1, r1, _⟩ := S.ref en r
      split at q
      · exact call_list_dK hc pins s σ H _ us Q I rv ⟨_, _, rfl, h1, post.list S q r1.keys⟩
      · exact q.elim
    · exact q.elim
  · exact q.elim

/-! ### sorted -/
theorem likes_ok {ps : List PyData} (h : likes ps = true) : PySem.W.AllAlike ps := fun d hd d' hd' => List.all_eq_true.mp (List.all_eq_true.mp h d hd) d' hd'
theorem sortables_ok {ps : List PyData} (h : sortables ps = true) : PySem.W.Sortable ps := by
  unfold sortables at h
  rw [Bool.or_eq_true] at h
  rcases h with h | h
  · refine .inl fun d hd => ?_
    have q := List.all_eq_true.mp h d hd
    split at q
    · exact ⟨_, _, rfl⟩
    · cases q
  · refine .inr fun d hd => ?_
    have q := List.all_eq_true.mp h d hd
    refine ⟨fun e => ?_, fun xs e => ?_⟩
    · subst e; cases q
    · subst e; cases q
theorem mapO_mem {α β : Type} {f : α → Option β} : ∀ {l : List α} {r : List β} {b : β}, mapO f l = some r → b ∈ r → ∃ a ∈ l, f a = some b
  | [], _, _, h, hb => by cases h; exact absurd hb (by simp)
  | x :: l, _, b, h, hb => by
    unfold mapO at h
    cases e1 : f x with
    | none => rw [e1] at h; cases h
    | some y =>
      rw [e1] at h
      cases e2 : mapO f l with
      | none => rw [e2] at h; cases h
      | some s =>
        rw [e2] at h; cases h
        rcases List.mem_cons.mp hb with rfl | hb
        · exact ⟨x, List.mem_cons_self, e1⟩
        · obtain ⟨a, ha, h1⟩ := mapO_mem e2 hb
          exact ⟨a, List.mem_cons_of_mem _ ha, h1⟩
/-- a list's items: data, values -/
structure Trip (G : Sta) (ms : List Addr) (H : Hp) (n : Nat) (L : LH) (t : (D × PyData) × V) : Prop where
  p : toP n L t.1.1 = some t.1.2
  r : Rep G ms H t.1.1 t.2
theorem trips {n : Nat} {L : LH} {ms : List Addr} {H : Hp} : ∀ {xs : List D} {ps : List PyData} {vs : List V} {us : List Value}, mapO (toP n L) xs = some ps → Reps G ms H xs vs → Vals vs us →
    ∃ ts : List ((D × PyData) × V), ts.map (·.1) = zipO xs ps ∧ ts.map (·.2) = vs ∧ ts.map (·.1.1) = xs ∧ ts.map (·.1.2) = ps ∧ (∀ t ∈ ts, Trip G ms H n L t) ∧ PySem.W.EachIs (fun (u : Value) (t : (D × PyData) × V) => RelV t.2 u) us ts
  | [], _, _, _, h, r, rv => by
    cases h; cases r; cases rv
    exact ⟨[], rfl, rfl, rfl, rfl, fun t ht => absurd ht (by simp), .nil⟩
  | x :: xs, _, _, _, h, r, rv => by
    unfold mapO at h
    cases e1 : toP n L x with
    | none => rw [e1] at h; cases h
    | some y =>
      rw [e1] at h
      cases e2 : mapO (toP n L) xs with
      | none => rw [e2] at h; cases h
      | some s =>
        rw [e2] at h; cases h
        cases r with
        | cons ra rb =>
          cases rv with
          | cons va vb =>
            obtain ⟨ts, h1, h2, h3, h4, h5, h6⟩ := trips e2 rb vb
            refine ⟨((x, y), _) :: ts, by rw [List.map_cons, h1]; rfl, by rw [List.map_cons, h2], by rw [List.map_cons, h3], by rw [List.map_cons, h4], fun t ht => ?_, .cons va h6⟩
            rcases List.mem_cons.mp ht with rfl | ht
            · exact ⟨e1, ra⟩
            · exact h5 t ht
theorem insBy_map {α β : Type} (f : α → β) (le : β → β → Bool) (a : α) : ∀ l : List α, (insBy (fun x y => le (f x) (f y)) a l).map f = insBy le (f a) (l.map f)
  | [] => rfl
  | b :: r => by
    show (if le (f a) (f b) then a :: b :: r else b :: insBy (fun x y => le (f x) (f y)) a r).map f = (if le (f a) (f b) then f a :: f b :: r.map f else f b :: insBy le (f a) (r.map f))
    split
    · rfl
    · rw [List.map_cons, insBy_map f le a r]
theorem isort_map {α β : Type} (f : α → β) (le : β → β → Bool) : ∀ l : List α, (isort (fun x y => le (f x) (f y)) l).map f = isort le (l.map f)
  | [] => rfl
  | a :: r => by
    show (insBy _ a (isort _ r)).map f = insBy le (f a) (isort le (r.map f))
    rw [insBy_map, isort_map]
theorem insBy_mem {α : Type} {le : α → α → Bool} {a : α} : ∀ {l : List α} {b : α}, b ∈ insBy le a l → b = a ∨ b ∈ l
  | [], b, h => by
    rcases List.mem_cons.mp h with h | h
    · exact .inl h
    · exact absurd h (by simp)
  | c :: r, b, h => by
    unfold insBy at h
    split at h
    · rcases List.mem_cons.mp h with h | h
      · exact .inl h
      · exact .inr h
    · rcases List.mem_cons.mp h with h | h
      · exact .inr (h ▸ List.mem_cons_self)
      · rcases insBy_mem h with h | h
        · exact .inl h
        · exact .inr (List.mem_cons_of_mem _ h)
theorem isort_mem {α : Type} {le : α → α → Bool} : ∀ {l : List α} {b : α}, b ∈ isort le l → b ∈ l
  | [], b, h => h
  | a :: r, b, h => by
    rcases insBy_mem h with h | h
    · exact h ▸ List.mem_cons_self
    · exact List.mem_cons_of_mem _ (isort_mem h)
theorem each_vals {us : List Value} {ts : List ((D × PyData) × V)} (e : PySem.W.EachIs (fun (u : Value) (t : (D × PyData) × V) => RelV t.2 u) us ts) : Vals (ts.map (·.2)) us := by
  induction e with
  | nil => exact .nil
  | cons a _ ih => exact .cons a ih
theorem trips_reps {n : Nat} {L : LH} {ms : List Addr} {H : Hp} : ∀ {ts : List ((D × PyData) × V)}, (∀ t ∈ ts, Trip G ms H n L t) → Reps G ms H (ts.map (·.1.1)) (ts.map (·.2))
  | [], _ => .nil
  | t :: ts, h => .cons (h t List.mem_cons_self).r (trips_reps fun x hx => h x (List.mem_cons_of_mem _ hx))
theorem each_reads (hK : X.K = G.K) {pins : List (Addr × Obj)} {s : Shared} {σ : L2.St} {H : Hp} {n : Nat} {L : LH} {ms : List Addr} (I : Inv X pins σ H s) (S : Sees G ms L H) {its : List Value} {ts : List ((D × PyData) × V)} (t5 : ∀ t ∈ ts, Trip G ms H n L t)
    (t6 : PySem.W.EachIs (fun (u : Value) (t : (D × PyData) × V) => RelV t.2 u) its ts) : PySem.W.EachIs (fun (v : Value) (b : (D × PyData) × V) => ∃ as, Reads s.heap v b.1.2 as) its ts := by
  induction t6 with
  | nil => exact .nil
  | @cons u t us' ts' ha hb' ih =>
    refine .cons ?_ (ih (fun t ht => t5 t (List.mem_cons_of_mem _ ht)))
    have tt := t5 t List.mem_cons_self
    obtain ⟨d1, _, _⟩ := toP_ok S _ _ _ _ tt.p tt.r
    exact Dp.reads I _ _ _ (hK ▸ d1) ha
theorem op_bSorted (hK : X.K = G.K) (hu : X.A.units + 64 < cLine) : OpA X G W (.builtin "sorted") bSorted := by
  intro pins s σ H ms L as xs us Q I S rs rv q
  unfold bSorted at q
  split at q
  · obtain ⟨v, rfl, r⟩ := reps1 rs
    split at q
    · rename_i xs en
      obtain ⟨p, rfl, _, vs, h1, r1⟩ := S.ref en r
      split at q
      · rename_i ps e
        split at q
        · rename_i hb
          rw [Bool.and_eq_true, Bool.and_eq_true] at hb
          obtain ⟨its, rw_, hl, hz⟩ := I.list (SqL.of h1)
          rw [Vals.ref1 rv]
          obtain ⟨ts, t1, t2, t3, t4, t5, t6⟩ := trips e r1 rw_
          have hlen : xs.length = ts.length := by rw [← t3, List.length_map]
          have er := each_reads hK I S t5 t6
          refine PySem.W.sorted_data (β := (D × PyData) × V) (enc := fun b => b.1.2) (R := fun u t => RelV t.2 u) hl.isList t6 er (by rw [t4]; exact likes_ok hb.1.1) (by rw [t4]; exact sortables_ok hb.1.2) (by rw [← hlen]; exact of_decide_eq_true hb.2) (fun b hb' => ?_) fun out ho eo => ?_
          · have tt := t5 b hb'
            obtain ⟨_, _, d3⟩ := toP_ok S _ _ _ _ tt.p tt.r
            have : X.A.units + 2 + b.1.2.depth < cLine := by omega
            exact this
          · rw [dataLe_isort] at eo
            obtain ⟨ep, he'⟩ := PyProof.Rows.sortedAll_at s.heap its out.toArray
            have hm : ∀ t ∈ isort (PySem.W.dataLe false fun b : (D × PyData) × V => b.1.2) ts, Trip G ms H 50 L t := fun t ht => t5 t (isort_mem ht)
            have e2 : (isort (PySem.W.dataLe false fun b : (D × PyData) × V => b.1.2) ts).map (·.1.1) = (isort (PySem.W.dataLe false fun p : D × PyData => p.2) (zipO xs ps)).map (·.1) := by
              rw [← t1, ← isort_map (f := fun t : (D × PyData) × V => t.1), List.map_map]
              rfl
            have rr := trips_reps hm
            rw [e2] at rr
            have hol : ((isort (PySem.W.dataLe false fun b : (D × PyData) × V => b.1.2) ts).map (·.2)).length ≤ sizeLine := by
              rw [(each_vals eo).length, ho, ← hlen]
              exact of_decide_eq_true hb.2
            exact ⟨.ref _, upd H (s.heap.objs.size + 1) (.lst ((isort (PySem.W.dataLe false fun b : (D × PyData) × V => b.1.2) ts).map (·.2))), I.laid (t' := s.toks) (fun _ _ => PyProof.Rows.sortedAll_old) (Nat.le_succ _) ⟨hol, out, ep, each_vals eo, he'⟩, rfl, post.list S q rr _ (I.hok.fresh (Nat.le_succ _))⟩
        · exact q.elim
      · exact q.elim
    · exact q.elim
  · exact q.elim
end
end PD
/-! P9: methods, more operators, dicts, what is walked. -/
namespace PD
open PySem PySem.Spec PyProof.Rows L2

section
variable {X : Cx} {G : Sta} {W : WX} {R : Rec}

/-! ### calls of built-ins -/
theorem re_bltn {id : String} {x : Str} {e : Expr} {es : List Expr} {fa : FA} {op : List D → LH → Res D} {p pos : Pos} (ho : OpA X G W (.builtin id) op) (hg : Gl X x) (hm : X.mg x = none) (hv : bootBuiltins x = some (.builtin id)) (ha : PA X (e :: es) (upA G W R fa)) (hp : plainArgs (e :: es) = true) (hn : x ≠ "__name__") (hdb : (x == ("__debug__" : Str)) = false) :
    PE X (.Call (.Name x p) (e :: es) [] pos) (upE G W R (aApp fa op)) := by
  refine ⟨fun pins s σ H Q I ⟨ms, L, ρ, S, e, q⟩ => ?_⟩
  obtain ⟨h1, h2⟩ := plain_ne hp
  refine wpAny_Call_Name_kw (ld_blt I hg hm hv ?_ hn hdb)
  exact PyProof.Rows.callWith_builtin1 (thn (ha.run pos pins s σ H _ I (midA (f := fa) S e q)) fun us s1 ⟨vs, H1, I1, r1, ms1, L1, ds, rs, m⟩ => ho pins s1 σ H1 ms1 L1 ds vs us Q I1 m.sees rs r1 m.post) (starEach_plain h1) (plain_any h2)
theorem re_type {T : String} {x : Str} {e : Expr} {es : List Expr} {fa : FA} {op : List D → LH → Res D} {p pos : Pos} (ho : OpA X G W (.type T) op) (hg : Gl X x) (hm : X.mg x = none) (hv : bootBuiltins x = some (.type T)) (ha : PA X (e :: es) (upA G W R fa)) (hp : plainArgs (e :: es) = true) (hn : x ≠ "__name__") (hdb : (x == ("__debug__" : Str)) = false) :
    PE X (.Call (.Name x p) (e :: es) [] pos) (upE G W R (aApp fa op)) := by
  refine ⟨fun pins s σ H Q I ⟨ms, L, ρ, S, e, q⟩ => ?_⟩
  obtain ⟨h1, h2⟩ := plain_ne hp
  refine wpAny_Call_Name_kw (ld_blt I hg hm hv ?_ hn hdb)
  exact PyProof.Rows.callWith_type1 (thn (ha.run pos pins s σ H _ I (midA (f := fa) S e q)) fun us s1 ⟨vs, H1, I1, r1, ms1, L1, ds, rs, m⟩ => ho pins s1 σ H1 ms1 L1 ds vs us Q I1 m.sees rs r1 m.post) (starEach_plain h1) (plain_any h2)

/-! ### methods of built-ins -/
/-- what the method's rule wants -/
def rUp (G : Sta) (op : D → List D → LH → Res D) : V → List V → Hp → VK → Prop := fun x xs H Q => ∃ ms L d ds, Sees G ms L H ∧ Rep G ms H d x ∧ Reps G ms H ds xs ∧ post G ms H (Rep G) Q (fun _ _ _ => False) (noExc (op d ds L))
theorem post.noExc {ms : List Addr} {H : Hp} {α β : Type} {Rel : List Addr → Hp → α → β → Prop} {Q : β → Hp → Prop} {E E' : XK} : ∀ {r : Res α}, post G ms H Rel Q E (noExc r) → post G ms H Rel Q E' (PD.noExc r)
  | .ok _ _, h => h
  | .exc _ _ _, h => h.elim
  | .bad, h => h.elim
theorem tyIs_ok {T : String} {d : D} {L : LH} {ms : List Addr} {H : Hp} {v : V} (h : tyIs T d L = true) (S : Sees G ms L H) (r : Rep G ms H d v) : L2.tyV X.K T v H := by
  unfold tyIs at h
  split at h
  · split at h
    · rename_i xs en
      obtain ⟨p, rfl, _, vs, h1, _⟩ := S.ref en r
      have := eq_of_beq h
      subst this
      exact Or.inl ⟨rfl, _, SqL.of h1⟩
    · rename_i xs en
      obtain ⟨p, rfl, _, vs, h1, _⟩ := S.ref en r
      have := eq_of_beq h
      subst this
      exact Or.inr (Or.inr (Or.inl ⟨rfl, .inl ⟨_, h1⟩⟩))
    · cases h
  · have := eq_of_beq h
    subst this
    cases r
    rfl
  · cases h
theorem few_ok {es : List Expr} {cpos : Pos} {env : PySem.Env} (hp : plainArgs es = true) (hl : es.length < 29) :
    ((backTo cpos (starEach es env)).all (fun x => !x.1) && (backToKw cpos (keywordEach [] env)).all (fun x => x.1.isSome)
      && decide (es.length + ([] : List Keyword).length + (if ([] : List Keyword).isEmpty then 0 else 1) < 30)) = true := by
  have h1 : (backTo cpos (starEach es env)).all (fun x => !x.1) = true := by
    rw [List.all_eq_true]
    intro x hx
    have := plain_any (pos := cpos) (env := env) hp
    rw [List.any_eq_false] at this
    have := this x hx
    simpa using this
  rw [h1, Bool.true_and, Bool.and_eq_true]
  refine ⟨rfl, decide_eq_true ?_⟩
  show es.length + 0 + (if true = true then 0 else 1) < 30
  rw [if_pos rfl]; omega
theorem re_bm {T id : String} {name : Str} {o : Expr} {es : List Expr} {fo : FE} {fa : FA} {op : D → List D → LH → Res D} {apos cpos : Pos} (pa : PlainAttrs T) (slot : Slot T name id) (hty : typeOf (.builtin id) = pure (.type "method_descriptor")) (hm : MtR X id (rUp G op)) (ho : PE X o (upE G W R fo)) (ha : PA X es (upA G W R fa)) (hnil : es = [] → fa = aNil)
    (hbase : attributeBase o name X.env (eval o X.env) = eval o X.env) (hp : plainArgs es = true) (hl : es.length < 29) (hline : (apos.endLine == cpos.line) = true) : PE X (.Call (.Attribute o name apos) es [] cpos) (upE G W R (eBM T op fo fa)) := by
  cases es with
  | nil =>
    cases hnil rfl
    refine peOf (pe_bm0 pa slot hty hm ho hbase hline) fun σ H Q ⟨ms, L, ρ, S, e, q⟩ => ?_
    refine ⟨ms, L, ρ, S, e, (post.bind (R1 := Rep G) q).imp (fun v H1 ⟨ms1, L1, d, x, s, r, q1⟩ => ?_) fun _ _ _ z => z⟩
    split at q1
    · rename_i ht
      exact ⟨tyIs_ok ht s r, ms1, L1, d, [], s, r, .nil, post.noExc (post.ext x q1)⟩
    · exact q1.elim
  | cons e0 es =>
    obtain ⟨h1, h2⟩ := plain_ne hp
    refine peOf (pe_bm pa slot hty hm ho ha hbase (few_ok hp hl) hline (starEach_plain h1) (plain_any h2)) fun σ H Q ⟨ms, L, ρ, S, e, q⟩ => ?_
    refine ⟨ms, L, ρ, S, e, (post.bind (R1 := Rep G) q).imp (fun v H1 ⟨ms1, L1, d, x, s, r, q1⟩ => ?_) fun _ _ _ z => z⟩
    split at q1
    · rename_i ht
      refine ⟨tyIs_ok ht s r, ms1, L1, ρ, s, e.ext x S.fine, (post.bind (R1 := Reps G) (post.ext x q1)).imp (fun vs H2 ⟨ms2, L2, ds, x2, s2, r2, q2⟩ => ?_) fun _ _ _ z => z⟩
      exact ⟨ms2, L2, d, ds, s2, Rep.ext x2 s.fine _ _ r, r2, post.noExc (post.ext x2 q2)⟩
    · exact q1.elim
theorem mt_of {id : String} {op : D → List D → LH → Res D} {r : V → List V → Hp → VK → Prop} (h : MtR X id r) (hi : ∀ (ms : List Addr) (L : LH) (H : Hp) (d : D) (ds : List D) (x : V) (xs : List V) (Q : VK), Sees G ms L H → Rep G ms H d x → Reps G ms H ds xs → post G ms H (Rep G) Q (fun _ _ _ => False) (noExc (op d ds L)) → r x xs H Q) : MtR X id (rUp G op) :=
  fun pins s σ H x xs v us Q I rx rxs ⟨ms, L, d, ds, S, rd, rs, q⟩ => h pins s σ H x xs v us Q I rx rxs (hi ms L H d ds x xs Q S rd rs q)
theorem mtu_append : MtR X "list.append" (rUp G mAppend) := mt_of mt_append fun ms L H d ds x xs Q S r rs q => by
  unfold mAppend at q
  split at q
  · obtain ⟨w, rfl, rw_⟩ := reps1 rs
    split at q
    · rename_i n y xs en
      obtain ⟨p, rfl, e1, vs, h1, r1⟩ := S.ref en r
      split at q
      · rename_i hz
        refine ⟨p, vs, w, rfl, rfl, h1, by rw [← r1.length]; exact hz, ?_⟩
        refine q ms _ .non (Ext.put e1) (S.put e1 True.intro ⟨_, upd_same, ?_⟩) .non
        exact Reps.ext (Ext.put e1) S.fine _ _ (r1.append (.cons rw_ .nil))
      · exact q.elim
    · exact q.elim
  · exact q.elim
theorem reps0 {ms : List Addr} {H : Hp} {vs : List V} (r : Reps G ms H [] vs) : vs = [] := by cases r; rfl
theorem Reps.dropLast {ms : List Addr} {H : Hp} {l : List D} {vs : List V} (r : Reps G ms H l vs) : Reps G ms H l.dropLast vs.dropLast := by
  rw [List.dropLast_eq_take, List.dropLast_eq_take, ← r.length]
  exact r.take _
theorem Reps.eraseIdx {ms : List Addr} {H : Hp} : ∀ {l : List D} {vs : List V} (i : Nat), Reps G ms H l vs → Reps G ms H (l.eraseIdx i) (vs.eraseIdx i)
  | [], _, _, h => by cases h; exact .nil
  | e :: l, _, 0, h => by
    cases h with
    | cons a b => exact b
  | e :: l, _, i + 1, h => by
    cases h with
    | cons a b => exact .cons a (Reps.eraseIdx i b)
def rPopB : V → List V → Hp → VK → Prop := fun x xs H Q => rPop x xs H Q ∨ rPopAt x xs H Q
theorem mt_popB : MtR X "list.pop" rPopB := fun pins s σ H x xs v us Q I rx rxs h => by
  rcases h with h | h
  · exact mt_pop pins s σ H x xs v us Q I rx rxs h
  · exact mt_popAt pins s σ H x xs v us Q I rx rxs h
theorem mtu_pop : MtR X "list.pop" (rUp G mPop) := mt_of mt_popB fun ms L H d ds x xs Q S r rs q => by
  unfold mPop at q
  split at q
  · cases reps0 rs
    split at q
    · rename_i n xs en
      obtain ⟨p, rfl, e1, vs, h1, r1⟩ := S.ref en r
      split at q
      · rename_i y hy
        obtain ⟨w, e2, r2⟩ := r1.get hy
        refine .inl ⟨p, vs, w, rfl, rfl, h1, by rw [← r1.length]; exact e2, ?_⟩
        refine q ms _ w (Ext.put e1) (S.put e1 True.intro ⟨_, upd_same, ?_⟩) (Rep.ext (Ext.put e1) S.fine _ _ r2)
        exact Reps.ext (Ext.put e1) S.fine _ _ r1.dropLast
      · exact q.elim
    · exact q.elim
  · obtain ⟨w0, rfl, rw_⟩ := reps1 rs
    cases rw_
    rename_i n i
    split at q
    · rename_i xs en
      obtain ⟨p, rfl, e1, vs, h1, r1⟩ := S.ref en r
      split at q
      · rename_i hb
        split at q
        · rename_i k hk
          split at q
          · rename_i y hy
            obtain ⟨w, e2, r2⟩ := r1.get hy
            refine .inr ⟨p, vs, i, k, w, rfl, rfl, h1, hb.1, hb.2, ?_, e2, ?_⟩
            · rw [← r1.length]; exact (ixN_seq hk).1
            · refine q ms _ w (Ext.put e1) (S.put e1 True.intro ⟨_, upd_same, ?_⟩) (Rep.ext (Ext.put e1) S.fine _ _ r2)
              exact Reps.ext (Ext.put e1) S.fine _ _ (r1.eraseIdx k)
          · exact q.elim
        · exact q.elim
      · exact q.elim
    · exact q.elim
  · exact q.elim
theorem mtu_extend : MtR X "list.extend" (rUp G mExtend) := mt_of mt_extend fun ms L H d ds x xs Q S r rs q => by
  unfold mExtend at q
  split at q
  · obtain ⟨w, rfl, rw_⟩ := reps1 rs
    split at q
    · rename_i n m xs ys en em
      obtain ⟨p, rfl, e1, vs, h1, r1⟩ := S.ref en r
      obtain ⟨p2, rfl, _, vs2, h2, r2⟩ := S.ref em rw_
      split at q
      · rename_i hz
        refine ⟨p, p2, vs, vs2, rfl, rfl, h1, h2, by rw [← r1.length, ← r2.length]; exact hz, ?_⟩
        refine q ms _ .non (Ext.put e1) (S.put e1 True.intro ⟨_, upd_same, ?_⟩) .non
        exact Reps.ext (Ext.put e1) S.fine _ _ (r1.append r2)
      · exact q.elim
    · exact q.elim
  · exact q.elim
theorem mtu_clear : MtR X "list.clear" (rUp G mClear) := mt_of mt_clear fun ms L H d ds x xs Q S r rs q => by
  unfold mClear at q
  split at q
  · cases reps0 rs
    split at q
    · rename_i n xs en
      obtain ⟨p, rfl, e1, vs, h1, r1⟩ := S.ref en r
      exact ⟨p, vs, rfl, rfl, h1, q ms _ .non (Ext.put e1) (S.put e1 True.intro ⟨_, upd_same, .nil⟩) .non⟩
    · exact q.elim
  · exact q.elim
theorem mtu_get (hu : X.A.units + 64 < cLine) : MtR X "dict.get" (rUp G mGet) := by
  intro pins s σ H x xs v us Q I rx rxs ⟨ms, L, d, ds, S, rd, rs, q⟩
  unfold mGet at q
  split at q
  · split at q
    · rename_i n kvs en
      obtain ⟨p, rfl, e1, ks, h1, r1, nd⟩ := S.ref en rd
      obtain rfl : v = Value.ref p := rx
      split at q
      · rename_i k
        obtain ⟨w, rfl, rw_⟩ := reps1 rs
        obtain ⟨u, rfl, ru⟩ := vals1 rxs
        split at q
        · rename_i hf
          obtain ⟨key, hk⟩ := keyFits_leaf hf
          cases keyD_rep hk rw_
          refine d_get1 (by omega) I (DGet.k h1) ru fun w' s' I' r' => ⟨_, H, I', r', ?_⟩
          rcases r1.look hk with ⟨d', v', e2, e3, r'⟩ | ⟨e2, e3⟩
          · rw [e2] at q; rw [e3]; exact post.same S q r'
          · rw [e2] at q; rw [e3]; exact post.same S q .non
        · exact q.elim
      · rename_i k dd
        obtain ⟨w, w2, rfl, rw_, rw2⟩ := reps2 rs
        obtain ⟨u, u2, rfl, ru, ru2⟩ := vals2 rxs
        split at q
        · rename_i hf
          obtain ⟨key, hk⟩ := keyFits_leaf hf
          cases keyD_rep hk rw_
          refine d_get2 (by omega) I (DGet.k h1) ru ru2 fun w' s' I' r' => ⟨_, H, I', r', ?_⟩
          rcases r1.look hk with ⟨d', v', e2, e3, r'⟩ | ⟨e2, e3⟩
          · rw [e2] at q; rw [e3]; exact post.same S q r'
          · rw [e2] at q; rw [e3]; exact post.same S q rw2
        · exact q.elim
      · exact q.elim
    · exact q.elim
  · exact q.elim

/-! ### in -/
theorem op_oIn (hK : X.K = G.K) (hu : X.A.units + 65 < cLine) : Op2 X G W (compareOp .In) oIn := by
  intro pins s σ H ms L a b x y v u Q I S ra rb rx ry q
  unfold oIn at q
  split at q
  · rename_i n
    split at q
    · rename_i kvs en
      obtain ⟨p, rfl, e1, ks, h1, r1, nd⟩ := S.ref en rb
      split at q
      · rename_i hf
        obtain ⟨key, hk⟩ := keyFits_leaf hf
        cases keyD_rep hk ra
        obtain rfl : u = Value.ref p := ry
        refine d_in (by omega) I (DGet.k h1) rx fun s' I' => ⟨.bl _, H, I', rfl, ?_⟩
        rcases r1.look hk with ⟨d', v', e2, e3, r'⟩ | ⟨e2, e3⟩
        · rw [e2] at q; rw [e3]; exact post.same S q (.bl _)
        · rw [e2] at q; rw [e3]; exact post.same S q (.bl _)
      · exact q.elim
    · rename_i xs en
      obtain ⟨p, rfl, e1, vs, h1, r1⟩ := S.ref en rb
      split at q
      · rename_i pd ep
        split at q
        · rename_i ps eps
          obtain ⟨a1, a2, a3⟩ := toP_ok S 50 a x pd ep ra
          obtain ⟨b1, b2, b3⟩ := toPs_ok S 50 xs vs ps eps r1
          refine op_inD hu pins s σ H x _ v u Q I rx ry ⟨pd, ps, hK ▸ a1, .lst (SqL.of h1) (hK ▸ b1), ?_, ?_, post.same S q (.bl _)⟩
          · unfold SeqAt.shaped; rw [a2, decide_eq_true (by omega)]; rfl
          · unfold SeqAt.shaped
            rw [show (PyData.list ps).canLay0 = true by simpa [PyData.canLay0] using b2, decide_eq_true (by simp only [PyData.depth]; omega)]; rfl
        · exact q.elim
      · exact q.elim
    · exact q.elim
  · split at q
    · cases ra; cases rb
      exact op_in_str pins s σ H _ _ v u Q I rx ry ⟨_, _, rfl, rfl, post.same S q (.bl _)⟩
    · exact q.elim
  · exact q.elim
theorem op_oNotIn (hK : X.K = G.K) (hu : X.A.units + 65 < cLine) : Op2 X G W (compareOp .NotIn) oNotIn := by
  intro pins s σ H ms L a b x y v u Q I S ra rb rx ry q
  unfold oNotIn oIn at q
  split at q
  · rename_i n
    split at q
    · rename_i kvs en
      obtain ⟨p, rfl, e1, ks, h1, r1, nd⟩ := S.ref en rb
      split at q
      · rename_i hf
        obtain ⟨key, hk⟩ := keyFits_leaf hf
        cases keyD_rep hk ra
        obtain rfl : u = Value.ref p := ry
        refine d_notIn (by omega) I (DGet.k h1) rx fun s' I' => ⟨.bl _, H, I', rfl, ?_⟩
        rcases r1.look hk with ⟨d', v', e2, e3, r'⟩ | ⟨e2, e3⟩
        · rw [e2] at q; rw [e3]; exact post.same S q (.bl _)
        · rw [e2] at q; rw [e3]; exact post.same S q (.bl _)
      · exact q.elim
    · rename_i xs en
      obtain ⟨p, rfl, e1, vs, h1, r1⟩ := S.ref en rb
      split at q
      · rename_i pd ep
        split at q
        · rename_i ps eps
          obtain ⟨a1, a2, a3⟩ := toP_ok S 50 a x pd ep ra
          obtain ⟨b1, b2, b3⟩ := toPs_ok S 50 xs vs ps eps r1
          refine op_notInD hu pins s σ H x _ v u Q I rx ry ⟨pd, ps, hK ▸ a1, .lst (SqL.of h1) (hK ▸ b1), ?_, ?_, post.same S q (.bl _)⟩
          · unfold SeqAt.shaped; rw [a2, decide_eq_true (by omega)]; rfl
          · unfold SeqAt.shaped
            rw [show (PyData.list ps).canLay0 = true by simpa [PyData.canLay0] using b2, decide_eq_true (by simp only [PyData.depth]; omega)]; rfl
        · exact q.elim
      · exact q.elim
    · exact q.elim
  · split at q
    · cases ra; cases rb
      exact op_notIn_str pins s σ H _ _ v u Q I rx ry ⟨_, _, rfl, rfl, post.same S q (.bl _)⟩
    · exact q.elim
  · exact q.elim

/-! ### * -/
theorem op_oMul (hK : X.K = G.K) : Op2 X G W (binaryOp .Mult) oMul := by
  intro pins s σ H ms L a b x y v u Q I S ra rb rx ry q
  unfold oMul at q
  split at q
  · cases ra; cases rb
    split at q
    · rename_i hz
      exact op_mul pins s σ H _ _ v u Q I rx ry ⟨_, _, rfl, rfl, hz, post.same S q (.int _)⟩
    · exact q.elim
  · cases rb
    cases ra with
    | tup h1 r1 =>
      split at q
      · rename_i hz
        refine op_repT pins s σ H _ _ v u Q I rx ry ⟨_, _, _, rfl, rfl, hK ▸ h1, ?_, hz.1, hz.2.1, by rw [← r1.length]; exact hz.2.2.2, post.tuple S q (r1.rep _)⟩
        intro e
        subst e
        cases r1
        exact absurd hz.2.2.1 (by decide)
      · exact q.elim
  · cases rb
    split at q
    · rename_i xs en
      obtain ⟨p, rfl, e1, vs, h1, r1⟩ := S.ref en ra
      split at q
      · rename_i hz
        exact op_rep pins s σ H _ _ v u Q I rx ry ⟨_, _, vs, rfl, rfl, h1, hz.2.1, hz.1, by rw [← r1.length]; exact hz.2.2, post.list S q (r1.rep _)⟩
      · exact q.elim
    · exact q.elim
  · exact q.elim

/-! ### xs[::-1] -/
theorem re_rev {e : Expr} {fe : FE} {k : Nat} {p1 p2 p3 pos : Pos} (hK : X.K = G.K) (he : PE X e (upE G W R fe)) : PE X (.Subscript e (.Slice none none (some (.UnaryOp .USub (.Constant (.int 1) k p1) p2)) p3) pos) (upE G W R (e1 oRevL fe)) :=
  peOf (pe_revL he) fun σ H Q ⟨ms, L, ρ, S, e, q⟩ => by
    refine ⟨ms, L, ρ, S, e, (post.bind (R1 := Rep G) q).imp (fun v H1 ⟨ms1, L1, d, x, s, r, q1⟩ => ?_) fun _ _ _ z => z⟩
    unfold oRevL at q1
    split at q1
    · cases r with
      | rol h1 r1 => exact ⟨_, _, rfl, hK ▸ h1.sq, post.list s (post.ext x q1) r1.reverse⟩
    · split at q1
      · rename_i xs en
        obtain ⟨p, rfl, _, vs, h1, r1⟩ := s.ref en r
        exact ⟨_, _, rfl, SqL.of h1, post.list s (post.ext x q1) r1.reverse⟩
      · exact q1.elim
    · exact q1.elim
end
end PD
/-! P10: dicts made, what is walked, op=, isinstance, list(range(..)). -/
namespace PD
open PySem PySem.Spec PyProof.Rows L2

/-- an object of ours becomes a cell -/
theorem Sees.adopt {G : Sta} {ms : List Addr} {L : LH} {H : Hp} {p : Addr} {o u : HO} {c : Cell} (S : Sees G ms L H) (hp : H p = some o) (mo : Mut (some o)) (np : p ∉ ms) (m : Mut (some u)) (q : CellOk G (ms ++ [p]) (upd H p u) p c) : Sees G (ms ++ [p]) (L.push c) (upd H p u) := by
  have kp : Kp G.K ms H (ms ++ [p]) (upd H p u) := ⟨fun n a h => by rw [get_app, if_neg (by have := (List.getElem?_eq_some_iff.mp h).1; omega)]; exact h, (Kp.off (ms := ms) hp mo).tup, (Kp.off (ms := ms) hp mo).rol⟩
  refine ⟨by rw [List.length_append, S.len]; rfl, ?_, ⟨fun a h => ?_⟩, fun n a c' h e => ?_⟩
  · exact List.nodup_append.mpr ⟨S.nd, by simp, fun a h b hb => by rw [List.mem_singleton.mp hb]; exact fun e => np (e ▸ h)⟩
  · rcases List.mem_append.mp h with h | h
    · obtain ⟨w, e, m'⟩ := S.fine.muts a h
      exact ⟨w, by rw [upd_ne (show a ≠ p from fun e => np (e ▸ h))]; exact e, m'⟩
    · rw [List.mem_singleton.mp h]
      exact ⟨u, upd_same, m⟩
  · rw [LH.get_push, ← S.len] at h
    rw [get_app] at e
    by_cases hn : n = ms.length
    · rw [if_pos hn] at h e
      cases h; cases e
      exact q
    · rw [if_neg hn] at h e
      refine (S.cell n a c' h e).kp kp fun w z => ?_
      rw [upd_ne (show a ≠ p from fun e' => np (by rw [← e']; exact List.mem_of_getElem? e))]; exact z
theorem Ext.adopt {ms0 ms : List Addr} {H0 H : Hp} {p : Addr} {u : HO} (x : Ext ms0 H0 ms H) (h0 : p ∈ ms0 ∨ H0 p = none) (np : p ∉ ms) : Ext ms0 H0 (ms ++ [p]) (upd H p u) := by
  have h0' : H0 p = none := by
    rcases h0 with h | h
    · obtain ⟨i, hi, e⟩ := List.mem_iff_getElem.mp h
      exact absurd (List.mem_of_getElem? (x.pre i p (by rw [← e]; exact List.getElem?_eq_getElem hi))) np
    · exact h
  refine ⟨fun n a h => ?_, fun a h => ?_, fun a o h na => ?_⟩
  · have h2 := x.pre n a h
    rw [get_app, if_neg (by have := (List.getElem?_eq_some_iff.mp h2).1; omega)]; exact h2
  · rcases List.mem_append.mp h with h | h
    · exact x.new a h
    · rw [List.mem_singleton.mp h]; exact .inr h0'
  · rw [upd_ne (ne_of_none h h0')]; exact x.keep a o h na

section
variable {X : Cx} {G : Sta} {W : WX} {R : Rec}
theorem KvRep.ext {ms ms' : List Addr} {H H' : Hp} (x : Ext ms H ms' H') (f : Fine ms H) {l : List (D × D)} {ks : List (Key × V)} (h : KvRep G ms H l ks) : KvRep G ms' H' l ks := h.kp (x.kp f)
theorem notMem_ext {ms ms' : List Addr} {H H' : Hp} {p : Addr} {o : HO} (x : Ext ms H ms' H') (np : p ∉ ms) (h : H p = some o) : p ∉ ms' := fun z => by
  rcases x.new p z with z | z
  · exact np z
  · rw [h] at z; cases z

/-! ### {} and {k: v, ..} -/
theorem re_dct0 {pos : Pos} : PE X (.Dict [] [] pos) (upE G W R (eDct [])) := peOf pe_dnewK fun σ H Q ⟨ms, L, ρ, S, e, q⟩ => fun p hp => by
  have q' : post G ms H (Rep G) Q (WE W σ) (.ok (.ref L.len) (L.push (.dct []))) := q
  exact q' (ms ++ [p]) _ _ (Ext.push hp) (S.push hp True.intro ⟨[], upd_same, .nil, by simp⟩) (.ref (by rw [get_app, if_pos S.len.symm]))
inductive RPs (X : Cx) (G : Sta) (W : WX) (R : Rec) : List (Option Expr) → List Expr → List (FE × FE) → Prop
  | nil : RPs X G W R [] [] []
  | cons {k v : Expr} {ks : List (Option Expr)} {vs : List Expr} {fk fv : FE} {ps : List (FE × FE)} : PE X k (upE G W R fk) → PE X v (upE G W R fv) → RPs X G W R ks vs ps → RPs X G W R (some k :: ks) (v :: vs) ((fk, fv) :: ps)
theorem RPs.pps {pos : Pos} {ks : List (Option Expr)} {vs : List Expr} {ps : List (FE × FE)} (h : RPs X G W R ks vs ps) : PPs X pos ks vs (ps.map fun p => (upE G W R p.1, upE G W R p.2)) := by
  induction h with
  | nil => exact pps_nil
  | cons a b _ ih => exact pps_cons a b ih
theorem RPs.len {ks : List (Option Expr)} {vs : List Expr} {ps : List (FE × FE)} (h : RPs X G W R ks vs ps) : ks.length = ps.length ∧ vs.length = ps.length ∧ ks.all (·.isSome) = true := by
  induction h with
  | nil => exact ⟨rfl, rfl, rfl⟩
  | cons a b _ ih => exact ⟨by rw [List.length_cons, List.length_cons, ih.1], by rw [List.length_cons, List.length_cons, ih.2.1], by rw [List.all_cons, ih.2.2]; rfl⟩
inductive Prs (G : Sta) (ms : List Addr) (H : Hp) : List (D × D) → List (V × V) → Prop
  | nil : Prs G ms H [] []
  | cons {a b : D} {v w : V} {l : List (D × D)} {vs : List (V × V)} : Rep G ms H a v → Rep G ms H b w → Prs G ms H l vs → Prs G ms H ((a, b) :: l) ((v, w) :: vs)
theorem post.bind2 {ms0 ms : List Addr} {H0 H : Hp} {α β γ δ : Type} {R1 : List Addr → Hp → α → β → Prop} {R2 : List Addr → Hp → γ → δ → Prop} {Q : δ → Hp → Prop} {E : XK} {k : α → LH → Res γ} (x0 : Ext ms0 H0 ms H) :
    ∀ {r : Res α}, post G ms0 H0 R2 Q E (r.bind k) → post G ms H R1 (fun v H1 => ∃ ms1 L1 a, Ext ms H ms1 H1 ∧ Sees G ms1 L1 H1 ∧ R1 ms1 H1 a v ∧ post G ms0 H0 R2 Q E (k a L1)) E r
  | .ok a L1, h => fun ms1 H1 v x s r => ⟨ms1, L1, a, x, s, r, h⟩
  | .exc _ _ _, h => fun ms' H' c d e s r => h ms' H' c d (x0.trans e) s r
  | .bad, h => h
theorem tPairs_read {δ : Type} {R2 : List Addr → Hp → D → δ → Prop} {Qf : δ → Hp → Prop} {σ : L2.St} {ρ : Slt} {ms0 : List Addr} {H0 : Hp} : ∀ (ps : List (FE × FE)) (ms : List Addr) (L : LH) (H : Hp) (k : List (D × D) → LH → Res D) (Q2 : List (V × V) → Hp → Prop), Ext ms0 H0 ms H → Sees G ms L H → EnvOk G ms H ρ σ →
    post G ms0 H0 R2 Qf (WE W σ) ((pPairs ps R ρ L).bind k) →
    (∀ ms' L' H' kvs vs, Ext ms H ms' H' → Sees G ms' L' H' → Prs G ms' H' kvs vs → post G ms0 H0 R2 Qf (WE W σ) (k kvs L') → Q2 vs H') → tPairs (ps.map fun p => (upE G W R p.1, upE G W R p.2)) σ H Q2
  | [], ms, L, H, k, Q2, x0, S, e, q, h => h ms L H [] [] (Ext.refl _ _) S .nil q
  | (fa, fb) :: r, ms, L, H, k, Q2, x0, S, e, q, h => by
    have q1 : post G ms0 H0 R2 Qf (WE W σ) ((fa R ρ L).bind fun x L1 => ((fb R ρ L1).bind fun y L2 => (pPairs r R ρ L2).bind fun ps L3 => .ok ((x, y) :: ps) L3).bind k) := by
      have q2 := q
      unfold pPairs at q2
      cases hz : fa R ρ L with
      | ok a L1 => rw [hz] at q2; exact q2
      | exc _ _ _ => rw [hz] at q2; exact q2
      | bad => rw [hz] at q2; exact q2
    refine (fun (z : upE G W R fa σ H _) => z) (?_)
    refine ⟨ms, L, ρ, S, e, (post.bind2 (R1 := Rep G) x0 q1).imp (fun v H1 ⟨ms1, L1, d, x1, s1, rd, p1⟩ => ?_) fun _ _ _ z => z⟩
    have q3 : post G ms0 H0 R2 Qf (WE W σ) ((fb R ρ L1).bind fun y L2 => ((pPairs r R ρ L2).bind fun ps L3 => .ok ((d, y) :: ps) L3).bind k) := by
      have q2 := p1
      cases hz : fb R ρ L1 with
      | ok a L1 => rw [hz] at q2; exact q2
      | exc _ _ _ => rw [hz] at q2; exact q2
      | bad => rw [hz] at q2; exact q2
    refine (fun (z : upE G W R fb σ H1 _) => z) (?_)
    refine ⟨ms1, L1, ρ, s1, e.ext x1 S.fine, (post.bind2 (R1 := Rep G) (x0.trans x1) q3).imp (fun w H2 ⟨ms2, L2, d2, x2, s2, rd2, p2⟩ => ?_) fun _ _ _ z => z⟩
    have q4 : post G ms0 H0 R2 Qf (WE W σ) ((pPairs r R ρ L2).bind fun ps L3 => k ((d, d2) :: ps) L3) := by
      have q2 := p2
      cases hz : pPairs r R ρ L2 with
      | ok a L1 => rw [hz] at q2; exact q2
      | exc _ _ _ => rw [hz] at q2; exact q2
      | bad => rw [hz] at q2; exact q2
    refine tPairs_read r ms2 L2 H2 _ _ ((x0.trans x1).trans x2) s2 ((e.ext x1 S.fine).ext x2 s1.fine) q4 fun ms' L' H' kvs vs x s rp qq => ?_
    exact h ms' L' H' _ _ ((x1.trans x2).trans x) s (.cons (Rep.ext x s2.fine _ _ (Rep.ext x2 s1.fine _ _ rd)) (Rep.ext x s2.fine _ _ rd2) rp) qq
theorem Prs.keys {ms : List Addr} {H : Hp} : ∀ {l : List (D × D)} {vs : List (V × V)}, Prs G ms H l vs → (l.all fun p => leafKey p.1) = true → ∃ kvs : List (Key × V), vs = kvs.map (fun kv => (kV kv.1, kv.2)) ∧ KvRep G ms H l kvs
  | [], _, h, _ => by cases h; exact ⟨[], rfl, .nil⟩
  | (a, b) :: l, _, h, hk => by
    cases h with
    | cons r1 r2 r3 =>
      rw [List.all_cons, Bool.and_eq_true] at hk
      obtain ⟨kvs, rfl, q⟩ := Prs.keys r3 hk.2
      obtain ⟨key, e⟩ := leaf_key hk.1
      have := keyD_rep e r1
      subst this
      exact ⟨(key, _) :: kvs, rfl, .cons e r2 q⟩
theorem KvRep.merge {ms : List Addr} {H : Hp} : ∀ {l : List (D × D)} {kvs : List (Key × V)} {acc : List (D × D)} {ks : List (Key × V)}, KvRep G ms H l kvs → KvRep G ms H acc ks → (ks.map (·.1)).Nodup →
    KvRep G ms H (l.foldl (fun acc p => dPut acc p.1 p.2) acc) (mergeK ks kvs) ∧ ((mergeK ks kvs).map (·.1)).Nodup
  | [], _, _, _, h, ha, nd => by cases h; exact ⟨ha, nd⟩
  | (a, b) :: l, _, acc, ks, h, ha, nd => by
    cases h with
    | cons h1 h2 h3 =>
      have z := KvRep.merge h3 (KvRep.put h1 h2 ha nd) (putK_keys nd)
      exact z
theorem re_dct {keys : List (Option Expr)} {values : List Expr} {ps : List (FE × FE)} {pos : Pos} (h : RPs X G W R keys values ps) (h0 : keys ≠ []) (h15 : keys.length ≤ 15) : PE X (.Dict keys values pos) (upE G W R (eDct ps)) := by
  obtain ⟨l1, l2, l3⟩ := h.len
  refine peOf (pe_disp h.pps l3 (l1.trans l2.symm) h0 h15) fun σ H Q ⟨ms, L, ρ, S, e, q⟩ => fun p hp => ?_
  have np : p ∉ ms := fun z => by
    obtain ⟨u, e, _⟩ := S.fine.muts p z
    rw [hp] at e; cases e
  have x0 : Ext ms H ms (upd H p (.dK [])) := Ext.fresh hp
  refine tPairs_read ps ms L _ _ _ x0 (S.fresh hp) (e.ext x0 S.fine) q fun ms' L' H' kvs vs x s rp qq => ?_
  have hp' : H' p = some (.dK []) := x.keep p _ upd_same np
  have np' := notMem_ext x np upd_same
  split at qq
  · rename_i hb
    rw [Bool.and_eq_true] at hb
    obtain ⟨kl, e1, rk⟩ := rp.keys hb.1
    obtain ⟨m1, m2⟩ := KvRep.merge rk (.nil : KvRep G ms' H' [] []) (by simp)
    refine ⟨hp', kl, e1, by rw [← rk.length]; exact of_decide_eq_true hb.2, ?_⟩
    have kp : Kp G.K ms' H' (ms' ++ [p]) (upd H' p (.dK (mergeK [] kl))) := ⟨fun n a h => by rw [get_app, if_neg (by have := (List.getElem?_eq_some_iff.mp h).1; omega)]; exact h, (Kp.off (ms := ms') hp' True.intro).tup, (Kp.off (ms := ms') hp' True.intro).rol⟩
    refine qq (ms' ++ [p]) _ (.ref p) ((x0.trans x).adopt (.inr hp) np') (s.adopt hp' True.intro np' True.intro ⟨_, upd_same, m1.kp kp, m2⟩) (.ref (by rw [get_app, if_pos s.len.symm]))
  · exact qq.elim

/-! ### {k: v for ..} -/
theorem dcPur_dyn (b : D → LH → Res (Option (D × D))) (xs : List D) : ∀ (r : List D) (i : Nat) (acc : List (D × D)) (L : LH), xs.drop i = r → dcPur b r acc L = dcDyn b (fun _ i => some xs[i]?) (r.length + 1) i acc L
  | [], i, acc, L, h => by
    have hl : xs.length ≤ i := List.drop_eq_nil_iff.mp h
    unfold dcPur dcDyn
    rw [List.getElem?_eq_none hl]
  | x :: r, i, acc, L, h => by
    have e : xs[i]? = some x := by
      have := congrArg List.head? h
      rw [List.head?_drop] at this
      exact this
    have e2 : xs.drop (i + 1) = r := by rw [← List.tail_drop, h]; rfl
    unfold dcPur dcDyn
    rw [e]
    dsimp only
    congr 1
    funext o L1
    cases o with
    | none => exact dcPur_dyn b xs r (i + 1) acc L1 e2
    | some p =>
      obtain ⟨y, z⟩ := p
      dsimp only
      split
      · exact dcPur_dyn b xs r (i + 1) (dPut acc y z) L1 e2
      · rfl
theorem dcRun_dyn (b : D → LH → Res (Option (D × D))) (j : Itr) (L : LH) : dcRun b j L = dcDyn b j.nx j.bnd 0 [] L := by
  cases j with
  | pur xs => exact dcPur_dyn b xs xs 0 [] L rfl
  | dyn nx k => rfl
theorem dc_read {wi : TI} {g : FG} {t : FT} {fk fe : FE} {it : FI} {vs : List Nat} {σ : L2.St} {H : Hp} {Q : VK} {ms : List Addr} {L : LH} {ρ : Slt} (S : Sees G ms L H) (e : EnvOk G ms H ρ σ) (q : post G ms H (Rep G) Q (WE W σ) (eDc vs it (cPair g t fk fe) R ρ L)) :
    tDc (upI G W R it) (upGp (PrW vs) G W0 R g) (upT G W0 R t) (upE G W0 R fk) (upE G W0 R fe) vs σ H Q := by
  refine ⟨ms, L, ρ, S, e, (post.bind (R1 := ItOk G) q).imp (fun J H1 ⟨ms1, L1, j, x1, s1, itok, q1⟩ => ?_) fun _ _ _ z => z⟩
  intro dd hD
  have q1' : post G ms H (Rep G) Q (WE W σ) ((dcRun (fun x M => cPair g t fk fe R x (wipeE ρ vs) M) j L1).bind fun kvs L2 => .ok (.ref L2.len) (L2.push (.dct kvs))) := q1
  rw [dcRun_dyn] at q1'
  let b : D → LH → Res (Option (D × D)) := fun x M => cPair g t fk fe R x (wipeE ρ vs) M
  let fin : List (D × D) → LH → Res D := fun kvs L2 => .ok (.ref L2.len) (L2.push (.dct kvs))
  have nD : dd ∉ ms1 := fun h => by
    obtain ⟨u, z, _⟩ := s1.fine.muts dd h
    rw [hD] at z; cases z
  let Wd : Nat → Nat → Hp → Prop := fun i m H' => ∃ ms' L' acc ws, Ext ms1 H1 ms' H' ∧ Sees G ms' L' H' ∧ H' dd = some (.dK ws) ∧ dd ∉ ms' ∧ KvRep G ms' H' acc ws ∧ (ws.map (·.1)).Nodup ∧ post G ms H (Rep G) Q (WE W σ) ((dcDyn b j.nx m i acc L').bind fin)
  refine ⟨Wd, ⟨j.bnd, ms1, L1, [], [], Ext.fresh hD, s1.fresh hD, upd_same, nD, .nil, by simp, q1'⟩, ?_⟩
  rintro i m H' ⟨ms', L', acc, ws, x', s', hD', nD', rs', nd', q'⟩
  cases m with
  | zero => exact q'.elim
  | succ k =>
    have ok := itok ms' L' H' i x' s'
    unfold dcDyn at q'
    cases hn : j.nx L' i with
    | none => rw [hn] at q'; exact q'.elim
    | some o =>
      rw [hn] at q' ok
      cases o with
      | none =>
        refine .inl ⟨ok, ?_⟩
        have q2 : post G ms H (Rep G) Q (WE W σ) (.ok (.ref L'.len) (L'.push (.dct acc))) := q'
        have e1 : upd H' dd (.dK ws) = H' := by
          funext a
          by_cases z : a = dd
          · rw [z, upd_same, hD']
          · rw [upd_ne z]
        have h0 : dd ∈ ms ∨ H dd = none := by
          by_cases hm : dd ∈ ms
          · exact .inl hm
          · refine .inr ?_
            cases z : H dd with
            | none => rfl
            | some u => rw [x1.keep dd u z hm] at hD; cases hD
        have xf : Ext ms H (ms' ++ [dd]) H' := by
          have y := (x1.trans x').adopt (u := .dK ws) h0 nD'
          rw [e1] at y
          exact y
        have kp : Kp G.K ms' H' (ms' ++ [dd]) (upd H' dd (.dK ws)) := ⟨fun n a h => by rw [get_app, if_neg (by have := (List.getElem?_eq_some_iff.mp h).1; omega)]; exact h, (Kp.off (ms := ms') hD' True.intro).tup, (Kp.off (ms := ms') hD' True.intro).rol⟩
        have sf := s'.adopt (u := .dK ws) hD' True.intro nD' True.intro (c := .dct acc) ⟨ws, upd_same, rs'.kp kp, nd'⟩
        rw [e1] at sf
        exact q2 (ms' ++ [dd]) H' (.ref dd) xf sf (.ref (by rw [get_app, if_pos s'.len.symm]))
      | some d =>
        refine .inr ⟨ok.1, fun H2 => Wd (i + 1) k H2, fun H2 z => ⟨k, Nat.lt_succ_self _, z⟩, fun v H'' hy => ?_⟩
        obtain ⟨x2, s2, r2⟩ := ok.2 v H'' hy
        have hD2 := x2.keep dd _ hD' nD'
        have nD2 : dd ∉ ms' := nD'
        have ew : EnvOk G ms' H'' (wipeE ρ vs) (L2.wipe σ vs) := (e.ext ((x1.trans x').trans x2) S.fine).wipe vs
        have rs2 := rs'.ext x2 s'.fine
        have q2 : post G ms H (Rep G) Q (WE W σ) (((b d L').bind fun o L1 => match o with
          | none => dcDyn b j.nx k (i + 1) acc L1
          | some (y, z) => if keyFits acc y && decide (acc.length < sizeLine) then dcDyn b j.nx k (i + 1) (dPut acc y z) L1 else .bad).bind fin) := q'
        rcases noExc_cases ((g R d (wipeE ρ vs) L').bind fun ρ1 L1 => (t R ρ1 L1).bind fun c L2 => if c then (fk R ρ1 L2).bind fun y L3 => (fe R ρ1 L3).bind fun z L4 => .ok (some (y, z)) L4 else .ok none L2) with ⟨o, M, ho, hb⟩ | hb
        · have hb' : b d L' = .ok o M := hb
          rw [hb'] at q2
          obtain ⟨ρ1, M1, hg1, ho⟩ := bind_ok ho
          obtain ⟨c, M2, ht1, ho⟩ := bind_ok ho
          refine ⟨ms', L', wipeE ρ vs, d, s2, ew, r2, ?_⟩
          rw [hg1]
          rintro ms2 H2 σ2 y2 z2 ⟨e2, p2⟩
          have p2' : L2.wipe σ2 vs = L2.wipe σ vs := p2.trans (wipe_idem σ vs)
          refine ⟨p2', ms2, M1, ρ1, z2, e2, ?_⟩
          rw [ht1]
          intro ms3 H3 c' y3 z3 hc'
          cases (show c = c' from hc')
          have nDm2 : dd ∉ ms2 := notMem_ext y2 nD2 hD2
          have hDm2 := y2.keep dd _ hD2 nD2
          have nD3 : dd ∉ ms3 := notMem_ext y3 nDm2 hDm2
          have hD3 : H3 dd = some (.dK ws) := y3.keep dd _ hDm2 nDm2
          have ex3 : Ext ms1 H1 ms3 H3 := ((x'.trans x2).trans y2).trans y3
          have rs3 := (rs2.ext y2 s2.fine).ext y3 z2.fine
          cases c with
          | false =>
            cases ho
            exact iteF ⟨ms3, _, acc, ws, ex3, z3, hD3, nD3, rs3, nd', q2⟩
          | true =>
            obtain ⟨y, M3, hk1, ho⟩ := bind_ok ho
            obtain ⟨z, M4, he1, ho⟩ := bind_ok ho
            cases ho
            have e3 := e2.ext y3 z2.fine
            refine iteT ⟨ms3, M2, ρ1, z3, e3, ?_⟩
            rw [hk1]
            intro ms4 H4 yv y4 z4 r4
            have nD4 : dd ∉ ms4 := notMem_ext y4 nD3 hD3
            have hD4 : H4 dd = some (.dK ws) := y4.keep dd _ hD3 nD3
            have rs4 := rs3.ext y4 z3.fine
            refine ⟨ms4, M3, ρ1, z4, e3.ext y4 z3.fine, ?_⟩
            rw [he1]
            intro ms5 H5 zv y5 z5 r5
            have nD5 : dd ∉ ms5 := notMem_ext y5 nD4 hD4
            have hD5 : H5 dd = some (.dK ws) := y5.keep dd _ hD4 nD4
            have rs5 := rs4.ext y5 z4.fine
            have r45 := Rep.ext y5 z4.fine _ _ r4
            have q3 : post G ms H (Rep G) Q (WE W σ) ((if keyFits acc y && decide (acc.length < sizeLine) then dcDyn b j.nx k (i + 1) (dPut acc y z) M else .bad).bind fin) := q2
            by_cases hl : (keyFits acc y && decide (acc.length < sizeLine)) = true
            · rw [if_pos hl] at q3
              rw [Bool.and_eq_true] at hl
              obtain ⟨key, hk⟩ := keyFits_leaf hl.1
              have e7 := keyD_rep hk r45
              refine ⟨ws, key, e7, hD5, by rw [← rs5.length]; exact of_decide_eq_true hl.2, ms5, _, dPut acc y z, putK ws key zv, ?_, z5.off hD5 True.intro nD5, upd_same, nD5, ?_, putK_keys nd', q3⟩
              · have ex5 := (ex3.trans y4).trans y5
                exact ⟨ex5.pre, ex5.new, fun a o' h na => by rw [upd_ne (ne_of_none h hD)]; exact ex5.keep a o' h na⟩
              · exact (KvRep.put hk r5 rs5 nd').kp (Kp.off hD5 True.intro)
            · rw [if_neg hl] at q3; exact q3.elim
        · have hb' : b d L' = .bad := hb
          rw [hb'] at q2
          exact q2.elim
theorem re_dc {kx vx tg iter : Expr} {ifs : List Expr} {scope : Scope} {own : List (Str × Nat)} {pos : Pos} {g : FG} {t : FT} {fk fe : FE} {it : FI} (hc : X.calm = true) (hN : X.N.Nodup) (hi : PI X tg iter (upI G W R it)) (ok : BlkOk X.N X.env.scope scope own)
    (hg : ∀ (s : Shared) (H : Hp) (C : Addr) (cl : List (Str × Addr)) (fp : List Addr), PG (X.blk s H scope (compEnvC scope cl C X.env) fp) tg (upGp (PrW (own.map (·.2))) G W0 R g))
    (ht : ∀ (s : Shared) (H : Hp) (C : Addr) (cl : List (Str × Addr)) (fp : List Addr), PTs (X.blk s H scope (compEnvC scope cl C X.env) fp) ifs (upT G W0 R t))
    (hk : ∀ (s : Shared) (H : Hp) (C : Addr) (cl : List (Str × Addr)) (fp : List Addr), PE (X.blk s H scope (compEnvC scope cl C X.env) fp) kx (upE G W0 R fk))
    (he : ∀ (s : Shared) (H : Hp) (C : Addr) (cl : List (Str × Addr)) (fp : List Addr), PE (X.blk s H scope (compEnvC scope cl C X.env) fp) vx (upE G W0 R fe)) (hs : ∀ x, foldedSetIterable iter X.env x = pure x) :
    PE X (.DictComp kx vx [⟨tg, iter, ifs, 0⟩] scope pos) (upE G W R (eDc (own.map (·.2)) it (cPair g t fk fe))) :=
  peOf (pe_dc hc hN hi ok hg ht hk he hs) fun σ H Q ⟨ms, L, ρ, S, e, q⟩ => dc_read (wi := upI G W R it) S e q

/-! ### what is walked -/
theorem itok_list {ms : List Addr} {H : Hp} {n : Nat} {p : Addr} (hn : ms[n]? = some p) (k : Nat) : ItOk G ms H (.dyn (listAt n) k) (Itl X.K p) := fun ms' L' H' i x S => by
  show match listAt n L' i with
    | none => True
    | some none => (Itl X.K p).stop i H'
    | some (some d) => (Itl X.K p).go i H' ∧ ∀ y H'', (Itl X.K p).yld i H' y H'' → Ext ms' H' ms' H'' ∧ Sees G ms' L' H'' ∧ Rep G ms' H'' d y
  unfold listAt
  cases en : L'.get n with
  | none => trivial
  | some c =>
    cases c with
    | lst xs =>
      dsimp only
      obtain ⟨vs, h1, r1⟩ := S.cell n p _ en (x.pre n p hn)
      cases hx : xs[i]? with
      | none =>
        have hl : xs.length ≤ i := List.getElem?_eq_none_iff.mp hx
        exact ⟨vs, SqL.of h1, by rw [← r1.length]; exact hl⟩
      | some d =>
        obtain ⟨w, e2, r2⟩ := r1.get hx
        refine ⟨⟨vs, w, SqL.of h1, e2⟩, fun y H'' hy => ?_⟩
        obtain ⟨eH, hy⟩ := hy
        subst eH
        have := hy vs (SqL.of h1)
        rw [e2] at this; cases this
        exact ⟨Ext.refl _ _, S, r2⟩
    | dct _ => trivial
    | ins _ _ => trivial
    | set _ => trivial
theorem itok_tup (hK : X.K = G.K) {ms : List Addr} {H : Hp} {p : Addr} {vs : List V} {l : List D} (f : Fine ms H) (h1 : SqT G.K H p vs) (r1 : Reps G ms H l vs) : ItOk G ms H (.pur l) (Itt X.K p) := fun ms' L' H' i x S => by
  have h2 : SqT X.K H' p vs := hK ▸ x.tup f h1
  have r2 := Reps.ext x f _ _ r1
  show match some l[i]? with
    | none => True
    | some none => (Itt X.K p).stop i H'
    | some (some d) => (Itt X.K p).go i H' ∧ ∀ y H'', (Itt X.K p).yld i H' y H'' → Ext ms' H' ms' H'' ∧ Sees G ms' L' H'' ∧ Rep G ms' H'' d y
  cases hx : l[i]? with
  | none =>
    have hl : l.length ≤ i := List.getElem?_eq_none_iff.mp hx
    exact ⟨vs, h2, by rw [← r1.length]; exact hl⟩
  | some d =>
    obtain ⟨w, e2, r3⟩ := r2.get hx
    refine ⟨⟨vs, w, h2, e2⟩, fun y H'' hy => ?_⟩
    obtain ⟨eH, hy⟩ := hy
    subst eH
    have := hy vs h2
    rw [e2] at this; cases this
    exact ⟨Ext.refl _ _, S, r3⟩
theorem itok_rol (hK : X.K = G.K) {ms : List Addr} {H : Hp} {p : Addr} {vs : List V} {l : List D} (f : Fine ms H) (h1 : RoL G.K H p vs) (r1 : Reps G ms H l vs) : ItOk G ms H (.pur l) (Itl X.K p) := fun ms' L' H' i x S => by
  have h2 : SqL X.K H' p vs := hK ▸ (x.rol f h1).sq
  have r2 := Reps.ext x f _ _ r1
  show match some l[i]? with
    | none => True
    | some none => (Itl X.K p).stop i H'
    | some (some d) => (Itl X.K p).go i H' ∧ ∀ y H'', (Itl X.K p).yld i H' y H'' → Ext ms' H' ms' H'' ∧ Sees G ms' L' H'' ∧ Rep G ms' H'' d y
  cases hx : l[i]? with
  | none =>
    have hl : l.length ≤ i := List.getElem?_eq_none_iff.mp hx
    exact ⟨vs, h2, by rw [← r1.length]; exact hl⟩
  | some d =>
    obtain ⟨w, e2, r3⟩ := r2.get hx
    refine ⟨⟨vs, w, h2, e2⟩, fun y H'' hy => ?_⟩
    obtain ⟨eH, hy⟩ := hy
    subst eH
    have := hy vs h2
    rw [e2] at this; cases this
    exact ⟨Ext.refl _ _, S, r3⟩
theorem itok_str {ms : List Addr} {H : Hp} (z : Str) : ItOk G ms H (.pur (chars z)) (Its z) := fun ms' L' H' i x S => by
  show match some (chars z)[i]? with
    | none => True
    | some none => (Its z).stop i H'
    | some (some d) => (Its z).go i H' ∧ ∀ y H'', (Its z).yld i H' y H'' → Ext ms' H' ms' H'' ∧ Sees G ms' L' H'' ∧ Rep G ms' H'' d y
  unfold chars
  rw [List.getElem?_map]
  cases hx : z.cps.toList[i]? with
  | none =>
    have hl : z.cps.toList.length ≤ i := List.getElem?_eq_none_iff.mp hx
    show z.cps.size ≤ i
    simpa using hl
  | some c =>
    refine ⟨?_, fun y H'' hy => ?_⟩
    · show i < z.cps.size
      have := (List.getElem?_eq_some_iff.mp hx).1
      simpa using this
    · obtain ⟨eH, c', hc', rfl⟩ := hy
      subst eH
      have : z.cps.toList[i]? = some c' := by simpa using hc'
      rw [hx] at this; cases this
      exact ⟨Ext.refl _ _, S, .str _⟩
theorem pi_any (hK : X.K = G.K) {tg e : Expr} {fe : FE} (he : PE X e (upE G W R fe)) : PI X tg e (upI G W R (iE fe)) := by
  refine ⟨fun pins s σ H RR I ⟨ms, L, ρ, S, en, q⟩ => ?_⟩
  have fin : ∀ (t : TE), PE X e t → True := fun _ _ => trivial
  have q0 := midE (f := fe) S en q
  refine thn (he.run pins s σ H _ I q0) fun v s1 ⟨x, H1, I1, r1, ms1, L1, d, rd, m⟩ => ?_
  have q1 := m.post
  unfold itOf at q1
  split at q1
  · cases rd with
    | @tup a vs l h1 rs1 =>
      cases r1
      obtain ⟨its, rv, p, hz⟩ := I1.tuple (show SqT X.K H1 a vs from hK ▸ h1)
      refine wpAny_pyIter_tuple (show s1.heap.IsTuple a its.toArray from p) ?_
      refine ⟨s1.heap.objs.size, [s1.heap.objs.size], _, _, H1, rfl, I1.kept (t' := s1.toks) fun b o e => Heap.get?_push_of_some _ e, turn_tuple a _, ⟨_, Heap.get?_push_size _ rfl, rfl, rfl⟩, fun b hb => ?_, q1 ms1 H1 _ (Ext.refl _ _) m.sees (itok_tup hK m.sees.fine h1 rs1)⟩
      have e : b = s1.heap.objs.size := by simpa using hb
      subst e
      exact I1.fpOk (Nat.le_refl _) (I1.hok.fresh (Nat.le_refl _))
  · cases rd with
    | @rol a vs l h1 rs1 =>
      cases r1
      obtain ⟨its, rv, p, hz⟩ := I1.list (show SqL X.K H1 a vs from hK ▸ h1.sq)
      refine wpAny_pyIter_list p.isList ?_
      refine ⟨s1.heap.objs.size, [s1.heap.objs.size], _, _, H1, rfl, I1.kept (t' := s1.toks) fun b o e => Heap.get?_push_of_some _ e, turn_list a _, ⟨_, Heap.get?_push_size _ rfl, rfl, rfl⟩, fun b hb => ?_, q1 ms1 H1 _ (Ext.refl _ _) m.sees (itok_rol hK m.sees.fine h1 rs1)⟩
      have e : b = s1.heap.objs.size := by simpa using hb
      subst e
      exact I1.fpOk (Nat.le_refl _) (I1.hok.fresh (Nat.le_refl _))
  · cases rd with
    | str _ =>
      rename_i z
      obtain ⟨t, rfl⟩ := r1
      have qz := q1 ms1 H1 _ (Ext.refl _ _) m.sees (itok_str z)
      cases ha : z.cps.all (· < 128)
      · exact wpAny_pyIter_wide ha (pi_one (tk := s1.toks) I1 _ (turn_str _ z t "str_iterator" (.inr rfl)) ⟨_, Heap.get?_push_size _ rfl, rfl, rfl⟩ qz)
      · exact wpAny_pyIter_ascii ha (pi_one (tk := s1.toks) I1 _ (turn_str _ z t "str_ascii_iterator" (.inl rfl)) ⟨_, Heap.get?_push_size _ rfl, rfl, rfl⟩ qz)
  · split at q1
    · rename_i xs en1
      obtain ⟨p, rfl, e1, vs, h1, rs1⟩ := m.sees.ref en1 rd
      cases r1
      obtain ⟨its, rv, pl, hz⟩ := I1.list (SqL.of h1)
      refine wpAny_pyIter_list pl.isList ?_
      refine ⟨s1.heap.objs.size, [s1.heap.objs.size], _, _, H1, rfl, I1.kept (t' := s1.toks) fun b o e => Heap.get?_push_of_some _ e, turn_list p _, ⟨_, Heap.get?_push_size _ rfl, rfl, rfl⟩, fun b hb => ?_, q1 ms1 H1 _ (Ext.refl _ _) m.sees (itok_list e1 _)⟩
      have e : b = s1.heap.objs.size := by simpa using hb
      subst e
      exact I1.fpOk (Nat.le_refl _) (I1.hok.fresh (Nat.le_refl _))
    · exact q1.elim
  · exact q1.elim
theorem itok_rng {ms : List Addr} {H : Hp} (lo : Int) (n : Nat) : ItOk G ms H (.pur (rgInts lo n)) (L2.Itr lo n) := fun ms' L' H' i x S => by
  show match some (rgInts lo n)[i]? with
    | none => True
    | some none => (L2.Itr lo n).stop i H'
    | some (some d) => (L2.Itr lo n).go i H' ∧ ∀ y H'', (L2.Itr lo n).yld i H' y H'' → Ext ms' H' ms' H'' ∧ Sees G ms' L' H'' ∧ Rep G ms' H'' d y
  unfold rgInts
  rw [List.getElem?_map]
  by_cases hi : i < n
  · rw [List.getElem?_range hi]
    refine ⟨hi, fun y H'' hy => ?_⟩
    obtain ⟨eH, rfl⟩ := hy
    subst eH
    exact ⟨Ext.refl _ _, S, .int _⟩
  · rw [List.getElem?_eq_none (by rw [List.length_range]; omega)]
    exact (show n ≤ i by omega)
theorem in62_ok {i : Int} (h : in62 i = true) : -(2 ^ 62) ≤ i ∧ i < 2 ^ 62 := by
  unfold in62 at h
  rw [Bool.and_eq_true] at h
  exact ⟨of_decide_eq_true h.1, of_decide_eq_true h.2⟩
theorem pi_rg1 {tg a : Expr} {fa : FA} {p pos : Pos} (hg : Gl X "range") (hm : X.mg "range" = none) (ha : PA X [a] (upA G W R fa)) (hs : plainArgs [a] = true) : PI X tg (.Call (.Name "range" p) [a] [] pos) (upI G W R (iRange1 fa)) :=
  piOf (pi_range1 hg hm ha (by obtain ⟨h1, _⟩ := plain_ne hs; exact starEach_plain h1)) fun σ H Q ⟨ms, L, ρ, S, e, q⟩ => by
    refine ⟨ms, L, ρ, S, e, (post.bind (R1 := Reps G) q).imp (fun vs H1 ⟨ms1, L1, ds, x, s, r, q1⟩ => ?_) fun _ _ _ z => z⟩
    split at q1
    · obtain ⟨v, hv, r⟩ := reps1 r; cases r; subst hv
      split at q1
      · rename_i hb
        obtain ⟨b1, b2⟩ := in62_ok hb
        exact ⟨_, rfl, b1, b2, q1 ms1 H1 _ x s (itok_rng 0 _)⟩
      · exact q1.elim
    · exact q1.elim
theorem pi_rg2 {tg a b : Expr} {fa : FA} {p pos : Pos} (hg : Gl X "range") (hm : X.mg "range" = none) (ha : PA X [a, b] (upA G W R fa)) (hs : plainArgs [a, b] = true) : PI X tg (.Call (.Name "range" p) [a, b] [] pos) (upI G W R (iRange2 fa)) := by
  obtain ⟨h1, h2⟩ := plain_ne hs
  obtain ⟨h3, _⟩ := plain_ne h2
  refine piOf (pi_range2 hg hm ha (by rw [starEach_plain h1, starEach_plain h3]; rfl) (starEach_plain h3)) fun σ H Q ⟨ms, L, ρ, S, e, q⟩ => ?_
  refine ⟨ms, L, ρ, S, e, (post.bind (R1 := Reps G) q).imp (fun vs H1 ⟨ms1, L1, ds, x, s, r, q1⟩ => ?_) fun _ _ _ z => z⟩
  split at q1
  · obtain ⟨v, w, hv, r1, r2⟩ := reps2 r; cases r1; cases r2; subst hv
    split at q1
    · rename_i hb
      rw [Bool.and_eq_true] at hb
      obtain ⟨b1, b2⟩ := in62_ok hb.1
      obtain ⟨b3, b4⟩ := in62_ok hb.2
      exact ⟨_, _, rfl, ⟨b1, b2, b3, b4⟩, q1 ms1 H1 _ x s (itok_rng _ _)⟩
    · exact q1.elim
  · exact q1.elim
theorem itok_enum {ms : List Addr} {H : Hp} {n : Nat} {p : Addr} (hn : ms[n]? = some p) (k : Nat) : ItOk G ms H (.dyn (enuAt n) k) (Ite X.K p) := fun ms' L' H' i x S => by
  show match enuAt n L' i with
    | none => True
    | some none => (Ite X.K p).stop i H'
    | some (some d) => (Ite X.K p).go i H' ∧ ∀ y H'', (Ite X.K p).yld i H' y H'' → Ext ms' H' ms' H'' ∧ Sees G ms' L' H'' ∧ Rep G ms' H'' d y
  unfold enuAt
  cases en : L'.get n with
  | none => trivial
  | some c =>
    cases c with
    | lst xs =>
      dsimp only
      obtain ⟨vs, h1, r1⟩ := S.cell n p _ en (x.pre n p hn)
      cases hx : xs[i]? with
      | none =>
        have hl : xs.length ≤ i := List.getElem?_eq_none_iff.mp hx
        exact ⟨vs, SqL.of h1, by rw [← r1.length]; exact hl⟩
      | some d =>
        obtain ⟨w, e2, r2⟩ := r1.get hx
        refine ⟨⟨vs, w, SqL.of h1, e2⟩, fun y H'' hy => ?_⟩
        obtain ⟨T, x', rfl, hT, rfl, hy⟩ := hy
        have := hy vs (SqL.of h1)
        rw [e2] at this; cases this
        have xx : Ext ms' H' ms' (upd H' T (.tup [.int (i : Nat), w])) := Ext.fresh hT
        exact ⟨xx, S.fresh hT, .tup (SqT.of upd_same) (.cons (.int _) (.cons (Rep.ext xx S.fine _ _ r2) .nil))⟩
    | dct _ => trivial
    | ins _ _ => trivial
    | set _ => trivial
theorem pi_enumE {e : Expr} {fa : FA} {p pos tpos : Pos} {elts : List Expr} {kk : Nat} (hg : Gl X "enumerate") (hm : X.mg "enumerate" = none) (ha : PA X [e] (upA G W R fa)) (hs : plainArgs [e] = true) : PI X (.Tuple elts kk tpos) (.Call (.Name "enumerate" p) [e] [] pos) (upI G W R (iEnumE fa)) :=
  piOf (pi_enum hg hm ha (by obtain ⟨h1, _⟩ := plain_ne hs; exact starEach_plain h1)) fun σ H Q ⟨ms, L, ρ, S, e, q⟩ => by
    refine ⟨ms, L, ρ, S, e, (post.bind (R1 := Reps G) q).imp (fun vs H1 ⟨ms1, L1, ds, x, s, r, q1⟩ => ?_) fun _ _ _ z => z⟩
    unfold itEnum at q1
    split at q1
    · obtain ⟨v, rfl, r'⟩ := reps1 r
      split at q1
      · rename_i xs en
        obtain ⟨p, rfl, e1, vs, h1, rs1⟩ := s.ref en r'
        exact ⟨p, vs, rfl, SqL.of h1, q1 ms1 H1 _ x s (itok_enum e1 _)⟩
      · exact q1.elim
    · exact q1.elim

/-! ### list(range(..)), tuple(range(..)) -/
theorem rgOk_ok {a b : Int} (h : rgOk a b = true) : RgOk a b := by
  unfold rgOk at h
  rw [Bool.and_eq_true, Bool.and_eq_true] at h
  obtain ⟨b1, b2⟩ := in62_ok h.1.1
  obtain ⟨b3, b4⟩ := in62_ok h.1.2
  exact ⟨b1, b2, b3, b4, of_decide_eq_true h.2⟩
theorem rgV_rep {ms : List Addr} {H : Hp} (a b : Int) : Reps G ms H (rgInts a (b - a).toNat) (rgV a b) := by
  unfold rgInts rgV
  generalize List.range (b - a).toNat = l
  induction l with
  | nil => exact .nil
  | cons x r ih => exact .cons (.int _) ih
section
variable {a b e : Expr} {fa fb : FE} {p pos pos2 p2 : Pos}
theorem rgf_lst {ms : List Addr} {L : LH} {H : Hp} {Q : VK} {E : XK} {i j : Int} (S : Sees G ms L H) (q : post G ms H (Rep G) Q E (oLstR i j L)) : ∀ r, H r = none → Q (.ref r) (upd H r (.lst (rgV i j))) := post.list S q (rgV_rep i j)
theorem rgf_tup {ms : List Addr} {L : LH} {H : Hp} {Q : VK} {E : XK} {i j : Int} (S : Sees G ms L H) (q : post G ms H (Rep G) Q E (oTupR i j L)) : ∀ r, H r = none → Q (.ref r) (upd H r (.tup (rgV i j))) := post.tuple S q (rgV_rep i j)
theorem rg1_read {f : Int → Int → LH → Res D} {K : Int → Int → Hp → VK → Prop} (hk : ∀ (ms : List Addr) (L : LH) (H : Hp) (Q : VK) (E : XK) (i j : Int), Sees G ms L H → post G ms H (Rep G) Q E (f i j L) → K i j H Q) {σ : L2.St} {H : Hp} {Q : VK} (h : upE G W R (rg1 f fa) σ H Q) : tRg1 (upE G W R fa) σ H fun a b H1 => RgOk a b ∧ K a b H1 Q := by
  obtain ⟨ms, L, ρ, S, e, q⟩ := h
  refine ⟨ms, L, ρ, S, e, (post.bind (R1 := Rep G) q).imp (fun v H1 ⟨ms1, L1, d, x, s, r, q1⟩ => ?_) fun _ _ _ z => z⟩
  split at q1
  · cases r
    split at q1
    · rename_i hb
      exact ⟨_, rfl, rgOk_ok hb, hk _ _ _ _ _ _ _ s (post.ext x q1)⟩
    · exact q1.elim
  · exact q1.elim
theorem rg2_read {f : Int → Int → LH → Res D} {K : Int → Int → Hp → VK → Prop} (hk : ∀ (ms : List Addr) (L : LH) (H : Hp) (Q : VK) (E : XK) (i j : Int), Sees G ms L H → post G ms H (Rep G) Q E (f i j L) → K i j H Q) {σ : L2.St} {H : Hp} {Q : VK} (h : upE G W R (rg2 f fa fb) σ H Q) : tRg2 (upE G W R fa) (upE G W R fb) σ H fun a b H1 => RgOk a b ∧ K a b H1 Q := by
  obtain ⟨ms, L, ρ, S, e, q⟩ := h
  refine ⟨ms, L, ρ, S, e, (post.bind (R1 := Rep G) q).imp (fun v H1 ⟨ms1, L1, d, x, s, r, q1⟩ => ?_) fun _ _ _ z => z⟩
  refine ⟨ms1, L1, ρ, s, e.ext x S.fine, (post.bind (R1 := Rep G) (post.ext x q1)).imp (fun w H2 ⟨ms2, L2, d2, x2, s2, r2, q2⟩ => ?_) fun _ _ _ z => z⟩
  split at q2
  · cases r; cases r2
    split at q2
    · rename_i hb
      exact ⟨_, _, rfl, rfl, rgOk_ok hb, hk _ _ _ _ _ _ _ s2 (post.ext x2 q2)⟩
    · exact q2.elim
  · exact q2.elim
theorem re_lrg1 (hc : X.calm = true) (hg : Gl X "list") (hm : X.mg "list" = none) (hg2 : Gl X "range") (hm2 : X.mg "range" = none) (ha : PE X a (upE G W R fa)) (hp : plainArgs [a] = true) : PE X (.Call (.Name "list" p) [.Call (.Name "range" p2) [a] [] pos2] [] pos) (upE G W R (rg1 oLstR fa)) :=
  peOf (pe_listRg hc hg hm (prg_1 hg2 hm2 ha (starEach_plain (plain_ne hp).1)) (starEach_plain (fun _ _ z => nomatch z))) fun σ H Q h => rg1_read (K := fun i j H Q => ∀ r, H r = none → Q (.ref r) (upd H r (.lst (rgV i j)))) (fun _ _ _ _ _ _ _ S q => rgf_lst S q) h
theorem re_trg1 (hc : X.calm = true) (hg : Gl X "tuple") (hm : X.mg "tuple" = none) (hg2 : Gl X "range") (hm2 : X.mg "range" = none) (ha : PE X a (upE G W R fa)) (hp : plainArgs [a] = true) : PE X (.Call (.Name "tuple" p) [.Call (.Name "range" p2) [a] [] pos2] [] pos) (upE G W R (rg1 oTupR fa)) :=
  peOf (pe_tupRg hc hg hm (prg_1 hg2 hm2 ha (starEach_plain (plain_ne hp).1)) (starEach_plain (fun _ _ z => nomatch z))) fun σ H Q h => rg1_read (K := fun i j H Q => ∀ r, H r = none → Q (.ref r) (upd H r (.tup (rgV i j)))) (fun _ _ _ _ _ _ _ S q => rgf_tup S q) h
theorem re_lrg2 (hc : X.calm = true) (hg : Gl X "list") (hm : X.mg "list" = none) (hg2 : Gl X "range") (hm2 : X.mg "range" = none) (ha : PE X a (upE G W R fa)) (hb : PE X b (upE G W R fb)) (hp : plainArgs [a, b] = true) : PE X (.Call (.Name "list" p) [.Call (.Name "range" p2) [a, b] [] pos2] [] pos) (upE G W R (rg2 oLstR fa fb)) :=
  peOf (pe_listRg hc hg hm (prg_2 hg2 hm2 ha hb (starEach_plain (plain_ne hp).1) (starEach_plain (plain_ne (plain_ne hp).2).1) (plain_any (plain_ne hp).2)) (starEach_plain (fun _ _ z => nomatch z))) fun σ H Q h => rg2_read (K := fun i j H Q => ∀ r, H r = none → Q (.ref r) (upd H r (.lst (rgV i j)))) (fun _ _ _ _ _ _ _ S q => rgf_lst S q) h
theorem re_trg2 (hc : X.calm = true) (hg : Gl X "tuple") (hm : X.mg "tuple" = none) (hg2 : Gl X "range") (hm2 : X.mg "range" = none) (ha : PE X a (upE G W R fa)) (hb : PE X b (upE G W R fb)) (hp : plainArgs [a, b] = true) : PE X (.Call (.Name "tuple" p) [.Call (.Name "range" p2) [a, b] [] pos2] [] pos) (upE G W R (rg2 oTupR fa fb)) :=
  peOf (pe_tupRg hc hg hm (prg_2 hg2 hm2 ha hb (starEach_plain (plain_ne hp).1) (starEach_plain (plain_ne (plain_ne hp).2).1) (plain_any (plain_ne hp).2)) (starEach_plain (fun _ _ z => nomatch z))) fun σ H Q h => rg2_read (K := fun i j H Q => ∀ r, H r = none → Q (.ref r) (upd H r (.tup (rgV i j)))) (fun _ _ _ _ _ _ _ S q => rgf_tup S q) h
end

/-! ### isinstance(e, T) -/
theorem kitB_all : ∀ s ∈ tyNames7, ∀ T ∈ tyNames, kitB s T = some (subTy s T) := by decide +kernel
theorem tyOf_ok {a : D} {L : LH} {s : String} {ms : List Addr} {H : Hp} {v : V} (hK : X.K = G.K) (h : tyOfD a L = some s) (S : Sees G ms L H) (r : Rep G ms H a v) : TyX X.K H v (.type s) ∧ s ∈ tyNames7 := by
  unfold tyOfD at h
  split at h
  · cases h; cases r; exact ⟨.base .non, by simp [tyNames7]⟩
  · cases h; cases r; exact ⟨.base (.bl _), by simp [tyNames7]⟩
  · cases h; cases r; exact ⟨.base (.int _), by simp [tyNames7]⟩
  · cases h; cases r; exact ⟨.base (.str _), by simp [tyNames7]⟩
  · cases h
    cases r with
    | tup h1 r1 =>
      refine ⟨?_, by simp [tyNames7]⟩
      rcases h1 with (h1 | ⟨o, h1⟩) | h1
      · exact .base (.tup h1)
      · exact .fTuple h1
      · obtain ⟨o, its, n, e, c, _⟩ := h1
        exact .kTuple (hK ▸ e) c
  · split at h
    · rename_i xs en
      cases h
      obtain ⟨p, rfl, _, vs, h1, _⟩ := S.ref en r
      exact ⟨.base (.lst h1), by simp [tyNames7]⟩
    · rename_i kvs en
      cases h
      obtain ⟨p, rfl, _, vs, h1, _⟩ := S.ref en r
      exact ⟨.base (.dK h1), by simp [tyNames7]⟩
    · cases h
  · cases h
theorem isTy_ok {T : String} {a : D} {L : LH} {b : Bool} {ms : List Addr} {H : Hp} {v : V} (hK : X.K = G.K) (h : isTyD T a L = some b) (S : Sees G ms L H) (r : Rep G ms H a v) : ∃ t, TyX X.K H v t ∧ PySem.W.kitOne X.K t (.type T) = some b := by
  unfold isTyD at h
  split at h
  · rename_i hT
    cases hs : tyOfD a L with
    | none => rw [hs] at h; cases h
    | some s =>
      rw [hs] at h
      cases h
      obtain ⟨h1, h2⟩ := tyOf_ok hK hs S r
      exact ⟨_, h1, kit_ty (kitB_all s h2 T (by simpa using hT))⟩
  · cases h
theorem re_isi {T : String} {x : Str} {a : Expr} {fa : FE} {p p2 pos : Pos} (hK : X.K = G.K) (hg : Gl X "isinstance") (hm : X.mg "isinstance" = none) (hg2 : Gl X x) (hm2 : X.mg x = none) (hv : bootBuiltins x = some (.type T)) (hn : x ≠ "__name__") (hdb : (x == ("__debug__" : Str)) = false) (ha : PE X a (upE G W R fa)) (hp : plainArgs [a] = true) :
    PE X (.Call (.Name "isinstance" p) [a, .Name x p2] [] pos) (upE G W R (e1 (oIsi T) fa)) := by
  have hs := starEach_plain (es := [.Name x p2]) (env := X.env) (plain_ne hp).1
  have hs2 : starEach [Expr.Name x p2] X.env = (false, eval (Expr.Name x p2) X.env) :: starEach [] X.env := starEach_plain (fun _ _ z => nomatch z)
  refine peOf (pe_callB call_isi hg hm PyProof.Rows.boot_isinstance (pa_cons ha (pa_cons (pe_bltn (v := .ty T) hg2 hm2 hv rfl hn hdb) pa_nil hs2) hs) (by decide) (by decide) hs (plain_any (by rfl))) fun σ H Q ⟨ms, L, ρ, S, e, q⟩ => ?_
  refine (fun (z : upE G W R fa σ H _) => z) ?_
  refine ⟨ms, L, ρ, S, e, (post.bind (R1 := Rep G) q).imp (fun v H1 ⟨ms1, L1, d, x, s, r, q1⟩ => ?_) fun _ _ _ z => z⟩
  unfold oIsi at q1
  split at q1
  · rename_i b hb
    obtain ⟨t, h1, h2⟩ := isTy_ok hK hb s r
    exact ⟨v, .ty T, t, .type T, b, rfl, .ty T, h1, h2, q1 ms1 H1 _ x s (.bl _)⟩
  · exact q1.elim

/-! ### op= -/
theorem op_oIAdd : Op2 X G W (inplaceOp .Add) oIAdd := by
  intro pins s σ H ms L a b x y v u Q I S ra rb rx ry q
  unfold oIAdd at q
  split at q
  · cases ra; cases rb
    exact ip_add pins s σ H _ _ v u Q I rx ry ⟨_, _, rfl, rfl, post.same S q (.int _)⟩
  · exact q.elim
theorem stA {σ : L2.St} {H : Hp} {ms : List Addr} {L : LH} {ρ : Slt} {E : Ends} {r : Res D} {k : D → LH → Res (Fl × Slt)} (S : Sees G ms L H) (e : EnvOk G ms H ρ σ) (h : postS G W ms H E (r.st ρ k)) :
    post G ms H (Rep G) (fun v H1 => ∃ ms1 L1 d, Ext ms H ms1 H1 ∧ Sees G ms1 L1 H1 ∧ Rep G ms1 H1 d v ∧ EnvOk G ms1 H1 ρ σ ∧ postS G W ms H E (k d L1)) (WE W σ) r := (postS.st (R1 := Rep G) S e h).imp (fun v H1 ⟨ms1, L1, d, x, s, r, en, q⟩ => ⟨ms1, L1, d, x, s, r, en, q⟩) fun _ _ _ z => z
theorem rs_aug {i : Nat} {x : Str} {a : Expr} {fa : FE} {g : D → D → LH → Res D} {op : Operator} {pos pos' : Pos} (hN : X.N.Nodup) (hi : X.N[i]? = some x) (hx : Loc X.env.scope x) (ho : Op2 X G W (inplaceOp op) g) (ha : PE X a (upE G W R fa)) (hf : X.fn x = true ∨ X.env.scope.names.lookup x = some .local) :
    PS X (.AugAssign (.Name x pos') op a pos) (upS G W R (sAug i g fa)) := by
  refine ⟨fun pins s σ H D I ⟨ms, L, ρ, S, en, q⟩ => ?_⟩
  unfold sAug at q
  cases hz : ρ[i]? with
  | none => rw [hz] at q; exact q.elim
  | some o =>
    rw [hz] at q
    cases o with
    | none => exact q.elim
    | some d =>
      dsimp only at q
      obtain ⟨v, ev, rd⟩ := en.at_ i d hz
      obtain ⟨m, hn, hl⟩ := I.loc
      have vis : Vis X.env.scope x := by rcases hx with k | k; exact .inl k; exact .inr (.inl k)
      obtain ⟨u, r, l⟩ := hl i x v hi ev vis
      refine wpAny_AugAssign_Name ?_
      have go : wpAny (model X.prog X.w) X.A (eval a X.env) (fun w s₂ => wpAny (model X.prog X.w) X.A (inplaceOp op u w) (fun r s₃ => wpAny (model X.prog X.w) X.A (storeName X.env x r) (fun _ => SP X pins D .next) X.xe s₃) X.xe s₂) X.xe s := by
        refine thn (ha.run pins s σ H _ I ⟨ms, L, ρ, S, en, stA S en q⟩) fun w s1 ⟨y, H1, I1, r1, ms1, L1, d1, x1, S1, rd1, en1, q1⟩ => ?_
        refine thn (ho pins s1 σ H1 ms1 L1 d d1 v y u w _ I1 S1 (Rep.ext x1 S.fine _ _ rd) rd1 r r1 (stA S1 en1 (postS.ext x1 q1))) fun z s2 ⟨zv, H2, I2, r2, ms2, L2, d2, x2, S2, rd2, en2, q2⟩ => ?_
        exact store_ok I2 hN hi hx r2 (fun s3 I3 => ⟨_, H2, I3, q2 ms2 H2 _ x2 S2 (en2.set rd2 i)⟩) hf
      rcases l with ⟨hk, hm⟩ | ⟨hk, c, hc, hcell⟩
      · exact wpAny_loadName_local I.ok.kind hk hn hm go
      · rcases hk with hk | hk
        · exact wpAny_loadName_cell I.ok.kind hk hc hcell go
        · rcases hx with k | k
          · have : X.env.scope.names.lookup x = some .free := hk
            rw [k] at this; cases this
          · have : X.env.scope.names.lookup x = some .free := hk
            rw [k] at this; cases this
theorem get_oIxL {pins : List (Addr × Obj)} {s : Shared} {σ : L2.St} {H : Hp} {ms : List Addr} {L : LH} {a b : D} {x y : V} {v u : Value} {Q : VK} (I : Inv X pins σ H s) (S : Sees G ms L H) (ra : Rep G ms H a x) (rb : Rep G ms H b y) (rx : RelV x v) (ry : RelV y u)
    (q : post G ms H (Rep G) Q (WE W σ) (oIxL a b L)) : wpAny (model X.prog X.w) X.A (getItem v u) (EP X pins σ Q) X.xe s := by
  unfold oIxL at q
  split at q
  · rename_i n i
    split at q
    · rename_i xs en
      obtain ⟨p, rfl, e1, vs, h1, r1⟩ := S.ref en ra
      cases rb
      cases rx
      obtain ⟨t, rfl⟩ := ry
      split at q
      · rename_i hb
        split at q
        · rename_i d hd
          obtain ⟨its, rv, pl, hz⟩ := I.list (SqL.of h1)
          obtain ⟨w, e2, r2⟩ := r1.get hd
          obtain ⟨w', e3, r3⟩ := rv.get e2
          exact PySem.wpAny_getItem_list pl.isList hb.1 (by omega) (by simpa using e3) ⟨w, H, I, r3, post.same S q r2⟩
        · exact q.elim
      · exact q.elim
    · exact q.elim
  · exact q.elim
theorem rs_subaug {o i e : Expr} {fo fi fe : FE} {g : D → D → LH → Res D} {op : Operator} {tpos pos : Pos} (hu : X.A.units + 64 < cLine) (hK : X.K = G.K) (ho : PE X o (upE G W R fo)) (hi : PE X i (upE G W R fi)) (he : PE X e (upE G W R fe)) (hg : Op2 X G W (inplaceOp op) g)
    (ha : ∀ ov iv new, augStore i ov iv new = (do holding [new, ov, iv] (setItem ov iv new); release [new, ov, iv] []; pure .next)) : PS X (.AugAssign (.Subscript o i tpos) op e pos) (upS G W R (sSubAug fo fi g fe)) := by
  refine ⟨fun pins s σ H D I ⟨ms, L, ρ, S, en, q⟩ => ?_⟩
  refine wpAny_AugAssign_SubscriptAny (thn (ho.run pins s σ H _ I ⟨ms, L, ρ, S, en, stA S en q⟩) fun ov s1 ⟨x1, H1, I1, r1, ms1, L1, d1, y1, S1, rd1, en1, q1⟩ => ?_) ha
  refine thn (hi.run pins s1 σ H1 _ I1 ⟨ms1, L1, ρ, S1, en1, stA S1 en1 (postS.ext y1 q1)⟩) fun iv s2 ⟨x2, H2, I2, r2, ms2, L2, d2, y2, S2, rd2, en2, q2⟩ => ?_
  have rd1' := Rep.ext y2 S1.fine _ _ rd1
  refine thn (get_oIxL I2 S2 rd1' rd2 r1 r2 (stA S2 en2 (postS.ext y2 q2))) fun old s3 ⟨x3, H3, I3, r3, ms3, L3, d3, y3, S3, rd3, en3, q3⟩ => ?_
  have rd13 := Rep.ext y3 S2.fine _ _ rd1'
  have rd23 := Rep.ext y3 S2.fine _ _ rd2
  refine thn (he.run pins s3 σ H3 _ I3 ⟨ms3, L3, ρ, S3, en3, stA S3 en3 (postS.ext y3 q3)⟩) fun v s4 ⟨x4, H4, I4, r4, ms4, L4, d4, y4, S4, rd4, en4, q4⟩ => ?_
  have rd14 := Rep.ext y4 S3.fine _ _ rd13
  have rd24 := Rep.ext y4 S3.fine _ _ rd23
  have rd34 := Rep.ext y4 S3.fine _ _ rd3
  refine thn (hg pins s4 σ H4 ms4 L4 d3 d4 x3 x4 old v _ I4 S4 rd34 rd4 r3 r4 (stA S4 en4 (postS.ext y4 q4))) fun new s5 ⟨x5, H5, I5, r5, ms5, L5, d5, y5, S5, rd5, en5, q5⟩ => ?_
  have rd15 := Rep.ext y5 S4.fine _ _ rd14
  have rd25 := Rep.ext y5 S4.fine _ _ rd24
  have q6 := (postS.st (R1 := fun _ _ (_ _ : Unit) => True) S5 en5 (postS.ext y5 q5))
  refine thn (set_oSet (E := WE W σ) hu hK I5 S5 rd15 rd25 rd5 r1 r2 r5 q6) fun _ s6 ⟨H6, I6, ms6, L6, _, y6, S6, _, en6, q7⟩ => ⟨σ, H6, I6, q7 ms6 H6 σ y6 S6 en6⟩
end
end PD
/-! P10b: raise, try. -/
namespace PD
open PySem PySem.Spec PyProof.Rows L2

/-- the promise of an exception's __init__: the one field that it sets -/
def spX (G : Sta) (m : Nat) (c : Nat) (f : Str) (r : List D → LH → Res D) : Sp := fun vs H Q E => vs.length = m ∧ ∃ a ws, vs = .ref a :: ws ∧ H a = some (exo a (G.CA c) none) ∧ ∃ ms L ds v L', Sees G ms L H ∧ a ∉ ms ∧ Reps G ms H ds ws ∧ r (.non :: ds) L = .ok v L' ∧
  ∀ ms' H' vV, Ext ms H ms' H' → Sees G ms' L' H' → Rep G ms' H' v vV → ∀ dx, H' dx = none → dx ≠ a → Q .non (upd (upd H' dx (exd dx [(f, vV)])) a (exo a (G.CA c) (some dx)))
/-- an own exception's class, as raise needs it -/
structure XcOk (G : Sta) (k : Nat) (c : Nat) (f : Str) (ps : List Str) (r : List D → LH → Res D) : Prop where
  oex : OexC G.K (G.CA c)
  ok : ∃ fI fd, PySem.W.findIn G.K (.ref (G.CA c)) "__init__" = some (some (.ref fI)) ∧ PySem.W.typeIn G.K (.ref fI) = some (.type "function") ∧ FnOk G.P G.w G.K G.mg G.base (L2.CX G.P G.w) k fI fd ps (spX G ps.length c f r) ∧ Binds G.K fd ps []
  fit : fits ps.length r
section
variable {X : Cx} {G : Sta} {W : WX} {R : Rec}
theorem passes0 {X : Cx} : Passes (L2.CX X.prog X.w) X (fun _ _ _ => False) := fun pins σ H s e s' I c => by
  have z := XE.of_call (W := fun _ _ _ _ => False) I (fun _ _ _ h => h) c
  obtain ⟨_, _, _, _, _, _, _, _, _, _, _, _, _, _, _, _, q⟩ := z
  exact q.elim
theorem rs_raise {k c i : Nat} {x f : Str} {p pos pos2 : Pos} {e0 : Expr} {es : List Expr} {fa : FA} {ps : List Str} (eP : X.prog = G.P) (ew : X.w = G.w) (hK : X.K = G.K) (emg : X.mg = G.mg) (ebase : X.base = G.base) (XC : XcOk G k c f ps (R i)) (hr : Room (k + 1) X.A) (hc : X.calm = true) (tk : Takes X W) (hx : Gl X x) (hm : X.mg x = some (.ref (G.CA c)))
    (ha : PA X (e0 :: es) (upA G W R fa)) (hp : plainArgs (e0 :: es) = true) (hdb : (x == ("__debug__" : Str)) = false) : PS X (.Raise (some (.Call (.Name x p) (e0 :: es) [] pos)) none pos2) (upS G W R (sRaise c f i fa)) := by
  obtain ⟨fI, fd, iC, tI, F1, hb⟩ := XC.ok
  obtain ⟨h1, h2⟩ := plain_ne hp
  have F2 : FnOk X.prog X.w X.K X.mg X.base (L2.CX X.prog X.w) k fI fd ps (spX G ps.length c f (R i)) := by
    rw [eP, ew, hK, emg, ebase]; exact F1
  refine psOf (ps_raise hc tk (pmk_oex (hK ▸ XC.oex) (hK ▸ iC) (hK ▸ tI) F2 hr (hK ▸ hb) (dvs := []) .nil passes0 hx hm ha hdb (starEach_plain h1) (plain_any h2))) fun E σ H ⟨ms, L, ρ, S, e, q⟩ => ?_
  refine ⟨ms, L, ρ, S, e, (postS.st (R1 := Reps G) S e q).imp (fun vs H1 ⟨ms1, L1, ds, x1, s1, r1, e1, q1⟩ => ?_) fun _ _ _ z => z⟩
  split at q1
  · rename_i hz
    refine ⟨by rw [← r1.length]; omega, fun a hna => ?_⟩
    have xa : Ext ms1 H1 ms1 (upd H1 a (exo a (G.CA c) none)) := Ext.fresh hna
    have nam : a ∉ ms1 := fun z => by
      obtain ⟨u, e, _⟩ := s1.fine.muts a z
      rw [hna] at e; cases e
    rcases noExc_cases (R i (.non :: ds) L1) with ⟨v, L2', hv, hne⟩ | hb'
    · rw [hne] at q1
      have q2 : postS G W ms H E (.ok (.ex c [(f, v)], ρ) L2') := q1
      rw [List.append_nil]
      have hlen : (V.ref a :: vs).length = ps.length := by
        rw [List.length_cons, ← r1.length]
        by_cases hn : (D.non :: ds).length = ps.length
        · exact hn
        · rw [XC.fit _ _ hn] at hv; cases hv
      refine ⟨hlen, a, vs, rfl, upd_same, ms1, L1, ds, v, L2', s1.fresh hna, nam, Reps.ext xa s1.fine _ _ r1, hv, fun ms' H' vV x2 s2 r2 dx hdx nda => ?_⟩
      have x3 := xa.trans x2
      have hHa : H' a = some (exo a (G.CA c) none) := x2.keep a _ upd_same nam
      have nam' : a ∉ ms' := notMem_ext x2 nam upd_same
      have h1dx : H1 dx = none := by
        cases z : H1 dx with
        | none => rfl
        | some u =>
          by_cases hm : dx ∈ ms1
          · obtain ⟨w, e, _⟩ := s2.fine.muts dx (by
              obtain ⟨j, hj, e⟩ := List.mem_iff_getElem.mp hm
              exact List.mem_of_getElem? (x2.pre j dx (by rw [← e]; exact List.getElem?_eq_getElem hj)))
            rw [hdx] at e; cases e
          · rw [x2.keep dx u (by rw [upd_ne nda]; exact z) hm] at hdx; cases hdx
      refine ⟨rfl, dx, [(f, vV)], upd_same, by rw [upd_ne nda]; exact upd_same, h1dx, ?_⟩
      have eH : upd (del (upd (upd H' dx (exd dx [(f, vV)])) a (exo a (G.CA c) (some dx))) a) dx (.xd [(f, vV)]) = upd (del H' a) dx (.xd [(f, vV)]) := by
        funext b
        by_cases hb : b = dx
        · rw [hb, upd_same, upd_same]
        · rw [upd_ne hb, upd_ne hb]
          by_cases hba : b = a
          · rw [hba, del_same, del_same]
          · rw [del_ne hba, del_ne hba, upd_ne hba, upd_ne hb]
      rw [eH]
      -- the exception itself is no object of ours
      have ndm : dx ∉ ms' := fun z => by
        obtain ⟨w, e, _⟩ := s2.fine.muts dx z
        rw [hdx] at e; cases e
      have ex0 : ∀ {b : Addr} {o : HO}, H' b = some o → o ≠ exo a (G.CA c) none → b ≠ a := fun {b o} e ne z => ne (by rw [z, hHa] at e; exact (Option.some.inj e).symm)
      have hd0 : ∀ b, b ≠ a → b ≠ dx → upd (del H' a) dx (.xd [(f, vV)]) b = H' b := fun b h1 h2 => by rw [upd_ne h2, del_ne h1]
      have kp : Kp G.K ms' H' ms' (upd (del H' a) dx (.xd [(f, vV)])) := by
        refine ⟨fun _ _ h => h, fun b vs h => ?_, fun b vs h => ?_⟩
        · rcases h with (h | ⟨o, h⟩) | h
          · exact .inl (.inl ((hd0 b (ex0 h (fun z => exo_tup z.symm)) (ne_of_none h hdx)).trans h))
          · exact .inl (.inr ⟨o, (hd0 b (ex0 h (fun z => exo_frz z.symm)) (ne_of_none h hdx)).trans h⟩)
          · exact .inr h
        · rcases h with ⟨o, h⟩ | h
          · exact .inl ⟨o, (hd0 b (ex0 h (fun z => exo_frz z.symm)) (ne_of_none h hdx)).trans h⟩
          · exact .inr h
      have sF : Sees G ms' L2' (upd (del H' a) dx (.xd [(f, vV)])) := by
        refine ⟨s2.len, s2.nd, ⟨fun b hb => ?_⟩, fun n b c' hn e => ?_⟩
        · obtain ⟨w, e, m⟩ := s2.fine.muts b hb
          exact ⟨w, (hd0 b (fun z => nam' (z ▸ hb)) (ne_of_none e hdx)).trans e, m⟩
        · refine (s2.cell n b c' hn e).kp kp fun w z => ?_
          exact (hd0 b (fun z => nam' (z ▸ List.mem_of_getElem? e)) (ne_of_none z hdx)).trans z
      have xF : Ext ms1 H1 ms' (upd (del H' a) dx (.xd [(f, vV)])) := by
        refine ⟨x3.pre, x3.new, fun b o h nm => ?_⟩
        have h3 := x3.keep b o h nm
        exact (hd0 b (ne_of_none h hna) (ne_of_none h h1dx)).trans h3
      refine q2 ms' _ σ (.ref (G.CA c)) (some dx) (x1.trans xF) sF (e1.ext xF s1.fine) ⟨rfl, [(f, vV)], upd_same, .cons (Rep.kp kp _ _ r2) .nil⟩
    · rw [hb'] at q1
      exact q1.elim
  · exact q1.elim
/-- which exceptions a clause takes -/
structure HdOk (G : Sta) (all : List Nat) (h : Nat) (cs : List Nat) : Prop where
  exm : ∀ c ∈ all, PySem.W.exmOne G.K (.ref (G.CA c)) (.ref (G.CA h)) = some (cs.contains c)
theorem rs_try {x : Str} {np pos pos' : Pos} {all cs : List Nat} {h : Nat} {body suite : List Stmt} {b₀ : Stmt} {fb fs : FS} (hK : X.K = G.K) (hs : X.stack = X.env :: X.outer) (hf : X.env.frame = some X.env.locals) (hx : Gl X x) (hm : X.mg x = some (.ref (G.CA h))) (hdb : (x == ("__debug__" : Str)) = false) (HO : HdOk G all h cs) (tk : Takes X W)
    (hb : ∀ (W : WX) (pn : List (Addr × Obj)) (xe : Value → Shared → Prop), Takes (X.tr pn xe) W → PassesOwn (model X.prog X.w) X.A X.env xe → PSs (X.tr pn xe) body (upS G W R fb))
    (hsu : ∀ (a : Addr) (oe : Obj) (pn : List (Addr × Obj)), PSs (X.suite a ((a, oe) :: pn)) (b₀ :: suite) (upS G W0 R fs)):
    PS X (.Try body [.ExceptHandler (some (.Name x np)) none (b₀ :: suite) pos'] [] [] pos) (upS G W R (sTry all cs fb fs)) := by
  refine psOf (ps_try_only hs hf ⟨hx, hdb, .inl hm⟩ tk (tb := fun W => upS G W R fb) (ts := fun _ _ _ => upS G W0 R fs) hb fun a oe cls d pn _ _ => hsu a oe pn) fun E σ H ⟨ms, L, ρ, S, e, q⟩ => ?_
  refine ⟨ms, L, ρ, S, e, ?_⟩
  unfold sTry at q
  cases hz : fb R ρ L with
  | bad => rw [hz] at q; exact q.elim
  | exc _ _ _ => rw [hz] at q; exact q
  | ok pr L1 =>
    obtain ⟨fl, ρ1⟩ := pr
    rw [hz] at q
    cases fl with
    | nx => exact q
    | rt d => exact q
    | bk => exact q
    | ct => exact q
    | ex c fds =>
      have q1 : postS G W ms H E (if all.contains c then (if cs.contains c then noEx (fs R ρ1 L1) else .ok (.ex c fds, ρ1) L1) else .bad) := q
      intro ms' H' σ' cls dx x1 s1 e1 k1
      by_cases hall : all.contains c = true
      · rw [if_pos hall] at q1
        have hcm : c ∈ all := by simpa using hall
        obtain ⟨rfl, k2⟩ := k1
        refine ⟨cs.contains c, hK ▸ HO.exm c hcm, fun hyes a na => ?_, fun hno => ?_⟩
        · rw [if_pos hyes] at q1
          refine ⟨ms', L1, ρ1, s1, e1, ?_⟩
          have q2 := postS.ext x1 q1
          cases hz2 : fs R ρ1 L1 with
          | bad => rw [hz2] at q2; exact q2
          | exc _ _ _ => rw [hz2] at q2; exact q2
          | ok pr2 L2' =>
            obtain ⟨fl2, ρ2⟩ := pr2
            rw [hz2] at q2
            cases fl2 with
            | ex c2 f2 => exact q2.elim
            | nx => exact q2
            | rt d => exact q2
            | bk => exact q2
            | ct => exact q2
        · rw [hno, if_neg Bool.false_ne_true] at q1
          exact q1 ms' H' σ' _ dx x1 s1 e1 ⟨rfl, k2⟩
      · rw [if_neg hall] at q1; exact q1.elim
/-- except C as n: return n.f -/
theorem rs_tryF {x n f : Str} {np pos pos' p1 p2 p3 : Pos} {all cs : List Nat} {h i : Nat} {body : List Stmt} {fb : FS} (hK : X.K = G.K) (hs : X.stack = X.env :: X.outer) (hf : X.env.frame = some X.env.locals) (hN : X.N.Nodup) (hi : X.N[i]? = some n) (hln : X.env.kindOf n = some .local) (hx : Gl X x) (hm : X.mg x = some (.ref (G.CA h))) (hdb : (x == ("__debug__" : Str)) = false) (HO : HdOk G all h cs) (tk : Takes X W)
    (hxf : ∀ c ∈ cs, XfC G.K (G.CA c) ∧ PySem.W.findIn G.K (.ref (G.CA c)) f = some none) (hn1 : (n == ("__debug__" : Str)) = false) (hn2 : (n == ("__classdict__" : Str)) = false)
    (hb : ∀ (W : WX) (pn : List (Addr × Obj)) (xe : Value → Shared → Prop), Takes (X.tr pn xe) W → PassesOwn (model X.prog X.w) X.A X.env xe → PSs (X.tr pn xe) body (upS G W R fb)) :
    PS X (.Try body [.ExceptHandler (some (.Name x np)) (some n) [.Return (some (.Attribute (.Name n p1) f p2)) p3] pos'] [] [] pos) (upS G W R (sTryF all cs i f fb)) := by
  refine psOf (ps_try_as hs hf hN hi hln ⟨hx, hdb, .inl hm⟩ tk (tb := fun W => upS G W R fb) (ts := fun a cls d D σ H => ∃ C, XfC X.K C ∧ PySem.W.findIn X.K (.ref C) f = some none ∧ tRet (tXf a cls d C f (tVar i)) D σ H) hb fun a oe cls d pn hz hd => ?_) fun E σ H ⟨ms, L, ρ, S, e, q⟩ => ?_
  · refine ⟨fun pins s σ H D I ⟨C, T, hno, q⟩ => ?_⟩
    exact (pss_one (ps_ret (pe_xf T hno hz hd (pe_var hi (.inl hln) hn1 hn2)))).run pins s σ H D I q
  · refine ⟨ms, L, ρ, S, e, ?_⟩
    unfold sTryF at q
    cases hz : fb R ρ L with
    | bad => rw [hz] at q; exact q.elim
    | exc _ _ _ => rw [hz] at q; exact q
    | ok pr L1 =>
      obtain ⟨fl, ρ1⟩ := pr
      rw [hz] at q
      cases fl with
      | nx => exact q
      | rt d => exact q
      | bk => exact q
      | ct => exact q
      | ex c fds =>
        have q1 : postS G W ms H E (if all.contains c then (if cs.contains c then (match fds.lookup f with
          | some d => if i < ρ1.length then .ok (.rt d, ρ1.set i none) L1 else .bad
          | none => .bad) else .ok (.ex c fds, ρ1) L1) else .bad) := q
        intro ms' H' σ' cls dx x1 s1 e1 k1
        by_cases hall : all.contains c = true
        · rw [if_pos hall] at q1
          have hcm : c ∈ all := by simpa using hall
          obtain ⟨rfl, k2⟩ := k1
          refine ⟨cs.contains c, hK ▸ HO.exm c hcm, fun hyes a na => ?_, fun hno => ?_⟩
          · rw [if_pos hyes] at q1
            have hcs : c ∈ cs := by simpa using hyes
            obtain ⟨T, hno⟩ := hxf c hcs
            refine ⟨G.CA c, hK ▸ T, hK ▸ hno, ?_⟩
            cases hl : fds.lookup f with
            | none => rw [hl] at q1; exact q1.elim
            | some d =>
              rw [hl] at q1
              cases dx with
              | none =>
                have k3 : fds = [] := k2
                rw [k3] at hl; cases hl
              | some dd =>
                obtain ⟨vs, hdd, hfl⟩ := k2
                obtain ⟨v, hv, rv⟩ := hfl.lookup hl
                have q2 : postS G W ms H E (if i < ρ1.length then .ok (.rt d, ρ1.set i none) L1 else .bad) := q1
                by_cases hlt : i < ρ1.length
                · rw [if_pos hlt] at q2
                  exact ⟨_, by rw [List.getElem?_set_self (by rw [← e1.len]; exact hlt)], rfl, rfl, dd, vs, v, rfl, hdd, hv, q2 ms' H' v x1 s1 rv⟩
                · rw [if_neg hlt] at q2; exact q2.elim
          · rw [hno, if_neg Bool.false_ne_true] at q1
            exact q1 ms' H' σ' _ dx x1 s1 e1 ⟨rfl, k2⟩
        · rw [if_neg hall] at q1; exact q1.elim
end
end PD
/-! P11: from a program's text to its combinators. -/
namespace PD
open PySem PySem.Spec PyProof.Rows L2

/-! ### what is said of nothing -/
def eBad : FE := fun _ _ _ => .bad
def tBad : FT := fun _ _ _ => .bad
def sBad : FS := fun _ _ _ => .bad
def gBad : FG := fun _ _ _ _ => .bad
def iBad : FI := fun _ _ _ => .bad
def aBad : FA := fun _ _ _ => .bad
section
variable {X : Cx} {G : Sta} {W : WX} {R : Rec}
theorem re_bad {e : Expr} : PE X e (upE G W R eBad) := ⟨fun _ _ _ _ _ _ ⟨_, _, _, _, _, q⟩ => q.elim⟩
theorem rt_bad {e : Expr} : PT X e (upT G W R tBad) := ⟨fun _ _ _ _ _ _ ⟨_, _, _, _, _, q⟩ => q.elim⟩
theorem rs_bad {e : Stmt} : PS X e (upS G W R sBad) := ⟨fun _ _ _ _ _ _ ⟨_, _, _, _, _, q⟩ => q.elim⟩
theorem rg_bad {Pr : L2.St → L2.St → Prop} {e : Expr} : PG X e (upGp Pr G W R gBad) := ⟨fun _ _ _ _ _ _ _ _ _ ⟨_, _, _, _, _, _, _, q⟩ => q.elim⟩
theorem ri_bad {tg e : Expr} : PI X tg e (upI G W R iBad) := ⟨fun _ _ _ _ _ _ ⟨_, _, _, _, _, q⟩ => q.elim⟩
theorem ra_bad {es : List Expr} : PA X es (upA G W R aBad) := ⟨fun _ _ _ _ _ _ _ ⟨_, _, _, _, _, q⟩ => q.elim⟩
end

/-- the names of a program: its defs, classes, methods, fields, constants; the built-ins' names that it does not bind -/
structure Tab where
  fns : List (Str × Nat)
  cls : List (Str × (Nat × Nat))
  mets : List (Str × List (Nat × Nat))
  flds : List (Str × List Nat)
  con : List (Str × D)
  blt : List Str
  /-- exception classes with an __init__: number, field, the field's def -/
  excs : List (Str × (Nat × (Str × Nat)))
  /-- classes that clauses name: number, the classes that they take -/
  hnds : List (Str × (Nat × List Nat))
  /-- all exception classes -/
  xall : List Nat
  /-- the fields of exceptions: classes -/
  xfl : List (Str × List Nat)
/-- one step of the reading, given the reading of parts -/
structure Cmp where
  E : Ctx → Expr → FE
  T : Ctx → Expr → FT
  I : Ctx → Expr → Expr → FI
  G : Ctx → Expr → FG
  W : List Nat → Ctx → Expr → FG
  S : Ctx → Stmt → FS
def Cmp.bad : Cmp := ⟨fun _ _ => eBad, fun _ _ => tBad, fun _ _ _ => iBad, fun _ _ => gBad, fun _ _ _ => gBad, fun _ _ => sBad⟩

def okNm (x : Str) : Bool := !(x == ("__debug__" : Str)) && !(x == ("__classdict__" : Str)) && !decide (x = ("__name__" : Str))
theorem okNm_ok {x : Str} (h : okNm x = true) : (x == ("__debug__" : Str)) = false ∧ (x == ("__classdict__" : Str)) = false ∧ x ≠ "__name__" := by
  unfold okNm at h
  rw [Bool.and_eq_true, Bool.and_eq_true] at h
  refine ⟨by simpa using h.1.1, by simpa using h.1.2, ?_⟩
  have := h.2
  simpa using this
/-- the slot of a name -/
def slot (x : Str) : List Str → Option Nat
  | [] => none
  | y :: r => if y = x then some 0 else (slot x r).map (· + 1)
theorem slot_ok {x : Str} : ∀ {l : List Str} {i : Nat}, slot x l = some i → l[i]? = some x
  | [], _, h => by cases h
  | y :: r, i, h => by
    unfold slot at h
    split at h
    · rename_i e
      cases h
      rw [e]; rfl
    · cases e2 : slot x r with
      | none => rw [e2] at h; cases h
      | some j =>
        rw [e2] at h
        cases h
        exact slot_ok (l := r) e2
def isVis (sc : Scope) (x : Str) : Bool := isLoc sc x || isCell sc x || isFree sc x
/-- a built-in's name, not bound at the top -/
def isBlt (T : Tab) (c : Ctx) (x : Str) : Bool := isGlo c.sc x && T.blt.contains x
def plainBase (o : Expr) : Bool := match o with
  | .Call (.Name _ _) [] [] _ => false
  | _ => true
theorem plainBase_ok {o : Expr} {f : Str} {env : PySem.Env} {wh : Sem Value} (h : plainBase o = true) : attributeBase o f env wh = wh := by
  unfold plainBase at h
  unfold attributeBase
  split at h
  · cases h
  · rename_i hn
    split
    · rename_i id q pos
      exact absurd rfl (hn id q pos)
    · rfl

/-! ### operators -/
def binOf : Operator → Option (D → D → LH → Res D)
  | .Add => some oAdd
  | .Sub => some oSub
  | .Mult => some oMul
  | .FloorDiv => some oDiv
  | .Mod => some oMod
  | .Pow => some oPow
  | .LShift => some oShl
  | .RShift => some oShr
  | .BitAnd => some oBand
  | _ => none
def cmpOf : CmpOp → Option (D → D → LH → Res D)
  | .Eq => some oEq
  | .NotEq => some oNe
  | .Lt => some oLt
  | .LtE => some oLe
  | .Gt => some oGt
  | .GtE => some oGe
  | .Is => some oIs
  | .IsNot => some oIsNot
  | .In => some oIn
  | .NotIn => some oNotIn
def bltOf (cm : Bool) (x : Str) : Option (List D → LH → Res D) :=
  if x = "len" then some bLen else if x = "abs" then some bAbs else if x = "sorted" then some bSorted
  else if cm && decide (x = "max") then some bMaxA else if cm && decide (x = "min") then some bMinA else if cm && decide (x = "sum") then some bSum else none
def typOf (cm : Bool) (x : Str) : Option (List D → LH → Res D) :=
  if x = "int" then some bInt else if x = "tuple" then some bTup else if cm && decide (x = "list") then some bLst else none
/-- a built-in's method, by its name: the type it is of -/
def metOf (m : Str) : Option (String × (D → List D → LH → Res D)) :=
  if m = "append" then some ("list", mAppend) else if m = "pop" then some ("list", mPop) else if m = "extend" then some ("list", mExtend) else if m = "clear" then some ("list", mClear)
  else if m = "get" then some ("dict", mGet) else none

/-! ### expressions -/
def cA (f : Expr → FE) : List Expr → FA
  | [] => aNil
  | e :: r => aCons (f e) (cA f r)
def cAnd (f : Expr → FE) : List Expr → FE
  | [] => eBad
  | [e] => f e
  | e :: r => eAnd (f e) (cAnd f r)
def cOr (f : Expr → FE) : List Expr → FE
  | [] => eBad
  | [e] => f e
  | e :: r => eOr (f e) (cOr f r)
def cTAnd (f : Expr → FT) : List Expr → FT
  | [] => tBad
  | [e] => f e
  | e :: r => tAnd (f e) (cTAnd f r)
def cTOr (f : Expr → FT) : List Expr → FT
  | [] => tBad
  | [e] => f e
  | e :: r => tOr (f e) (cTOr f r)
def cO (f : Expr → FE) : Option Expr → FO
  | none => bNo
  | some e => bAt (f e)
def cPairs (f : Expr → FE) : List (Option Expr) → List Expr → Option (List (FE × FE))
  | [], [] => some []
  | some k :: ks, v :: vs => (cPairs f ks vs).map ((f k, f v) :: ·)
  | _, _ => none
def noSlice (e : Expr) : Bool := match e with
  | .Slice _ _ _ _ => false
  | _ => true
def notSet (e : Expr) : Bool := match e with
  | .Set _ _ _ => false
  | _ => true
theorem notSet_ok {e : Expr} {env : PySem.Env} (h : notSet e = true) : ∀ x, foldedSetIterable e env x = pure x := fun x => by
  cases e <;> first
    | rfl
    | cases h
/-- the slots of a comprehension's own names -/
def ownOf (N : List Str) (scope : Scope) : List (Str × Nat) := scope.names.filterMap fun y => match y.2 with
  | .local => (slot y.1 N).map fun i => (y.1, i)
  | .cell => (slot y.1 N).map fun i => (y.1, i)
  | _ => none
def uniqL : List (Str × NameKind) → Bool
  | [] => true
  | y :: r => r.all (fun z => !decide (z.1 = y.1)) && uniqL r
def blkOkB (N : List Str) (sc scope : Scope) : Bool := (scope.kind == .function) && uniqL scope.names
  && scope.names.all fun y => match y.2 with
    | .free => isCell sc y.1 || isFree sc y.1
    | .local => true
    | .cell => true
    | _ => true
def exCall (T : Tab) (c : Cmp) (x : Ctx) (f : Expr) (es : List Expr) (pos : Pos) : FE :=
  match f with
  | .Name n _ =>
    if isGlo x.sc n && okNm n then
      (match T.fns.lookup n with
      | some i => if x.cm then eCall i (cA (c.E x) es) else eBad
      | none => match T.cls.lookup n with
        | some (k, i) => if x.cm && !es.isEmpty then eMake k i (cA (c.E x) es) else eBad
        | none => if !T.blt.contains n || es.isEmpty then eBad else match bltOf x.cm n with
          | some op => aApp (cA (c.E x) es) op
          | none => match typOf x.cm n with
            | some op => aApp (cA (c.E x) es) op
            | none => eBad)
    else eBad
  | .Attribute o m apos =>
    if plainBase o then
      (match T.mets.lookup m with
      | some tb => if x.cm && (apos.endLine == pos.line) && decide (es.length < 29) then eMeth m tb (c.E x o) (cA (c.E x) es) else eBad
      | none => match metOf m with
        | some (ty, op) => if (apos.endLine == pos.line) && decide (es.length < 29) then eBM ty op (c.E x o) (cA (c.E x) es) else eBad
        | none => eBad)
    else eBad
  | _ => eBad
/-- calls of a form of their own -/
def exSpec (T : Tab) (c : Cmp) (x : Ctx) (f : Str) (es : List Expr) : Option FE :=
  if f = "isinstance" then (match es with
    | [a, .Name t _] => if isBlt T x f && isBlt T x t && okNm t && plainArgs [a] && tyNames.any (fun z => decide (t = Str.ofString z)) then (tyNames.find? fun z => decide (t = Str.ofString z)).map fun z => e1 (oIsi z) (c.E x a) else none
    | _ => none)
  else if f = "list" then (match es with
    | [.Call (.Name g _) [a] [] _] => if decide (g = "range") && x.cm && isBlt T x f && isBlt T x g && plainArgs [a] then some (rg1 oLstR (c.E x a)) else none
    | [.Call (.Name g _) [a, b] [] _] => if decide (g = "range") && x.cm && isBlt T x f && isBlt T x g && plainArgs [a, b] then some (rg2 oLstR (c.E x a) (c.E x b)) else none
    | _ => none)
  else if f = "tuple" then (match es with
    | [.Call (.Name g _) [a] [] _] => if decide (g = "range") && x.cm && isBlt T x f && isBlt T x g && plainArgs [a] then some (rg1 oTupR (c.E x a)) else none
    | [.Call (.Name g _) [a, b] [] _] => if decide (g = "range") && x.cm && isBlt T x f && isBlt T x g && plainArgs [a, b] then some (rg2 oTupR (c.E x a) (c.E x b)) else none
    | _ => none)
  else none
def blkCtx (x : Ctx) (scope : Scope) : Ctx := ⟨x.N, true, x.cm, relS scope x.sc⟩
def cIfs (f : Expr → FT) : List Expr → FT
  | [] => tYesT
  | [t] => f t
  | _ => tBad
def exE (T : Tab) (c : Cmp) (x : Ctx) (e : Expr) : FE := match e with
  | .Constant k _ _ => (match k with
    | .int i => eC (.int i)
    | .bool b => eC (.bl b)
    | .none => eC .non
    | .str s => eC (.str s)
    | _ => eBad)
  | .Name n _ => if okNm n then (if isVis x.sc n then (match slot n x.N with
      | some i => eVar i
      | none => eBad) else if isGlo x.sc n then (match T.con.lookup n with
      | some d => eC d
      | none => eBad) else eBad) else eBad
  | .BinOp a op b _ => (match binOf op with
    | some g => e2 g (c.E x a) (c.E x b)
    | none => eBad)
  | .UnaryOp op a _ => (match op with
    | .Not => eNot (c.E x a)
    | .USub => e1 oNeg (c.E x a)
    | _ => eBad)
  | .BoolOp op es _ => (match op with
    | .And => cAnd (c.E x) es
    | .Or => cOr (c.E x) es)
  | .IfExp t a b _ => eIf (c.T x t) (c.E x a) (c.E x b)
  | .Compare a [op] [b] _ => (match cmpOf op with
    | some g => if behindInMarks op b then eBad else e2 g (c.E x a) (c.E x b)
    | none => eBad)
  | .Tuple es _ _ => if plainArgs es then aApp (cA (c.E x) es) oTup else eBad
  | .List es _ => if plainArgs es then aApp (cA (c.E x) es) oLst else eBad
  | .Subscript a (.Slice none none (some (.UnaryOp .USub (.Constant (.int 1) _ _) _)) _) _ => e1 oRevL (c.E x a)
  | .Subscript a (.Slice lo hi none _) _ => eSl (c.E x a) (cO (c.E x) lo) (cO (c.E x) hi)
  | .Subscript a b _ => if noSlice b then e2 oIx (c.E x a) (c.E x b) else eBad
  | .Attribute o f _ => if plainBase o then (match T.flds.lookup f with
    | some cs => e1 (oFld cs f) (c.E x o)
    | none => eBad) else eBad
  | .Dict ks vs _ => if decide (ks.length ≤ 15) then (match cPairs (c.E x) ks vs with
    | some ps => eDct ps
    | none => eBad) else eBad
  | .ListComp elt [⟨tg, iter, ifs, 0⟩] scope _ => if x.cm && notSet iter && blkOkB x.N x.sc scope then eLc ((ownOf x.N scope).map (·.2)) (c.I x tg iter) (cTurn (c.W ((ownOf x.N scope).map (·.2)) (blkCtx x scope) tg) (cIfs (c.T (blkCtx x scope)) ifs) (c.E (blkCtx x scope) elt)) else eBad
  | .DictComp kx vx [⟨tg, iter, ifs, 0⟩] scope _ => if x.cm && notSet iter && blkOkB x.N x.sc scope then eDc ((ownOf x.N scope).map (·.2)) (c.I x tg iter) (cPair (c.W ((ownOf x.N scope).map (·.2)) (blkCtx x scope) tg) (cIfs (c.T (blkCtx x scope)) ifs) (c.E (blkCtx x scope) kx) (c.E (blkCtx x scope) vx)) else eBad
  | .Call f es [] pos => if plainArgs es then (match f with
    | .Name n _ => (match exSpec T c x n es with
      | some g => g
      | none => exCall T c x f es pos)
    | _ => exCall T c x f es pos) else eBad
  | _ => eBad

/-! ### tests -/
def plainT (e : Expr) : Bool := match e with
  | .UnaryOp .Not _ _ => false
  | .BoolOp _ _ _ => false
  | .IfExp _ _ _ _ => false
  | .Compare _ _ _ _ => false
  | _ => true
theorem plainT_ok {e : Expr} {env : PySem.Env} (h : plainT e = true) : ∀ whole, isTrue e env whole = (do let v ← whole; standAt e.pos; holding [v] (truthy v)) := fun whole => by
  cases e with
  | UnaryOp op a p =>
    cases op <;> first
      | rfl
      | cases h
  | BoolOp _ _ _ => cases h
  | IfExp _ _ _ _ => cases h
  | Compare _ _ _ _ => cases h
  | _ => rfl
def exT (c : Cmp) (x : Ctx) (e : Expr) : FT := match e with
  | .UnaryOp .Not a _ => tNot (c.T x a)
  | .BoolOp .And es _ => cTAnd (c.T x) es
  | .BoolOp .Or es _ => cTOr (c.T x) es
  | .Compare a [op] [b] _ => (match cmpOf op with
    | some g => if behindInMarks op b then tBad else tV (e2 g (c.E x a) (c.E x b))
    | none => tBad)
  | e => if plainT e then tV (c.E x e) else tBad

/-! ### what is walked -/
def exI (T : Tab) (c : Cmp) (x : Ctx) (tg e : Expr) : FI := match e with
  | .Call (.Name f _) es [] _ => if decide (f = "range") && isBlt T x f && plainArgs es then (match es with
      | [a] => iRange1 (cA (c.E x) [a])
      | [a, b] => iRange2 (cA (c.E x) [a, b])
      | _ => iBad)
    else if decide (f = "enumerate") && isBlt T x f && plainArgs es then (match es, tg with
      | [a], .Tuple _ _ _ => iEnumE (cA (c.E x) [a])
      | _, _ => iBad)
    else iE (c.E x e)
  | _ => iE (c.E x e)

/-! ### targets -/
def noStar (e : Expr) : Bool := match e with
  | .Starred _ _ => false
  | _ => true
def cGs (f : Expr → FG) : List Expr → FGs
  | [] => gsNil
  | e :: r => gsCons (f e) (cGs f r)
def exG (c : Cmp) (x : Ctx) (e : Expr) : FG := match e with
  | .Name n _ => if canAsg x.bk x.sc n then (match slot n x.N with
    | some i => gNm i
    | none => gBad) else gBad
  | .Tuple es _ _ => if x.cm && plainArgs es then gTp es.length (cGs (c.G x) es) else gBad
  | .Subscript o i _ => if noSlice i then gSub (c.E x o) (c.E x i) else gBad
  | _ => gBad
def exW (c : Cmp) (vs : List Nat) (x : Ctx) (e : Expr) : FG := match e with
  | .Name n _ => if canAsg x.bk x.sc n then (match slot n x.N with
    | some i => if vs.contains i then gNm i else gBad
    | none => gBad) else gBad
  | .Tuple es _ _ => if x.cm && plainArgs es then gTp es.length (cGs (c.W vs x) es) else gBad
  | _ => gBad

/-! ### statements -/
def cB (f : Stmt → FS) : List Stmt → FS
  | [] => sNext
  | s :: r => sSeq (f s) (cB f r)
def isComp (e : Expr) : Bool := match e with
  | .ListComp _ _ _ _ => true
  | .SetComp _ _ _ _ => true
  | .DictComp _ _ _ _ _ => true
  | _ => false
theorem notComp_swap {e : Expr} {t : Option Expr} {l : Nat} {env : PySem.Env} (h : isComp e = false) : swapsWith e t l env = pure false := by
  cases e <;> first
    | rfl
    | cases h
/-- y = [..], on one line, y a local that the list's block has not -/
def swapLc (x : Ctx) (y : Str) (py : Pos) (scope : Scope) (pos : Pos) : Bool := isLoc x.sc y && (py.line == pos.line) && !(scope.names.any fun (n, k) => n == y && (k == .local || k == .cell))
def augOf : Operator → Option (D → D → LH → Res D)
  | .Add => some oIAdd
  | _ => none
def exS (T : Tab) (c : Cmp) (x : Ctx) (s : Stmt) : FS := match s with
  | .Pass _ => sNext
  | .Break _ => sBrk
  | .Continue _ => sCnt
  | .Return none _ => sRetN
  | .Return (some e) _ => sRet (c.E x e)
  | .Expr e _ => if isComp e then sBad else sExpr (c.E x e)
  | .If t a b _ => sIf (c.T x t) (cB (c.S x) a) (cB (c.S x) b)
  | .For tg iter body [] _ => if x.cm && notSet iter then sFor (c.G x tg) (c.I x tg iter) (cB (c.S x) body) else sBad
  | .While t body [] _ => sWhile (c.T x t) (cB (c.S x) body)
  | .Assign [.Name y py] v pos => if canAsg x.bk x.sc y then (match slot y x.N with
      | some i => if isComp v then (match v with
          | .ListComp elt [⟨tg, iter, ifs, 0⟩] scope vpos => if x.cm && notSet iter && blkOkB x.N x.sc scope && swapLc x y py scope vpos then sAsg (eLc ((ownOf x.N scope).map (·.2)) (c.I x tg iter) (cTurn (c.W ((ownOf x.N scope).map (·.2)) (blkCtx x scope) tg) (cIfs (c.T (blkCtx x scope)) ifs) (c.E (blkCtx x scope) elt))) (gNm i) else if swapLc x y py scope vpos then sBad else sAsg (c.E x v) (gNm i)
          | .ListComp _ _ scope vpos => if swapLc x y py scope vpos then sBad else sAsg (c.E x v) (gNm i)
          | .DictComp _ _ _ scope vpos => if swapLc x y py scope vpos then sBad else sAsg (c.E x v) (gNm i)
          | _ => sBad) else sAsg (c.E x v) (gNm i)
      | none => sBad) else sBad
  | .Assign [.Attribute o f _] v _ => (match T.flds.lookup f with
    | some cs => sFldSet cs f (c.E x o) (c.E x v)
    | none => sBad)
  | .Assign [.Subscript o i p] v _ => sAsg (c.E x v) (c.G x (.Subscript o i p))
  | .Assign [.Tuple [.Name a pa, .Name b pb] k1 p1] (.Tuple [e1, e2] k2 p2) _ => (match slot a x.N, slot b x.N with
    | some i, some j => if x.cm && isLoc x.sc a && isLoc x.sc b && !decide (i = j) && (pb.line == pa.line) && plainArgs [e1, e2] && !(a == b) then
        (if [e1, e2].all (foldedForSure 8) then sAsg (c.E x (.Tuple [e1, e2] k2 p2)) (c.G x (.Tuple [.Name a pa, .Name b pb] k1 p1))
        else if [e1, e2].all (constantsAlone 8) then sBad
        else sAsg (aApp (aCons (c.E x e1) (aCons (c.E x e2) aNil)) oTup) (gTp 2 (gsCons (gNm i) (gsCons (gNm j) gsNil)))) else sBad
    | _, _ => sBad)
  | .Assign [.Tuple es k p] (.Name n q) _ => sAsg (c.E x (.Name n q)) (c.G x (.Tuple es k p))
  | .Assign [.Tuple es k p] (.Call f as ks q) _ => sAsg (c.E x (.Call f as ks q)) (c.G x (.Tuple es k p))
  | .Assign [.Tuple es k p] (.Subscript a b q) _ => sAsg (c.E x (.Subscript a b q)) (c.G x (.Tuple es k p))
  | .AugAssign (.Name y _) op e _ => if canAsg x.bk x.sc y then (match slot y x.N, augOf op with
    | some i, some g => sAug i g (c.E x e)
    | _, _ => sBad) else sBad
  | .AugAssign (.Subscript o i _) op e _ => if noSlice i then (match augOf op with
    | some g => sSubAug (c.E x o) (c.E x i) g (c.E x e)
    | none => sBad) else sBad
  | .Raise (some (.Call (.Name n _) es [] _)) none _ => if x.cm && isGlo x.sc n && okNm n && plainArgs es && !es.isEmpty then (match T.excs.lookup n with
    | some (k, f, i) => sRaise k f i (cA (c.E x) es)
    | none => sBad) else sBad
  | .Try body [.ExceptHandler (some (.Name h _)) none (b :: suite) _] [] [] _ => if isGlo x.sc h && okNm h then (match T.hnds.lookup h with
    | some (_, cs) => sTry T.xall cs (cB (c.S x) body) (cB (c.S { x with cm := false }) (b :: suite))
    | none => sBad) else sBad
  | .Try body [.ExceptHandler (some (.Name h _)) (some n) [.Return (some (.Attribute (.Name n2 _) f _)) _] _] [] [] _ => if isGlo x.sc h && okNm h && okNm n && isLoc x.sc n && decide (n2 = n) then (match T.hnds.lookup h, T.xfl.lookup f, slot n x.N with
    | some (_, cs), some fs, some i => if cs.all fs.contains then sTryF T.xall cs i f (cB (c.S x) body) else sBad
    | _, _, _ => sBad) else sBad
  | _ => sBad

def Cmp.step (T : Tab) (c : Cmp) : Cmp := ⟨exE T c, exT c, exI T c, exG c, exW c, exS T c⟩
def cmp (T : Tab) : Nat → Cmp
  | 0 => .bad
  | n + 1 => (cmp T n).step T
end PD
/-! P12: the reading of a text is sound. -/
namespace PD
open PySem PySem.Spec PyProof.Rows L2

structure TabOk (G : Sta) (R : Rec) (k : Nat) (T : Tab) : Prop where
  fn : ∀ x i, T.fns.lookup x = some i → ∃ f ps, G.mg x = some (.ref f) ∧ CalleeP G.P G.w G.K G.mg G.base G k f ps (R i) ∧ fits ps.length (R i)
  cl : ∀ x c i, T.cls.lookup x = some (c, i) → ∃ f ps, G.mg x = some (.ref (G.CA c)) ∧ Mk G.K (G.CA c) f ∧ CalleeP G.P G.w G.K G.mg G.base G k f ps (R i) ∧ fits ps.length (R i)
  met : ∀ m tb, T.mets.lookup m = some tb → ∀ c i, tb.lookup c = some i → Cls G.K (G.CA c) ∧ ∃ f ps, Meth G.K (G.CA c) m f ∧ CalleeP G.P G.w G.K G.mg G.base G k f ps (R i) ∧ fits ps.length (R i)
  fld : ∀ f cs, T.flds.lookup f = some cs → FldOk G cs f
  con : ∀ x d, T.con.lookup x = some d → ∃ u v, G.mg x = some u ∧ RelV v u ∧ ∀ ms H, Rep G ms H d v
  blt : ∀ x, T.blt.contains x = true → G.mg x = none
  exc : ∀ x c f i, T.excs.lookup x = some (c, f, i) → G.mg x = some (.ref (G.CA c)) ∧ ∃ ps, XcOk G k c f ps (R i)
  hnd : ∀ x h cs, T.hnds.lookup x = some (h, cs) → G.mg x = some (.ref (G.CA h)) ∧ HdOk G T.xall h cs
  xfl : ∀ f cs, T.xfl.lookup f = some cs → ∀ c ∈ cs, XfC G.K (G.CA c) ∧ PySem.W.findIn G.K (.ref (G.CA c)) f = some none

structure Sound (G : Sta) (R : Rec) (k : Nat) (c : Cmp) : Prop where
  oE : ∀ (X : Cx) (W : WX) (x : Ctx), Fit X G W (k + 1) x → ∀ e, PE X e (upE G W R (c.E x e))
  oT : ∀ (X : Cx) (W : WX) (x : Ctx), Fit X G W (k + 1) x → ∀ e, PT X e (upT G W R (c.T x e))
  oI : ∀ (X : Cx) (W : WX) (x : Ctx), Fit X G W (k + 1) x → ∀ tg e, PI X tg e (upI G W R (c.I x tg e))
  oG : ∀ (X : Cx) (W : WX) (x : Ctx), Fit X G W (k + 1) x → ∀ e, PG X e (upG G W R (c.G x e))
  oW : ∀ (X : Cx) (W : WX) (x : Ctx), Fit X G W (k + 1) x → ∀ vs e, PG X e (upGp (PrW vs) G W R (c.W vs x e))
  oS : ∀ (X : Cx) (W : WX) (x : Ctx), FitS X G W (k + 1) x → ∀ s, PS X s (upS G W R (c.S x s))
theorem Sound.bad {G : Sta} {R : Rec} {k : Nat} : Sound G R k Cmp.bad where
  oE := fun _ _ _ _ _ => re_bad
  oT := fun _ _ _ _ _ => rt_bad
  oI := fun _ _ _ _ _ _ => ri_bad
  oG := fun _ _ _ _ _ => rg_bad
  oW := fun _ _ _ _ _ _ => rg_bad
  oS := fun _ _ _ _ _ => rs_bad

section
variable {X : Cx} {G : Sta} {W : WX} {R : Rec} {k : Nat} {T : Tab} {x : Ctx} {c : Cmp}
theorem isBlt_ok (F : Fit X G W k x) (TO : TabOk G R j T) {n : Str} (h : isBlt T x n = true) : Gl X n ∧ X.mg n = none := by
  unfold isBlt at h
  rw [Bool.and_eq_true] at h
  refine ⟨F.gl h.1, ?_⟩
  rw [F.emg]
  exact TO.blt n h.2
theorem cA_ok (f : Expr → FE) (h : ∀ e, PE X e (upE G W R (f e))) : ∀ es, plainArgs es = true → PA X es (upA G W R (cA f es))
  | [], _ => ra_nil
  | e :: es, hp => ra_cons (h e) (cA_ok f h es (plain_ne hp).2) (starEach_plain (plain_ne hp).1)
theorem cA_nil (f : Expr → FE) (es : List Expr) : es = [] → cA f es = aNil := fun h => by rw [h]; rfl
theorem cAnd_ok (hK : X.K = G.K) (f : Expr → FE) (h : ∀ e, PE X e (upE G W R (f e))) (pos : Pos) : ∀ es, PE X (.BoolOp .And es pos) (upE G W R (cAnd f es))
  | [] => re_bad
  | [e] => re_one (h e)
  | e :: e2 :: es => re_and hK (h e) (cAnd_ok hK f h pos (e2 :: es))
theorem cOr_ok (hK : X.K = G.K) (f : Expr → FE) (h : ∀ e, PE X e (upE G W R (f e))) (pos : Pos) : ∀ es, PE X (.BoolOp .Or es pos) (upE G W R (cOr f es))
  | [] => re_bad
  | [e] => re_one (h e)
  | e :: e2 :: es => re_or hK (h e) (cOr_ok hK f h pos (e2 :: es))
theorem rw_bad {e : Expr} : PW X e (upT G W R tBad) := ⟨fun _ _ _ _ _ _ _ ⟨_, _, _, _, _, q⟩ => q.elim⟩
theorem cTAnd_ok (f : Expr → FT) (h : ∀ e, PT X e (upT G W R (f e))) (pos : Pos) : ∀ es, PW X (.BoolOp .And es pos) (upT G W R (cTAnd f es))
  | [] => rw_bad
  | [e] => rt_and1 (h e)
  | e :: e2 :: es => rt_and (h e) (cTAnd_ok f h pos (e2 :: es))
theorem cTOr_ok (f : Expr → FT) (h : ∀ e, PT X e (upT G W R (f e))) (pos : Pos) : ∀ es, PW X (.BoolOp .Or es pos) (upT G W R (cTOr f es))
  | [] => rw_bad
  | [e] => rt_or1 (h e)
  | e :: e2 :: es => rt_or (h e) (cTOr_ok f h pos (e2 :: es))
theorem cO_ok (f : Expr → FE) (h : ∀ e, PE X e (upE G W R (f e))) : ∀ o, PO X o (upO G W R (cO f o))
  | none => ro_none
  | some e => ro_some (h e)
theorem cPairs_ok (f : Expr → FE) (h : ∀ e, PE X e (upE G W R (f e))) : ∀ ks vs ps, cPairs f ks vs = some ps → RPs X G W R ks vs ps
  | [], [], ps, e => by cases e; exact .nil
  | some k :: ks, v :: vs, ps, e => by
    unfold cPairs at e
    cases q : cPairs f ks vs with
    | none => rw [q] at e; cases e
    | some l =>
      rw [q] at e; cases e
      exact .cons (h k) (h v) (cPairs_ok f h ks vs l q)
  | none :: _, _, _, e => by cases e
  | [], _ :: _, _, e => by cases e
  | some _ :: _, [], _, e => by cases e
theorem binOf_ok (hK : X.K = G.K) {op : Operator} {g : D → D → LH → Res D} (h : binOf op = some g) : Op2 X G W (binaryOp op) g := by
  cases op <;> first
    | (cases h; first | exact op_oAdd hK | exact op_oSub | exact op_oMul hK | exact op_oDiv | exact op_oMod | exact op_oPow | exact op_oShl | exact op_oShr | exact op_oBand)
    | cases h
theorem cmpOf_ok (hK : X.K = G.K) (hu : X.A.units + 65 < cLine) {op : CmpOp} {g : D → D → LH → Res D} (h : cmpOf op = some g) : Op2 X G W (compareOp op) g := by
  cases op <;> first
    | (cases h; first | exact op_oEq hK (by omega) | exact op_oNe hK (by omega) | exact op_oLt | exact op_oLe | exact op_oGt | exact op_oGe | exact op_oIs | exact op_oIsNot | exact op_oIn hK hu | exact op_oNotIn hK hu)
    | cases h
theorem bltOf_ok (F : Fit X G W k x) {n : Str} {g : List D → LH → Res D} (h : bltOf x.cm n = some g) : ∃ id : String, bootBuiltins n = some (.builtin id) ∧ OpA X G W (.builtin id) g := by
  have hK := F.eK
  have hu := F.u64
  unfold bltOf at h
  split at h
  · rename_i e; cases h; exact ⟨"len", by rw [e]; exact boot_len, op_bLen hK⟩
  split at h
  · rename_i e; cases h; exact ⟨"abs", by rw [e]; exact boot_abs, op_bAbs⟩
  split at h
  · rename_i e; cases h; exact ⟨"sorted", by rw [e]; exact boot_sorted, op_bSorted hK hu⟩
  split at h
  · rename_i e; cases h
    rw [Bool.and_eq_true] at e
    exact ⟨"max", by rw [of_decide_eq_true e.2]; exact boot_max, op_bMaxA (F.calm e.1)⟩
  split at h
  · rename_i e; cases h
    rw [Bool.and_eq_true] at e
    exact ⟨"min", by rw [of_decide_eq_true e.2]; exact boot_min, op_bMinA (F.calm e.1)⟩
  split at h
  · rename_i e; cases h
    rw [Bool.and_eq_true] at e
    exact ⟨"sum", by rw [of_decide_eq_true e.2]; exact boot_sum, op_bSum (F.calm e.1)⟩
  · cases h
theorem typOf_ok (F : Fit X G W k x) {n : Str} {g : List D → LH → Res D} (h : typOf x.cm n = some g) : ∃ id : String, bootBuiltins n = some (.type id) ∧ OpA X G W (.type id) g := by
  have hK := F.eK
  unfold typOf at h
  split at h
  · rename_i e; cases h; exact ⟨"int", by rw [e]; exact PyProof.Rows.boot_int, op_bInt⟩
  split at h
  · rename_i e; cases h; exact ⟨"tuple", by rw [e]; exact PyProof.Rows.boot_tuple, op_bTup hK⟩
  split at h
  · rename_i e; cases h
    rw [Bool.and_eq_true] at e
    exact ⟨"list", by rw [of_decide_eq_true e.2]; exact PyProof.Rows.boot_list, op_bLst hK (F.calm e.1)⟩
  · cases h
theorem metOf_ok (F : Fit X G W k x) {m : Str} {ty : String} {op : D → List D → LH → Res D} (h : metOf m = some (ty, op)) : ∃ id : String, PlainAttrs ty ∧ Slot ty m id ∧ typeOf (.builtin id) = pure (.type "method_descriptor") ∧ MtR X id (rUp G op) := by
  have hu := F.u64
  unfold metOf at h
  split at h
  · rename_i e; cases h; subst e
    exact ⟨_, PySem.F.plainAttrs_list, PySem.F.slot_list_append, PySem.F.type_list_append, mtu_append⟩
  split at h
  · rename_i e; cases h; subst e
    exact ⟨_, PySem.F.plainAttrs_list, PySem.F.slot_list_pop, PySem.F.type_list_pop, mtu_pop⟩
  split at h
  · rename_i e; cases h; subst e
    exact ⟨_, PySem.F.plainAttrs_list, PySem.F.slot_list_extend, PySem.F.type_list_extend, mtu_extend⟩
  split at h
  · rename_i e; cases h; subst e
    exact ⟨_, PySem.F.plainAttrs_list, PySem.F.slot_list_clear, PySem.F.type_list_clear, mtu_clear⟩
  split at h
  · rename_i e; cases h; subst e
    exact ⟨_, PySem.F.plainAttrs_dict, PySem.F.slot_dict_get, PySem.F.type_dict_get, mtu_get hu⟩
  · cases h
theorem meth_tree {o : Expr} {m : Str} {apos pos : Pos} {es : List Expr} {env : PySem.Env} (hb : plainBase o = true) (hp : plainArgs es = true) (hl : es.length < 29) (hline : (apos.endLine == pos.line) = true) :
    eval (.Call (.Attribute o m apos) es [] pos) env = (do
      let ov ← eval o env
      standAt apos.atName
      let (f, first) ← holding [ov] (getMethod ov m (do return (← importBound o env).getD true))
      callWith pos f first (backTo pos (starEach es env)) (backToKw pos (keywordEach [] env))) := by
  rw [PySem.arm_eval_Call, plainBase_ok hb]
  have hf : methodCallForm (es.length + ([] : List Keyword).length) (backTo pos (starEach es env)) (backToKw pos (keywordEach [] env)) = true := few_ok hp hl
  have hpz : ∀ few : Bool, few = true → methodCallPos few o env apos pos = pure pos := fun few e => by
    unfold methodCallPos
    rw [e, hline]
    rfl
  unfold methodCall
  rw [hf, hpz true rfl]
  rfl

/-! ### expressions -/
theorem Fit.callees (F : Fit X G W k x) (hcm : x.cm = true) : Room k X.A ∧ X.A.guards = some [] ∧ Takes X W := ⟨F.room hcm, F.grd hcm, F.tk⟩
theorem exCall_ok (TO : TabOk G R k T) (c : Cmp) (SO : Sound G R k c) (F : Fit X G W (k + 1) x) (f : Expr) (es : List Expr) (pos : Pos) (hp : plainArgs es = true) : PE X (.Call f es [] pos) (upE G W R (exCall T c x f es pos)) := by
  have ha := cA_ok (c.E x) (SO.oE X W x F) es hp
  unfold exCall
  split
  · rename_i n p
    split
    · rename_i hg
      rw [Bool.and_eq_true] at hg
      obtain ⟨n1, n2, n3⟩ := okNm_ok hg.2
      have hgl := F.gl hg.1
      split
      · rename_i i hi
        split
        · rename_i hcm
          obtain ⟨fa, ps, hm, C, hf⟩ := TO.fn n i hi
          have C' : Callee X G k fa ps (R i) := F.callee C
          cases es with
          | nil => exact re_call0 C' hf ((F.room hcm).mono (Nat.le_succ _)) (F.grd hcm) F.tk hgl (F.emg ▸ hm) n1
          | cons e0 es => exact re_call C' hf ((F.room hcm).mono (Nat.le_succ _)) (F.grd hcm) F.tk hgl (F.emg ▸ hm) ha hp n1
        · exact re_bad
      · split
        · rename_i kk i hi
          split
          · rename_i hcm
            rw [Bool.and_eq_true] at hcm
            obtain ⟨fa, ps, hm, M, C, hf⟩ := TO.cl n kk i hi
            have C' : Callee X G k fa ps (R i) := F.callee C
            cases es with
            | nil => exact absurd hcm.2 (by decide)
            | cons e0 es => exact re_make (F.eK ▸ M) C' hf (F.room hcm.1) (F.grd hcm.1) F.tk hgl (F.emg ▸ hm) ha hp n1
          · exact re_bad
        · split
          · exact re_bad
          · rename_i hmod
            rw [Bool.or_eq_true, not_or] at hmod
            have hm : X.mg n = none := by
              rw [F.emg]
              exact TO.blt n (by have := hmod.1; simpa using this)
            cases es with
            | nil => exact absurd rfl hmod.2
            | cons e0 es =>
              split
              · rename_i op ho
                obtain ⟨id, hb, hop⟩ := bltOf_ok F ho
                exact re_bltn hop hgl hm hb ha hp n3 n1
              · split
                · rename_i op ho
                  obtain ⟨id, hb, hop⟩ := typOf_ok F ho
                  exact re_type hop hgl hm hb ha hp n3 n1
                · exact re_bad
    · exact re_bad
  · rename_i o m apos
    split
    · rename_i hb
      split
      · rename_i tb htb
        split
        · rename_i hcm
          rw [Bool.and_eq_true, Bool.and_eq_true] at hcm
          have D0 : Disp X G R k m tb := ⟨fun c i e => by
            obtain ⟨h1, fa, ps, h2, C, hf⟩ := TO.met m tb htb c i e
            exact ⟨F.eK ▸ h1, fa, ps, F.eK ▸ h2, F.callee C, hf⟩⟩
          exact re_meth D0 ((F.room hcm.1.1).mono (Nat.le_succ _)) (F.grd hcm.1.1) F.tk (SO.oE X W x F o) ha hp (cA_nil _ es) (meth_tree hb hp (of_decide_eq_true hcm.2) hcm.1.2)
        · exact re_bad
      · split
        · rename_i ty op hm
          split
          · rename_i hl
            rw [Bool.and_eq_true] at hl
            obtain ⟨id, h1, h2, h3, h4⟩ := metOf_ok F hm
            exact re_bm h1 h2 h3 h4 (SO.oE X W x F o) ha (cA_nil _ es) (plainBase_ok hb) hp (of_decide_eq_true hl.2) hl.1
          · exact re_bad
        · exact re_bad
    · exact re_bad
  · exact re_bad

/-! ### special calls -/
theorem ty_boot : ∀ z ∈ tyNames, bootBuiltins (Str.ofString z) = some (.type z) := by decide +kernel
theorem exSpec_ok (TO : TabOk G R j T) (c : Cmp) (SO : Sound G R k c) (F : Fit X G W (k + 1) x) (f : Str) (p : Pos) (es : List Expr) (pos : Pos) {g : FE} (h : exSpec T c x f es = some g) : PE X (.Call (.Name f p) es [] pos) (upE G W R g) := by
  unfold exSpec at h
  split at h
  · rename_i hf
    subst hf
    split at h
    · rename_i a t p2
      split at h
      · rename_i hb
        rw [Bool.and_eq_true, Bool.and_eq_true, Bool.and_eq_true, Bool.and_eq_true] at hb
        obtain ⟨n1, n2, n3⟩ := okNm_ok hb.1.1.2
        obtain ⟨g1, m1⟩ := isBlt_ok F TO hb.1.1.1.1
        obtain ⟨g2, m2⟩ := isBlt_ok F TO hb.1.1.1.2
        cases hz : tyNames.find? fun z => decide (t = Str.ofString z) with
        | none => rw [hz] at h; cases h
        | some z =>
          rw [hz] at h; cases h
          have e := List.find?_some hz
          have e' : t = Str.ofString z := of_decide_eq_true e
          have hm := List.mem_of_find?_eq_some hz
          exact re_isi F.eK g1 m1 g2 m2 (by rw [e']; exact ty_boot z hm) n3 n1 (SO.oE X W x F a) hb.1.2
      · cases h
    · cases h
  split at h
  · rename_i hf
    subst hf
    split at h
    · rename_i g0 p1 a p2
      split at h
      · rename_i hb
        cases h
        rw [Bool.and_eq_true, Bool.and_eq_true, Bool.and_eq_true, Bool.and_eq_true] at hb
        have hg := of_decide_eq_true hb.1.1.1.1
        subst hg
        obtain ⟨g1, m1⟩ := isBlt_ok F TO hb.1.1.2
        obtain ⟨g2, m2⟩ := isBlt_ok F TO hb.1.2
        exact re_lrg1 (F.calm hb.1.1.1.2) g1 m1 g2 m2 (SO.oE X W x F a) hb.2
      · cases h
    · rename_i g0 p1 a b p2
      split at h
      · rename_i hb
        cases h
        rw [Bool.and_eq_true, Bool.and_eq_true, Bool.and_eq_true, Bool.and_eq_true] at hb
        have hg := of_decide_eq_true hb.1.1.1.1
        subst hg
        obtain ⟨g1, m1⟩ := isBlt_ok F TO hb.1.1.2
        obtain ⟨g2, m2⟩ := isBlt_ok F TO hb.1.2
        exact re_lrg2 (F.calm hb.1.1.1.2) g1 m1 g2 m2 (SO.oE X W x F a) (SO.oE X W x F b) hb.2
      · cases h
    · cases h
  split at h
  · rename_i hf
    subst hf
    split at h
    · rename_i g0 p1 a p2
      split at h
      · rename_i hb
        cases h
        rw [Bool.and_eq_true, Bool.and_eq_true, Bool.and_eq_true, Bool.and_eq_true] at hb
        have hg := of_decide_eq_true hb.1.1.1.1
        subst hg
        obtain ⟨g1, m1⟩ := isBlt_ok F TO hb.1.1.2
        obtain ⟨g2, m2⟩ := isBlt_ok F TO hb.1.2
        exact re_trg1 (F.calm hb.1.1.1.2) g1 m1 g2 m2 (SO.oE X W x F a) hb.2
      · cases h
    · rename_i g0 p1 a b p2
      split at h
      · rename_i hb
        cases h
        rw [Bool.and_eq_true, Bool.and_eq_true, Bool.and_eq_true, Bool.and_eq_true] at hb
        have hg := of_decide_eq_true hb.1.1.1.1
        subst hg
        obtain ⟨g1, m1⟩ := isBlt_ok F TO hb.1.1.2
        obtain ⟨g2, m2⟩ := isBlt_ok F TO hb.1.2
        exact re_trg2 (F.calm hb.1.1.1.2) g1 m1 g2 m2 (SO.oE X W x F a) (SO.oE X W x F b) hb.2
      · cases h
    · cases h
  · cases h

/-! ### comprehensions' blocks -/
theorem uniqL_ok : ∀ {l : List (Str × NameKind)}, uniqL l = true → ∀ y ∈ l, l.lookup y.1 = some y.2
  | [], _, y, h => absurd h (by simp)
  | z :: r, hu, y, h => by
    unfold uniqL at hu
    rw [Bool.and_eq_true] at hu
    obtain ⟨zn, zk⟩ := z
    rcases List.mem_cons.mp h with e | h
    · subst e
      rw [List.lookup_cons_self]
    · rw [List.lookup_cons]
      have h1 := List.all_eq_true.mp hu.1 y h
      have h2 : y.1 ≠ zn := by simpa using h1
      have h3 : (y.1 == zn) = false := by simpa using h2
      rw [h3]
      exact uniqL_ok hu.2 y h
theorem slot_none {n : Str} : ∀ {l : List Str}, slot n l = none → n ∉ l
  | [], _ => by simp
  | y :: r, h => by
    unfold slot at h
    split at h
    · cases h
    · rename_i e
      cases e2 : slot n r with
      | none =>
        rw [List.mem_cons, not_or]
        exact ⟨fun z => e z.symm, slot_none e2⟩
      | some j => rw [e2] at h; cases h
theorem blk_ok (F : Fit X G W k x) {scope : Scope} (h : blkOkB x.N x.sc scope = true) : BlkOk X.N X.env.scope scope (ownOf x.N scope) := by
  unfold blkOkB at h
  rw [Bool.and_eq_true, Bool.and_eq_true] at h
  refine ⟨eq_of_beq h.1.1, uniqL_ok h.1.2, fun p hp => ?_, fun y hy hf => ?_, fun y hy hl => ?_⟩
  · rw [F.eN]
    unfold ownOf at hp
    obtain ⟨y, hy, e⟩ := List.mem_filterMap.mp hp
    split at e
    · cases e2 : slot y.1 x.N with
      | none => rw [e2] at e; cases e
      | some i => rw [e2] at e; cases e; exact slot_ok e2
    · cases e2 : slot y.1 x.N with
      | none => rw [e2] at e; cases e
      | some i => rw [e2] at e; cases e; exact slot_ok e2
    · cases e
  · rw [F.esc]
    have := List.all_eq_true.mp h.2 y hy
    rw [hf] at this
    have h2 : (isCell x.sc y.1 || isFree x.sc y.1) = true := this
    rw [Bool.or_eq_true] at h2
    rcases h2 with h2 | h2
    · exact .inl (isCell_ok h2)
    · exact .inr (isFree_ok h2)
  · rw [F.eN]
    cases e2 : slot y.1 x.N with
    | none => exact .inr (slot_none e2)
    | some i =>
      refine .inl (List.mem_map.mpr ⟨(y.1, i), List.mem_filterMap.mpr ⟨y, hy, ?_⟩, rfl⟩)
      rcases hl with hl | hl
      · rw [hl]
        show (slot y.1 x.N).map _ = _
        rw [e2]; rfl
      · rw [hl]
        show (slot y.1 x.N).map _ = _
        rw [e2]; rfl
theorem cIfs_ok (f : Expr → FT) (h : ∀ e, PT X e (upT G W R (f e))) : ∀ es, PTs X es (upT G W R (cIfs f es))
  | [] => rts_nil
  | [e] => rts_one (h e)
  | _ :: _ :: _ => ⟨fun _ _ _ _ _ _ ⟨_, _, _, _, _, q⟩ => q.elim⟩
theorem exE_ok (TO : TabOk G R k T) (SO : Sound G R k c) (F : Fit X G W (k + 1) x) (e : Expr) : PE X e (upE G W R (exE T c x e)) := by
  have hE := SO.oE X W x F
  have hT := SO.oT X W x F
  have hK := F.eK
  have hu := F.u64
  have hu65 : X.A.units + 65 < cLine := by have := F.un; omega
  unfold exE
  split
  · split
    · exact re_int
    · exact re_bl
    · exact re_non
    · exact re_str
    · exact re_bad
  · rename_i n p
    split
    · rename_i ho
      obtain ⟨n1, n2, n3⟩ := okNm_ok ho
      split
      · rename_i hv
        split
        · rename_i i hi
          exact re_var (pe_var (by rw [F.eN]; exact slot_ok hi) (F.vis hv) n1 n2)
        · exact re_bad
      · split
        · rename_i hg
          split
          · rename_i d hd
            obtain ⟨u, v, h1, h2, h3⟩ := TO.con n d hd
            exact re_c (pe_glob (F.gl hg) (F.emg ▸ h1) h2 n1) h3
          · exact re_bad
        · exact re_bad
    · exact re_bad
  · split
    · rename_i g hg
      exact re_bin (binOf_ok hK hg) (hE _) (hE _)
    · exact re_bad
  · split
    · exact re_not hK (hE _)
    · exact re_un op_oNeg (hE _)
    · exact re_bad
  · split
    · exact cAnd_ok hK _ hE _ _
    · exact cOr_ok hK _ hE _ _
  · exact re_if (hT _) (hE _) (hE _)
  · split
    · rename_i g hg
      split
      · exact re_bad
      · rename_i hb
        exact re_cmp (cmpOf_ok hK hu65 hg) (hE _) (hE _) (by simpa using hb)
    · exact re_bad
  · split
    · rename_i hp
      exact re_tup (cA_ok _ hE _ hp)
    · exact re_bad
  · split
    · rename_i hp
      exact re_lst (cA_ok _ hE _ hp)
    · exact re_bad
  · exact re_rev hK (hE _)
  · exact re_sl hK (hE _) (cO_ok _ hE _) (cO_ok _ hE _)
  · split
    · rename_i hn
      refine re_ix hK hu (hE _) (hE _) (plainIx fun l u s p z => ?_)
      subst z
      exact absurd hn Bool.false_ne_true
    · exact re_bad
  · split
    · rename_i hb
      split
      · rename_i cs hcs
        exact re_fld hK (TO.fld _ _ hcs) (hE _) (plainBase_ok hb)
      · exact re_bad
    · exact re_bad
  · split
    · rename_i ks vs p hl
      split
      · rename_i ps hps
        have hr := cPairs_ok _ hE _ _ _ hps
        cases ks with
        | nil =>
          cases hr
          exact re_dct0
        | cons k0 ks => exact re_dct hr (by simp) (of_decide_eq_true hl)
      · exact re_bad
    · exact re_bad
  · split
    · rename_i h
      rw [Bool.and_eq_true, Bool.and_eq_true] at h
      exact re_lc (F.calm h.1.1) F.hN (SO.oI X W x F _ _) (blk_ok F h.2) (fun s H C cl fp => SO.oW _ _ _ (F.blk s H _ C cl fp) _ _) (fun s H C cl fp => cIfs_ok _ (SO.oT _ _ _ (F.blk s H _ C cl fp)) _) (fun s H C cl fp => SO.oE _ _ _ (F.blk s H _ C cl fp) _) (notSet_ok h.1.2)
    · exact re_bad
  · split
    · rename_i h
      rw [Bool.and_eq_true, Bool.and_eq_true] at h
      exact re_dc (F.calm h.1.1) F.hN (SO.oI X W x F _ _) (blk_ok F h.2) (fun s H C cl fp => SO.oW _ _ _ (F.blk s H _ C cl fp) _ _) (fun s H C cl fp => cIfs_ok _ (SO.oT _ _ _ (F.blk s H _ C cl fp)) _) (fun s H C cl fp => SO.oE _ _ _ (F.blk s H _ C cl fp) _) (fun s H C cl fp => SO.oE _ _ _ (F.blk s H _ C cl fp) _) (notSet_ok h.1.2)
    · exact re_bad
  · split
    · rename_i hp
      split
      · split
        · rename_i g hg
          exact exSpec_ok TO c SO F _ _ _ _ hg
        · exact exCall_ok TO c SO F _ _ _ hp
      · exact exCall_ok TO c SO F _ _ _ hp
    · exact re_bad
  · exact re_bad
theorem exT_ok (SO : Sound G R k c) (F : Fit X G W (k + 1) x) (e : Expr) : PT X e (upT G W R (exT c x e)) := by
  have hE := SO.oE X W x F
  have hT := SO.oT X W x F
  have hK := F.eK
  have hu65 : X.A.units + 65 < cLine := by have := F.un; omega
  unfold exT
  split
  · exact rt_not (hT _)
  · exact (cTAnd_ok _ hT _ _).pt
  · exact (cTOr_ok _ hT _ _).pt
  · split
    · rename_i g hg
      split
      · exact rt_bad
      · rename_i hb
        exact rt_cmp hK (cmpOf_ok hK hu65 hg) (hE _) (hE _) (by simpa using hb)
    · exact rt_bad
  · split
    · rename_i hp
      exact rt_truth hK (hE _) (plainT_ok hp)
    · exact rt_bad
theorem exI_ok (TO : TabOk G R j T) (SO : Sound G R k c) (F : Fit X G W (k + 1) x) (tg e : Expr) : PI X tg e (upI G W R (exI T c x tg e)) := by
  have hE := SO.oE X W x F
  have hK := F.eK
  unfold exI
  split
  · rename_i f p es q
    split
    · rename_i h
      rw [Bool.and_eq_true, Bool.and_eq_true] at h
      obtain ⟨g1, m1⟩ := isBlt_ok F TO h.1.2
      have hf := of_decide_eq_true h.1.1
      subst hf
      split
      · exact pi_rg1 g1 m1 (cA_ok _ hE _ h.2) h.2
      · exact pi_rg2 g1 m1 (cA_ok _ hE _ h.2) h.2
      · exact ri_bad
    · split
      · rename_i h
        rw [Bool.and_eq_true, Bool.and_eq_true] at h
        obtain ⟨g1, m1⟩ := isBlt_ok F TO h.1.2
        have hf := of_decide_eq_true h.1.1
        subst hf
        split
        · exact pi_enumE g1 m1 (cA_ok _ hE _ h.2) h.2
        · exact ri_bad
      · exact pi_any hK (hE _)
  · exact pi_any hK (hE _)

/-! ### targets -/
theorem Fit.w0 (F : Fit X G W k x) : Fit X G W0 k x := { F with tk := takes0 }
theorem assignEach_plain {e : Expr} {es : List Expr} {env : PySem.Env} (h : ∀ v p, e ≠ .Starred v p) : assignEach (e :: es) env = (false, assign e env) :: assignEach es env := by
  cases e <;> first
    | rfl
    | exact absurd rfl (h _ _)
theorem assignEach_len {env : PySem.Env} : ∀ {es : List Expr}, plainArgs es = true → (assignEach es env).length = es.length ∧ (assignEach es env).findIdx? (·.1) = none
  | [], _ => ⟨rfl, rfl⟩
  | e :: es, h => by
    obtain ⟨h1, h2⟩ := plain_ne h
    obtain ⟨l, n⟩ := assignEach_len (env := env) h2
    rw [assignEach_plain h1]
    refine ⟨by rw [List.length_cons, List.length_cons, l], ?_⟩
    rw [List.findIdx?_cons, n]
    rfl
theorem cGs_ok {Pr : L2.St → L2.St → Prop} (P : PrOk Pr) (f : Expr → FG) (h : ∀ e, PG X e (upGp Pr G W0 R (f e))) : ∀ es, plainArgs es = true → PGs X es (upGs Pr G W0 R (cGs f es))
  | [], _ => rgs_nil P
  | e :: es, hp => rgs_cons P (h e) (cGs_ok P f h es (plain_ne hp).2) (by rw [assignEach_plain (plain_ne hp).1]; rfl)
theorem exG_ok (SO : Sound G R k c) (F : Fit X G W (k + 1) x) (e : Expr) : PG X e (upG G W R (exG c x e)) := by
  have hE := SO.oE X W x F
  have hK := F.eK
  have hu := F.u64
  unfold exG
  split
  · split
    · rename_i hc
      obtain ⟨h1, h2⟩ := F.loc hc
      split
      · rename_i i hi
        exact rg_name (fun _ _ => trivial) (pg_name F.hN (by rw [F.eN]; exact slot_ok hi) h1 h2)
      · exact rg_bad
    · exact rg_bad
  · split
    · rename_i h
      rw [Bool.and_eq_true] at h
      obtain ⟨l, n⟩ := assignEach_len (env := X.env) h.2
      exact rg_tup hK (F.calm h.1) (cGs_ok prT _ (SO.oG X W0 x F.w0) _ h.2) l n
    · exact rg_bad
  · split
    · rename_i o i p hn
      refine rg_sub hK hu (hE _) (hE _) fun v => ?_
      cases i <;> first
        | rfl
        | cases hn
    · exact rg_bad
  · exact rg_bad
theorem exW_ok (SO : Sound G R k c) (F : Fit X G W (k + 1) x) (vs : List Nat) (e : Expr) : PG X e (upGp (PrW vs) G W R (exW c vs x e)) := by
  have hK := F.eK
  unfold exW
  split
  · split
    · rename_i hc
      obtain ⟨h1, h2⟩ := F.loc hc
      split
      · rename_i i hi
        split
        · rename_i hv
          exact rg_name (fun _ _ => wipe_set (by simpa using hv)) (pg_name F.hN (by rw [F.eN]; exact slot_ok hi) h1 h2)
        · exact rg_bad
      · exact rg_bad
    · exact rg_bad
  · split
    · rename_i h
      rw [Bool.and_eq_true] at h
      obtain ⟨l, n⟩ := assignEach_len (env := X.env) h.2
      exact rg_tup hK (F.calm h.1) (cGs_ok (prW vs) _ (SO.oW X W0 x F.w0 vs) _ h.2) l n
    · exact rg_bad
  · exact rg_bad

/-! ### statements -/
theorem cB_ok (f : Stmt → FS) (h : ∀ s, PS X s (upS G W R (f s))) : ∀ l, PSs X l (upS G W R (cB f l))
  | [] => rss_nil
  | s :: l => rss_cons (h s) (cB_ok f h l)
theorem blockKind_fn (F : FitS X G W k x) : X.env.blockKind = .function := by
  unfold Env.blockKind
  rw [F.esc, F.kind]
  rfl
theorem swap_lc (F : FitS X G W k x) {y : Str} {py : Pos} {elt : Expr} {gs : List Comprehension} {scope : Scope} {vpos : Pos} {l : Nat} (h : swapLc x y py scope vpos = true) : swapsWith (.ListComp elt gs scope vpos) (some (.Name y py)) l X.env = pure true := by
  unfold swapLc at h
  rw [Bool.and_eq_true, Bool.and_eq_true] at h
  have h1 : X.env.kindOf y = some .local := by
    show X.env.scope.names.lookup y = _
    rw [F.esc]; exact isLoc_ok h.1.1
  show (pure (X.env.blockKind == .function && X.env.kindOf y == some .local && py.line == vpos.line
      && !(scope.names.any fun (n, k) => n == y && (k == .local || k == .cell))) : Sem Bool) = pure true
  rw [blockKind_fn F, h1, h.1.2, h.2]
  rfl
theorem swap_scope (F : FitS X G W k x) {y : Str} {py : Pos} {scope : Scope} {vpos : Pos} (h : swapLc x y py scope vpos = false) : (X.env.blockKind == .function && X.env.kindOf y == some .local && py.line == vpos.line
      && !(scope.names.any fun (n, k) => n == y && (k == .local || k == .cell))) = false := by
  rw [blockKind_fn F]
  unfold swapLc at h
  cases hl : isLoc x.sc y with
  | true =>
    have h1 : X.env.kindOf y = some .local := by
      show X.env.scope.names.lookup y = _
      rw [F.esc]; exact isLoc_ok hl
    rw [hl, Bool.true_and] at h
    rw [h1]
    exact h
  | false =>
    have h1 : (X.env.kindOf y == some .local) = false := by
      cases e : X.env.kindOf y == some .local with
      | false => rfl
      | true =>
        have e2 : X.env.scope.names.lookup y = some .local := eq_of_beq e
        rw [F.esc] at e2
        unfold isLoc at hl
        rw [e2] at hl
        cases hl
    rw [h1]
    simp
theorem swap_lcN (F : FitS X G W k x) {y : Str} {py : Pos} {elt : Expr} {gs : List Comprehension} {scope : Scope} {vpos : Pos} {l : Nat} (h : swapLc x y py scope vpos = false) : swapsWith (.ListComp elt gs scope vpos) (some (.Name y py)) l X.env = pure false := by
  show (pure (X.env.blockKind == .function && X.env.kindOf y == some .local && py.line == vpos.line
      && !(scope.names.any fun (n, k) => n == y && (k == .local || k == .cell))) : Sem Bool) = pure false
  rw [swap_scope F h]
theorem swap_dcN (F : FitS X G W k x) {y : Str} {py : Pos} {kx vx : Expr} {gs : List Comprehension} {scope : Scope} {vpos : Pos} {l : Nat} (h : swapLc x y py scope vpos = false) : swapsWith (.DictComp kx vx gs scope vpos) (some (.Name y py)) l X.env = pure false := by
  show (pure (X.env.blockKind == .function && X.env.kindOf y == some .local && py.line == vpos.line
      && !(scope.names.any fun (n, k) => n == y && (k == .local || k == .cell))) : Sem Bool) = pure false
  rw [swap_scope F h]
theorem kindLoc (F : FitS X G W k x) {y : Str} (h : isLoc x.sc y = true) : X.env.kindOf y = some .local := by
  show X.env.scope.names.lookup y = _
  rw [F.esc]; exact isLoc_ok h
theorem swapLc_loc (F : FitS X G W k x) {y : Str} {py : Pos} {scope : Scope} {vpos : Pos} (h : swapLc x y py scope vpos = true) : X.env.scope.names.lookup y = some .local := by
  unfold swapLc at h
  rw [Bool.and_eq_true, Bool.and_eq_true] at h
  exact kindLoc F h.1.1
theorem swap_att {v o : Expr} {f : Str} {p : Pos} {l : Nat} {env : PySem.Env} : swapsWith v (some (.Attribute o f p)) l env = pure false := by
  cases v <;> rfl
theorem swap_sub {v o i : Expr} {p : Pos} {l : Nat} {env : PySem.Env} : swapsWithSole [.Subscript o i p] v l env = pure false := by
  cases v <;> rfl
theorem fm_two {α β : Type} {f : α → Option β} {x y : α} {a b : β} (h1 : f x = some a) (h2 : f y = some b) : [x, y].filterMap f = [a, b] := by
  rw [List.filterMap_cons_some h1, List.filterMap_cons_some h2]; rfl
theorem nd_two {a b : Str} (hab : (a == b) = false) : [a, b].eraseDups = [a, b] := by
  have : (b == a) = false := by
    cases h : b == a with
    | false => rfl
    | true => rw [eq_of_beq h] at hab; simp at hab
  simp [List.eraseDups, List.eraseDupsBy, List.eraseDupsBy.loop, hab, this]
theorem any_two {α : Type} {f : α → Bool} {x y : α} (h1 : f x = false) (h2 : f y = false) : ¬ ([x, y].any f = true) := by
  rw [List.any_cons, List.any_cons, List.any_nil, h1, h2]; decide
theorem swap_two (F : FitS X G W k x) {a b : Str} {pa pb : Pos} {e1 e2 : Expr} {k1 k2 : Nat} {p1 p2 : Pos} (ha : isLoc x.sc a = true) (hb : isLoc x.sc b = true) (hab : (a == b) = false) (hl : (pb.line == pa.line) = true) (hp : plainArgs [e1, e2] = true)  :
    swappedStores [.Tuple [.Name a pa, .Name b pb] k1 p1] (.Tuple [e1, e2] k2 p2) X.env = if [e1, e2].all (foldedForSure 8) then pure none else if [e1, e2].all (constantsAlone 8) then (do unsupported "assign.tuple-of-constant-expressions:order-of-the-stores"; pure (some [a, b])) else pure (some [a, b]) := by
  obtain ⟨h1, h2⟩ := plain_ne hp
  obtain ⟨h3, _⟩ := plain_ne h2
  unfold swappedStores
  dsimp only
  rw [blockKind_fn F]
  refine (if_neg (fun z => Bool.false_ne_true z)).trans ((if_neg (any_two ?_ ?_)).trans ?_)
  · cases e1 <;> first
      | rfl
      | exact absurd rfl (h1 _ _)
  · cases e2 <;> first
      | rfl
      | exact absurd rfl (h3 _ _)
  · have e1' : (X.env.kindOf a == some NameKind.local && pa.line == pa.line) = true := by rw [kindLoc F ha]; simp
    have e2' : (X.env.kindOf b == some NameKind.local && pb.line == pa.line) = true := by rw [kindLoc F hb, hl]; rfl
    rw [fm_two (x := Expr.Name a pa) (y := Expr.Name b pb) (a := a) (b := b), nd_two hab]
    · refine (if_neg (fun z => Bool.false_ne_true z)).trans ?_
      rfl
    · exact if_pos e1'
    · exact if_pos e2'
theorem swap_none_tup {es : List Expr} {kk : Nat} {p : Pos} {v : Expr} {env : PySem.Env} (h : ∀ l a b, v ≠ .Tuple l a b) : swappedStores [.Tuple es kk p] v env = pure none := by
  unfold swappedStores
  cases v <;> first
    | rfl
    | exact absurd rfl (h _ _ _)

theorem augOf_ok {op : Operator} {g : D → D → LH → Res D} (h : augOf op = some g) : Op2 X G W (inplaceOp op) g := by
  cases op <;> first
    | (cases h; exact op_oIAdd)
    | cases h
theorem FitS.tr (F : FitS X G W k x) {W' : WX} {pn : List (Addr × Obj)} {xe : Value → Shared → Prop} (tk : Takes (X.tr pn xe) W') (own : PassesOwn (model X.prog X.w) X.A X.env xe) : FitS (X.tr pn xe) G W' k x :=
  { eP := F.eP, ew := F.ew, eK := F.eK, emg := F.emg, ebase := F.ebase, room := F.room, un := F.un, grd := F.grd, calm := F.calm, nd := F.nd, eN := F.eN, esc := F.esc, fnc := F.fnc, tk := tk, nbk := F.nbk, own := own, stk := F.stk, frm := F.frm, kind := F.kind }
theorem FitS.suite (F : FitS X G W k x) (a : Addr) (oe : Obj) (pn : List (Addr × Obj)) : FitS (X.suite a ((a, oe) :: pn)) G W0 k { x with cm := false } :=
  { eP := F.eP, ew := F.ew, eK := F.eK, emg := F.emg, ebase := F.ebase, room := fun z => (nomatch z), un := F.un, grd := fun z => (nomatch z), calm := fun z => (nomatch z), nd := F.nd, eN := F.eN, esc := F.esc, fnc := F.fnc, tk := takes0, nbk := F.nbk, own := PassesOwn.never, stk := F.stk, frm := F.frm, kind := F.kind }
theorem exS_ok (TO : TabOk G R k T) (SO : Sound G R k c) (F : FitS X G W (k + 1) x) (s : Stmt) : PS X s (upS G W R (exS T c x s)) := by
  have Ff := F.toFit
  have hE := SO.oE X W x Ff
  have hT := SO.oT X W x Ff
  have hG := SO.oG X W x Ff
  have hS := cB_ok _ (SO.oS X W x F)
  have hK := Ff.eK
  have hu := Ff.u64
  unfold exS
  split
  · exact rs_pass
  · exact rs_break
  · exact rs_cont
  · exact rs_retN
  · exact rs_ret (hE _)
  · split
    · exact rs_bad
    · rename_i hc
      exact rs_expr (hE _) (notComp_swap (by simpa using hc))
  · exact rs_if (hT _) (hS _) (hS _)
  · split
    · rename_i h
      rw [Bool.and_eq_true] at h
      exact rs_for F.own (Ff.calm h.1) (SO.oI X W x Ff _ _) (hG _) (hS _) (notSet_ok h.2)
    · exact rs_bad
  · exact rs_while F.own (hT _) (hS _)
  · split
    · rename_i hca
      obtain ⟨h1, h2⟩ := Ff.loc hca
      split
      · rename_i i hi
        have hi' := slot_ok hi
        rw [← Ff.eN] at hi'
        split
        · split
          · split
            · rename_i h
              rw [Bool.and_eq_true, Bool.and_eq_true, Bool.and_eq_true] at h
              exact rs_setLc (Ff.calm h.1.1.1) Ff.hN hi' (swapLc_loc F h.2) (swap_lc F h.2) (SO.oI X W x Ff _ _) (blk_ok Ff h.1.2) (fun s H C cl fp => SO.oW _ _ _ (Ff.blk s H _ C cl fp) _ _) (fun s H C cl fp => cIfs_ok _ (SO.oT _ _ _ (Ff.blk s H _ C cl fp)) _) (fun s H C cl fp => SO.oE _ _ _ (Ff.blk s H _ C cl fp) _) (notSet_ok h.1.1.2)
            · split
              · exact rs_bad
              · rename_i hsw
                exact rs_set Ff.hN hi' h1 (hE _) (swap_lcN F (by simpa using hsw)) h2
          · split
            · exact rs_bad
            · rename_i hsw
              exact rs_set Ff.hN hi' h1 (hE _) (swap_lcN F (by simpa using hsw)) h2
          · split
            · exact rs_bad
            · rename_i hsw
              exact rs_set Ff.hN hi' h1 (hE _) (swap_dcN F (by simpa using hsw)) h2
          · exact rs_bad
        · rename_i hc
          exact rs_set Ff.hN hi' h1 (hE _) (notComp_swap (by simpa using hc)) h2
      · exact rs_bad
    · exact rs_bad
  · split
    · rename_i cs hcs
      exact rs_fldset hK (TO.fld _ _ hcs) (hE _) (hE _) swap_att
    · exact rs_bad
  · exact rs_asg (hE _) (hG _) swap_sub rfl rfl
  · split
    · rename_i i j hi hj
      split
      · rename_i h
        simp only [Bool.and_eq_true] at h
        obtain ⟨⟨⟨⟨⟨⟨h1, h2⟩, h3⟩, h4⟩, h5⟩, h6⟩, h7⟩ := h
        split
        · rename_i hf
          exact rs_asg (hE _) (hG _) rfl ((swap_two F h2 h3 (by simpa using h7) h5 h6).trans (if_pos hf)) rfl
        · rename_i hf
          split
          · exact rs_bad
          · rename_i hf2
            exact rs_par (Ff.calm h1) Ff.hN (by rw [Ff.eN]; exact slot_ok hi) (by rw [Ff.eN]; exact slot_ok hj) (by simpa using h4) (kindLoc F h2) (kindLoc F h3) (cA_ok _ hE _ h6) ((swap_two F h2 h3 (by simpa using h7) h5 h6).trans ((if_neg hf).trans (if_neg hf2))) rfl
      · exact rs_bad
    · exact rs_bad
  · exact rs_asg (hE _) (hG _) rfl (swap_none_tup fun _ _ _ z => nomatch z) rfl
  · exact rs_asg (hE _) (hG _) rfl (swap_none_tup fun _ _ _ z => nomatch z) rfl
  · exact rs_asg (hE _) (hG _) rfl (swap_none_tup fun _ _ _ z => nomatch z) rfl
  · split
    · rename_i hca
      obtain ⟨h1, h2⟩ := Ff.loc hca
      split
      · rename_i i g hi hg
        exact rs_aug Ff.hN (by rw [Ff.eN]; exact slot_ok hi) h1 (augOf_ok hg) (hE _) h2
      · exact rs_bad
    · exact rs_bad
  · split
    · rename_i o i p op e q hn
      split
      · rename_i g hg
        refine rs_subaug hu hK (hE _) (hE _) (hE _) (augOf_ok hg) fun ov iv new => ?_
        cases i <;> first
          | rfl
          | cases hn
      · exact rs_bad
    · exact rs_bad
  · split
    · rename_i n p es p2 p3 h
      rw [Bool.and_eq_true, Bool.and_eq_true, Bool.and_eq_true, Bool.and_eq_true] at h
      obtain ⟨n1, n2, n3⟩ := okNm_ok h.1.1.2
      split
      · rename_i kk f i he
        obtain ⟨hm, ps, XC⟩ := TO.exc _ _ _ _ he
        cases es with
        | nil => exact absurd h.2 (by decide)
        | cons e0 es => exact rs_raise Ff.eP Ff.ew hK Ff.emg Ff.ebase XC (Ff.room h.1.1.1.1) (Ff.calm h.1.1.1.1) Ff.tk (Ff.gl h.1.1.1.2) (Ff.emg ▸ hm) (cA_ok _ hE _ h.1.2) h.1.2 n1
      · exact rs_bad
    · exact rs_bad
  · split
    · rename_i h
      rw [Bool.and_eq_true] at h
      obtain ⟨n1, n2, n3⟩ := okNm_ok h.2
      split
      · rename_i hh cs he
        obtain ⟨hm, HO⟩ := TO.hnd _ _ _ he
        exact rs_try hK F.stk F.frm (Ff.gl h.1) (Ff.emg ▸ hm) n1 HO Ff.tk (fun W' pn xe tk own => cB_ok _ (SO.oS _ _ _ (F.tr tk own)) _) (fun a oe pn => cB_ok _ (SO.oS _ _ _ (F.suite a oe pn)) _)
      · exact rs_bad
    · exact rs_bad
  · split
    · rename_i h
      simp only [Bool.and_eq_true, decide_eq_true_eq] at h
      obtain ⟨⟨⟨⟨h1, h2⟩, h3⟩, h4⟩, h5⟩ := h
      obtain ⟨n1, n2, n3⟩ := okNm_ok h2
      obtain ⟨m1, m2, m3⟩ := okNm_ok h3
      subst h5
      split
      · rename_i hh cs fs i he hf hi
        split
        · rename_i hall
          obtain ⟨hm, HO⟩ := TO.hnd _ _ _ he
          have hi' := slot_ok hi
          rw [← Ff.eN] at hi'
          exact rs_tryF hK F.stk F.frm Ff.hN hi' (kindLoc F h4) (Ff.gl h1) (Ff.emg ▸ hm) n1 HO Ff.tk (fun c hc => TO.xfl _ _ hf c (by have := List.all_eq_true.mp hall c hc; simpa using this)) m1 m2 (fun W' pn xe tk own => cB_ok _ (SO.oS _ _ _ (F.tr tk own)) _)
        · exact rs_bad
      · exact rs_bad
    · exact rs_bad
  · exact rs_bad
end
theorem Sound.step {G : Sta} {R : Rec} {k : Nat} {T : Tab} {c : Cmp} (TO : TabOk G R k T) (SO : Sound G R k c) : Sound G R k (c.step T) where
  oE := fun X W x F e => exE_ok TO SO F e
  oT := fun X W x F e => exT_ok SO F e
  oI := fun X W x F tg e => exI_ok TO SO F tg e
  oG := fun X W x F e => exG_ok SO F e
  oW := fun X W x F vs e => exW_ok SO F vs e
  oS := fun X W x F s => exS_ok TO SO F s
theorem cmp_ok {G : Sta} {R : Rec} {k : Nat} {T : Tab} (TO : TabOk G R k T) : ∀ n, Sound G R k (cmp T n)
  | 0 => Sound.bad
  | n + 1 => Sound.step TO (cmp_ok TO n)

/-! ### a def, from its text -/
/-- as deep as any text here -/
def deep : Nat := 40
def cFn (T : Tab) (N : List Str) (pars : Nat) (sc : Scope) (body : List Stmt) : Fn := ⟨N.length, pars, cB ((cmp T deep).S ⟨N, false, true, sc⟩) body⟩
theorem cFn_ok {G : Sta} {x qual : Str} {params : Arguments} {body : List Stmt} {scope : Scope} {dvs : List V} {kws : List (Str × V)} {f : Addr} {fd : FuncData} {N ps : List Str} {k : Nat} {R : Rec} {T : Tab}
    (F : FunD G.K x qual params body scope dvs kws f fd) (S : FnScope N ps scope) (TO : TabOk G R k T) : FnG G.P G.w G.K G.mg G.base (k + 2) f fd ps (spOf G ps.length ((cFn T N ps.length scope body).run R)) :=
  FnG.body (k := k + 1) F S rfl rfl fun X W FS => cB_ok _ (fun s => (cmp_ok TO deep).oS X W _ FS s) body
end PD
/-! P12b: own exceptions: super().__init__ at the head of an __init__. -/
namespace PD
open PySem PySem.Spec PyProof.Rows L2 LamX NdefX

theorem lookup_mem {α β : Type} [BEq α] [LawfulBEq α] {l : List (α × β)} {x : α} {y : β} (h : l.lookup x = some y) : (x, y) ∈ l := by
  induction l with
  | nil => cases h
  | cons q l ih =>
    obtain ⟨a, b⟩ := q
    rw [List.lookup_cons] at h
    cases e : x == a with
    | true =>
      rw [e] at h; cases h
      rw [eq_of_beq e]; exact List.mem_cons_self
    | false =>
      rw [e] at h
      exact List.mem_cons_of_mem _ (ih h)
/-- what the heap says of a class whose __init__ begins with super().__init__(..) of ValueError's -/
structure SupC (P : Program) (K : PySem.W.Frag) (C f cc cda : Addr) : Prop where
  oex : OexC K C
  cell : ∃ oc od osl, K.lookup cc = some ⟨oc, od, .cell (some (.ref C)), osl⟩
  code : ∃ oc od vs osl file t, K.lookup cda = some ⟨oc, od, .fields vs, osl⟩ ∧ vs[2]? = some (.str file t) ∧ ((P.main.file : Str) == file) = true
  cls : ∃ cd, PySem.W.clsIn K C = some cd
  mro : PySem.W.mroIn K C (.ref C) = some true
  top : (P.main.scope.names.lookup ("super" : Str)).isSome = false
  third : PySem.W.nsIn K cStatics "thirdparty.any" = some none
  sup : PySem.W.ks_superIn K C C "__init__" = some (some (.builtin "ValueError.__init__"))
  sub : PySem.W.subIn K (.ref C) (.type "ValueError") = some true
theorem boot_super : bootBuiltins "super" = some (.type "super") := by decide +kernel

/-- the wrapper called: the exception's args are laid anew -/
theorem mw_call {X : Cx} {pins : List (Addr × Obj)} {σ : L2.St} {H : Hp} {s : Shared} {A : Around} {E : Value → Shared → Prop} {Q : Value → Shared → Prop} {a C u : Addr} {us : List Value} (T : OexC X.K C) (I : Inv X pins σ H s) (e : H a = some (exo a C none)) (hu : s.heap.get? u = some (PySem.W.kxs_mw "ValueError.__init__" a)) (hl : us.length ≤ sizeLine)
    (h : ∀ s', Inv X pins σ H s' → Q .none s') : wpAny (model X.prog X.w) A (call (.ref u) us) Q E s := by
  obtain ⟨nm, q, N, bs, bm, sn, sub, ab, col, dd, k0, k1, k2, k3, k5, hC, hbm⟩ := T.cls
  obtain ⟨t1, ho⟩ := exo_at I.hok e
  obtain ⟨hp, g, d, t, os⟩ := s
  refine wpAny_call (codeAny_of_tree ?_)
  show wpAny _ A.in1 (callAny (.ref u) ⟨us, []⟩) _ _ _
  simp only [callAny]
  refine wpAny_bind (wpAny_load hu ?_)
  refine PySem.W.KFB.if_so rfl ?_
  refine wpAny_bind (PySem.W.check_bound_init F.excCall_ValueError (I.kIn _ _ hC) ho rfl ?_)
  refine wpAny_bind (wpAny_pure (wpAny_pure ?_))
  refine ⟨PySem.plainId_quiet F.excBase_ValueError.init.plain _, codeAny_builtin F.excBase_ValueError.initEntry ?_⟩
  refine PySem.W.exc_init_tree (cls := .ref C) (t0 := t1) (dv := none) (c2 := .none) (c3 := .none) (b4 := .bool false) ho hl fun h' k hx ht => ?_
  have J := I.write (t' := t) (x := a) (e := a) (o := exo a C none) (by rw [e]; exact True.intro) (.inl rfl) k ⟨_, hx⟩ (exo_ok hx)
  have eu : upd H a (exo a C none) = H := by
    funext b
    by_cases hb : b = a
    · rw [hb, upd_same, e]
    · rw [upd_ne hb]
  rw [eu] at J
  exact h _ J
/-- the first statement, at the def's own code -/
theorem sup_first {X : Cx} {pins : List (Addr × Obj)} {σ : L2.St} {H : Hp} {s : Shared} {body : List Stmt} {Q : Flow → Shared → Prop} {E : Value → Shared → Prop} {a C f cc cda : Addr} {fd : FuncData} {od : Option Addr} {oc : Value} {osl : Array (Option Value)} {ar : Arg} {i : Nat} {p0 p1 p2 p3 p4 : Pos} {e : Expr} {es : List Expr} {ta : TA}
    (SC : SupC X.prog X.K C f cc cda) (I : Inv X pins σ H s) (hf : X.env.func = some f) (lk : X.K.lookup f = some ⟨oc, od, .func fd, osl⟩) (hpar : (fd.params.posonlyargs ++ fd.params.args).head? = some ar) (hcode : X.env.code = .ref cda) (hcells : X.env.cells.lookup ("__class__" : Str) = some cc)
    (hks : X.env.scope.names.lookup ("super" : Str) = some .globalImplicit) (hkc : X.env.scope.names.lookup ("__class__" : Str) = some .free) (hka : X.env.scope.names.lookup ar.arg = some .local) (hN : X.N[i]? = some ar.arg) (hσ : σ[i]? = some (some (.ref a))) (hm : X.mg "super" = none)
    (he : H a = some (exo a C none)) (ha : PA X (e :: es) ta) (hp : plainArgs (e :: es) = true) (hl : (e :: es).length < 29) (hline : (p2.endLine == p3.line) = true) (hint : interactive X.env = false)
    (h : ta σ H fun vs H1 => H1 = H ∧ vs.length ≤ sizeLine) (hQ : ∀ s', Inv X pins σ H s' → Q .next s') (hE : ∀ e s', X.xe e s' → E e s') :
    PySem.wpAt (model X.prog X.w) X.A (.func body X.env) (exec (.Expr (.Call (.Attribute (.Call (.Name "super" p0) [] [] p1) "__init__" p2) (e :: es) [] p3) p4) X.env) Q E s := by
  have kin := I.kIn
  have X0 := I.ok.mod
  have bk := I.bk
  obtain ⟨oc2, od2, osl2, hcc⟩ := SC.cell
  obtain ⟨oc3, od3, vs, osl3, file, t, hcd, hvs, hfile⟩ := SC.code
  obtain ⟨cd, hcl⟩ := SC.cls
  obtain ⟨t1, hobj⟩ := exo_at I.hok he
  obtain ⟨oD, hD1, hD2⟩ : ∃ oD, s.heap.get? C = some oD ∧ oD.data = .cls cd := by
    unfold PySem.W.clsIn at hcl
    split at hcl
    · rename_i c d cd' sl ho
      cases hcl
      exact ⟨_, kin _ _ ho, rfl⟩
    · cases hcl
  have inst : PySem.W.InstAt s.heap a { cls := .ref C, dict := none, data := .fields #[.ref t1, .none, .none, .none, .bool false, .none] } C none := ⟨hobj, rfl, rfl, trivial⟩
  have ne : a ≠ C := PySem.W.ks_ne kin inst hcl
  obtain ⟨m, hns, hlk⟩ := I.loc
  obtain ⟨u0, ru0, lo⟩ := hlk i ar.arg (.ref a) hN hσ (.inl hka)
  cases ru0
  have hv : m ar.arg = some (.ref a) := by
    rcases lo with ⟨_, z⟩ | ⟨z, _⟩
    · exact z
    · rcases z with z | z
      · rw [show X.env.kindOf ar.arg = some .local from hka] at z; cases z
      · rw [show X.env.kindOf ar.arg = some .local from hka] at z; cases z
  obtain ⟨mb, hmb, hbb⟩ := X0.blt
  refine ks_wpAt_Expr_any ?_ hint rfl
  have tree : eval (.Call (.Attribute (.Call (.Name "super" p0) [] [] p1) "__init__" p2) (e :: es) [] p3) X.env = (do
      let ov ← attributeBase (.Call (.Name "super" p0) [] [] p1) "__init__" X.env (eval (.Call (.Name "super" p0) [] [] p1) X.env)
      standAt p2.atName
      let (f, first) ← holding [ov] (getMethod ov "__init__" (do return (← importBound (.Call (.Name "super" p0) [] [] p1) X.env).getD true))
      callWith p3 f first (backTo p3 (starEach (e :: es) X.env)) []) := by
    rw [PySem.arm_eval_Call]
    have hform : methodCallForm ((e :: es).length + ([] : List Keyword).length) (backTo p3 (starEach (e :: es) X.env)) (backToKw p3 (keywordEach [] X.env)) = true := few_ok hp hl
    have hpz : ∀ few : Bool, few = true → methodCallPos few (.Call (.Name "super" p0) [] [] p1) X.env p2 p3 = pure p3 := fun few e => by
      unfold methodCallPos
      rw [e, hline]
      rfl
    unfold methodCall
    rw [hform, hpz true rfl]
    rfl
  refine ks_wpAt_MethodCall ?_ tree
  refine ks_wpAt_super_base (env := X.env) hks hkc (by decide) hf (kin _ _ lk) rfl hpar hcode (kin _ _ hcd) rfl hvs hfile SC.top ?_
  refine PySem.W.ks_loadName_global I.ok.kind hks (PySem.Calls.loadGlobal_builtin (env := X.env) (I.ok.glob ▸ X0.glob.keeps bk) hm (I.ok.blt ▸ hmb.keeps bk) ((hbb _ (by decide +kernel)).trans boot_super) ⟨rfl, ?_⟩)
  refine wpAny_loadName_free I.ok.kind hkc hcells ⟨_, kin _ _ hcc, rfl⟩ ?_
  refine wpAny_loadName_local I.ok.kind hka hns hv ?_
  obtain ⟨hh, g, d, t, os⟩ := s
  refine ks_wpAny_isType_cls hD1 hD2 ⟨rfl, ?_⟩
  refine ks_wpAny_call_super hD1 hD2 hobj rfl (fun c z => by cases z) (PySem.W.looks_mroIn kin SC.mro) fun h' hso k => ?_
  have I1 : Inv X pins σ H ⟨h', g, d, t, os⟩ := I.kept (t' := t) k
  have kin1 := I1.kIn
  have inst1 : PySem.W.InstAt h' a { cls := .ref C, dict := none, data := .fields #[.ref t1, .none, .none, .none, .bool false, .none] } C none := ⟨k _ _ hobj, rfl, rfl, trivial⟩
  have hI : PySem.W.Looks (model X.prog X.w) h' (isInstance (.ref a) (.type "ValueError")) true := inst1.type.andThen (PySem.W.looks_subIn kin1 SC.sub)
  have hsu := SC.sup
  unfold PySem.W.ks_superIn at hsu
  rw [hcl] at hsu
  refine PySem.W.kxs_getMethod PySem.W.kxs_ValueError hso (PySem.W.looks_opaque kin1 SC.third) (l₀ := cd.mro) (fun A Q E s k q => wpAny_bind ((PySem.W.looks_clsIn kin1 hcl) A _ E s k (wpAny_pure q))) rfl kin1 hsu hI ne (by decide) ?_
  have hu : (h'.push (PySem.W.kxs_mw "ValueError.__init__" a)).get? h'.objs.size = some (PySem.W.kxs_mw "ValueError.__init__" a) := Heap.get?_push_size _ rfl
  have I2 : Inv X ((h'.objs.size, PySem.W.kxs_mw "ValueError.__init__" a) :: pins) σ H ⟨h'.push (PySem.W.kxs_mw "ValueError.__init__" a), g, d, t + 1, os⟩ := ClX.pin_new (t' := t + 1) I1 (fun b o e => Heap.get?_push_of_some _ e) (Nat.le_refl _) hu fun v z => by cases z
  obtain ⟨z1, z2⟩ := plain_ne hp
  have hse := starEach_plain (es := es) (env := X.env) z1
  show wpAny _ _ (callWith p3 (.ref h'.objs.size) [] (backTo p3 (starEach (e :: es) X.env)) []) _ _ _
  rw [hse]
  refine PySem.W.kxs_callWith (i := "ValueError.__init__") (x := a) (by show (false || (backTo p3 (starEach es X.env)).any (·.1)) = false; rw [plain_any z2]; rfl) ?_
  refine PySem.Calls.evalArgs_plain ?_
  have run := ha.run p3 _ _ σ H _ I2 h
  rw [hse] at run
  refine wpAny_mono run (fun us s2 ⟨vs2, H2, I3, rv, e2, hz⟩ => ?_) fun e s' x => hE e s' x
  subst e2
  have hu2 := ClX.pin_at I3
  refine ⟨hu2, ?_⟩
  have I4 : Inv X pins σ H2 s2 := ClX.unpin I3
  exact mw_call SC.oex I4 he hu2 (show us.length ≤ sizeLine by rw [← rv.length]; exact hz) fun s' J => hQ s' J

/-- an __init__ that begins so, and goes on with rest -/
theorem sup_ok {CX : CXT} {P : Program} {w : World} {K : PySem.W.Frag} {mg : Str → Option Value} {base : Heap} {name qual : Str} {params : Arguments} {rest : List Stmt} {scope : Scope} {C f cc cda : Addr} {doc pm ct oc : Value} {an od : Option Addr} {osl : Array (Option Value)} {N ps : List Str} {k : Nat} {sp : Sp} {ar : Arg} {p0 p1 p2 p3 p4 : Pos} {e : Expr} {es : List Expr}
    (SC : SupC P K C f cc cda) (lk : K.lookup f = some ⟨oc, od, .func (PySem.W.fnX name qual params (.Expr (.Call (.Attribute (.Call (.Name "super" p0) [] [] p1) "__init__" p2) (e :: es) [] p3) p4 :: rest) scope [("__class__", cc)] .none .none doc pm an (.ref cda) ct), osl⟩) (hcd : PySem.W.codeIn K (.ref cda) qual = true)
    (S : NScope N ps ["__class__"] scope) (hb : ∀ us : List Value, us.length = ps.length → bindArgs (PySem.W.fnX name qual params (.Expr (.Call (.Attribute (.Call (.Name "super" p0) [] [] p1) "__init__" p2) (e :: es) [] p3) p4 :: rest) scope [("__class__", cc)] .none .none doc pm an (.ref cda) ct) ⟨us, []⟩ = pure (ps.zip us))
    (hpar : (params.posonlyargs ++ params.args).head? = some ar) (hks : scope.names.lookup ("super" : Str) = some .globalImplicit) (hps : ps[0]? = some ar.arg) (hm : mg "super" = none) (hp : plainArgs (e :: es) = true) (hl : (e :: es).length < 29) (hline : (p2.endLine == p3.line) = true)
    (hsp : ∀ vs H Q E, sp vs H Q E → vs.length = ps.length ∧ ∃ a ws, vs = .ref a :: ws ∧ H a = some (exo a C none))
    (hbody : ∀ (A : Around) (outer : List PySem.Env) (s : Shared) (H : Hp) (vs : List V) (Q : VK) (E : XK), Room k (A.deeper (envF ⟨name, qual, params, rest, scope, [("__class__", cc)], cda⟩ f s.heap.objs.size)) → sp vs H Q E →
      ∃ ta t, PA (ncx CX P w K mg base N ⟨name, qual, params, rest, scope, [("__class__", cc)], cda⟩ f A outer s H E) (e :: es) ta ∧ PSs (ncx CX P w K mg base N ⟨name, qual, params, rest, scope, [("__class__", cc)], cda⟩ f A outer s H E) rest t ∧
        (ta (startF N vs [none]) H fun vs H1 => H1 = H ∧ vs.length ≤ sizeLine) ∧ t { nx := fun _ H' => Q .non H', rt := Q } (startF N vs [none]) H) :
    FnOk P w K mg base CX (k + 1) f (PySem.W.fnX name qual params (.Expr (.Call (.Attribute (.Call (.Name "super" p0) [] [] p1) "__init__" p2) (e :: es) [] p3) p4 :: rest) scope [("__class__", cc)] .none .none doc pm an (.ref cda) ct) ps sp := by
  refine ⟨fun vs H Q E h => (hsp vs H Q E h).1, fun A outer s H args us vs Q E hr e0 hbd r h => ?_⟩
  obtain ⟨hlen, a, ws, rfl, ha⟩ := hsp _ _ _ _ h
  have KX : K.In s.heap := e0.mod.kin.keeps fun b o e => (e0.bs b o e).1
  have lim : s.heap.NoLimit := e0.mod.nolimit.keeps fun b o e => (e0.bs b o e).1
  obtain ⟨oc2, od2, osl2, hcc⟩ := SC.cell
  have hccn : H cc = none := (e0.bs cc _ (e0.mod.kin _ _ hcc)).2
  have CA : CellsAt [("__class__", cc)] ["__class__"] [none] s.heap H := by
    refine ⟨rfl, fun y c z => ?_, fun x y c z1 z2 => ?_, fun i y z => ?_⟩
    · obtain ⟨rfl, rfl⟩ : y = "__class__" ∧ c = cc := by
        have := lookup_mem z
        simpa using this
      exact ⟨hccn, _, ⟨_, KX _ _ hcc, rfl⟩⟩
    · have m1 := lookup_mem z1
      have m2 := lookup_mem z2
      have e1 : x = "__class__" := by simp at m1; exact m1.1
      have e2 : y = "__class__" := by simp at m2; exact m2.1
      rw [e1, e2]
    · have e1 : y = "__class__" := by
        cases i with
        | zero => simpa using z.symm
        | succ n => simp at z
      exact ⟨cc, by rw [e1]; rfl, fun v z2 => by
        cases i with
        | zero => cases z2
        | succ n => simp at z2⟩
  refine ks_codeAny_call_defAt hr.depth (KX _ _ lk) rfl lim (PySem.W.codeRec_of KX hcd) rfl hbd S.nocell (fun y hy => S.par _ (List.of_mem_zip hy).1) (fun h₁ hns kp => ?_) S.co S.gen S.kind
  obtain ⟨ta, t, pa, ps_, qa, qt⟩ := hbody A outer s H _ Q E (hr.deeper _) h
  have I : Inv (ncx CX P w K mg base N ⟨name, qual, params, rest, scope, [("__class__", cc)], cda⟩ f A outer s H E) [] (startF N (.ref a :: ws) [none]) H { s with heap := h₁, toks := s.toks + (ps.zip us).length } := inv_startN S hr.hd e0 hlen r CA hns kp
  refine ks_wpAt_execs_cons ?_
  refine sup_first (X := ncx CX P w K mg base N ⟨name, qual, params, rest, scope, [("__class__", cc)], cda⟩ f A outer s H E) (i := 0) (a := a) SC I rfl lk hpar rfl rfl hks (S.frk _ List.mem_cons_self) (S.par _ (List.mem_of_getElem? hps)) ?hN rfl hm ha pa hp hl hline ?hI qa ?hQ ?hE
  case hI =>
    show interactive (envF ⟨name, qual, params, rest, scope, [("__class__", cc)], cda⟩ f s.heap.objs.size) = false
    unfold interactive
    show ((scope.kind == .module) && _) = false
    rw [S.kind]; rfl
  case hN =>
    have q := S.pre
    show N[0]? = some ar.arg
    have z : (N.take (ps.length + [("__class__" : Str)].length))[0]? = (ps ++ [("__class__" : Str)])[0]? := by rw [q]
    rw [List.getElem?_take_of_lt (by simp)] at z
    rw [z]
    cases ps with
    | nil => cases hps
    | cons x r => simpa using hps
  case hE => exact fun e s' x => x
  case hQ =>
    intro s' J
    refine PySem.wpAt_of_wpAny ?_
    refine wpAny_mono (ps_.run [] s' _ H _ J qt) (fun fl s2 hs => ?_) fun e s' hs => hs
    cases fl with
    | ret u =>
      obtain ⟨v, σ', H', J, rv, q⟩ := hs
      exact ⟨v, H', J.os, J.bare, J.base, J.hok, rv, q⟩
    | next =>
      obtain ⟨σ', H', J, q⟩ := hs
      exact ⟨V.non, H', J.os, J.bare, J.base, J.hok, rfl, q⟩
    | brk =>
      obtain ⟨_, _, _, q⟩ := hs
      exact q.elim
    | cont =>
      obtain ⟨_, _, _, q⟩ := hs
      exact q.elim

/-! ### the field's value -/
/-- the value that an exception's __init__ gives its field -/
def xFn (T : Tab) (N : List Str) (pars : Nat) (sc : Scope) (e : Expr) : Fn := ⟨N.length, pars, fun R ρ L => ((cmp T deep).E ⟨N, true, false, sc⟩ e R (ρ.set 0 none) L).st ρ fun d L1 => .ok (.rt d, ρ) L1⟩
theorem xFn_env {G : Sta} {ms : List Addr} {H : Hp} {N ps : List Str} {ds : List D} {ws : List V} {a : Addr} (hl : (V.ref a :: ws).length = ps.length) (hpl : ps.length + 1 ≤ N.length) (r : Reps G ms H ds ws) :
    EnvOk G ms H (((D.non :: ds).map some ++ List.replicate (N.length - ps.length) none).set 0 none) (startF N (.ref a :: ws) [none]) := by
  have e1 := r.length
  have e2 : ws.length + 1 = ps.length := hl
  refine ⟨?_, fun i d h => ?_⟩
  · unfold startF
    simp only [List.length_set, List.length_append, List.length_map, List.length_cons, List.length_replicate, List.length_nil]
    omega
  · cases i with
    | zero => rw [List.getElem?_set_self (by simp)] at h; cases h
    | succ j =>
      rw [List.getElem?_set_ne (by omega)] at h
      rw [List.map_cons, List.cons_append, List.getElem?_cons_succ] at h
      by_cases hj : j < ds.length
      · rw [List.getElem?_append_left (by rw [List.length_map]; exact hj), List.getElem?_map] at h
        cases z : ds[j]? with
        | none => rw [z] at h; cases h
        | some d' =>
          rw [z] at h; cases h
          obtain ⟨v, ev, rv⟩ := r.get z
          refine ⟨v, ?_, rv⟩
          unfold startF
          rw [List.getElem?_append_left (by rw [List.length_map, List.length_cons]; omega), List.map_cons, List.getElem?_cons_succ, List.getElem?_map, ev]
          rfl
      · rw [List.getElem?_append_right (by rw [List.length_map]; omega), List.getElem?_replicate] at h
        split at h <;> cases h
theorem xc_fn {G : Sta} {T : Tab} {R : Rec} {j k : Nat} {name qual : Str} {params : Arguments} {scope : Scope} {c : Nat} {f cc cda : Addr} {doc pm ct oc : Value} {an od : Option Addr} {osl : Array (Option Value)} {N ps : List Str} {ar : Arg} {p0 p1 p2 p3 p4 p5 p6 p7 q : Pos} {jj : Nat} {txt fld self : Str} {e : Expr}
    (TO : TabOk G R j T) (SC : SupC G.P G.K (G.CA c) f cc cda) (lk : G.K.lookup f = some ⟨oc, od, .func (PySem.W.fnX name qual params (.Expr (.Call (.Attribute (.Call (.Name "super" p0) [] [] p1) "__init__" p2) [.Constant (.str txt) jj q] [] p3) p4 :: [.Assign [.Attribute (.Name self p5) fld p6] e p7]) scope [("__class__", cc)] .none .none doc pm an (.ref cda) ct), osl⟩)
    (hcd : PySem.W.codeIn G.K (.ref cda) qual = true) (S : NScope N ps ["__class__"] scope) (hb : ∀ us : List Value, us.length = ps.length → bindArgs (PySem.W.fnX name qual params (.Expr (.Call (.Attribute (.Call (.Name "super" p0) [] [] p1) "__init__" p2) [.Constant (.str txt) jj q] [] p3) p4 :: [.Assign [.Attribute (.Name self p5) fld p6] e p7]) scope [("__class__", cc)] .none .none doc pm an (.ref cda) ct) ⟨us, []⟩ = pure (ps.zip us))
    (hpar : (params.posonlyargs ++ params.args).head? = some ar) (hks : scope.names.lookup ("super" : Str) = some .globalImplicit) (hps : ps[0]? = some ar.arg) (hself : self = ar.arg) (hm : G.mg "super" = none) (hline : (p2.endLine == p3.line) = true) (hno : PySem.W.findIn G.K (.ref (G.CA c)) fld = some none) (hnm : okNm self = true) :
    FnOk G.P G.w G.K G.mg G.base (L2.CX G.P G.w) (k + 1) f (PySem.W.fnX name qual params (.Expr (.Call (.Attribute (.Call (.Name "super" p0) [] [] p1) "__init__" p2) [.Constant (.str txt) jj q] [] p3) p4 :: [.Assign [.Attribute (.Name self p5) fld p6] e p7]) scope [("__class__", cc)] .none .none doc pm an (.ref cda) ct) ps (spX G ps.length c fld ((xFn T N ps.length scope e).run R)) := by
  obtain ⟨n1, n2, n3⟩ := okNm_ok hnm
  have hpre := S.pre
  have hN0 : N[0]? = some ar.arg := by
    have z : (N.take (ps.length + [("__class__" : Str)].length))[0]? = (ps ++ [("__class__" : Str)])[0]? := by rw [hpre]
    rw [List.getElem?_take_of_lt (by simp)] at z
    rw [z]
    cases ps with
    | nil => cases hps
    | cons x r => simpa using hps
  have hpl : ps.length + 1 ≤ N.length := by
    have q := congrArg List.length hpre
    rw [List.length_take, List.length_append] at q
    simp at q
    omega
  refine sup_ok SC lk hcd S hb hpar hks hps hm rfl (show 1 < 29 by decide) hline (fun vs H Q E h => ⟨h.1, by obtain ⟨_, a, ws, h1, h2, _⟩ := h; exact ⟨a, ws, h1, h2⟩⟩) fun A outer s H vs Q E hr h => ?_
  obtain ⟨hlen, a, ws, rfl, ha, ms, L, ds, v, L', Se, nam, rs, hv, fin⟩ := h
  have F : Fit (ncx (L2.CX G.P G.w) G.P G.w G.K G.mg G.base N ⟨name, qual, params, [.Assign [.Attribute (.Name self p5) fld p6] e p7], scope, [("__class__", cc)], cda⟩ f A outer s H E) G W0 (j + 1) ⟨N, true, false, scope⟩ :=
    { eP := rfl, ew := rfl, eK := rfl, emg := rfl, ebase := rfl, room := fun z => (nomatch z), un := Nat.lt_of_le_of_lt (Nat.add_le_add_right (Nat.le_add_right _ (16 * k)) 200) hr.un, grd := fun z => (nomatch z), calm := fun z => (nomatch z), nd := S.nd, eN := rfl, esc := rfl, fnc := fun z => (nomatch z), tk := L2.takes0 }
  have he := (cmp_ok TO deep).oE _ W0 _ F e
  have hloc : scope.names.lookup ar.arg = some .local := S.par _ (List.mem_of_getElem? hps)
  have hself2 : PE (ncx (L2.CX G.P G.w) G.P G.w G.K G.mg G.base N ⟨name, qual, params, [.Assign [.Attribute (.Name self p5) fld p6] e p7], scope, [("__class__", cc)], cda⟩ f A outer s H E) (.Name self p5) (tVar 0) := pe_var (by rw [hself]; exact hN0) (by rw [hself]; exact .inl hloc) n1 n2
  refine ⟨_, _, pa_cons pe_str pa_nil (starEach_plain fun _ _ z => nomatch z), pss_one (ps_ost hself2 he swap_att), ?_, ?_⟩
  · exact ⟨rfl, by show 1 ≤ sizeLine; decide⟩
  · have hv2 : (if (D.non :: ds).length = ps.length then (noExc ((xFn T N ps.length scope e).body R ((D.non :: ds).map some ++ List.replicate (N.length - ps.length) none) L)).bind fun p L1 => (match p.1 with
      | .rt d => Res.ok d L1
      | .nx => .ok .non L1
      | .ex c fs => .exc c fs L1
      | _ => .bad) else .bad) = .ok v L' := hv
    have hl2 : (D.non :: ds).length = ps.length := by
      rw [List.length_cons, rs.length]; exact hlen
    rw [if_pos hl2] at hv2
    obtain ⟨pr, M, hb1, hb2⟩ := bind_ok hv2
    have hb3 := noExc_ok hb1
    have hb4 : (((cmp T deep).E ⟨N, true, false, scope⟩ e R (((D.non :: ds).map some ++ List.replicate (N.length - ps.length) none).set 0 none) L).st ((D.non :: ds).map some ++ List.replicate (N.length - ps.length) none) fun d L1 => .ok (.rt d, (D.non :: ds).map some ++ List.replicate (N.length - ps.length) none) L1) = .ok pr M := hb3
    cases hz : (cmp T deep).E ⟨N, true, false, scope⟩ e R (((D.non :: ds).map some ++ List.replicate (N.length - ps.length) none).set 0 none) L with
    | bad => rw [hz] at hb4; cases hb4
    | exc c2 f2 L2' =>
      rw [hz] at hb4
      cases hb4
      cases hb2
    | ok d L1 =>
      rw [hz] at hb4
      cases hb4
      cases hb2
      refine ⟨ms, L, _, Se, xFn_env hlen hpl rs, ?_⟩
      rw [hz]
      intro ms' H' vV x s2 r2
      have hHa : H' a = some (exo a (G.CA c) none) := x.keep a _ ha nam
      exact ⟨_, rfl, a, G.CA c, rfl, SC.oex, hno, .inl ⟨hHa, fun dx hdx nda => fin ms' H' vV x s2 r2 dx hdx nda⟩⟩
end PD
/-! P13: from the head's facts to the program's table; the law. -/
namespace PD
open PySem PySem.Spec PyProof.Rows L2

/-! ### parameters -/
def plainPar (p : Arguments) (ps : List Str) : Bool := p.posonlyargs.isEmpty && p.kwonlyargs.isEmpty && p.defaults.isEmpty && p.vararg.isNone && p.kwarg.isNone && decide (p.args.map (·.arg) = ps) && decide ps.Nodup
theorem fm_congr {α β : Type} {f g : α → Option β} : ∀ {l : List α}, (∀ x ∈ l, f x = g x) → l.filterMap f = l.filterMap g
  | [], _ => rfl
  | x :: l, h => by
    rw [List.filterMap_cons, List.filterMap_cons, h x List.mem_cons_self, fm_congr fun y hy => h y (List.mem_cons_of_mem _ hy)]
theorem zip_lookup : ∀ {ps : List Str} {us : List Value}, ps.Nodup → us.length = ps.length → ps.filterMap (fun n => ((ps.zip us).lookup n).map (n, ·)) = ps.zip us
  | [], [], _, _ => rfl
  | [], _ :: _, _, h => by cases h
  | p :: ps, [], _, h => by cases h
  | p :: ps, u :: us, nd, h => by
    rw [List.nodup_cons] at nd
    have ih := zip_lookup (us := us) nd.2 (by simpa using h)
    rw [List.zip_cons_cons, List.filterMap_cons, List.lookup_cons_self]
    dsimp only [Option.map_some]
    congr 1
    refine Eq.trans (fm_congr fun n hn => ?_) ih
    rw [List.lookup_cons]
    have : (n == p) = false := by
      cases e : n == p with
      | false => rfl
      | true => rw [eq_of_beq e] at hn; exact absurd hn nd.1
    rw [this]
theorem lookup_some : ∀ {ps : List Str} {us : List Value} {n : Str}, n ∈ ps → us.length = ps.length → ((ps.zip us).lookup n).isNone = false
  | [], _, _, hn, _ => absurd hn (by simp)
  | p :: ps, [], _, _, h => by cases h
  | p :: ps, u :: us, n, hn, h => by
    rw [List.zip_cons_cons, List.lookup_cons]
    cases e : n == p with
    | true => rfl
    | false =>
      rcases List.mem_cons.mp hn with q | q
      · rw [q] at e; simp at e
      · exact lookup_some q (by simpa using h)
theorem bind_plain {x qual : Str} {params : Arguments} {body : List Stmt} {scope : Scope} {ps : List Str} (hp : plainPar params ps = true) (kV doc pm : Value) (an : Option Addr) (cdv ct : Value) (us : List Value) (hl : us.length = ps.length) :
    bindArgs (PySem.W.fnOf x qual params body scope .none kV doc pm an cdv ct) ⟨us, []⟩ = pure (ps.zip us) := by
  obtain ⟨po, ar, va, kw, kd, ka, df⟩ := params
  unfold plainPar at hp
  simp only [Bool.and_eq_true, decide_eq_true_eq, List.isEmpty_iff, Option.isNone_iff_eq_none] at hp
  obtain ⟨⟨⟨⟨⟨⟨h1, h2⟩, h3⟩, h4⟩, h5⟩, h6⟩, h7⟩ := hp
  subst h1 h2 h3 h4 h5
  have hm : (ps.filter fun n => ((ps.zip us).lookup n).isNone) = [] := by
    rw [List.filter_eq_nil_iff]
    intro n hn
    rw [lookup_some hn hl]
    decide
  have hz := zip_lookup h7 hl
  unfold bindArgs
  simp [PySem.W.fnOf, h6, seqItems?, hl, hm, hz]
  rfl

theorem bind_plainX {x qual : Str} {params : Arguments} {body : List Stmt} {scope : Scope} {ps : List Str} (hp : plainPar params ps = true) (cl : List (Str × Addr)) (doc pm : Value) (an : Option Addr) (cdv ct : Value) (us : List Value) (hl : us.length = ps.length) :
    bindArgs (PySem.W.fnX x qual params body scope cl .none .none doc pm an cdv ct) ⟨us, []⟩ = pure (ps.zip us) := by
  obtain ⟨po, ar, va, kw, kd, ka, df⟩ := params
  unfold plainPar at hp
  simp only [Bool.and_eq_true, decide_eq_true_eq, List.isEmpty_iff, Option.isNone_iff_eq_none] at hp
  obtain ⟨⟨⟨⟨⟨⟨h1, h2⟩, h3⟩, h4⟩, h5⟩, h6⟩, h7⟩ := hp
  subst h1 h2 h3 h4 h5
  have hm : (ps.filter fun n => ((ps.zip us).lookup n).isNone) = [] := by
    rw [List.filter_eq_nil_iff]
    intro n hn
    rw [lookup_some hn hl]
    decide
  have hz := zip_lookup h7 hl
  unfold bindArgs
  simp [PySem.W.fnX, h6, seqItems?, hl, hm, hz]
  rfl

/-! ### the data of a program -/
/-- an exception class: its name, its own __init__ (name, qualified name, text), slots, parameters, the field that it sets -/
structure XF where
  cls : Str
  qual : Str
  params : Arguments
  body : List Stmt
  scope : Scope
  N : List Str
  ps : List Str
  fld : Str
/-- the field's value, if the text is as it should be -/
def XF.val (x : XF) : Option Expr := match x.body with
  | [.Expr (.Call (.Attribute (.Call (.Name s0 _) [] [] _) ini p2) [.Constant (.str _) _ _] [] p3) _, .Assign [.Attribute (.Name self _) fld _] e _] =>
    if decide (s0 = "super") && decide (ini = "__init__") && (p2.endLine == p3.line) && decide (fld = x.fld) && decide (x.ps[0]? = some self) && okNm self then some e else none
  | _ => none
def XF.ok (x : XF) : Bool := x.val.isSome && NdefX.nscB x.N x.ps [("__class__" : Str)] x.scope && plainPar x.params x.ps && decide (x.scope.names.lookup ("super" : Str) = some .globalImplicit) && x.params.posonlyargs.isEmpty
def XF.fn (T : Tab) (x : XF) : Option Fn := x.val.map fun e => xFn T x.N x.ps.length x.scope e
/-- what the heap must hold of it -/
def cellOf (K : PySem.W.Frag) (x : XF) : Addr := match K.lookup (He.ma K (He.ga K x.cls) "__init__") with
  | some ⟨_, _, .func fd, _⟩ => (fd.closure.lookup ("__class__" : Str)).getD 0
  | _ => 0
def codeOf (K : PySem.W.Frag) (x : XF) : Addr := match K.lookup (He.ma K (He.ga K x.cls) "__init__") with
  | some ⟨_, _, .func fd, _⟩ => (match fd.code with
    | .ref a => a
    | _ => 0)
  | _ => 0
abbrev XfV : Type := Option (Str × Str × Arguments × FuncBody × Scope)
def xfV (K : PySem.W.Frag) (x : XF) : XfV := match K.lookup (He.ma K (He.ga K x.cls) "__init__") with
  | some ⟨_, _, .func fd, _⟩ => some (fd.name, fd.qualname, fd.params, fd.body, fd.scope)
  | _ => none
def XF.want (x : XF) : XfV := some ("__init__", x.qual, x.params, .stmts x.body, x.scope)
def isNone : Value → Bool
  | .none => true
  | _ => false
theorem isNone_ok {v : Value} (h : isNone v = true) : v = .none := by
  cases v <;> first
    | rfl
    | cases h
def refIs (v : Value) (a : Addr) : Bool := match v with
  | .ref b => decide (b = a)
  | _ => false
theorem refIs_ok {v : Value} {a : Addr} (h : refIs v a = true) : v = .ref a := by
  cases v with
  | ref b => rw [of_decide_eq_true (show decide (b = a) = true from h)]
  | _ => cases h
def oexB (K : PySem.W.Frag) (C : Addr) : Bool := (match K.lookup C with
  | some ⟨.type "type", dd, .cls cd, sl⟩ => (match cd.mro, sl.toList with
    | .ref C' :: bm, [_, _, _, _, some (.builtin n), _] => (C' == C) && (n == "ValueError.__new__") && !cd.hasDel && cd.hasDict && PySem.HandSPX.refsVE bm
    | _, _ => false)
  | _ => false) && He.eqO (PySem.W.findIn K (.ref C) "__setattr__") (some (some (.builtin "object.__setattr__"))) && decide (PySem.W.subIn K (.ref C) (.type "BaseException") = some true) && decide (PySem.W.typeIn K (.ref C) = some (.type "type")) && PySem.W.keepIn K (.ref C)
def supB (P : Program) (K : PySem.W.Frag) (C f cc cda : Addr) : Bool := oexB K C
  && (match K.lookup cc with
    | some ⟨_, _, .cell (some v), _⟩ => refIs v C
    | _ => false)
  && (match K.lookup cda with
    | some ⟨_, _, .fields vs, _⟩ => (match vs[2]? with
      | some (Value.str file _) => (P.main.file : Str) == file
      | _ => false)
    | _ => false)
  && (PySem.W.clsIn K C).isSome && decide (PySem.W.mroIn K C (.ref C) = some true) && !(P.main.scope.names.lookup ("super" : Str)).isSome && He.eqO (PySem.W.nsIn K cStatics "thirdparty.any") (some none)
  && He.eqO (PySem.W.ks_superIn K C C "__init__") (some (some (.builtin "ValueError.__init__"))) && decide (PySem.W.subIn K (.ref C) (.type "ValueError") = some true)
def XF.heapB (P : Program) (K : PySem.W.Frag) (x : XF) : Bool := let C := He.ga K x.cls
  let f := He.ma K C "__init__"
  supB P K C f (cellOf K x) (codeOf K x) && (match K.lookup f with
    | some ⟨_, _, .func fd, _⟩ => decide (fd.closure = [(("__class__" : Str), cellOf K x)]) && isNone fd.defaults && isNone fd.kwdefaults && refIs fd.code (codeOf K x) && decide (fd.globals = mainGlobals) && decide (fd.builtins = builtinsNs) && PySem.W.codeIn K fd.code x.qual
    | _ => false)
  && He.eqO (PySem.W.findIn K (.ref C) "__init__") (some (some (.ref f))) && decide (PySem.W.typeIn K (.ref f) = some (.type "function")) && He.eqO (PySem.W.findIn K (.ref C) x.fld) (some none)
theorem oexB_ok {K : PySem.W.Frag} {C : Addr} (h : oexB K C = true) : OexC K C := by
  unfold oexB at h
  simp only [Bool.and_eq_true, decide_eq_true_eq] at h
  obtain ⟨⟨⟨⟨h1, h2⟩, h3⟩, h4⟩, h5⟩ := h
  refine ⟨?_, He.eqO_ok h2, h3, h4, h5⟩
  split at h1
  · rename_i dd cd sl e
    obtain ⟨nm, bs, mro, ns, qn, hd, sn, sb, ab, col, del⟩ := cd
    split at h1
    · rename_i C' bm k0 k1 k2 k3 n k5 e1 e2
      simp only [Bool.and_eq_true, Bool.not_eq_true'] at h1
      obtain ⟨⟨⟨⟨a1, a2⟩, a3⟩, a4⟩, a5⟩ := h1
      have b1 : C' = C := eq_of_beq a1
      have b2 : n = "ValueError.__new__" := eq_of_beq a2
      dsimp only at e1 a3 a4
      have b3 : sl = #[k0, k1, k2, k3, some (.builtin n), k5] := by
        apply Array.toList_inj.mp
        rw [e2]
      subst b1 b2 b3 e1 a3 a4
      exact ⟨nm, qn, ns, bs, bm, sn, sb, ab, col, dd, k0, k1, k2, k3, k5, e, a5⟩
    · cases h1
  · cases h1
theorem supB_ok {P : Program} {K : PySem.W.Frag} {C f cc cda : Addr} (h : supB P K C f cc cda = true) : SupC P K C f cc cda := by
  unfold supB at h
  simp only [Bool.and_eq_true, decide_eq_true_eq] at h
  obtain ⟨⟨⟨⟨⟨⟨⟨⟨h1, h2⟩, h3⟩, h4⟩, h5⟩, h6⟩, h7⟩, h8⟩, h9⟩ := h
  refine ⟨oexB_ok h1, ?_, ?_, Option.isSome_iff_exists.mp h4, h5, by simpa using h6, He.eqO_ok h7, He.eqO_ok h8, h9⟩
  · split at h2
    · rename_i oc od v osl e
      rw [refIs_ok h2] at e
      exact ⟨_, _, _, e⟩
    · cases h2
  · split at h3
    · rename_i oc od vs osl e
      split at h3
      · rename_i file t e2
        exact ⟨_, _, _, _, _, _, e, e2, h3⟩
      · cases h3
    · cases h3

/-- a def: where it stands and its text; its slots, its parameters -/
structure DF where
  d : He.DefD
  N : List Str
  ps : List Str
structure Pg where
  T : Tab
  cls : List Str
  dfs : List DF
  xs : List XF
/-- the class of that number -/
def Pg.cn (p : Pg) (c : Nat) : Str := p.cls.getD c ""
def Pg.F (p : Pg) (i : Nat) : Option Fn := match p.dfs[i]? with
  | some f => some (cFn p.T f.N f.ps.length f.d.scope f.d.body)
  | none => (p.xs[i - p.dfs.length]?).bind (XF.fn p.T)
def scopeB (N P : List Str) (sc : Scope) : Bool := (sc.kind == .function) && !sc.isCoroutine && !sc.isGenerator && decide N.Nodup && decide (N.take P.length = P) && (P.all fun x => isLoc sc x || isCell sc x) && sc.names.all fun y => !decide (y.2 = .free)
theorem scopeB_ok {N P : List Str} {sc : Scope} (h : scopeB N P sc = true) : FnScope N P sc := by
  unfold scopeB at h
  simp only [Bool.and_eq_true, decide_eq_true_eq] at h
  obtain ⟨⟨⟨⟨⟨⟨h1, h2⟩, h3⟩, h4⟩, h5⟩, h6⟩, h7⟩ := h
  refine ⟨eq_of_beq h1, by simpa using h2, by simpa using h3, h4, h5, fun x hx => ?_, fun y hy => ?_⟩
  · have := List.all_eq_true.mp h6 x hx
    rw [Bool.or_eq_true] at this
    rcases this with q | q
    · exact .inl (isLoc_ok q)
    · exact .inr (isCell_ok q)
  · have := List.all_eq_true.mp h7 y hy
    simpa using this
def DF.ok (f : DF) : Bool := scopeB f.N f.ps f.d.scope && plainPar f.d.params f.ps && f.d.dfl.isEmpty && f.d.kwd.isEmpty
/-- where the def of that number stands -/
def Pg.at_ (p : Pg) (i : Nat) (w : Str × Option Str) : Bool := match p.dfs[i]? with
  | some f => decide (f.d.at_ = w)
  | none => false
/-- what is read off the text alone -/
def Pg.texts (p : Pg) : Bool := p.dfs.all DF.ok
  && (p.T.fns.all fun q => p.at_ q.2 (q.1, none))
  && (p.T.cls.all fun q => p.at_ q.2.2 (q.1, some "__init__") && decide (p.cn q.2.1 = q.1))
  && (p.T.mets.all fun q => q.2.all fun r => p.at_ r.2 (p.cn r.1, some q.1))
  && p.xs.all XF.ok
  && (p.T.excs.all fun q => decide (p.cn q.2.1 = q.1) && decide (p.dfs.length ≤ q.2.2.2) && match p.xs[q.2.2.2 - p.dfs.length]? with
    | some x => decide (x.cls = q.1) && decide (x.fld = q.2.2.1)
    | none => false)
  && (p.T.hnds.all fun q => decide (p.cn q.2.1 = q.1))
/-- what is read off the heap behind the top -/
def Pg.heapOk (p : Pg) (P : Program) (K : PySem.W.Frag) : Bool := (p.T.fns.all fun q => (He.Fa.glo q.1).ok K)
  && (p.T.cls.all fun q => (He.Fa.glo q.1).ok K && (He.Fa.mkr q.1).ok K)
  && (p.T.mets.all fun q => q.2.all fun r => (He.Fa.cls (p.cn r.1)).ok K && (He.Fa.meth (p.cn r.1) q.1).ok K)
  && (p.T.flds.all fun q => q.2.all fun c => (He.Fa.cls (p.cn c)).ok K && (He.Fa.noat (p.cn c) q.1).ok K)
  && (p.T.con.all fun q => match q.2 with
    | .int i => (He.Fa.int q.1 i).ok K
    | _ => false)
  && (p.T.blt.all fun x => (He.Fa.free x).ok K)
  && (p.xs.isEmpty || (He.Fa.free "super").ok K)
  && (p.xs.all fun x => x.heapB P K)
  && (p.T.excs.all fun q => (He.Fa.glo q.1).ok K)
  && (p.T.hnds.all fun q => (He.Fa.glo q.1).ok K && p.T.xall.all fun c => decide (PySem.W.exmOne K (.ref (He.ga K (p.cn c))) (.ref (He.ga K (p.cn q.2.1))) = some (q.2.2.contains c)))
  && p.T.xfl.all fun q => q.2.all fun c => xfB K (He.ga K (p.cn c)) && He.eqO (PySem.W.findIn K (.ref (He.ga K (p.cn c))) q.1) (some none)
/-- the objects that the top's names reach, in n steps -/
def asX (g : Addr → Option Obj) : Nat → List Addr
  | 0 => [mainGlobals, cStatics]
  | n + 1 => He.growD g (asX g n)
/-- the Hook -/
abbrev AlX : Type := Bool × List He.FnW × List XfV
def Pg.fns (p : Pg) : List He.DefD := p.dfs.map (·.d)
def obsX (p : Pg) (P : Program) (K : PySem.W.Frag) : AlX := (p.heapOk P K && p.fns.all fun d => d.ok K, p.fns.map fun d => He.fnW K d.at_, p.xs.map fun x => xfV K x)
def valX (p : Pg) : AlX := (true, p.fns.map He.DefD.val, p.xs.map XF.want)
def SaysX (p : Pg) (P : Program) (K : PySem.W.Frag) : Prop := obsX p P K = valX p
def obsXG (n : Nat) (p : Pg) (P : Program) (g : Addr → Option Obj) : AlX := obsX p P (He.frG g (asX g n))
def hookX (n : Nat) (p : Pg) (P : Program) : PySem.W.Hook where
  α := AlX
  obs := fun s => obsXG n p P s.heap.get?
  val := fun _ => valX p
  says := fun _ h => ∃ K : PySem.W.Frag, K.In h ∧ SaysX p P K
  of := fun _ _ e => ⟨_, He.frG_in, e⟩
  keeps := fun _ _ _ ⟨K, hK, c⟩ k => ⟨K, PySem.W.Frag.In.keeps hK k, c⟩
theorem obsXG_eq {n : Nat} {p : Pg} {P : Program} {g : Addr → Option Obj} {s : Shared} (h : ∀ a, g a = s.heap.get? a) : obsXG n p P g = (hookX n p P).obs s := by
  have e : g = s.heap.get? := funext h
  rw [e] <;> rfl
theorem SaysX.fact {p : Pg} {P : Program} {K : PySem.W.Frag} (c : SaysX p P K) : p.heapOk P K = true :=
  (He.ba (show (p.heapOk P K && p.fns.all fun d => d.ok K) = true from congrArg (fun z : AlX => z.1) c)).1
theorem SaysX.def_ {p : Pg} {P : Program} {K : PySem.W.Frag} (c : SaysX p P K) (i : Nat) {d : He.DefD} (h : p.fns[i]? = some d) : ∃ fd, FunD K d.name d.qual d.params d.body d.scope (d.dvs K) (d.kws K) (He.fAd K d.at_) fd := by
  have c2 := (He.ba (show (p.heapOk P K && p.fns.all fun d => d.ok K) = true from congrArg (fun z : AlX => z.1) c)).2
  have e : p.fns.map (fun d => He.fnW K d.at_) = p.fns.map He.DefD.val := congrArg (fun z : AlX => z.2.1) c
  have e2 : (p.fns.map fun d => He.fnW K d.at_)[i]? = (p.fns.map He.DefD.val)[i]? := by rw [e]
  rw [List.getElem?_map, List.getElem?_map, h] at e2
  exact He.DefD.funD (Option.some.inj e2) (List.all_eq_true.mp c2 d (List.mem_of_getElem? h))
theorem SaysX.xf {p : Pg} {P : Program} {K : PySem.W.Frag} (c : SaysX p P K) (i : Nat) {x : XF} (h : p.xs[i]? = some x) : xfV K x = x.want := by
  have e : p.xs.map (fun x => xfV K x) = p.xs.map XF.want := congrArg (fun z : AlX => z.2.2) c
  have e2 : (p.xs.map fun x => xfV K x)[i]? = (p.xs.map XF.want)[i]? := by rw [e]
  rw [List.getElem?_map, List.getElem?_map, h] at e2
  exact Option.some.inj e2

/-! ### the table is right -/
def Pg.sta (p : Pg) (P : Program) (w : World) (K : PySem.W.Frag) (mg : Str → Option Value) (base : Heap) : Sta := ⟨P, w, K, mg, base, fun c => He.ga K (p.cn c), fun _ => 0⟩
section
variable {p : Pg} {P : Program} {w : World} {K : PySem.W.Frag} {mg : Str → Option Value} {base h : Heap}
theorem Pg.at_ok {i : Nat} {q : Str × Option Str} (h : p.at_ i q = true) : ∃ f, p.dfs[i]? = some f ∧ f.d.at_ = q := by
  unfold Pg.at_ at h
  cases e : p.dfs[i]? with
  | none => rw [e] at h; cases h
  | some f =>
    rw [e] at h
    exact ⟨f, rfl, of_decide_eq_true h⟩
/-- a def as a callee, at any depth -/
theorem Pg.calleeAt (ht : p.texts = true) (n : Nat) (ih : ∀ m, m + 1 = n → TabOk (p.sta P w K mg base) (runN p.F m) (2 * m) p.T) {i : Nat} {f : DF} {fd : FuncData} (hi : p.dfs[i]? = some f) (FD : FunD K f.d.name f.d.qual f.d.params f.d.body f.d.scope (f.d.dvs K) (f.d.kws K) (He.fAd K f.d.at_) fd) :
    FnG P w K mg base (2 * n) (He.fAd K f.d.at_) fd f.ps (spOf (p.sta P w K mg base) f.ps.length (runN p.F n i)) ∧ fits f.ps.length (runN p.F n i) := by
  unfold Pg.texts at ht
  simp only [Bool.and_eq_true] at ht
  have hf := List.all_eq_true.mp ht.1.1.1.1.1.1 f (List.mem_of_getElem? hi)
  unfold DF.ok at hf
  simp only [Bool.and_eq_true] at hf
  obtain ⟨⟨⟨f1, f2⟩, f3⟩, f4⟩ := hf
  have S := scopeB_ok f1
  cases n with
  | zero =>
    refine ⟨⟨fun vs H Q E h => h.1, fun A outer s H args us vs Q E _ _ _ _ _ h => ?_⟩, fun _ _ _ => rfl⟩
    obtain ⟨_, _, _, _, _, _, q⟩ := h
    exact q.elim
  | succ m =>
    have TO := ih m rfl
    have FO := cFn_ok (G := p.sta P w K mg base) FD S TO
    have e3 : runN p.F (m + 1) i = (cFn p.T f.N f.ps.length f.d.scope f.d.body).run (runN p.F m) := by
      funext as L
      show (match p.F i with
        | some f => f.run (runN p.F m) as L
        | none => .bad) = _
      unfold Pg.F
      rw [hi]
    rw [e3]
    refine ⟨FO, fun ds L hne => ?_⟩
    unfold Fn.run
    exact if_neg hne
theorem Pg.binds (ht : p.texts = true) {i : Nat} {f : DF} {fd : FuncData} (hi : p.dfs[i]? = some f) (FD : FunD K f.d.name f.d.qual f.d.params f.d.body f.d.scope (f.d.dvs K) (f.d.kws K) (He.fAd K f.d.at_) fd) :
    Binds K fd f.ps [] ∧ ∀ (s : Shared) (us : List Value), us.length = f.ps.length → BindsTo s fd ⟨us, []⟩ (f.ps.zip us) := by
  unfold Pg.texts at ht
  simp only [Bool.and_eq_true] at ht
  have hf := List.all_eq_true.mp ht.1.1.1.1.1.1 f (List.mem_of_getElem? hi)
  unfold DF.ok at hf
  simp only [Bool.and_eq_true] at hf
  obtain ⟨⟨⟨f1, f2⟩, f3⟩, f4⟩ := hf
  have e1 : f.d.dvs K = [] := by unfold He.DefD.dvs; rw [List.isEmpty_iff.mp f3]; rfl
  rw [e1] at FD
  exact ⟨FD.bindsN fun kV doc pm an cdv ct us hl => bind_plain f2 kV doc pm an cdv ct us hl, FD.bindsA fun kV doc pm an cdv ct us hl => bind_plain f2 kV doc pm an cdv ct us hl⟩
theorem Pg.callee (ht : p.texts = true) (c : SaysX p P K) (n : Nat) (ih : ∀ m, m + 1 = n → TabOk (p.sta P w K mg base) (runN p.F m) (2 * m) p.T) {i : Nat} {f : DF} (hi : p.dfs[i]? = some f) :
    CalleeP P w K mg base (p.sta P w K mg base) (2 * n) (He.fAd K f.d.at_) f.ps (runN p.F n i) ∧ fits f.ps.length (runN p.F n i) := by
  have hd : p.fns[i]? = some f.d := by unfold Pg.fns; rw [List.getElem?_map, hi]; rfl
  obtain ⟨fd, FD⟩ := c.def_ i hd
  obtain ⟨h1, h2⟩ := Pg.calleeAt ht n ih hi FD
  exact ⟨⟨⟨fd, h1, (Pg.binds ht hi FD).1⟩, FD.kp⟩, h2⟩
/-- an exception class, at any depth -/
theorem Pg.exc (ht : p.texts = true) (c : SaysX p P K) (X : K.In h) (G : h.Ns mainGlobals mg) (n : Nat) (ih : ∀ m, m + 1 = n → TabOk (p.sta P w K mg base) (runN p.F m) (2 * m) p.T) {i : Nat} {x : XF} (hi : p.dfs.length ≤ i) (hx : p.xs[i - p.dfs.length]? = some x) (cc : Nat) (hcc : (p.sta P w K mg base).CA cc = He.ga K x.cls) :
    XcOk (p.sta P w K mg base) (2 * n) cc x.fld x.ps (runN p.F n i) := by
  have ok := c.fact
  have hv := c.xf _ hx
  unfold Pg.texts at ht
  simp only [Bool.and_eq_true] at ht
  have hxo := List.all_eq_true.mp ht.1.1.2 x (List.mem_of_getElem? hx)
  unfold Pg.heapOk at ok
  simp only [Bool.and_eq_true] at ok
  have hh := List.all_eq_true.mp ok.1.1.1.2 x (List.mem_of_getElem? hx)
  have hsup : mg "super" = none := by
    have z := ok.1.1.1.1.2
    rw [Bool.or_eq_true] at z
    rcases z with z | z
    · rw [List.isEmpty_iff.mp z] at hx; cases hx
    · exact He.free_ok X G z
  unfold XF.heapB at hh
  simp only [Bool.and_eq_true, decide_eq_true_eq] at hh
  obtain ⟨⟨⟨⟨g1, g2⟩, g3⟩, g4⟩, g5⟩ := hh
  have SC := supB_ok g1
  unfold XF.ok at hxo
  simp only [Bool.and_eq_true, decide_eq_true_eq] at hxo
  obtain ⟨⟨⟨⟨x1, x2⟩, x3⟩, x4⟩, x5⟩ := hxo
  have S := NdefX.nscope_by x2
  split at g2
  · rename_i oc od fd osl lk
    simp only [Bool.and_eq_true, decide_eq_true_eq] at g2
    obtain ⟨⟨⟨⟨⟨⟨y1, y2⟩, y3⟩, y4⟩, y5⟩, y6⟩, y7⟩ := g2
    have z2 := isNone_ok y2
    have z3 := isNone_ok y3
    have z4 := refIs_ok y4
    unfold xfV XF.want at hv
    rw [lk] at hv
    obtain ⟨nm, qn, pr, bd, sc, gl, clo, dflt, kwd, doc, pm, an, cod, ct, blt⟩ := fd
    dsimp only at y1 z2 z3 z4 y5 y6 y7 hv
    simp only [Option.some.injEq, Prod.mk.injEq] at hv
    obtain ⟨v1, v2, v3, v4, v5⟩ := hv
    subst v1 v2 v3 v4 v5 y1 z2 z3 z4 y5 y6
    have bnd : ∀ us : List Value, us.length = x.ps.length → bindArgs _ ⟨us, []⟩ = pure (x.ps.zip us) := fun us hl => bind_plainX (x := "__init__") (qual := x.qual) (params := x.params) (body := x.body) (scope := x.scope) x3 [(("__class__" : Str), cellOf K x)] doc pm an (.ref (codeOf K x)) ct us hl
    have fitsN : fits x.ps.length (runN p.F n i) ∧ (∀ m, n = m + 1 → ∀ e, x.val = some e → runN p.F (m + 1) i = (xFn p.T x.N x.ps.length x.scope e).run (runN p.F m)) := by
      have run1 : ∀ m, ∀ e, x.val = some e → runN p.F (m + 1) i = (xFn p.T x.N x.ps.length x.scope e).run (runN p.F m) := fun m e he => by
        funext as L
        show (match p.F i with
          | some f => f.run (runN p.F m) as L
          | none => .bad) = _
        have : p.F i = some (xFn p.T x.N x.ps.length x.scope e) := by
          unfold Pg.F
          rw [List.getElem?_eq_none hi, hx]
          show XF.fn p.T x = _
          unfold XF.fn
          rw [he]; rfl
        rw [this]
      refine ⟨?_, fun m _ e he => run1 m e he⟩
      cases n with
      | zero => exact fun _ _ _ => rfl
      | succ m =>
        obtain ⟨e, he⟩ := Option.isSome_iff_exists.mp x1
        rw [run1 m e he]
        exact fun ds L hne => if_neg hne
    refine ⟨?_, ⟨He.ma K (He.ga K x.cls) "__init__", _, ?_, g4, ?_, .all bnd⟩, fitsN.1⟩
    · rw [hcc]; exact SC.oex
    · rw [hcc]; exact He.eqO_ok g3
    · cases n with
      | zero =>
        refine ⟨fun vs H Q E h => h.1, fun A outer s H args us vs Q E _ _ _ _ h => ?_⟩
        obtain ⟨_, a, ws, _, _, ms, L, ds, v, L', _, _, _, q, _⟩ := h
        cases q
      | succ m =>
        obtain ⟨e, he⟩ := Option.isSome_iff_exists.mp x1
        rw [fitsN.2 m rfl e he]
        have hval := he
        unfold XF.val at hval
        split at hval
        · rename_i s0 q0 q1 ini p2 txt jj q q3 q4 self q5 fld q6 e' q7 hbody
          split at hval
          · rename_i hc
            cases hval
            simp only [Bool.and_eq_true, decide_eq_true_eq] at hc
            obtain ⟨⟨⟨⟨⟨c1, c2⟩, c3⟩, c4⟩, c5⟩, c6⟩ := hc
            subst c1 c2 c4
            have hps : ∃ ar, (x.params.posonlyargs ++ x.params.args).head? = some ar ∧ x.ps[0]? = some ar.arg ∧ self = ar.arg := by
              unfold plainPar at x3
              simp only [Bool.and_eq_true, decide_eq_true_eq] at x3
              have e1 := x3.1.2
              rw [List.isEmpty_iff.mp x5, List.nil_append]
              cases ha : x.params.args with
              | nil => rw [ha] at e1; rw [← e1] at c5; cases c5
              | cons ar r =>
                rw [ha] at e1
                refine ⟨ar, rfl, ?_, ?_⟩
                · rw [← e1]; rfl
                · rw [← e1] at c5
                  exact (Option.some.inj c5).symm
            obtain ⟨ar, p1, p2', p3'⟩ := hps
            have TO := ih m rfl
            have lk2 := lk
            rw [hbody] at lk2
            rw [hbody] at bnd
            have SC2 : SupC (p.sta P w K mg base).P (p.sta P w K mg base).K ((p.sta P w K mg base).CA cc) (He.ma K (He.ga K x.cls) "__init__") (cellOf K x) (codeOf K x) := by rw [hcc]; exact SC
            rw [hbody]
            exact xc_fn (G := p.sta P w K mg base) (k := 2 * m + 1) TO SC2 lk2 y7 S bnd p1 x4 p2' p3' hsup c3 (by rw [hcc]; exact He.eqO_ok g5) c6
          · cases hval
        · cases hval
  · cases g2
theorem Pg.tab_of (ht : p.texts = true) (c : SaysX p P K) (X : K.In h) (G : h.Ns mainGlobals mg) (n : Nat) (ih : ∀ m, m + 1 = n → TabOk (p.sta P w K mg base) (runN p.F m) (2 * m) p.T) : TabOk (p.sta P w K mg base) (runN p.F n) (2 * n) p.T := by
  have ok := c.fact
  have ht0 := ht
  unfold Pg.texts at ht
  simp only [Bool.and_eq_true] at ht
  obtain ⟨⟨⟨⟨⟨⟨_, t1⟩, t2⟩, t3⟩, t4⟩, t5⟩, t6⟩ := ht
  unfold Pg.heapOk at ok
  simp only [Bool.and_eq_true] at ok
  obtain ⟨⟨⟨⟨⟨⟨⟨⟨⟨⟨k1, k2⟩, k3⟩, k4⟩, k5⟩, k6⟩, k7⟩, k8⟩, k9⟩, k10⟩, k11⟩ := ok
  refine ⟨fun x i hx => ?_, fun x cc i hx => ?_, fun m tb hm cc i hc => ?_, fun f cs hf => ?_, fun x d hx => ?_, fun x hx => ?_, fun x cc fl i hx => ?_, fun x hh cs hx => ?_, fun fl cs hx cc hc => ?_⟩
  · have hm := lookup_mem hx
    obtain ⟨f, hi, e⟩ := Pg.at_ok (List.all_eq_true.mp t1 _ hm)
    obtain ⟨C, ft⟩ := Pg.callee (P := P) (w := w) (mg := mg) (base := base) ht0 c n ih hi
    refine ⟨_, _, ?_, C, ft⟩
    rw [e]
    exact He.glo_ok X G (List.all_eq_true.mp k1 _ hm)
  · have hm := lookup_mem hx
    have z := List.all_eq_true.mp t2 _ hm
    rw [Bool.and_eq_true] at z
    obtain ⟨f, hi, e⟩ := Pg.at_ok z.1
    have e2 := of_decide_eq_true z.2
    obtain ⟨C, ft⟩ := Pg.callee (P := P) (w := w) (mg := mg) (base := base) ht0 c n ih hi
    have y := List.all_eq_true.mp k2 _ hm
    rw [Bool.and_eq_true] at y
    refine ⟨_, _, ?_, ?_, C, ft⟩
    · show mg x = some (.ref (He.ga K (p.cn cc)))
      rw [e2]
      exact He.glo_ok X G y.1
    · show Mk K (He.ga K (p.cn cc)) (He.fAd K f.d.at_)
      rw [e, e2]
      exact He.mkr_ok y.2
  · have h1 := lookup_mem hm
    have h2 := lookup_mem hc
    obtain ⟨f, hi, e⟩ := Pg.at_ok (List.all_eq_true.mp (List.all_eq_true.mp t3 _ h1) _ h2)
    obtain ⟨C, ft⟩ := Pg.callee (P := P) (w := w) (mg := mg) (base := base) ht0 c n ih hi
    have y := List.all_eq_true.mp (List.all_eq_true.mp k3 _ h1) _ h2
    rw [Bool.and_eq_true] at y
    refine ⟨He.cls_ok y.1, _, _, ?_, C, ft⟩
    show Meth K (He.ga K (p.cn cc)) m (He.fAd K f.d.at_)
    rw [e]
    exact He.meth_ok y.2
  · have h1 := lookup_mem hf
    have z := List.all_eq_true.mp k4 _ h1
    refine ⟨fun c hc => ?_, fun c hc => ?_⟩
    · have y := List.all_eq_true.mp z c hc
      rw [Bool.and_eq_true] at y
      exact He.cls_ok y.1
    · have y := List.all_eq_true.mp z c hc
      rw [Bool.and_eq_true] at y
      exact He.noat_ok y.2
  · have h1 := lookup_mem hx
    have z := List.all_eq_true.mp k5 _ h1
    dsimp only at z
    split at z
    · obtain ⟨t, e⟩ := He.int_ok X G z
      exact ⟨_, .int _, e, ⟨t, rfl⟩, fun _ _ => .int _⟩
    · cases z
  · exact He.free_ok X G (List.all_eq_true.mp k6 x (by simpa using hx))
  · have h1 := lookup_mem hx
    have z := List.all_eq_true.mp t5 _ h1
    simp only [Bool.and_eq_true, decide_eq_true_eq] at z
    obtain ⟨⟨z1, z2⟩, z3⟩ := z
    refine ⟨by
      show mg x = some (.ref (He.ga K (p.cn cc)))
      rw [z1]; exact He.glo_ok X G (List.all_eq_true.mp k9 _ h1), ?_⟩
    split at z3
    · rename_i xx hxx
      simp only [Bool.and_eq_true, decide_eq_true_eq] at z3
      obtain ⟨z4, z5⟩ := z3
      have := Pg.exc (P := P) (w := w) (mg := mg) (base := base) ht0 c X G n ih z2 hxx
      rw [z4] at this
      rw [← z5]
      refine ⟨xx.ps, ?_⟩
      have e9 : (p.sta P w K mg base).CA cc = He.ga K x := by
        show He.ga K (p.cn cc) = _
        rw [z1]
      exact this cc e9
    · cases z3
  · have h1 := lookup_mem hx
    have z := of_decide_eq_true (List.all_eq_true.mp t6 _ h1)
    have y := List.all_eq_true.mp k10 _ h1
    rw [Bool.and_eq_true] at y
    refine ⟨by
      show mg x = some (.ref (He.ga K (p.cn hh)))
      have z' : p.cn hh = x := z
      rw [z']; exact He.glo_ok X G y.1, ⟨fun c0 hc => of_decide_eq_true (List.all_eq_true.mp y.2 c0 hc)⟩⟩
  · have h1 := lookup_mem hx
    have y := List.all_eq_true.mp (List.all_eq_true.mp k11 _ h1) cc hc
    rw [Bool.and_eq_true] at y
    exact ⟨xfB_ok y.1, He.eqO_ok y.2⟩
theorem Pg.tab (ht : p.texts = true) (c : SaysX p P K) (X : K.In h) (G : h.Ns mainGlobals mg) : ∀ n, TabOk (p.sta P w K mg base) (runN p.F n) (2 * n) p.T
  | 0 => Pg.tab_of ht c X G 0 fun m e => by cases e
  | n + 1 => Pg.tab_of ht c X G (n + 1) fun m e => by cases e; exact Pg.tab ht c X G n
end

/-! ### the law -/
/-- the heap's part that the law may look at: the script, if no object of the program is it -/
def scriptH (K : PySem.W.Frag) (a : Addr) (o : Obj) (vs : List V) : Hp := fun b => if b = a ∧ K.lookup a = none then some (.frz o (.lst vs)) else none
theorem law_end {P : Program} {w : World} {K : PySem.W.Frag} {mg mb : Str → Option Value} {k : Nat} {f a : Addr} {fd : FuncData} {x : Str} {sp : Heap → Sp} {s : Shared} {us : List Value} {ns : List Int}
    (hK : K.In s.heap) (h1 : s.heap.Ns mainGlobals mg) (h2 : s.heap.Ns builtinsNs mb) (h3 : ∀ x : Str, x ≠ "__name__" → mb x = bootBuiltins x) (h4 : s.heap.NoLimit) (h5 : s.gens = #[])
    (ha : s.heap.get? a = some { cls := .type "list", data := .seq us.toArray }) (hi : IntsAre us ns) (hl : ns.length ≤ sizeLine) (hr : Room k callerA)
    (F : ∀ base : Heap, K.In base → base.Ns mainGlobals mg → FnG P w K mg base k f fd [x] (sp base)) (hb : ∀ (s : Shared) (u : Value), BindsTo s fd ⟨[u], []⟩ [(x, u)])
    (hs : ∀ (base : Heap) (H : Hp), (∀ b o, H b = some o → ¬ Mut (some o)) → RoL K H a (ns.map V.int) → sp base [.ref a] H (fun v _ => v = .bl true) fun _ _ _ => False) :
    codeAny (model P w) callerA (.call (.ref f) ⟨[.ref a], []⟩) (fun r s' => r = .ok (.ret (.bool true)) ∧ OldK s.heap s'.heap ∧ s'.os = s.os ∧ AllBare s'.gens) s := by
  have rv := vals_ints hi
  generalize hH : scriptH K a { cls := .type "list", data := .seq us.toArray } (ns.map V.int) = H
  have off : ∀ b, b ≠ a → H b = none := fun b q => by
    subst hH
    exact if_neg fun z => q z.1
  have own : ∀ o, K.lookup a = some o → ∀ b, H b = none := fun o q b => by
    subst hH
    exact if_neg fun z => by rw [q] at z; cases z.2
  have at_ : ∀ b u, H b = some u → b = a ∧ K.lookup a = none ∧ u = .frz { cls := .type "list", data := .seq us.toArray } (.lst (ns.map V.int)) := fun b u q => by
    subst hH
    unfold scriptH at q
    split at q
    · rename_i z
      cases q
      exact ⟨z.1, z.2, rfl⟩
    · cases q
  have see : ∀ {b : Addr} {o : Obj}, s.heap.get? b = some o → H b = none → (hidT s.heap H).get? b = some o := fun e n => hidT_get e n
  have ro : RoL K H a (ns.map V.int) := by
    cases q : K.lookup a with
    | none =>
      refine .inl ⟨{ cls := .type "list", data := .seq us.toArray }, ?_⟩
      subst hH
      exact if_pos ⟨rfl, q⟩
    | some o =>
      have e := hK a o q
      rw [ha] at e
      cases e
      exact .inr ⟨_, us.toArray, _, q, rfl, rfl, rfl, by rw [List.size_toArray, hi.length]; exact hl, rv⟩
  have good : HOk P w H s.heap := fun b u q => by
    obtain ⟨rfl, _, rfl⟩ := at_ b u q
    exact ⟨ha, by rw [List.length_map]; exact hl, us, _, rv, ha⟩
  have space : ∀ {b : Addr} {m : Str → Option Value}, s.heap.Ns b m → (hidT s.heap H).Ns b m := fun {b m} ⟨o, es, ep, e, d, r⟩ => by
    refine ⟨o, es, ep, see e ?_, d, r⟩
    cases q : H b with
    | none => rfl
    | some u =>
      obtain ⟨rfl, _⟩ := at_ b u q
      rw [ha] at e
      cases e
      cases (show Data.seq us.toArray _ = Data.dict es ep from d)
  have kin : K.In (hidT s.heap H) := fun b o e => see (hK b o e) (by
    cases q : H b with
    | none => rfl
    | some u =>
      obtain ⟨rfl, z, _⟩ := at_ b u q
      rw [z] at e; cases e)
  have m : Mod K mg (hidT s.heap H) := ⟨kin, space h1, ⟨mb, space h2, h3⟩, by
    obtain ⟨mc, z1, z2⟩ := h4
    exact ⟨mc, space z1, z2⟩⟩
  have env : Env0 P w K mg (hidT s.heap H) callerA [] s H := ⟨rfl, m, fun b o e => of_hidT e, Nat.le_of_eq (hidT_size _ _), trivial, fun b hb => absurd hb List.not_mem_nil, good, .of_eq h5⟩
  refine codeAny_mono ((F _ kin (space h1)).run callerA [] s H ⟨[.ref a], []⟩ [.ref a] [.ref a] _ _ hr rfl env (hb s (.ref a)) (.cons rfl .nil) (hs _ H (fun b u q z => ?_) ro)) fun r s' q => ?_
  · obtain ⟨_, _, rfl⟩ := at_ b u q
    exact z
  · cases r with
    | error e =>
      obtain ⟨_, _, _, _, _, _, _, _, _, _, _, _, _, _, _, _, z⟩ := q
    | ok fl =>
      cases fl with
      | ret u =>
        obtain ⟨v, H', os, bare, un, good', r', z⟩ := q
        cases (show v = .bl true from z)
        cases (show u = Value.bool true from r')
        refine ⟨rfl, OldK.of_keep fun b o e => ?_, os, bare⟩
        cases z2 : H b with
        | none => exact un.keep b o e z2 List.not_mem_nil List.not_mem_nil
        | some u =>
          obtain ⟨rfl, _, rfl⟩ := at_ b u z2
          obtain ⟨e2, _⟩ := good' _ _ (un.frzs _ _ _ z2)
          rw [ha] at e; cases e
          exact e2
      | _ => exact False.elim q
/-- what the plain law is to say: the law's def, of a script of ints, gives True -/
def Pg.Right (p : Pg) (law n : Nat) (most : Nat) : Prop := ∀ ns : List Int, ns.length ≤ most → ∃ L, runN p.F n law [.rol (ns.map D.int)] LH.nil = .ok (.bl true) L
theorem rol_ints {G : Sta} {ms : List Addr} {H : Hp} : ∀ ns : List Int, Reps G ms H (ns.map D.int) (ns.map V.int)
  | [] => .nil
  | n :: ns => .cons (.int n) (rol_ints ns)
theorem Pg.walk {l : PySem.W.OpenLaw} {most n law : Nat} {q : Program} {loose : List Str} {XP : (Str → Option Value) → Heap → Prop} {d : DefRec} {p : Pg} {f : DF} {x : Str} {r : Nat}
    (hn : l.most = some most) (hn2 : most ≤ sizeLine) (hdf : d.params.defaults = []) (hr : Room (2 * n) callerA) (ht : p.texts = true) (hlaw : p.dfs[law]? = some f) (hat : f.d.at_ = (d.name, none)) (hps : f.ps = [x]) (hglo : (p.T.fns.lookup d.name).isSome = true) (right : p.Right law n most) :
    PySem.W.WalkO q loose XP (hookX r p l.prog).says l.row.toRowW d [] (fun f vs => PySem.call f vs) := by
  refine Att.attach_call hn hdf fun w s₀ s₁ mg mb fa o pm cd doc a vs ns G Y ho hd hcd hmg hobj hints hlen hg => ?_
  obtain ⟨K, KX, c⟩ := Y
  have hfa : fa = He.fAd K f.d.at_ := by
    cases e : p.T.fns.lookup d.name with
    | none => rw [e] at hglo; cases hglo
    | some i =>
      have ok := c.fact
      unfold Pg.heapOk at ok
      simp only [Bool.and_eq_true] at ok
      have z := He.glo_ok KX G.T.g (List.all_eq_true.mp ok.1.1.1.1.1.1.1.1.1.1 _ (lookup_mem e))
      rw [hmg] at z
      cases z
      rw [hat]; rfl
  have hd0 : p.fns[law]? = some f.d := by unfold Pg.fns; rw [List.getElem?_map, hlaw]; rfl
  obtain ⟨fd, FD⟩ := c.def_ law hd0
  have bi := (Pg.binds ht hlaw FD).2
  subst hfa
  refine law_end (fd := fd) KX G.T.g G.T.b G.T.builtins G.T.nolimit hg hobj hints (Nat.le_trans hlen hn2) hr (x := x) (sp := fun base => spOf (p.sta l.prog w K mg base) 1 (runN p.F n law)) (fun base kin h1 => ?_) (fun s u => ?_) fun base H hm ro => ?_
  · have z := (Pg.calleeAt (P := l.prog) (w := w) (mg := mg) (base := base) ht n (fun m e => Pg.tab ht c KX G.T.g m) hlaw FD).1
    rw [hps] at z
    exact z
  · have z := bi s [u] (by rw [hps]; rfl)
    rw [hps] at z
    exact z
  · obtain ⟨L, e⟩ := right ns hlen
    have S : Sees (p.sta l.prog w K mg base) [] LH.nil H := ⟨rfl, List.nodup_nil, ⟨fun a h => absurd h List.not_mem_nil⟩, fun n a c h _ => by
      rw [LH.get_ge (Nat.zero_le _)] at h; cases h⟩
    refine ⟨rfl, [], LH.nil, [.rol (ns.map D.int)], S, .cons (.rol ro (rol_ints ns)) .nil, ?_⟩
    rw [e]
    intro ms' H' v _ _ r
    cases r
    rfl
end PD
/-! P14: heaps written twice; the laws' source of choices. -/
namespace PD
open PySem

theorem Tr.put_fuel : ∀ (f g : Nat) (t : Tr) (n : Nat) (c : Cell), n < f → n < g → Tr.put f t n c = Tr.put g t n c
  | 0, _, _, _, _, h, _ => absurd h (Nat.not_lt_zero _)
  | _ + 1, 0, _, _, _, _, h => absurd h (Nat.not_lt_zero _)
  | f + 1, g + 1, t, n, c, h1, h2 => by
    have i1 := fun t (a : ¬ n = 0) => Tr.put_fuel f g t (n / 2) c (by omega) (by omega)
    have i2 := fun t (a : ¬ n = 0) => Tr.put_fuel f g t (n / 2 - 1) c (by omega) (by omega)
    cases t <;> unfold Tr.put <;> by_cases h0 : n = 0 <;> by_cases h3 : n % 2 = 1 <;> simp only [h0, h3, if_true, if_false] <;> first
      | rfl
      | rw [i1 _ h0]
      | rw [i2 _ h0]
theorem Tr.put_same : ∀ (f : Nat) (t : Tr) (n : Nat) (c d : Cell), n < f → Tr.put f (Tr.put f t n c) n d = Tr.put f t n d
  | 0, _, _, _, _, h => absurd h (Nat.not_lt_zero _)
  | f + 1, t, n, c, d, h => by
    have i1 := fun t (a : ¬ n = 0) => Tr.put_same f t (n / 2) c d (by omega)
    have i2 := fun t (a : ¬ n = 0) => Tr.put_same f t (n / 2 - 1) c d (by omega)
    by_cases h0 : n = 0
    · cases t <;> simp [Tr.put, h0]
    · by_cases h3 : n % 2 = 1
      · cases t <;> simp [Tr.put, h0, h3, i1 _ h0]
      · cases t <;> simp [Tr.put, h0, h3, i2 _ h0]
theorem Tr.put_comm : ∀ (f : Nat) (t : Tr) (n m : Nat) (c d : Cell), n ≠ m → n < f → m < f → Tr.put f (Tr.put f t n c) m d = Tr.put f (Tr.put f t m d) n c
  | 0, _, _, _, _, _, _, h, _ => absurd h (Nat.not_lt_zero _)
  | f + 1, t, n, m, c, d, hne, h1, h2 => by
    have i1 := fun t (a : ¬ n = 0) (b : ¬ m = 0) (e : n / 2 ≠ m / 2) => Tr.put_comm f t (n / 2) (m / 2) c d e (by omega) (by omega)
    have i2 := fun t (a : ¬ n = 0) (b : ¬ m = 0) (e : n / 2 - 1 ≠ m / 2 - 1) => Tr.put_comm f t (n / 2 - 1) (m / 2 - 1) c d e (by omega) (by omega)
    by_cases hn : n = 0 <;> by_cases hm : m = 0
    · omega
    · cases t <;> by_cases h3 : m % 2 = 1 <;> simp [Tr.put, hn, hm, h3]
    · cases t <;> by_cases h3 : n % 2 = 1 <;> simp [Tr.put, hn, hm, h3]
    · by_cases h3 : n % 2 = 1 <;> by_cases h4 : m % 2 = 1
      · cases t <;> simp [Tr.put, hn, hm, h3, h4, i1 _ hn hm (by omega)]
      · cases t <;> simp [Tr.put, hn, hm, h3, h4]
      · cases t <;> simp [Tr.put, hn, hm, h3, h4]
      · cases t <;> simp [Tr.put, hn, hm, h3, h4, i2 _ hn hm (by omega)]
theorem LH.put_same (L : LH) (n : Nat) (c d : Cell) : (L.put n c).put n d = L.put n d := by
  unfold LH.put
  dsimp only
  rw [Tr.put_same _ _ _ _ _ (Nat.lt_succ_self _)]
theorem LH.put_comm (L : LH) {n m : Nat} (c d : Cell) (h : n ≠ m) : (L.put n c).put m d = (L.put m d).put n c := by
  unfold LH.put
  dsimp only
  rw [Tr.put_fuel (n + 1) (n + m + 2) _ n c (by omega) (by omega), Tr.put_fuel (m + 1) (n + m + 2) _ m d (by omega) (by omega), Tr.put_comm _ _ _ _ _ _ h (by omega) (by omega),
    Tr.put_fuel (m + 1) (n + m + 2) L.t m d (by omega) (by omega), Tr.put_fuel (n + 1) (n + m + 2) _ n c (by omega) (by omega)]

/-! ### the source of choices: its three defs -/
def sourceFn : Fn := ⟨3, 1, sSeq (sAsg (eC (.int 11)) (gNm 1)) (sSeq (sFor (gNm 2) (iE (eVar 0)) (sSeq (sAsg (e2 oMod (aApp (aCons (e2 oAdd (e2 oAdd (e2 oMul (eVar 1) (eC (.int 69069))) (e2 oMul (eVar 2) (eC (.int 31)))) (eC (.int 5))) aNil) bInt) (eC (.int 2147483629))) (gNm 1)) sNext))
  (sSeq (sRet (eDct [(eC (.str "cells"), e1 oRevL (eLc [2] (iE (eVar 0)) (cTurn (gNm 2) tYesT (aApp (aCons (eVar 2) aNil) bAbs)))), (eC (.str "left"), eC (.int 1)), (eC (.str "mixed"), eVar 1), (eC (.str "turn"), eC (.int 0))])) sNext))⟩
def pickTest : FT := tAnd (tV (e2 oGt (eVar 1) (eC (.int 1)))) (tAnd (tV (e2 oLt (e2 oIx (eVar 0) (eC (.str "left"))) (eC (.int 2)))) (tV (e2 oGt (aApp (aCons (e2 oIx (eVar 0) (eC (.str "cells"))) aNil) bLen) (eC (.int 0)))))
def pickBody : FS := sSeq (sAsg (eBM "list" mPop (e2 oIx (eVar 0) (eC (.str "cells"))) aNil) (gSub (eVar 0) (eC (.str "left")))) sNext
def pickRest : FS := sSeq (sAsg (e2 oIx (eVar 0) (eC (.str "left"))) (gNm 2))
  (sSeq (sIf (tOr (tV (e2 oLt (eVar 1) (eC (.int 2)))) (tV (e2 oGt (eVar 2) (eC (.int 1)))))
    (sSeq (sAsg (e2 oDiv (eVar 2) (aApp (aCons (eC (.int 1)) (aCons (eVar 1) aNil)) bMaxA)) (gSub (eVar 0) (eC (.str "left"))))
      (sSeq (sRet (e2 oMod (aApp (aCons (eVar 2) aNil) bInt) (aApp (aCons (eC (.int 1)) (aCons (eVar 1) aNil)) bMaxA))) sNext)) sNext)
  (sSeq (sAsg (e2 oAdd (e2 oIx (eVar 0) (eC (.str "turn"))) (eC (.int 1))) (gSub (eVar 0) (eC (.str "turn"))))
  (sSeq (sAsg (e2 oMod (aApp (aCons (e2 oAdd (e2 oIx (eVar 0) (eC (.str "mixed"))) (e2 oMul (e2 oIx (eVar 0) (eC (.str "turn"))) (eC (.int 104729)))) aNil) bInt) (eC (.int 998244353))) (gNm 3))
  (sSeq (sAsg (e2 oMod (aApp (aCons (e2 oAdd (e2 oMul (eVar 3) (eVar 3)) (e2 oMul (e2 oIx (eVar 0) (eC (.str "turn"))) (eC (.int 17)))) aNil) bInt) (eC (.int 2147483647))) (gNm 3))
  (sSeq (sAsg (eVar 3) (gSub (eVar 0) (eC (.str "mixed"))))
  (sSeq (sRet (e2 oMod (aApp (aCons (e2 oDiv (eVar 3) (eC (.int 16))) aNil) bInt) (eVar 1))) sNext))))))
def pickFn : Fn := ⟨4, 2, sSeq (sWhile pickTest pickBody) pickRest⟩
def mixedFn (pick : Nat) : Fn := ⟨4, 2, sSeq (sAsg (aApp (aCons (eVar 1) aNil) bLst) (gNm 2)) (sSeq (sRet (eLc [3] (iRange1 (aCons (aApp (aCons (eVar 2) aNil) bLen) aNil)) (cTurn (gNm 3) tYesT (eBM "list" mPop (eVar 2) (aCons (eCall pick (aCons (eVar 0) (aCons (aApp (aCons (eVar 2) aNil) bLen) aNil))) aNil))))) sNext)⟩

def srcKvs (c : Nat) (l m t : Int) : List (D × D) := [(.str "cells", .ref c), (.str "left", .int l), (.str "mixed", .int m), (.str "turn", .int t)]
theorem look_cells {c : Nat} {l m t : Int} : dLook (srcKvs c l m t) (.str "cells") = some (.ref c) := by rfl
theorem look_left {c : Nat} {l m t : Int} : dLook (srcKvs c l m t) (.str "left") = some (.int l) := by rfl
theorem look_mixed {c : Nat} {l m t : Int} : dLook (srcKvs c l m t) (.str "mixed") = some (.int m) := by rfl
theorem look_turn {c : Nat} {l m t : Int} : dLook (srcKvs c l m t) (.str "turn") = some (.int t) := by rfl
theorem put_left {c : Nat} {l m t l' : Int} : dPut (srcKvs c l m t) (.str "left") (.int l') = srcKvs c l' m t := by rfl
theorem put_mixed {c : Nat} {l m t m' : Int} : dPut (srcKvs c l m t) (.str "mixed") (.int m') = srcKvs c l m' t := by rfl
theorem put_turn {c : Nat} {l m t t' : Int} : dPut (srcKvs c l m t) (.str "turn") (.int t') = srcKvs c l m t' := by rfl
theorem fits_src {c : Nat} {l m t : Int} {x : Str} : keyFits (srcKvs c l m t) (.str x) = true := by rfl
theorem len_src {c : Nat} {l m t : Int} : (srcKvs c l m t).length = 4 := rfl
/-- the source at s, its cells at c -/
structure SrcAt (L : LH) (s c : Nat) (zs : List Int) (l m t : Int) : Prop where
  d : L.get s = some (.dct (srcKvs c l m t))
  x : L.get c = some (.lst (zs.map D.int))
theorem SrcAt.ne {L : LH} {s c : Nat} {zs : List Int} {l m t : Int} (h : SrcAt L s c zs l m t) : c ≠ s := fun e => by
  have := h.d
  rw [← e, h.x] at this
  cases this
/-- the source written anew -/
def setSrc (L : LH) (s c : Nat) (zs : List Int) (l m t : Int) : LH := (L.put c (.lst (zs.map D.int))).put s (.dct (srcKvs c l m t))
section
variable {L : LH} {s c : Nat} {zs zs' : List Int} {l m t l' m' t' : Int}
theorem SrcAt.set (h : SrcAt L s c zs l m t) (zs' : List Int) (l' m' t' : Int) : SrcAt (setSrc L s c zs' l' m' t') s c zs' l' m' t' := by
  have h1 := LH.get_lt h.d
  have h2 := LH.get_lt h.x
  refine ⟨?_, ?_⟩
  · unfold setSrc
    rw [LH.get_put _ _ (by rw [LH.put_len]; exact h1), if_pos rfl]
  · unfold setSrc
    rw [LH.get_put _ _ (by rw [LH.put_len]; exact h1), if_neg h.ne, LH.get_put _ _ h2, if_pos rfl]
theorem setSrc_len : (setSrc L s c zs l m t).len = L.len := rfl
theorem setSrc_get (h : SrcAt L s c zs l m t) {n : Nat} (h1 : n ≠ s) (h2 : n ≠ c) : (setSrc L s c zs' l' m' t').get n = L.get n := by
  have a1 := LH.get_lt h.d
  have a2 := LH.get_lt h.x
  unfold setSrc
  rw [LH.get_put _ _ (by rw [LH.put_len]; exact a1), if_neg h1, LH.get_put _ _ a2, if_neg h2]
theorem setSrc_twice (h : c ≠ s) {zs2 : List Int} {l2 m2 t2 : Int} : setSrc (setSrc L s c zs l m t) s c zs2 l2 m2 t2 = setSrc L s c zs2 l2 m2 t2 := by
  unfold setSrc
  rw [LH.put_comm _ _ _ (Ne.symm h), LH.put_same, LH.put_same]
theorem setSrc_put_s (h : c ≠ s) {l2 m2 t2 : Int} : (setSrc L s c zs l m t).put s (.dct (srcKvs c l2 m2 t2)) = setSrc L s c zs l2 m2 t2 := by
  unfold setSrc
  rw [LH.put_same]
theorem setSrc_put_c (h : c ≠ s) : (setSrc L s c zs l m t).put c (.lst (zs'.map D.int)) = setSrc L s c zs' l m t := by
  unfold setSrc
  rw [LH.put_comm _ _ _ (Ne.symm h), LH.put_same]
/-- o['k'] of the source -/
theorem ix_src {k : Str} {d : D} (h : SrcAt L s c zs l m t) (hk : dLook (srcKvs c l m t) (.str k) = some d) : oIx (.ref s) (.str k) L = .ok d L := by
  unfold oIx
  simp only [h.d, fits_src, hk, if_true]
theorem set_src {k : Str} {v : D} {kvs : List (D × D)} (h : SrcAt L s c zs l m t) (hk : dPut (srcKvs c l m t) (.str k) v = kvs) : oSet (.ref s) (.str k) v L = .ok () (L.put s (.dct kvs)) := by
  unfold oSet
  simp only [h.d, fits_src, len_src, hk]
  rfl
theorem put_d (h : SrcAt L s c zs l m t) : setSrc L s c zs l m t = (L.put c (.lst (zs.map D.int))).put s (.dct (srcKvs c l m t)) := rfl
end


theorem Tr.put_id : ∀ (f : Nat) (t : Tr) (n : Nat) (c : Cell), n < f → t.get n = some c → Tr.put f t n c = t
  | 0, _, _, _, h, _ => absurd h (Nat.not_lt_zero _)
  | f + 1, t, n, c, h, g => by
    have i1 := fun t (a : ¬ n = 0) => Tr.put_id f t (n / 2) c (by omega)
    have i2 := fun t (a : ¬ n = 0) => Tr.put_id f t (n / 2 - 1) c (by omega)
    cases t with
    | nil => cases g
    | node l v r =>
      rw [Tr.get_node] at g
      by_cases h0 : n = 0
      · rw [if_pos h0] at g
        simp [Tr.put, h0, g]
      · rw [if_neg h0] at g
        by_cases h3 : n % 2 = 1
        · rw [if_pos h3] at g
          simp [Tr.put, h0, h3, i1 l h0 g]
        · rw [if_neg h3] at g
          simp [Tr.put, h0, h3, i2 r h0 g]
theorem LH.put_id (L : LH) {n : Nat} {c : Cell} (h : L.get n = some c) : L.put n c = L := by
  have h1 := LH.get_lt h
  unfold LH.get at h
  rw [if_pos h1] at h
  unfold LH.put
  rw [Tr.put_id _ _ _ _ (Nat.lt_succ_self _) h]
theorem SrcAt.id {L : LH} {s c : Nat} {zs : List Int} {l m t : Int} (h : SrcAt L s c zs l m t) : setSrc L s c zs l m t = L := by
  unfold setSrc
  rw [LH.put_id L h.x, LH.put_id L h.d]

/-! ### steps -/
section
variable {R : Rec} {ρ ρ1 : Slt} {L L1 : LH} {a b : FS} {e : FE} {g : FG} {d : D} {t : FT} {o : D → LH → Res D} {op : D → D → LH → Res D} {e' : FE}
theorem s_seq (h : a R ρ L = .ok (.nx, ρ1) L1) : sSeq a b R ρ L = b R ρ1 L1 := by unfold sSeq; rw [h]; rfl
theorem s_seq_rt (h : a R ρ L = .ok (.rt d, ρ1) L1) : sSeq a b R ρ L = .ok (.rt d, ρ1) L1 := by unfold sSeq; rw [h]; rfl
theorem s_asg {L2 : LH} (h : e R ρ L = .ok d L1) (h2 : g R d ρ L1 = .ok ρ1 L2) : sAsg e g R ρ L = .ok (.nx, ρ1) L2 := by unfold sAsg; rw [h]; show (g R d ρ L1).st ρ _ = _; rw [h2]; rfl
theorem s_asg_nm {i : Nat} (h : e R ρ L = .ok d L1) : sAsg e (gNm i) R ρ L = .ok (.nx, ρ.set i (some d)) L1 := s_asg h rfl
theorem s_ret (h : e R ρ L = .ok d L1) : sRet e R ρ L = .ok (.rt d, ρ) L1 := by unfold sRet; rw [h]; rfl
theorem s_expr (h : e R ρ L = .ok d L1) : sExpr e R ρ L = .ok (.nx, ρ) L1 := by unfold sExpr; rw [h]; rfl
theorem s_if_t (h : t R ρ L = .ok true L1) : sIf t a b R ρ L = a R ρ L1 := by unfold sIf; rw [h]; rfl
theorem s_if_f (h : t R ρ L = .ok false L1) : sIf t a b R ρ L = b R ρ L1 := by unfold sIf; rw [h]; rfl
theorem x_2 {x y : D} {L2 : LH} (h1 : e R ρ L = .ok x L1) (h2 : e' R ρ L1 = .ok y L2) : e2 op e e' R ρ L = op x y L2 := by unfold e2; rw [h1]; show (e' R ρ L1).bind _ = _; rw [h2]; rfl
end

/-! ### one pick -/
section
variable {L : LH} {s c : Nat} {zs zs' : List Int} {l m t l' m' t' : Int} {R : Rec} {many : Int} {a b : Option D}
theorem len_src2 (h : SrcAt L s c zs l m t) : bLen [.ref c] L = .ok (.int zs.length) L := by
  unfold bLen
  simp only [h.x, List.length_map]
theorem test_eq (h : SrcAt L s c zs l m t) : pickTest R [some (.ref s), some (.int many), a, b] L = .ok (decide (many > 1) && (decide (l < 2) && decide (zs.length > 0))) L := by
  have i1 := ix_src h look_left
  have i2 := ix_src h look_cells
  have i3 := len_src2 h
  have e1 : decide ((0 : Int) < (zs.length : Int)) = decide (zs.length > 0) := by
    by_cases z : zs.length > 0
    · rw [decide_eq_true z, decide_eq_true (by omega)]
    · rw [decide_eq_false z, decide_eq_false (by omega)]
  by_cases h1 : many > 1
  · have h1' : (1 : Int) < many := h1
    by_cases h2 : l < 2
    · simp [pickTest, tAnd, tV, e2, eVar, eC, Res.bind, oGt, oLt, truthD, aApp, aCons, aNil, i1, i2, i3, e1, h1', h2]
    · simp [pickTest, tAnd, tV, e2, eVar, eC, Res.bind, oGt, oLt, truthD, aApp, aCons, aNil, i1, i2, i3, e1, h1', h2]
  · have h1' : ¬ (1 : Int) < many := h1
    simp [pickTest, tAnd, tV, e2, eVar, eC, Res.bind, oGt, oLt, truthD, aApp, aCons, aNil, i1, i2, i3, e1, h1']
theorem body_eq (h : SrcAt L s c zs l m t) (hz : zs ≠ []) : pickBody R [some (.ref s), some (.int many), a, b] L = .ok (.nx, [some (.ref s), some (.int many), a, b]) (setSrc L s c zs.dropLast (zs.getLast hz) m t) := by
  have i2 := ix_src h look_cells
  have hx : (zs.map D.int)[(zs.map D.int).length - 1]? = some (.int (zs.getLast hz)) := by
    rw [← List.getLast?_eq_getElem?, List.getLast?_map, List.getLast?_eq_some_getLast hz]; rfl
  have p1 : mPop (.ref c) [] L = .ok (.int (zs.getLast hz)) (setSrc L s c zs.dropLast l m t) := by
    unfold mPop
    simp only [h.x, hx, List.map_dropLast]
    rw [← List.map_dropLast, ← setSrc_put_c h.ne (zs := zs) (l := l) (m := m) (t := t), h.id]
  have e1 : eBM "list" mPop (e2 oIx (eVar 0) (eC (.str "cells"))) aNil R [some (.ref s), some (.int many), a, b] L = .ok (.int (zs.getLast hz)) (setSrc L s c zs.dropLast l m t) := by
    have t1 : tyIs "list" (.ref c) L = true := by unfold tyIs; simp only [h.x]; rfl
    simp [eBM, e2, eVar, eC, i2, Res.bind, t1, aNil, p1, noExc]
  have e3 := set_src (h.set zs.dropLast l m t) (put_left (l' := zs.getLast hz))
  unfold pickBody
  refine (s_seq (s_asg e1 (ρ1 := [some (.ref s), some (.int many), a, b]) (L2 := setSrc L s c zs.dropLast (zs.getLast hz) m t) ?_)).trans rfl
  simp [gSub, eVar, eC, Res.bind, e3, setSrc_put_s h.ne]
theorem loop_eq : ∀ (k : Nat) (zs : List Int) (l : Int) (L : LH), SrcAt L s c zs l m t → zs.length < k → ∃ zs' l', whileN (pickTest R) (pickBody R) k [some (.ref s), some (.int many), a, b] L = .ok (.nx, [some (.ref s), some (.int many), a, b]) (setSrc L s c zs' l' m t) ∧ zs'.length ≤ zs.length
  | 0, _, _, _, _, h => absurd h (Nat.not_lt_zero _)
  | k + 1, zs, l, L, h, hk => by
    unfold whileN
    rw [test_eq h]
    by_cases hc : (decide (many > 1) && (decide (l < 2) && decide (zs.length > 0))) = true
    · rw [hc]
      have hz : zs ≠ [] := by
        intro e; rw [e] at hc; simp at hc
      have ih := loop_eq k zs.dropLast (zs.getLast hz) _ (h.set zs.dropLast (zs.getLast hz) m t) (by rw [List.length_dropLast]; have := List.length_pos_iff.2 hz; omega)
      obtain ⟨zs', l', e, hl⟩ := ih
      refine ⟨zs', l', ?_, by rw [List.length_dropLast] at hl; omega⟩
      show (pickBody R _ L).bind _ = _
      rw [body_eq h hz]
      refine Eq.trans e ?_
      rw [setSrc_twice h.ne]
    · rw [Bool.eq_false_iff.2 hc]
      refine ⟨zs, l, ?_, Nat.le_refl _⟩
      rw [h.id]
      rfl
theorem max_1 {many : Int} : (if many > 1 then many else 1) = max 1 many := by
  by_cases h : many > 1
  · rw [if_pos h]; omega
  · rw [if_neg h]; omega
theorem pick_ok (h : SrcAt L s c zs l m t) (hm : many < 1073741824) (h1 : zs.length < fuel) : ∃ r zs' l' m' t', pickFn.run R [.ref s, .int many] L = .ok (.int r) (setSrc L s c zs' l' m' t') ∧ 0 ≤ r ∧ r < max 1 many ∧ zs'.length ≤ zs.length := by
  obtain ⟨zs1, l1, e1, hl1⟩ := loop_eq (R := R) (many := many) (a := none) (b := none) fuel zs l L h h1
  have H1 := h.set zs1 l1 m t
  have il := ix_src H1 look_left
  have im := ix_src H1 look_mixed
  have it := ix_src H1 look_turn
  have body : ∃ r zs' l' m' t' ρ, (sSeq (sWhile pickTest pickBody) pickRest) R [some (.ref s), some (.int many), none, none] L = .ok (.rt (.int r), ρ) (setSrc L s c zs' l' m' t') ∧ 0 ≤ r ∧ r < max 1 many ∧ zs'.length ≤ zs.length := by
    rw [show (sSeq (sWhile pickTest pickBody) pickRest) R [some (.ref s), some (.int many), none, none] L = pickRest R [some (.ref s), some (.int many), none, none] (setSrc L s c zs1 l1 m t) from s_seq e1]
    have q1 : sAsg (e2 oIx (eVar 0) (eC (.str "left"))) (gNm 2) R [some (.ref s), some (.int many), none, none] (setSrc L s c zs1 l1 m t) = .ok (.nx, [some (.ref s), some (.int many), some (.int l1), none]) (setSrc L s c zs1 l1 m t) := s_asg_nm (by simp [e2, eVar, eC, Res.bind, il])
    have hpos : 0 < max 1 many := by omega
    have hlt : max 1 many < 1073741824 := by omega
    by_cases hc : many < 2 ∨ l1 > 1
    · have q2 : tOr (tV (e2 oLt (eVar 1) (eC (.int 2)))) (tV (e2 oGt (eVar 2) (eC (.int 1)))) R [some (.ref s), some (.int many), some (.int l1), none] (setSrc L s c zs1 l1 m t) = .ok true (setSrc L s c zs1 l1 m t) := by
        by_cases h2 : many < 2
        · simp [tOr, tV, e2, eVar, eC, Res.bind, oLt, oGt, truthD, h2]
        · have h3 : (1 : Int) < l1 := hc.resolve_left h2
          simp [tOr, tV, e2, eVar, eC, Res.bind, oLt, oGt, truthD, h2, h3]
      have e3 := set_src H1 (put_left (l' := l1 / max 1 many))
      have q3 : sAsg (e2 oDiv (eVar 2) (aApp (aCons (eC (.int 1)) (aCons (eVar 1) aNil)) bMaxA)) (gSub (eVar 0) (eC (.str "left"))) R [some (.ref s), some (.int many), some (.int l1), none] (setSrc L s c zs1 l1 m t) = .ok (.nx, [some (.ref s), some (.int many), some (.int l1), none]) (setSrc L s c zs1 (l1 / max 1 many) m t) := by
        refine s_asg (d := .int (l1 / max 1 many)) (L1 := setSrc L s c zs1 l1 m t) ?_ ?_
        · simp [e2, eVar, eC, Res.bind, aApp, aCons, aNil, bMaxA, bMax, max_1, oDiv, hpos, hlt]
        · simp [gSub, eVar, eC, Res.bind, e3, setSrc_put_s h.ne]
      refine ⟨l1 % max 1 many, zs1, l1 / max 1 many, m, t, [some (.ref s), some (.int many), some (.int l1), none], ?_, Int.emod_nonneg _ (by omega), Int.emod_lt_of_pos _ hpos, hl1⟩
      unfold pickRest
      rw [s_seq q1]
      refine s_seq_rt ?_
      rw [s_if_t q2, s_seq q3]
      refine s_seq_rt (s_ret ?_)
      simp [e2, eVar, eC, Res.bind, aApp, aCons, aNil, bInt, bMaxA, bMax, max_1, oMod, hpos]
    · have h2 : ¬ many < 2 := fun x => hc (Or.inl x)
      have h3 : ¬ (1 : Int) < l1 := fun x => hc (Or.inr x)
      have q2 : tOr (tV (e2 oLt (eVar 1) (eC (.int 2)))) (tV (e2 oGt (eVar 2) (eC (.int 1)))) R [some (.ref s), some (.int many), some (.int l1), none] (setSrc L s c zs1 l1 m t) = .ok false (setSrc L s c zs1 l1 m t) := by
        simp [tOr, tV, e2, eVar, eC, Res.bind, oLt, oGt, truthD, h2, h3]
      have e3 := set_src H1 (put_turn (t' := t + 1))
      have q3 : sAsg (e2 oAdd (e2 oIx (eVar 0) (eC (.str "turn"))) (eC (.int 1))) (gSub (eVar 0) (eC (.str "turn"))) R [some (.ref s), some (.int many), some (.int l1), none] (setSrc L s c zs1 l1 m t) = .ok (.nx, [some (.ref s), some (.int many), some (.int l1), none]) (setSrc L s c zs1 l1 m (t + 1)) := by
        refine s_asg (d := .int (t + 1)) (L1 := setSrc L s c zs1 l1 m t) ?_ ?_
        · simp [e2, eVar, eC, Res.bind, it, oAdd]
        · simp [gSub, eVar, eC, Res.bind, e3, setSrc_put_s h.ne]
      have H2 := h.set zs1 l1 m (t + 1)
      have im2 := ix_src H2 look_mixed
      have it2 := ix_src H2 look_turn
      have q4 : sAsg (e2 oMod (aApp (aCons (e2 oAdd (e2 oIx (eVar 0) (eC (.str "mixed"))) (e2 oMul (e2 oIx (eVar 0) (eC (.str "turn"))) (eC (.int 104729)))) aNil) bInt) (eC (.int 998244353))) (gNm 3) R [some (.ref s), some (.int many), some (.int l1), none] (setSrc L s c zs1 l1 m (t + 1)) = .ok (.nx, [some (.ref s), some (.int many), some (.int l1), some (.int ((m + (t + 1) * 104729) % 998244353))]) (setSrc L s c zs1 l1 m (t + 1)) :=
        s_asg_nm (by simp [e2, eVar, eC, Res.bind, aApp, aCons, aNil, bInt, im2, it2, oAdd, oMul, oMod, big64])
      have b1 : 0 ≤ (m + (t + 1) * 104729) % 998244353 := Int.emod_nonneg _ (by omega)
      have b2 : (m + (t + 1) * 104729) % 998244353 < 998244353 := Int.emod_lt_of_pos _ (by omega)
      generalize (m + (t + 1) * 104729) % 998244353 = w at q4 b1 b2
      have q5 : sAsg (e2 oMod (aApp (aCons (e2 oAdd (e2 oMul (eVar 3) (eVar 3)) (e2 oMul (e2 oIx (eVar 0) (eC (.str "turn"))) (eC (.int 17)))) aNil) bInt) (eC (.int 2147483647))) (gNm 3) R [some (.ref s), some (.int many), some (.int l1), some (.int w)] (setSrc L s c zs1 l1 m (t + 1)) = .ok (.nx, [some (.ref s), some (.int many), some (.int l1), some (.int ((w * w + (t + 1) * 17) % 2147483647))]) (setSrc L s c zs1 l1 m (t + 1)) := by
        have hw : -18446744073709551616 < w ∧ w < 18446744073709551616 := by omega
        exact s_asg_nm (by simp [e2, eVar, eC, Res.bind, aApp, aCons, aNil, bInt, it2, oAdd, oMul, oMod, hw, big64])
      generalize (w * w + (t + 1) * 17) % 2147483647 = w2 at q5
      have e4 := set_src H2 (put_mixed (m' := w2))
      have q6 : sAsg (eVar 3) (gSub (eVar 0) (eC (.str "mixed"))) R [some (.ref s), some (.int many), some (.int l1), some (.int w2)] (setSrc L s c zs1 l1 m (t + 1)) = .ok (.nx, [some (.ref s), some (.int many), some (.int l1), some (.int w2)]) (setSrc L s c zs1 l1 w2 (t + 1)) := by
        refine s_asg (d := .int w2) (L1 := setSrc L s c zs1 l1 m (t + 1)) ?_ ?_
        · simp [eVar]
        · simp [gSub, eVar, eC, Res.bind, e4, setSrc_put_s h.ne]
      have hp : 0 < many := by omega
      refine ⟨w2 / 16 % many, zs1, l1, w2, t + 1, [some (.ref s), some (.int many), some (.int l1), some (.int w2)], ?_, Int.emod_nonneg _ (by omega), ?_, hl1⟩
      · unfold pickRest
        rw [s_seq q1, s_seq (s_if_f q2), s_seq q3, s_seq q4, s_seq q5, s_seq q6]
        refine s_seq_rt (s_ret ?_)
        simp [e2, eVar, eC, Res.bind, aApp, aCons, aNil, bInt, oDiv, oMod, hp]
      · have := Int.emod_lt_of_pos (w2 / 16) hp
        omega
  obtain ⟨r, zs', l', m', t', ρ, e, hr⟩ := body
  refine ⟨r, zs', l', m', t', ?_, hr⟩
  unfold Fn.run
  rw [if_pos (show [D.ref s, D.int many].length = pickFn.pars from rfl)]
  show (noExc ((sSeq (sWhile pickTest pickBody) pickRest) R [some (.ref s), some (.int many), none, none] L)).bind _ = _
  rw [e]
  rfl
end
end PD
/-! P15: the source made; a list mixed. -/
namespace PD
open PySem

theorem LH.push_put (L : LH) {n : Nat} (c d : Cell) (h : n < L.len) : (L.push c).put n d = (L.put n d).push c := by
  unfold LH.put LH.push
  dsimp only
  rw [Tr.put_fuel (L.len + 1) (n + L.len + 2) L.t L.len c (by omega) (by omega), Tr.put_fuel (n + 1) (n + L.len + 2) _ n d (by omega) (by omega),
    Tr.put_comm _ _ _ _ _ _ (by omega) (by omega) (by omega), Tr.put_fuel (n + 1) (n + L.len + 2) L.t n d (by omega) (by omega), Tr.put_fuel (L.len + 1) (n + L.len + 2) _ L.len c (by omega) (by omega)]
theorem LH.push_put_new (L : LH) (c d : Cell) : (L.push c).put L.len d = L.push d := by
  unfold LH.put LH.push
  dsimp only
  rw [Tr.put_same _ _ _ _ _ (Nat.lt_succ_self _)]
section
variable {L : LH} {s c : Nat} {zs zs' : List Int} {l m t l' m' t' : Int}
theorem setSrc_push (h : SrcAt L s c zs l m t) (x : Cell) : setSrc (L.push x) s c zs' l' m' t' = (setSrc L s c zs' l' m' t').push x := by
  unfold setSrc
  rw [LH.push_put _ _ _ (LH.get_lt h.x), LH.push_put _ _ _ (by rw [LH.put_len]; exact LH.get_lt h.d)]
theorem SrcAt.push (h : SrcAt L s c zs l m t) (x : Cell) : SrcAt (L.push x) s c zs l m t := by
  have h1 := LH.get_lt h.d
  have h2 := LH.get_lt h.x
  exact ⟨by rw [LH.get_push, if_neg (by omega)]; exact h.d, by rw [LH.get_push, if_neg (by omega)]; exact h.x⟩
end

/-! ### the source -/
theorem rol_loop {R : Rec} {r : D} : ∀ (ns : List Int) (m : Int) (x : Option D) (L : LH), ∃ m' x', forPur (fun x ρ1 M => (gNm 2 R x ρ1 M).st ρ1 fun ρ2 M1 => (sSeq (sAsg (e2 oMod (aApp (aCons (e2 oAdd (e2 oAdd (e2 oMul (eVar 1) (eC (.int 69069))) (e2 oMul (eVar 2) (eC (.int 31)))) (eC (.int 5))) aNil) bInt) (eC (.int 2147483629))) (gNm 1)) sNext) R ρ2 M1) (ns.map D.int) [some r, some (.int m), x] L = .ok (.nx, [some r, some (.int m'), x']) L
  | [], m, x, L => ⟨m, x, rfl⟩
  | n :: ns, m, x, L => by
    obtain ⟨m', x', e⟩ := rol_loop (R := R) (r := r) ns ((m * 69069 + n * 31 + 5) % 2147483629) (some (.int n)) L
    refine ⟨m', x', ?_⟩
    rw [List.map_cons]
    unfold forPur
    have q : ((gNm 2 R (.int n) [some r, some (.int m), x] L).st [some r, some (.int m), x] fun ρ2 M1 => (sSeq (sAsg (e2 oMod (aApp (aCons (e2 oAdd (e2 oAdd (e2 oMul (eVar 1) (eC (.int 69069))) (e2 oMul (eVar 2) (eC (.int 31)))) (eC (.int 5))) aNil) bInt) (eC (.int 2147483629))) (gNm 1)) sNext) R ρ2 M1) = .ok (.nx, [some r, some (.int ((m * 69069 + n * 31 + 5) % 2147483629)), some (.int n)]) L := by
      show (sSeq _ sNext) R [some r, some (.int m), some (.int n)] L = _
      rw [s_seq (s_asg_nm (d := .int ((m * 69069 + n * 31 + 5) % 2147483629)) (L1 := L) (by simp [e2, eVar, eC, Res.bind, aApp, aCons, aNil, bInt, oAdd, oMul, oMod, big64]))]
      rfl
    rw [q]
    exact e
theorem abs_lc {R : Rec} {r : D} {y z : Option D} : ∀ (ns : List Int) (acc : List D) (L : LH), acc.length + ns.length < sizeLine → ∃ zs : List Int, zs.length = ns.length ∧ lcPur (fun x M => cTurn (gNm 2) tYesT (aApp (aCons (eVar 2) aNil) bAbs) R x (wipeE [some r, y, z] [2]) M) (ns.map D.int) acc L = .ok (acc ++ zs.map D.int) L
  | [], acc, L, _ => ⟨[], rfl, by rw [List.map_nil, List.append_nil]; rfl⟩
  | n :: ns, acc, L, h => by
    rw [List.length_cons] at h
    obtain ⟨zs, hl, e⟩ := abs_lc (R := R) (r := r) (y := y) (z := z) ns (acc ++ [.int (if n < 0 then -n else n)]) L (by rw [List.length_append, List.length_singleton]; omega)
    refine ⟨(if n < 0 then -n else n) :: zs, by rw [List.length_cons, List.length_cons, hl], ?_⟩
    rw [List.map_cons]
    unfold lcPur
    rw [show cTurn (gNm 2) tYesT (aApp (aCons (eVar 2) aNil) bAbs) R (.int n) (wipeE [some r, y, z] [2]) L = .ok (some (.int (if n < 0 then -n else n))) L from rfl]
    show (if acc.length < sizeLine then _ else _) = _
    rw [if_pos (by omega), e, List.map_cons, List.append_assoc]
    rfl
/-- the source made -/
def newSrc (L : LH) (xs : List D) (zs : List Int) (m : Int) : LH := ((L.push (.lst xs)).push (.lst (zs.map D.int))).push (.dct (srcKvs (L.len + 1) 1 m 0))
theorem newSrc_at {L : LH} {xs : List D} {zs : List Int} {m : Int} : SrcAt (newSrc L xs zs m) (L.len + 2) (L.len + 1) zs 1 m 0 := by
  refine ⟨?_, ?_⟩
  · simp [newSrc, LH.get_push, LH.push_len]
  · simp [newSrc, LH.get_push, LH.push_len]
theorem source_ok (R : Rec) (ns : List Int) (L : LH) (h : ns.length < sizeLine) : ∃ xs zs m, zs.length = ns.length ∧ sourceFn.run R [.rol (ns.map D.int)] L = .ok (.ref (L.len + 2)) (newSrc L xs zs m) := by
  obtain ⟨m, x, e1'⟩ := rol_loop (R := R) (r := .rol (ns.map D.int)) ns 11 none L
  obtain ⟨zs, hl, e2'⟩ := abs_lc (R := R) (r := .rol (ns.map D.int)) (y := some (.int m)) (z := x) ns [] L (by simpa using h)
  refine ⟨zs.map D.int, zs.reverse, m, by rw [List.length_reverse, hl], ?_⟩
  unfold Fn.run
  rw [if_pos (show [D.rol (ns.map D.int)].length = sourceFn.pars from rfl)]
  have q1 : sAsg (eC (.int 11)) (gNm 1) R [some (.rol (ns.map D.int)), none, none] L = .ok (.nx, [some (.rol (ns.map D.int)), some (.int 11), none]) L := rfl
  have q3 : e1 oRevL (eLc [2] (iE (eVar 0)) (cTurn (gNm 2) tYesT (aApp (aCons (eVar 2) aNil) bAbs))) R [some (.rol (ns.map D.int)), some (.int m), x] L = .ok (.ref (L.len + 1)) ((L.push (.lst (zs.map D.int))).push (.lst (zs.reverse.map D.int))) := by
    have q4 : eLc [2] (iE (eVar 0)) (cTurn (gNm 2) tYesT (aApp (aCons (eVar 2) aNil) bAbs)) R [some (.rol (ns.map D.int)), some (.int m), x] L = .ok (.ref L.len) (L.push (.lst (zs.map D.int))) := by
      show (lcPur _ (ns.map D.int) [] L).bind _ = _
      rw [e2']
      rfl
    unfold e1
    rw [q4]
    show oRevL (.ref L.len) (L.push (.lst (zs.map D.int))) = _
    unfold oRevL
    simp only [LH.get_push, if_pos, List.map_reverse, LH.push_len]
  rw [show (List.map some [D.rol (ns.map D.int)] ++ List.replicate (sourceFn.slots - sourceFn.pars) none) = [some (.rol (ns.map D.int)), none, none] from rfl]
  unfold sourceFn
  dsimp only
  rw [s_seq q1, s_seq (ρ1 := [some (.rol (ns.map D.int)), some (.int m), x]) (L1 := L) e1']
  have q5 : eDct [(eC (.str "cells"), e1 oRevL (eLc [2] (iE (eVar 0)) (cTurn (gNm 2) tYesT (aApp (aCons (eVar 2) aNil) bAbs)))), (eC (.str "left"), eC (.int 1)), (eC (.str "mixed"), eVar 1), (eC (.str "turn"), eC (.int 0))] R [some (.rol (ns.map D.int)), some (.int m), x] L = .ok (.ref (L.len + 2)) (newSrc L (zs.map D.int) zs.reverse m) := by
    unfold eDct
    have q6 : pPairs [(eC (.str "cells"), e1 oRevL (eLc [2] (iE (eVar 0)) (cTurn (gNm 2) tYesT (aApp (aCons (eVar 2) aNil) bAbs)))), (eC (.str "left"), eC (.int 1)), (eC (.str "mixed"), eVar 1), (eC (.str "turn"), eC (.int 0))] R [some (.rol (ns.map D.int)), some (.int m), x] L = .ok (srcKvs (L.len + 1) 1 m 0) ((L.push (.lst (zs.map D.int))).push (.lst (zs.reverse.map D.int))) := by
      unfold pPairs
      show ((e1 oRevL _ R _ L).bind _) = _
      rw [q3]
      rfl
    rw [q6]
    rfl
  rw [s_seq_rt (s_ret q5)]
  rfl

/-! ### a list mixed -/
theorem perm_erase {α : Type} : ∀ (l : List α) (i : Nat) (h : i < l.length), (l[i] :: l.eraseIdx i).Perm l
  | [], _, h => absurd h (Nat.not_lt_zero _)
  | a :: l, 0, _ => List.Perm.refl _
  | a :: l, i + 1, h => ((List.Perm.swap a (l[i]'(Nat.lt_of_succ_lt_succ h)) (l.eraseIdx i))).trans ((perm_erase l i (Nat.lt_of_succ_lt_succ h)).cons a)
section
variable {L : LH} {s c : Nat} {R R' : Rec} {p : Nat} {td : D}
abbrev mixTurn (p : Nat) : FC := cTurn (gNm 3) tYesT (eBM "list" mPop (eVar 2) (aCons (eCall p (aCons (eVar 0) (aCons (aApp (aCons (eVar 2) aNil) bLen) aNil))) aNil))
theorem mix_step (hR : ∀ as M, R p as M = pickFn.run R' as M) {z0 zs : List Int} {l0 m0 t0 l m t : Int} (h : SrcAt L s c z0 l0 m0 t0) (hz : zs.length < fuel) (rest : List D) (hr : rest ≠ []) (hb : rest.length < 1073741824) (x : D) :
    ∃ y rest' zs' l' m' t', mixTurn p R x [some (.ref s), some td, some (.ref L.len), none] ((setSrc L s c zs l m t).push (.lst rest)) = .ok (some y) ((setSrc L s c zs' l' m' t').push (.lst rest')) ∧ (y :: rest').Perm rest ∧ zs'.length ≤ zs.length := by
  have hM := (h.set zs l m t).push (.lst rest)
  obtain ⟨r, zs', l', m', t', e, r0, r1, hl⟩ := pick_ok (R := R') hM (many := (rest.length : Int)) (by omega) hz
  rw [setSrc_push (h.set zs l m t), setSrc_twice h.ne] at e
  have hp : 0 < rest.length := List.length_pos_iff.2 hr
  have hlt : r.toNat < rest.length := by omega
  refine ⟨rest[r.toNat], rest.eraseIdx r.toNat, zs', l', m', t', ?_, perm_erase rest r.toNat hlt, hl⟩
  have g1 : ((setSrc L s c zs l m t).push (.lst rest)).get L.len = some (.lst rest) := by rw [LH.get_push, if_pos setSrc_len.symm]
  have g2 : ((setSrc L s c zs' l' m' t').push (.lst rest)).get L.len = some (.lst rest) := by rw [LH.get_push, if_pos setSrc_len.symm]
  have t1 : tyIs "list" (.ref L.len) ((setSrc L s c zs l m t).push (.lst rest)) = true := by unfold tyIs; simp only [g1]; rfl
  have b1 : bLen [.ref L.len] ((setSrc L s c zs l m t).push (.lst rest)) = .ok (.int rest.length) ((setSrc L s c zs l m t).push (.lst rest)) := by unfold bLen; simp only [g1]
  have e2 : R p [.ref s, .int rest.length] ((setSrc L s c zs l m t).push (.lst rest)) = .ok (.int r) ((setSrc L s c zs' l' m' t').push (.lst rest)) := by rw [hR]; exact e
  have p1 : mPop (.ref L.len) [.int r] ((setSrc L s c zs' l' m' t').push (.lst rest)) = .ok rest[r.toNat] ((setSrc L s c zs' l' m' t').push (.lst (rest.eraseIdx r.toNat))) := by
    unfold mPop
    have i1 : ixOf rest.length r = some r.toNat := by unfold ixOf; rw [if_pos r0, if_pos (by omega)]
    have i2 : -(2 ^ 63) ≤ r ∧ r < 2 ^ 63 := by omega
    simp only [g2]
    rw [if_pos i2, i1]
    simp only [List.getElem?_eq_getElem hlt]
    rw [show ((setSrc L s c zs' l' m' t').push (.lst rest)).put L.len (.lst (rest.eraseIdx r.toNat)) = _ from LH.push_put_new (setSrc L s c zs' l' m' t') _ _]
  simp [mixTurn, cTurn, gNm, tYesT, eBM, eCall, eVar, aCons, aNil, aApp, Res.bind, t1, b1, e2, p1, noExc]
theorem mix_lc (hR : ∀ as M, R p as M = pickFn.run R' as M) {z0 : List Int} {l0 m0 t0 : Int} (h : SrcAt L s c z0 l0 m0 t0) : ∀ (xs : List D) (acc rest : List D) (zs : List Int) (l m t : Int), zs.length < fuel → rest.length < 1073741824 → xs.length = rest.length → acc.length + rest.length ≤ sizeLine →
    ∃ ys zs' l' m' t', lcPur (fun x M => mixTurn p R x [some (.ref s), some td, some (.ref L.len), none] M) xs acc ((setSrc L s c zs l m t).push (.lst rest)) = .ok (acc ++ ys) ((setSrc L s c zs' l' m' t').push (.lst [])) ∧ ys.Perm rest ∧ zs'.length ≤ zs.length
  | [], acc, rest, zs, l, m, t, hz, hb, hx, hs => by
    have e : rest = [] := List.eq_nil_of_length_eq_zero hx.symm
    subst e
    exact ⟨[], zs, l, m, t, by rw [List.append_nil]; rfl, List.Perm.refl _, Nat.le_refl _⟩
  | x :: xs, acc, rest, zs, l, m, t, hz, hb, hx, hs => by
    have hr : rest ≠ [] := by intro e; rw [e] at hx; cases hx
    obtain ⟨y, rest', zs1, l1, m1, t1, e1, hp, hl⟩ := mix_step (td := td) hR h hz rest hr hb x
    have hlen : rest'.length + 1 = rest.length := by rw [← hp.length_eq]; rfl
    rw [List.length_cons] at hx
    obtain ⟨ys, zs', l', m', t', e2, hp2, hl2⟩ := mix_lc hR h xs (acc ++ [y]) rest' zs1 l1 m1 t1 (by omega) (by omega) (by omega) (by rw [List.length_append, List.length_singleton]; omega)
    refine ⟨y :: ys, zs', l', m', t', ?_, (hp2.cons y).trans hp, by omega⟩
    unfold lcPur
    rw [e1]
    show (if acc.length < sizeLine then _ else _) = _
    rw [if_pos (by omega), e2, List.append_assoc]
    rfl
theorem mixed_ok (hR : ∀ as M, R p as M = pickFn.run R' as M) {z0 : List Int} {l0 m0 t0 : Int} (h : SrcAt L s c z0 l0 m0 t0) (hz : z0.length < fuel) (things : List D) (hb : things.length ≤ 1000000) (ht : bLst [td] L = .ok (.ref L.len) (L.push (.lst things))) :
    ∃ ys zs' l' m' t', (mixedFn p).run R [.ref s, td] L = .ok (.ref (L.len + 1)) (((setSrc L s c zs' l' m' t').push (.lst [])).push (.lst ys)) ∧ ys.Perm things ∧ zs'.length ≤ z0.length := by
  obtain ⟨ys, zs', l', m', t', e, hp, hl⟩ := mix_lc (td := td) hR h (rgInts 0 things.length) [] things z0 l0 m0 t0 hz (by omega) (by unfold rgInts; rw [List.length_map, List.length_range]) (by show _ ≤ sizeLine; unfold sizeLine; simp; omega)
  rw [h.id] at e
  refine ⟨ys, zs', l', m', t', ?_, hp, hl⟩
  unfold Fn.run
  rw [if_pos (show [D.ref s, td].length = (mixedFn p).pars from rfl)]
  have q1 : sAsg (aApp (aCons (eVar 1) aNil) bLst) (gNm 2) R [some (.ref s), some td, none, none] L = .ok (.nx, [some (.ref s), some td, some (.ref L.len), none]) (L.push (.lst things)) := s_asg_nm (by simp [aApp, aCons, aNil, eVar, Res.bind, ht])
  have g1 : (L.push (.lst things)).get L.len = some (.lst things) := by rw [LH.get_push, if_pos rfl]
  have q2 : iRange1 (aCons (aApp (aCons (eVar 2) aNil) bLen) aNil) R [some (.ref s), some td, some (.ref L.len), none] (L.push (.lst things)) = .ok (.pur (rgInts 0 things.length)) (L.push (.lst things)) := by
    have i : in62 (things.length : Int) = true := by
      unfold in62
      rw [decide_eq_true (show -(2 ^ 62) ≤ (things.length : Int) by omega), decide_eq_true (show (things.length : Int) < 2 ^ 62 by omega)]
      rfl
    simp [iRange1, aApp, aCons, aNil, eVar, Res.bind, bLen, g1, i]
  have q3 : eLc [3] (iRange1 (aCons (aApp (aCons (eVar 2) aNil) bLen) aNil)) (mixTurn p) R [some (.ref s), some td, some (.ref L.len), none] (L.push (.lst things)) = .ok (.ref (L.len + 1)) (((setSrc L s c zs' l' m' t').push (.lst [])).push (.lst ys)) := by
    unfold eLc
    rw [q2]
    show (lcPur _ _ [] _).bind _ = _
    rw [show lcPur (fun x M => mixTurn p R x (wipeE [some (.ref s), some td, some (.ref L.len), none] [3]) M) (rgInts 0 things.length) [] (L.push (.lst things)) = _ from e]
    rfl
  show (noExc (sSeq _ _ R [some (.ref s), some td, none, none] L)).bind _ = _
  rw [s_seq q1, s_seq_rt (s_ret q3)]
  rfl
end
end PD
namespace PD
open PySem
/-! ### a def run in pieces -/
def isNx : Res (Fl × Slt) → Bool
  | .ok (.nx, _) _ => true
  | _ => false
def gS : Res (Fl × Slt) → Slt
  | .ok (_, ρ) _ => ρ
  | _ => []
def gL {α : Type} : Res α → LH
  | .ok _ L => L
  | _ => LH.nil
theorem isNx_eq {r : Res (Fl × Slt)} (h : isNx r = true) : r = .ok (.nx, gS r) (gL r) := by
  unfold isNx at h
  split at h
  · rfl
  · cases h
def isT : Res D → Bool
  | .ok (.bl true) _ => true
  | _ => false
theorem isT_eq {r : Res D} (h : isT r = true) : ∃ L, r = .ok (.bl true) L := by
  unfold isT at h
  split at h
  · exact ⟨_, rfl⟩
  · cases h
/-- what a def answers, its body run -/
def fin (r : Res (Fl × Slt)) : Res D := (noExc r).bind fun p L1 => match p.1 with
  | .rt d => .ok d L1
  | .nx => .ok .non L1
  | .ex c fs => .exc c fs L1
  | _ => .bad
theorem cB_app {f : Stmt → FS} {R : Rec} {ρ ρ1 : Slt} {L L1 : LH} : ∀ {a b : List Stmt}, cB f a R ρ L = .ok (.nx, ρ1) L1 → cB f (a ++ b) R ρ L = cB f b R ρ1 L1
  | [], b, h => by cases h; rfl
  | s :: a, b, h => by
    show sSeq (f s) (cB f (a ++ b)) R ρ L = _
    have h' : sSeq (f s) (cB f a) R ρ L = _ := h
    unfold sSeq at h' ⊢
    cases e : f s R ρ L with
    | ok x M =>
      rw [e] at h'
      obtain ⟨fl, ρ2⟩ := x
      cases fl <;> first
        | exact cB_app h'
        | cases h'
    | exc c fs M => rw [e] at h'; cases h'
    | bad => rw [e] at h'; cases h'
/-- the compiled statements of a def -/
def Pg.st (p : Pg) (f : DF) : Stmt → FS := (cmp p.T deep).S ⟨f.N, false, true, f.d.scope⟩
theorem Pg.run_def {p : Pg} {f : DF} {k n : Nat} {as : List D} {L : LH} (h : p.dfs[k]? = some f) (hl : as.length = f.ps.length) : runN p.F (n + 1) k as L = fin (cB (p.st f) f.d.body (runN p.F n) (as.map some ++ List.replicate (f.N.length - f.ps.length) none) L) := by
  have e : p.F k = some (cFn p.T f.N f.ps.length f.d.scope f.d.body) := by unfold Pg.F; rw [h]
  show (match p.F k with
    | some f => f.run (runN p.F n) as L
    | none => .bad) = _
  rw [e]
  show (if as.length = f.ps.length then _ else _) = _
  rw [if_pos hl]
  rfl
theorem Pg.run_as {p : Pg} {g : Fn} {k n : Nat} {as : List D} {L : LH} (h : p.F k = some g) : runN p.F (n + 1) k as L = g.run (runN p.F n) as L := by
  show (match p.F k with
    | some f => f.run (runN p.F n) as L
    | none => .bad) = _
  rw [h]
theorem x_call {R : Rec} {ρ : Slt} {L L1 L2 : LH} {i : Nat} {a : FA} {as : List D} {d : D} (h : a R ρ L = .ok as L1) (h2 : R i as L1 = .ok d L2) : eCall i a R ρ L = .ok d L2 := by
  unfold eCall
  rw [h]
  exact h2
theorem i_of {R : Rec} {ρ : Slt} {L L1 : LH} {e : FE} {d : D} (h : e R ρ L = .ok d L1) : iE e R ρ L = itOf d L1 := by
  unfold iE
  rw [h]
  rfl
end PD
/-! P16: the same compiled text, the heap forced at each step (for the kernel's evaluation). -/
namespace PD
open PySem
def frN {α : Type} (n : Nat) (k : Nat → α) : α := match n with
  | 0 => k 0
  | m + 1 => k (m + 1)
theorem frN_eq {α : Type} (n : Nat) (k : Nat → α) : frN n k = k n := by cases n <;> rfl
def frC {α : Type} (c : Cell) (k : Cell → α) : α := match c with
  | .lst xs => k (.lst xs)
  | .dct kvs => k (.dct kvs)
  | .ins c fs => k (.ins c fs)
  | .set xs => k (.set xs)
theorem frC_eq {α : Type} (c : Cell) (k : Cell → α) : frC c k = k c := by cases c <;> rfl
def frV {α : Type} (c : Option Cell) (k : Option Cell → α) : α := match c with
  | none => k none
  | some c => frC c fun c => k (some c)
theorem frV_eq {α : Type} (c : Option Cell) (k : Option Cell → α) : frV c k = k c := by
  cases c with
  | none => rfl
  | some c => exact frC_eq c (fun c => k (some c))
def frT {α : Type} : Tr → (Tr → α) → α
  | .nil, k => k .nil
  | .node l v r, k => frT l fun l => frT r fun r => frV v fun v => k (.node l v r)
theorem frT_eq {α : Type} : ∀ (t : Tr) (k : Tr → α), frT t k = k t
  | .nil, k => rfl
  | .node l v r, k => by
    unfold frT
    rw [frT_eq l, frT_eq r, frV_eq]
def frH {α : Type} (L : LH) (k : LH → α) : α := match L with
  | ⟨t, n⟩ => frT t fun t => frN n fun n => k ⟨t, n⟩
theorem frH_eq {α : Type} (L : LH) (k : LH → α) : frH L k = k L := by
  obtain ⟨t, n⟩ := L
  unfold frH
  dsimp only
  rw [frT_eq, frN_eq]
def frD {α : Type} (d : D) (k : D → α) : α := match d with
  | .non => k .non
  | .bl b => k (.bl b)
  | .int i => k (.int i)
  | .str x => k (.str x)
  | .tup l => k (.tup l)
  | .ref n => frN n fun n => k (.ref n)
  | .rol l => k (.rol l)
  | .fn i => k (.fn i)
theorem frD_eq {α : Type} (d : D) (k : D → α) : frD d k = k d := by
  cases d with
  | ref n => exact frN_eq n (fun n => k (.ref n))
  | _ => rfl
def frO {α : Type} (c : Option D) (k : Option D → α) : α := match c with
  | none => k none
  | some c => frD c fun c => k (some c)
theorem frO_eq {α : Type} (c : Option D) (k : Option D → α) : frO c k = k c := by
  cases c with
  | none => rfl
  | some c => exact frD_eq c (fun c => k (some c))
def frS {α : Type} : Slt → (Slt → α) → α
  | [], k => k []
  | x :: r, k => frO x fun x => frS r fun r => k (x :: r)
theorem frS_eq {α : Type} : ∀ (ρ : Slt) (k : Slt → α), frS ρ k = k ρ
  | [], k => rfl
  | x :: r, k => by
    unfold frS
    rw [frO_eq, frS_eq r]
def frX {α : Type} (f : Rec → Slt → LH → α) : Rec → Slt → LH → α := fun R ρ L => frS ρ fun ρ => frH L fun L => f R ρ L
theorem frX_eq {α : Type} (f : Rec → Slt → LH → α) : frX f = f := by
  funext R ρ L
  unfold frX
  rw [frS_eq, frH_eq]
def Cmp.stepF (T : Tab) (c : Cmp) : Cmp := ⟨fun x e => frX (exE T c x e), fun x e => frX (exT c x e), exI T c, exG c, exW c, fun x s => frX (exS T c x s)⟩
theorem Cmp.stepF_eq (T : Tab) (c : Cmp) : Cmp.stepF T c = Cmp.step T c := by
  unfold Cmp.stepF Cmp.step
  simp only [frX_eq]
def cmpF (T : Tab) : Nat → Cmp
  | 0 => .bad
  | n + 1 => (cmpF T n).stepF T
theorem cmpF_eq (T : Tab) : ∀ n, cmpF T n = cmp T n
  | 0 => rfl
  | n + 1 => by
    show (cmpF T n).stepF T = (cmp T n).step T
    rw [Cmp.stepF_eq, cmpF_eq T n]
def Pg.stF (p : Pg) (f : DF) : Stmt → FS := (cmpF p.T deep).S ⟨f.N, false, true, f.d.scope⟩
theorem Pg.stF_eq (p : Pg) (f : DF) : p.stF f = p.st f := by unfold Pg.stF Pg.st; rw [cmpF_eq]
def cFnF (T : Tab) (N : List Str) (pars : Nat) (sc : Scope) (body : List Stmt) : Fn := ⟨N.length, pars, cB ((cmpF T deep).S ⟨N, false, true, sc⟩) body⟩
def Pg.FF (p : Pg) (i : Nat) : Option Fn := match p.dfs[i]? with
  | some f => some (cFnF p.T f.N f.ps.length f.d.scope f.d.body)
  | none => (p.xs[i - p.dfs.length]?).bind (XF.fn p.T)
theorem Pg.FF_eq (p : Pg) : p.FF = p.F := by
  funext i
  unfold Pg.FF Pg.F cFnF cFn
  simp only [cmpF_eq]
  all_goals rfl
theorem Pg.run_defF {p : Pg} {f : DF} {k n : Nat} {as : List D} {L : LH} (h : p.dfs[k]? = some f) (hl : as.length = f.ps.length) : runN p.FF (n + 1) k as L = fin (cB (p.stF f) f.d.body (runN p.FF n) (as.map some ++ List.replicate (f.N.length - f.ps.length) none) L) := by
  rw [Pg.FF_eq, Pg.stF_eq]
  exact Pg.run_def h hl
theorem Pg.run_asF {p : Pg} {g : Fn} {k n : Nat} {as : List D} {L : LH} (h : p.F k = some g) : runN p.FF (n + 1) k as L = g.run (runN p.FF n) as L := by
  rw [Pg.FF_eq]
  exact Pg.run_as h
def tl (b : FS) (R : Rec) (r : Res (Fl × Slt)) : Res (Fl × Slt) := r.bind fun p L1 => match p.1 with
  | .nx => b R p.2 L1
  | f => .ok (f, p.2) L1
theorem tl_eq {a b : FS} {R : Rec} {ρ : Slt} {L : LH} : sSeq a b R ρ L = tl b R (a R ρ L) := rfl
theorem perm2 {α : Type} {a b : α} : ∀ {ys : List α}, ys.Perm [a, b] → ys = [a, b] ∨ ys = [b, a]
  | [], h => by have := h.length_eq; cases this
  | [x], h => by have := h.length_eq; cases this
  | x :: y :: z :: r, h => by have := h.length_eq; simp at this
  | [x, y], h => by
    have hx : x ∈ [a, b] := h.subset (List.mem_cons_self ..)
    rcases List.mem_cons.1 hx with e | e
    · subst e
      have := List.perm_singleton.1 (List.Perm.cons_inv h)
      left; rw [this]
    · have e := List.mem_singleton.1 e
      subst e
      have := List.perm_singleton.1 (List.Perm.cons_inv (h.trans (List.Perm.swap x a [])))
      right; rw [this]
end PD
namespace K82
open PySem PySem.Spec PyProof.Rows L2 PD
def top (i : Nat) : Stmt := PySem.Challenge.pw_shareforsure_k82_households_by_hand.main.body.getD i (.Pass ⟨0, 0, 0, 0⟩)
def inner (s : Stmt) : List Stmt := match s with
  | .ClassDef _ _ _ b _ _ _ _ _ _ _ => b
  | _ => []
def mem (i j : Nat) : Stmt := (inner (top i)).getD j (.Pass ⟨0, 0, 0, 0⟩)
def df (at_ : Str × Option Str) (name qual : Str) (s : Stmt) (N ps : List Str) : DF := ⟨⟨at_, name, qual, defArgs s, defBody s, defScope s, [], []⟩, N, ps⟩
def xf (cls qual : Str) (s : Stmt) (N ps : List Str) (fld : Str) : XF := ⟨cls, qual, defArgs s, defBody s, defScope s, N, ps, fld⟩
/- 0: law -/
def d0 : DF := df ("law", none) "law" "law" (top 12) ["script", "source", "house", "name", "told"] ["script"]
/- 1: _law_source -/
def d1 : DF := df ("_law_source", none) "_law_source" "_law_source" (top 8) ["script", "mixed", "cell"] ["script"]
/- 2: Household __init__ -/
def d2 : DF := df ("Household", some "__init__") "__init__" "Household.__init__" (mem 6 0) ["self", "yard", "names", "number", "name"] ["self", "yard", "names"]
/- 3: _law_mixed -/
def d3 : DF := df ("_law_mixed", none) "_law_mixed" "_law_mixed" (top 10) ["source", "things", "rest", "lap"] ["source", "things"]
/- 4: Household come -/
def d4 : DF := df ("Household", some "come") "come" "Household.come" (mem 6 8) ["self", "name", "number"] ["self", "name"]
/- 5: Household take -/
def d5 : DF := df ("Household", some "take") "take" "Household.take" (mem 6 12) ["self", "name", "number"] ["self", "name"]
/- 6: Household room_of -/
def d6 : DF := df ("Household", some "room_of") "room_of" "Household.room_of" (mem 6 6) ["self", "name"] ["self", "name"]
/- 7: Household worth_of -/
def d7 : DF := df ("Household", some "worth_of") "worth_of" "Household.worth_of" (mem 6 5) ["self", "name"] ["self", "name"]
/- 8: Household fall -/
def d8 : DF := df ("Household", some "fall") "fall" "Household.fall" (mem 6 9) ["self", "name", "number"] ["self", "name"]
/- 9: Household seen -/
def d9 : DF := df ("Household", some "seen") "seen" "Household.seen" (mem 6 11) ["self", "names", "numbers", "name", "number"] ["self", "names"]
/- 10: Household is_here -/
def d10 : DF := df ("Household", some "is_here") "is_here" "Household.is_here" (mem 6 7) ["self", "name"] ["self", "name"]
/- 11: _law_word -/
def d11 : DF := df ("_law_word", none) "_law_word" "_law_word" (top 11) ["house", "way", "name", "error"] ["house", "way", "name"]
/- 12: Household here -/
def d12 : DF := df ("Household", some "here") "here" "Household.here" (mem 6 10) ["self", "number"] ["self"]
/- 13: Household loads -/
def d13 : DF := df ("Household", some "loads") "loads" "Household.loads" (mem 6 13) ["self"] ["self"]
/- 14: Household number_of -/
def d14 : DF := df ("Household", some "number_of") "number_of" "Household.number_of" (mem 6 3) ["self", "name"] ["self", "name"]
/- 15: Household names -/
def d15 : DF := df ("Household", some "names") "names" "Household.names" (mem 6 2) ["self"] ["self"]
/- 16: Household name_of -/
def d16 : DF := df ("Household", some "name_of") "name_of" "Household.name_of" (mem 6 4) ["self", "number"] ["self", "number"]
/- 17: _law_pick -/
def d17 : DF := df ("_law_pick", none) "_law_pick" "_law_pick" (top 9) ["source", "many", "left", "mixed"] ["source", "many"]
def tfns : List (Str × Nat) := [("law", 0), ("_law_source", 1), ("_law_mixed", 3), ("_law_word", 11), ("_law_pick", 17)]
def tcls : List (Str × (Nat × Nat)) := [("Household", (0, 2))]
def tmets : List (Str × List (Nat × Nat)) := [("come", [(0, 4)]), ("take", [(0, 5)]), ("room_of", [(0, 6)]), ("worth_of", [(0, 7)]), ("fall", [(0, 8)]), ("seen", [(0, 9)]), ("is_here", [(0, 10)]), ("here", [(0, 12)]), ("loads", [(0, 13)]), ("number_of", [(0, 14)]), ("names", [(0, 15)]), ("name_of", [(0, 16)])]
def tflds : List (Str × List Nat) := [("kept", [0]), ("known", [0]), ("present", [0]), ("given", [0])]
def tcon : List (Str × D) := []
def tblt : List Str := ["len", "abs", "max", "int", "tuple", "list", "isinstance", "range", "enumerate", "str"]
def x0 : XF := xf "BadAct" "BadAct.__init__" (mem 2 0) ["self", "word", "__class__"] ["self", "word"] "word"
def texcs : List (Str × (Nat × (Str × Nat))) := [("BadAct", (1, ("word", 18)))]
def thnds : List (Str × (Nat × List Nat)) := [("BadAct", (1, [1]))]
def txfl : List (Str × List Nat) := [("word", [1])]
def T : Tab := ⟨tfns, tcls, tmets, tflds, tcon, tblt, texcs, thnds, [1], txfl⟩
def dfs : List DF := [d0, d1, d2, d3, d4, d5, d6, d7, d8, d9, d10, d11, d12, d13, d14, d15, d16, d17]
def clss : List Str := ["Household", "BadAct"]
def p : Pg := ⟨T, clss, dfs, [x0]⟩
def F : Nat → Option Fn := p.F
theorem texts : p.texts = true := by decide +kernel
abbrev Rw : PySem.W.OpenRow := PySem.W.OpenLaw.row PySem.Challenge.rw_shareforsure_k82_households_by_hand
abbrev hk : PySem.W.Hook := hookX 6 p PySem.Challenge.rw_shareforsure_k82_households_by_hand.prog
def ob (s : PySem.W.SharedT) : AlX := obsXG 6 p PySem.Challenge.rw_shareforsure_k82_households_by_hand.prog (HandSHeadRun.getT s)
theorem ob_eq (s : PySem.W.SharedT) : ob s = hk.obs s.abs := obsXG_eq (HandSHeadRun.getT_eq s)
def loose : List PySem.Str := ["YardError", "BadAct", "NameMissing", "UnknownName", "Household", "_law_source", "_law_pick", "_law_mixed", "_law_word"]
theorem run (w : World) : HandSHeadRun.RunEq Rw (PySem.W.view Rw.prog [12]) hk ob 3000 loose w := by
  intro os
  kernel_rfl
end K82
namespace K82
open PySem PySem.Spec PyProof.Rows L2 PD
def B : List Stmt := d0.d.body
def s4 : Stmt := B.getD 4 (.Pass ⟨0, 0, 0, 0⟩)
def forB : Stmt → List Stmt
  | .For _ _ b _ _ => b
  | _ => []
def R59 : Rec := runN p.FF 59
def fbody : FS := cB ((cmpF p.T 39).S ⟨d0.N, false, true, d0.d.scope⟩) (forB s4)
theorem F1 : p.F 1 = some sourceFn := by kernel_rfl
theorem F17 : p.F 17 = some pickFn := by kernel_rfl
theorem F3 : p.F 3 = some (mixedFn 17) := by kernel_rfl
theorem B_eq : B = B.take 1 ++ ((B.drop 1).take 3 ++ s4 :: B.drop 5) := by kernel_rfl
theorem s0_eq : cB (p.stF d0) (B.take 1) = sSeq (frX (sAsg (frX (eCall 1 (aCons (frX (eVar 0)) aNil))) (gNm 1))) sNext := by kernel_rfl
theorem s4_eq : p.stF d0 s4 = frX (sFor (gNm 3) (iE (frX (eCall 3 (aCons (frX (eVar 1)) (aCons (frX (aApp (aCons (frX (eC (.str "b"))) (aCons (frX (eC (.str "c"))) aNil)) oLst)) aNil))))) fbody) := by kernel_rfl
def A (rl : List D) (xs : List D) (zs : List Int) (m : Int) : Res (Fl × Slt) := cB (p.stF d0) ((B.drop 1).take 3) R59 [some (.rol rl), some (.ref 2), none, none, none] (newSrc LH.nil xs zs m)
theorem A_nx (rl : List D) (xs : List D) (zs : List Int) (m : Int) : isNx (A rl xs zs m) = true := by kernel_rfl
def L2 (rl : List D) (xs : List D) (zs : List Int) (m : Int) : LH := gL (A rl xs zs m)
def S2 (rl : List D) (xs : List D) (zs : List Int) (m : Int) : Slt := gS (A rl xs zs m)
theorem L2_s (rl : List D) (xs : List D) (zs : List Int) (m : Int) : (L2 rl xs zs m).get 2 = some (.dct (srcKvs 1 1 m 0)) := by kernel_rfl
theorem L2_c (rl : List D) (xs : List D) (zs : List Int) (m : Int) : (L2 rl xs zs m).get 1 = some (.lst (zs.map D.int)) := by kernel_rfl
theorem S2_1 (rl : List D) (xs : List D) (zs : List Int) (m : Int) : (S2 rl xs zs m)[1]? = some (some (.ref 2)) := by kernel_rfl
def L3 (rl : List D) (xs : List D) (zs : List Int) (m : Int) : LH := (L2 rl xs zs m).push (.lst [.str "b", .str "c"])
def L4 (rl : List D) (xs : List D) (zs zs' : List Int) (m l' m' t' : Int) (ys : List D) : LH := ((setSrc (L3 rl xs zs m) 2 1 zs' l' m' t').push (.lst [])).push (.lst ys)
def rest (rl : List D) (xs : List D) (zs zs' : List Int) (m l' m' t' : Int) (ys : List D) : Res (Fl × Slt) :=
  ((itOf (.ref ((L3 rl xs zs m).len + 1)) (L4 rl xs zs zs' m l' m' t' ys)).st (S2 rl xs zs m) fun j L1 => forRun (fun x ρ1 M => (gNm 3 R59 x ρ1 M).st ρ1 fun ρ2 M1 => fbody R59 ρ2 M1) j (S2 rl xs zs m) L1)
theorem end1 (rl : List D) (xs : List D) (zs zs' : List Int) (m l' m' t' : Int) : isT (fin (tl (cB (p.stF d0) (B.drop 5)) R59 (rest rl xs zs zs' m l' m' t' [.str "b", .str "c"]))) = true := by kernel_rfl
theorem end2 (rl : List D) (xs : List D) (zs zs' : List Int) (m l' m' t' : Int) : isT (fin (tl (cB (p.stF d0) (B.drop 5)) R59 (rest rl xs zs zs' m l' m' t' [.str "c", .str "b"]))) = true := by kernel_rfl
theorem right : p.Right 0 60 63 := by
  intro ns hn
  apply isT_eq
  rw [← p.FF_eq, Pg.run_defF (f := d0) rfl rfl]
  show isT (fin (cB (p.stF d0) B R59 [some (.rol (ns.map D.int)), none, none, none, none] LH.nil)) = true
  obtain ⟨xs, zs, m, hl, e0⟩ := source_ok (runN p.FF 58) ns LH.nil (by unfold sizeLine; omega)
  have h0 : cB (p.stF d0) (B.take 1) R59 [some (.rol (ns.map D.int)), none, none, none, none] LH.nil = .ok (.nx, [some (.rol (ns.map D.int)), some (.ref 2), none, none, none]) (newSrc LH.nil xs zs m) := by
    rw [s0_eq]
    simp only [frX_eq]
    have q : eCall 1 (aCons (eVar 0) aNil) R59 [some (.rol (ns.map D.int)), none, none, none, none] LH.nil = .ok (.ref 2) (newSrc LH.nil xs zs m) :=
      x_call (as := [.rol (ns.map D.int)]) (L1 := LH.nil) rfl (by unfold R59; rw [Pg.run_asF F1]; exact e0)
    rw [s_seq (s_asg_nm q)]
    rfl
  have hA := isNx_eq (A_nx (ns.map D.int) xs zs m)
  generalize ns.map D.int = rl at *
  have hS : SrcAt (L3 rl xs zs m) 2 1 zs 1 m 0 := SrcAt.push ⟨L2_s rl xs zs m, L2_c rl xs zs m⟩ _
  have ht : bLst [.ref (L2 rl xs zs m).len] (L3 rl xs zs m) = .ok (.ref (L3 rl xs zs m).len) ((L3 rl xs zs m).push (.lst [.str "b", .str "c"])) := by
    have g : (L3 rl xs zs m).get (L2 rl xs zs m).len = some (.lst [.str "b", .str "c"]) := by unfold L3; rw [LH.get_push, if_pos rfl]
    unfold bLst
    simp only [g]
  obtain ⟨ys, zs', l', m', t', em, hp, _⟩ := mixed_ok (p := 17) (R := runN p.FF 58) (R' := runN p.FF 57) (td := .ref (L2 rl xs zs m).len) (fun as M => Pg.run_asF F17) hS (by unfold fuel; omega) _ (by simp) ht
  have hfor : p.stF d0 s4 R59 (S2 rl xs zs m) (L2 rl xs zs m) = rest rl xs zs zs' m l' m' t' ys := by
    have hargs : aCons (eVar 1) (aCons (aApp (aCons (eC (.str "b")) (aCons (eC (.str "c")) aNil)) oLst) aNil) R59 (S2 rl xs zs m) (L2 rl xs zs m) = .ok [.ref 2, .ref (L2 rl xs zs m).len] (L3 rl xs zs m) := by
      simp [aCons, eVar, S2_1, aApp, eC, aNil, Res.bind, oLst, L3, sizeLine]
    have hmix : R59 3 [.ref 2, .ref (L2 rl xs zs m).len] (L3 rl xs zs m) = .ok (.ref ((L3 rl xs zs m).len + 1)) (L4 rl xs zs zs' m l' m' t' ys) := by
      unfold R59; rw [Pg.run_asF F3]; exact em
    rw [s4_eq]
    simp only [frX_eq]
    unfold sFor
    rw [i_of (x_call hargs hmix)]
    rfl
  rw [B_eq, cB_app h0, cB_app (show _ = Res.ok (Fl.nx, S2 rl xs zs m) (L2 rl xs zs m) from hA)]
  show isT (fin (sSeq (p.stF d0 s4) (cB (p.stF d0) (B.drop 5)) R59 (S2 rl xs zs m) (L2 rl xs zs m))) = true
  rw [tl_eq, hfor]
  rcases perm2 hp with e | e <;> subst e
  · exact end1 rl xs zs zs' m l' m' t'
  · exact end2 rl xs zs zs' m l' m' t'
end K82
open PySem PySem.W PySem.Calls PyProof.Rows
theorem PySem.Challenge.cw_shareforsure_k82_households_by_hand_holds : PySem.Challenge.rw_shareforsure_k82_households_by_hand.Holds := by
  w_on; o_law
  refine HandSHeadRun.head_any (r := OpenLaw.row PySem.Challenge.rw_shareforsure_k82_households_by_hand) (q := view (OpenLaw.row PySem.Challenge.rw_shareforsure_k82_households_by_hand).prog [12]) (H := K82.hk) (ob := K82.ob) (M := 3000) (loose := K82.loose) (d := HandSHeadRun.topDef (OpenLaw.row PySem.Challenge.rw_shareforsure_k82_households_by_hand).prog 12) (kwd := []) K82.ob_eq
    (by kernel_rfl) (fun s => by kernel_rfl) K82.run (by kernel_rfl) (by kernel_rfl) (by kernel_rfl) (by rfl) (by first | assumption | decide +kernel) (by decide +kernel) ⟨rfl, rfl, rfl, rfl, rfl, by decide +kernel⟩ ?hw ?hc
  case hw => w_witness2
  case hc =>
    exact PD.Pg.walk (l := PySem.Challenge.rw_shareforsure_k82_households_by_hand) (most := 63) (n := 60) (law := 0) (p := K82.p) (f := K82.d0) (x := "script") rfl (by decide) (by kernel_rfl) ⟨rfl, by decide, by decide⟩ K82.texts rfl (by kernel_rfl) rfl (by kernel_rfl) K82.right
