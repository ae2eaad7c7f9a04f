import PyProof.Rows.All
import Wide.All
import OpenK.AllK
import Wide.FinOn
import HandS.ForMost
import HandS.ForExc
import HandS.Zip
import HandS.Zip0
import PyProof.Draws
import PyProof.EnumMake
import HandS.TupMul
import HandS.TupAny
import HandS.TupLe
import HandS.Style
import HandS.Flow
import HandS.IsInst
import HandS.Conv
import HandS.ExcInit
import HandS.ExcSuper
import PyProof.Rows.ReprR
import PyProof.Rows.NestShow
import KE.SortData
import KE.KDictKeyed
import KE.KDictCopyH
import HandS.Defaults
import HandS.HeadHook2
import HandS.Head2
import HandS.HeadEnd
import HandS.Deep
import HandS.DictComp
import HandS.ExcField
import HandS.ExcOwn
import HandS.ExcCtx
import HandS.TryOnly
import HandS.Star
import HandS.RaiseMore
import HandS.NestedK
import HandS.ClsMeth
import KE.KExcSuper
import KE.KSuper
import PyProof.Rows.LastStepAttr
import PyProof.Rows.RegFStrParts
import HandS.Words
import HandS.WordsExc
import HandS.Head0
import HandS.Head1
import PySem.Challenge.RW_shareforsure_k71_whole_eager_gifts
set_option Elab.async false
set_option linter.all false
set_option maxRecDepth 100000
set_option maxHeartbeats 0
/-! Q0: enumerate of a tuple. -/
namespace RQ
open PySem PySem.Spec PyProof.Rows L2
open PySem.Sem (wp)

theorem drawsT {prog : Program} {w : World} {A : Around} (hh : A.handled = none) (it l : Addr) (hne : l ≠ it) (items : Array Value) :
    Draws prog w A it [it, l] items.size (fun i x => items[i]? = some x) (fun i h => h.IsTupleIter it l i ∧ h.IsTuple l items) where
  live := fun i h ⟨⟨o, ho, _⟩, _⟩ => ⟨o, ho⟩
  frame := fun i h h' ⟨a, b⟩ hk => ⟨a.at fun o q => hk it (by simp) o q, by
    obtain ⟨o, ho, r⟩ := b
    exact ⟨o, hk l (by simp) o ho, r⟩⟩
  item := fun i s Q E hi ⟨a, b⟩ hQ => RZ.nextOf_tuple_item a b (Array.getElem?_eq_getElem hi) fun h' h1 h2 => hQ _ h' s.toks (Array.getElem?_eq_getElem hi) ⟨h1, by
    obtain ⟨o, ho, r⟩ := b
    exact ⟨o, (h2.2 l hne).trans ho, r⟩⟩ h2
  done := fun s Q E ⟨a, b⟩ hE => RZ.nextOf_tuple_end hh a b (Array.getElem?_eq_none (Nat.le_refl _)) hE

theorem meets_enumerate_newT (l : Addr) (items : Array Value) :
    Meets (Builtin.«enumerate.__new__» ⟨[.type "enumerate", .ref l], []⟩) (fun _ R s => s.heap.IsTuple l items ∧
      R (.ok (.ret (.ref (s.heap.push { cls := .type "tuple_iterator", data := .fields #[.ref l, .int 0 0] }).objs.size)))
        { s with heap := (s.heap.push { cls := .type "tuple_iterator", data := .fields #[.ref l, .int 0 0] }).push { cls := .type "enumerate", data := .fields #[.none, .bool false, .ref s.heap.objs.size, rawInt 0, .none, .none] } }) :=
  .of_wp fun prog w A R s h => by
    obtain ⟨hp, g, d, tk, os⟩ := s; obtain ⟨hl, h⟩ := h
    have hsub := sub_enumerate
    have hL : Heap.IsTuple (Shared.heap ⟨hp, g, d, tk, os⟩) l items := hl
    obtain ⟨ob, hob, hc, n, hd⟩ := id hl
    obtain ⟨c, dct, dt, sl⟩ := ob
    replace hc : c = .type "tuple" := hc
    replace hd : dt = .seq items n := hd
    subst hc hd
    wp_walk using AutoSeq1.wpAny_loadPart' hob
    refine wpAny_stack_any fun st => wpAny_pure ?_
    split
    · rename_i c _ _ _ _ _
      cases (c == Value.type "enumerate")
      · wp_walk using AutoSeq1.wpAny_loadPart' hob, wpAny_pyIter_tuple hL
        exact ⟨_, rfl, h⟩
      · wp_walk using AutoSeq1.wpAny_loadPart' hob, wpAny_pyIter_tuple hL
        exact ⟨_, rfl, h⟩
    · wp_walk using AutoSeq1.wpAny_loadPart' hob, wpAny_pyIter_tuple hL
      exact ⟨_, rfl, h⟩

section
variable {prog : Program} {w : World} {A : Around} {E : Value → Shared → Prop} {s : Shared}
theorem call_enumerate_tuple {l : Addr} {items : Array Value} {Q : Value → Shared → Prop} (hL : s.heap.IsTuple l items)
    (h : ∀ h', IsEnum h' (s.heap.objs.size + 1) s.heap.objs.size 0 .none → h'.IsTupleIter s.heap.objs.size l 0 → h'.objs.size = s.heap.objs.size + 2 →
      (∀ b o, s.heap.get? b = some o → h'.get? b = some o) → Q (.ref (s.heap.objs.size + 1)) { s with heap := h' }) :
    wpAny (model prog w) A (call (.type "enumerate") [.ref l]) Q E s := by
  refine callType_new F.called_enumerate (by decide) (F.typeCall_enumerate_1 _) (F.newCall_enumerate_1 _) (fun obj => F.args_object_init_2 obj _) F.entry_enumerate_new
    (meets_enumerate_newT l items) ⟨hL, ?_⟩
  have hz : (s.heap.push { cls := .type "tuple_iterator", data := .fields #[.ref l, .int 0 0] }).objs.size = s.heap.objs.size + 1 := Heap.size_push ..
  show _ ∧ _
  rw [hz]
  have he : IsEnum ((s.heap.push { cls := .type "tuple_iterator", data := .fields #[.ref l, .int 0 0] }).push
      { cls := .type "enumerate", data := .fields #[.none, .bool false, .ref s.heap.objs.size, rawInt 0, .none, .none] }) (s.heap.objs.size + 1) s.heap.objs.size 0 .none := by
    have := Heap.get?_push_size (s.heap.push { cls := .type "tuple_iterator", data := .fields #[.ref l, .int 0 0] })
      (o := { cls := .type "enumerate", data := .fields #[.none, .bool false, .ref s.heap.objs.size, rawInt 0, .none, .none] }) rfl
    rw [hz] at this; exact this
  refine ⟨⟨_, he, rfl⟩, h _ he ⟨_, Heap.get?_push_of_some _ (Heap.get?_push_size _ rfl), rfl, rfl⟩ (by rw [Heap.size_push, hz]) fun b o x => Heap.get?_push_of_some _ (Heap.get?_push_of_some _ x)⟩
end

section
variable {prog : Program} {w : World} {A : Around} {E : Value → Shared → Prop} {s : Shared}
theorem pyNext_enumT_end {e it l : Addr} {k : Nat} {items : Array Value} {i : Int} {old : Value} {Q : Option Value → Shared → Prop} (hh : A.handled = none)
    (he : IsEnum s.heap e it i old) (hit : s.heap.IsTupleIter it l k) (hl : s.heap.IsTuple l items) (hx : items[k]? = none)
    (hQ : ∀ h', Heap.ExtBut it s.heap h' → Q none { s with heap := h' }) : wpAny (model prog w) A (pyNext (.ref e)) Q E s := by
  have hT : s.TypeIs (.ref e) "enumerate" := ⟨_, he, rfl⟩
  unfold pyNext
  refine wpAny_bind (wpAny_attempt (wpAny_callSpecial?_slot (name := Str.ofString "__next__") hT F.slot_enumerate_next
    (wpAny_call_entry F.slot_enumerate_next hT F.entry_enumerate_next ?_ (F.args_enumerate_next_1 _))))
  show wpAny _ _ (field (.ref e) 2 >>= _) _ _ _
  refine wpAny_bind (wpAny_field he rfl (x := .ref it) rfl ?_)
  refine wpAny_bind (RZ.nextOf_tuple_end (show A.in1.handled = none from hh) hit hl hx fun h' x he' hx' => ?_)
  obtain ⟨o, ho, hc⟩ := hx'
  refine wpAny_bind (wpAny_isInstance (T := "StopIteration") (b := true) ⟨o, ho, hc⟩ isSubtype_stop ?_)
  exact wpAny_pure (hQ _ he')
end

/-- the tuple at a, each item in a new pair -/
def IteT (K : PySem.W.Frag) (a : Addr) : It :=
  ⟨fun i H => ∃ (xs : List V) (x : V), SqT K H a xs ∧ xs[i]? = some x, fun i H v H' => ∃ T x, v = .ref T ∧ H T = none ∧ H' = upd H T (.tup [.int (i : Nat), x]) ∧ ∀ xs, SqT K H a xs → xs[i]? = some x, fun i H => ∃ xs : List V, SqT K H a xs ∧ xs.length ≤ i⟩
theorem turn_enumT {P : Program} {w : World} {K : PySem.W.Frag} {elts : List Expr} {kk : Nat} {tpos : Pos} (a e it : Addr) (hae : a ≠ e) (hai : a ≠ it) :
    Turn P w K (.Tuple elts kk tpos) (IteT K a) [e, it] e (fun i h => (∃ old, IsEnum h e it ((i : Nat) : Int) old) ∧ h.IsTupleIter it a i ∧ e ≠ it) where
  mem := by simp
  obj := fun i h st b hb => by
    obtain ⟨⟨old, he⟩, ⟨o, ho, hc, hd⟩, _⟩ := st
    have e' : b = e ∨ b = it := by simpa using hb
    rcases e' with z | z
    · rw [z]; exact ⟨_, he, fun v q => nomatch q⟩
    · rw [z]; exact ⟨o, ho, fun v q => by rw [hd] at q; cases q⟩
  keep := fun i h h' st k => let ⟨⟨old, he⟩, hi, hne⟩ := st; ⟨⟨old, k e (by simp) _ he⟩, hi.at fun o q => k it (by simp) o q, hne⟩
  item := by
    intro X hP hw hK hc i pins s σ H E I hf st hg
    subst hP hw hK
    obtain ⟨⟨old, he⟩, hit, hne⟩ := st
    obtain ⟨xs, x, hq, hx⟩ := hg
    obtain ⟨its, rv, p, hz⟩ := I.tuple hq
    obtain ⟨u, hu, ru⟩ := rv.get hx
    have hel : e < s.heap.objs.size := Heap.lt_size he
    have hil : it < s.heap.objs.size := by obtain ⟨_, q, _⟩ := hit; exact Heap.lt_size q
    have hu' : its.toArray[i]? = some u := by simpa using hu
    have hlt : i < its.toArray.size := by
      rcases Nat.lt_or_ge i its.toArray.size with h | h
      · exact h
      · rw [Array.getElem?_eq_none h] at hu'; cases hu'
    refine wpAny_pyNext_enum_itemD (drawsT (A := X.A.in1) (show X.A.in1.handled = none from I.ok.hd hc) it a hai its.toArray) he ⟨hit, p⟩ hlt hne (by simp [hne, Ne.symm hae]) fun x2 h' tk hP2 ho hst' hT hsz hk => ?_
    have ex : x2 = u := by rw [hu'] at hP2; cases hP2; rfl
    subst ex
    obtain ⟨hit', p'⟩ := hst'
    refine ⟨_, rfl, wpAny_letOwnedTupleGo_enum (s := { s with heap := h', toks := tk + 1 }) ho fun h'' he' sb => ?_⟩
    have hT2 : h''.get? s.heap.objs.size = some { cls := .type "tuple", data := .seq #[.int i tk, x2] } := (sb.2 _ (Nat.ne_of_gt hel)).trans hT
    have new : ObjOk X.prog X.w (upd H s.heap.objs.size (.tup [.int (i : Nat), x])) h'' s.heap.objs.size (.tup [.int (i : Nat), x]) :=
      ⟨by show 2 ≤ sizeLine; decide, [.int i tk, x2], .cons ⟨_, rfl⟩ (.cons ru .nil), ⟨_, hT2, rfl, _, rfl⟩⟩
    have I1 : Inv X pins σ (upd H s.heap.objs.size (.tup [.int (i : Nat), x])) { s with heap := h'', toks := tk + 1 } :=
      I.turnedNew (ch := [e, it]) (fun b ob hb q => (sb.2 b (fun z => hb (by simp [z]))).trans (hk b ob (fun z => hb (by simp [z])) (fun z => hb (by simp [z])) q)) hf (Nat.le_refl _) new
    refine ⟨.ref s.heap.objs.size, _, I1, rfl, ⟨_, x, rfl, I.hok.fresh (Nat.le_refl _), rfl, fun ys hy => by rw [I.tuple_inj hy hq]; exact hx⟩, ⟨⟨x2, ?_⟩, hit'.at fun o q => (sb.2 it (Ne.symm hne)).trans q, hne⟩, fun b hb => ?_⟩
    · have e1 : ((i + 1 : Nat) : Int) = (i : Int) + 1 := by omega
      rw [e1]; exact he'
    · have hb' : b < s.heap.objs.size := by
        have e' : b = e ∨ b = it := by simpa using hb
        rcases e' with z | z
        · rw [z]; exact hel
        · rw [z]; exact hil
      rw [upd_ne (Nat.ne_of_lt hb')]
      exact (hf b hb).1
  done := by
    intro X hP hw hK hc i pins s σ H E I hf st hg
    subst hP hw hK
    obtain ⟨⟨old, he⟩, hit, hne⟩ := st
    obtain ⟨xs, hq, hx⟩ := hg
    obtain ⟨its, rv, p, hz⟩ := I.tuple hq
    obtain ⟨f0, f1, f2, f3, f4, f5⟩ := hf it (by simp)
    have hl := rv.length
    exact pyNext_enumT_end (I.ok.hd hc) he hit p (Array.getElem?_eq_none (by simp; omega)) fun h' eb => ⟨rfl, I.turned (t' := s.toks) (fun b o hb q => eb b o hb q) f0 f1 f3 f4 f5⟩
  self := fun A i s Q E st h => let ⟨⟨_, he⟩, _⟩ := st; wpAny_pyIter_enum he h

def iEnumA (K : PySem.W.Frag) (ta : TA) : TI := fun σ H R => ta σ H fun vs H1 => ∃ a xs, vs = [.ref a] ∧ ((SqL K H1 a xs ∧ R (Ite K a) H1) ∨ (SqT K H1 a xs ∧ R (IteT K a) H1))
theorem pi_enumA {X : Cx} {e : Expr} {ta : TA} {p pos tpos : Pos} {elts : List Expr} {kk : Nat} (hg : Gl X "enumerate") (hm : X.mg "enumerate" = none) (ha : PA X [e] ta) (hs : starEach [e] X.env = [(false, eval e X.env)] := by rfl) :
    PI X (.Tuple elts kk tpos) (.Call (.Name "enumerate" p) [e] [] pos) (iEnumA X.K ta) := by
  refine ⟨fun pins s σ H R I h => ?_⟩
  refine Call_ (ld_blt I hg hm boot_enumerate (PyProof.Rows.callWith_type1 (thn (ha.run pos pins s σ H _ I h) fun us s1 ⟨vs, H1, I1, r1, q1⟩ => ?_) hs rfl))
  obtain ⟨a, xs, ex, q⟩ := q1
  subst ex
  cases r1 with
  | cons r rr =>
    cases rr
    cases r
    have fresh2 : ∀ b, b ∈ [s1.heap.objs.size + 1, s1.heap.objs.size] → FpOk X pins H1 b := fun b hb => by
      have e' : b = s1.heap.objs.size + 1 ∨ b = s1.heap.objs.size := by simpa using hb
      have hle : s1.heap.objs.size ≤ b := by
        rcases e' with z | z
        · rw [z]; exact Nat.le_add_right _ _
        · rw [z]; exact Nat.le_refl _
      exact I1.fpOk hle (I1.hok.fresh hle)
    rcases q with ⟨hq, q⟩ | ⟨hq, q⟩
    · obtain ⟨its, rv, p', hz⟩ := I1.list hq
      refine call_enumerate_list p'.isList fun h' he hit hsz hk => wpAny_pyIter_enum he ?_
      have I2 : Inv X pins σ H1 { s1 with heap := h' } := I1.kept (t' := s1.toks) hk
      exact ⟨s1.heap.objs.size + 1, [s1.heap.objs.size + 1, s1.heap.objs.size], _, _, H1, rfl, I2, turn_enum a (s1.heap.objs.size + 1) s1.heap.objs.size, ⟨⟨.none, he⟩, hit, Nat.succ_ne_self _⟩, fresh2, q⟩
    · obtain ⟨its, rv, p', hz⟩ := I1.tuple hq
      have hlt : a < s1.heap.objs.size := by obtain ⟨_, h, _⟩ := id p'; exact Heap.lt_size h
      refine call_enumerate_tuple p' fun h' he hit hsz hk => wpAny_pyIter_enum he ?_
      have I2 : Inv X pins σ H1 { s1 with heap := h' } := I1.kept (t' := s1.toks) hk
      exact ⟨s1.heap.objs.size + 1, [s1.heap.objs.size + 1, s1.heap.objs.size], _, _, H1, rfl, I2, turn_enumT a (s1.heap.objs.size + 1) s1.heap.objs.size (Nat.ne_of_lt (Nat.lt_succ_of_lt hlt)) (Nat.ne_of_lt hlt), ⟨⟨.none, he⟩, hit, Nat.succ_ne_self _⟩, fresh2, q⟩
end RQ
/-! Q1: zip of two sequences, each a list or a tuple, strict or not. -/
namespace RQ
open PySem PySem.Spec PyProof.Rows L2
open PySem.Sem (wp)

def ItK (k : Bool) (h : Heap) (it l : Addr) (i : Nat) : Prop := match k with
  | true => h.IsTupleIter it l i
  | false => h.IsListIter it l i
def SqK (k : Bool) (h : Heap) (l : Addr) (xs : Array Value) : Prop := match k with
  | true => h.IsTuple l xs
  | false => h.IsList l xs
abbrev itName (k : Bool) : String := match k with
  | true => "tuple_iterator"
  | false => "list_iterator"
theorem ItK.obj {k : Bool} {h : Heap} {it l : Addr} {i : Nat} (x : ItK k h it l i) : ∃ o, h.get? it = some o ∧ ∀ v, o.data ≠ .cell v := by
  cases k with
  | true => obtain ⟨o, a, b, c⟩ := x; exact ⟨o, a, fun v q => by rw [c] at q; cases q⟩
  | false => obtain ⟨o, a, b, c⟩ := x; exact ⟨o, a, fun v q => by rw [c] at q; cases q⟩
theorem ItK.at {k : Bool} {h h' : Heap} {it l : Addr} {i : Nat} (x : ItK k h it l i) (q : ∀ o, h.get? it = some o → h'.get? it = some o) : ItK k h' it l i := by
  cases k with
  | true => exact Heap.IsTupleIter.at x q
  | false => exact Heap.IsListIter.at x q
theorem ItK.ext {k : Bool} {h h' : Heap} {it l a : Addr} {i : Nat} (x : ItK k h it l i) (q : Heap.ExtBut a h h') (n : it ≠ a) : ItK k h' it l i := x.at fun o e => q _ _ n e
theorem SqK.ext {k : Bool} {h h' : Heap} {l a : Addr} {xs : Array Value} (x : SqK k h l xs) (q : Heap.ExtBut a h h') (n : l ≠ a) : SqK k h' l xs := by
  cases k with
  | true => obtain ⟨o, e, r⟩ := x; exact ⟨o, q _ _ n e, r⟩
  | false => obtain ⟨o, e, r⟩ := x; exact ⟨o, q _ _ n e, r⟩
theorem SqK.lt {k : Bool} {h : Heap} {l : Addr} {xs : Array Value} (x : SqK k h l xs) : l < h.objs.size := by
  cases k with
  | true => obtain ⟨o, e, r⟩ := x; exact Heap.lt_size e
  | false => obtain ⟨o, e, r⟩ := x; exact Heap.lt_size e
theorem SqK.push {k : Bool} {h : Heap} {l : Addr} {xs : Array Value} (x : SqK k h l xs) (o : Obj) : SqK k (h.push o) l xs := by
  cases k with
  | true => obtain ⟨o, e, r⟩ := x; exact ⟨o, Heap.get?_push_of_some _ e, r⟩
  | false => obtain ⟨o, e, r⟩ := x; exact ⟨o, Heap.get?_push_of_some _ e, r⟩

section
variable {prog : Program} {w : World} {A : Around} {E : Value → Shared → Prop} {s : Shared}
theorem nextK_item {k : Bool} {it l : Addr} {i : Nat} {items} {x : Value} {Q : Value → Shared → Prop} (hit : ItK k s.heap it l i) (hl : SqK k s.heap l items) (hx : items[i]? = some x)
    (hQ : ∀ h', ItK k h' it l (i + 1) → Heap.SameBut it s.heap h' → Q x { s with heap := h' }) : wpAny (model prog w) A (Builtin.SmallTypes.nextOf (.ref it)) Q E s := by
  cases k with
  | true => exact RZ.nextOf_tuple_item hit hl hx hQ
  | false => exact wpAny_nextOf_list_item hit hl hx hQ
theorem nextK_end {k : Bool} {it l : Addr} {i : Nat} {items} {Q : Value → Shared → Prop} (hh : A.handled = none) (hit : ItK k s.heap it l i) (hl : SqK k s.heap l items) (hx : items[i]? = none)
    (hE : ∀ h' e, Heap.ExtBut it s.heap h' → (∃ o, h'.get? e = some o ∧ o.cls = .type "StopIteration") → E (.ref e) { s with heap := h' }) : wpAny (model prog w) A (Builtin.SmallTypes.nextOf (.ref it)) Q E s := by
  cases k with
  | true => exact RZ.nextOf_tuple_end hh hit hl hx hE
  | false => exact wpAny_nextOf_list_end hh hit hl hx hE
theorem norE_item {k : Bool} {it l : Addr} {i : Nat} {items} {x : Value} {Q : Option Value → Shared → Prop} (hit : ItK k s.heap it l i) (hl : SqK k s.heap l items) (hx : items[i]? = some x)
    (hQ : ∀ h', ItK k h' it l (i + 1) → Heap.SameBut it s.heap h' → Q (some x) { s with heap := h' }) : wpAny (model prog w) A (Builtin.SmallTypes.nextOrEnd (.ref it)) Q E s := by
  unfold Builtin.SmallTypes.nextOrEnd
  exact wpAny_bind (wpAny_attempt (nextK_item hit hl hx fun h' a b => wpAny_pure (hQ h' a b)))
theorem norE_end {k : Bool} {it l : Addr} {i : Nat} {items} {Q : Option Value → Shared → Prop} (hh : A.handled = none) (hit : ItK k s.heap it l i) (hl : SqK k s.heap l items) (hx : items[i]? = none)
    (hQ : ∀ h', Heap.ExtBut it s.heap h' → Q none { s with heap := h' }) : wpAny (model prog w) A (Builtin.SmallTypes.nextOrEnd (.ref it)) Q E s := by
  unfold Builtin.SmallTypes.nextOrEnd
  refine wpAny_bind (wpAny_attempt (nextK_end hh hit hl hx fun h' e a b => ?_))
  obtain ⟨o, ho, hc⟩ := b
  refine wpAny_bind (wpAny_isInstance (T := "StopIteration") (b := true) ⟨o, ho, hc⟩ isSubtype_stop ?_)
  exact wpAny_pure (hQ h' a)

abbrev IsZipS (h : Heap) (z TI TO : Addr) (f0 : Value) : Prop :=
  h.get? z = some { cls := .type "zip", dict := none, data := .fields #[f0, .bool false, .bool true, .ref TI, .ref TO], slots := #[] }

theorem zipS_next_item {ka kb : Bool} {z TI TO i1 i2 l1 l2 : Addr} {k1 k2 : Nat} {xs ys : Array Value} {x y a b : Value} {Q : Value → Shared → Prop} (D : ZipApart z TI TO i1 i2 l1 l2)
    (hz : IsZipS s.heap z TI TO .none) (hTI : IsPair s.heap TI (.ref i1) (.ref i2)) (hTO : IsPair s.heap TO a b)
    (h1 : ItK ka s.heap i1 l1 k1) (h2 : ItK kb s.heap i2 l2 k2) (hl1 : SqK ka s.heap l1 xs) (hl2 : SqK kb s.heap l2 ys) (hx : xs[k1]? = some x) (hy : ys[k2]? = some y)
    (hQ : ∀ h', IsZipS h' z TI TO (rawInt s.heap.objs.size) → IsPair h' TO x y → ItK ka h' i1 l1 (k1 + 1) → ItK kb h' i2 l2 (k2 + 1) → IsPair h' s.heap.objs.size x y → h'.objs.size = s.heap.objs.size + 1 →
      (∀ c o, c ≠ z → c ≠ TO → c ≠ i1 → c ≠ i2 → s.heap.get? c = some o → h'.get? c = some o) → Q (.ref s.heap.objs.size) { s with heap := h' }) :
    wpAny (model prog w) A (Builtin.«zip.__next__» ⟨[.ref z], []⟩) (fun fin s' => ∃ v, fin = .done (.ret v) ∧ Q v s') E s := by
  show wpAny _ _ (field (.ref z) 2 >>= _) _ _ _
  refine wpAny_bind (wpAny_field hz rfl (x := .bool true) rfl ?_)
  show wpAny _ _ (field (.ref z) 3 >>= _) _ _ _
  refine wpAny_bind (wpAny_field hz rfl (x := .ref TI) rfl ?_)
  refine wpAny_bind (wpAny_seqItems hTI rfl ?_)
  show wpAny _ _ (Builtin.SmallTypes.ownedTupleIsFree (.ref z) >>= _) _ _ _
  refine wpAny_bind ?_
  unfold Builtin.SmallTypes.ownedTupleIsFree
  refine wpAny_bind (wpAny_field hz rfl (x := .none) rfl (wpAny_pure ?_))
  simp only [if_true]
  refine wpAny_bind (wpAny_rule ?_)
  refine wpAny_bind (wpAny_field hz rfl (x := .ref TO) rfl ?_)
  refine wpAny_bind (wpAny_setField_rec hz (by simp) fun h₁ hz₁ hs₁ => ?_)
  replace hz₁ : IsZipS h₁ z TI TO .ellipsis := hz₁
  refine wpAny_bind ?_
  simp only [List.zipIdx_cons, List.zipIdx_nil, List.forIn_cons, List.forIn_nil]

  refine wpAny_bind (wpAny_bind (wpAny_onRaise ?_))
  show wpAny _ _ (Builtin.SmallTypes.nextOrEnd (.ref i1)) _ _ _
  refine norE_item (h1.ext hs₁.extBut D.i1z) (hl1.ext hs₁.extBut D.l1z) hx fun h₂ h1₂ hs₂ => ?_
  have hTO₂ : IsPair h₂ TO a b := hs₂.extBut _ _ D.TOi1 (hs₁.extBut _ _ D.TOz hTO)
  refine wpAny_bind (wpAny_seqItems hTO₂ rfl ?_)
  refine wpAny_bind (wpAny_updateSeq_pair hTO₂ fun h₃ hTO₃ hs₃ => ?_)
  replace hTO₃ : IsPair h₃ TO x b := hTO₃
  refine wpAny_bind (wpAny_letGo (wpAny_pure ?_))

  refine wpAny_bind (wpAny_bind (wpAny_onRaise ?_))
  show wpAny _ _ (Builtin.SmallTypes.nextOrEnd (.ref i2)) _ _ _
  refine norE_item (((h2.ext hs₁.extBut D.i2z).ext hs₂.extBut D.i12.symm).ext hs₃.extBut D.TOi2.symm)
    (((hl2.ext hs₁.extBut D.l2z).ext hs₂.extBut D.l2i1).ext hs₃.extBut D.l2TO) hy fun h₄ h2₄ hs₄ => ?_
  have hTO₄ : IsPair h₄ TO x b := hs₄.extBut _ _ D.TOi2 hTO₃
  refine wpAny_bind (wpAny_seqItems hTO₄ rfl ?_)
  refine wpAny_bind (wpAny_updateSeq_pair hTO₄ fun h₅ hTO₅ hs₅ => ?_)
  replace hTO₅ : IsPair h₅ TO x y := hTO₅
  refine wpAny_bind (wpAny_letGo (wpAny_pure (wpAny_pure ?_)))

  refine wpAny_bind (wpAny_seqItems hTO₅ rfl ?_)
  refine wpAny_bind (wpAny_newTuple ?_)
  have hsz : h₅.objs.size = s.heap.objs.size := by rw [hs₅.1, hs₄.1, hs₃.1, hs₂.1, hs₁.1]
  have hz₅ : IsZipS h₅ z TI TO .ellipsis := hs₅.extBut _ _ D.TOz.symm (hs₄.extBut _ _ D.i2z.symm (hs₃.extBut _ _ D.TOz.symm (hs₂.extBut _ _ D.i1z.symm hz₁)))
  have hk₅ : ∀ c o, c ≠ z → c ≠ TO → c ≠ i1 → c ≠ i2 → s.heap.get? c = some o → h₅.get? c = some o := fun c o c1 c2 c3 c4 e =>
    hs₅.extBut _ _ c2 (hs₄.extBut _ _ c4 (hs₃.extBut _ _ c2 (hs₂.extBut _ _ c3 (hs₁.extBut _ _ c1 e))))
  have h1₅ : ItK ka h₅ i1 l1 (k1 + 1) := ((h1₂.ext hs₃.extBut D.TOi1.symm).ext hs₄.extBut D.i12).ext hs₅.extBut D.TOi1.symm
  have h2₅ : ItK kb h₅ i2 l2 (k2 + 1) := h2₄.ext hs₅.extBut D.TOi2.symm
  have hzlt : z < h₅.objs.size := Heap.lt_size hz₅
  have hTOlt : TO < h₅.objs.size := Heap.lt_size hTO₅
  show wpAny _ _ (Builtin.SmallTypes.ownedTupleHandOut (.ref z) (.ref h₅.objs.size) >>= _) _ _ _
  refine wpAny_bind ?_
  unfold Builtin.SmallTypes.ownedTupleHandOut
  have hz₆ : IsZipS (h₅.push { cls := .type "tuple", data := .seq #[x, y] }) z TI TO .ellipsis := Heap.get?_push_of_some _ hz₅
  refine wpAny_bind (wpAny_setField_rec hz₆ (by simp) fun h₇ hz₇ hs₇ => ?_)
  replace hz₇ : IsZipS h₇ z TI TO (rawInt h₅.objs.size) := hz₇
  refine wpAny_setField_rec hz₇ (by simp) fun h₈ hz₈ hs₈ => ?_
  replace hz₈ : IsZipS h₈ z TI TO (rawInt h₅.objs.size) := hz₈
  have up : ∀ c o, c ≠ z → h₅.get? c = some o → h₈.get? c = some o := fun c o c1 e => hs₈.extBut _ _ c1 (hs₇.extBut _ _ c1 (Heap.get?_push_of_some _ e))
  have hT₈ : IsPair h₈ h₅.objs.size x y := hs₈.extBut _ _ (Nat.ne_of_gt hzlt) (hs₇.extBut _ _ (Nat.ne_of_gt hzlt) (Heap.get?_push_size _ rfl))
  have hz8 : h₈.objs.size = h₅.objs.size + 1 := by rw [hs₈.1, hs₇.1, Heap.size_push]
  rw [hsz] at hz₈ hT₈ hz8
  refine wpAny_pure ⟨_, rfl, ?_⟩
  show Q (.ref h₅.objs.size) _
  rw [hsz]
  exact hQ h₈ hz₈ (up _ _ D.TOz hTO₅) (h1₅.at fun o e => up _ o D.i1z e) (h2₅.at fun o e => up _ o D.i2z e) hT₈ hz8 fun c o c1 c2 c3 c4 e => up c o c1 (hk₅ c o c1 c2 c3 c4 e)

theorem raise_stop {α : Type} {Q : α → Shared → Prop} (hh : A.handled = none)
    (hE : ∀ h' e, (∀ c o, s.heap.get? c = some o → h'.get? c = some o) → (∃ o, h'.get? e = some o ∧ o.cls = .type "StopIteration") → E (.ref e) { s with heap := h' }) :
    wpAny (model prog w) A (Builtin.SmallTypes.stopIteration : Sem α) Q E s := by
  unfold Builtin.SmallTypes.stopIteration
  show wpAny _ _ (newExc (.type "StopIteration") [] >>= _) _ _ _
  refine wpAny_bind ?_
  simp only [newExc, newTuple]
  refine wpAny_bind (wpAny_newObj_type ?_ (by size_fits))
  refine wpAny_bind (m := firstArgMember _ _) (wpAny_of_eq (a := Value.none) (by first | rfl | (simp only [firstArgMember]; rfl)) ?_)
  refine wpAny_newObj_type ?_ (by size_fits)
  simp only [raiseNew]
  refine wpAny_bind (wpAny_handled ?_)
  first | rw [show A.in1.handled = none from hh] | rw [hh]
  refine wpAny_bind (wpAny_pure (wpAny_throw ?_))
  exact hE _ _ (fun c o e => Heap.get?_push_of_some _ (Heap.get?_push_of_some _ e)) ⟨_, Heap.get?_push_size _ rfl, rfl⟩

theorem zipS_next_end {ka kb : Bool} {z TI TO i1 i2 l1 l2 : Addr} {k1 k2 : Nat} {xs ys : Array Value} {a b : Value} {Q : Fin → Shared → Prop} (hh : A.handled = none) (D : ZipApart z TI TO i1 i2 l1 l2)
    (hz : IsZipS s.heap z TI TO .none) (hTI : IsPair s.heap TI (.ref i1) (.ref i2)) (hTO : IsPair s.heap TO a b)
    (h1 : ItK ka s.heap i1 l1 k1) (h2 : ItK kb s.heap i2 l2 k2) (hl1 : SqK ka s.heap l1 xs) (hl2 : SqK kb s.heap l2 ys) (hx : xs[k1]? = none) (hy : ys[k2]? = none)
    (hE : ∀ h' e, (∀ c o, c ≠ z → c ≠ TO → c ≠ i1 → c ≠ i2 → s.heap.get? c = some o → h'.get? c = some o) → (∃ o, h'.get? e = some o ∧ o.cls = .type "StopIteration") → E (.ref e) { s with heap := h' }) :
    wpAny (model prog w) A (Builtin.«zip.__next__» ⟨[.ref z], []⟩) Q E s := by
  show wpAny _ _ (field (.ref z) 2 >>= _) _ _ _
  refine wpAny_bind (wpAny_field hz rfl (x := .bool true) rfl ?_)
  show wpAny _ _ (field (.ref z) 3 >>= _) _ _ _
  refine wpAny_bind (wpAny_field hz rfl (x := .ref TI) rfl ?_)
  refine wpAny_bind (wpAny_seqItems hTI rfl ?_)
  show wpAny _ _ (Builtin.SmallTypes.ownedTupleIsFree (.ref z) >>= _) _ _ _
  refine wpAny_bind ?_
  unfold Builtin.SmallTypes.ownedTupleIsFree
  refine wpAny_bind (wpAny_field hz rfl (x := .none) rfl (wpAny_pure ?_))
  simp only [if_true]
  refine wpAny_bind (wpAny_rule ?_)
  refine wpAny_bind (wpAny_field hz rfl (x := .ref TO) rfl ?_)
  refine wpAny_bind (wpAny_setField_rec hz (by simp) fun h₁ hz₁ hs₁ => ?_)
  replace hz₁ : IsZipS h₁ z TI TO .ellipsis := hz₁
  refine wpAny_bind ?_
  simp only [List.zipIdx_cons, List.zipIdx_nil, List.forIn_cons, List.forIn_nil]
  refine wpAny_bind (wpAny_bind (wpAny_onRaise ?_))
  show wpAny _ _ (Builtin.SmallTypes.nextOrEnd (.ref i1)) _ _ _
  refine norE_end hh (h1.ext hs₁.extBut D.i1z) (hl1.ext hs₁.extBut D.l1z) hx fun h₂ hs₂ => ?_
  have hz₂ : IsZipS h₂ z TI TO .ellipsis := hs₂ _ _ D.i1z.symm hz₁
  refine wpAny_bind (wpAny_setField_rec hz₂ (by simp) fun h₃ hz₃ hs₃ => ?_)
  refine wpAny_bind (wpAny_bind ?_)
  simp only [List.drop_succ_cons, List.drop_zero, List.zipIdx_cons, List.zipIdx_nil, List.forIn_cons, List.forIn_nil]
  refine wpAny_bind (wpAny_bind ?_)
  have i2₃ : ItK kb h₃ i2 l2 k2 := ((h2.ext hs₁.extBut D.i2z).ext hs₂ D.i12.symm).ext hs₃.extBut D.i2z
  have l2₃ : SqK kb h₃ l2 ys := ((hl2.ext hs₁.extBut D.l2z).ext hs₂ D.l2i1).ext hs₃.extBut D.l2z
  refine norE_end hh i2₃ l2₃ hy fun h₄ hs₄ => ?_
  refine wpAny_pure (wpAny_pure (wpAny_bind (wpAny_rule (raise_stop hh fun h₅ e k₅ he => ?_))))
  exact hE h₅ e (fun c o c1 c2 c3 c4 x => k₅ _ _ (hs₄ _ _ c4 (hs₃.extBut _ _ c1 (hs₂ _ _ c3 (hs₁.extBut _ _ c1 x))))) he
end
end RQ
namespace RQ
open PySem PySem.Spec PyProof.Rows L2
open PySem.Sem (wp)
section
variable {prog : Program} {w : World} {A : Around} {E : Value → Shared → Prop} {s : Shared}
theorem pyNext_zipS_item {ka kb : Bool} {z TI TO i1 i2 l1 l2 : Addr} {k1 k2 : Nat} {xs ys : Array Value} {x y a b : Value} {Q : Option Value → Shared → Prop} (D : ZipApart z TI TO i1 i2 l1 l2)
    (hz : IsZipS s.heap z TI TO .none) (hTI : IsPair s.heap TI (.ref i1) (.ref i2)) (hTO : IsPair s.heap TO a b)
    (h1 : ItK ka s.heap i1 l1 k1) (h2 : ItK kb s.heap i2 l2 k2) (hl1 : SqK ka s.heap l1 xs) (hl2 : SqK kb s.heap l2 ys) (hx : xs[k1]? = some x) (hy : ys[k2]? = some y)
    (hQ : ∀ h', IsZipS h' z TI TO (rawInt s.heap.objs.size) → IsPair h' TO x y → ItK ka h' i1 l1 (k1 + 1) → ItK kb h' i2 l2 (k2 + 1) → IsPair h' s.heap.objs.size x y → h'.objs.size = s.heap.objs.size + 1 →
      (∀ c o, c ≠ z → c ≠ TO → c ≠ i1 → c ≠ i2 → s.heap.get? c = some o → h'.get? c = some o) → Q (some (.ref s.heap.objs.size)) { s with heap := h' }) :
    wpAny (model prog w) A (pyNext (.ref z)) Q E s := by
  have hT : s.TypeIs (.ref z) "zip" := ⟨_, hz, rfl⟩
  unfold pyNext
  exact wpAny_bind (wpAny_attempt (wpAny_callSpecial?_slot (name := Str.ofString "__next__") hT F.slot_zip_next
    (wpAny_call_entry F.slot_zip_next hT F.entry_zip_next
      (zipS_next_item D hz hTI hTO h1 h2 hl1 hl2 hx hy fun h' a1 a2 a3 a4 a5 a6 a7 => wpAny_pure (hQ h' a1 a2 a3 a4 a5 a6 a7)) (F.args_zip_next_1 _))))
theorem pyNext_zipS_end {ka kb : Bool} {z TI TO i1 i2 l1 l2 : Addr} {k1 k2 : Nat} {xs ys : Array Value} {a b : Value} {Q : Option Value → Shared → Prop} (hh : A.handled = none) (D : ZipApart z TI TO i1 i2 l1 l2)
    (hz : IsZipS s.heap z TI TO .none) (hTI : IsPair s.heap TI (.ref i1) (.ref i2)) (hTO : IsPair s.heap TO a b)
    (h1 : ItK ka s.heap i1 l1 k1) (h2 : ItK kb s.heap i2 l2 k2) (hl1 : SqK ka s.heap l1 xs) (hl2 : SqK kb s.heap l2 ys) (hx : xs[k1]? = none) (hy : ys[k2]? = none)
    (hQ : ∀ h', (∀ c o, c ≠ z → c ≠ TO → c ≠ i1 → c ≠ i2 → s.heap.get? c = some o → h'.get? c = some o) → Q none { s with heap := h' }) : wpAny (model prog w) A (pyNext (.ref z)) Q E s := by
  have hT : s.TypeIs (.ref z) "zip" := ⟨_, hz, rfl⟩
  unfold pyNext
  refine wpAny_bind (wpAny_attempt (wpAny_callSpecial?_slot (name := Str.ofString "__next__") hT F.slot_zip_next
    (wpAny_call_entry F.slot_zip_next hT F.entry_zip_next (zipS_next_end (show A.in1.handled = none from hh) D hz hTI hTO h1 h2 hl1 hl2 hx hy fun h' e hk he => ?_) (F.args_zip_next_1 _))))
  obtain ⟨o, ho, hc⟩ := he
  refine wpAny_bind (wpAny_isInstance (T := "StopIteration") (b := true) ⟨o, ho, hc⟩ isSubtype_stop ?_)
  exact wpAny_pure (hQ _ hk)
theorem letGo_zipS {elts : List Expr} {x1} {pos : Pos} {z TI TO T : Addr} {Q : Unit → Shared → Prop} (hz : IsZipS s.heap z TI TO (rawInt T))
    (hQ : ∀ h', IsZipS h' z TI TO .none → Heap.SameBut z s.heap h' → Q () { s with heap := h' }) :
    wpAny (model prog w) A (letOwnedTupleGo (.Tuple elts x1 pos) (.ref z) (.ref T)) Q E s := by
  unfold letOwnedTupleGo
  refine wpAny_bind (wpAny_load hz ?_)
  show wpAny _ _ (if (["enumerate", "zip", "dict_itemiterator", "dict_reverseitemiterator", "odict_iterator", "itertools.zip_longest", "itertools.pairwise"].contains "zip" &&
      (#[rawInt T, .bool false, .bool true, .ref TI, .ref TO] : Array Value)[0]? == some (rawInt T)) = true then _ else _) Q E s
  rw [if_pos (by simp)]
  refine wpAny_bind (wpAny_rule ?_)
  exact wpAny_setField_rec hz (by simp) hQ
theorem pyIter_zipS {z TI TO : Addr} {f0 : Value} {Q : Value → Shared → Prop} (hz : IsZipS s.heap z TI TO f0) (h : Q (.ref z) s) : wpAny (model prog w) A (pyIter (.ref z)) Q E s := by
  have hT : s.TypeIs (.ref z) "zip" := ⟨_, hz, rfl⟩
  refine wpAny_pyIter_slot hT F.slot_zip_iter (wpAny_call_entry F.slot_zip_iter hT F.entry_zip_iter ?_ (F.args_zip_iter_1 _))
  show wpAny _ _ (ret (.ref z)) _ _ s
  exact wpAny_pure ⟨_, rfl, "zip", _, hT, F.slot_zip_next.lookup, h⟩

/-! ### the call with strict -/
theorem callType_meetsK {T newId initId : String} {Bn Bi : Builtin} {args : List Value} {kw : List (Str × Value)} {S : PySem.Spec} {Q Q₁ : Value → Shared → Prop} (ft : TypeCalled T newId initId)
    (hct : checkTypeCall T ⟨args, kw⟩ = pure ()) (hcn : checkBuiltinCall newId ⟨.type T :: args, kw⟩ = pure ())
    (entryN : entryFor table newId = some Bn) (entryI : entryFor table initId = some Bi) (g : Meets (Bn ⟨.type T :: args, kw⟩) S)
    (h : S A.in1 (wants Q₁ E) s)
    (hnext : ∀ obj s₁, Q₁ obj s₁ → s₁.TypeIs obj T ∧ argsOk initId ⟨obj :: args, kw⟩ ∧ ∃ Si, Meets (Bi ⟨obj :: args, kw⟩) Si ∧ Si A.in1 (wants (fun r s₂ => r = .none ∧ Q obj s₂) E) s₁) :
    wpAny (model prog w) A (call (.type T) args kw) Q E s := by
  obtain ⟨c, tl, hmro⟩ := ft.mro
  have hmade := ft.made
  have hsub := ft.sub
  refine wpAny_call (codeAny_of_tree ?_)
  show wpAny _ _ (callAny (.type T) _) _ _ _
  refine wpAny_pure ⟨Code.quiet_builtin _ (by decide +kernel), codeAny_builtin F.entry_type_call ?_⟩
  rw [Around.under_plain (weight_type_call_type T args kw) (units_type_call_type T args kw)]
  have h1 := ft.notType
  have h2 := ft.canCreate
  repeat (any_goals (first | assumption | wp_step))

  refine codeAny_mono (codeAny_call_builtin ft.plain entryN (wpAny_of_eq hcn (g prog w A.in1 _ s h))) fun r s₁ hr => ?_
  cases r with
  | error e => exact hr
  | ok fl =>
    cases fl with
    | ret obj =>
      obtain ⟨hT, hok, Si, gi, hsi⟩ := hnext _ _ hr
      have hli := ft.init.lookup
      have hbi := ft.init.bind obj
      repeat (any_goals (first | assumption | wp_step))

      refine codeAny_mono (codeAny_call_builtin ft.init.plain entryI (ft.init.check _ _ _ _ _ _ _ _ hT hok (gi prog w A.in1 _ s₁ hsi))) fun r₂ s₂ hr₂ => ?_
      cases r₂ with
      | error e => exact hr₂
      | ok fl₂ =>
        cases fl₂ with
        | ret r =>
          obtain ⟨rfl, hq⟩ := hr₂
          repeat (any_goals (first | assumption | wp_step))
        | _ => exact hr₂.elim
    | _ => exact hr.elim
theorem typeCall_zipS (a b : Value) : checkTypeCall "zip" ⟨[a, b], [("strict", .bool true)]⟩ = pure () := by kernel_rfl
theorem newCall_zipS (a b : Value) : checkBuiltinCall "zip.__new__" ⟨[.type "zip", a, b], [("strict", .bool true)]⟩ = pure () := by kernel_rfl
end
end RQ
namespace RQ
open PySem PySem.Spec PyProof.Rows L2
open PySem.Sem (wp)
abbrev kwS : List (Str × Value) := [("strict", .bool true)]
theorem args_initS (a b c : Value) : argsOk "object.__init__" ⟨[a, b, c], kwS⟩ := by
  unfold argsOk; rw [signature?_of (id := "object.__init__") (n := ['_', '_', 't', 'i', 'n', 'i', '_', '_']) (o := ['t', 'c', 'e', 'j', 'b', 'o']) (by kernel_rfl) PySem.F.owner_object]; kernel_rfl
theorem initS_meets {T newId : String} {self a b : Value} (hl : typeLookup (.type T) "__init__" = pure (some (.builtin "object.__init__")))
    (hm : Bind.madeBy (.type T) = pure (some newId)) (hne : (some newId != some "object.__new__") = true) :
    Meets (Builtin.«object.__init__» ⟨[self, a, b], kwS⟩) (fun _ R s => s.TypeIs self T ∧ R (.ok (.ret .none)) s) := by
  refine Meets.of_wp fun prog w A R s hs => ?_
  obtain ⟨hT, hq⟩ := hs
  repeat (any_goals (first | assumption | wp_step))
  exact ⟨_, rfl, hq⟩
abbrev zipS1 (k : Bool) (h : Heap) (l1 : Addr) : Heap := h.push { cls := .type (itName k), data := .fields #[.ref l1, .int 0 0] }
abbrev zipS2 (k k' : Bool) (h : Heap) (l1 l2 : Addr) : Heap := (zipS1 k h l1).push { cls := .type (itName k'), data := .fields #[.ref l2, .int 0 0] }
abbrev zipS3 (k k' : Bool) (h : Heap) (l1 l2 : Addr) : Heap := (zipS2 k k' h l1 l2).push { cls := .type "tuple", data := .seq #[.ref h.objs.size, .ref (zipS1 k h l1).objs.size] }
abbrev zipS4 (k k' : Bool) (h : Heap) (l1 l2 : Addr) : Heap := (zipS3 k k' h l1 l2).push { cls := .type "tuple", data := .seq #[.none, .none] }
abbrev zipS5 (k k' : Bool) (h : Heap) (l1 l2 : Addr) : Heap := (zipS4 k k' h l1 l2).push { cls := .type "zip", data := .fields #[.none, .bool false, .bool true, .ref (zipS2 k k' h l1 l2).objs.size, .ref (zipS3 k k' h l1 l2).objs.size] }
theorem pyIterK {prog : Program} {w : World} {A : Around} {E : Value → Shared → Prop} {s : Shared} {k : Bool} {t : Addr} {items} {Q : Value → Shared → Prop} (ht : SqK k s.heap t items)
    (h : Q (.ref s.heap.objs.size) { s with heap := s.heap.push { cls := .type (itName k), data := .fields #[.ref t, .int 0 0] } }) : wpAny (model prog w) A (pyIter (.ref t)) Q E s := by
  cases k with
  | true => exact wpAny_pyIter_tuple ht h
  | false => exact wpAny_pyIter_list ht h
theorem meets_zipS_new (k k' : Bool) (l1 l2 : Addr) (xs ys : Array Value) :
    Meets (Builtin.«zip.__new__» ⟨[.type "zip", .ref l1, .ref l2], kwS⟩) (fun _ R s => SqK k s.heap l1 xs ∧ SqK k' s.heap l2 ys ∧
      R (.ok (.ret (.ref (zipS4 k k' s.heap l1 l2).objs.size))) { s with heap := zipS5 k k' s.heap l1 l2 }) :=
  .of_wp fun prog w A R s h => by
    obtain ⟨hp, g, d, tk, os⟩ := s; obtain ⟨hl1, hl2, h⟩ := h
    have hsub := sub_zip
    have hL1 : SqK k (Shared.heap ⟨hp, g, d, tk, os⟩) l1 xs := hl1
    have hL2 : SqK k' (Shared.heap ⟨hp.push { cls := .type (itName k), data := .fields #[.ref l1, .int 0 0] }, g, d, tk, os⟩) l2 ys := SqK.push hl2 _
    wp_walk using pyIterK hL1, pyIterK hL2
    exact ⟨_, rfl, h⟩

section
variable {prog : Program} {w : World} {A : Around} {E : Value → Shared → Prop} {s : Shared}
theorem callType_newS {a b : Value} {Bn : Builtin} {S : PySem.Spec} {Q : Value → Shared → Prop} (entryN : entryFor table "zip.__new__" = some Bn) (g : Meets (Bn ⟨[.type "zip", a, b], kwS⟩) S)
    (h : S A.in1 (wants (fun obj s₁ => s₁.TypeIs obj "zip" ∧ Q obj s₁) E) s) : wpAny (model prog w) A (call (.type "zip") [a, b] kwS) Q E s :=
  callType_meetsK F.called_zip (typeCall_zipS a b) (newCall_zipS a b) entryN F.entry_object_init g h fun obj _ hq =>
    ⟨hq.1, args_initS obj a b, _, initS_meets F.called_zip.init.lookup F.called_zip.made (by decide), hq.1, rfl, hq.2⟩
theorem call_zipS {k k' : Bool} {l1 l2 : Addr} {xs ys : Array Value} {Q : Value → Shared → Prop} (hl1 : SqK k s.heap l1 xs) (hl2 : SqK k' s.heap l2 ys)
    (h : ∀ h', IsZipS h' (s.heap.objs.size + 4) (s.heap.objs.size + 2) (s.heap.objs.size + 3) .none → IsPair h' (s.heap.objs.size + 2) (.ref s.heap.objs.size) (.ref (s.heap.objs.size + 1)) →
      IsPair h' (s.heap.objs.size + 3) .none .none → ItK k h' s.heap.objs.size l1 0 → ItK k' h' (s.heap.objs.size + 1) l2 0 → h'.objs.size = s.heap.objs.size + 5 →
      (∀ c o, s.heap.get? c = some o → h'.get? c = some o) → Q (.ref (s.heap.objs.size + 4)) { s with heap := h' }) :
    wpAny (model prog w) A (call (.type "zip") [.ref l1, .ref l2] kwS) Q E s := by
  refine callType_newS F.entry_zip_new (meets_zipS_new k k' l1 l2 xs ys) ⟨hl1, hl2, ?_⟩
  have z1 : (zipS1 k s.heap l1).objs.size = s.heap.objs.size + 1 := Heap.size_push ..
  have z2 : (zipS2 k k' s.heap l1 l2).objs.size = s.heap.objs.size + 2 := by rw [Heap.size_push, z1]
  have z3 : (zipS3 k k' s.heap l1 l2).objs.size = s.heap.objs.size + 3 := by rw [Heap.size_push, z2]
  have z4 : (zipS4 k k' s.heap l1 l2).objs.size = s.heap.objs.size + 4 := by rw [Heap.size_push, z3]
  have z5 : (zipS5 k k' s.heap l1 l2).objs.size = s.heap.objs.size + 5 := by rw [Heap.size_push, z4]
  have g5 : (zipS5 k k' s.heap l1 l2).get? (zipS4 k k' s.heap l1 l2).objs.size = some _ := Heap.get?_push_size _ rfl
  have g4 : (zipS5 k k' s.heap l1 l2).get? (zipS3 k k' s.heap l1 l2).objs.size = some _ := Heap.get?_push_of_some _ (Heap.get?_push_size _ rfl)
  have g3 : (zipS5 k k' s.heap l1 l2).get? (zipS2 k k' s.heap l1 l2).objs.size = some _ := Heap.get?_push_of_some _ (Heap.get?_push_of_some _ (Heap.get?_push_size _ rfl))
  have g2 : (zipS5 k k' s.heap l1 l2).get? (zipS1 k s.heap l1).objs.size = some _ := Heap.get?_push_of_some _ (Heap.get?_push_of_some _ (Heap.get?_push_of_some _ (Heap.get?_push_size _ rfl)))
  have g1 : (zipS5 k k' s.heap l1 l2).get? s.heap.objs.size = some _ := Heap.get?_push_of_some _ (Heap.get?_push_of_some _ (Heap.get?_push_of_some _ (Heap.get?_push_of_some _ (Heap.get?_push_size _ rfl))))
  show _ ∧ _
  rw [z2, z3, z4] at g5
  rw [z1, z2] at g3
  rw [z3] at g4
  rw [z1] at g2
  rw [z4]
  refine ⟨⟨_, g5, rfl⟩, h _ g5 g3 g4 ?_ ?_ z5 fun c o x =>
    Heap.get?_push_of_some _ (Heap.get?_push_of_some _ (Heap.get?_push_of_some _ (Heap.get?_push_of_some _ (Heap.get?_push_of_some _ x))))⟩
  · cases k with
    | true => exact ⟨_, g1, rfl, rfl⟩
    | false => exact ⟨_, g1, rfl, rfl⟩
  · cases k' with
    | true => exact ⟨_, g2, rfl, rfl⟩
    | false => exact ⟨_, g2, rfl, rfl⟩
end
/-- a list or a tuple, told which -/
def SqA (k : Bool) (K : PySem.W.Frag) (H : Hp) (a : Addr) (xs : List V) : Prop := match k with
  | true => SqT K H a xs
  | false => SqL K H a xs
theorem SqA.got {X : Cx} {pins : List (Addr × Obj)} {σ : L2.St} {H : Hp} {s : Shared} {k : Bool} {a : Addr} {xs : List V} (I : Inv X pins σ H s) (h : SqA k X.K H a xs) : ∃ its, Vals xs its ∧ SqK k s.heap a its.toArray := by
  cases k with
  | true =>
    obtain ⟨its, rv, p, _⟩ := I.tuple h
    exact ⟨its, rv, p⟩
  | false =>
    obtain ⟨its, rv, p, _⟩ := I.list h
    exact ⟨its, rv, p.isList⟩
theorem SqA.inj {X : Cx} {pins : List (Addr × Obj)} {σ : L2.St} {H : Hp} {s : Shared} {k : Bool} {a : Addr} {xs ys : List V} (I : Inv X pins σ H s) (h : SqA k X.K H a xs) (h2 : SqA k X.K H a ys) : xs = ys := by
  cases k with
  | true => exact I.tuple_inj h h2
  | false => exact I.list_inj h h2
/-- two sequences as they stand at each turn, the items in new pairs; both end at once -/
def ItzS (K : PySem.W.Frag) (ka kb : Bool) (a b : Addr) : It :=
  ⟨fun i H => ∃ (xs ys : List V) (x y : V), SqA ka K H a xs ∧ SqA kb K H b ys ∧ xs[i]? = some x ∧ ys[i]? = some y,
    fun i H v H' => ∃ T x y, v = .ref T ∧ H T = none ∧ H' = upd H T (.tup [x, y]) ∧ (∀ xs, SqA ka K H a xs → xs[i]? = some x) ∧ ∀ ys, SqA kb K H b ys → ys[i]? = some y,
    fun i H => ∃ xs ys : List V, SqA ka K H a xs ∧ SqA kb K H b ys ∧ xs.length ≤ i ∧ ys.length ≤ i⟩
theorem turn_zipS {P : Program} {w : World} {K : PySem.W.Frag} {elts : List Expr} {kk : Nat} {tpos : Pos} {ka kb : Bool} {a b z TI TO i1 i2 : Addr} (D : ZipApart z TI TO i1 i2 a b) :
    Turn P w K (.Tuple elts kk tpos) (ItzS K ka kb a b) [z, TI, TO, i1, i2] z (fun i h => IsZipS h z TI TO .none ∧ IsPair h TI (.ref i1) (.ref i2) ∧ (∃ x y, IsPair h TO x y) ∧ ItK ka h i1 a i ∧ ItK kb h i2 b i) where
  mem := by simp
  obj := fun i h st c hc => by
    obtain ⟨hz, hTI, ⟨x, y, hTO⟩, h1, h2⟩ := st
    have e' : c = z ∨ c = TI ∨ c = TO ∨ c = i1 ∨ c = i2 := by simpa using hc
    rcases e' with q | q | q | q | q
    · rw [q]; exact ⟨_, hz, fun v q => nomatch q⟩
    · rw [q]; exact ⟨_, hTI, fun v q => nomatch q⟩
    · rw [q]; exact ⟨_, hTO, fun v q => nomatch q⟩
    · rw [q]; exact h1.obj
    · rw [q]; exact h2.obj
  keep := fun i h h' st k => by
    obtain ⟨hz, hTI, ⟨x, y, hTO⟩, h1, h2⟩ := st
    exact ⟨k z (by simp) _ hz, k TI (by simp) _ hTI, ⟨x, y, k TO (by simp) _ hTO⟩, h1.at fun o q => k i1 (by simp) o q, h2.at fun o q => k i2 (by simp) o q⟩
  item := by
    intro X hP hw hK hc i pins s σ H E I hf st hg
    subst hP hw hK
    obtain ⟨hz, hTI, ⟨x0, y0, hTO⟩, h1, h2⟩ := st
    obtain ⟨xs, ys, x, y, hqx, hqy, hx, hy⟩ := hg
    obtain ⟨its, rv, p⟩ := hqx.got I
    obtain ⟨its2, rv2, p2⟩ := hqy.got I
    obtain ⟨u, hu, ru⟩ := rv.get hx
    obtain ⟨u2, hu2, ru2⟩ := rv2.get hy
    have hzl : z < s.heap.objs.size := Heap.lt_size hz
    refine pyNext_zipS_item D hz hTI hTO h1 h2 p p2 (x := u) (y := u2) (by simpa using hu) (by simpa using hu2) fun h' z' TO' h1' h2' hT hsz hk => ?_
    refine ⟨_, rfl, letGo_zipS (s := { s with heap := h' }) z' fun h'' z'' sb => ?_⟩
    have hT2 : h''.get? s.heap.objs.size = some { cls := .type "tuple", data := .seq #[u, u2] } := (sb.2 _ (Nat.ne_of_gt hzl)).trans hT
    have new : ObjOk X.prog X.w (upd H s.heap.objs.size (.tup [x, y])) h'' s.heap.objs.size (.tup [x, y]) :=
      ⟨by show 2 ≤ sizeLine; decide, [u, u2], .cons ru (.cons ru2 .nil), ⟨_, hT2, rfl, _, rfl⟩⟩
    have I1 : Inv X pins σ (upd H s.heap.objs.size (.tup [x, y])) { s with heap := h'' } :=
      I.turnedNew (t' := s.toks) (ch := [z, TI, TO, i1, i2]) (fun c o hb q => (sb.2 c (fun q' => hb (by simp [q']))).trans (hk c o (fun q' => hb (by simp [q'])) (fun q' => hb (by simp [q'])) (fun q' => hb (by simp [q'])) (fun q' => hb (by simp [q'])) q)) hf (Nat.le_refl _) new
    refine ⟨.ref s.heap.objs.size, _, I1, rfl, ⟨_, x, y, rfl, I.hok.fresh (Nat.le_refl _), rfl, fun l hl => by rw [SqA.inj I hl hqx]; exact hx, fun l hl => by rw [SqA.inj I hl hqy]; exact hy⟩, ⟨z'', ?_, ⟨u, u2, ?_⟩, ?_, ?_⟩, fun c hcm => ?_⟩
    · exact (sb.2 _ D.TIz).trans (hk _ _ D.TIz D.TITO D.TIi1 D.TIi2 hTI)
    · exact (sb.2 _ D.TOz).trans TO'
    · exact h1'.at fun o q => (sb.2 _ D.i1z).trans q
    · exact h2'.at fun o q => (sb.2 _ D.i2z).trans q
    · have hlt : c < s.heap.objs.size := by
        have e' : c = z ∨ c = TI ∨ c = TO ∨ c = i1 ∨ c = i2 := by simpa using hcm
        rcases e' with q | q | q | q | q
        · rw [q]; exact hzl
        · rw [q]; exact Heap.lt_size hTI
        · rw [q]; exact Heap.lt_size hTO
        · rw [q]; obtain ⟨_, e1, _⟩ := h1.obj; exact Heap.lt_size e1
        · rw [q]; obtain ⟨_, e2, _⟩ := h2.obj; exact Heap.lt_size e2
      rw [upd_ne (Nat.ne_of_lt hlt)]
      exact (hf c hcm).1
  done := by
    intro X hP hw hK hc i pins s σ H E I hf st hg
    subst hP hw hK
    obtain ⟨hz, hTI, ⟨x0, y0, hTO⟩, h1, h2⟩ := st
    obtain ⟨xs, ys, hqx, hqy, hend, hend2⟩ := hg
    obtain ⟨its, rv, p⟩ := hqx.got I
    obtain ⟨its2, rv2, p2⟩ := hqy.got I
    have l1 := rv.length
    have l2 := rv2.length
    exact pyNext_zipS_end (I.ok.hd hc) D hz hTI hTO h1 h2 p p2 (by simp; omega) (by simp; omega) fun h' hk => ⟨rfl, I.turnedL (t' := s.toks) (ch := [z, TI, TO, i1, i2]) (fun c o hb q =>
      hk c o (fun q' => hb (by simp [q'])) (fun q' => hb (by simp [q'])) (fun q' => hb (by simp [q'])) (fun q' => hb (by simp [q'])) q) hf⟩
  self := fun A i s Q E st h => pyIter_zipS st.1 h
def iZipS (K : PySem.W.Frag) (ta : TA) : TI := fun σ H R => ta σ H fun vs H1 => ∃ ka kb a b xs ys, vs = [.ref a, .ref b] ∧ SqA ka K H1 a xs ∧ SqA kb K H1 b ys ∧ R (ItzS K ka kb a b) H1
theorem callWith_typeKw {M : Model} {A : Around} {E : Value → Shared → Prop} {s : Shared} {pos : Pos} {T : String} {first : List Value} {args : List (Bool × Sem Value)} {keywords : List (Option Str × Sem Value)} {Q : Value → Shared → Prop}
    (hplain : args.any (·.1) = false) (hkw : keywords.any (·.1.isNone) = false)
    (h : wpAny M A (evalArgs (.type T) true args keywords) (fun a s₁ => wpAny M A (call (.type T) (first ++ a.pos) a.kw) Q E s₁) E s) :
    wpAny M A (callWith pos (.type T) first args keywords) Q E s := by
  unfold callWith
  refine wpAny_bind (wpAny_holding (wpAny_mono h (fun a s₁ h₁ => wpAny_bind (wpAny_standAt ?_)) fun _ _ x => x))
  simp only [hplain, hkw, Bool.or_false]
  refine wpAny_bind (wpAny_pure ?_)
  exact wpAny_bind (wpAny_mono h₁ (fun r s₂ hr => wpAny_bind (wpAny_holding (wpAny_point (wpAny_pure hr)))) fun _ _ x => x)
theorem pi_zipS {X : Cx} {e e2 : Expr} {ta : TA} {p pos tpos kp cp : Pos} {kc : Nat} {elts : List Expr} {kk : Nat} (hg : Gl X "zip") (hm : X.mg "zip" = none) (ha : PA X [e, e2] ta)
    (hs : starEach [e, e2] X.env = (false, eval e X.env) :: starEach [e2] X.env := by rfl) (hpl : (backTo pos (starEach [e2] X.env)).any (·.1) = false := by rfl) :
    PI X (.Tuple elts kk tpos) (.Call (.Name "zip" p) [e, e2] [⟨some "strict", .Constant (.bool true) kc cp, kp⟩] pos) (iZipS X.K ta) := by
  refine ⟨fun pins s σ H R I h => ?_⟩
  refine wpAny_Call_Name_kw (ld_blt I hg hm PyProof.Rows.boot_zip (callWith_typeKw ?_ rfl ?_))
  · rw [hs]; show (false || (backTo pos (starEach [e2] X.env)).any (·.1)) = false; rw [hpl]; rfl
  rw [hs]
  refine PyProof.Rows.evalArgs_kwB rfl ?_
  have hr := ha.run pos pins s σ H _ I h
  rw [hs] at hr
  refine thn hr fun us s1 ⟨vs, H1, I1, r1, q1⟩ => ?_
  have pk : PK X [⟨some "strict", .Constant (.bool true) kc cp, kp⟩] (tCons (tC (.bl true)) tNil) := pk_cons pe_bl pk_nil
  refine thn (pk.run pos pins s1 σ H1 (fun zs H2 => zs = [.bl true] ∧ H2 = H1) I1 ⟨rfl, rfl⟩) fun ws s2 ⟨zs, H2, I2, r2, ez, eH⟩ => ?_
  subst ez eH
  cases r2 with
  | cons rb rn =>
  cases rn
  cases rb
  obtain ⟨ka, kb, a, b, xs, ys, ex, hqx, hqy, q⟩ := q1
  subst ex
  cases r1 with
  | cons r rr =>
  cases rr with
  | cons r' rr =>
  cases rr
  cases r
  cases r'
  have fresh5 : ∀ c, c ∈ [s2.heap.objs.size + 4, s2.heap.objs.size + 2, s2.heap.objs.size + 3, s2.heap.objs.size, s2.heap.objs.size + 1] → FpOk X pins H2 c := fun c hcm => by
    have e' : c = s2.heap.objs.size + 4 ∨ c = s2.heap.objs.size + 2 ∨ c = s2.heap.objs.size + 3 ∨ c = s2.heap.objs.size ∨ c = s2.heap.objs.size + 1 := by simpa using hcm
    have hle : s2.heap.objs.size ≤ c := by
      rcases e' with z | z | z | z | z
      · rw [z]; exact Nat.le_add_right _ _
      · rw [z]; exact Nat.le_add_right _ _
      · rw [z]; exact Nat.le_add_right _ _
      · rw [z]; exact Nat.le_refl _
      · rw [z]; exact Nat.le_add_right _ _
    exact I2.fpOk hle (I2.hok.fresh hle)
  obtain ⟨its, rv, p1⟩ := hqx.got I2
  obtain ⟨its2, rv2, p2⟩ := hqy.got I2
  show wpAny _ _ (call (.type "zip") [.ref a, .ref b] kwS) _ _ _
  refine call_zipS p1 p2 fun h' hz hTI hTO h1 h2 hsz hk => pyIter_zipS hz ?_
  have I3 : Inv X pins σ H2 { s2 with heap := h' } := I2.kept (t' := s2.toks) hk
  exact ⟨s2.heap.objs.size + 4, [s2.heap.objs.size + 4, s2.heap.objs.size + 2, s2.heap.objs.size + 3, s2.heap.objs.size, s2.heap.objs.size + 1], _, _, H2, rfl, I3, turn_zipS (PySem.W.ktu_apart s2.heap.objs.size a b p1.lt p2.lt), ⟨hz, hTI, ⟨_, _, hTO⟩, h1, h2⟩, fresh5, q⟩
end RQ
/-! Q3: a tuple times 1; a tuple times 0 or less. -/
namespace RQ
open PySem PySem.Spec PyProof.Rows L2
open PySem.Sem (wp)
theorem tuple_mul1 (l : Addr) (items : Array Value) (n : Nat) (dd : Option Addr) (sl : Array (Option Value)) (u : Tok) :
    Meets (Builtin.«tuple.__mul__» ⟨[.ref l, .int 1 u], []⟩) (fun _ R s => s.heap.get? l = some { cls := .type "tuple", dict := dd, data := .seq items n, slots := sl } ∧
      R (.ok (.ret (Value.ref l))) s) :=
  .of_wp fun prog w A R s h => by
    obtain ⟨hp, g, d, tk, os⟩ := s
    obtain ⟨hl, h⟩ := h
    have f1 := AutoSeq1.idx_int
    wp_walk using wpAny_loadPart' hl
    repeat (first
      | (refine wpAny_ite_false (by decide) ?_; wp_walk using wpAny_loadPart' hl)
      | (refine wpAny_ite_true (by simp) ?_; wp_walk using wpAny_loadPart' hl))
    exact ⟨_, rfl, h⟩
section
variable {X : Cx}
theorem op_repT1 : OpR X (binaryOp .Mult) (fun x y H Q => ∃ l xs, x = .ref l ∧ y = .int 1 ∧ SqT X.K H l xs ∧ Q (.ref l) H) := by
  intro pins s σ H x y v u Q I rx ry h
  obtain ⟨l, xs, rfl, rfl, hT, q⟩ := h
  cases rx
  obtain ⟨t, rfl⟩ := ry
  obtain ⟨its, r, ⟨⟨cls, dd, data, sl⟩, ho, hc, n, hd⟩, hs⟩ := I.tuple hT
  simp only at hc hd
  subst hc hd
  refine wpAny_binaryOp_repeat_ref (T := "tuple") (U := "int") (by decide) ⟨_, ho, rfl⟩ (fun s' => typeIs_int s' 1 t) noFill_tuple_mul F.fills_int_mul F.slot_int_rmul repeat_tuple F.slot_int_index.lookup
    (call_meets F.slot_int_rmul (typeIs_int s 1 t) F.entry_int_rmul (F.args_int_rmul_2 _ _) (int_rmul_tuple 1 t l its.toArray n dd sl)
      ⟨ho, rfl, ⟨_, ho, rfl⟩, call_meets F.slot_tuple_mul ⟨_, ho, rfl⟩ F.entry_tuple_mul (F.args_tuple_mul_2 _ _) (tuple_mul1 l its.toArray n dd sl t) ⟨ho, ?_⟩⟩)
  exact ⟨.ref l, H, I, rfl, q⟩
end
end RQ
/-! P0: pure data, a logical heap, results, and what each construct does. -/
namespace PD
open PySem

inductive D where
  | non
  | bl (b : Bool)
  | int (i : Int)
  | str (x : Str)
  | tup (l : List D)
  | ref (n : Nat)
  | rol (l : List D)
  | fn (i : Nat)
  deriving Inhabited

inductive Cell where
  | lst (xs : List D)
  | dct (kvs : List (D × D))
  | ins (c : Nat) (fs : List (Str × D))
  | set (xs : List D)

/-! ### the logical heap -/
inductive Tr where
  | nil
  | node (l : Tr) (v : Option Cell) (r : Tr)
def Tr.get : Tr → Nat → Option Cell
  | .nil, _ => none
  | .node l v r, n => if n = 0 then v else if n % 2 = 1 then l.get (n / 2) else r.get (n / 2 - 1)
def Tr.put : Nat → Tr → Nat → Cell → Tr
  | 0, t, _, _ => t
  | f + 1, .nil, n, c => if n = 0 then .node .nil (some c) .nil else if n % 2 = 1 then .node (Tr.put f .nil (n / 2) c) none .nil else .node .nil none (Tr.put f .nil (n / 2 - 1) c)
  | f + 1, .node l v r, n, c => if n = 0 then .node l (some c) r else if n % 2 = 1 then .node (Tr.put f l (n / 2) c) v r else .node l v (Tr.put f r (n / 2 - 1) c)
theorem Tr.get_node (l : Tr) (v : Option Cell) (r : Tr) (n : Nat) : (Tr.node l v r).get n = if n = 0 then v else if n % 2 = 1 then l.get (n / 2) else r.get (n / 2 - 1) := rfl
theorem Tr.get_nil (n : Nat) : Tr.nil.get n = none := rfl
theorem Tr.get_put : ∀ (f : Nat) (t : Tr) (n m : Nat) (c : Cell), n < f → (Tr.put f t n c).get m = if m = n then some c else t.get m
  | 0, _, _, _, _, h => absurd h (Nat.not_lt_zero _)
  | f + 1, t, n, m, c, h => by
    have i1 := fun t (a : ¬ n = 0) => Tr.get_put f t (n / 2) (m / 2) c (by omega)
    have i2 := fun t (a : ¬ n = 0) => Tr.get_put f t (n / 2 - 1) (m / 2 - 1) c (by omega)
    cases t with
    | nil =>
      unfold Tr.put
      by_cases h0 : n = 0
      · rw [if_pos h0, Tr.get_node, Tr.get_nil, Tr.get_nil, Tr.get_nil]
        by_cases hm : m = 0
        · rw [if_pos hm, if_pos (by omega)]
        · rw [if_neg hm, if_neg (show ¬ m = n by omega)]
          split <;> rfl
      · rw [if_neg h0]
        by_cases h1 : n % 2 = 1
        · rw [if_pos h1, Tr.get_node, i1 _ h0, Tr.get_nil, Tr.get_nil, Tr.get_nil]
          by_cases hm : m = 0
          · rw [if_pos hm, if_neg (by omega)]
          · rw [if_neg hm]
            by_cases e : m = n
            · rw [if_pos (by omega), if_pos (by omega), if_pos e]
            · rw [if_neg e]
              by_cases hp : m % 2 = 1
              · rw [if_pos hp, if_neg (by omega)]
              · rw [if_neg hp]
        · rw [if_neg h1, Tr.get_node, i2 _ h0, Tr.get_nil, Tr.get_nil, Tr.get_nil]
          by_cases hm : m = 0
          · rw [if_pos hm, if_neg (by omega)]
          · rw [if_neg hm]
            by_cases e : m = n
            · rw [if_neg (by omega), if_pos (by omega), if_pos e]
            · rw [if_neg e]
              by_cases hp : m % 2 = 1
              · rw [if_pos hp]
              · rw [if_neg hp, if_neg (by omega)]
    | node l v r =>
      unfold Tr.put
      by_cases h0 : n = 0
      · rw [if_pos h0, Tr.get_node, Tr.get_node]
        by_cases hm : m = 0
        · rw [if_pos hm, if_pos (by omega)]
        · rw [if_neg hm, if_neg (show ¬ m = n by omega), if_neg hm]
      · rw [if_neg h0]
        by_cases h1 : n % 2 = 1
        · rw [if_pos h1, Tr.get_node, i1 _ h0, Tr.get_node]
          by_cases hm : m = 0
          · rw [if_pos hm, if_neg (by omega), if_pos hm]
          · rw [if_neg hm, if_neg hm]
            by_cases e : m = n
            · rw [if_pos (by omega), if_pos (by omega), if_pos e]
            · rw [if_neg e]
              by_cases hp : m % 2 = 1
              · rw [if_pos hp, if_pos hp, if_neg (by omega)]
              · rw [if_neg hp, if_neg hp]
        · rw [if_neg h1, Tr.get_node, i2 _ h0, Tr.get_node]
          by_cases hm : m = 0
          · rw [if_pos hm, if_neg (by omega), if_pos hm]
          · rw [if_neg hm, if_neg hm]
            by_cases e : m = n
            · rw [if_neg (by omega), if_pos (by omega), if_pos e]
            · rw [if_neg e]
              by_cases hp : m % 2 = 1
              · rw [if_pos hp, if_pos hp]
              · rw [if_neg hp, if_neg hp, if_neg (by omega)]

structure LH where
  t : Tr
  len : Nat
def LH.nil : LH := ⟨.nil, 0⟩
def LH.get (L : LH) (n : Nat) : Option Cell := if n < L.len then L.t.get n else none
def LH.push (L : LH) (c : Cell) : LH := ⟨Tr.put (L.len + 1) L.t L.len c, L.len + 1⟩
def LH.put (L : LH) (n : Nat) (c : Cell) : LH := ⟨Tr.put (n + 1) L.t n c, L.len⟩
theorem LH.push_len (L : LH) (c : Cell) : (L.push c).len = L.len + 1 := rfl
theorem LH.put_len (L : LH) (n : Nat) (c : Cell) : (L.put n c).len = L.len := rfl
theorem LH.get_push (L : LH) (c : Cell) (m : Nat) : (L.push c).get m = if m = L.len then some c else L.get m := by
  unfold LH.get LH.push
  dsimp only
  rw [Tr.get_put _ _ _ _ _ (Nat.lt_succ_self _)]
  by_cases e : m = L.len
  · rw [if_pos e, if_pos e, if_pos (by omega)]
  · rw [if_neg e, if_neg e]
    by_cases h : m < L.len
    · rw [if_pos h, if_pos (by omega)]
    · rw [if_neg h, if_neg (by omega)]
theorem LH.get_put {L : LH} {n : Nat} (c : Cell) (m : Nat) (h : n < L.len) : (L.put n c).get m = if m = n then some c else L.get m := by
  unfold LH.get LH.put
  dsimp only
  rw [Tr.get_put _ _ _ _ _ (Nat.lt_succ_self _)]
  by_cases e : m = n
  · rw [if_pos e, if_pos e, if_pos (by omega)]
  · rw [if_neg e, if_neg e]
theorem LH.get_lt {L : LH} {n : Nat} {c : Cell} (h : L.get n = some c) : n < L.len := by
  unfold LH.get at h
  by_cases e : n < L.len
  · exact e
  · rw [if_neg e] at h; cases h
theorem LH.get_ge {L : LH} {n : Nat} (h : L.len ≤ n) : L.get n = none := by
  unfold LH.get
  rw [if_neg (by omega)]

/-! ### results -/
inductive Res (α : Type) where
  | ok (a : α) (L : LH)
  | exc (c : Nat) (fs : List (Str × D)) (L : LH)
  | bad
def Res.bind {α β : Type} (r : Res α) (k : α → LH → Res β) : Res β :=
  match r with
  | .ok a L => k a L
  | .exc c fs L => .exc c fs L
  | .bad => .bad
@[simp] theorem Res.bind_ok {α β : Type} (a : α) (L : LH) (k : α → LH → Res β) : (Res.ok a L).bind k = k a L := rfl
@[simp] theorem Res.bind_exc {α β : Type} (c : Nat) (fs : List (Str × D)) (L : LH) (k : α → LH → Res β) : (Res.exc c fs L).bind k = .exc c fs L := rfl
@[simp] theorem Res.bind_bad {α β : Type} (k : α → LH → Res β) : (Res.bad).bind k = .bad := rfl

abbrev Slt := List (Option D)
abbrev Rec := Nat → List D → LH → Res D
abbrev FE := Rec → Slt → LH → Res D
abbrev FA := Rec → Slt → LH → Res (List D)
abbrev FT := Rec → Slt → LH → Res Bool
inductive Fl where
  | nx
  | rt (d : D)
  | bk
  | ct
  | ex (c : Nat) (fs : List (Str × D))
abbrev FS := Rec → Slt → LH → Res (Fl × Slt)
abbrev FG := Rec → D → Slt → LH → Res Slt

/-! ### data of any depth -/
def mapO {α β : Type} (f : α → Option β) : List α → Option (List β)
  | [] => some []
  | x :: r => match f x with
    | some y => match mapO f r with
      | some s => some (y :: s)
      | none => none
    | none => none
/-- as the library's data: lists and tuples at any depth, no dicts -/
def toP : Nat → LH → D → Option PyData
  | 0, _, _ => none
  | n + 1, L, d => match d with
    | .non => some .none
    | .bl b => some (.bool b)
    | .int i => some (.int i)
    | .str x => if PyData.strOk x then some (.str x) else none
    | .tup l => (mapO (toP n L) l).map .tuple
    | .ref k => match L.get k with
      | some (.lst xs) => (mapO (toP n L) xs).map .list
      | _ => none
    | .rol _ => none
    | .fn _ => none
def eqP (L : LH) (a b : D) : Option Bool := match toP 60 L a with
  | some p => match toP 60 L b with
    | some q => some (PyData.eqv p q)
    | none => none
  | none => none
def eqD (L : LH) (a b : D) : Option Bool := match a, b with
  | .str x, .str y => some (decide (x = y))
  | a, b => eqP L a b
theorem eqD_two (L : LH) (a b : D) : (∃ x y, a = .str x ∧ b = .str y) ∨ eqD L a b = eqP L a b := by
  cases a <;> cases b <;> first
    | exact .inr rfl
    | exact .inl ⟨_, _, rfl, rfl⟩
def truthD (L : LH) : D → Option Bool
  | .non => some false
  | .bl b => some b
  | .int i => some (i != 0)
  | .str x => if x.length ≤ sizeLine then some (x.length != 0) else none
  | .tup l => some (!l.isEmpty)
  | .ref n => match L.get n with
    | some (.lst xs) => some (!xs.isEmpty)
    | some (.dct kvs) => some (!kvs.isEmpty)
    | _ => none
  | .rol _ => none
  | .fn _ => none

/-! ### expressions -/
def eC (d : D) : FE := fun _ _ L => .ok d L
def eVar (i : Nat) : FE := fun _ ρ L => match ρ[i]? with
  | some (some d) => .ok d L
  | _ => .bad
def e1 (op : D → LH → Res D) (a : FE) : FE := fun R ρ L => (a R ρ L).bind fun x L1 => op x L1
def e2 (op : D → D → LH → Res D) (a b : FE) : FE := fun R ρ L => (a R ρ L).bind fun x L1 => (b R ρ L1).bind fun y L2 => op x y L2
def aNil : FA := fun _ _ L => .ok [] L
def aCons (a : FE) (r : FA) : FA := fun R ρ L => (a R ρ L).bind fun x L1 => (r R ρ L1).bind fun xs L2 => .ok (x :: xs) L2
def aApp (a : FA) (op : List D → LH → Res D) : FE := fun R ρ L => (a R ρ L).bind fun xs L1 => op xs L1
def oTup (xs : List D) (L : LH) : Res D := if xs.length ≤ sizeLine then .ok (.tup xs) L else .bad
def oLst (xs : List D) (L : LH) : Res D := if xs.length ≤ sizeLine then .ok (.ref L.len) (L.push (.lst xs)) else .bad
def eIf (t : FT) (a b : FE) : FE := fun R ρ L => (t R ρ L).bind fun c L1 => if c then a R ρ L1 else b R ρ L1
def eAnd (a b : FE) : FE := fun R ρ L => (a R ρ L).bind fun x L1 => match truthD L1 x with
  | some true => b R ρ L1
  | some false => .ok x L1
  | none => .bad
def eOr (a b : FE) : FE := fun R ρ L => (a R ρ L).bind fun x L1 => match truthD L1 x with
  | some true => .ok x L1
  | some false => b R ρ L1
  | none => .bad
/-- tests -/
def tV (a : FE) : FT := fun R ρ L => (a R ρ L).bind fun x L1 => match truthD L1 x with
  | some c => .ok c L1
  | none => .bad
def tAnd (a b : FT) : FT := fun R ρ L => (a R ρ L).bind fun c L1 => if c then b R ρ L1 else .ok false L1
def tOr (a b : FT) : FT := fun R ρ L => (a R ρ L).bind fun c L1 => if c then .ok true L1 else b R ρ L1
def tNot (a : FT) : FT := fun R ρ L => (a R ρ L).bind fun c L1 => .ok (!c) L1
def eNot (a : FE) : FE := fun R ρ L => (a R ρ L).bind fun x L1 => match truthD L1 x with
  | some c => .ok (.bl (!c)) L1
  | none => .bad
/-- a < b < c -/
def eCh (op op' : D → D → LH → Res D) (a b c : FE) : FE := fun R ρ L => (a R ρ L).bind fun x L1 => (b R ρ L1).bind fun y L2 => (op x y L2).bind fun k L3 =>
  match k with
  | .bl true => (c R ρ L3).bind fun z L4 => op' y z L4
  | .bl false => .ok (.bl false) L3
  | _ => .bad

/-! ### operators -/
def big64 : Int := 2 ^ 64
def oAdd (a b : D) (L : LH) : Res D := match a, b with
  | .int i, .int j => .ok (.int (i + j)) L
  | .str x, .str y => if x.length + y.length ≤ sizeLine then .ok (.str (x ++ y)) L else .bad
  | .tup x, .tup y => if x.length + y.length ≤ sizeLine then .ok (.tup (x ++ y)) L else .bad
  | .ref m, .ref n => match L.get m, L.get n with
    | some (.lst xs), some (.lst ys) => if xs.length + ys.length ≤ sizeLine then .ok (.ref L.len) (L.push (.lst (xs ++ ys))) else .bad
    | _, _ => .bad
  | .int i, .bl k => .ok (.int (i + (if k then 1 else 0))) L
  | _, _ => .bad
def oSub (a b : D) (L : LH) : Res D := match a, b with
  | .int i, .int j => .ok (.int (i - j)) L
  | _, _ => .bad
/-- op= : ints only -/
def oIAdd (a b : D) (L : LH) : Res D := match a, b with
  | .int i, .int j => .ok (.int (i + j)) L
  | _, _ => .bad
def oMul (a b : D) (L : LH) : Res D := match a, b with
  | .int i, .int j => if (-big64 < i ∧ i < big64) ∨ (-big64 < j ∧ j < big64) then .ok (.int (i * j)) L else .bad
  | .tup x, .int k => if k = 1 then .ok (.tup x) L else if 2 ≤ k ∧ k ≤ 1000 ∧ x.isEmpty = false ∧ x.length ≤ 1000 then .ok (.tup (List.replicate k.toNat x).flatten) L else .bad
  | .ref m, .int k => match L.get m with
    | some (.lst xs) => if k < 2 ^ 63 ∧ -(2 ^ 63) ≤ k ∧ xs.length * k.toNat ≤ sizeLine then .ok (.ref L.len) (L.push (.lst (List.replicate k.toNat xs).flatten)) else .bad
    | _ => .bad
  | _, _ => .bad
def oDiv (a b : D) (L : LH) : Res D := match a, b with
  | .int i, .int j => if 0 < j ∧ j < 1073741824 then .ok (.int (i / j)) L else .bad
  | _, _ => .bad
def oMod (a b : D) (L : LH) : Res D := match a, b with
  | .int i, .int j => if 0 < j then .ok (.int (i % j)) L else .bad
  | _, _ => .bad
def oPow (a b : D) (L : LH) : Res D := match a, b with
  | .int i, .int j => if 0 ≤ j ∧ j ≤ 1000000 ∧ i.natAbs < 2 ^ 64 then .ok (.int (i ^ j.toNat)) L else .bad
  | _, _ => .bad
def oShl (a b : D) (L : LH) : Res D := match a, b with
  | .int i, .int j => if 0 ≤ j ∧ j ≤ 1000000 ∧ i.natAbs < 2 ^ 64 then .ok (.int (i * 2 ^ j.toNat)) L else .bad
  | _, _ => .bad
def oShr (a b : D) (L : LH) : Res D := match a, b with
  | .int i, .int j => if 0 ≤ j then .ok (.int (i / 2 ^ j.toNat)) L else .bad
  | _, _ => .bad
def oBand (a b : D) (L : LH) : Res D := match a, b with
  | .int i, .int j => .ok (.int (Builtin.bitAnd i j)) L
  | _, _ => .bad
def oNeg (a : D) (L : LH) : Res D := match a with
  | .int i => .ok (.int (-i)) L
  | _ => .bad
def oEq (a b : D) (L : LH) : Res D := match eqD L a b with
  | some c => .ok (.bl c) L
  | none => .bad
def oNe (a b : D) (L : LH) : Res D := match eqD L a b with
  | some c => .ok (.bl (!c)) L
  | none => .bad
def lexLt : List Int → List Int → Bool
  | [], [] => false
  | [], _ :: _ => true
  | _ :: _, [] => false
  | x :: xs, y :: ys => if x = y then lexLt xs ys else decide (x < y)
def oLt (a b : D) (L : LH) : Res D := match a, b with
  | .int i, .int j => .ok (.bl (decide (i < j))) L
  | _, _ => .bad
def oLe (a b : D) (L : LH) : Res D := match a, b with
  | .int i, .int j => .ok (.bl (decide (i ≤ j))) L
  | _, _ => .bad
def oGt (a b : D) (L : LH) : Res D := match a, b with
  | .int i, .int j => .ok (.bl (decide (j < i))) L
  | _, _ => .bad
def oGe (a b : D) (L : LH) : Res D := match a, b with
  | .int i, .int j => .ok (.bl (decide (j ≤ i))) L
  | _, _ => .bad
def isNon : D → Bool
  | .non => true
  | _ => false
/-- is: with None, and of two bools -/
def isD (a b : D) : Option Bool := match a, b with
  | a, .non => some (isNon a)
  | .bl x, .bl y => some (decide (x = y))
  | _, _ => none
def oIs (a b : D) (L : LH) : Res D := match isD a b with
  | some c => .ok (.bl c) L
  | none => .bad
def oIsNot (a b : D) (L : LH) : Res D := match isD a b with
  | some c => .ok (.bl (!c)) L
  | none => .bad

/-! ### dicts -/
def eqL {α : Type} (f : α → α → Bool) : List α → List α → Bool
  | [], [] => true
  | x :: xs, y :: ys => f x y && eqL f xs ys
  | _, _ => false
def kEq : Nat → D → D → Bool
  | 0, _, _ => false
  | n + 1, a, b => match a, b with
    | .int i, .int j => decide (i = j)
    | .str x, .str y => decide (x = y)
    | .non, .non => true
    | .tup l, .tup m => eqL (kEq n) l m
    | _, _ => false
/-- a number or a text, as a key -/
def leafKey : D → Bool
  | .int _ => true
  | .str _ => true
  | _ => false
/-- a tuple of such, nested -/
def okKey : Nat → D → Bool
  | 0, _ => false
  | n + 1, a => match a with
    | .int _ => true
    | .str _ => true
    | .non => true
    | .tup l => l.all (okKey n)
    | _ => false
def tupKey : D → Bool
  | .tup l => okKey 8 (.tup l)
  | _ => false
def dLook : List (D × D) → D → Option D
  | [], _ => none
  | (k, v) :: r, x => if kEq 9 k x then some v else dLook r x
def dPut : List (D × D) → D → D → List (D × D)
  | [], x, y => [(x, y)]
  | (k, v) :: r, x, y => if kEq 9 k x then (k, y) :: r else (k, v) :: dPut r x y
def dDrop : List (D × D) → D → List (D × D)
  | [], _ => []
  | (k, v) :: r, x => if kEq 9 k x then r else (k, v) :: dDrop r x
/-- whether the key may be asked of the dict: all keys of one sort -/
def keyFits (kvs : List (D × D)) (x : D) : Bool := leafKey x && kvs.all fun p => leafKey p.1

/-! ### subscripts, attributes, lengths -/
def ixOf (n : Nat) (i : Int) : Option Nat := if 0 ≤ i then (if i < n then some i.toNat else none) else if -(n : Int) ≤ i then some (i + n).toNat else none
def oIx (a b : D) (L : LH) : Res D := match a, b with
  | .tup l, .int i => match (ixOf l.length i).bind (l[·]?) with
    | some d => .ok d L
    | none => .bad
  | .str x, .int i => if x.length ≤ sizeLine then (match (ixOf x.cps.toList.length i).bind (x.cps.toList[·]?) with
    | some c => .ok (.str ⟨#[c]⟩) L
    | none => .bad) else .bad
  | .ref n, k => match L.get n with
    | some (.lst xs) => (match k with
      | .int i => (match (ixOf xs.length i).bind (xs[·]?) with
        | some d => .ok d L
        | none => .bad)
      | _ => .bad)
    | some (.dct kvs) => if keyFits kvs k then (match dLook kvs k with
      | some d => .ok d L
      | none => .bad) else .bad
    | _ => .bad
  | _, _ => .bad
/-- xs[i], a list, i no less than 0 -/
def oIxL (a b : D) (L : LH) : Res D := match a, b with
  | .ref n, .int i => match L.get n with
    | some (.lst xs) => if 0 ≤ i ∧ i < 2 ^ 62 then (match xs[i.toNat]? with
      | some d => .ok d L
      | none => .bad) else .bad
    | _ => .bad
  | _, _ => .bad
/-- a slice's bound -/
def cIx (n d : Nat) : Option Int → Nat
  | none => d
  | some v => if v < 0 then (v + (n : Int)).toNat else min v.toNat n
def cut {α : Type} (xs : List α) (lo hi : Option Int) : List α := (xs.drop (cIx xs.length 0 lo)).take (cIx xs.length xs.length hi - cIx xs.length 0 lo)
def oSl (a : D) (lo hi : Option Int) (L : LH) : Res D := match a with
  | .tup l => .ok (.tup (cut l lo hi)) L
  | .ref n => match L.get n with
    | some (.lst xs) => .ok (.ref L.len) (L.push (.lst (cut xs lo hi)))
    | _ => .bad
  | .str x => if x.length ≤ sizeLine then .ok (.str ⟨(cut x.cps.toList lo hi).toArray⟩) L else .bad
  | _ => .bad
abbrev FO := Rec → Slt → LH → Res (Option Int)
def bNo : FO := fun _ _ L => .ok none L
def bAt (a : FE) : FO := fun R ρ L => (a R ρ L).bind fun d L1 => match d with
  | .int i => .ok (some i) L1
  | _ => .bad
def eSl (a : FE) (lo hi : FO) : FE := fun R ρ L => (a R ρ L).bind fun d L1 => (lo R ρ L1).bind fun l L2 => (hi R ρ L2).bind fun h L3 => oSl d l h L3
/-- xs[::-1], xs a list -/
def oRevL (a : D) (L : LH) : Res D := match a with
  | .rol l => .ok (.ref L.len) (L.push (.lst l.reverse))
  | .ref n => match L.get n with
    | some (.lst xs) => .ok (.ref L.len) (L.push (.lst xs.reverse))
    | _ => .bad
  | _ => .bad
def oFld (cs : List Nat) (f : Str) (a : D) (L : LH) : Res D := match a with
  | .ref n => match L.get n with
    | some (.ins c fs) => if cs.contains c then (match fs.lookup f with
      | some d => .ok d L
      | none => .bad) else .bad
    | _ => .bad
  | _ => .bad

/-! ### calls -/
def eCall (i : Nat) (a : FA) : FE := fun R ρ L => (a R ρ L).bind fun xs L1 => R i xs L1
/-- o.m(..): by the class of o -/
def dispOf (tb : List (Nat × Nat)) (c : Nat) : Option Nat := tb.lookup c
def eMeth (m : Str) (tb : List (Nat × Nat)) (o : FE) (a : FA) : FE := fun R ρ L => (o R ρ L).bind fun d L1 => match d with
  | .ref n => match L1.get n with
    | some (.ins c fs) => match tb.lookup c with
      | some i => if (fs.lookup m).isNone then (a R ρ L1).bind fun xs L2 => R i (d :: xs) L2 else .bad
      | none => .bad
    | _ => .bad
  | _ => .bad
/-- C(..): a new instance, then its __init__ -/
def eMake (c i : Nat) (a : FA) : FE := fun R ρ L => (a R ρ L).bind fun xs L1 => (R i (.ref L1.len :: xs) (L1.push (.ins c []))).bind fun d L2 => match d with
  | .non => .ok (.ref L1.len) L2
  | _ => .bad
/-- o.name(..), a built-in's method -/
def tyIs (T : String) (d : D) (L : LH) : Bool := match d with
  | .ref n => match L.get n with
    | some (.lst _) => T == "list"
    | some (.dct _) => T == "dict"
    | _ => false
  | .str _ => T == "str"
  | _ => false
/-- an exception does not leave -/
def noExc {α : Type} : Res α → Res α
  | .ok a L => .ok a L
  | .exc _ _ _ => .bad
  | .bad => .bad
def eBM (T : String) (op : D → List D → LH → Res D) (o : FE) (a : FA) : FE := fun R ρ L => (o R ρ L).bind fun d L1 => if tyIs T d L1 then (a R ρ L1).bind fun xs L2 => noExc (op d xs L2) else .bad

/-! ### what is walked -/
inductive Itr where
  | pur (xs : List D)
  | dyn (nx : LH → Nat → Option (Option D)) (bound : Nat)
abbrev FI := Rec → Slt → LH → Res Itr
def listAt (n : Nat) (L : LH) (i : Nat) : Option (Option D) := match L.get n with
  | some (.lst xs) => some xs[i]?
  | _ => none
def chars (x : Str) : List D := x.cps.toList.map fun c => .str ⟨#[c]⟩
def itOf (d : D) (L : LH) : Res Itr := match d with
  | .tup l => .ok (.pur l) L
  | .rol l => .ok (.pur l) L
  | .str x => .ok (.pur (chars x)) L
  | .ref n => match L.get n with
    | some (.lst xs) => .ok (.dyn (listAt n) (xs.length + 1)) L
    | _ => .bad
  | _ => .bad
/-- enumerate(xs), xs a list -/
def enuAt (n : Nat) (L : LH) (i : Nat) : Option (Option D) := match L.get n with
  | some (.lst xs) => some (xs[i]?.map fun x => .tup [.int i, x])
  | _ => none
def itEnum (ds : List D) (L : LH) : Res Itr := match ds with
  | [.ref n] => match L.get n with
    | some (.lst xs) => .ok (.dyn (enuAt n) (xs.length + 1)) L
    | _ => .bad
  | _ => .bad
def iEnumE (a : FA) : FI := fun R ρ L => (a R ρ L).bind itEnum
def iE (a : FE) : FI := fun R ρ L => (a R ρ L).bind itOf
def rgInts (lo : Int) (n : Nat) : List D := (List.range n).map fun (k : Nat) => .int (lo + k)
def in62 (i : Int) : Bool := decide (-(2 ^ 62) ≤ i) && decide (i < 2 ^ 62)
def iRange1 (a : FA) : FI := fun R ρ L => (a R ρ L).bind fun xs L1 => match xs with
  | [.int j] => if in62 j then .ok (.pur (rgInts 0 j.toNat)) L1 else .bad
  | _ => .bad
def iRange2 (a : FA) : FI := fun R ρ L => (a R ρ L).bind fun xs L1 => match xs with
  | [.int i, .int j] => if in62 i && in62 j then .ok (.pur (rgInts i (j - i).toNat)) L1 else .bad
  | _ => .bad

/-! ### targets -/
def gNm (i : Nat) : FG := fun _ d ρ L => .ok (ρ.set i (some d)) L
abbrev FGs := Rec → List D → Slt → LH → Res Slt
def gsNil : FGs := fun _ ds ρ L => match ds with
  | [] => .ok ρ L
  | _ => .bad
def gsCons (g : FG) (r : FGs) : FGs := fun R ds ρ L => match ds with
  | d :: l => (g R d ρ L).bind fun ρ1 L1 => r R l ρ1 L1
  | [] => .bad
def gTp (n : Nat) (g : FGs) : FG := fun R d ρ L => match d with
  | .tup l => if l.length = n then noExc (g R l ρ L) else .bad
  | _ => .bad
def oSet (a b v : D) (L : LH) : Res Unit := match a with
  | .ref n => match L.get n with
    | some (.lst xs) => (match b with
      | .int i => (match ixOf xs.length i with
        | some j => .ok () (L.put n (.lst (xs.set j v)))
        | none => .bad)
      | _ => .bad)
    | some (.dct kvs) => if keyFits kvs b && decide (kvs.length < sizeLine) then .ok () (L.put n (.dct (dPut kvs b v))) else .bad
    | _ => .bad
  | _ => .bad
def gSub (o i : FE) : FG := fun R v ρ L => (o R ρ L).bind fun x L1 => (i R ρ L1).bind fun y L2 => (oSet x y v L2).bind fun _ L3 => .ok ρ L3
def putFs (f : Str) (v : D) : List (Str × D) → List (Str × D)
  | [] => [(f, v)]
  | (g, x) :: r => if g = f then (g, v) :: r else (g, x) :: putFs f v r
def oSetF (cs : List Nat) (f : Str) (a v : D) (L : LH) : Res Unit := match a with
  | .ref n => match L.get n with
    | some (.ins c fs) => if cs.contains c && decide (fs.length < 1000) then .ok () (L.put n (.ins c (putFs f v fs))) else .bad
    | _ => .bad
  | _ => .bad

/-! ### comprehensions -/
def wipeE (ρ : Slt) : List Nat → Slt
  | [] => ρ
  | i :: r => (wipeE ρ r).set i none
/-- one item: none, or the new item -/
abbrev FC := Rec → D → Slt → LH → Res (Option D)
def lcPur (b : D → LH → Res (Option D)) : List D → List D → LH → Res (List D)
  | [], acc, L => .ok acc L
  | x :: r, acc, L => (b x L).bind fun o L1 => match o with
    | none => lcPur b r acc L1
    | some y => if acc.length < sizeLine then lcPur b r (acc ++ [y]) L1 else .bad
def lcDyn (b : D → LH → Res (Option D)) (nx : LH → Nat → Option (Option D)) : Nat → Nat → List D → LH → Res (List D)
  | 0, _, _, _ => .bad
  | k + 1, i, acc, L => match nx L i with
    | none => .bad
    | some none => .ok acc L
    | some (some x) => (b x L).bind fun o L1 => match o with
      | none => lcDyn b nx k (i + 1) acc L1
      | some y => if acc.length < sizeLine then lcDyn b nx k (i + 1) (acc ++ [y]) L1 else .bad
def lcRun (b : D → LH → Res (Option D)) (it : Itr) (L : LH) : Res (List D) := match it with
  | .pur xs => lcPur b xs [] L
  | .dyn nx k => lcDyn b nx k 0 [] L
def tYesT : FT := fun _ _ L => .ok true L
def cTurn (g : FG) (t : FT) (e : FE) : FC := fun R x ρ L => noExc ((g R x ρ L).bind fun ρ1 L1 => (t R ρ1 L1).bind fun c L2 => if c then (e R ρ1 L2).bind fun y L3 => .ok (some y) L3 else .ok none L2)
def eLc (vs : List Nat) (it : FI) (c : FC) : FE := fun R ρ L => (it R ρ L).bind fun j L1 => (lcRun (fun x M => c R x (wipeE ρ vs) M) j L1).bind fun ys L2 => .ok (.ref L2.len) (L2.push (.lst ys))

/-! ### dict displays -/
def pPairs : List (FE × FE) → Rec → Slt → LH → Res (List (D × D))
  | [], _, _, L => .ok [] L
  | (a, b) :: r, R, ρ, L => (a R ρ L).bind fun x L1 => (b R ρ L1).bind fun y L2 => (pPairs r R ρ L2).bind fun ps L3 => .ok ((x, y) :: ps) L3
def eDct (ps : List (FE × FE)) : FE := fun R ρ L => (pPairs ps R ρ L).bind fun kvs L1 => if (kvs.all fun p => leafKey p.1) && decide (kvs.length ≤ 15) then .ok (.ref L1.len) (L1.push (.dct (kvs.foldl (fun acc p => dPut acc p.1 p.2) []))) else .bad
def flatD : D → Bool
  | .non => true
  | .bl _ => true
  | .int _ => true
  | .str _ => true
  | _ => false
def eqFl : D → D → Bool
  | .non, .non => true
  | .bl a, .bl b => a == b
  | .bl a, .int b => (if a then 1 else 0) == b
  | .int a, .bl b => a == (if b then 1 else 0)
  | .int a, .int b => a == b
  | .str a, .str b => a == b
  | _, _ => false
def oIn (a b : D) (L : LH) : Res D := match b with
  | .tup l => if flatD a && l.all flatD then .ok (.bl (l.any fun y => eqFl y a)) L else .bad
  | .ref n => match L.get n with
    | some (.dct kvs) => if keyFits kvs a then .ok (.bl (dLook kvs a).isSome) L else .bad
    | some (.lst xs) => match toP 50 L a with
      | some p => (match mapO (toP 50 L) xs with
        | some ps => .ok (.bl (ps.any fun q => PyData.eqv q p)) L
        | none => .bad)
      | none => .bad
    | _ => .bad
  | .str z => match a with
    | .str y => .ok (.bl (!(Builtin.Str.occurrences z y 0 z.length 1).isEmpty)) L
    | _ => .bad
  | _ => .bad
def oNotR (r : Res D) : Res D := match r with
  | .ok (.bl c) L => .ok (.bl (!c)) L
  | _ => .bad
def oNotIn (a b : D) (L : LH) : Res D := oNotR (oIn a b L)

/-! ### dict comprehensions -/
def cPair (g : FG) (t : FT) (k e : FE) : Rec → D → Slt → LH → Res (Option (D × D)) := fun R x ρ L => noExc ((g R x ρ L).bind fun ρ1 L1 => (t R ρ1 L1).bind fun c L2 => if c then (k R ρ1 L2).bind fun y L3 => (e R ρ1 L3).bind fun z L4 => .ok (some (y, z)) L4 else .ok none L2)
def dcPur (b : D → LH → Res (Option (D × D))) : List D → List (D × D) → LH → Res (List (D × D))
  | [], acc, L => .ok acc L
  | x :: r, acc, L => (b x L).bind fun o L1 => match o with
    | none => dcPur b r acc L1
    | some (y, z) => if keyFits acc y && decide (acc.length < sizeLine) then dcPur b r (dPut acc y z) L1 else .bad
def dcDyn (b : D → LH → Res (Option (D × D))) (nx : LH → Nat → Option (Option D)) : Nat → Nat → List (D × D) → LH → Res (List (D × D))
  | 0, _, _, _ => .bad
  | k + 1, i, acc, L => match nx L i with
    | none => .bad
    | some none => .ok acc L
    | some (some x) => (b x L).bind fun o L1 => match o with
      | none => dcDyn b nx k (i + 1) acc L1
      | some (y, z) => if keyFits acc y && decide (acc.length < sizeLine) then dcDyn b nx k (i + 1) (dPut acc y z) L1 else .bad
def dcRun (b : D → LH → Res (Option (D × D))) (it : Itr) (L : LH) : Res (List (D × D)) := match it with
  | .pur xs => dcPur b xs [] L
  | .dyn nx k => dcDyn b nx k 0 [] L
def eDc (vs : List Nat) (it : FI) (c : Rec → D → Slt → LH → Res (Option (D × D))) : FE := fun R ρ L => (it R ρ L).bind fun j L1 => (dcRun (fun x M => c R x (wipeE ρ vs) M) j L1).bind fun kvs L2 => .ok (.ref L2.len) (L2.push (.dct kvs))

/-! ### isinstance -/
def tyNames : List String := ["int", "bool", "str", "tuple", "list", "dict"]
def tyNames7 : List String := ["NoneType", "int", "bool", "str", "tuple", "list", "dict"]
def tyOfD (d : D) (L : LH) : Option String := match d with
  | .non => some "NoneType"
  | .bl _ => some "bool"
  | .int _ => some "int"
  | .str _ => some "str"
  | .tup _ => some "tuple"
  | .ref n => match L.get n with
    | some (.lst _) => some "list"
    | some (.dct _) => some "dict"
    | _ => none
  | _ => none
def subTy (s T : String) : Bool := s == T || (s == "bool" && T == "int")
def isTyD (T : String) (d : D) (L : LH) : Option Bool := if tyNames.contains T then (tyOfD d L).map fun s => subTy s T else none
def oIsi (T : String) (a : D) (L : LH) : Res D := match isTyD T a L with
  | some b => .ok (.bl b) L
  | none => .bad

/-! ### built-ins -/
def bLen (as : List D) (L : LH) : Res D := match as with
  | [.tup l] => .ok (.int l.length) L
  | [.str x] => if x.length ≤ sizeLine then .ok (.int x.length) L else .bad
  | [.ref n] => match L.get n with
    | some (.lst xs) => .ok (.int xs.length) L
    | some (.dct kvs) => .ok (.int kvs.length) L
    | _ => .bad
  | _ => .bad
def bInt (as : List D) (L : LH) : Res D := match as with
  | [.int i] => .ok (.int i) L
  | [.bl k] => .ok (.int (if k then 1 else 0)) L
  | _ => .bad
def bAbs (as : List D) (L : LH) : Res D := match as with
  | [.int i] => .ok (.int (if i < 0 then -i else i)) L
  | _ => .bad
def bMax (as : List D) (L : LH) : Res D := match as with
  | [.int i, .int j] => .ok (.int (if j > i then j else i)) L
  | _ => .bad
def bMin (as : List D) (L : LH) : Res D := match as with
  | [.int i, .int j] => .ok (.int (if j < i then j else i)) L
  | _ => .bad
def bTup (as : List D) (L : LH) : Res D := match as with
  | [.tup l] => .ok (.tup l) L
  | [.ref n] => match L.get n with
    | some (.lst xs) => .ok (.tup xs) L
    | _ => .bad
  | _ => .bad
def bLst (as : List D) (L : LH) : Res D := match as with
  | [.tup l] => .ok (.ref L.len) (L.push (.lst l))
  | [.ref n] => match L.get n with
    | some (.lst xs) => .ok (.ref L.len) (L.push (.lst xs))
    | some (.dct kvs) => if kvs.all fun p => leafKey p.1 then .ok (.ref L.len) (L.push (.lst (kvs.map (·.1)))) else .bad
    | _ => .bad
  | _ => .bad
/-- list(range(..)), tuple(range(..)) -/
def rgOk (a b : Int) : Bool := in62 a && in62 b && decide ((b - a).toNat ≤ 2 ^ 24)
def rg1 (f : Int → Int → LH → Res D) (a : FE) : FE := fun R ρ L => (a R ρ L).bind fun x L1 => match x with
  | .int j => if rgOk 0 j then f 0 j L1 else .bad
  | _ => .bad
def rg2 (f : Int → Int → LH → Res D) (a b : FE) : FE := fun R ρ L => (a R ρ L).bind fun x L1 => (b R ρ L1).bind fun y L2 => match x, y with
  | .int i, .int j => if rgOk i j then f i j L2 else .bad
  | _, _ => .bad
def oLstR (a b : Int) (L : LH) : Res D := .ok (.ref L.len) (L.push (.lst (rgInts a (b - a).toNat)))
def oTupR (a b : Int) (L : LH) : Res D := .ok (.tup (rgInts a (b - a).toNat)) L
/-- repr of data -/
def bRepr (as : List D) (L : LH) : Res D := match as with
  | [a] => match toP 60 L a with
    | some p => if p.showable && decide (p.shown.length ≤ sizeLine) then .ok (.str p.shown) L else .bad
    | none => .bad
  | _ => .bad
/-! ### methods of built-ins -/
def mAppend (a : D) (as : List D) (L : LH) : Res D := match a, as with
  | .ref n, [y] => match L.get n with
    | some (.lst xs) => if xs.length < sizeLine then .ok .non (L.put n (.lst (xs ++ [y]))) else .bad
    | _ => .bad
  | _, _ => .bad
def mPop (a : D) (as : List D) (L : LH) : Res D := match a, as with
  | .ref n, [] => match L.get n with
    | some (.lst xs) => match xs[xs.length - 1]? with
      | some y => .ok y (L.put n (.lst xs.dropLast))
      | none => .bad
    | _ => .bad
  | .ref n, [.int i] => match L.get n with
    | some (.lst xs) => if -(2 ^ 63) ≤ i ∧ i < 2 ^ 63 then (match (ixOf xs.length i) with
      | some k => match xs[k]? with
        | some y => .ok y (L.put n (.lst (xs.eraseIdx k)))
        | none => .bad
      | none => .bad) else .bad
    | _ => .bad
  | _, _ => .bad

def mGet (a : D) (as : List D) (L : LH) : Res D := match a with
  | .ref n => match L.get n with
    | some (.dct kvs) => match as with
      | [k] => if keyFits kvs k then .ok ((dLook kvs k).getD .non) L else .bad
      | [k, d] => if keyFits kvs k then .ok ((dLook kvs k).getD d) L else .bad
      | _ => .bad
    | _ => .bad
  | _ => .bad
def mExtend (a : D) (as : List D) (L : LH) : Res D := match a, as with
  | .ref n, [.ref m] => match L.get n, L.get m with
    | some (.lst xs), some (.lst ys) => if xs.length + ys.length ≤ sizeLine then .ok .non (L.put n (.lst (xs ++ ys))) else .bad
    | _, _ => .bad
  | _, _ => .bad
def mClear (a : D) (as : List D) (L : LH) : Res D := match a, as with
  | .ref n, [] => match L.get n with
    | some (.lst _) => .ok .non (L.put n (.lst []))
    | _ => .bad
  | _, _ => .bad
/-! ### statements -/
/-- an expression's result within a statement: what is raised is a way to go on -/
def Res.st {α : Type} (r : Res α) (ρ : Slt) (k : α → LH → Res (Fl × Slt)) : Res (Fl × Slt) := match r with
  | .ok a L => k a L
  | .exc c fs L => .ok (.ex c fs, ρ) L
  | .bad => .bad
def sNext : FS := fun _ ρ L => .ok (.nx, ρ) L
def sSeq (a b : FS) : FS := fun R ρ L => (a R ρ L).bind fun p L1 => match p.1 with
  | .nx => b R p.2 L1
  | f => .ok (f, p.2) L1
def sAsg (e : FE) (g : FG) : FS := fun R ρ L => (e R ρ L).st ρ fun d L1 => (g R d ρ L1).st ρ fun ρ1 L2 => .ok (.nx, ρ1) L2
def sExpr (e : FE) : FS := fun R ρ L => (e R ρ L).st ρ fun _ L1 => .ok (.nx, ρ) L1
def sRet (e : FE) : FS := fun R ρ L => (e R ρ L).st ρ fun d L1 => .ok (.rt d, ρ) L1
def sRetN : FS := fun _ ρ L => .ok (.rt .non, ρ) L
def sIf (t : FT) (a b : FS) : FS := fun R ρ L => (t R ρ L).st ρ fun c L1 => if c then a R ρ L1 else b R ρ L1
def sBrk : FS := fun _ ρ L => .ok (.bk, ρ) L
def sCnt : FS := fun _ ρ L => .ok (.ct, ρ) L
def sAug (i : Nat) (op : D → D → LH → Res D) (e : FE) : FS := fun R ρ L => match ρ[i]? with
  | some (some x) => (e R ρ L).st ρ fun y L1 => (op x y L1).st ρ fun z L2 => .ok (.nx, ρ.set i (some z)) L2
  | _ => .bad
def sFldSet (cs : List Nat) (f : Str) (o e : FE) : FS := fun R ρ L => (e R ρ L).st ρ fun v L1 => (o R ρ L1).st ρ fun x L2 => (oSetF cs f x v L2).st ρ fun _ L3 => .ok (.nx, ρ) L3
def sSubAug (o i : FE) (op : D → D → LH → Res D) (e : FE) : FS := fun R ρ L => (o R ρ L).st ρ fun x L1 => (i R ρ L1).st ρ fun y L2 => (oIxL x y L2).st ρ fun z L3 => (e R ρ L3).st ρ fun v L4 => (op z v L4).st ρ fun w L5 => (oSet x y w L5).st ρ fun _ L6 => .ok (.nx, ρ) L6
def forPur (b : D → Slt → LH → Res (Fl × Slt)) : List D → Slt → LH → Res (Fl × Slt)
  | [], ρ, L => .ok (.nx, ρ) L
  | x :: r, ρ, L => (b x ρ L).bind fun p L1 => match p.1 with
    | .nx => forPur b r p.2 L1
    | .ct => forPur b r p.2 L1
    | .bk => .ok (.nx, p.2) L1
    | f => .ok (f, p.2) L1
def forDyn (b : D → Slt → LH → Res (Fl × Slt)) (nx : LH → Nat → Option (Option D)) : Nat → Nat → Slt → LH → Res (Fl × Slt)
  | 0, _, _, _ => .bad
  | k + 1, i, ρ, L => match nx L i with
    | none => .bad
    | some none => .ok (.nx, ρ) L
    | some (some x) => (b x ρ L).bind fun p L1 => match p.1 with
      | .nx => forDyn b nx k (i + 1) p.2 L1
      | .ct => forDyn b nx k (i + 1) p.2 L1
      | .bk => .ok (.nx, p.2) L1
      | f => .ok (f, p.2) L1
def forRun (b : D → Slt → LH → Res (Fl × Slt)) (it : Itr) (ρ : Slt) (L : LH) : Res (Fl × Slt) := match it with
  | .pur xs => forPur b xs ρ L
  | .dyn nx k => forDyn b nx k 0 ρ L
def sFor (g : FG) (it : FI) (body : FS) : FS := fun R ρ L => (it R ρ L).st ρ fun j L1 => forRun (fun x ρ1 M => (g R x ρ1 M).st ρ1 fun ρ2 M1 => body R ρ2 M1) j ρ L1
def whileN (t : Slt → LH → Res Bool) (b : Slt → LH → Res (Fl × Slt)) : Nat → Slt → LH → Res (Fl × Slt)
  | 0, _, _ => .bad
  | k + 1, ρ, L => (t ρ L).st ρ fun c L1 => if c then (b ρ L1).bind fun p L2 => (match p.1 with
    | .nx => whileN t b k p.2 L2
    | .ct => whileN t b k p.2 L2
    | .bk => .ok (.nx, p.2) L2
    | f => .ok (f, p.2) L2) else .ok (.nx, ρ) L1
def fuel : Nat := 1000000000
def sWhile (t : FT) (body : FS) : FS := fun R ρ L => whileN (t R) (body R) fuel ρ L

/-! ### raise, try -/
/-- raise C(..), C's __init__ sets one field, i its value -/
def sRaise (c : Nat) (f : Str) (i : Nat) (a : FA) : FS := fun R ρ L => (a R ρ L).st ρ fun xs L1 => if xs.length ≤ 900 then (noExc (R i (.non :: xs) L1)).st ρ fun v L2 => .ok (.ex c [(f, v)], ρ) L2 else .bad
/-- raise C(), C without an __init__ -/
def sRaise0 (c : Nat) : FS := fun _ ρ L => .ok (.ex c [], ρ) L
/-- try: b, except C: s; cs: the classes that are C's, of all there are -/
def noEx (r : Res (Fl × Slt)) : Res (Fl × Slt) := match r with
  | .ok (.ex _ _, _) _ => .bad
  | r => r
def sTry (all cs : List Nat) (b s : FS) : FS := fun R ρ L => (b R ρ L).bind fun p L1 => match p.1 with
  | .ex c fs => if all.contains c then (if cs.contains c then noEx (s R p.2 L1) else .ok (.ex c fs, p.2) L1) else .bad
  | fl => .ok (fl, p.2) L1
/-- try: b, except C as x: return x.f -/
def sTryF (all cs : List Nat) (i : Nat) (f : Str) (b : FS) : FS := fun R ρ L => (b R ρ L).bind fun p L1 => match p.1 with
  | .ex c fs => if all.contains c then (if cs.contains c then (match fs.lookup f with
    | some d => if i < p.2.length then .ok (.rt d, p.2.set i none) L1 else .bad
    | none => .bad) else .ok (.ex c fs, p.2) L1) else .bad
  | fl => .ok (fl, p.2) L1

/-! ### defs -/
/-- a def: its number of slots, of parameters, its body -/
structure Fn where
  slots : Nat
  pars : Nat
  body : FS
def Fn.run (f : Fn) (R : Rec) (as : List D) (L : LH) : Res D :=
  if as.length = f.pars then (noExc (f.body R (as.map some ++ List.replicate (f.slots - f.pars) none) L)).bind fun p L1 => match p.1 with
    | .rt d => .ok d L1
    | .nx => .ok .non L1
    | .ex c fs => .exc c fs L1
    | _ => .bad
  else .bad
def runN (F : Nat → Option Fn) : Nat → Rec
  | 0, _, _, _ => .bad
  | n + 1, i, as, L => match F i with
    | some f => f.run (runN F n) as L
    | none => .bad
end PD
/-! P1: pure data against HandS's values and abstract heap; readings of combinators. -/
namespace PD
open PySem PySem.Spec PyProof.Rows L2

/-- what is fixed for a whole program -/
structure Sta where
  P : Program
  w : World
  K : PySem.W.Frag
  mg : Str → Option Value
  base : Heap
  CA : Nat → Addr
  FA : Nat → Addr

/-- a list that nobody writes -/
def RoL (K : PySem.W.Frag) (H : Hp) (a : Addr) (vs : List V) : Prop :=
  (∃ o, H a = some (.frz o (.lst vs))) ∨
    ∃ (o : Obj) (its : Array Value) (n : Nat), K.lookup a = some o ∧ o.cls = .type "list" ∧ o.dict = none ∧ o.data = .seq its n ∧ its.size ≤ sizeLine ∧ Vals vs its.toList
theorem RoL.sq {K : PySem.W.Frag} {H : Hp} {a : Addr} {vs : List V} (h : RoL K H a vs) : SqL K H a vs := by
  rcases h with h | h
  · exact .inl (.inr h)
  · exact .inr h

mutual
inductive Rep (G : Sta) (ms : List Addr) (H : Hp) : D → V → Prop
  | non : Rep G ms H .non .non
  | bl (b : Bool) : Rep G ms H (.bl b) (.bl b)
  | int (i : Int) : Rep G ms H (.int i) (.int i)
  | str (x : Str) : Rep G ms H (.str x) (.str x)
  | tup {a : Addr} {vs : List V} {l : List D} : SqT G.K H a vs → Reps G ms H l vs → Rep G ms H (.tup l) (.ref a)
  | rol {a : Addr} {vs : List V} {l : List D} : RoL G.K H a vs → Reps G ms H l vs → Rep G ms H (.rol l) (.ref a)
  | ref {n : Nat} {a : Addr} : ms[n]? = some a → Rep G ms H (.ref n) (.ref a)
  | fn (i : Nat) : Rep G ms H (.fn i) (.ref (G.FA i))
inductive Reps (G : Sta) (ms : List Addr) (H : Hp) : List D → List V → Prop
  | nil : Reps G ms H [] []
  | cons {d : D} {l : List D} {v : V} {vs : List V} : Rep G ms H d v → Reps G ms H l vs → Reps G ms H (d :: l) (v :: vs)
end

/-- what an evaluation may do to the heap: objects that are not the logical heap's stay -/
structure Ext (ms : List Addr) (H : Hp) (ms' : List Addr) (H' : Hp) : Prop where
  pre : ∀ (n : Nat) (a : Addr), ms[n]? = some a → ms'[n]? = some a
  new : ∀ a, a ∈ ms' → a ∈ ms ∨ H a = none
  keep : ∀ a o, H a = some o → a ∉ ms → H' a = some o
theorem Ext.refl (ms : List Addr) (H : Hp) : Ext ms H ms H := ⟨fun _ _ h => h, fun _ h => .inl h, fun _ _ h _ => h⟩
theorem Ext.trans {ms ms1 ms2 : List Addr} {H H1 H2 : Hp} (a : Ext ms H ms1 H1) (b : Ext ms1 H1 ms2 H2) : Ext ms H ms2 H2 where
  pre := fun n x h => b.pre n x (a.pre n x h)
  new := fun x h => by
    rcases b.new x h with h | h
    · exact a.new x h
    · by_cases hx : x ∈ ms
      · exact .inl hx
      · refine .inr ?_
        cases e : H x with
        | none => rfl
        | some o => rw [a.keep x o e hx] at h; cases h
  keep := fun x o e hx => by
    have e1 := a.keep x o e hx
    refine b.keep x o e1 fun h => ?_
    rcases a.new x h with q | q
    · exact hx q
    · rw [q] at e; cases e
/-- a tuple is never the logical heap's -/
structure Fine (ms : List Addr) (H : Hp) : Prop where
  muts : ∀ a, a ∈ ms → ∃ o, H a = some o ∧ Mut (some o)
theorem Fine.ntup {ms : List Addr} {H : Hp} (f : Fine ms H) {a : Addr} {o : HO} (e : H a = some o) (n : ¬ Mut (some o)) : a ∉ ms := fun h => by
  obtain ⟨o', e', m⟩ := f.muts a h
  rw [e] at e'; cases e'
  exact n m
theorem Ext.tup {K : PySem.W.Frag} {ms ms' : List Addr} {H H' : Hp} (x : Ext ms H ms' H') (f : Fine ms H) {a : Addr} {vs : List V} (h : SqT K H a vs) : SqT K H' a vs := by
  rcases h with (h | ⟨o, h⟩) | h
  · exact .inl (.inl (x.keep _ _ h (f.ntup h fun z => z)))
  · exact .inl (.inr ⟨o, x.keep _ _ h (f.ntup h fun z => z)⟩)
  · exact .inr h
theorem Ext.rol {K : PySem.W.Frag} {ms ms' : List Addr} {H H' : Hp} (x : Ext ms H ms' H') (f : Fine ms H) {a : Addr} {vs : List V} (h : RoL K H a vs) : RoL K H' a vs := by
  rcases h with ⟨o, h⟩ | h
  · exact .inl ⟨o, x.keep _ _ h (f.ntup h fun z => z)⟩
  · exact .inr h
/-- what a value's description leans on is kept -/
structure Kp (K : PySem.W.Frag) (ms : List Addr) (H : Hp) (ms' : List Addr) (H' : Hp) : Prop where
  pre : ∀ (n : Nat) (a : Addr), ms[n]? = some a → ms'[n]? = some a
  tup : ∀ a vs, SqT K H a vs → SqT K H' a vs
  rol : ∀ a vs, RoL K H a vs → RoL K H' a vs
theorem Ext.kp {K : PySem.W.Frag} {ms ms' : List Addr} {H H' : Hp} (x : Ext ms H ms' H') (f : Fine ms H) : Kp K ms H ms' H' := ⟨x.pre, fun _ _ h => x.tup f h, fun _ _ h => x.rol f h⟩
/-- an object that is no tuple and no locked list is changed -/
theorem Kp.off {K : PySem.W.Frag} {ms : List Addr} {H : Hp} {p : Addr} {o u : HO} (h : H p = some o) (n : Mut (some o)) : Kp K ms H ms (upd H p u) where
  pre := fun _ _ h => h
  tup := fun a vs q => by
    rcases q with (q | ⟨ob, q⟩) | q
    · exact .inl (.inl (by rw [upd_ne (show a ≠ p from fun e => by subst e; rw [h] at q; cases q; exact n)]; exact q))
    · exact .inl (.inr ⟨ob, by rw [upd_ne (show a ≠ p from fun e => by subst e; rw [h] at q; cases q; exact n)]; exact q⟩)
    · exact .inr q
  rol := fun a vs q => by
    rcases q with ⟨ob, q⟩ | q
    · exact .inl ⟨ob, by rw [upd_ne (show a ≠ p from fun e => by subst e; rw [h] at q; cases q; exact n)]; exact q⟩
    · exact .inr q
mutual
theorem Rep.kp {G : Sta} {ms ms' : List Addr} {H H' : Hp} (x : Kp G.K ms H ms' H') : ∀ (d : D) (v : V), Rep G ms H d v → Rep G ms' H' d v
  | .non, _, h => by cases h; exact .non
  | .bl b, _, h => by cases h; exact .bl b
  | .int i, _, h => by cases h; exact .int i
  | .str y, _, h => by cases h; exact .str y
  | .tup l, _, h => by
    cases h with
    | tup a b => exact .tup (x.tup _ _ a) (Reps.kp x l _ b)
  | .rol l, _, h => by
    cases h with
    | rol a b => exact .rol (x.rol _ _ a) (Reps.kp x l _ b)
  | .ref n, _, h => by
    cases h with
    | ref a => exact .ref (x.pre _ _ a)
  | .fn i, _, h => by cases h; exact .fn i
theorem Reps.kp {G : Sta} {ms ms' : List Addr} {H H' : Hp} (x : Kp G.K ms H ms' H') : ∀ (l : List D) (vs : List V), Reps G ms H l vs → Reps G ms' H' l vs
  | [], _, h => by cases h; exact .nil
  | d :: l, _, h => by
    cases h with
    | cons a b => exact .cons (Rep.kp x d _ a) (Reps.kp x l _ b)
end
theorem Rep.ext {G : Sta} {ms ms' : List Addr} {H H' : Hp} (x : Ext ms H ms' H') (f : Fine ms H) (d : D) (v : V) (h : Rep G ms H d v) : Rep G ms' H' d v := Rep.kp (x.kp f) d v h
theorem Reps.ext {G : Sta} {ms ms' : List Addr} {H H' : Hp} (x : Ext ms H ms' H') (f : Fine ms H) (d : List D) (v : List V) (h : Reps G ms H d v) : Reps G ms' H' d v := Reps.kp (x.kp f) d v h
theorem Reps.length {G : Sta} {ms : List Addr} {H : Hp} : ∀ {l : List D} {vs : List V}, Reps G ms H l vs → l.length = vs.length
  | [], _, h => by cases h; rfl
  | d :: l, _, h => by
    cases h with
    | cons a b => rw [List.length_cons, List.length_cons, Reps.length b]
theorem Reps.get {G : Sta} {ms : List Addr} {H : Hp} : ∀ {l : List D} {vs : List V} {i : Nat} {d : D}, Reps G ms H l vs → l[i]? = some d → ∃ v, vs[i]? = some v ∧ Rep G ms H d v
  | [], _, _, _, _, e => by simp at e
  | d :: l, _, 0, _, h, e => by
    cases h with
    | cons a b =>
      rw [List.getElem?_cons_zero] at e; cases e
      exact ⟨_, rfl, a⟩
  | d :: l, _, i + 1, _, h, e => by
    cases h with
    | cons a b =>
      rw [List.getElem?_cons_succ] at e
      obtain ⟨v, q, r⟩ := Reps.get b e
      exact ⟨v, by rw [List.getElem?_cons_succ]; exact q, r⟩
theorem Reps.append {G : Sta} {ms : List Addr} {H : Hp} : ∀ {l k : List D} {vs ws : List V}, Reps G ms H l vs → Reps G ms H k ws → Reps G ms H (l ++ k) (vs ++ ws)
  | [], _, _, _, h, q => by cases h; exact q
  | d :: l, _, _, _, h, q => by
    cases h with
    | cons a b => exact .cons a (Reps.append b q)
theorem Reps.set {G : Sta} {ms : List Addr} {H : Hp} {d : D} {v : V} (r : Rep G ms H d v) : ∀ {l : List D} {vs : List V} (i : Nat), Reps G ms H l vs → Reps G ms H (l.set i d) (vs.set i v)
  | [], _, _, h => by cases h; exact .nil
  | e :: l, _, 0, h => by
    cases h with
    | cons a b => exact .cons r b
  | e :: l, _, i + 1, h => by
    cases h with
    | cons a b => exact .cons a (Reps.set r i b)
theorem Reps.take {G : Sta} {ms : List Addr} {H : Hp} : ∀ {l : List D} {vs : List V} (n : Nat), Reps G ms H l vs → Reps G ms H (l.take n) (vs.take n)
  | _, _, 0, _ => by rw [List.take_zero, List.take_zero]; exact .nil
  | [], _, n + 1, h => by cases h; exact .nil
  | e :: l, _, n + 1, h => by
    cases h with
    | cons a b => exact .cons a (Reps.take n b)
theorem Reps.drop {G : Sta} {ms : List Addr} {H : Hp} : ∀ {l : List D} {vs : List V} (n : Nat), Reps G ms H l vs → Reps G ms H (l.drop n) (vs.drop n)
  | _, _, 0, h => h
  | [], _, n + 1, h => by cases h; exact .nil
  | e :: l, _, n + 1, h => by
    cases h with
    | cons a b => exact Reps.drop n b
theorem Reps.reverse {G : Sta} {ms : List Addr} {H : Hp} : ∀ {l : List D} {vs : List V}, Reps G ms H l vs → Reps G ms H l.reverse vs.reverse
  | [], _, h => by cases h; exact .nil
  | e :: l, _, h => by
    cases h with
    | cons a b =>
      rw [List.reverse_cons, List.reverse_cons]
      exact (Reps.reverse b).append (.cons a .nil)
theorem Reps.rep {G : Sta} {ms : List Addr} {H : Hp} {l : List D} {vs : List V} (h : Reps G ms H l vs) : ∀ n : Nat, Reps G ms H (List.replicate n l).flatten (List.replicate n vs).flatten
  | 0 => .nil
  | n + 1 => by
    rw [List.replicate_succ, List.replicate_succ, List.flatten_cons, List.flatten_cons]
    exact h.append (Reps.rep h n)

/-! ### the logical heap, seen in the abstract one -/
inductive Flds (G : Sta) (ms : List Addr) (H : Hp) : List (Str × D) → List (Str × V) → Prop
  | nil : Flds G ms H [] []
  | cons {f : Str} {d : D} {v : V} {l : List (Str × D)} {vs : List (Str × V)} : Rep G ms H d v → Flds G ms H l vs → Flds G ms H ((f, d) :: l) ((f, v) :: vs)
/-- a key that HandS's dicts take -/
def keyD : D → Option Key
  | .int i => some (.inl i)
  | .str x => some (.inr x)
  | _ => none
inductive KvRep (G : Sta) (ms : List Addr) (H : Hp) : List (D × D) → List (Key × V) → Prop
  | nil : KvRep G ms H [] []
  | cons {k d : D} {key : Key} {v : V} {l : List (D × D)} {vs : List (Key × V)} : keyD k = some key → Rep G ms H d v → KvRep G ms H l vs → KvRep G ms H ((k, d) :: l) ((key, v) :: vs)
theorem KvRep.kp {G : Sta} {ms ms' : List Addr} {H H' : Hp} (x : Kp G.K ms H ms' H') {l : List (D × D)} {vs : List (Key × V)} (h : KvRep G ms H l vs) : KvRep G ms' H' l vs := by
  induction h with
  | nil => exact .nil
  | cons a b _ ih => exact .cons a (Rep.kp x _ _ b) ih
/-- what stands at the address of a cell -/
def CellOk (G : Sta) (ms : List Addr) (H : Hp) (a : Addr) : Cell → Prop
  | .lst xs => ∃ vs, H a = some (.lst vs) ∧ Reps G ms H xs vs
  | .ins c fs => ∃ dx vs, H a = some (.ins (G.CA c) dx vs) ∧ Flds G ms H fs vs
  | .dct kvs => ∃ ks, H a = some (.dK ks) ∧ KvRep G ms H kvs ks ∧ (ks.map (·.1)).Nodup
  | .set _ => False
theorem Flds.kp {G : Sta} {ms ms' : List Addr} {H H' : Hp} (x : Kp G.K ms H ms' H') {l : List (Str × D)} {vs : List (Str × V)} (h : Flds G ms H l vs) : Flds G ms' H' l vs := by
  induction h with
  | nil => exact .nil
  | cons a _ ih => exact .cons (Rep.kp x _ _ a) ih
theorem Flds.ext {G : Sta} {ms ms' : List Addr} {H H' : Hp} (x : Ext ms H ms' H') (f : Fine ms H) {l : List (Str × D)} {vs : List (Str × V)} (h : Flds G ms H l vs) : Flds G ms' H' l vs := h.kp (x.kp f)
theorem Flds.lookup {G : Sta} {ms : List Addr} {H : Hp} {f : Str} {d : D} : ∀ {l : List (Str × D)} {vs : List (Str × V)}, Flds G ms H l vs → l.lookup f = some d → ∃ v, vs.lookup f = some v ∧ Rep G ms H d v
  | [], _, _, e => by simp at e
  | (g, x) :: l, _, h, e => by
    cases h with
    | cons a b =>
      rw [List.lookup_cons] at e
      rw [List.lookup_cons]
      cases q : f == g with
      | true =>
        rw [q] at e
        cases e
        exact ⟨_, rfl, a⟩
      | false =>
        rw [q] at e
        exact Flds.lookup b e
theorem Flds.none {G : Sta} {ms : List Addr} {H : Hp} {f : Str} : ∀ {l : List (Str × D)} {vs : List (Str × V)}, Flds G ms H l vs → l.lookup f = none → vs.lookup f = none
  | [], _, h, _ => by cases h; rfl
  | (g, x) :: l, _, h, e => by
    cases h with
    | cons a b =>
      rw [List.lookup_cons] at e
      rw [List.lookup_cons]
      cases q : f == g with
      | true => rw [q] at e; cases e
      | false => rw [q] at e; exact Flds.none b e
theorem Flds.length {G : Sta} {ms : List Addr} {H : Hp} {l : List (Str × D)} {vs : List (Str × V)} (h : Flds G ms H l vs) : l.length = vs.length := by
  induction h with
  | nil => rfl
  | cons _ _ ih => rw [List.length_cons, List.length_cons, ih]

theorem Flds.put {G : Sta} {ms : List Addr} {H : Hp} {f : Str} {d : D} {v : V} (r : Rep G ms H d v) : ∀ {l : List (Str × D)} {vs : List (Str × V)}, Flds G ms H l vs → Flds G ms H (putFs f d l) (putF f v vs)
  | [], _, h => by
    cases h
    exact .cons r .nil
  | (g, x) :: l, _, h => by
    cases h with
    | cons a b =>
      unfold putFs putF
      by_cases e : g = f
      · rw [if_pos e, if_pos e]; exact .cons r b
      · rw [if_neg e, if_neg e]; exact .cons a (Flds.put r b)

structure Sees (G : Sta) (ms : List Addr) (L : LH) (H : Hp) : Prop where
  len : ms.length = L.len
  nd : ms.Nodup
  fine : Fine ms H
  cell : ∀ n a c, L.get n = some c → ms[n]? = some a → CellOk G ms H a c
theorem Sees.at {G : Sta} {ms : List Addr} {L : LH} {H : Hp} (S : Sees G ms L H) {n : Nat} {c : Cell} (h : L.get n = some c) : ∃ a, ms[n]? = some a ∧ CellOk G ms H a c := by
  have hl : n < ms.length := by rw [S.len]; exact LH.get_lt h
  exact ⟨ms[n], List.getElem?_eq_getElem hl, S.cell n _ c h (List.getElem?_eq_getElem hl)⟩
/-- the cell, from a value that stands for it -/
theorem Sees.ref {G : Sta} {ms : List Addr} {L : LH} {H : Hp} (S : Sees G ms L H) {n : Nat} {c : Cell} {v : V} (h : L.get n = some c) (r : Rep G ms H (.ref n) v) : ∃ a, v = .ref a ∧ ms[n]? = some a ∧ CellOk G ms H a c := by
  obtain ⟨a, e, q⟩ := S.at h
  cases r with
  | ref e' =>
    rw [e] at e'; cases e'
    exact ⟨a, rfl, e, q⟩
theorem CellOk.kp {G : Sta} {ms ms' : List Addr} {H H' : Hp} (x : Kp G.K ms H ms' H') {a : Addr} (same : ∀ o, H a = some o → H' a = some o) : ∀ {c : Cell}, CellOk G ms H a c → CellOk G ms' H' a c
  | .lst xs, ⟨vs, e, r⟩ => ⟨vs, same _ e, Reps.kp x _ _ r⟩
  | .ins c fs, ⟨dx, vs, e, r⟩ => ⟨dx, vs, same _ e, r.kp x⟩
  | .dct kvs, ⟨ks, e, r, n⟩ => ⟨ks, same _ e, r.kp x, n⟩
  | .set _, h => h.elim
theorem CellOk.ext {G : Sta} {ms ms' : List Addr} {H H' : Hp} (x : Ext ms H ms' H') (f : Fine ms H) {a : Addr} (same : ∀ o, H a = some o → H' a = some o) {c : Cell} (h : CellOk G ms H a c) : CellOk G ms' H' a c := h.kp (x.kp f) same
/-- an object that is no cell is changed -/
theorem Sees.off {G : Sta} {ms : List Addr} {L : LH} {H : Hp} {p : Addr} {o u : HO} (S : Sees G ms L H) (h : H p = some o) (n : Mut (some o)) (hp : p ∉ ms) : Sees G ms L (upd H p u) :=
  ⟨S.len, S.nd, ⟨fun a ha => by
    obtain ⟨w, e, m⟩ := S.fine.muts a ha
    exact ⟨w, by rw [upd_ne (show a ≠ p from fun e => hp (e ▸ ha))]; exact e, m⟩⟩, fun k a c hk e => (S.cell k a c hk e).kp (Kp.off h n) fun w q => by
      rw [upd_ne (show a ≠ p from fun e' => hp (by rw [← e']; exact List.mem_of_getElem? e))]; exact q⟩

theorem Ext.fresh {ms : List Addr} {H : Hp} {p : Addr} {o : HO} (hp : H p = none) : Ext ms H ms (upd H p o) :=
  ⟨fun _ _ h => h, fun _ h => .inl h, fun a o' h _ => by
    rw [upd_ne (ne_of_none h hp)]; exact h⟩
theorem Fine.fresh {ms : List Addr} {H : Hp} {p : Addr} {o : HO} (f : Fine ms H) (hp : H p = none) : Fine ms (upd H p o) := ⟨fun a h => by
  obtain ⟨u, e, m⟩ := f.muts a h
  exact ⟨u, by rw [upd_ne (ne_of_none e hp)]; exact e, m⟩⟩
/-- a new object that is no cell (a tuple) -/
theorem Sees.fresh {G : Sta} {ms : List Addr} {L : LH} {H : Hp} {p : Addr} {o : HO} (S : Sees G ms L H) (hp : H p = none) : Sees G ms L (upd H p o) :=
  ⟨S.len, S.nd, S.fine.fresh hp, fun n a c h e => (S.cell n a c h e).ext (Ext.fresh hp) S.fine fun u q => by rw [upd_ne (ne_of_none q hp)]; exact q⟩
theorem get_app {α : Type} {l : List α} {x : α} {n : Nat} : (l ++ [x])[n]? = if n = l.length then some x else l[n]? := by
  by_cases h : n = l.length
  · rw [if_pos h, h, List.getElem?_append_right (Nat.le_refl _), Nat.sub_self]; rfl
  · rw [if_neg h]
    by_cases h2 : n < l.length
    · rw [List.getElem?_append_left h2]
    · rw [List.getElem?_append_right (by omega), List.getElem?_eq_none (by simp; omega), List.getElem?_eq_none (by omega)]
/-- a new cell -/
theorem Ext.push {ms : List Addr} {H : Hp} {p : Addr} {o : HO} (hp : H p = none) : Ext ms H (ms ++ [p]) (upd H p o) :=
  ⟨fun n a h => by rw [get_app, if_neg (by have := (List.getElem?_eq_some_iff.mp h).1; omega)]; exact h,
   fun a h => by
    rcases List.mem_append.mp h with h | h
    · exact .inl h
    · exact .inr (by rw [List.mem_singleton.mp h]; exact hp),
   fun a o' h _ => by rw [upd_ne (ne_of_none h hp)]; exact h⟩
theorem Sees.push {G : Sta} {ms : List Addr} {L : LH} {H : Hp} {p : Addr} {o : HO} {c : Cell} (S : Sees G ms L H) (hp : H p = none) (m : Mut (some o)) (q : CellOk G (ms ++ [p]) (upd H p o) p c) : Sees G (ms ++ [p]) (L.push c) (upd H p o) := by
  have np : p ∉ ms := fun h => by
    obtain ⟨u, e, _⟩ := S.fine.muts p h
    rw [hp] at e; cases e
  refine ⟨by rw [List.length_append, S.len]; rfl, ?_, ⟨fun a h => ?_⟩, fun n a c' h e => ?_⟩
  · exact List.nodup_append.mpr ⟨S.nd, by simp, fun a h b hb => by rw [List.mem_singleton.mp hb]; exact fun e => np (e ▸ h)⟩
  · rcases List.mem_append.mp h with h | h
    · obtain ⟨u, e, m'⟩ := S.fine.muts a h
      exact ⟨u, by rw [upd_ne (ne_of_none e hp)]; exact e, m'⟩
    · rw [List.mem_singleton.mp h]
      exact ⟨o, upd_same, m⟩
  · rw [LH.get_push, ← S.len] at h
    rw [get_app] at e
    by_cases hn : n = ms.length
    · rw [if_pos hn] at h e
      cases h; cases e
      exact q
    · rw [if_neg hn] at h e
      exact (S.cell n a c' h e).ext (Ext.push hp) S.fine fun u z => by rw [upd_ne (ne_of_none z hp)]; exact z
/-- a cell is written -/
theorem Ext.put {ms : List Addr} {H : Hp} {p : Addr} {o : HO} {n : Nat} (hn : ms[n]? = some p) : Ext ms H ms (upd H p o) :=
  ⟨fun _ _ h => h, fun _ h => .inl h, fun a o' h na => by
    rw [upd_ne (show a ≠ p from fun e => na (by rw [e]; exact List.mem_of_getElem? hn))]; exact h⟩
theorem Sees.put {G : Sta} {ms : List Addr} {L : LH} {H : Hp} {p : Addr} {o : HO} {n : Nat} {c : Cell} (S : Sees G ms L H) (hn : ms[n]? = some p) (m : Mut (some o)) (q : CellOk G ms (upd H p o) p c) : Sees G ms (L.put n c) (upd H p o) := by
  have hlt : n < L.len := by rw [← S.len]; exact (List.getElem?_eq_some_iff.mp hn).1
  refine ⟨by rw [S.len]; rfl, S.nd, ⟨fun a h => ?_⟩, fun k a c' h e => ?_⟩
  · by_cases e : a = p
    · rw [e]; exact ⟨o, upd_same, m⟩
    · obtain ⟨u, e', m'⟩ := S.fine.muts a h
      exact ⟨u, by rw [upd_ne e]; exact e', m'⟩
  · rw [LH.get_put c k hlt] at h
    by_cases hk : k = n
    · rw [if_pos hk] at h
      cases h
      rw [hk, hn] at e; cases e
      exact q
    · rw [if_neg hk] at h
      have hne : a ≠ p := fun z => by
        subst z
        obtain ⟨h1, e1⟩ := List.getElem?_eq_some_iff.mp hn
        obtain ⟨h2, e2⟩ := List.getElem?_eq_some_iff.mp e
        exact hk ((List.getElem_inj S.nd).mp (e2.trans e1.symm))
      exact (S.cell k a c' h e).ext (Ext.put hn) S.fine fun u z => by rw [upd_ne hne]; exact z

/-! ### slots -/
structure EnvOk (G : Sta) (ms : List Addr) (H : Hp) (ρ : Slt) (σ : L2.St) : Prop where
  len : ρ.length = σ.length
  at_ : ∀ (i : Nat) (d : D), ρ[i]? = some (some d) → ∃ v, σ[i]? = some (some v) ∧ Rep G ms H d v
theorem EnvOk.kp {G : Sta} {ms ms' : List Addr} {H H' : Hp} {ρ : Slt} {σ : L2.St} (x : Kp G.K ms H ms' H') (e : EnvOk G ms H ρ σ) : EnvOk G ms' H' ρ σ :=
  ⟨e.len, fun i d h => by
    obtain ⟨v, q, r⟩ := e.at_ i d h
    exact ⟨v, q, Rep.kp x _ _ r⟩⟩
theorem EnvOk.ext {G : Sta} {ms ms' : List Addr} {H H' : Hp} {ρ : Slt} {σ : L2.St} (x : Ext ms H ms' H') (f : Fine ms H) (e : EnvOk G ms H ρ σ) : EnvOk G ms' H' ρ σ :=
  ⟨e.len, fun i d h => by
    obtain ⟨v, q, r⟩ := e.at_ i d h
    exact ⟨v, q, Rep.ext x f _ _ r⟩⟩
theorem EnvOk.set {G : Sta} {ms : List Addr} {H : Hp} {ρ : Slt} {σ : L2.St} (e : EnvOk G ms H ρ σ) {d : D} {v : V} (r : Rep G ms H d v) (i : Nat) : EnvOk G ms H (ρ.set i (some d)) (σ.set i (some v)) := by
  refine ⟨by rw [List.length_set, List.length_set, e.len], fun j d' h => ?_⟩
  by_cases hj : j = i
  · subst hj
    by_cases hl : j < ρ.length
    · rw [List.getElem?_set_self hl] at h
      cases h
      exact ⟨v, by rw [List.getElem?_set_self (by rw [← e.len]; exact hl)], r⟩
    · rw [List.getElem?_eq_none (by rw [List.length_set]; omega)] at h; cases h
  · rw [List.getElem?_set_ne (Ne.symm hj)] at h
    obtain ⟨w, q, r'⟩ := e.at_ j d' h
    exact ⟨w, by rw [List.getElem?_set_ne (Ne.symm hj)]; exact q, r'⟩

/-! ### what is wanted of a result -/
/-- an exception of the class c with the fields fs, as HandS tells it -/
def ExOk (G : Sta) (ms : List Addr) (H : Hp) (c : Nat) (fs : List (Str × D)) (cls : Value) (dx : Option Addr) : Prop :=
  cls = .ref (G.CA c) ∧ match dx with
    | none => fs = []
    | some d => ∃ vs, H d = some (.xd vs) ∧ Flds G ms H fs vs
def post (G : Sta) (ms : List Addr) (H : Hp) {α β : Type} (Rel : List Addr → Hp → α → β → Prop) (Q : β → Hp → Prop) (E : XK) : Res α → Prop
  | .ok d L' => ∀ ms' H' v, Ext ms H ms' H' → Sees G ms' L' H' → Rel ms' H' d v → Q v H'
  | .exc c fs L' => ∀ ms' H' cls dx, Ext ms H ms' H' → Sees G ms' L' H' → ExOk G ms' H' c fs cls dx → E cls dx H'
  | .bad => False
theorem post.ext {G : Sta} {ms ms1 : List Addr} {H H1 : Hp} {α β : Type} {Rel : List Addr → Hp → α → β → Prop} {Q : β → Hp → Prop} {E : XK} (x : Ext ms H ms1 H1) : ∀ {r : Res α}, post G ms H Rel Q E r → post G ms1 H1 Rel Q E r
  | .ok _ _, h => fun ms' H' v e s r => h ms' H' v (x.trans e) s r
  | .exc _ _ _, h => fun ms' H' c d e s r => h ms' H' c d (x.trans e) s r
  | .bad, h => h
theorem post.imp {G : Sta} {ms : List Addr} {H : Hp} {α β : Type} {Rel : List Addr → Hp → α → β → Prop} {Q Q' : β → Hp → Prop} {E E' : XK} (hQ : ∀ v H', Q v H' → Q' v H') (hE : ∀ c d H', E c d H' → E' c d H') : ∀ {r : Res α}, post G ms H Rel Q E r → post G ms H Rel Q' E' r
  | .ok _ _, h => fun ms' H' v e s r => hQ _ _ (h ms' H' v e s r)
  | .exc _ _ _, h => fun ms' H' c d e s r => hE _ _ _ (h ms' H' c d e s r)
  | .bad, h => h
/-- one thing after another -/
theorem post.bind {G : Sta} {ms : List Addr} {H : Hp} {α β γ δ : Type} {R1 : List Addr → Hp → α → β → Prop} {R2 : List Addr → Hp → γ → δ → Prop} {Q : δ → Hp → Prop} {E : XK} {k : α → LH → Res γ} :
    ∀ {r : Res α}, post G ms H R2 Q E (r.bind k) → post G ms H R1 (fun v H1 => ∃ ms1 L1 a, Ext ms H ms1 H1 ∧ Sees G ms1 L1 H1 ∧ R1 ms1 H1 a v ∧ post G ms H R2 Q E (k a L1)) E r
  | .ok a L1, h => fun ms1 H1 v x s r => ⟨ms1, L1, a, x, s, r, h⟩
  | .exc _ _ _, h => h
  | .bad, h => h

/-! ### dicts -/
theorem leaf_key {d : D} (h : leafKey d = true) : ∃ k, keyD d = some k := by
  cases d <;> first
    | exact ⟨_, rfl⟩
    | cases h
theorem keyD_rep {G : Sta} {ms : List Addr} {H : Hp} {d : D} {v : V} {k : Key} (h : keyD d = some k) (r : Rep G ms H d v) : v = kV k := by
  cases r <;> first
    | (cases h; rfl)
    | cases h
theorem kEq_leaf {a b : D} {x y : Key} (ha : keyD a = some x) (hb : keyD b = some y) (n : Nat) : kEq (n + 1) a b = decide (x = y) := by
  have aux : ∀ {d : D} {k : Key}, keyD d = some k → (∃ i, d = .int i ∧ k = .inl i) ∨ (∃ t, d = .str t ∧ k = .inr t) := by
    intro d k h
    cases d <;> first
      | (cases h; exact .inl ⟨_, rfl, rfl⟩)
      | (cases h; exact .inr ⟨_, rfl, rfl⟩)
      | cases h
  rcases aux ha with ⟨i, rfl, rfl⟩ | ⟨i, rfl, rfl⟩ <;> rcases aux hb with ⟨j, rfl, rfl⟩ | ⟨j, rfl, rfl⟩ <;> simp [kEq]
theorem keyFits_leaf {kvs : List (D × D)} {x : D} (h : keyFits kvs x = true) : ∃ k, keyD x = some k := by
  unfold keyFits at h
  rw [Bool.and_eq_true] at h
  exact leaf_key h.1
section
variable {G : Sta} {ms : List Addr} {H : Hp}
theorem KvRep.length {l : List (D × D)} {ks : List (Key × V)} (h : KvRep G ms H l ks) : l.length = ks.length := by
  induction h with
  | nil => rfl
  | cons _ _ _ ih => rw [List.length_cons, List.length_cons, ih]
theorem KvRep.look {x : D} {k : Key} (hx : keyD x = some k) {l : List (D × D)} {ks : List (Key × V)} (h : KvRep G ms H l ks) : (∃ d v, dLook l x = some d ∧ valV ks k = some v ∧ Rep G ms H d v) ∨ (dLook l x = none ∧ valV ks k = none) := by
  induction h with
  | nil => exact .inr ⟨rfl, rfl⟩
  | @cons a d key v l vs h1 h2 _ ih =>
    unfold dLook
    rw [kEq_leaf h1 hx]
    by_cases e : key = k
    · rw [decide_eq_true e, if_pos rfl, valV_pos (p := (key, v)) e]
      exact .inl ⟨d, v, rfl, rfl, h2⟩
    · rw [decide_eq_false e, if_neg Bool.false_ne_true]
      have e2 : valV ((key, v) :: vs) k = valV vs k := by simp [valV, List.find?_cons, e]
      rw [e2]
      exact ih
theorem KvRep.nomap {x : Key} {y : V} {ks : List (Key × V)} (h : x ∉ ks.map (·.1)) : ks.map (fun kv => if kv.1 = x then (kv.1, y) else kv) = ks := by
  induction ks with
  | nil => rfl
  | cons p r ih =>
    rw [List.map_cons, List.mem_cons, not_or] at h
    rw [List.map_cons, if_neg (fun e => h.1 e.symm), ih h.2]
theorem KvRep.put {x y : D} {k : Key} {v : V} (hx : keyD x = some k) (hy : Rep G ms H y v) {l : List (D × D)} {ks : List (Key × V)} (h : KvRep G ms H l ks) (nd : (ks.map (·.1)).Nodup) : KvRep G ms H (dPut l x y) (putK ks k v) := by
  induction h with
  | nil => exact .cons hx hy .nil
  | @cons a d key w l vs h1 h2 h3 ih =>
    rw [List.map_cons, List.nodup_cons] at nd
    unfold dPut
    rw [kEq_leaf h1 hx]
    by_cases e : key = k
    · subst e
      rw [decide_eq_true rfl, if_pos rfl]
      unfold putK
      rw [List.any_cons, decide_eq_true rfl, Bool.true_or, if_pos rfl, List.map_cons, if_pos rfl, KvRep.nomap nd.1]
      exact .cons h1 hy h3
    · rw [decide_eq_false e, if_neg Bool.false_ne_true]
      have e2 : putK ((key, w) :: vs) k v = (key, w) :: putK vs k v := by
        unfold putK
        rw [List.any_cons, decide_eq_false e, Bool.false_or]
        by_cases q : (vs.any fun kv => decide (kv.1 = k)) = true
        · rw [if_pos q, if_pos q, List.map_cons, if_neg e]
        · rw [if_neg q, if_neg q]; rfl
      rw [e2]
      exact .cons h1 h2 (ih nd.2)
theorem putK_keys {ks : List (Key × V)} {k : Key} {v : V} (nd : (ks.map (·.1)).Nodup) : ((putK ks k v).map (·.1)).Nodup := by
  unfold putK
  by_cases q : (ks.any fun kv => decide (kv.1 = k)) = true
  · rw [if_pos q]
    have e : (ks.map fun kv => if kv.1 = k then (kv.1, v) else kv).map (·.1) = ks.map (·.1) := by
      rw [List.map_map]
      apply List.map_congr_left
      intro p _
      show (if p.1 = k then (p.1, v) else p).1 = p.1
      split <;> rfl
    rw [e]; exact nd
  · rw [if_neg q, List.map_append]
    refine List.nodup_append.mpr ⟨nd, by simp, fun a ha b hb => ?_⟩
    have hb' : b = k := by simpa using hb
    subst hb'
    intro e
    subst e
    apply q
    rw [List.any_eq_true]
    obtain ⟨p, hp, hp2⟩ := List.mem_map.mp ha
    exact ⟨p, hp, decide_eq_true hp2⟩
end
end PD
/-! P2: each construct refines its combinator. -/
namespace PD
open PySem PySem.Spec PyProof.Rows L2

/-- readings of combinators -/
def upE (G : Sta) (W : WX) (R : Rec) (f : FE) : TE := fun σ H Q => ∃ ms L ρ, Sees G ms L H ∧ EnvOk G ms H ρ σ ∧ post G ms H (Rep G) Q (WE W σ) (f R ρ L)
def upA (G : Sta) (W : WX) (R : Rec) (f : FA) : TA := fun σ H Q => ∃ ms L ρ, Sees G ms L H ∧ EnvOk G ms H ρ σ ∧ post G ms H (Reps G) Q (WE W σ) (f R ρ L)
abbrev EqB : List Addr → Hp → Bool → Bool → Prop := fun _ _ a b => a = b
def upT (G : Sta) (W : WX) (R : Rec) (f : FT) : TT := fun σ H Q => ∃ ms L ρ, Sees G ms L H ∧ EnvOk G ms H ρ σ ∧ post G ms H EqB Q (WE W σ) (f R ρ L)

section
variable {X : Cx} {e : Expr} {es : List Expr}
theorem peOf {t t' : TE} (h : PE X e t) (hi : ∀ σ H Q, t' σ H Q → t σ H Q) : PE X e t' := ⟨fun pins s σ H Q I q => h.run pins s σ H Q I (hi σ H Q q)⟩
theorem ptOf {t t' : TT} (h : PT X e t) (hi : ∀ σ H Q, t' σ H Q → t σ H Q) : PT X e t' := ⟨fun pins s σ H Q I q => h.run pins s σ H Q I (hi σ H Q q)⟩
theorem pwOf {t t' : TT} (h : PW X e t) (hi : ∀ σ H Q, t' σ H Q → t σ H Q) : PW X e t' := ⟨fun wh pins s σ H Q I q => h.run wh pins s σ H Q I (hi σ H Q q)⟩
theorem paOf {t t' : TA} (h : PA X es t) (hi : ∀ σ H Q, t' σ H Q → t σ H Q) : PA X es t' := ⟨fun pos pins s σ H Q I q => h.run pos pins s σ H Q I (hi σ H Q q)⟩
end

/-- what is known behind a part -/
structure Mid (G : Sta) (W : WX) (ρ : Slt) (σ : L2.St) {γ δ : Type} (R2 : List Addr → Hp → γ → δ → Prop) (Q : δ → Hp → Prop) (ms : List Addr) (H : Hp) (ms1 : List Addr) (H1 : Hp) (L1 : LH) (r : Res γ) : Prop where
  ext : Ext ms H ms1 H1
  sees : Sees G ms1 L1 H1
  env : EnvOk G ms1 H1 ρ σ
  post : post G ms1 H1 R2 Q (WE W σ) r

section
variable {G : Sta} {W : WX} {R : Rec} {σ : L2.St} {H : Hp} {ms : List Addr} {L : LH} {ρ : Slt}
theorem midE {γ δ : Type} {R2 : List Addr → Hp → γ → δ → Prop} {Q : δ → Hp → Prop} {f : FE} {k : D → LH → Res γ} (S : Sees G ms L H) (e : EnvOk G ms H ρ σ) (h : post G ms H R2 Q (WE W σ) ((f R ρ L).bind k)) :
    upE G W R f σ H fun v H1 => ∃ ms1 L1 d, Rep G ms1 H1 d v ∧ Mid G W ρ σ R2 Q ms H ms1 H1 L1 (k d L1) :=
  ⟨ms, L, ρ, S, e, (post.bind h).imp (fun v H1 ⟨ms1, L1, d, x, s, r, q⟩ => ⟨ms1, L1, d, r, x, s, e.ext x S.fine, post.ext x q⟩) fun _ _ _ z => z⟩
theorem midA {γ δ : Type} {R2 : List Addr → Hp → γ → δ → Prop} {Q : δ → Hp → Prop} {f : FA} {k : List D → LH → Res γ} (S : Sees G ms L H) (e : EnvOk G ms H ρ σ) (h : post G ms H R2 Q (WE W σ) ((f R ρ L).bind k)) :
    upA G W R f σ H fun v H1 => ∃ ms1 L1 d, Reps G ms1 H1 d v ∧ Mid G W ρ σ R2 Q ms H ms1 H1 L1 (k d L1) :=
  ⟨ms, L, ρ, S, e, (post.bind h).imp (fun v H1 ⟨ms1, L1, d, x, s, r, q⟩ => ⟨ms1, L1, d, r, x, s, e.ext x S.fine, post.ext x q⟩) fun _ _ _ z => z⟩
theorem midT {γ δ : Type} {R2 : List Addr → Hp → γ → δ → Prop} {Q : δ → Hp → Prop} {f : FT} {k : Bool → LH → Res γ} (S : Sees G ms L H) (e : EnvOk G ms H ρ σ) (h : post G ms H R2 Q (WE W σ) ((f R ρ L).bind k)) :
    upT G W R f σ H fun v H1 => ∃ ms1 L1, Mid G W ρ σ R2 Q ms H ms1 H1 L1 (k v L1) :=
  ⟨ms, L, ρ, S, e, (post.bind h).imp (fun v H1 ⟨ms1, L1, d, x, s, r, q⟩ => by
    cases (show d = v from r)
    exact ⟨ms1, L1, x, s, e.ext x S.fine, post.ext x q⟩) fun _ _ _ z => z⟩
theorem Mid.rep {γ δ : Type} {R2 : List Addr → Hp → γ → δ → Prop} {Q : δ → Hp → Prop} {ms1 : List Addr} {H1 : Hp} {L1 : LH} {r : Res γ} (m : Mid G W ρ σ R2 Q ms H ms1 H1 L1 r) (f : Fine ms H) {d : D} {v : V} (h : Rep G ms H d v) : Rep G ms1 H1 d v := Rep.ext m.ext f _ _ h

/-! ### operations by values -/
/-- what an operation wants: results that keep all cells -/
theorem post.same {Q : VK} {E : XK} {d : D} {v : V} (S : Sees G ms L H) (h : post G ms H (Rep G) Q E (.ok d L)) (r : Rep G ms H d v) : Q v H := h ms H v (Ext.refl _ _) S r
theorem post.tuple {Q : VK} {E : XK} {l : List D} {vs : List V} (S : Sees G ms L H) (h : post G ms H (Rep G) Q E (.ok (.tup l) L)) (r : Reps G ms H l vs) : ∀ p, H p = none → Q (.ref p) (upd H p (.tup vs)) := fun p hp =>
  h ms _ _ (Ext.fresh hp) (S.fresh hp) (.tup (SqT.of upd_same) (Reps.ext (Ext.fresh hp) S.fine _ _ r))
theorem post.list {Q : VK} {E : XK} {l : List D} {vs : List V} (S : Sees G ms L H) (h : post G ms H (Rep G) Q E (.ok (.ref L.len) (L.push (.lst l)))) (r : Reps G ms H l vs) : ∀ p, H p = none → Q (.ref p) (upd H p (.lst vs)) := fun p hp =>
  h (ms ++ [p]) _ _ (Ext.push hp) (S.push hp True.intro ⟨vs, upd_same, Reps.ext (Ext.push hp) S.fine _ _ r⟩) (.ref (by rw [get_app, if_pos S.len.symm]))
end

section
variable (X : Cx) (G : Sta) (W : WX)
/-- two values in, one out -/
def Op2 (f : Value → Value → Sem Value) (g : D → D → LH → Res D) : Prop :=
  ∀ (pins : List (Addr × Obj)) (s : Shared) (σ : L2.St) (H : Hp) (ms : List Addr) (L : LH) (a b : D) (x y : V) (v u : Value) (Q : VK), Inv X pins σ H s → Sees G ms L H → Rep G ms H a x → Rep G ms H b y → RelV x v → RelV y u →
    post G ms H (Rep G) Q (WE W σ) (g a b L) → wpAny (model X.prog X.w) X.A (f v u) (EP X pins σ Q) X.xe s
def Op1 (f : Value → Sem Value) (g : D → LH → Res D) : Prop :=
  ∀ (pins : List (Addr × Obj)) (s : Shared) (σ : L2.St) (H : Hp) (ms : List Addr) (L : LH) (a : D) (x : V) (v : Value) (Q : VK), Inv X pins σ H s → Sees G ms L H → Rep G ms H a x → RelV x v →
    post G ms H (Rep G) Q (WE W σ) (g a L) → wpAny (model X.prog X.w) X.A (f v) (EP X pins σ Q) X.xe s
/-- a call of a known value with values -/
def OpA (f : Value) (g : List D → LH → Res D) : Prop :=
  ∀ (pins : List (Addr × Obj)) (s : Shared) (σ : L2.St) (H : Hp) (ms : List Addr) (L : LH) (as : List D) (xs : List V) (us : List Value) (Q : VK), Inv X pins σ H s → Sees G ms L H → Reps G ms H as xs → Vals xs us →
    post G ms H (Rep G) Q (WE W σ) (g as L) → wpAny (model X.prog X.w) X.A (call f us) (EP X pins σ Q) X.xe s
end

section
variable {X : Cx} {G : Sta} {W : WX} {R : Rec}
theorem re_var {i : Nat} {x : Str} {pos : Pos} (h : PE X (.Name x pos) (tVar i)) : PE X (.Name x pos) (upE G W R (eVar i)) := peOf h fun σ H Q ⟨ms, L, ρ, S, e, q⟩ => by
  unfold eVar at q
  cases h : ρ[i]? with
  | none => rw [h] at q; exact q.elim
  | some o =>
    rw [h] at q
    cases o with
    | none => exact q.elim
    | some d =>
      obtain ⟨v, ev, r⟩ := e.at_ i d h
      exact ⟨v, ev, post.same S q r⟩
theorem re_c {d : D} {v : V} {ex : Expr} (h : PE X ex (tC v)) (r : ∀ ms H, Rep G ms H d v) : PE X ex (upE G W R (eC d)) := peOf h fun σ H Q ⟨ms, L, ρ, S, e, q⟩ => post.same S q (r ms H)
theorem re_int {i : Int} {j pos} : PE X (.Constant (.int i) j pos) (upE G W R (eC (.int i))) := re_c pe_int fun _ _ => .int i
theorem re_bl {b : Bool} {j pos} : PE X (.Constant (.bool b) j pos) (upE G W R (eC (.bl b))) := re_c pe_bl fun _ _ => .bl b
theorem re_non {j pos} : PE X (.Constant .none j pos) (upE G W R (eC .non)) := re_c pe_non fun _ _ => .non
theorem re_str {x : Str} {j pos} : PE X (.Constant (.str x) j pos) (upE G W R (eC (.str x))) := re_c pe_str fun _ _ => .str x

/-! ### arguments -/
theorem ra_nil : PA X [] (upA G W R aNil) := paOf pa_nil fun σ H Q ⟨ms, L, ρ, S, e, q⟩ => q ms H [] (Ext.refl _ _) S .nil
theorem ra_cons {e : Expr} {es : List Expr} {fa : FE} {fr : FA} (ha : PE X e (upE G W R fa)) (hr : PA X es (upA G W R fr)) (hs : starEach (e :: es) X.env = (false, eval e X.env) :: starEach es X.env) : PA X (e :: es) (upA G W R (aCons fa fr)) :=
  paOf (pa_cons ha hr hs) fun σ H Q ⟨ms, L, ρ, S, e, q⟩ => by
    obtain ⟨ms0, L0, ρ0, S0, e0, q0⟩ := midE (f := fa) S e q
    refine ⟨ms0, L0, ρ0, S0, e0, q0.imp (fun v H1 ⟨ms1, L1, d, r, m⟩ => ?_) fun _ _ _ z => z⟩
    obtain ⟨ms2, L2, ρ2, S2, e2, q2⟩ := midA (f := fr) m.sees m.env m.post
    refine ⟨ms2, L2, ρ2, S2, e2, q2.imp (fun vs H2 ⟨ms3, L3, ds, rs, m2⟩ => ?_) fun _ _ _ z => z⟩
    exact m2.post ms3 H2 _ (Ext.refl _ _) m2.sees (.cons (m2.rep m.sees.fine r) rs)
/-- an operation on arguments, from HandS's rule -/
theorem re_app {ex : Expr} {es : List Expr} {fa : FA} {op : List D → LH → Res D} {k : List V → Hp → VK → Prop} (h : ∀ t, PA X es t → PE X ex (fun σ H Q => t σ H fun vs H1 => k vs H1 Q)) (ha : PA X es (upA G W R fa))
    (hk : ∀ (ms : List Addr) (L : LH) (H : Hp) (ds : List D) (vs : List V) (Q : VK) (E : XK), Sees G ms L H → Reps G ms H ds vs → post G ms H (Rep G) Q E (op ds L) → k vs H Q) : PE X ex (upE G W R (aApp fa op)) :=
  peOf (h _ ha) fun σ H Q ⟨ms, L, ρ, S, e, q⟩ => by
    obtain ⟨ms0, L0, ρ0, S0, e0, q0⟩ := midA (f := fa) S e q
    refine ⟨ms0, L0, ρ0, S0, e0, q0.imp (fun vs H1 ⟨ms1, L1, ds, rs, m⟩ => ?_) fun _ _ _ z => z⟩
    exact hk ms1 L1 H1 ds vs Q _ m.sees rs m.post
theorem re_tup {es : List Expr} {fa : FA} {x1 pos} (ha : PA X es (upA G W R fa)) : PE X (.Tuple es x1 pos) (upE G W R (aApp fa oTup)) :=
  re_app (fun t h => pe_tup h) ha fun ms L H ds vs Q E S r q => by
    unfold oTup at q
    by_cases hz : ds.length ≤ sizeLine
    · rw [if_pos hz] at q
      exact ⟨by rw [← r.length]; exact hz, post.tuple S q r⟩
    · rw [if_neg hz] at q; exact q.elim
theorem re_lst {es : List Expr} {fa : FA} {pos} (ha : PA X es (upA G W R fa)) : PE X (.List es pos) (upE G W R (aApp fa oLst)) :=
  re_app (fun t h => pe_lst h) ha fun ms L H ds vs Q E S r q => by
    unfold oLst at q
    by_cases hz : ds.length ≤ sizeLine
    · rw [if_pos hz] at q
      exact ⟨by rw [← r.length]; exact hz, post.list S q r⟩
    · rw [if_neg hz] at q; exact q.elim

/-! ### operators -/
theorem run2 {a b : Expr} {fa fb : FE} {f : Value → Value → Sem Value} {g : D → D → LH → Res D} (ha : PE X a (upE G W R fa)) (hb : PE X b (upE G W R fb)) (ho : Op2 X G W f g) {pins : List (Addr × Obj)} {s : Shared} {σ : L2.St} {H : Hp} {Q : VK} (I : Inv X pins σ H s)
    (h : upE G W R (e2 g fa fb) σ H Q) : wpAny (model X.prog X.w) X.A (eval a X.env) (fun v s₁ => wpAny (model X.prog X.w) X.A (eval b X.env) (fun u s₂ => wpAny (model X.prog X.w) X.A (f v u) (EP X pins σ Q) X.xe s₂) X.xe s₁) X.xe s := by
  obtain ⟨ms, L, ρ, S, e, q⟩ := h
  refine thn (ha.run pins s σ H _ I (midE (f := fa) S e q)) fun v s1 ⟨x, H1, I1, r1, ms1, L1, d1, rx, m⟩ => ?_
  refine thn (hb.run pins s1 σ H1 _ I1 (midE (f := fb) m.sees m.env m.post)) fun u s2 ⟨y, H2, I2, r2, ms2, L2, d2, ry, m2⟩ => ?_
  exact ho pins s2 σ H2 ms2 L2 d1 d2 x y v u Q I2 m2.sees (m2.rep m.sees.fine rx) ry r1 r2 m2.post
theorem re_bin {a b : Expr} {fa fb : FE} {op : Operator} {g : D → D → LH → Res D} {pos : Pos} (ho : Op2 X G W (binaryOp op) g) (ha : PE X a (upE G W R fa)) (hb : PE X b (upE G W R fb)) : PE X (.BinOp a op b pos) (upE G W R (e2 g fa fb)) :=
  ⟨fun pins s σ H Q I h => wpAny_BinOp (run2 ha hb ho I h)⟩
theorem re_cmp {a b : Expr} {fa fb : FE} {op : CmpOp} {g : D → D → LH → Res D} {pos : Pos} (ho : Op2 X G W (compareOp op) g) (ha : PE X a (upE G W R fa)) (hb : PE X b (upE G W R fb)) (hm : behindInMarks op b = false) : PE X (.Compare a [op] [b] pos) (upE G W R (e2 g fa fb)) :=
  ⟨fun pins s σ H Q I h => wpAny_Compare1 (run2 ha hb ho I h) hm⟩
theorem re_un {a : Expr} {fa : FE} {op : UnaryOp} {g : D → LH → Res D} {pos : Pos} (ho : Op1 X G W (unaryOp op) g) (ha : PE X a (upE G W R fa)) : PE X (.UnaryOp op a pos) (upE G W R (e1 g fa)) :=
  ⟨fun pins s σ H Q I h => by
    obtain ⟨ms, L, ρ, S, e, q⟩ := h
    refine UnaryOp_ (thn (ha.run pins s σ H _ I (midE (f := fa) S e q)) fun v s1 ⟨x, H1, I1, r1, ms1, L1, d1, rx, m⟩ => ?_)
    exact ho pins s1 σ H1 ms1 L1 d1 x v Q I1 m.sees rx r1 m.post⟩

/-- from HandS's rules by values -/
theorem Op2.of {f : Value → Value → Sem Value} {g : D → D → LH → Res D} {r : R2} (h : OpR X f r) (hi : ∀ (ms : List Addr) (L : LH) (H : Hp) (a b : D) (x y : V) (Q : VK) (E : XK), Sees G ms L H → Rep G ms H a x → Rep G ms H b y → post G ms H (Rep G) Q E (g a b L) → r x y H Q) : Op2 X G W f g :=
  fun pins s σ H ms L a b x y v u Q I S ra rb rx ry q => h pins s σ H x y v u Q I rx ry (hi ms L H a b x y Q _ S ra rb q)
theorem op2_case {f : Value → Value → Sem Value} {r : R2} (h : OpR X f r) {pins : List (Addr × Obj)} {s : Shared} {σ : L2.St} {H : Hp} {x y : V} {v u : Value} {Q : VK} (I : Inv X pins σ H s) (rx : RelV x v) (ry : RelV y u) (q : r x y H Q) : wpAny (model X.prog X.w) X.A (f v u) (EP X pins σ Q) X.xe s := h pins s σ H x y v u Q I rx ry q

theorem op_oAdd (hK : X.K = G.K) : Op2 X G W (binaryOp .Add) oAdd := by
  intro pins s σ H ms L a b x y v u Q I S ra rb rx ry q
  unfold oAdd at q
  split at q
  · cases ra; cases rb
    exact op_add pins s σ H _ _ v u Q I rx ry ⟨_, _, rfl, rfl, post.same S q (.int _)⟩
  · cases ra; cases rb
    split at q
    · rename_i hz
      exact op_add_str pins s σ H _ _ v u Q I rx ry ⟨_, _, rfl, rfl, hz, post.same S q (.str _)⟩
    · exact q.elim
  · cases ra with
    | @tup p vs l h1 r1 =>
      cases rb with
      | @tup p' vs' l' h2 r2 =>
        split at q
        · rename_i hz
          rw [r1.length, r2.length] at hz
          refine op_catA pins s σ H _ _ v u Q I rx ry ⟨p, p', vs, vs', rfl, rfl, hK ▸ h1, hK ▸ h2, hz, fun e => ?_, fun _ e => ?_, fun _ _ => post.tuple S q (r1.append r2)⟩
          · subst e; cases r1
            exact post.same S q (.tup h2 r2)
          · subst e; cases r2
            rw [List.append_nil] at q
            exact post.same S q (.tup h1 r1)
        · exact q.elim
  · rename_i m n
    split at q
    · rename_i xs ys em en
      obtain ⟨p, rfl, e1, vs, h1, r1⟩ := S.ref em ra
      obtain ⟨p', rfl, e2, vs', h2, r2⟩ := S.ref en rb
      split at q
      · rename_i hz
        rw [r1.length, r2.length] at hz
        exact op_cat pins s σ H _ _ v u Q I rx ry ⟨p, p', vs, vs', rfl, rfl, h1, h2, hz, post.list S q (r1.append r2)⟩
      · exact q.elim
    · exact q.elim
  · cases ra; cases rb
    exact op_add_ib pins s σ H _ _ v u Q I rx ry ⟨_, _, rfl, rfl, post.same S q (.int _)⟩
  · exact q.elim
theorem op_ii {f : Value → Value → Sem Value} {g : Int → Int → V} {k : D → D → LH → Res D} {gd : Int → Int → D} (C : Int → Int → Prop) (h : OpR X f (rI C g)) (hg : ∀ i j ms H, Rep G ms H (gd i j) (g i j))
    (hk : ∀ a b L, k a b L = .bad ∨ ∃ i j, a = .int i ∧ b = .int j ∧ C i j ∧ k a b L = .ok (gd i j) L) : Op2 X G W f k := by
  intro pins s σ H ms L a b x y v u Q I S ra rb rx ry q
  rcases hk a b L with e | ⟨i, j, rfl, rfl, c, e⟩
  · rw [e] at q; exact q.elim
  · rw [e] at q
    cases ra; cases rb
    exact h pins s σ H _ _ v u Q I rx ry ⟨i, j, rfl, rfl, c, post.same S q (hg i j ms H)⟩
theorem rI_of {f : Value → Value → Sem Value} {g : Int → Int → V} (h : OpR X f (rI0 g)) : OpR X f (rI (fun _ _ => True) g) := fun pins s σ H x y v u Q I rx ry ⟨i, j, e1, e2, _, q⟩ => h pins s σ H x y v u Q I rx ry ⟨i, j, e1, e2, q⟩
theorem op_oSub : Op2 X G W (binaryOp .Sub) oSub := op_ii (gd := fun i j => .int (i - j)) _ (rI_of op_sub) (fun _ _ _ _ => .int _) fun a b L => by
  unfold oSub; split
  · exact .inr ⟨_, _, rfl, rfl, trivial, rfl⟩
  · exact .inl rfl
theorem op_oDiv : Op2 X G W (binaryOp .FloorDiv) oDiv := op_ii (gd := fun i j => .int (i / j)) _ op_fdiv (fun _ _ _ _ => .int _) fun a b L => by
  unfold oDiv; split
  · split
    · rename_i h; exact .inr ⟨_, _, rfl, rfl, h, rfl⟩
    · exact .inl rfl
  · exact .inl rfl
theorem op_oMod : Op2 X G W (binaryOp .Mod) oMod := op_ii (gd := fun i j => .int (i % j)) _ op_mod (fun _ _ _ _ => .int _) fun a b L => by
  unfold oMod; split
  · split
    · rename_i h; exact .inr ⟨_, _, rfl, rfl, h, rfl⟩
    · exact .inl rfl
  · exact .inl rfl
theorem op_oPow : Op2 X G W (binaryOp .Pow) oPow := op_ii (gd := fun i j => .int (i ^ j.toNat)) _ op_pow (fun _ _ _ _ => .int _) fun a b L => by
  unfold oPow; split
  · split
    · rename_i h; exact .inr ⟨_, _, rfl, rfl, h, rfl⟩
    · exact .inl rfl
  · exact .inl rfl
theorem op_oShl : Op2 X G W (binaryOp .LShift) oShl := op_ii (gd := fun i j => .int (i * 2 ^ j.toNat)) _ op_shl (fun _ _ _ _ => .int _) fun a b L => by
  unfold oShl; split
  · split
    · rename_i h; exact .inr ⟨_, _, rfl, rfl, h, rfl⟩
    · exact .inl rfl
  · exact .inl rfl
theorem op_oShr : Op2 X G W (binaryOp .RShift) oShr := op_ii (gd := fun i j => .int (i / 2 ^ j.toNat)) _ op_shr (fun _ _ _ _ => .int _) fun a b L => by
  unfold oShr; split
  · split
    · rename_i h; exact .inr ⟨_, _, rfl, rfl, h, rfl⟩
    · exact .inl rfl
  · exact .inl rfl
theorem op_oBand : Op2 X G W (binaryOp .BitAnd) oBand := op_ii (gd := fun i j => .int (Builtin.bitAnd i j)) _ (rI_of op_and) (fun _ _ _ _ => .int _) fun a b L => by
  unfold oBand; split
  · exact .inr ⟨_, _, rfl, rfl, trivial, rfl⟩
  · exact .inl rfl
theorem op_oLt : Op2 X G W (compareOp .Lt) oLt := op_ii (gd := fun i j => .bl (decide (i < j))) _ (rI_of op_lt) (fun _ _ _ _ => .bl _) fun a b L => by
  unfold oLt; split
  · exact .inr ⟨_, _, rfl, rfl, trivial, rfl⟩
  · exact .inl rfl
theorem op_oLe : Op2 X G W (compareOp .LtE) oLe := op_ii (gd := fun i j => .bl (decide (i ≤ j))) _ (rI_of op_le) (fun _ _ _ _ => .bl _) fun a b L => by
  unfold oLe; split
  · exact .inr ⟨_, _, rfl, rfl, trivial, rfl⟩
  · exact .inl rfl
theorem op_oGt : Op2 X G W (compareOp .Gt) oGt := op_ii (gd := fun i j => .bl (decide (j < i))) _ (rI_of op_gt) (fun _ _ _ _ => .bl _) fun a b L => by
  unfold oGt; split
  · exact .inr ⟨_, _, rfl, rfl, trivial, rfl⟩
  · exact .inl rfl
theorem op_oGe : Op2 X G W (compareOp .GtE) oGe := op_ii (gd := fun i j => .bl (decide (j ≤ i))) _ (rI_of op_ge) (fun _ _ _ _ => .bl _) fun a b L => by
  unfold oGe; split
  · exact .inr ⟨_, _, rfl, rfl, trivial, rfl⟩
  · exact .inl rfl

/-! ### data at any depth -/
mutual
theorem toP_ok {ms : List Addr} {L : LH} {H : Hp} (S : Sees G ms L H) : ∀ (n : Nat) (d : D) (v : V) (p : PyData), toP n L d = some p → Rep G ms H d v → Dp G.K H v p ∧ p.canLay0 = true ∧ p.depth ≤ n
  | 0, _, _, _, h, _ => by cases h
  | n + 1, .non, _, _, h, r => by
    cases h; cases r
    exact ⟨.non, by simp [PyData.canLay0], by simp [PyData.depth]⟩
  | n + 1, .bl b, _, _, h, r => by
    cases h; cases r
    exact ⟨.bl b, by simp [PyData.canLay0], by simp [PyData.depth]⟩
  | n + 1, .int i, _, _, h, r => by
    cases h; cases r
    exact ⟨.int i, by simp [PyData.canLay0], by simp [PyData.depth]⟩
  | n + 1, .str x, _, _, h, r => by
    unfold toP at h
    by_cases hx : PyData.strOk x = true
    · simp only [hx, if_true] at h
      cases h; cases r
      exact ⟨.str x, by simpa [PyData.canLay0] using hx, by simp [PyData.depth]⟩
    · simp only [hx] at h; cases h
  | n + 1, .tup l, _, _, h, r => by
    unfold toP at h
    dsimp only at h
    cases e : mapO (toP n L) l with
    | none => rw [e] at h; cases h
    | some ps =>
      rw [e] at h; cases h
      cases r with
      | tup h1 r1 =>
        obtain ⟨q1, q2, q3⟩ := toPs_ok S n l _ ps e r1
        exact ⟨.tup h1 q1, by simpa [PyData.canLay0] using q2, by simp only [PyData.depth]; omega⟩
  | n + 1, .rol _, _, _, h, _ => by cases h
  | n + 1, .ref k, _, _, h, r => by
    unfold toP at h
    dsimp only at h
    split at h
    · rename_i xs ek
      cases e : mapO (toP n L) xs with
      | none => rw [e] at h; cases h
      | some ps =>
        rw [e] at h; cases h
        obtain ⟨a, rfl, _, vs, h1, r1⟩ := S.ref ek r
        obtain ⟨q1, q2, q3⟩ := toPs_ok S n xs _ ps e r1
        exact ⟨.lst (SqL.of h1) q1, by simpa [PyData.canLay0] using q2, by simp only [PyData.depth]; omega⟩
    · cases h
  | n + 1, .fn _, _, _, h, _ => by cases h
theorem toPs_ok {ms : List Addr} {L : LH} {H : Hp} (S : Sees G ms L H) : ∀ (n : Nat) (l : List D) (vs : List V) (ps : List PyData), mapO (toP n L) l = some ps → Reps G ms H l vs → DpAll G.K H vs ps ∧ PyData.canLayAll0 ps = true ∧ PyData.depthAll ps ≤ n
  | n, [], _, _, h, r => by
    cases h; cases r
    exact ⟨.nil, by simp [PyData.canLayAll0], by simp [PyData.depthAll]⟩
  | n, d :: l, _, _, h, r => by
    unfold mapO at h
    cases e1 : toP n L d with
    | none => rw [e1] at h; cases h
    | some p =>
      rw [e1] at h
      dsimp only at h
      cases e2 : mapO (toP n L) l with
      | none => rw [e2] at h; cases h
      | some ps =>
        rw [e2] at h; cases h
        cases r with
        | cons r1 r2 =>
          obtain ⟨a1, a2, a3⟩ := toP_ok S n d _ p e1 r1
          obtain ⟨b1, b2, b3⟩ := toPs_ok S n l _ ps e2 r2
          exact ⟨.cons a1 b1, by simp [PyData.canLayAll0, a2, b2], by simp only [PyData.depthAll]; omega⟩
end
theorem op_oEq (hK : X.K = G.K) (hu : X.A.units + 64 < cLine) : Op2 X G W (compareOp .Eq) oEq := by
  intro pins s σ H ms L a b x y v u Q I S ra rb rx ry q
  rcases eqD_two L a b with ⟨z1, z2, rfl, rfl⟩ | ee
  · cases ra
    cases rb
    refine op_eq pins s σ H _ _ v u Q I rx ry ⟨rfl, ?_⟩
    have e : decide (V.str z1 = V.str z2) = decide (z1 = z2) := by simp
    rw [e]
    exact post.same S q (.bl _)
  unfold oEq at q
  rw [ee] at q
  unfold eqP at q
  cases e1 : toP 60 L a with
  | none => rw [e1] at q; exact q.elim
  | some p =>
    rw [e1] at q
    dsimp only at q
    cases e2 : toP 60 L b with
    | none => rw [e2] at q; exact q.elim
    | some p' =>
      rw [e2] at q
      obtain ⟨a1, a2, a3⟩ := toP_ok S 60 a x p e1 ra
      obtain ⟨b1, b2, b3⟩ := toP_ok S 60 b y p' e2 rb
      refine op_eqD hu pins s σ H x y v u Q I rx ry ⟨p, p', hK ▸ a1, hK ▸ b1, ?_, ?_, post.same S q (.bl _)⟩
      · unfold SeqAt.shaped; rw [a2, decide_eq_true (by omega)]; rfl
      · unfold SeqAt.shaped; rw [b2, decide_eq_true (by omega)]; rfl
theorem op_oNe (hK : X.K = G.K) (hu : X.A.units + 64 < cLine) : Op2 X G W (compareOp .NotEq) oNe := by
  intro pins s σ H ms L a b x y v u Q I S ra rb rx ry q
  rcases eqD_two L a b with ⟨z1, z2, rfl, rfl⟩ | ee
  · cases ra
    cases rb
    refine op_ne pins s σ H _ _ v u Q I rx ry ⟨rfl, ?_⟩
    have e : decide (V.str z1 = V.str z2) = decide (z1 = z2) := by simp
    rw [e]
    exact post.same S q (.bl _)
  unfold oNe at q
  rw [ee] at q
  unfold eqP at q
  cases e1 : toP 60 L a with
  | none => rw [e1] at q; exact q.elim
  | some p =>
    rw [e1] at q
    dsimp only at q
    cases e2 : toP 60 L b with
    | none => rw [e2] at q; exact q.elim
    | some p' =>
      rw [e2] at q
      obtain ⟨a1, a2, a3⟩ := toP_ok S 60 a x p e1 ra
      obtain ⟨b1, b2, b3⟩ := toP_ok S 60 b y p' e2 rb
      refine op_neD hu pins s σ H x y v u Q I rx ry ⟨p, p', hK ▸ a1, hK ▸ b1, ?_, ?_, post.same S q (.bl _)⟩
      · unfold SeqAt.shaped; rw [a2, decide_eq_true (by omega)]; rfl
      · unfold SeqAt.shaped; rw [b2, decide_eq_true (by omega)]; rfl
theorem rep_non {ms : List Addr} {H : Hp} {d : D} {v : V} (r : Rep G ms H d v) : decide (v = .non) = isNon d := by
  cases r <;> simp [isNon]
theorem op_oIs : Op2 X G W (compareOp .Is) oIs := by
  intro pins s σ H ms L a b x y v u Q I S ra rb rx ry q
  unfold oIs at q
  cases h : isD a b with
  | none => rw [h] at q; exact q.elim
  | some c =>
    rw [h] at q
    unfold isD at h
    split at h
    · cases h; cases rb
      exact op_isN pins s σ H _ _ v u Q I rx ry ⟨rfl, by rw [rep_non ra]; exact post.same S q (.bl _)⟩
    · cases h; cases ra; cases rb
      exact op_isBl pins s σ H _ _ v u Q I rx ry ⟨_, _, rfl, rfl, post.same S q (.bl _)⟩
    · cases h
theorem op_oIsNot : Op2 X G W (compareOp .IsNot) oIsNot := by
  intro pins s σ H ms L a b x y v u Q I S ra rb rx ry q
  unfold oIsNot at q
  cases h : isD a b with
  | none => rw [h] at q; exact q.elim
  | some c =>
    rw [h] at q
    unfold isD at h
    split at h
    · cases h; cases rb
      exact op_notN pins s σ H _ _ v u Q I rx ry ⟨rfl, by rw [rep_non ra]; exact post.same S q (.bl _)⟩
    · cases h; cases ra; cases rb
      exact op_notBl pins s σ H _ _ v u Q I rx ry ⟨_, _, rfl, rfl, post.same S q (.bl _)⟩
    · cases h
theorem op_oNeg : Op1 X G W (unaryOp .USub) oNeg := by
  intro pins s σ H ms L a x v Q I S ra rx q
  unfold oNeg at q
  split at q
  · cases ra
    exact un_neg pins s σ H _ v Q I rx ⟨_, rfl, post.same S q (.int _)⟩
  · exact q.elim

/-! ### tests -/
theorem tru_D {ms : List Addr} {L : LH} {H : Hp} {d : D} {v : V} {k : Bool} (hK : X.K = G.K) (S : Sees G ms L H) (r : Rep G ms H d v) (h : truthD L d = some k) : TruV X.K v H k := by
  unfold truthD at h
  split at h
  · cases h; cases r; rfl
  · cases h; cases r; rfl
  · cases h; cases r; rfl
  · cases r
    split at h
    · rename_i hz
      cases h
      refine ⟨hz, ?_⟩
      rename_i y
      cases e : y.length with
      | zero => rfl
      | succ n => simp; omega
    · cases h
  · cases h
    cases r with
    | tup h1 r1 =>
      refine .inr (.inl ⟨_, hK ▸ h1, ?_⟩)
      cases r1 <;> rfl
  · split at h
    · rename_i xs ek
      cases h
      obtain ⟨a, rfl, _, vs, h1, r1⟩ := S.ref ek r
      refine .inl ⟨_, SqL.of h1, ?_⟩
      cases r1 <;> rfl
    · rename_i kvs ek
      cases h
      obtain ⟨a, rfl, _, ks, h1, r1, _⟩ := S.ref ek r
      refine .inr (.inr ⟨ks, h1, ?_⟩)
      cases r1 <;> rfl
    · cases h
  · cases h
  · cases h
theorem rt_truth {a : Expr} {fa : FE} (hK : X.K = G.K) (ha : PE X a (upE G W R fa)) (he : ∀ whole, isTrue a X.env whole = (do let v ← whole; standAt a.pos; holding [v] (truthy v))) : PT X a (upT G W R (tV fa)) :=
  ptOf (pt_truth ha he) fun σ H Q ⟨ms, L, ρ, S, e, q⟩ => by
    obtain ⟨ms0, L0, ρ0, S0, e0, q0⟩ := midE (f := fa) S e q
    refine ⟨ms0, L0, ρ0, S0, e0, q0.imp (fun v H1 ⟨ms1, L1, d, r, m⟩ => ?_) fun _ _ _ z => z⟩
    have q1 := m.post
    cases h : truthD L1 d with
    | none => rw [h] at q1; exact q1.elim
    | some k =>
      rw [h] at q1
      exact ⟨k, tru_D hK m.sees r h, q1 ms1 H1 k (Ext.refl _ _) m.sees rfl⟩
/-- a comparison that gives a bool, as a test -/
theorem rt_cmp {a b : Expr} {fa fb : FE} {op : CmpOp} {g : D → D → LH → Res D} {pos : Pos} (hK : X.K = G.K) (ho : Op2 X G W (compareOp op) g) (ha : PE X a (upE G W R fa)) (hb : PE X b (upE G W R fb)) (hm : behindInMarks op b = false) : PT X (.Compare a [op] [b] pos) (upT G W R (tV (e2 g fa fb))) := by
  refine ⟨fun pins s σ H Q I h => ?_⟩
  obtain ⟨ms, L, ρ, S, e, q⟩ := h
  have q' := midE (f := e2 g fa fb) S e q
  refine wpAny_isTrue_Compare1 (thn (run2 ha hb ho I q') fun v s1 h1 => thn h1 fun u s2 h2 => thn h2 fun c s3 ⟨x, H1, I1, r1, ms1, L1, d, rx, m⟩ => ?_) hm
  have q1 := m.post
  cases h : truthD L1 d with
  | none => rw [h] at q1; exact q1.elim
  | some k =>
    rw [h] at q1
    exact tru_ok pins s3 σ H1 x c Q I1 r1 ⟨k, tru_D hK m.sees rx h, q1 ms1 H1 k (Ext.refl _ _) m.sees rfl⟩
theorem rt_and1 {a : Expr} {fa : FT} {pos} (ha : PT X a (upT G W R fa)) : PW X (.BoolOp .And [a] pos) (upT G W R fa) := pw_and1 ha
theorem rt_or1 {a : Expr} {fa : FT} {pos} (ha : PT X a (upT G W R fa)) : PW X (.BoolOp .Or [a] pos) (upT G W R fa) := pw_or1 ha
theorem rt_and {a b : Expr} {rest : List Expr} {fa fb : FT} {pos} (ha : PT X a (upT G W R fa)) (hb : PW X (.BoolOp .And (b :: rest) pos) (upT G W R fb)) : PW X (.BoolOp .And (a :: b :: rest) pos) (upT G W R (tAnd fa fb)) :=
  pwOf (pw_and ha hb) fun σ H Q ⟨ms, L, ρ, S, e, q⟩ => by
    obtain ⟨ms0, L0, ρ0, S0, e0, q0⟩ := midT (f := fa) S e q
    refine ⟨ms0, L0, ρ0, S0, e0, q0.imp (fun c H1 ⟨ms1, L1, m⟩ => ?_) fun _ _ _ z => z⟩
    have q1 := m.post
    cases c with
    | true => exact iteT ⟨ms1, L1, ρ, m.sees, m.env, q1⟩
    | false => exact iteF (q1 ms1 H1 false (Ext.refl _ _) m.sees rfl)
theorem rt_or {a b : Expr} {rest : List Expr} {fa fb : FT} {pos} (ha : PT X a (upT G W R fa)) (hb : PW X (.BoolOp .Or (b :: rest) pos) (upT G W R fb)) : PW X (.BoolOp .Or (a :: b :: rest) pos) (upT G W R (tOr fa fb)) :=
  pwOf (pw_or ha hb) fun σ H Q ⟨ms, L, ρ, S, e, q⟩ => by
    obtain ⟨ms0, L0, ρ0, S0, e0, q0⟩ := midT (f := fa) S e q
    refine ⟨ms0, L0, ρ0, S0, e0, q0.imp (fun c H1 ⟨ms1, L1, m⟩ => ?_) fun _ _ _ z => z⟩
    have q1 := m.post
    cases c with
    | true => exact iteT (q1 ms1 H1 true (Ext.refl _ _) m.sees rfl)
    | false => exact iteF ⟨ms1, L1, ρ, m.sees, m.env, q1⟩
theorem rt_not {a : Expr} {fa : FT} {pos} (ha : PT X a (upT G W R fa)) : PT X (.UnaryOp .Not a pos) (upT G W R (tNot fa)) :=
  ptOf (pt_not ha) fun σ H Q ⟨ms, L, ρ, S, e, q⟩ => by
    obtain ⟨ms0, L0, ρ0, S0, e0, q0⟩ := midT (f := fa) S e q
    refine ⟨ms0, L0, ρ0, S0, e0, q0.imp (fun c H1 ⟨ms1, L1, m⟩ => ?_) fun _ _ _ z => z⟩
    exact m.post ms1 H1 _ (Ext.refl _ _) m.sees rfl
theorem re_if {c a b : Expr} {fc : FT} {fa fb : FE} {pos} (hc : PT X c (upT G W R fc)) (ha : PE X a (upE G W R fa)) (hb : PE X b (upE G W R fb)) : PE X (.IfExp c a b pos) (upE G W R (eIf fc fa fb)) :=
  peOf (pe_ifExp hc ha hb) fun σ H Q ⟨ms, L, ρ, S, e, q⟩ => by
    obtain ⟨ms0, L0, ρ0, S0, e0, q0⟩ := midT (f := fc) S e q
    refine ⟨ms0, L0, ρ0, S0, e0, q0.imp (fun c H1 ⟨ms1, L1, m⟩ => ?_) fun _ _ _ z => z⟩
    have q1 := m.post
    cases c with
    | true => exact iteT ⟨ms1, L1, ρ, m.sees, m.env, q1⟩
    | false => exact iteF ⟨ms1, L1, ρ, m.sees, m.env, q1⟩
/-- and, or as values -/
theorem re_one {op} {a : Expr} {fa : FE} {pos} (ha : PE X a (upE G W R fa)) : PE X (.BoolOp op [a] pos) (upE G W R fa) := pe_one ha
theorem re_and {a b : Expr} {rest : List Expr} {fa fb : FE} {pos} (hK : X.K = G.K) (ha : PE X a (upE G W R fa)) (hb : PE X (.BoolOp .And (b :: rest) pos) (upE G W R fb)) : PE X (.BoolOp .And (a :: b :: rest) pos) (upE G W R (eAnd fa fb)) :=
  peOf (pe_andT ha hb) fun σ H Q ⟨ms, L, ρ, S, e, q⟩ => by
    obtain ⟨ms0, L0, ρ0, S0, e0, q0⟩ := midE (f := fa) S e q
    refine ⟨ms0, L0, ρ0, S0, e0, q0.imp (fun v H1 ⟨ms1, L1, d, r, m⟩ => ?_) fun _ _ _ z => z⟩
    have q1 := m.post
    cases h : truthD L1 d with
    | none => rw [h] at q1; exact q1.elim
    | some k =>
      rw [h] at q1
      refine ⟨k, tru_D hK m.sees r h, ?_⟩
      cases k with
      | true => exact iteT ⟨ms1, L1, ρ, m.sees, m.env, q1⟩
      | false => exact iteF (post.same m.sees q1 r)
theorem re_or {a b : Expr} {rest : List Expr} {fa fb : FE} {pos} (hK : X.K = G.K) (ha : PE X a (upE G W R fa)) (hb : PE X (.BoolOp .Or (b :: rest) pos) (upE G W R fb)) : PE X (.BoolOp .Or (a :: b :: rest) pos) (upE G W R (eOr fa fb)) :=
  peOf (pe_orT ha hb) fun σ H Q ⟨ms, L, ρ, S, e, q⟩ => by
    obtain ⟨ms0, L0, ρ0, S0, e0, q0⟩ := midE (f := fa) S e q
    refine ⟨ms0, L0, ρ0, S0, e0, q0.imp (fun v H1 ⟨ms1, L1, d, r, m⟩ => ?_) fun _ _ _ z => z⟩
    have q1 := m.post
    cases h : truthD L1 d with
    | none => rw [h] at q1; exact q1.elim
    | some k =>
      rw [h] at q1
      refine ⟨k, tru_D hK m.sees r h, ?_⟩
      cases k with
      | true => exact iteT (post.same m.sees q1 r)
      | false => exact iteF ⟨ms1, L1, ρ, m.sees, m.env, q1⟩
theorem re_not {a : Expr} {fa : FE} {pos} (hK : X.K = G.K) (ha : PE X a (upE G W R fa)) : PE X (.UnaryOp .Not a pos) (upE G W R (eNot fa)) :=
  peOf (pe_notT ha) fun σ H Q ⟨ms, L, ρ, S, e, q⟩ => by
    obtain ⟨ms0, L0, ρ0, S0, e0, q0⟩ := midE (f := fa) S e q
    refine ⟨ms0, L0, ρ0, S0, e0, q0.imp (fun v H1 ⟨ms1, L1, d, r, m⟩ => ?_) fun _ _ _ z => z⟩
    have q1 := m.post
    cases h : truthD L1 d with
    | none => rw [h] at q1; exact q1.elim
    | some k =>
      rw [h] at q1
      exact ⟨k, tru_D hK m.sees r h, post.same m.sees q1 (.bl _)⟩
end
end PD
/-! P3: subscripts, slices, attributes, calls. -/
namespace PD
open PySem PySem.Spec PyProof.Rows L2

theorem ixOf_eq (n : Nat) (i : Int) : ixOf n i = L2.ixN n i := rfl
theorem cIx_eq (n d : Nat) (o : Option Int) : cIx n d o = HT.sIx n d o := by cases o <;> rfl
theorem cut_eq (xs : List V) (lo hi : Option Int) : cut xs lo hi = cutV xs lo hi := by unfold cut cutV; rw [cIx_eq, cIx_eq]
theorem Reps.cut {G : Sta} {ms : List Addr} {H : Hp} {l : List D} {vs : List V} (r : Reps G ms H l vs) (lo hi : Option Int) : Reps G ms H (PD.cut l lo hi) (cutV vs lo hi) := by
  rw [← cut_eq]
  unfold PD.cut
  rw [← r.length]
  exact (r.drop _).take _
theorem Reps.at_ {G : Sta} {ms : List Addr} {H : Hp} {l : List D} {vs : List V} (r : Reps G ms H l vs) {i : Int} {d : D} (h : (ixOf l.length i).bind (l[·]?) = some d) : ∃ v, atI vs i = some v ∧ Rep G ms H d v := by
  rw [ixOf_eq, r.length] at h
  unfold atI
  cases e : L2.ixN vs.length i with
  | none => rw [e] at h; cases h
  | some j =>
    rw [e] at h
    exact r.get h

section
variable (X : Cx) (G : Sta) (W : WX)
/-- a subscript by values -/
def OpI (g : D → D → LH → Res D) : Prop :=
  ∀ (value slice : Expr) (pins : List (Addr × Obj)) (s : Shared) (σ : L2.St) (H : Hp) (ms : List Addr) (L : LH) (a b : D) (x y : V) (v u : Value) (Q : VK), Inv X pins σ H s → Sees G ms L H → Rep G ms H a x → Rep G ms H b y → RelV x v → RelV y u →
    post G ms H (Rep G) Q (WE W σ) (g a b L) → subscripted slice false v u = operate [v, u] (getItem v u) → wpAny (model X.prog X.w) X.A (subscriptTail value slice v u) (EP X pins σ Q) X.xe s
end
section
variable {X : Cx} {G : Sta} {W : WX} {R : Rec}
theorem op_oIx (hK : X.K = G.K) (hu : X.A.units + 64 < cLine) : OpI X G W oIx := by
  intro value slice pins s σ H ms L a b x y v u Q I S ra rb rx ry q hs
  unfold oIx at q
  split at q
  · rename_i l i
    cases rb
    cases ra with
    | @tup p vs l' h1 r1 =>
      split at q
      · rename_i d e
        obtain ⟨w', e', r'⟩ := r1.at_ e
        exact ix_tup value slice pins s σ H _ _ v u Q I rx ry ⟨p, vs, i, w', rfl, rfl, hK ▸ h1, e', post.same S q r'⟩ hs
      · exact q.elim
  · rename_i z i
    cases ra; cases rb
    split at q
    · rename_i hz
      split at q
      · rename_i c e
        exact ix_str value slice pins s σ H _ _ v u Q I rx ry ⟨z, i, c, rfl, rfl, hz, e, post.same S q (.str _)⟩ hs
      · exact q.elim
    · exact q.elim
  · rename_i n
    split at q
    · rename_i xs en
      obtain ⟨p, rfl, e1, vs, h1, r1⟩ := S.ref en ra
      split at q
      · rename_i i
        cases rb
        split at q
        · rename_i d e
          obtain ⟨w', e', r'⟩ := r1.at_ e
          exact ix_list value slice pins s σ H _ _ v u Q I rx ry ⟨p, vs, i, w', rfl, rfl, SqL.of h1, e', post.same S q r'⟩ hs
        · exact q.elim
      · exact q.elim
    · rename_i kvs en
      obtain ⟨p, rfl, e1, ks, h1, r1, nd⟩ := S.ref en ra
      split at q
      · rename_i hf
        split at q
        · rename_i d hd
          obtain ⟨key, hk⟩ := keyFits_leaf hf
          cases keyD_rep hk rb
          obtain rfl : v = Value.ref p := rx
          rcases r1.look hk with ⟨d', v', e2, e3, r'⟩ | ⟨e2, _⟩
          · rw [hd] at e2; cases e2
            have g : DGet H p (kV key) (some v') := by rw [← e3]; exact DGet.k h1
            exact tail_any (dict_typeIs I g) PySem.F.slot_dict_getitem.lookup (d_getItem (by omega) I g ry fun w' s3 I3 rw' => ⟨v', H, I3, rw', post.same S q r'⟩) hs
          · rw [hd] at e2; cases e2
        · exact q.elim
      · exact q.elim
    · exact q.elim
  · exact q.elim
theorem plainIx {b : Expr} (h : ∀ l u s p, b ≠ .Slice l u s p) : PlainIx b := by
  intro o i
  cases b <;> first
    | rfl
    | exact absurd rfl (h _ _ _ _)
theorem re_ix {a b : Expr} {fa fb : FE} {pos : Pos} (hK : X.K = G.K) (hu : X.A.units + 64 < cLine) (ha : PE X a (upE G W R fa)) (hb : PE X b (upE G W R fb)) (hs : PlainIx b) : PE X (.Subscript a b pos) (upE G W R (e2 oIx fa fb)) := by
  refine ⟨fun pins s σ H Q I h => ?_⟩
  obtain ⟨ms, L, ρ, S, e, q⟩ := h
  refine Subscript_ ?_
  refine thn (ha.run pins s σ H _ I (midE (f := fa) S e q)) fun v s1 ⟨x, H1, I1, r1, ms1, L1, d1, rx, m⟩ => ?_
  refine thn (hb.run pins s1 σ H1 _ I1 (midE (f := fb) m.sees m.env m.post)) fun u s2 ⟨y, H2, I2, r2, ms2, L2, d2, ry, m2⟩ => ?_
  exact op_oIx hK hu a b pins s2 σ H2 ms2 L2 d1 d2 x y v u Q I2 m2.sees (m2.rep m.sees.fine rx) ry r1 r2 m2.post (hs _ _)

/-! ### slices -/
def upO (G : Sta) (W : WX) (R : Rec) (f : FO) : TO := fun σ H Q => ∃ ms L ρ, Sees G ms L H ∧ EnvOk G ms H ρ σ ∧ post G ms H (fun _ _ (a b : Option Int) => a = b) Q (WE W σ) (f R ρ L)
theorem poOf {e : Option Expr} {t t' : TO} (h : PO X e t) (hi : ∀ σ H Q, t' σ H Q → t σ H Q) : PO X e t' := ⟨fun pins s σ H Q I q => h.run pins s σ H Q I (hi σ H Q q)⟩
theorem ro_none : PO X none (upO G W R bNo) := poOf po_none fun σ H Q ⟨ms, L, ρ, S, e, q⟩ => q ms H none (Ext.refl _ _) S rfl
theorem ro_some {a : Expr} {fa : FE} (ha : PE X a (upE G W R fa)) : PO X (some a) (upO G W R (bAt fa)) := poOf (po_some ha) fun σ H Q ⟨ms, L, ρ, S, e, q⟩ => by
  obtain ⟨ms0, L0, ρ0, S0, e0, q0⟩ := midE (f := fa) S e q
  refine ⟨ms0, L0, ρ0, S0, e0, q0.imp (fun v H1 ⟨ms1, L1, d, r, m⟩ => ?_) fun _ _ _ z => z⟩
  have q1 := m.post
  split at q1
  · cases r
    exact ⟨_, rfl, q1 ms1 H1 _ (Ext.refl _ _) m.sees rfl⟩
  · exact q1.elim
theorem midO {σ : L2.St} {H : Hp} {ms : List Addr} {L : LH} {ρ : Slt} {γ δ : Type} {R2 : List Addr → Hp → γ → δ → Prop} {Q : δ → Hp → Prop} {f : FO} {k : Option Int → LH → Res γ} (S : Sees G ms L H) (e : EnvOk G ms H ρ σ) (h : post G ms H R2 Q (WE W σ) ((f R ρ L).bind k)) :
    upO G W R f σ H fun v H1 => ∃ ms1 L1, Mid G W ρ σ R2 Q ms H ms1 H1 L1 (k v L1) :=
  ⟨ms, L, ρ, S, e, (post.bind h).imp (fun v H1 ⟨ms1, L1, d, x, s, r, q⟩ => by
    cases (show d = v from r)
    exact ⟨ms1, L1, x, s, e.ext x S.fine, post.ext x q⟩) fun _ _ _ z => z⟩
/-- a slice of a text -/
theorem cutS_eq (z : Str) (lo hi : Option Int) : (⟨(cut z.cps.toList lo hi).toArray⟩ : Str) = cutS z lo hi := by
  unfold cut cutS
  simp only [cIx_eq, Array.length_toList]
  rfl
theorem op_oSl (hK : X.K = G.K) {lo hi : Option Int} {pins : List (Addr × Obj)} {s : Shared} {σ : L2.St} {H : Hp} {ms : List Addr} {L : LH} {a : D} {x : V} {v vl vu : Value} {sl : Addr} {Q : VK} (I : Inv X pins σ H s) (S : Sees G ms L H) (ra : Rep G ms H a x) (rx : RelV x v)
    (hs : s.heap.IsSliceOf sl vl vu .none) (pl : IsPart vl lo) (pu : IsPart vu hi) (q : post G ms H (Rep G) Q (WE W σ) (oSl a lo hi L)) :
    ∃ T id, typeLookup (.type T) "__getitem__" = pure (some (.builtin id)) ∧ s.TypeIs v T ∧ wpAny (model X.prog X.w) X.A (getItem v (.ref sl)) (EP X pins σ Q) X.xe s := by
  unfold oSl at q
  split at q
  · rename_i l0
    cases ra with
    | @tup p vs l' h1 r1 =>
      refine sl_tupA pins s σ H _ v vl vu lo hi sl Q I rx hs pl pu ⟨p, vs, rfl, hK ▸ h1, fun hw => ?_, fun _ => post.tuple S q (r1.cut lo hi)⟩
      have e : PD.cut l0 lo hi = l0 := by
        unfold PD.cut
        rw [cIx_eq, cIx_eq, r1.length, hw.1, hw.2, List.drop_zero, Nat.sub_zero, ← r1.length, List.take_length]
      rw [e] at q
      exact post.same S q (.tup h1 r1)
  · rename_i n
    split at q
    · rename_i xs en
      obtain ⟨p, rfl, e1, vs, h1, r1⟩ := S.ref en ra
      exact sl_list pins s σ H _ v vl vu lo hi sl Q I rx hs pl pu ⟨p, vs, rfl, SqL.of h1, post.list S q (r1.cut lo hi)⟩
    · exact q.elim
  · rename_i z
    split at q
    · rename_i hz
      cases ra
      refine sl_str pins s σ H _ v vl vu lo hi sl Q I rx hs pl pu ⟨z, rfl, hz, ?_⟩
      rw [← cutS_eq]
      exact post.same S q (.str _)
    · exact q.elim
  · exact q.elim
theorem re_sl {a : Expr} {lo hi : Option Expr} {fa : FE} {fl fh : FO} {p2 pos : Pos} (hK : X.K = G.K) (ha : PE X a (upE G W R fa)) (hl : PO X lo (upO G W R fl)) (hu : PO X hi (upO G W R fh)) : PE X (.Subscript a (.Slice lo hi none p2) pos) (upE G W R (eSl fa fl fh)) := by
  refine ⟨fun pins s σ H Q I h => ?_⟩
  obtain ⟨ms, L, ρ, S, e, q⟩ := h
  refine Subscript_ (thn (ha.run pins s σ H _ I (midE (f := fa) S e q)) fun v s1 ⟨x, H1, I1, r1, ms1, L1, d1, rx, m⟩ => ?_)
  refine wpAny_Slice (thn (hl.run pins s1 σ H1 _ I1 (midO (f := fl) m.sees m.env m.post)) fun vl s2 ⟨l, H2, I2, pl, ms2, L2, m2⟩ => thn (hu.run pins s2 σ H2 _ I2 (midO (f := fh) m2.sees m2.env m2.post)) fun vu s3 ⟨u, H3, I3, pu, ms3, L3, m3⟩ => ?_)
  rw [evalPart_none]
  refine wpAny_pure ?_
  have I4 : Inv X pins σ H3 { s3 with heap := s3.heap.push { cls := .type "slice", data := .fields #[vl, vu, .none] } } := I3.kept (t' := s3.toks) fun b ob q => Heap.get?_push_of_some _ q
  obtain ⟨T, id, hT, ht, hg⟩ := op_oSl (W := W) hK I4 m3.sees (m3.rep m2.sees.fine (m2.rep m.sees.fine rx)) r1 (Heap.IsSliceOf.new ..) pl pu m3.post
  exact tail_any (ops := [.ref s3.heap.objs.size, v]) ht hT hg (by with_unfolding_all rfl)

/-! ### attributes -/
/-- what the classes of the program have -/
structure FldOk (G : Sta) (cs : List Nat) (f : Str) : Prop where
  cl : ∀ c ∈ cs, Cls G.K (G.CA c)
  no : ∀ c ∈ cs, NoAttr G.K (G.CA c) f
theorem re_fld {o : Expr} {fo : FE} {cs : List Nat} {f : Str} {pos : Pos} (hK : X.K = G.K) (F : FldOk G cs f) (ho : PE X o (upE G W R fo)) (hb : attributeBase o f X.env (eval o X.env) = eval o X.env) : PE X (.Attribute o f pos) (upE G W R (e1 (oFld cs f) fo)) :=
  peOf (pe_fld ho hb) fun σ H Q ⟨ms, L, ρ, S, e, q⟩ => by
    obtain ⟨ms0, L0, ρ0, S0, e0, q0⟩ := midE (f := fo) S e q
    refine ⟨ms0, L0, ρ0, S0, e0, q0.imp (fun v H1 ⟨ms1, L1, d, r, m⟩ => ?_) fun _ _ _ z => z⟩
    have q1 := m.post
    unfold oFld at q1
    split at q1
    · rename_i n
      split at q1
      · rename_i c fs en
        split at q1
        · rename_i hc
          split at q1
          · rename_i d' e'
            obtain ⟨p, rfl, e1, dx, vs, h1, r1⟩ := m.sees.ref en r
            obtain ⟨w', e2, r2⟩ := r1.lookup e'
            have hm : c ∈ cs := by simpa using hc
            exact ⟨p, G.CA c, dx, vs, w', rfl, h1, hK ▸ F.cl c hm, hK ▸ F.no c hm, e2, post.same m.sees q1 r2⟩
          · exact q1.elim
        · exact q1.elim
      · exact q1.elim
    · exact q1.elim
end
end PD
/-! P4: defs that keep what their combinators say; their calls. -/
namespace PD
open PySem PySem.Spec PyProof.Rows L2

/-- as FnOk, where no guard stands around (so that repr may be asked) -/
structure FnG (P : Program) (w : World) (K : PySem.W.Frag) (mg : Str → Option Value) (base : Heap) (k : Nat) (f : Addr) (fd : FuncData) (ps : List Str) (sp : Sp) : Prop where
  len : ∀ vs H Q E, sp vs H Q E → vs.length = ps.length
  run : ∀ (A : Around) (outer : List PySem.Env) (s : Shared) (H : Hp) (args : Args) (us : List Value) (vs : List V) (Q : VK) (E : XK), Room k A → A.guards = some [] → Env0 P w K mg base A outer s H →
    BindsTo s fd args (ps.zip us) → Vals vs us → sp vs H Q E → codeAny (model P w) A (.call (.ref f) args) (CR (L2.CX P w) outer P w H s Q E) s

/-- from a body -/
theorem FnG.of {P : Program} {w : World} {K : PySem.W.Frag} {mg : Str → Option Value} {base : Heap} {x qual : Str} {params : Arguments} {body : List Stmt} {scope : Scope} {dvs : List V} {kws : List (Str × V)} {f : Addr} {fd : FuncData} {N ps : List Str} {k : Nat} {sp : Sp}
    (F : FunD K x qual params body scope dvs kws f fd) (S : FnScope N ps scope) (len : ∀ vs H Q E, sp vs H Q E → vs.length = ps.length)
    (hbody : ∀ (cdv : Value) (A : Around) (outer : List PySem.Env) (s : Shared) (H : Hp) (vs : List V) (Q : VK) (E : XK), Room k (A.deeper (envOfC qual scope s.heap.objs.size f cdv)) → A.guards = some [] → sp vs H Q E →
      ∃ t, PSs (cxOf (L2.CX P w) P w K mg base N qual scope f cdv A outer s H E) body t ∧ t { nx := fun _ H' => Q .non H', rt := Q } (start N vs) H) :
    FnG P w K mg base (k + 1) f fd ps sp := by
  obtain ⟨oc, od, dV, kV, doc, pm, an, cdv, ct, osl, rfl, lk, hcd, _, _⟩ := F.ex
  refine ⟨len, fun A outer s H args us vs Q E hr hg e0 hb r hsp => ?_⟩
  have hl := len _ _ _ _ hsp
  have kin := e0.mod.kin.keeps (fun b o e => (e0.bs b o e).1)
  have kinds : ∀ y ∈ ps.zip us, scope.names.lookup y.1 = some .local ∨ (scope.names.lookup y.1 = some .cell ∧ ((cellsFrom (s.heap.objs.size + 1) scope.names []).lookup y.1).isSome = true) := by
    rintro ⟨n, v⟩ hy
    rcases S.par n (List.of_mem_zip hy).1 with q | q
    · exact .inl q
    · exact .inr ⟨q, PySem.W.cellsFrom_some _ _ _ (.inl q)⟩
  refine codeAny_call_function hr.depth (kin _ _ lk) rfl S.co S.gen rfl (PySem.W.codeRec_of kin hcd) (hb _ _ _ _ (wpAny_newFunctionEnv_cells S.kind kinds fun env he s1 x => ?_))
  subst he
  refine ⟨(e0.mod.nolimit.keeps fun b o e => (e0.bs b o e).1).keeps x.toInCall.keep, codeAny_func ?_⟩
  obtain ⟨t, ht, hq⟩ := hbody cdv A outer s H vs Q E (hr.deeper _) hg hsp
  refine wpAny_mono (ht.run [] s1 (start N vs) H _ (inv_start S hr.hd e0 hl r x) hq) (fun fl s' hs => ?_) fun e s' hs => hs
  cases fl with
  | ret u =>
    obtain ⟨v, σ', H', J, rv, q⟩ := hs
    exact ⟨v, H', J.os, J.bare, J.base, J.hok, rv, q⟩
  | next =>
    obtain ⟨σ', H', J, q⟩ := hs
    exact ⟨V.non, H', J.os, J.bare, J.base, J.hok, rfl, q⟩
  | brk =>
    obtain ⟨_, _, _, q⟩ := hs
    exact q.elim
  | cont =>
    obtain ⟨_, _, _, q⟩ := hs
    exact q.elim
theorem FnG.mono {P : Program} {w : World} {K : PySem.W.Frag} {mg : Str → Option Value} {base : Heap} {j k : Nat} {f : Addr} {fd : FuncData} {ps : List Str} {sp : Sp} (F : FnG P w K mg base j f fd ps sp) (h : j ≤ k) : FnG P w K mg base k f fd ps sp :=
  ⟨F.len, fun A outer s H args us vs Q E hr => F.run A outer s H args us vs Q E (hr.mono h)⟩

/-- what a def's promise is: what its combinator says -/
def spOf (G : Sta) (m : Nat) (r : List D → LH → Res D) : Sp := fun vs H Q E => vs.length = m ∧ ∃ ms L ds, Sees G ms L H ∧ Reps G ms H ds vs ∧ post G ms H (Rep G) Q E (r ds L)

/-- a callee, as a caller needs it -/
structure CalleeP (P : Program) (w : World) (K : PySem.W.Frag) (mg : Str → Option Value) (base : Heap) (G : Sta) (k : Nat) (f : Addr) (ps : List Str) (r : List D → LH → Res D) : Prop where
  ok : ∃ fd, FnG P w K mg base k f fd ps (spOf G ps.length r) ∧ Binds K fd ps []
  kp : PySem.W.keepIn K (.ref f) = true
abbrev Callee (X : Cx) (G : Sta) (k : Nat) (f : Addr) (ps : List Str) (r : List D → LH → Res D) : Prop := CalleeP X.prog X.w X.K X.mg X.base G k f ps r

section
variable {X : Cx} {G : Sta} {W : WX} {R : Rec} {k : Nat} {f : Addr} {ps : List Str} {r : List D → LH → Res D}
theorem CalleeP.run (C : Callee X G k f ps r) (hr : Room k X.A) (hg : X.A.guards = some []) (tk : Takes X W) {pins : List (Addr × Obj)} {σ : L2.St} {H : Hp} {s : Shared} {Q : VK} {us : List Value} {vs : List V} {ms : List Addr} {L : LH} {ds : List D}
    (I : Inv X pins σ H s) (rv : Vals vs us) (S : Sees G ms L H) (rs : Reps G ms H ds vs) (hn : ds.length = ps.length) (q : post G ms H (Rep G) Q (WE W σ) (r ds L)) : wpAny (model X.prog X.w) X.A (call (.ref f) us) (EP X pins σ Q) X.xe s := by
  obtain ⟨⟨fd, F, hb⟩, _⟩ := C
  have hl : us.length = ps.length := by rw [← rv.length, ← rs.length]; exact hn
  have b := hb s us I.kIn (by rw [List.append_nil]; exact hl)
  rw [List.append_nil] at b
  refine wpAny_call (codeAny_mono (F.run X.A X.stack s H ⟨us, []⟩ us vs Q (WE W σ) hr hg I.env0 b rv ⟨by rw [← rs.length]; exact hn, ms, L, ds, S, rs, q⟩) fun res s' hq => ?_)
  cases res with
  | error e => exact passAt tk σ pins H s e s' I hq
  | ok fl =>
    cases fl with
    | ret u => exact I.after hq
    | next => exact False.elim hq
    | brk => exact False.elim hq
    | cont => exact False.elim hq
/-- the arguments are as many as the parameters, or nothing is said -/
def fits (m : Nat) (r : List D → LH → Res D) : Prop := ∀ ds L, ds.length ≠ m → r ds L = .bad

theorem starEach_plain {e : Expr} {es : List Expr} {env : PySem.Env} (h : ∀ v p, e ≠ .Starred v p) : starEach (e :: es) env = (false, eval e env) :: starEach es env := by
  cases e <;> first
    | rfl
    | exact absurd rfl (h _ _)
/-- no star among the arguments -/
def plainArgs (es : List Expr) : Bool := es.all fun e => match e with
  | .Starred _ _ => false
  | _ => true
theorem plain_ne {e : Expr} {es : List Expr} (h : plainArgs (e :: es) = true) : (∀ v p, e ≠ .Starred v p) ∧ plainArgs es = true := by
  unfold plainArgs at h
  rw [List.all_cons, Bool.and_eq_true] at h
  refine ⟨fun v p z => ?_, h.2⟩
  subst z
  exact absurd h.1 Bool.false_ne_true
theorem plain_any {pos : Pos} {env : PySem.Env} : ∀ {es : List Expr}, plainArgs es = true → (backTo pos (starEach es env)).any (·.1) = false
  | [], _ => rfl
  | e :: es, h => by
    obtain ⟨h1, h2⟩ := plain_ne h
    rw [starEach_plain h1]
    show (false || (backTo pos (starEach es env)).any (·.1)) = false
    rw [plain_any h2]; rfl

theorem CalleeP.mid (C : Callee X G k f ps r) (hfit : fits ps.length r) (hr : Room k X.A) (hg : X.A.guards = some []) (tk : Takes X W) {pins : List (Addr × Obj)} {σ : L2.St} {H H1 : Hp} {s : Shared} {Q : VK} {us : List Value} {vs : List V} {ms ms1 : List Addr} {L1 : LH} {ρ : Slt} {ds : List D}
    (I : Inv X pins σ H1 s) (rv : Vals vs us) (rs : Reps G ms1 H1 ds vs) (m : Mid G W ρ σ (Rep G) Q ms H ms1 H1 L1 (r ds L1)) : wpAny (model X.prog X.w) X.A (call (.ref f) us) (EP X pins σ Q) X.xe s := by
  by_cases hn : ds.length = ps.length
  · exact C.run hr hg tk I rv m.sees rs hn m.post
  · have q1 := m.post
    rw [hfit ds L1 hn] at q1
    exact q1.elim
/-- f(e, ..), f a def of the module -/
theorem re_call {i : Nat} {x : Str} {p pos : Pos} {e0 : Expr} {es : List Expr} {fa : FA} (C : Callee X G k f ps (R i)) (hfit : fits ps.length (R i)) (hr : Room k X.A) (hg : X.A.guards = some []) (tk : Takes X W) (hx : Gl X x) (hm : X.mg x = some (.ref f))
    (ha : PA X (e0 :: es) (upA G W R fa)) (hp : plainArgs (e0 :: es) = true) (hdb : (x == ("__debug__" : Str)) = false) : PE X (.Call (.Name x p) (e0 :: es) [] pos) (upE G W R (eCall i fa)) := by
  refine ⟨fun pins s σ H Q I ⟨ms, L, ρ, S, e, q⟩ => ?_⟩
  obtain ⟨h1, h2⟩ := plain_ne hp
  refine wpAny_Call_Name_kw (ld_glob I hx hm ?_ hdb)
  exact PySem.W.callWith_K (h₀ := X.base) I.ok.mod.kin C.kp (thn (ha.run pos pins s σ H _ I (midA (f := fa) S e q)) fun us s1 ⟨vs, H1, I1, rv, ms1, L1, ds, rs, m⟩ => ⟨I1.kIn, C.mid hfit hr hg tk I1 rv rs m⟩) (starEach_plain h1) (plain_any h2)
theorem re_call0 {i : Nat} {x : Str} {p pos : Pos} (C : Callee X G k f ps (R i)) (hfit : fits ps.length (R i)) (hr : Room k X.A) (hg : X.A.guards = some []) (tk : Takes X W) (hx : Gl X x) (hm : X.mg x = some (.ref f))
    (hdb : (x == ("__debug__" : Str)) = false) : PE X (.Call (.Name x p) [] [] pos) (upE G W R (eCall i aNil)) := by
  refine ⟨fun pins s σ H Q I ⟨ms, L, ρ, S, e, q⟩ => ?_⟩
  refine wpAny_Call_Name_kw (ld_glob I hx hm (PySem.W.callWith_K0 I.kIn C.kp ?_) hdb)
  exact C.mid (us := []) hfit hr hg tk I .nil .nil ⟨Ext.refl _ _, S, e, q⟩

/-- which defs the method m is, by the class -/
structure Disp (X : Cx) (G : Sta) (R : Rec) (k : Nat) (m : Str) (tb : List (Nat × Nat)) : Prop where
  at_ : ∀ c i, tb.lookup c = some i → Cls X.K (G.CA c) ∧ ∃ f ps, Meth X.K (G.CA c) m f ∧ Callee X G k f ps (R i) ∧ fits ps.length (R i)
/-- o.m(..) -/
theorem re_meth {m : Str} {tb : List (Nat × Nat)} {o : Expr} {fo : FE} {es : List Expr} {fa : FA} {pos apos : Pos} {pl : Sem Bool} (D0 : Disp X G R k m tb) (hr : Room k X.A) (hg : X.A.guards = some []) (tk : Takes X W) (ho : PE X o (upE G W R fo)) (ha : PA X es (upA G W R fa)) (hp : plainArgs es = true)
    (hnil : es = [] → fa = aNil)
    (ht : eval (.Call (.Attribute o m apos) es [] pos) X.env = (do
      let ov ← eval o X.env
      standAt apos.atName
      let (f, first) ← holding [ov] (getMethod ov m pl)
      callWith pos f first (backTo pos (starEach es X.env)) (backToKw pos (keywordEach [] X.env)))) :
    PE X (.Call (.Attribute o m apos) es [] pos) (upE G W R (eMeth m tb fo fa)) := by
  refine ⟨fun pins s σ H Q I ⟨ms, L, ρ, S, e, q⟩ => ?_⟩
  refine PySem.W.methodCall_KW (pl := pl) (thn (ho.run pins s σ H _ I (midE (f := fo) S e q)) fun u s1 ⟨x, H1, I1, rx, ms1, L1, d, rd, m1⟩ => ?_) ht
  have q1 := m1.post
  split at q1
  · rename_i n
    split at q1
    · rename_i c fs en
      split at q1
      · rename_i i ei
        split at q1
        · rename_i hno
          obtain ⟨p, rfl, e1, dx, vs, h1, r1⟩ := m1.sees.ref en rd
          obtain rfl : u = Value.ref p := rx
          obtain ⟨cl, f, ps, hm, C, hfit⟩ := D0.at_ c i ei
          have hl : vs.lookup m = none := r1.none (Option.isNone_iff_eq_none.mp hno)
          refine getmeth_ok I1 h1 cl hm hl ?_
          have m1' : Mid G W ρ σ (Rep G) Q ms H ms1 H1 L1 ((fa R ρ L1).bind fun xs L2 => R i (.ref n :: xs) L2) := ⟨m1.ext, m1.sees, m1.env, q1⟩
          cases es with
          | nil =>
            cases hnil rfl
            exact PySem.W.callWith_K0 (first := [.ref p]) I1.kIn hm.kp (C.mid (us := [.ref p]) (vs := [.ref p]) hfit hr hg tk I1 (.cons rfl .nil) (.cons rd .nil) ⟨m1.ext, m1.sees, m1.env, q1⟩)
          | cons e0 es0 =>
            obtain ⟨z1, z2⟩ := plain_ne hp
            refine PySem.W.callWith_K (first := [.ref p]) (h₀ := X.base) I.ok.mod.kin hm.kp (thn (ha.run pos pins s1 σ H1 _ I1 (midA (f := fa) m1.sees m1.env m1'.post)) fun us s2 ⟨ws, H2, I2, rv, ms2, L2, ds, rs, m2⟩ => ⟨I2.kIn, ?_⟩) (starEach_plain z1) (plain_any z2)
            exact C.mid (us := .ref p :: us) (vs := .ref p :: ws) hfit hr hg tk I2 (.cons rfl rv) (.cons (m2.rep m1.sees.fine rd) rs) m2
        · exact q1.elim
      · exact q1.elim
    · exact q1.elim
  · exact q1.elim
theorem make_guards {A : Around} {C : Addr} {us : List Value} {kw : List (Str × Value)} (h : A.guards = some []) : (A.under (.builtin "type.__call__" ⟨.ref C :: us, kw⟩)).guards = some [] := by
  simp [Around.under, Code.guards, Code.isGuard, guardIds, pushGuards, h]
/-- C(e, ..), C an own class with an __init__ -/
theorem re_make {c i : Nat} {x : Str} {p pos : Pos} {e0 : Expr} {es : List Expr} {fa : FA} {fI : Addr} (M : Mk X.K (G.CA c) fI) (C : Callee X G k fI ps (R i)) (hfit : fits ps.length (R i)) (hr : Room (k + 1) X.A) (hg : X.A.guards = some []) (tk : Takes X W) (hx : Gl X x) (hm : X.mg x = some (.ref (G.CA c)))
    (ha : PA X (e0 :: es) (upA G W R fa)) (hp : plainArgs (e0 :: es) = true) (hdb : (x == ("__debug__" : Str)) = false) : PE X (.Call (.Name x p) (e0 :: es) [] pos) (upE G W R (eMake c i fa)) := by
  refine ⟨fun pins s σ H Q I ⟨ms, L, ρ, S, e, q⟩ => ?_⟩
  obtain ⟨h1, h2⟩ := plain_ne hp
  refine wpAny_Call_Name_kw (ld_glob I hx hm ?_ hdb)
  refine PySem.W.callWith_K (h₀ := X.base) I.ok.mod.kin M.kp (thn (ha.run pos pins s σ H _ I (midA (f := fa) S e q)) fun us s1 ⟨vs, H1, I1, rv, ms1, L1, ds, rs, m⟩ => ⟨I1.kIn, ?_⟩) (starEach_plain h1) (plain_any h2)
  have I2 := Inv.made (C := G.CA c) I1
  have f1 : H1 (s1.heap.objs.size + 1) = none := I1.hok.fresh (Nat.le_succ _)
  have f0 : H1 s1.heap.objs.size = none := I1.hok.fresh (Nat.le_refl _)
  have ne01 : s1.heap.objs.size + 1 ≠ s1.heap.objs.size := by omega
  have f1' : upd H1 s1.heap.objs.size (HO.own (s1.heap.objs.size + 1)) (s1.heap.objs.size + 1) = none := by rw [upd_ne ne01]; exact f1
  have S1 := m.sees.fresh (o := .own (s1.heap.objs.size + 1)) f0
  have x1 : Ext ms1 H1 ms1 _ := Ext.fresh (o := .own (s1.heap.objs.size + 1)) f0
  have S2 := S1.push (c := .ins c []) (o := .ins (G.CA c) s1.heap.objs.size []) f1' True.intro ⟨_, [], upd_same, .nil⟩
  have x2 := x1.trans (Ext.push (o := .ins (G.CA c) s1.heap.objs.size []) f1')
  have q1 := post.ext x2 m.post
  have self : Rep G (ms1 ++ [s1.heap.objs.size + 1]) (upd (upd H1 s1.heap.objs.size (.own (s1.heap.objs.size + 1))) (s1.heap.objs.size + 1) (.ins (G.CA c) s1.heap.objs.size [])) (.ref L1.len) (.ref (s1.heap.objs.size + 1)) := .ref (by rw [get_app, if_pos m.sees.len.symm])
  have rs2 := Reps.ext x2 m.sees.fine _ _ rs
  by_cases hn : (D.ref L1.len :: ds).length = ps.length
  · obtain ⟨⟨fd, F, hb⟩, _⟩ := C
    have hus : (Value.ref (s1.heap.objs.size + 1) :: us).length = ps.length := by
      rw [List.length_cons, ← rv.length, ← rs.length]; exact hn
    have b := hb { s1 with heap := (s1.heap.push PySem.W.emptyDict).push (PySem.W.instObj (G.CA c) s1.heap.objs.size) } (Value.ref (s1.heap.objs.size + 1) :: us) I2.kIn (by rw [List.append_nil]; exact hus)
    rw [List.append_nil] at b
    have mid := post.bind (R1 := Rep G) q1
    refine wpAny_call (make_map (f := fI) I1.kIn M.makes M.init (beq_iff_eq.mp M.fn) (codeAny_mono (F.run _ X.stack _ _ ⟨Value.ref (s1.heap.objs.size + 1) :: us, []⟩ (Value.ref (s1.heap.objs.size + 1) :: us) (V.ref (s1.heap.objs.size + 1) :: vs) _ (WE W σ) (hr.make (G.CA c) us [])
      (make_guards hg) (I2.env0.make (G.CA c) us []) b (.cons rfl rv) ⟨by rw [List.length_cons, ← rs.length]; exact hn, _, _, _, S2, .cons self rs2, mid⟩) fun res s' hq' => ?_))
    cases res with
    | error e => exact passAt tk σ pins _ _ e s' I2 hq'
    | ok fl =>
      cases fl with
      | ret u =>
        obtain ⟨v, H', I3, rvv, ms3, L3, d3, x3, S3, r3, q3'⟩ := I2.after hq'
        have q3 := post.ext x3 q3'
        cases d3 with
        | non =>
          cases r3
          exact ⟨rvv, ⟨V.ref (s1.heap.objs.size + 1), H', I3, rfl, post.same S3 q3 (.ref (x3.pre _ _ (by rw [get_app, if_pos m.sees.len.symm])))⟩⟩
        | _ => exact q3.elim
      | next => exact False.elim hq'
      | brk => exact False.elim hq'
      | cont => exact False.elim hq'
  · rw [hfit _ _ hn] at q1
    exact q1.elim
end
end PD
/-! P5: what is walked, targets, comprehensions, statements. -/
namespace PD
open PySem PySem.Spec PyProof.Rows L2

/-- a walk's turns, told by place -/
def Itr.nx : Itr → LH → Nat → Option (Option D)
  | .pur xs => fun _ i => some xs[i]?
  | .dyn nx _ => nx
def Itr.bnd : Itr → Nat
  | .pur xs => xs.length + 1
  | .dyn _ k => k
theorem forPur_dyn (b : D → Slt → LH → Res (Fl × Slt)) (xs : List D) : ∀ (r : List D) (i : Nat) (ρ : Slt) (L : LH), xs.drop i = r → forPur b r ρ L = forDyn b (fun _ i => some xs[i]?) (r.length + 1) i ρ L
  | [], i, ρ, L, h => by
    have e : xs[i]? = none := by
      rw [List.getElem?_eq_none_iff]
      exact List.drop_eq_nil_iff.mp h
    unfold forPur forDyn
    rw [e]
  | x :: r, i, ρ, L, h => by
    have e : xs[i]? = some x := by
      have h2 := congrArg (fun l => l[0]?) h
      simpa [List.getElem?_drop] using h2
    have e2 : xs.drop (i + 1) = r := by
      rw [← List.drop_drop, h]; rfl
    rw [forPur, List.length_cons, forDyn, e]
    dsimp only
    congr 1
    funext p L1
    rw [forPur_dyn b xs r (i + 1) p.2 L1 e2]
theorem forRun_dyn (b : D → Slt → LH → Res (Fl × Slt)) (j : Itr) (ρ : Slt) (L : LH) : forRun b j ρ L = forDyn b j.nx j.bnd 0 ρ L := by
  cases j with
  | pur xs => exact forPur_dyn b xs xs 0 ρ L rfl
  | dyn nx k => rfl
theorem lcPur_dyn (b : D → LH → Res (Option D)) (xs : List D) : ∀ (r : List D) (i : Nat) (acc : List D) (L : LH), xs.drop i = r → lcPur b r acc L = lcDyn b (fun _ i => some xs[i]?) (r.length + 1) i acc L
  | [], i, acc, L, h => by
    have e : xs[i]? = none := by
      rw [List.getElem?_eq_none_iff]
      exact List.drop_eq_nil_iff.mp h
    unfold lcPur lcDyn
    rw [e]
  | x :: r, i, acc, L, h => by
    have e : xs[i]? = some x := by
      have h2 := congrArg (fun l => l[0]?) h
      simpa [List.getElem?_drop] using h2
    have e2 : xs.drop (i + 1) = r := by
      rw [← List.drop_drop, h]; rfl
    rw [lcPur, List.length_cons, lcDyn, e]
    dsimp only
    congr 1
    funext o L1
    cases o with
    | none => exact lcPur_dyn b xs r (i + 1) acc L1 e2
    | some y =>
      dsimp only
      split
      · exact lcPur_dyn b xs r (i + 1) (acc ++ [y]) L1 e2
      · rfl
theorem lcRun_dyn (b : D → LH → Res (Option D)) (j : Itr) (L : LH) : lcRun b j L = lcDyn b j.nx j.bnd 0 [] L := by
  cases j with
  | pur xs => exact lcPur_dyn b xs xs 0 [] L rfl
  | dyn nx k => rfl

/-- an iterator of HandS walks as ours does, from here on -/
def ItOk (G : Sta) (ms : List Addr) (H : Hp) (j : Itr) (J : It) : Prop :=
  ∀ (ms' : List Addr) (L' : LH) (H' : Hp) (i : Nat), Ext ms H ms' H' → Sees G ms' L' H' → match j.nx L' i with
    | none => True
    | some none => J.stop i H'
    | some (some d) => J.go i H' ∧ ∀ x H'', J.yld i H' x H'' → Ext ms' H' ms' H'' ∧ Sees G ms' L' H'' ∧ Rep G ms' H'' d x
def upI (G : Sta) (W : WX) (R : Rec) (f : FI) : TI := fun σ H Q => ∃ ms L ρ, Sees G ms L H ∧ EnvOk G ms H ρ σ ∧ post G ms H (ItOk G) Q (WE W σ) (f R ρ L)
/-- Pr: what a target keeps of the slots -/
def upGp (Pr : L2.St → L2.St → Prop) (G : Sta) (W : WX) (R : Rec) (f : FG) : TG := fun v σ H Q => ∃ ms L ρ d, Sees G ms L H ∧ EnvOk G ms H ρ σ ∧ Rep G ms H d v ∧ post G ms H (fun ms H a b => EnvOk G ms H a b ∧ Pr σ b) Q (WE W σ) (f R d ρ L)
def upGs (Pr : L2.St → L2.St → Prop) (G : Sta) (W : WX) (R : Rec) (f : FGs) : TGs := fun vs σ H Q => ∃ ms L ρ ds, Sees G ms L H ∧ EnvOk G ms H ρ σ ∧ Reps G ms H ds vs ∧ post G ms H (fun ms H a b => EnvOk G ms H a b ∧ Pr σ b) Q (WE W σ) (f R ds ρ L)
abbrev PrT : L2.St → L2.St → Prop := fun _ _ => True
abbrev upG := upGp PrT
/-- a relation that targets may keep -/
structure PrOk (Pr : L2.St → L2.St → Prop) : Prop where
  rfl_ : ∀ σ, Pr σ σ
  trans : ∀ a b c, Pr a b → Pr b c → Pr a c
theorem prT : PrOk PrT := ⟨fun _ => trivial, fun _ _ _ _ _ => trivial⟩
/-- what is wanted behind a statement -/
def postS (G : Sta) (W : WX) (ms : List Addr) (H : Hp) (E : Ends) : Res (Fl × Slt) → Prop
  | .ok (.nx, ρ) L' => ∀ ms' H' σ', Ext ms H ms' H' → Sees G ms' L' H' → EnvOk G ms' H' ρ σ' → E.nx σ' H'
  | .ok (.rt d, _) L' => ∀ ms' H' v, Ext ms H ms' H' → Sees G ms' L' H' → Rep G ms' H' d v → E.rt v H'
  | .ok (.bk, ρ) L' => ∀ ms' H' σ', Ext ms H ms' H' → Sees G ms' L' H' → EnvOk G ms' H' ρ σ' → E.bk σ' H'
  | .ok (.ct, ρ) L' => ∀ ms' H' σ', Ext ms H ms' H' → Sees G ms' L' H' → EnvOk G ms' H' ρ σ' → E.ct σ' H'
  | .ok (.ex c fs, ρ) L' => ∀ ms' H' σ' cls dx, Ext ms H ms' H' → Sees G ms' L' H' → EnvOk G ms' H' ρ σ' → ExOk G ms' H' c fs cls dx → W cls dx σ' H'
  | .exc _ _ _ => False
  | .bad => False
def upS (G : Sta) (W : WX) (R : Rec) (f : FS) : TS := fun E σ H => ∃ ms L ρ, Sees G ms L H ∧ EnvOk G ms H ρ σ ∧ postS G W ms H E (f R ρ L)

theorem postS.ext {G : Sta} {W : WX} {ms ms1 : List Addr} {H H1 : Hp} {E : Ends} (x : Ext ms H ms1 H1) : ∀ {r : Res (Fl × Slt)}, postS G W ms H E r → postS G W ms1 H1 E r
  | .ok (.nx, _) _, h => fun ms' H' σ' e s r => h ms' H' σ' (x.trans e) s r
  | .ok (.rt _, _) _, h => fun ms' H' v e s r => h ms' H' v (x.trans e) s r
  | .ok (.bk, _) _, h => fun ms' H' σ' e s r => h ms' H' σ' (x.trans e) s r
  | .ok (.ct, _) _, h => fun ms' H' σ' e s r => h ms' H' σ' (x.trans e) s r
  | .ok (.ex _ _, _) _, h => fun ms' H' σ' c d e s r k => h ms' H' σ' c d (x.trans e) s r k
  | .exc _ _ _, h => h
  | .bad, h => h
section
variable {G : Sta} {W : WX} {R : Rec} {σ : L2.St} {H : Hp} {ms : List Addr} {L : LH} {ρ : Slt} {E : Ends}
theorem postS.st {α β : Type} {R1 : List Addr → Hp → α → β → Prop} {k : α → LH → Res (Fl × Slt)} (S : Sees G ms L H) (e : EnvOk G ms H ρ σ) : ∀ {r : Res α}, postS G W ms H E (r.st ρ k) →
    post G ms H R1 (fun v H1 => ∃ ms1 L1 a, Ext ms H ms1 H1 ∧ Sees G ms1 L1 H1 ∧ R1 ms1 H1 a v ∧ EnvOk G ms1 H1 ρ σ ∧ postS G W ms H E (k a L1)) (WE W σ) r
  | .ok a L1, h => fun ms1 H1 v x s r => ⟨ms1, L1, a, x, s, r, e.ext x S.fine, h⟩
  | .exc c fs L1, h => fun ms1 H1 cls dx x s r => h ms1 H1 σ cls dx x s (e.ext x S.fine) r
  | .bad, h => h
/-- an expression within a statement -/
theorem stE {f : FE} {k : D → LH → Res (Fl × Slt)} (S : Sees G ms L H) (e : EnvOk G ms H ρ σ) (h : postS G W ms H E ((f R ρ L).st ρ k)) :
    upE G W R f σ H fun v H1 => ∃ ms1 L1 d, Ext ms H ms1 H1 ∧ Sees G ms1 L1 H1 ∧ Rep G ms1 H1 d v ∧ EnvOk G ms1 H1 ρ σ ∧ postS G W ms H E (k d L1) := ⟨ms, L, ρ, S, e, postS.st S e h⟩
theorem stT {f : FT} {k : Bool → LH → Res (Fl × Slt)} (S : Sees G ms L H) (e : EnvOk G ms H ρ σ) (h : postS G W ms H E ((f R ρ L).st ρ k)) :
    upT G W R f σ H fun c H1 => ∃ ms1 L1, Ext ms H ms1 H1 ∧ Sees G ms1 L1 H1 ∧ EnvOk G ms1 H1 ρ σ ∧ postS G W ms H E (k c L1) :=
  ⟨ms, L, ρ, S, e, (postS.st (R1 := EqB) S e h).imp (fun c H1 ⟨ms1, L1, a, x, s, r, en, q⟩ => by
    cases (show a = c from r)
    exact ⟨ms1, L1, x, s, en, q⟩) fun _ _ _ z => z⟩
/-- one statement's result after another's -/
theorem postS.bind {F : Ends} {k : Fl × Slt → LH → Res (Fl × Slt)} {r : Res (Fl × Slt)} (h : postS G W ms H E (r.bind k))
    (hn : ∀ ρ1 L1 ms1 H1 σ1, Ext ms H ms1 H1 → Sees G ms1 L1 H1 → EnvOk G ms1 H1 ρ1 σ1 → postS G W ms H E (k (.nx, ρ1) L1) → F.nx σ1 H1)
    (hr : ∀ d ρ1 L1 ms1 H1 v, Ext ms H ms1 H1 → Sees G ms1 L1 H1 → Rep G ms1 H1 d v → postS G W ms H E (k (.rt d, ρ1) L1) → F.rt v H1)
    (hb : ∀ ρ1 L1 ms1 H1 σ1, Ext ms H ms1 H1 → Sees G ms1 L1 H1 → EnvOk G ms1 H1 ρ1 σ1 → postS G W ms H E (k (.bk, ρ1) L1) → F.bk σ1 H1)
    (hc : ∀ ρ1 L1 ms1 H1 σ1, Ext ms H ms1 H1 → Sees G ms1 L1 H1 → EnvOk G ms1 H1 ρ1 σ1 → postS G W ms H E (k (.ct, ρ1) L1) → F.ct σ1 H1)
    (he : ∀ c fs ρ1 L1, k (.ex c fs, ρ1) L1 = .ok (.ex c fs, ρ1) L1) : postS G W ms H F r := by
  cases r with
  | ok p L1 =>
    obtain ⟨fl, ρ1⟩ := p
    have h' : postS G W ms H E (k (fl, ρ1) L1) := h
    cases fl with
    | nx => exact fun ms' H' σ' x s e => hn ρ1 L1 ms' H' σ' x s e h'
    | rt d => exact fun ms' H' v x s e => hr d ρ1 L1 ms' H' v x s e h'
    | bk => exact fun ms' H' σ' x s e => hb ρ1 L1 ms' H' σ' x s e h'
    | ct => exact fun ms' H' σ' x s e => hc ρ1 L1 ms' H' σ' x s e h'
    | ex c fs =>
      rw [he] at h'
      exact h'
  | exc _ _ _ => exact h
  | bad => exact h
end

section
variable {X : Cx} {G : Sta} {W : WX} {R : Rec}
theorem psOf {st : Stmt} {t t' : TS} (h : PS X st t) (hi : ∀ E σ H, t' E σ H → t E σ H) : PS X st t' := ⟨fun pins s σ H E I q => h.run pins s σ H E I (hi E σ H q)⟩
theorem pssOf {st : List Stmt} {t t' : TS} (h : PSs X st t) (hi : ∀ E σ H, t' E σ H → t E σ H) : PSs X st t' := ⟨fun pins s σ H E I q => h.run pins s σ H E I (hi E σ H q)⟩
theorem piOf {tg e : Expr} {t t' : TI} (h : PI X tg e t) (hi : ∀ σ H Q, t' σ H Q → t σ H Q) : PI X tg e t' := ⟨fun pins s σ H Q I q => h.run pins s σ H Q I (hi σ H Q q)⟩
theorem pgOf {e : Expr} {t t' : TG} (h : PG X e t) (hi : ∀ v σ H Q, t' v σ H Q → t v σ H Q) : PG X e t' := ⟨fun pins s σ H v u Q I r q => h.run pins s σ H v u Q I r (hi v σ H Q q)⟩
theorem pgsOf {e : List Expr} {t t' : TGs} (h : PGs X e t) (hi : ∀ v σ H Q, t' v σ H Q → t v σ H Q) : PGs X e t' := ⟨fun pins s σ H v u Q I r q => h.run pins s σ H v u Q I r (hi v σ H Q q)⟩

/-! ### blocks -/
theorem rss_nil : PSs X [] (upS G W R sNext) := pssOf pss_nil fun E σ H ⟨ms, L, ρ, S, e, q⟩ => q ms H σ (Ext.refl _ _) S e
theorem rss_cons {st : Stmt} {rest : List Stmt} {fa fb : FS} (ha : PS X st (upS G W R fa)) (hb : PSs X rest (upS G W R fb)) : PSs X (st :: rest) (upS G W R (sSeq fa fb)) :=
  pssOf (pss_cons ha hb) fun E σ H ⟨ms, L, ρ, S, e, q⟩ => by
    refine ⟨ms, L, ρ, S, e, ?_⟩
    refine postS.bind (k := fun p L1 => match p.1 with
      | .nx => fb R p.2 L1
      | f => .ok (f, p.2) L1) q (fun ρ1 L1 ms1 H1 σ1 x s e1 q1 => ⟨ms1, L1, ρ1, s, e1, postS.ext x q1⟩) (fun d ρ1 L1 ms1 H1 v x s r q1 => q1 ms1 H1 v x s r)
      (fun ρ1 L1 ms1 H1 σ1 x s e1 q1 => q1 ms1 H1 σ1 x s e1) (fun ρ1 L1 ms1 H1 σ1 x s e1 q1 => q1 ms1 H1 σ1 x s e1) (fun c fs ρ1 L1 => rfl)
theorem rss_one {st : Stmt} {fa : FS} (ha : PS X st (upS G W R fa)) : PSs X [st] (upS G W R fa) := pss_one ha

/-! ### small statements -/
theorem rs_pass {pos} : PS X (.Pass pos) (upS G W R sNext) := psOf ps_pass fun E σ H ⟨ms, L, ρ, S, e, q⟩ => q ms H σ (Ext.refl _ _) S e
theorem rs_break {pos} : PS X (.Break pos) (upS G W R sBrk) := psOf ps_break fun E σ H ⟨ms, L, ρ, S, e, q⟩ => q ms H σ (Ext.refl _ _) S e
theorem rs_cont {pos} : PS X (.Continue pos) (upS G W R sCnt) := psOf ps_continue fun E σ H ⟨ms, L, ρ, S, e, q⟩ => q ms H σ (Ext.refl _ _) S e
theorem rs_retN {pos} : PS X (.Return none pos) (upS G W R sRetN) := psOf ps_retN fun E σ H ⟨ms, L, ρ, S, e, q⟩ => q ms H _ (Ext.refl _ _) S .non
theorem rs_ret {a : Expr} {fa : FE} {pos} (ha : PE X a (upE G W R fa)) : PS X (.Return (some a) pos) (upS G W R (sRet fa)) :=
  psOf (ps_ret ha) fun E σ H ⟨ms, L, ρ, S, e, q⟩ => by
    obtain ⟨ms0, L0, ρ0, S0, e0, q0⟩ := stE (f := fa) S e q
    exact ⟨ms0, L0, ρ0, S0, e0, q0.imp (fun v H1 ⟨ms1, L1, d, x, s, r, _, q1⟩ => q1 ms1 H1 v x s r) fun _ _ _ z => z⟩
theorem rs_expr {a : Expr} {fa : FE} {pos : Pos} (ha : PE X a (upE G W R fa)) (hs : swapsWith a none pos.line X.env = pure false) : PS X (.Expr a pos) (upS G W R (sExpr fa)) :=
  psOf (ps_expr ha hs) fun E σ H ⟨ms, L, ρ, S, e, q⟩ => by
    obtain ⟨ms0, L0, ρ0, S0, e0, q0⟩ := stE (f := fa) S e q
    exact ⟨ms0, L0, ρ0, S0, e0, q0.imp (fun v H1 ⟨ms1, L1, d, x, s, r, en, q1⟩ => q1 ms1 H1 σ x s en) fun _ _ _ z => z⟩
theorem rs_if {c : Expr} {a b : List Stmt} {fc : FT} {fa fb : FS} {pos} (hc : PT X c (upT G W R fc)) (ha : PSs X a (upS G W R fa)) (hb : PSs X b (upS G W R fb)) : PS X (.If c a b pos) (upS G W R (sIf fc fa fb)) :=
  psOf (ps_if hc ha hb) fun E σ H ⟨ms, L, ρ, S, e, q⟩ => by
    obtain ⟨ms0, L0, ρ0, S0, e0, q0⟩ := stT (f := fc) S e q
    refine ⟨ms0, L0, ρ0, S0, e0, q0.imp (fun v H1 ⟨ms1, L1, x, s, en, q1⟩ => ?_) fun _ _ _ z => z⟩
    cases v with
    | true => exact iteT ⟨ms1, L1, ρ, s, en, postS.ext x q1⟩
    | false => exact iteF ⟨ms1, L1, ρ, s, en, postS.ext x q1⟩

/-! ### targets -/
section
variable {Pr : L2.St → L2.St → Prop}
theorem rg_name {i : Nat} {e : Expr} (hp : ∀ σ v, Pr σ (σ.set i (some v))) (h : PG X e (gName i)) : PG X e (upGp Pr G W R (gNm i)) := pgOf h fun v σ H Q ⟨ms, L, ρ, d, S, e, r, q⟩ => q ms H _ (Ext.refl _ _) S ⟨e.set r i, hp σ v⟩
theorem rgs_nil (P : PrOk Pr) : PGs X [] (upGs Pr G W R gsNil) := pgsOf pgs_nil fun vs σ H Q ⟨ms, L, ρ, ds, S, e, r, q⟩ => by
  cases r with
  | nil => exact ⟨rfl, q ms H _ (Ext.refl _ _) S ⟨e, P.rfl_ σ⟩⟩
  | cons _ _ => exact q.elim
theorem rgs_cons {e : Expr} {es : List Expr} {g : FG} {gr : FGs} (P : PrOk Pr) (h1 : PG X e (upGp Pr G (fun _ _ _ _ => False) R g)) (h2 : PGs X es (upGs Pr G (fun _ _ _ _ => False) R gr)) (hs : (assignEach (e :: es) X.env).map (·.2) = assign e X.env :: (assignEach es X.env).map (·.2)) : PGs X (e :: es) (upGs Pr G (fun _ _ _ _ => False) R (gsCons g gr)) :=
  pgsOf (pgs_cons h1 h2 hs) fun vs σ H Q ⟨ms, L, ρ, ds, S, e, r, q⟩ => by
    cases r with
    | nil => exact q.elim
    | @cons d l v vs r1 r2 =>
      refine ⟨v, vs, rfl, ms, L, ρ, d, S, e, r1, (post.bind q).imp (fun σ1 H1 ⟨ms1, L1, ρ1, x, s, ⟨en, p1⟩, q1⟩ => ?_) fun _ _ _ z => z⟩
      refine ⟨ms1, L1, ρ1, l, s, en, Reps.ext x S.fine _ _ r2, ?_⟩
      have q2 := post.ext x q1
      cases hz : gr R l ρ1 L1 with
      | ok ρ2 L2 =>
        rw [hz] at q2
        exact fun ms' H' v x' s' ⟨e', p'⟩ => q2 ms' H' v x' s' ⟨e', P.trans _ _ _ p1 p'⟩
      | exc _ _ _ => rw [hz] at q2; exact fun ms' H' c d x' s' k => q2 ms' H' c d x' s' k
      | bad => rw [hz] at q2; exact q2
abbrev W0 : WX := fun _ _ _ _ => False
theorem rg_tup {es : List Expr} {j n : Nat} {gr : FGs} {pos : Pos} (hK : X.K = G.K) (hc : X.calm = true) (h : PGs X es (upGs Pr G W0 R gr)) (hn : (assignEach es X.env).length = n) (hst : (assignEach es X.env).findIdx? (·.1) = none) : PG X (.Tuple es j pos) (upGp Pr G W R (gTp n gr)) :=
  pgOf (pg_tup hc h hn hst) fun v σ H Q ⟨ms, L, ρ, d, S, e, r, q⟩ => by
    unfold gTp at q
    split at q
    · rename_i l
      cases r with
      | @tup a vs l h1 r1 =>
        split at q
        · rename_i hl
          refine ⟨a, vs, rfl, hK ▸ h1, by rw [← r1.length]; exact hl, ms, L, ρ, l, S, e, r1, ?_⟩
          cases hz : gr R l ρ L with
          | ok ρ1 L1 => rw [hz] at q; exact q
          | exc _ _ _ => rw [hz] at q; exact q.elim
          | bad => rw [hz] at q; exact q.elim
        · exact q.elim
    · exact q.elim
end
/-- a store by values -/
theorem set_oSet (hu : X.A.units + 64 < cLine) (hK : X.K = G.K) {pins : List (Addr × Obj)} {s : Shared} {σ : L2.St} {H : Hp} {ms : List Addr} {L : LH} {a b c : D} {x y z : V} {v u t : Value} {Q : Unit → Hp → Prop} {E : XK} (I : Inv X pins σ H s) (S : Sees G ms L H) (ra : Rep G ms H a x) (rb : Rep G ms H b y) (rc : Rep G ms H c z) (rx : RelV x v) (ry : RelV y u) (rz : RelV z t)
    (q : post G ms H (fun _ _ (_ _ : Unit) => True) Q E (oSet a b c L)) : wpAny (model X.prog X.w) X.A (setItem v u t) (fun _ s' => ∃ H', Inv X pins σ H' s' ∧ Q () H') X.xe s := by
  unfold oSet at q
  split at q
  · rename_i n
    split at q
    · rename_i xs en
      split at q
      · rename_i i
        split at q
        · rename_i j ej
          obtain ⟨p, rfl, e1, vs, h1, r1⟩ := S.ref en ra
          cases rb
          refine set_list pins s σ H _ _ z v u t _ I rx ry rz ⟨p, vs, i, j, rfl, rfl, h1, by rw [← r1.length, ← ixOf_eq]; exact ej, ?_⟩
          refine q ms _ () (Ext.put e1) (S.put e1 True.intro ⟨_, upd_same, ?_⟩) trivial
          exact Reps.ext (Ext.put e1) S.fine _ _ (Reps.set rc j r1)
        · exact q.elim
      · exact q.elim
    · rename_i kvs en
      obtain ⟨p, rfl, e1, ks, h1, r1, nd⟩ := S.ref en ra
      split at q
      · rename_i hf
        rw [Bool.and_eq_true] at hf
        obtain ⟨key, hk⟩ := keyFits_leaf hf.1
        cases keyD_rep hk rb
        obtain rfl : v = Value.ref p := rx
        have hl : ks.length < sizeLine := by rw [← r1.length]; exact of_decide_eq_true hf.2
        refine d_setItem (by omega) I (DPut.k h1 hl) ry rz fun s3 I3 => ⟨_, I3, ?_⟩
        refine q ms _ () (Ext.put e1) (S.put e1 True.intro ⟨_, upd_same, ?_, putK_keys nd⟩) trivial
        exact (KvRep.put hk rc r1 nd).kp ((Ext.put e1).kp S.fine)
      · exact q.elim
    · exact q.elim
  · exact q.elim
theorem rg_sub {o i : Expr} {fo fi : FE} {pos : Pos} (hK : X.K = G.K) (hu : X.A.units + 64 < cLine) (ho : PE X o (upE G W R fo)) (hi : PE X i (upE G W R fi))
    (ha : ∀ v, assign (.Subscript o i pos) X.env v = (do
      let ov ← holding [v] (eval o X.env)
      let iv ← holding [v, ov] (eval i X.env)
      standAt pos
      holding [v, ov, iv] (setItem ov iv v)
      release [v, ov, iv] [])) : PG X (.Subscript o i pos) (upG G W R (gSub fo fi)) := by
  refine ⟨fun pins s σ H v u Q I rv ⟨ms, L, ρ, d, S, e, r, q⟩ => ?_⟩
  rw [ha]
  refine wpAny_bind (wpAny_holding (thn (ho.run pins s σ H _ I (midE (f := fo) S e q)) fun ov s1 ⟨x, H1, I1, r1, ms1, L1, d1, rx, m1⟩ => ?_))
  refine wpAny_bind (wpAny_holding (thn (hi.run pins s1 σ H1 _ I1 (midE (f := fi) m1.sees m1.env m1.post)) fun iv s2 ⟨y, H2, I2, r2, ms2, L2, d2, ry, m2⟩ => ?_))
  have q2 := post.bind (R1 := fun _ _ (_ _ : Unit) => True) m2.post
  have rd : Rep G ms2 H2 d v := m2.rep m1.sees.fine (m1.rep S.fine r)
  refine wpAny_bind (wpAny_standAt (wpAny_bind (wpAny_holding (thn (set_oSet (z := v) (t := u) hu hK I2 m2.sees (m2.rep m1.sees.fine rx) ry rd r1 r2 rv q2) fun _ s3 ⟨H3, I3, ms3, L3, un, x3, S3, _, q3⟩ => ?_))))
  exact wpAny_release ⟨σ, H3, I3, q3 ms3 H3 σ x3 S3 ⟨m2.env.ext x3 m2.sees.fine, trivial⟩⟩

/-! ### assignments -/
theorem rs_asg {tg a : Expr} {fa : FE} {g : FG} {pos : Pos} (ha : PE X a (upE G W R fa)) (hg : PG X tg (upG G W R g)) (hs : swapsWithSole [tg] a pos.line X.env = pure false) (hw : swappedStores [tg] a X.env = pure none)
    (h1 : (assignEach [tg] X.env).map (·.2) = [assign tg X.env]) : PS X (.Assign [tg] a pos) (upS G W R (sAsg fa g)) :=
  psOf (ps_asg ha hg hs hw h1) fun E σ H ⟨ms, L, ρ, S, e, q⟩ => by
    obtain ⟨ms0, L0, ρ0, S0, e0, q0⟩ := stE (f := fa) S e q
    refine ⟨ms0, L0, ρ0, S0, e0, q0.imp (fun v H1 ⟨ms1, L1, d, x, s, r, en, q1⟩ => ?_) fun _ _ _ z => z⟩
    refine ⟨ms1, L1, ρ, d, s, en, r, (postS.st (R1 := fun ms H a b => EnvOk G ms H a b ∧ PrT σ b) s en (postS.ext x q1)).imp (fun σ2 H2 ⟨ms2, L2, ρ2, x2, s2, ⟨e2, _⟩, _, q2⟩ => ?_) fun _ _ _ z => z⟩
    exact q2 ms2 H2 σ2 x2 s2 e2
theorem rs_set {i : Nat} {x : Str} {a : Expr} {fa : FE} {pos pos' : Pos} (hN : X.N.Nodup) (hi : X.N[i]? = some x) (hx : Loc X.env.scope x) (ha : PE X a (upE G W R fa)) (hs : swapsWith a (some (.Name x pos')) pos.line X.env = pure false) (hf : X.fn x = true ∨ X.env.scope.names.lookup x = some .local) :
    PS X (.Assign [.Name x pos'] a pos) (upS G W R (sAsg fa (gNm i))) :=
  psOf (ps_set hN hi hx ha hs hf) fun E σ H ⟨ms, L, ρ, S, e, q⟩ => by
    obtain ⟨ms0, L0, ρ0, S0, e0, q0⟩ := stE (f := fa) S e q
    refine ⟨ms0, L0, ρ0, S0, e0, q0.imp (fun v H1 ⟨ms1, L1, d, x, s, r, en, q1⟩ => ?_) fun _ _ _ z => z⟩
    exact q1 ms1 H1 _ x s (en.set r i)
/-- a, b = e1, e2 with two plain names: no tuple is made; the combinator makes it all the same -/
theorem rs_par {i j : Nat} {x y : Str} {a b : Expr} {fa fb : FE} {px py pt pos : Pos} {kt k2 pt2} (hc : X.calm = true) (hN : X.N.Nodup) (hi : X.N[i]? = some x) (hj : X.N[j]? = some y) (hij : i ≠ j)
    (hx : X.env.scope.names.lookup x = some .local) (hy : X.env.scope.names.lookup y = some .local) (ha : PA X [a, b] (upA G W R (aCons fa (aCons fb aNil))))
    (hw : swappedStores [.Tuple [.Name x px, .Name y py] kt pt] (.Tuple [a, b] k2 pt2) X.env = pure (some [x, y]))
    (hs : swapsWithSole [.Tuple [.Name x px, .Name y py] kt pt] (.Tuple [a, b] k2 pt2) pos.line X.env = pure false) :
    PS X (.Assign [.Tuple [.Name x px, .Name y py] kt pt] (.Tuple [a, b] k2 pt2) pos) (upS G W R (sAsg (aApp (aCons fa (aCons fb aNil)) oTup) (gTp 2 (gsCons (gNm i) (gsCons (gNm j) gsNil))))) :=
  psOf (ps_par hc hN hi hj hij hx hy ha hw hs) fun E σ H ⟨ms, L, ρ, S, e, q⟩ => by
    have q' : postS G W ms H E (((aCons fa (aCons fb aNil)) R ρ L).st ρ fun ds L1 => (oTup ds L1).st ρ fun d L1 => (gTp 2 (gsCons (gNm i) (gsCons (gNm j) gsNil)) R d ρ L1).st ρ fun ρ1 L2 => .ok (.nx, ρ1) L2) := by
      have q1 := q
      unfold sAsg aApp at q1
      cases h : (aCons fa (aCons fb aNil)) R ρ L with
      | ok ds L1 => rw [h] at q1; exact q1
      | exc _ _ _ => rw [h] at q1; exact q1
      | bad => rw [h] at q1; exact q1
    refine ⟨ms, L, ρ, S, e, (postS.st (R1 := Reps G) S e q').imp (fun vs H1 ⟨ms1, L1, ds, x, s, r, en, q1⟩ => ?_) fun _ _ _ z => z⟩
    cases r with
    | nil => exact q1.elim
    | cons r1 r =>
      cases r with
      | nil => exact q1.elim
      | cons r2 r =>
        cases r with
        | nil => exact ⟨_, _, rfl, q1 ms1 H1 _ x s ((en.set r1 i).set r2 j)⟩
        | cons r3 r =>
          exfalso
          unfold oTup at q1
          split at q1
          · exact q1
          · exact q1
theorem rs_fldset {o a : Expr} {fo fa : FE} {cs : List Nat} {f : Str} {pos pos' : Pos} (hK : X.K = G.K) (F : FldOk G cs f) (ho : PE X o (upE G W R fo)) (ha : PE X a (upE G W R fa)) (hs : swapsWith a (some (.Attribute o f pos')) pos.line X.env = pure false) :
    PS X (.Assign [.Attribute o f pos'] a pos) (upS G W R (sFldSet cs f fo fa)) :=
  psOf (ps_fld ho ha hs) fun E σ H ⟨ms, L, ρ, S, e, q⟩ => by
    obtain ⟨ms0, L0, ρ0, S0, e0, q0⟩ := stE (f := fa) S e q
    refine ⟨ms0, L0, ρ0, S0, e0, q0.imp (fun v H1 ⟨ms1, L1, d, x, s, r, en, q1⟩ => ?_) fun _ _ _ z => z⟩
    obtain ⟨ms2, L2, ρ2, S2, e2, q2⟩ := stE (f := fo) s en (postS.ext x q1)
    refine ⟨ms2, L2, ρ2, S2, e2, q2.imp (fun w H2 ⟨ms3, L3, d3, x3, s3, r3, en3, q3⟩ => ?_) fun _ _ _ z => z⟩
    have rv := Rep.ext x3 s.fine _ _ r
    unfold oSetF at q3
    split at q3
    · rename_i n
      split at q3
      · rename_i c fs en'
        split at q3
        · rename_i hc
          rw [Bool.and_eq_true] at hc
          obtain ⟨p, rfl, e1, dx, vs, h1, r1⟩ := s3.ref en' r3
          have hm : c ∈ cs := by simpa using hc.1
          have hl : fs.length < 1000 := of_decide_eq_true hc.2
          refine ⟨p, G.CA c, dx, vs, rfl, h1, hK ▸ F.cl c hm, hK ▸ F.no c hm, by rw [← r1.length]; exact hl, ?_⟩
          have xp : Ext ms3 H2 ms3 (upd H2 p (.ins (G.CA c) dx (putF f v vs))) := Ext.put e1
          refine q3 ms3 _ σ (x3.trans xp) (s3.put e1 True.intro ⟨dx, _, upd_same, ?_⟩) (en3.ext xp s3.fine)
          exact Flds.put rv r1 |>.ext xp s3.fine
        · exact q3.elim
      · exact q3.elim
    · exact q3.elim

/-! ### for, while -/
theorem rs_for {tg iter : Expr} {body : List Stmt} {g : FG} {it : FI} {fb : FS} {pos : Pos} (hp : PassesOwn (model X.prog X.w) X.A X.env X.xe) (hc : X.calm = true) (hi : PI X tg iter (upI G W R it)) (hg : PG X tg (upG G W R g)) (hb : PSs X body (upS G W R fb)) (hs : ∀ x, foldedSetIterable iter X.env x = pure x) :
    PS X (.For tg iter body [] pos) (upS G W R (sFor g it fb)) :=
  psOf (ps_for hp hc hi hg hb hs) fun E σ H ⟨ms, L, ρ, S, e, q⟩ => by
    refine ⟨ms, L, ρ, S, e, (postS.st (R1 := ItOk G) S e q).imp (fun J H1 ⟨ms1, L1, j, x1, s1, itok, e1, q1⟩ => ?_) fun _ _ _ z => z⟩
    rw [forRun_dyn] at q1
    let b : D → Slt → LH → Res (Fl × Slt) := fun x ρ1 M => (g R x ρ1 M).st ρ1 fun ρ2 M1 => fb R ρ2 M1
    refine ⟨fun i m σ' H' => ∃ ms' L' ρ', Ext ms1 H1 ms' H' ∧ Sees G ms' L' H' ∧ EnvOk G ms' H' ρ' σ' ∧ postS G W ms' H' E (forDyn b j.nx m i ρ' L'), ⟨j.bnd, ms1, L1, ρ, Ext.refl _ _, s1, e1, postS.ext x1 q1⟩, ?_⟩
    rintro i m σ' H' ⟨ms', L', ρ', x', s', e', q'⟩
    cases m with
    | zero => exact q'.elim
    | succ k =>
      have ok := itok ms' L' H' i x' s'
      unfold forDyn at q'
      cases hn : j.nx L' i with
      | none => rw [hn] at q'; exact q'.elim
      | some o =>
        rw [hn] at q' ok
        cases o with
        | none => exact .inl ⟨ok, q' ms' H' σ' (Ext.refl _ _) s' e'⟩
        | some d =>
          refine .inr ⟨ok.1, fun σ2 H2 => ∃ ms2 L2 ρ2, Ext ms1 H1 ms2 H2 ∧ Sees G ms2 L2 H2 ∧ EnvOk G ms2 H2 ρ2 σ2 ∧ postS G W ms2 H2 E (forDyn b j.nx k (i + 1) ρ2 L2), fun σ2 H2 z => ⟨k, Nat.lt_succ_self _, z⟩, fun v H'' hy => ?_⟩
          obtain ⟨x2, s2, r2⟩ := ok.2 v H'' hy
          have q2 : postS G W ms' H'' E ((b d ρ' L').bind fun p L1 => match p.1 with
            | .nx => forDyn b j.nx k (i + 1) p.2 L1
            | .ct => forDyn b j.nx k (i + 1) p.2 L1
            | .bk => .ok (.nx, p.2) L1
            | f => .ok (f, p.2) L1) := postS.ext x2 q'
          have again : ∀ ρ3 L3 ms3 H3 σ3, Ext ms' H'' ms3 H3 → Sees G ms3 L3 H3 → EnvOk G ms3 H3 ρ3 σ3 → postS G W ms' H'' E (forDyn b j.nx k (i + 1) ρ3 L3) → ∃ ms2 L2 ρ2, Ext ms1 H1 ms2 H3 ∧ Sees G ms2 L2 H3 ∧ EnvOk G ms2 H3 ρ2 σ3 ∧ postS G W ms2 H3 E (forDyn b j.nx k (i + 1) ρ2 L2) :=
            fun ρ3 L3 ms3 H3 σ3 x3 s3 e3 q3 => ⟨ms3, L3, ρ3, (x'.trans x2).trans x3, s3, e3, postS.ext x3 q3⟩
          have q3 := postS.bind (F := { E with nx := fun σ2 H2 => ∃ ms2 L2 ρ2, Ext ms1 H1 ms2 H2 ∧ Sees G ms2 L2 H2 ∧ EnvOk G ms2 H2 ρ2 σ2 ∧ postS G W ms2 H2 E (forDyn b j.nx k (i + 1) ρ2 L2), ct := fun σ2 H2 => ∃ ms2 L2 ρ2, Ext ms1 H1 ms2 H2 ∧ Sees G ms2 L2 H2 ∧ EnvOk G ms2 H2 ρ2 σ2 ∧ postS G W ms2 H2 E (forDyn b j.nx k (i + 1) ρ2 L2), bk := E.nx }) q2
            (fun ρ3 L3 ms3 H3 σ3 x3 s3 e3 q3 => again ρ3 L3 ms3 H3 σ3 x3 s3 e3 q3) (fun d3 ρ3 L3 ms3 H3 v3 x3 s3 r3 q3 => q3 ms3 H3 v3 x3 s3 r3) (fun ρ3 L3 ms3 H3 σ3 x3 s3 e3 q3 => q3 ms3 H3 σ3 x3 s3 e3)
            (fun ρ3 L3 ms3 H3 σ3 x3 s3 e3 q3 => again ρ3 L3 ms3 H3 σ3 x3 s3 e3 q3) (fun c fs ρ3 L3 => rfl)
          refine ⟨ms', L', ρ', d, s2, e'.ext x2 s'.fine, r2, (postS.st (R1 := fun ms H a b => EnvOk G ms H a b ∧ PrT σ' b) s2 (e'.ext x2 s'.fine) q3).imp (fun σ3 H3 ⟨ms3, L3, ρ3, x3, s3, ⟨e3, _⟩, _, q4⟩ => ?_) fun _ _ _ z => z⟩
          exact ⟨ms3, L3, ρ3, s3, e3, postS.ext x3 q4⟩
theorem rs_while {c : Expr} {body : List Stmt} {fc : FT} {fb : FS} {pos : Pos} (hp : PassesOwn (model X.prog X.w) X.A X.env X.xe) (hc : PT X c (upT G W R fc)) (hb : PSs X body (upS G W R fb)) : PS X (.While c body [] pos) (upS G W R (sWhile fc fb)) :=
  psOf (ps_while hp hc hb) fun E σ H ⟨ms, L, ρ, S, e, q⟩ => by
    refine ⟨fun m σ' H' => ∃ ms' L' ρ', Sees G ms' L' H' ∧ EnvOk G ms' H' ρ' σ' ∧ postS G W ms' H' E (whileN (fc R) (fb R) m ρ' L'), ⟨fuel, ms, L, ρ, S, e, q⟩, ?_⟩
    rintro m σ' H' ⟨ms', L', ρ', s', e', q'⟩
    cases m with
    | zero => exact q'.elim
    | succ k =>
      unfold whileN at q'
      obtain ⟨ms0, L0, ρ0, S0, e0, q0⟩ := stT (f := fc) s' e' q'
      refine ⟨ms0, L0, ρ0, S0, e0, q0.imp (fun v H1 ⟨ms1, L1, x1, s1, en1, q1⟩ => ?_) fun _ _ _ z => z⟩
      cases v with
      | false => exact iteF (q1 ms1 H1 σ' x1 s1 en1)
      | true =>
        refine iteT ⟨fun σ2 H2 => ∃ ms2 L2 ρ2, Sees G ms2 L2 H2 ∧ EnvOk G ms2 H2 ρ2 σ2 ∧ postS G W ms2 H2 E (whileN (fc R) (fb R) k ρ2 L2), fun σ2 H2 z => ⟨k, Nat.lt_succ_self _, z⟩, ?_⟩
        have q2 : postS G W ms1 H1 E ((fb R ρ' L1).bind fun p L2 => match p.1 with
          | .nx => whileN (fc R) (fb R) k p.2 L2
          | .ct => whileN (fc R) (fb R) k p.2 L2
          | .bk => .ok (.nx, p.2) L2
          | f => .ok (f, p.2) L2) := postS.ext x1 q1
        refine ⟨ms1, L1, ρ', s1, en1, postS.bind q2 (fun ρ3 L3 ms3 H3 σ3 x3 s3 e3 q3 => ⟨ms3, L3, ρ3, s3, e3, postS.ext x3 q3⟩) (fun d3 ρ3 L3 ms3 H3 v3 x3 s3 r3 q3 => q3 ms3 H3 v3 x3 s3 r3) (fun ρ3 L3 ms3 H3 σ3 x3 s3 e3 q3 => q3 ms3 H3 σ3 x3 s3 e3)
            (fun ρ3 L3 ms3 H3 σ3 x3 s3 e3 q3 => ⟨ms3, L3, ρ3, s3, e3, postS.ext x3 q3⟩) (fun c fs ρ3 L3 => rfl)⟩
end
end PD
/-! P6: comprehensions; a def's body and its promise. -/
namespace PD
open PySem PySem.Spec PyProof.Rows L2

theorem EnvOk.setN {G : Sta} {ms : List Addr} {H : Hp} {ρ : Slt} {σ : L2.St} (e : EnvOk G ms H ρ σ) (i : Nat) : EnvOk G ms H (ρ.set i none) (σ.set i none) := by
  refine ⟨by rw [List.length_set, List.length_set, e.len], fun j d h => ?_⟩
  by_cases hj : j = i
  · subst hj
    by_cases hl : j < ρ.length
    · rw [List.getElem?_set_self hl] at h; cases h
    · rw [List.getElem?_eq_none (by rw [List.length_set]; omega)] at h; cases h
  · rw [List.getElem?_set_ne (Ne.symm hj)] at h
    obtain ⟨w, q, r⟩ := e.at_ j d h
    exact ⟨w, by rw [List.getElem?_set_ne (Ne.symm hj)]; exact q, r⟩
theorem EnvOk.wipe {G : Sta} {ms : List Addr} {H : Hp} {ρ : Slt} {σ : L2.St} (e : EnvOk G ms H ρ σ) : ∀ vs : List Nat, EnvOk G ms H (wipeE ρ vs) (L2.wipe σ vs)
  | [] => e
  | i :: r => (e.wipe r).setN i
theorem wipe_at (σ : L2.St) (j : Nat) : ∀ vs : List Nat, (L2.wipe σ vs)[j]? = if j ∈ vs ∧ j < σ.length then some none else σ[j]?
  | [] => by simp [L2.wipe]
  | i :: r => by
    have ih := wipe_at σ j r
    have hl := L2.wipe_length σ r
    unfold L2.wipe
    by_cases hj : j = i
    · subst hj
      by_cases h : j < σ.length
      · rw [List.getElem?_set_self (by rw [hl]; exact h), if_pos ⟨List.mem_cons_self, h⟩]
      · rw [List.getElem?_eq_none (by rw [List.length_set, hl]; omega), if_neg (fun q => h q.2), List.getElem?_eq_none (by omega)]
    · rw [List.getElem?_set_ne (Ne.symm hj), ih]
      have e : (j ∈ i :: r) ↔ j ∈ r := by simp [hj]
      by_cases h : j ∈ r ∧ j < σ.length
      · rw [if_pos h, if_pos ⟨e.mpr h.1, h.2⟩]
      · rw [if_neg h, if_neg (fun q => h ⟨e.mp q.1, q.2⟩)]
theorem wipe_set {σ : L2.St} {i : Nat} {x : Option V} {vs : List Nat} (h : i ∈ vs) : L2.wipe (σ.set i x) vs = L2.wipe σ vs := by
  apply List.ext_getElem?
  intro j
  rw [wipe_at, wipe_at, List.length_set]
  by_cases hc : j ∈ vs ∧ j < σ.length
  · rw [if_pos hc, if_pos hc]
  · rw [if_neg hc, if_neg hc]
    by_cases hj : j = i
    · subst hj
      have : ¬ j < σ.length := fun q => hc ⟨h, q⟩
      rw [List.getElem?_eq_none (by rw [List.length_set]; omega), List.getElem?_eq_none (by omega)]
    · rw [List.getElem?_set_ne (Ne.symm hj)]
theorem wipe_idem (σ : L2.St) (vs : List Nat) : L2.wipe (L2.wipe σ vs) vs = L2.wipe σ vs := by
  apply List.ext_getElem?
  intro j
  rw [wipe_at (L2.wipe σ vs), L2.wipe_length]
  by_cases hc : j ∈ vs ∧ j < σ.length
  · rw [if_pos hc, wipe_at, if_pos hc]
  · rw [if_neg hc]
abbrev PrW (vs : List Nat) : L2.St → L2.St → Prop := fun a b => L2.wipe b vs = L2.wipe a vs
theorem prW (vs : List Nat) : PrOk (PrW vs) := ⟨fun _ => rfl, fun _ _ _ h q => q.trans h⟩

section
variable {X : Cx} {G : Sta} {W : WX} {R : Rec}
theorem ptsOf {es : List Expr} {t t' : TT} (h : PTs X es t) (hi : ∀ σ H Q, t' σ H Q → t σ H Q) : PTs X es t' := ⟨fun pins s σ H Q I q => h.run pins s σ H Q I (hi σ H Q q)⟩
theorem rts_nil : PTs X [] (upT G W R tYesT) := ptsOf pts_nil fun σ H Q ⟨ms, L, ρ, S, e, q⟩ => q ms H true (Ext.refl _ _) S rfl
theorem rts_one {c : Expr} {t : FT} (h : PT X c (upT G W R t)) : PTs X [c] (upT G W R t) := pts_one h
theorem bind_ok {α β : Type} {r : Res α} {k : α → LH → Res β} {b : β} {M : LH} (h : r.bind k = .ok b M) : ∃ a L1, r = .ok a L1 ∧ k a L1 = .ok b M := by
  cases r with
  | ok a L1 => exact ⟨a, L1, rfl, h⟩
  | exc _ _ _ => cases h
  | bad => cases h
theorem noExc_ok {α : Type} {r : Res α} {b : α} {M : LH} (h : noExc r = .ok b M) : r = .ok b M := by
  cases r with
  | ok a L1 => exact h
  | exc _ _ _ => cases h
  | bad => cases h
theorem noExc_cases {α : Type} (r : Res α) : (∃ a L, r = .ok a L ∧ noExc r = .ok a L) ∨ noExc r = .bad := by
  cases r with
  | ok a L1 => exact .inl ⟨a, L1, rfl, rfl⟩
  | exc _ _ _ => exact .inr rfl
  | bad => exact .inr rfl
/-- the turns of a comprehension -/
theorem lc_read {wi : TI} {g : FG} {t : FT} {fe : FE} {it : FI} {vs : List Nat} {σ : L2.St} {H : Hp} {Q : VK} {ms : List Addr} {L : LH} {ρ : Slt} (S : Sees G ms L H) (e : EnvOk G ms H ρ σ) (q : post G ms H (Rep G) Q (WE W σ) (eLc vs it (cTurn g t fe) R ρ L)) :
    tLc (upI G W R it) (upGp (PrW vs) G W0 R g) (upT G W0 R t) (upE G W0 R fe) vs σ H Q := by
  refine ⟨ms, L, ρ, S, e, (post.bind (R1 := ItOk G) q).imp (fun J H1 ⟨ms1, L1, j, x1, s1, itok, q1⟩ => ?_) fun _ _ _ z => z⟩
  intro dd hD
  rw [lcRun_dyn] at q1
  let b : D → LH → Res (Option D) := fun x M => cTurn g t fe R x (wipeE ρ vs) M
  let fin : List D → LH → Res D := fun ys L2 => .ok (.ref L2.len) (L2.push (.lst ys))
  have nD : dd ∉ ms1 := fun h => by
    obtain ⟨u, z, _⟩ := s1.fine.muts dd h
    rw [hD] at z; cases z
  let Wd : Nat → Nat → Hp → Prop := fun i m H' => ∃ ms' L' acc ws, Ext ms1 H1 ms' H' ∧ Sees G ms' L' H' ∧ H' dd = some (.lst ws) ∧ dd ∉ ms' ∧ Reps G ms' H' acc ws ∧ post G ms H (Rep G) Q (WE W σ) ((lcDyn b j.nx m i acc L').bind fin)
  refine ⟨Wd, ⟨j.bnd, ms1, L1, [], [], Ext.fresh hD, s1.fresh hD, upd_same, nD, .nil, q1⟩, ?_⟩
  rintro i m H' ⟨ms', L', acc, ws, x', s', hD', nD', rs', q'⟩
  cases m with
  | zero => exact q'.elim
  | succ k =>
    have ok := itok ms' L' H' i x' s'
    unfold lcDyn at q'
    cases hn : j.nx L' i with
    | none => rw [hn] at q'; exact q'.elim
    | some o =>
      rw [hn] at q' ok
      cases o with
      | none =>
        refine .inl ⟨ok, ?_⟩
        have q2 : post G ms H (Rep G) Q (WE W σ) (.ok (.ref L'.len) (L'.push (.lst acc))) := q'
        have xf : Ext ms H (ms' ++ [dd]) H' := by
          have y := x1.trans x'
          refine ⟨fun n a h => ?_, fun a h => ?_, y.keep⟩
          · have h2 := y.pre n a h
            rw [get_app, if_neg (by have := (List.getElem?_eq_some_iff.mp h2).1; omega)]; exact h2
          · rcases List.mem_append.mp h with h | h
            · exact y.new a h
            · rw [List.mem_singleton.mp h]
              by_cases hm : dd ∈ ms
              · exact .inl hm
              · refine .inr ?_
                cases z : H dd with
                | none => rfl
                | some u => rw [x1.keep dd u z hm] at hD; cases hD
        have kp : Kp G.K ms' H' (ms' ++ [dd]) H' := ⟨fun n a h => by rw [get_app, if_neg (by have := (List.getElem?_eq_some_iff.mp h).1; omega)]; exact h, fun _ _ h => h, fun _ _ h => h⟩
        refine q2 (ms' ++ [dd]) H' (.ref dd) xf ?_ (.ref (by rw [get_app, if_pos s'.len.symm]))
        refine ⟨by rw [List.length_append, s'.len]; rfl, List.nodup_append.mpr ⟨s'.nd, by simp, fun a h c hc => by rw [List.mem_singleton.mp hc]; exact fun z => nD' (z ▸ h)⟩, ⟨fun a h => ?_⟩, fun n a c h z => ?_⟩
        · rcases List.mem_append.mp h with h | h
          · exact s'.fine.muts a h
          · rw [List.mem_singleton.mp h]; exact ⟨_, hD', True.intro⟩
        · rw [LH.get_push, ← s'.len] at h
          rw [get_app] at z
          by_cases hn : n = ms'.length
          · rw [if_pos hn] at h z
            cases h; cases z
            exact ⟨ws, hD', Reps.kp kp _ _ rs'⟩
          · rw [if_neg hn] at h z
            exact (s'.cell n a c h z).kp kp fun _ h => h
      | some d =>
        refine .inr ⟨ok.1, fun H2 => Wd (i + 1) k H2, fun H2 z => ⟨k, Nat.lt_succ_self _, z⟩, fun v H'' hy => ?_⟩
        obtain ⟨x2, s2, r2⟩ := ok.2 v H'' hy
        have hD2 := x2.keep dd _ hD' nD'
        have nD2 : dd ∉ ms' := nD'
        have ew : EnvOk G ms' H'' (wipeE ρ vs) (L2.wipe σ vs) := (e.ext ((x1.trans x').trans x2) S.fine).wipe vs
        have rs2 := Reps.ext x2 s'.fine _ _ rs'
        have q2 : post G ms H (Rep G) Q (WE W σ) (((b d L').bind fun o L1 => match o with
          | none => lcDyn b j.nx k (i + 1) acc L1
          | some y => if acc.length < sizeLine then lcDyn b j.nx k (i + 1) (acc ++ [y]) L1 else .bad).bind fin) := q'
        rcases noExc_cases ((g R d (wipeE ρ vs) L').bind fun ρ1 L1 => (t R ρ1 L1).bind fun c L2 => if c then (fe R ρ1 L2).bind fun y L3 => .ok (some y) L3 else .ok none L2) with ⟨o, M, ho, hb⟩ | hb
        · have hb' : b d L' = .ok o M := hb
          rw [hb'] at q2
          obtain ⟨ρ1, M1, hg1, ho⟩ := bind_ok ho
          obtain ⟨c, M2, ht1, ho⟩ := bind_ok ho
          refine ⟨ms', L', wipeE ρ vs, d, s2, ew, r2, ?_⟩
          rw [hg1]
          rintro ms2 H2 σ2 y2 z2 ⟨e2, p2⟩
          have p2' : L2.wipe σ2 vs = L2.wipe σ vs := p2.trans (wipe_idem σ vs)
          refine ⟨p2', ms2, M1, ρ1, z2, e2, ?_⟩
          rw [ht1]
          intro ms3 H3 c' y3 z3 hc'
          cases (show c = c' from hc')
          have nD3 : dd ∉ ms3 := fun h => by
            rcases y3.new dd h with h | h
            · rcases y2.new dd h with h | h
              · exact nD2 h
              · rw [hD2] at h; cases h
            · have hD3 := y2.keep dd _ hD2 nD2
              rw [hD3] at h; cases h
          have nDm2 : dd ∉ ms2 := fun h => by
            rcases y2.new dd h with h | h
            · exact nD2 h
            · rw [hD2] at h; cases h
          have hD3 : H3 dd = some (.lst ws) := y3.keep dd _ (y2.keep dd _ hD2 nD2) nDm2
          have ex3 : Ext ms1 H1 ms3 H3 := ((x'.trans x2).trans y2).trans y3
          have rs3 := Reps.ext y3 z2.fine _ _ (Reps.ext y2 s2.fine _ _ rs2)
          cases c with
          | false =>
            cases ho
            exact iteF ⟨ms3, _, acc, ws, ex3, z3, hD3, nD3, rs3, q2⟩
          | true =>
            obtain ⟨y, M3, he1, ho⟩ := bind_ok ho
            cases ho
            refine iteT ⟨ms3, M2, ρ1, z3, e2.ext y3 z2.fine, ?_⟩
            rw [he1]
            intro ms4 H4 yv y4 z4 r4
            have nD4 : dd ∉ ms4 := fun h => by
              rcases y4.new dd h with h | h
              · exact nD3 h
              · rw [hD3] at h; cases h
            have hD4 : H4 dd = some (.lst ws) := y4.keep dd _ hD3 nD3
            have q3 : post G ms H (Rep G) Q (WE W σ) ((if acc.length < sizeLine then lcDyn b j.nx k (i + 1) (acc ++ [y]) M else .bad).bind fin) := q2
            have rs4 := Reps.ext y4 z3.fine _ _ rs3
            by_cases hl : acc.length < sizeLine
            · rw [if_pos hl] at q3
              refine ⟨ws, hD4, by rw [← rs3.length]; exact hl, ms4, _, acc ++ [y], ws ++ [yv], ?_, z4.off hD4 True.intro nD4, upd_same, nD4, ?_, q3⟩
              · have ex4 := ex3.trans y4
                exact ⟨ex4.pre, ex4.new, fun a o' h na => by rw [upd_ne (ne_of_none h hD)]; exact ex4.keep a o' h na⟩
              · exact (Reps.kp (Kp.off hD4 True.intro) _ _ rs4).append (.cons (Rep.kp (Kp.off hD4 True.intro) _ _ r4) .nil)
            · rw [if_neg hl] at q3; exact q3.elim
        · have hb' : b d L' = .bad := hb
          rw [hb'] at q2
          exact q2.elim
theorem re_lc {elt tg iter : Expr} {ifs : List Expr} {scope : Scope} {own : List (Str × Nat)} {pos : Pos} {g : FG} {t : FT} {fe : FE} {it : FI} (hc : X.calm = true) (hN : X.N.Nodup) (hi : PI X tg iter (upI G W R it)) (ok : BlkOk X.N X.env.scope scope own)
    (hg : ∀ (s : Shared) (H : Hp) (C : Addr) (cl : List (Str × Addr)) (fp : List Addr), PG (X.blk s H scope (compEnvC scope cl C X.env) fp) tg (upGp (PrW (own.map (·.2))) G W0 R g))
    (ht : ∀ (s : Shared) (H : Hp) (C : Addr) (cl : List (Str × Addr)) (fp : List Addr), PTs (X.blk s H scope (compEnvC scope cl C X.env) fp) ifs (upT G W0 R t))
    (he : ∀ (s : Shared) (H : Hp) (C : Addr) (cl : List (Str × Addr)) (fp : List Addr), PE (X.blk s H scope (compEnvC scope cl C X.env) fp) elt (upE G W0 R fe)) (hs : ∀ x, foldedSetIterable iter X.env x = pure x) :
    PE X (.ListComp elt [⟨tg, iter, ifs, 0⟩] scope pos) (upE G W R (eLc (own.map (·.2)) it (cTurn g t fe))) :=
  peOf (pe_lc hc hN hi ok hg ht he hs) fun σ H Q ⟨ms, L, ρ, S, e, q⟩ => lc_read (wi := upI G W R it) S e q
theorem rs_setLc {i : Nat} {y : Str} {py : Pos} {elt tg iter : Expr} {ifs : List Expr} {scope : Scope} {own : List (Str × Nat)} {pos spos : Pos} {g : FG} {t : FT} {fe : FE} {it : FI} (hc : X.calm = true) (hN : X.N.Nodup) (hy : X.N[i]? = some y) (hyl : X.env.scope.names.lookup y = some .local)
    (hsw : swapsWith (.ListComp elt [⟨tg, iter, ifs, 0⟩] scope pos) (some (.Name y py)) spos.line X.env = pure true) (hi : PI X tg iter (upI G W R it)) (ok : BlkOk X.N X.env.scope scope own)
    (hg : ∀ (s : Shared) (H : Hp) (C : Addr) (cl : List (Str × Addr)) (fp : List Addr), PG (X.blk s H scope (compEnvC scope cl C X.env) fp) tg (upGp (PrW (own.map (·.2))) G W0 R g))
    (ht : ∀ (s : Shared) (H : Hp) (C : Addr) (cl : List (Str × Addr)) (fp : List Addr), PTs (X.blk s H scope (compEnvC scope cl C X.env) fp) ifs (upT G W0 R t))
    (he : ∀ (s : Shared) (H : Hp) (C : Addr) (cl : List (Str × Addr)) (fp : List Addr), PE (X.blk s H scope (compEnvC scope cl C X.env) fp) elt (upE G W0 R fe)) (hs : ∀ x, foldedSetIterable iter X.env x = pure x) :
    PS X (.Assign [.Name y py] (.ListComp elt [⟨tg, iter, ifs, 0⟩] scope pos) spos) (upS G W R (sAsg (eLc (own.map (·.2)) it (cTurn g t fe)) (gNm i))) :=
  psOf (ps_setLc hc hN hy hyl hsw hi ok hg ht he hs) fun E σ H ⟨ms, L, ρ, S, e, q⟩ => by
    obtain ⟨ms0, L0, ρ0, S0, e0, q0⟩ := stE (f := eLc (own.map (·.2)) it (cTurn g t fe)) S e q
    refine lc_read (wi := upI G W R it) S0 e0 (q0.imp (fun v H1 ⟨ms1, L1, d, x, s, r, en, q1⟩ => ?_) fun _ _ _ z => z)
    exact q1 ms1 H1 _ x s (en.set r i)
end
end PD
/-! P7: contexts that fit a program; a def's promise from its body. -/
namespace PD
open PySem PySem.Spec PyProof.Rows L2

def isLoc (sc : Scope) (x : Str) : Bool := match sc.names.lookup x with
  | some .local => true
  | _ => false
def isCell (sc : Scope) (x : Str) : Bool := match sc.names.lookup x with
  | some .cell => true
  | _ => false
def isFree (sc : Scope) (x : Str) : Bool := match sc.names.lookup x with
  | some .free => true
  | _ => false
def isGlo (sc : Scope) (x : Str) : Bool := match sc.names.lookup x with
  | some .globalImplicit => true
  | _ => false
theorem isLoc_ok {sc : Scope} {x : Str} (h : isLoc sc x = true) : sc.names.lookup x = some .local := by
  unfold isLoc at h; split at h
  · assumption
  · cases h
theorem isCell_ok {sc : Scope} {x : Str} (h : isCell sc x = true) : sc.names.lookup x = some .cell := by
  unfold isCell at h; split at h
  · assumption
  · cases h
theorem isFree_ok {sc : Scope} {x : Str} (h : isFree sc x = true) : sc.names.lookup x = some .free := by
  unfold isFree at h; split at h
  · assumption
  · cases h
theorem isGlo_ok {sc : Scope} {x : Str} (h : isGlo sc x = true) : sc.names.lookup x = some .globalImplicit := by
  unfold isGlo at h; split at h
  · assumption
  · cases h
/-- a place in a def: slots, whether within a comprehension's block, whether no handler stands around, the scope -/
structure Ctx where
  N : List Str
  bk : Bool
  cm : Bool
  sc : Scope
/-- whether the name may be stored here (bk: within a comprehension's block) -/
def canAsg (bk : Bool) (sc : Scope) (x : Str) : Bool := isLoc sc x || (!bk && isCell sc x)

/-- a place in the program: room for k calls; W: what is wanted of what is raised -/
structure Fit (X : Cx) (G : Sta) (W : WX) (k : Nat) (x : Ctx) : Prop where
  eP : X.prog = G.P
  ew : X.w = G.w
  eK : X.K = G.K
  emg : X.mg = G.mg
  ebase : X.base = G.base
  room : x.cm = true → Room k X.A
  un : X.A.units + 200 < cLine
  grd : x.cm = true → X.A.guards = some []
  calm : x.cm = true → X.calm = true
  nd : x.N.Nodup
  eN : X.N = x.N
  esc : X.env.scope = x.sc
  fnc : x.bk = false → ∀ x, X.fn x = true
  tk : Takes X W
/-- where statements stand -/
structure FitS (X : Cx) (G : Sta) (W : WX) (k : Nat) (x : Ctx) : Prop extends Fit X G W k x where
  nbk : x.bk = false
  own : PassesOwn (model X.prog X.w) X.A X.env X.xe
  stk : X.stack = X.env :: X.outer
  frm : X.env.frame = some X.env.locals
  kind : x.sc.kind = .function

theorem Fit.blk {X : Cx} {G : Sta} {W : WX} {k : Nat} {x : Ctx} (F : Fit X G W k x) (s : Shared) (H : Hp) (scope : Scope) (C : Addr) (cl : List (Str × Addr)) (fp : List Addr) : Fit (X.blk s H scope (compEnvC scope cl C X.env) fp) G W0 k ⟨x.N, true, x.cm, relS scope x.sc⟩ where
  eP := F.eP
  ew := F.ew
  eK := F.eK
  emg := F.emg
  ebase := F.ebase
  room := F.room
  un := F.un
  grd := F.grd
  calm := F.calm
  nd := F.nd
  eN := F.eN
  esc := by
    show relS scope X.env.scope = relS scope x.sc
    rw [F.esc]
  fnc := fun h => by cases h
  tk := takes0
section
variable {X : Cx} {G : Sta} {W : WX} {k : Nat} {c : Ctx}
theorem Fit.hN (F : Fit X G W k c) : X.N.Nodup := by rw [F.eN]; exact F.nd
theorem Fit.loc (F : Fit X G W k c) {x : Str} (h : canAsg c.bk c.sc x = true) : Loc X.env.scope x ∧ (X.fn x = true ∨ X.env.scope.names.lookup x = some .local) := by
  rw [F.esc]
  unfold canAsg at h
  rw [Bool.or_eq_true] at h
  rcases h with h | h
  · exact ⟨.inl (isLoc_ok h), .inr (isLoc_ok h)⟩
  · rw [Bool.and_eq_true] at h
    have hb : c.bk = false := by simpa using h.1
    exact ⟨.inr (isCell_ok h.2), .inl (F.fnc hb x)⟩
theorem Fit.gl (F : Fit X G W k c) {x : Str} (h : isGlo c.sc x = true) : Gl X x := by
  show X.env.scope.names.lookup x = _
  rw [F.esc]
  exact isGlo_ok h
theorem Fit.vis (F : Fit X G W k c) {x : Str} (h : (isLoc c.sc x || isCell c.sc x || isFree c.sc x) = true) : Vis X.env.scope x := by
  rw [F.esc]
  rw [Bool.or_eq_true, Bool.or_eq_true] at h
  rcases h with (h | h) | h
  · exact .inl (isLoc_ok h)
  · exact .inr (.inl (isCell_ok h))
  · exact .inr (.inr (isFree_ok h))
theorem Fit.u64 (F : Fit X G W k c) : X.A.units + 64 < cLine := by have := F.un; omega
/-- a callee, carried to the place -/
theorem Fit.callee (F : Fit X G W k c) {j : Nat} {f : Addr} {ps : List Str} {r : List D → LH → Res D} (C : CalleeP G.P G.w G.K G.mg G.base G j f ps r) : Callee X G j f ps r := by
  unfold Callee
  rw [F.eP, F.ew, F.eK, F.emg, F.ebase]
  exact C
end

/-- a def keeps what its combinator says, if its body does wherever it stands -/
theorem FnG.body {G : Sta} {x qual : Str} {params : Arguments} {body : List Stmt} {scope : Scope} {dvs : List V} {kws : List (Str × V)} {f : Addr} {fd : FuncData} {N ps : List Str} {k : Nat} {R : Rec} {fn : Fn}
    (F : FunD G.K x qual params body scope dvs kws f fd) (S : FnScope N ps scope) (hs : fn.slots = N.length) (hp : fn.pars = ps.length)
    (hb : ∀ (X : Cx) (W : WX), FitS X G W k ⟨N, false, true, scope⟩ → PSs X body (upS G W R fn.body)) :
    FnG G.P G.w G.K G.mg G.base (k + 1) f fd ps (spOf G ps.length (fn.run R)) := by
  refine FnG.of F S (fun vs H Q E h => h.1) fun cdv A outer s H vs Q E hr hg h => ?_
  obtain ⟨hl, ms, L, ds, Se, rs, q⟩ := h
  refine ⟨_, hb _ (fun c d _ H => E c d H) ⟨⟨rfl, rfl, rfl, rfl, rfl, fun _ => hr, Nat.lt_of_le_of_lt (Nat.add_le_add_right (Nat.le_add_right _ (16 * k)) 200) hr.un, fun _ => hg, fun _ => rfl, S.nd, rfl, rfl, fun _ _ => rfl, takes_of rfl rfl rfl rfl⟩, rfl, passes_of rfl, rfl, rfl, S.kind⟩, ?_⟩
  have hd : ds.length = ps.length := by rw [rs.length]; exact hl
  have hpl : ps.length ≤ N.length := by
    have := congrArg List.length S.pre
    rw [List.length_take] at this
    omega
  unfold Fn.run at q
  rw [if_pos (by rw [hp]; exact hd)] at q
  refine ⟨ms, L, ds.map some ++ List.replicate (fn.slots - fn.pars) none, Se, ?_, ?_⟩
  · refine ⟨?_, fun i d h => ?_⟩
    · unfold L2.start
      rw [List.length_append, List.length_append, List.length_map, List.length_map, List.length_replicate, List.length_replicate, rs.length]
      omega
    · by_cases hi : i < ds.length
      · rw [List.getElem?_append_left (by rw [List.length_map]; exact hi), List.getElem?_map] at h
        cases e : ds[i]? with
        | none => rw [e] at h; cases h
        | some d' =>
          rw [e] at h
          cases h
          obtain ⟨v, e2, r⟩ := rs.get e
          refine ⟨v, ?_, r⟩
          unfold L2.start
          rw [List.getElem?_append_left (by rw [List.length_map, ← rs.length]; exact hi), List.getElem?_map, e2]
          rfl
      · rw [List.getElem?_append_right (by rw [List.length_map]; omega), List.getElem?_replicate] at h
        split at h <;> cases h
  · cases hz : fn.body R (ds.map some ++ List.replicate (fn.slots - fn.pars) none) L with
    | ok p L1 =>
      rw [hz] at q
      obtain ⟨fl, ρ1⟩ := p
      cases fl with
      | nx => exact fun ms' H' σ' x s e => q ms' H' _ x s .non
      | rt d => exact q
      | bk => exact q.elim
      | ct => exact q.elim
      | ex c fs => exact fun ms' H' σ' cls dx x s e ex => q ms' H' cls dx x s ex
    | exc _ _ _ => rw [hz] at q; exact q.elim
    | bad => rw [hz] at q; exact q.elim
end PD
/-! P8: built-ins by values; sorting; list methods. -/
namespace PD
open PySem PySem.Spec PyProof.Rows L2

/-! ### stable insertion sort -/
def insBy {α : Type} (le : α → α → Bool) (a : α) : List α → List α
  | [] => [a]
  | b :: r => if le a b then a :: b :: r else b :: insBy le a r
def isort {α : Type} (le : α → α → Bool) : List α → List α
  | [] => []
  | a :: r => insBy le a (isort le r)
theorem insBy_split {α : Type} {le : α → α → Bool} {a : α} : ∀ {l1 l2 : List α}, (∀ b ∈ l1, le a b = false) → (∀ b ∈ l2, le a b = true) → insBy le a (l1 ++ l2) = l1 ++ a :: l2
  | [], [], _, _ => rfl
  | [], b :: r, _, h => by
    show (if le a b then a :: b :: r else b :: insBy le a r) = _
    rw [h b List.mem_cons_self]; rfl
  | b :: l1, l2, h, h2 => by
    show (if le a b then a :: b :: (l1 ++ l2) else b :: insBy le a (l1 ++ l2)) = _
    rw [h b List.mem_cons_self, insBy_split (fun x hx => h x (List.mem_cons_of_mem _ hx)) h2]; rfl
theorem mergeSort_isort {α : Type} {le : α → α → Bool} (tr : ∀ a b c : α, le a b = true → le b c = true → le a c = true) (to : ∀ a b : α, (le a b || le b a) = true) : ∀ l : List α, l.mergeSort le = isort le l
  | [] => by simp [isort]
  | a :: l => by
    obtain ⟨l1, l2, h1, h2, h3⟩ := List.mergeSort_cons (le := le) tr to a l
    have ih := mergeSort_isort tr to l
    show _ = insBy le a (isort le l)
    rw [h1, ← ih, h2]
    refine (insBy_split (fun b hb => ?_) fun b hb => ?_).symm
    · have := h3 b hb
      simpa using this
    · have s := List.pairwise_mergeSort (le := le) tr to (a :: l)
      rw [h1] at s
      have s2 := (List.pairwise_append.mp s).2.1
      exact (List.pairwise_cons.mp s2).1 b hb
theorem dataLe_isort {β : Type} (k : β → PyData) (l : List β) : l.mergeSort (PySem.W.dataLe false k) = isort (PySem.W.dataLe false k) l :=
  have t := PySem.W.sortLe_total (PyProof.Rows.listOrd PyProof.Rows.itemOrd) false fun b => PySem.W.keyToks (k b)
  mergeSort_isort t.trans (fun a b => by rw [Bool.or_eq_true]; exact t.total a b) l

def zipO {α β : Type} : List α → List β → List (α × β)
  | a :: x, b :: y => (a, b) :: zipO x y
  | _, _ => []
def likes (ps : List PyData) : Bool := ps.all fun p => ps.all fun q => PySem.W.alike p q
def sortables (ps : List PyData) : Bool := (ps.all fun p => match p with
  | .tuple (_ :: _) => true
  | _ => false) || ps.all fun p => match p with
  | .none => false
  | .tuple _ => false
  | _ => true
def bSorted (as : List D) (L : LH) : Res D := match as with
  | [.ref n] => match L.get n with
    | some (.lst xs) => (match mapO (toP 50 L) xs with
      | some ps => if likes ps && sortables ps && decide (xs.length ≤ sizeLine) then .ok (.ref L.len) (L.push (.lst ((isort (PySem.W.dataLe false fun p : D × PyData => p.2) (zipO xs ps)).map (·.1)))) else .bad
      | none => .bad)
    | _ => .bad
  | _ => .bad

section
variable {X : Cx} {G : Sta} {W : WX} {R : Rec}
theorem OpA.of {f : Value} {g : List D → LH → Res D} {r : List V → Hp → VK → Prop} (h : CallR X f r) (hi : ∀ (ms : List Addr) (L : LH) (H : Hp) (ds : List D) (vs : List V) (Q : VK) (E : XK), Sees G ms L H → Reps G ms H ds vs → post G ms H (Rep G) Q E (g ds L) → r vs H Q) : OpA X G W f g :=
  fun pins s σ H ms L as xs us Q I S rs rv q => h pins s σ H xs us Q I rv (hi ms L H as xs Q _ S rs q)
theorem reps1 {ms : List Addr} {H : Hp} {a : D} {vs : List V} (r : Reps G ms H [a] vs) : ∃ v, vs = [v] ∧ Rep G ms H a v := by
  cases r with
  | cons a b => cases b; exact ⟨_, rfl, a⟩
theorem reps2 {ms : List Addr} {H : Hp} {a b : D} {vs : List V} (r : Reps G ms H [a, b] vs) : ∃ v w, vs = [v, w] ∧ Rep G ms H a v ∧ Rep G ms H b w := by
  cases r with
  | cons a b =>
    obtain ⟨w, rfl, r⟩ := reps1 b
    exact ⟨_, _, rfl, a, r⟩
theorem op_bLen (hK : X.K = G.K) : OpA X G W (.builtin "len") bLen := by
  intro pins s σ H ms L as xs us Q I S rs rv q
  unfold bLen at q
  split at q
  · obtain ⟨v, rfl, r⟩ := reps1 rs
    cases r with
    | tup h1 r1 => exact call_len_seq pins s σ H _ us Q I rv ⟨_, _, rfl, .inr (hK ▸ h1), by rw [← r1.length]; exact post.same S q (.int _)⟩
  · obtain ⟨v, rfl, r⟩ := reps1 rs
    cases r
    split at q
    · rename_i hz
      exact call_len_str pins s σ H _ us Q I rv ⟨_, rfl, hz, post.same S q (.int _)⟩
    · exact q.elim
  · obtain ⟨v, rfl, r⟩ := reps1 rs
    split at q
    · rename_i xs en
      obtain ⟨p, rfl, _, vs, h1, r1⟩ := S.ref en r
      exact call_len_seq pins s σ H _ us Q I rv ⟨_, _, rfl, .inl (SqL.of h1), by rw [← r1.length]; exact post.same S q (.int _)⟩
    · rename_i kvs en
      obtain ⟨p, rfl, _, ks, h1, r1, _⟩ := S.ref en r
      exact call_lenD pins s σ H _ us Q I rv ⟨_, _, rfl, h1, by rw [← r1.length]; exact post.same S q (.int _)⟩
    · exact q.elim
  · exact q.elim
theorem op_bInt : OpA X G W (.type "int") bInt := OpA.of call_int1 fun ms L H ds vs Q E S rs q => by
  unfold bInt at q
  split at q
  · obtain ⟨v, rfl, r⟩ := reps1 rs; cases r
    exact .inl ⟨_, rfl, post.same S q (.int _)⟩
  · obtain ⟨v, rfl, r⟩ := reps1 rs; cases r
    exact .inr ⟨_, rfl, post.same S q (.int _)⟩
  · exact q.elim
theorem op_bAbs : OpA X G W (.builtin "abs") bAbs := OpA.of call_abs fun ms L H ds vs Q E S rs q => by
  unfold bAbs at q
  split at q
  · obtain ⟨v, rfl, r⟩ := reps1 rs; cases r
    exact ⟨_, rfl, post.same S q (.int _)⟩
  · exact q.elim

/-! ints of a list -/
def intsOf : List D → Option (List Int)
  | [] => some []
  | .int i :: r => match intsOf r with
    | some l => some (i :: l)
    | none => none
  | _ :: _ => none
theorem intsOf_rep {ms : List Addr} {H : Hp} : ∀ {l : List D} {vs : List V} {ns : List Int}, intsOf l = some ns → Reps G ms H l vs → vs = ns.map V.int
  | [], _, _, h, r => by cases h; cases r; rfl
  | d :: l, _, _, h, r => by
    cases r with
    | cons a b =>
      cases a with
      | int i =>
        unfold intsOf at h
        split at h
        · rename_i l' e
          cases h
          rw [List.map_cons, intsOf_rep e b]
        · cases h
      | _ => cases h
def maxI (m : Int) : List Int → Int
  | [] => m
  | x :: r => maxI (if x > m then x else m) r
def minI (m : Int) : List Int → Int
  | [] => m
  | x :: r => minI (if x < m then x else m) r
theorem maxI_spec : ∀ (l : List Int) (m : Int), (maxI m l = m ∨ maxI m l ∈ l) ∧ m ≤ maxI m l ∧ ∀ x ∈ l, x ≤ maxI m l
  | [], m => ⟨.inl rfl, Int.le_refl _, fun x h => absurd h (by simp)⟩
  | x :: r, m => by
    have h := maxI_spec r (if x > m then x else m)
    unfold maxI
    by_cases e : x > m
    · rw [if_pos e] at h ⊢
      refine ⟨.inr ?_, by omega, fun y hy => ?_⟩
      · rcases h.1 with h1 | h1
        · rw [h1]; exact List.mem_cons_self
        · exact List.mem_cons_of_mem _ h1
      · rcases List.mem_cons.mp hy with rfl | hy
        · exact h.2.1
        · exact h.2.2 y hy
    · rw [if_neg e] at h ⊢
      refine ⟨?_, by omega, fun y hy => ?_⟩
      · rcases h.1 with h1 | h1
        · exact .inl h1
        · exact .inr (List.mem_cons_of_mem _ h1)
      · rcases List.mem_cons.mp hy with rfl | hy
        · omega
        · exact h.2.2 y hy
theorem minI_spec : ∀ (l : List Int) (m : Int), (minI m l = m ∨ minI m l ∈ l) ∧ minI m l ≤ m ∧ ∀ x ∈ l, minI m l ≤ x
  | [], m => ⟨.inl rfl, Int.le_refl _, fun x h => absurd h (by simp)⟩
  | x :: r, m => by
    have h := minI_spec r (if x < m then x else m)
    unfold minI
    by_cases e : x < m
    · rw [if_pos e] at h ⊢
      refine ⟨.inr ?_, by omega, fun y hy => ?_⟩
      · rcases h.1 with h1 | h1
        · rw [h1]; exact List.mem_cons_self
        · exact List.mem_cons_of_mem _ h1
      · rcases List.mem_cons.mp hy with rfl | hy
        · exact h.2.1
        · exact h.2.2 y hy
    · rw [if_neg e] at h ⊢
      refine ⟨?_, by omega, fun y hy => ?_⟩
      · rcases h.1 with h1 | h1
        · exact .inl h1
        · exact .inr (List.mem_cons_of_mem _ h1)
      · rcases List.mem_cons.mp hy with rfl | hy
        · omega
        · exact h.2.2 y hy
/-- max(i, j), max(xs) -/
def bMaxA (as : List D) (L : LH) : Res D := match as with
  | [.int i, .int j] => .ok (.int (if j > i then j else i)) L
  | [.ref n] => match L.get n with
    | some (.lst xs) => (match intsOf xs with
      | some (i :: r) => .ok (.int (maxI i r)) L
      | _ => .bad)
    | _ => .bad
  | _ => .bad
def bMinA (as : List D) (L : LH) : Res D := match as with
  | [.int i, .int j] => .ok (.int (if j < i then j else i)) L
  | [.ref n] => match L.get n with
    | some (.lst xs) => (match intsOf xs with
      | some (i :: r) => .ok (.int (minI i r)) L
      | _ => .bad)
    | _ => .bad
  | _ => .bad
def bSum (as : List D) (L : LH) : Res D := match as with
  | [.ref n] => match L.get n with
    | some (.lst xs) => (match intsOf xs with
      | some ns => .ok (.int ns.sum) L
      | _ => .bad)
    | _ => .bad
  | _ => .bad
theorem op_bMaxA (hc : X.calm = true) : OpA X G W (.builtin "max") bMaxA := by
  intro pins s σ H ms L as xs us Q I S rs rv q
  unfold bMaxA at q
  split at q
  · obtain ⟨v, w, rfl, r1, r2⟩ := reps2 rs; cases r1; cases r2
    exact call_max2 hc pins s σ H _ us Q I rv ⟨_, _, rfl, post.same S q (.int _)⟩
  · obtain ⟨v, rfl, r⟩ := reps1 rs
    split at q
    · rename_i xs en
      obtain ⟨p, rfl, _, vs, h1, r1⟩ := S.ref en r
      split at q
      · rename_i i l e
        have hv := intsOf_rep e r1
        have hs := maxI_spec l i
        refine cr_max hc pins s σ H _ us Q I rv ⟨p, i :: l, rfl, SqL.of (by rw [← hv]; exact h1), by simp, fun m hm hy => ?_⟩
        have e1 : m = maxI i l := by
          have a1 : m ≤ maxI i l := by
            rcases List.mem_cons.mp hm with rfl | hm
            · exact hs.2.1
            · exact hs.2.2 m hm
          have a2 : maxI i l ≤ m := by
            rcases hs.1 with h | h
            · rw [h]; exact hy i List.mem_cons_self
            · exact hy _ (List.mem_cons_of_mem _ h)
          omega
        rw [e1]
        exact post.same S q (.int _)
      · exact q.elim
    · exact q.elim
  · exact q.elim
theorem op_bMinA (hc : X.calm = true) : OpA X G W (.builtin "min") bMinA := by
  intro pins s σ H ms L as xs us Q I S rs rv q
  unfold bMinA at q
  split at q
  · obtain ⟨v, w, rfl, r1, r2⟩ := reps2 rs; cases r1; cases r2
    exact call_min2 hc pins s σ H _ us Q I rv ⟨_, _, rfl, post.same S q (.int _)⟩
  · obtain ⟨v, rfl, r⟩ := reps1 rs
    split at q
    · rename_i xs en
      obtain ⟨p, rfl, _, vs, h1, r1⟩ := S.ref en r
      split at q
      · rename_i i l e
        have hv := intsOf_rep e r1
        have hs := minI_spec l i
        refine cr_min hc pins s σ H _ us Q I rv ⟨p, i :: l, rfl, SqL.of (by rw [← hv]; exact h1), by simp, fun m hm hy => ?_⟩
        have e1 : m = minI i l := by
          have a1 : minI i l ≤ m := by
            rcases List.mem_cons.mp hm with rfl | hm
            · exact hs.2.1
            · exact hs.2.2 m hm
          have a2 : m ≤ minI i l := by
            rcases hs.1 with h | h
            · rw [h]; exact hy i List.mem_cons_self
            · exact hy _ (List.mem_cons_of_mem _ h)
          omega
        rw [e1]
        exact post.same S q (.int _)
      · exact q.elim
    · exact q.elim
  · exact q.elim
theorem op_bSum (hc : X.calm = true) : OpA X G W (.builtin "sum") bSum := OpA.of (cr_sum hc) fun ms L H ds vs Q E S rs q => by
  unfold bSum at q
  split at q
  · obtain ⟨v, rfl, r⟩ := reps1 rs
    split at q
    · rename_i xs en
      obtain ⟨p, rfl, _, vs, h1, r1⟩ := S.ref en r
      split at q
      · rename_i ns e
        exact ⟨p, ns, rfl, SqL.of (by rw [← intsOf_rep e r1]; exact h1), post.same S q (.int _)⟩
      · exact q.elim
    · exact q.elim
  · exact q.elim
theorem op_bTup (hK : X.K = G.K) : OpA X G W (.type "tuple") bTup := OpA.of call_tuple_of fun ms L H ds vs Q E S rs q => by
  unfold bTup at q
  split at q
  · obtain ⟨v, rfl, r⟩ := reps1 rs
    cases r with
    | tup h1 r1 => exact ⟨_, _, rfl, .inr ⟨hK ▸ h1, post.same S q (.tup h1 r1)⟩⟩
  · obtain ⟨v, rfl, r⟩ := reps1 rs
    split at q
    · rename_i xs en
      obtain ⟨p, rfl, _, vs, h1, r1⟩ := S.ref en r
      exact ⟨_, _, rfl, .inl ⟨SqL.of h1, post.tuple S q r1⟩⟩
    · exact q.elim
  · exact q.elim
theorem KvRep.keys {ms : List Addr} {H : Hp} {l : List (D × D)} {ks : List (Key × V)} (h : KvRep G ms H l ks) : Reps G ms H (l.map (·.1)) (ks.map fun kv => kV kv.1) := by
  induction h with
  | nil => exact .nil
  | @cons k d key v l vs h1 h2 h3 ih =>
    refine .cons ?_ ih
    cases k <;> first
      | (cases h1; first | exact .int _ | exact .str _)
      | cases h1
theorem op_bLst (hK : X.K = G.K) (hc : X.calm = true) : OpA X G W (.type "list") bLst := by
  intro pins s σ H ms L as xs us Q I S rs rv q
  unfold bLst at q
  split at q
  · obtain ⟨v, rfl, r⟩ := reps1 rs
    cases r with
    | tup h1 r1 => exact call_list_of pins s σ H _ us Q I rv ⟨_, _, rfl, .inr (hK ▸ h1), post.list S q r1⟩
  · obtain ⟨v, rfl, r⟩ := reps1 rs
    split at q
    · rename_i xs en
      obtain ⟨p, rfl, _, vs, h1, r1⟩ := S.ref en r
      exact call_list_of pins s σ H _ us Q I rv ⟨_, _, rfl, .inl (SqL.of h1), post.list S q r1⟩
    · rename_i kvs en
      obtain ⟨p, rfl, _, ks, h1, r1, _⟩ := S.ref en r
      split at q
      · exact call_list_dK hc pins s σ H _ us Q I rv ⟨_, _, rfl, h1, post.list S q r1.keys⟩
      · exact q.elim
    · exact q.elim
  · exact q.elim

/-! ### sorted -/
theorem likes_ok {ps : List PyData} (h : likes ps = true) : PySem.W.AllAlike ps := fun d hd d' hd' => List.all_eq_true.mp (List.all_eq_true.mp h d hd) d' hd'
theorem sortables_ok {ps : List PyData} (h : sortables ps = true) : PySem.W.Sortable ps := by
  unfold sortables at h
  rw [Bool.or_eq_true] at h
  rcases h with h | h
  · refine .inl fun d hd => ?_
    have q := List.all_eq_true.mp h d hd
    split at q
    · exact ⟨_, _, rfl⟩
    · cases q
  · refine .inr fun d hd => ?_
    have q := List.all_eq_true.mp h d hd
    refine ⟨fun e => ?_, fun xs e => ?_⟩
    · subst e; cases q
    · subst e; cases q
theorem mapO_mem {α β : Type} {f : α → Option β} : ∀ {l : List α} {r : List β} {b : β}, mapO f l = some r → b ∈ r → ∃ a ∈ l, f a = some b
  | [], _, _, h, hb => by cases h; exact absurd hb (by simp)
  | x :: l, _, b, h, hb => by
    unfold mapO at h
    cases e1 : f x with
    | none => rw [e1] at h; cases h
    | some y =>
      rw [e1] at h
      cases e2 : mapO f l with
      | none => rw [e2] at h; cases h
      | some s =>
        rw [e2] at h; cases h
        rcases List.mem_cons.mp hb with rfl | hb
        · exact ⟨x, List.mem_cons_self, e1⟩
        · obtain ⟨a, ha, h1⟩ := mapO_mem e2 hb
          exact ⟨a, List.mem_cons_of_mem _ ha, h1⟩
/-- a list's items: data, values -/
structure Trip (G : Sta) (ms : List Addr) (H : Hp) (n : Nat) (L : LH) (t : (D × PyData) × V) : Prop where
  p : toP n L t.1.1 = some t.1.2
  r : Rep G ms H t.1.1 t.2
theorem trips {n : Nat} {L : LH} {ms : List Addr} {H : Hp} : ∀ {xs : List D} {ps : List PyData} {vs : List V} {us : List Value}, mapO (toP n L) xs = some ps → Reps G ms H xs vs → Vals vs us →
    ∃ ts : List ((D × PyData) × V), ts.map (·.1) = zipO xs ps ∧ ts.map (·.2) = vs ∧ ts.map (·.1.1) = xs ∧ ts.map (·.1.2) = ps ∧ (∀ t ∈ ts, Trip G ms H n L t) ∧ PySem.W.EachIs (fun (u : Value) (t : (D × PyData) × V) => RelV t.2 u) us ts
  | [], _, _, _, h, r, rv => by
    cases h; cases r; cases rv
    exact ⟨[], rfl, rfl, rfl, rfl, fun t ht => absurd ht (by simp), .nil⟩
  | x :: xs, _, _, _, h, r, rv => by
    unfold mapO at h
    cases e1 : toP n L x with
    | none => rw [e1] at h; cases h
    | some y =>
      rw [e1] at h
      cases e2 : mapO (toP n L) xs with
      | none => rw [e2] at h; cases h
      | some s =>
        rw [e2] at h; cases h
        cases r with
        | cons ra rb =>
          cases rv with
          | cons va vb =>
            obtain ⟨ts, h1, h2, h3, h4, h5, h6⟩ := trips e2 rb vb
            refine ⟨((x, y), _) :: ts, by rw [List.map_cons, h1]; rfl, by rw [List.map_cons, h2], by rw [List.map_cons, h3], by rw [List.map_cons, h4], fun t ht => ?_, .cons va h6⟩
            rcases List.mem_cons.mp ht with rfl | ht
            · exact ⟨e1, ra⟩
            · exact h5 t ht
theorem insBy_map {α β : Type} (f : α → β) (le : β → β → Bool) (a : α) : ∀ l : List α, (insBy (fun x y => le (f x) (f y)) a l).map f = insBy le (f a) (l.map f)
  | [] => rfl
  | b :: r => by
    show (if le (f a) (f b) then a :: b :: r else b :: insBy (fun x y => le (f x) (f y)) a r).map f = (if le (f a) (f b) then f a :: f b :: r.map f else f b :: insBy le (f a) (r.map f))
    split
    · rfl
    · rw [List.map_cons, insBy_map f le a r]
theorem isort_map {α β : Type} (f : α → β) (le : β → β → Bool) : ∀ l : List α, (isort (fun x y => le (f x) (f y)) l).map f = isort le (l.map f)
  | [] => rfl
  | a :: r => by
    show (insBy _ a (isort _ r)).map f = insBy le (f a) (isort le (r.map f))
    rw [insBy_map, isort_map]
theorem insBy_mem {α : Type} {le : α → α → Bool} {a : α} : ∀ {l : List α} {b : α}, b ∈ insBy le a l → b = a ∨ b ∈ l
  | [], b, h => by
    rcases List.mem_cons.mp h with h | h
    · exact .inl h
    · exact absurd h (by simp)
  | c :: r, b, h => by
    unfold insBy at h
    split at h
    · rcases List.mem_cons.mp h with h | h
      · exact .inl h
      · exact .inr h
    · rcases List.mem_cons.mp h with h | h
      · exact .inr (h ▸ List.mem_cons_self)
      · rcases insBy_mem h with h | h
        · exact .inl h
        · exact .inr (List.mem_cons_of_mem _ h)
theorem isort_mem {α : Type} {le : α → α → Bool} : ∀ {l : List α} {b : α}, b ∈ isort le l → b ∈ l
  | [], b, h => h
  | a :: r, b, h => by
    rcases insBy_mem h with h | h
    · exact h ▸ List.mem_cons_self
    · exact List.mem_cons_of_mem _ (isort_mem h)
theorem each_vals {us : List Value} {ts : List ((D × PyData) × V)} (e : PySem.W.EachIs (fun (u : Value) (t : (D × PyData) × V) => RelV t.2 u) us ts) : Vals (ts.map (·.2)) us := by
  induction e with
  | nil => exact .nil
  | cons a _ ih => exact .cons a ih
theorem trips_reps {n : Nat} {L : LH} {ms : List Addr} {H : Hp} : ∀ {ts : List ((D × PyData) × V)}, (∀ t ∈ ts, Trip G ms H n L t) → Reps G ms H (ts.map (·.1.1)) (ts.map (·.2))
  | [], _ => .nil
  | t :: ts, h => .cons (h t List.mem_cons_self).r (trips_reps fun x hx => h x (List.mem_cons_of_mem _ hx))
theorem each_reads (hK : X.K = G.K) {pins : List (Addr × Obj)} {s : Shared} {σ : L2.St} {H : Hp} {n : Nat} {L : LH} {ms : List Addr} (I : Inv X pins σ H s) (S : Sees G ms L H) {its : List Value} {ts : List ((D × PyData) × V)} (t5 : ∀ t ∈ ts, Trip G ms H n L t)
    (t6 : PySem.W.EachIs (fun (u : Value) (t : (D × PyData) × V) => RelV t.2 u) its ts) : PySem.W.EachIs (fun (v : Value) (b : (D × PyData) × V) => ∃ as, Reads s.heap v b.1.2 as) its ts := by
  induction t6 with
  | nil => exact .nil
  | @cons u t us' ts' ha hb' ih =>
    refine .cons ?_ (ih (fun t ht => t5 t (List.mem_cons_of_mem _ ht)))
    have tt := t5 t List.mem_cons_self
    obtain ⟨d1, _, _⟩ := toP_ok S _ _ _ _ tt.p tt.r
    exact Dp.reads I _ _ _ (hK ▸ d1) ha
theorem op_bSorted (hK : X.K = G.K) (hu : X.A.units + 64 < cLine) : OpA X G W (.builtin "sorted") bSorted := by
  intro pins s σ H ms L as xs us Q I S rs rv q
  unfold bSorted at q
  split at q
  · obtain ⟨v, rfl, r⟩ := reps1 rs
    split at q
    · rename_i xs en
      obtain ⟨p, rfl, _, vs, h1, r1⟩ := S.ref en r
      split at q
      · rename_i ps e
        split at q
        · rename_i hb
          rw [Bool.and_eq_true, Bool.and_eq_true] at hb
          obtain ⟨its, rw_, hl, hz⟩ := I.list (SqL.of h1)
          rw [Vals.ref1 rv]
          obtain ⟨ts, t1, t2, t3, t4, t5, t6⟩ := trips e r1 rw_
          have hlen : xs.length = ts.length := by rw [← t3, List.length_map]
          have er := each_reads hK I S t5 t6
          refine PySem.W.sorted_data (β := (D × PyData) × V) (enc := fun b => b.1.2) (R := fun u t => RelV t.2 u) hl.isList t6 er (by rw [t4]; exact likes_ok hb.1.1) (by rw [t4]; exact sortables_ok hb.1.2) (by rw [← hlen]; exact of_decide_eq_true hb.2) (fun b hb' => ?_) fun out ho eo => ?_
          · have tt := t5 b hb'
            obtain ⟨_, _, d3⟩ := toP_ok S _ _ _ _ tt.p tt.r
            have : X.A.units + 2 + b.1.2.depth < cLine := by omega
            exact this
          · rw [dataLe_isort] at eo
            obtain ⟨ep, he'⟩ := PyProof.Rows.sortedAll_at s.heap its out.toArray
            have hm : ∀ t ∈ isort (PySem.W.dataLe false fun b : (D × PyData) × V => b.1.2) ts, Trip G ms H 50 L t := fun t ht => t5 t (isort_mem ht)
            have e2 : (isort (PySem.W.dataLe false fun b : (D × PyData) × V => b.1.2) ts).map (·.1.1) = (isort (PySem.W.dataLe false fun p : D × PyData => p.2) (zipO xs ps)).map (·.1) := by
              rw [← t1, ← isort_map (f := fun t : (D × PyData) × V => t.1), List.map_map]
              rfl
            have rr := trips_reps hm
            rw [e2] at rr
            have hol : ((isort (PySem.W.dataLe false fun b : (D × PyData) × V => b.1.2) ts).map (·.2)).length ≤ sizeLine := by
              rw [(each_vals eo).length, ho, ← hlen]
              exact of_decide_eq_true hb.2
            exact ⟨.ref _, upd H (s.heap.objs.size + 1) (.lst ((isort (PySem.W.dataLe false fun b : (D × PyData) × V => b.1.2) ts).map (·.2))), I.laid (t' := s.toks) (fun _ _ => PyProof.Rows.sortedAll_old) (Nat.le_succ _) ⟨hol, out, ep, each_vals eo, he'⟩, rfl, post.list S q rr _ (I.hok.fresh (Nat.le_succ _))⟩
        · exact q.elim
      · exact q.elim
    · exact q.elim
  · exact q.elim
end
end PD
/-! P9: methods, more operators, dicts, what is walked. -/
namespace PD
open PySem PySem.Spec PyProof.Rows L2

section
variable {X : Cx} {G : Sta} {W : WX} {R : Rec}

/-! ### calls of built-ins -/
theorem re_bltn {id : String} {x : Str} {e : Expr} {es : List Expr} {fa : FA} {op : List D → LH → Res D} {p pos : Pos} (ho : OpA X G W (.builtin id) op) (hg : Gl X x) (hm : X.mg x = none) (hv : bootBuiltins x = some (.builtin id)) (ha : PA X (e :: es) (upA G W R fa)) (hp : plainArgs (e :: es) = true) (hn : x ≠ "__name__") (hdb : (x == ("__debug__" : Str)) = false) :
    PE X (.Call (.Name x p) (e :: es) [] pos) (upE G W R (aApp fa op)) := by
  refine ⟨fun pins s σ H Q I ⟨ms, L, ρ, S, e, q⟩ => ?_⟩
  obtain ⟨h1, h2⟩ := plain_ne hp
  refine wpAny_Call_Name_kw (ld_blt I hg hm hv ?_ hn hdb)
  exact PyProof.Rows.callWith_builtin1 (thn (ha.run pos pins s σ H _ I (midA (f := fa) S e q)) fun us s1 ⟨vs, H1, I1, r1, ms1, L1, ds, rs, m⟩ => ho pins s1 σ H1 ms1 L1 ds vs us Q I1 m.sees rs r1 m.post) (starEach_plain h1) (plain_any h2)
theorem re_type {T : String} {x : Str} {e : Expr} {es : List Expr} {fa : FA} {op : List D → LH → Res D} {p pos : Pos} (ho : OpA X G W (.type T) op) (hg : Gl X x) (hm : X.mg x = none) (hv : bootBuiltins x = some (.type T)) (ha : PA X (e :: es) (upA G W R fa)) (hp : plainArgs (e :: es) = true) (hn : x ≠ "__name__") (hdb : (x == ("__debug__" : Str)) = false) :
    PE X (.Call (.Name x p) (e :: es) [] pos) (upE G W R (aApp fa op)) := by
  refine ⟨fun pins s σ H Q I ⟨ms, L, ρ, S, e, q⟩ => ?_⟩
  obtain ⟨h1, h2⟩ := plain_ne hp
  refine wpAny_Call_Name_kw (ld_blt I hg hm hv ?_ hn hdb)
  exact PyProof.Rows.callWith_type1 (thn (ha.run pos pins s σ H _ I (midA (f := fa) S e q)) fun us s1 ⟨vs, H1, I1, r1, ms1, L1, ds, rs, m⟩ => ho pins s1 σ H1 ms1 L1 ds vs us Q I1 m.sees rs r1 m.post) (starEach_plain h1) (plain_any h2)

/-! ### methods of built-ins -/
/-- what the method's rule wants -/
def rUp (G : Sta) (op : D → List D → LH → Res D) : V → List V → Hp → VK → Prop := fun x xs H Q => ∃ ms L d ds, Sees G ms L H ∧ Rep G ms H d x ∧ Reps G ms H ds xs ∧ post G ms H (Rep G) Q (fun _ _ _ => False) (noExc (op d ds L))
theorem post.noExc {ms : List Addr} {H : Hp} {α β : Type} {Rel : List Addr → Hp → α → β → Prop} {Q : β → Hp → Prop} {E E' : XK} : ∀ {r : Res α}, post G ms H Rel Q E (noExc r) → post G ms H Rel Q E' (PD.noExc r)
  | .ok _ _, h => h
  | .exc _ _ _, h => h.elim
  | .bad, h => h.elim
theorem tyIs_ok {T : String} {d : D} {L : LH} {ms : List Addr} {H : Hp} {v : V} (h : tyIs T d L = true) (S : Sees G ms L H) (r : Rep G ms H d v) : L2.tyV X.K T v H := by
  unfold tyIs at h
  split at h
  · split at h
    · rename_i xs en
      obtain ⟨p, rfl, _, vs, h1, _⟩ := S.ref en r
      have := eq_of_beq h
      subst this
      exact Or.inl ⟨rfl, _, SqL.of h1⟩
    · rename_i xs en
      obtain ⟨p, rfl, _, vs, h1, _⟩ := S.ref en r
      have := eq_of_beq h
      subst this
      exact Or.inr (Or.inr (Or.inl ⟨rfl, .inl ⟨_, h1⟩⟩))
    · cases h
  · have := eq_of_beq h
    subst this
    cases r
    rfl
  · cases h
theorem few_ok {es : List Expr} {cpos : Pos} {env : PySem.Env} (hp : plainArgs es = true) (hl : es.length < 29) :
    ((backTo cpos (starEach es env)).all (fun x => !x.1) && (backToKw cpos (keywordEach [] env)).all (fun x => x.1.isSome)
      && decide (es.length + ([] : List Keyword).length + (if ([] : List Keyword).isEmpty then 0 else 1) < 30)) = true := by
  have h1 : (backTo cpos (starEach es env)).all (fun x => !x.1) = true := by
    rw [List.all_eq_true]
    intro x hx
    have := plain_any (pos := cpos) (env := env) hp
    rw [List.any_eq_false] at this
    have := this x hx
    simpa using this
  rw [h1, Bool.true_and, Bool.and_eq_true]
  refine ⟨rfl, decide_eq_true ?_⟩
  show es.length + 0 + (if true = true then 0 else 1) < 30
  rw [if_pos rfl]; omega
theorem re_bm {T id : String} {name : Str} {o : Expr} {es : List Expr} {fo : FE} {fa : FA} {op : D → List D → LH → Res D} {apos cpos : Pos} (pa : PlainAttrs T) (slot : Slot T name id) (hty : typeOf (.builtin id) = pure (.type "method_descriptor")) (hm : MtR X id (rUp G op)) (ho : PE X o (upE G W R fo)) (ha : PA X es (upA G W R fa)) (hnil : es = [] → fa = aNil)
    (hbase : attributeBase o name X.env (eval o X.env) = eval o X.env) (hp : plainArgs es = true) (hl : es.length < 29) (hline : (apos.endLine == cpos.line) = true) : PE X (.Call (.Attribute o name apos) es [] cpos) (upE G W R (eBM T op fo fa)) := by
  cases es with
  | nil =>
    cases hnil rfl
    refine peOf (pe_bm0 pa slot hty hm ho hbase hline) fun σ H Q ⟨ms, L, ρ, S, e, q⟩ => ?_
    refine ⟨ms, L, ρ, S, e, (post.bind (R1 := Rep G) q).imp (fun v H1 ⟨ms1, L1, d, x, s, r, q1⟩ => ?_) fun _ _ _ z => z⟩
    split at q1
    · rename_i ht
      exact ⟨tyIs_ok ht s r, ms1, L1, d, [], s, r, .nil, post.noExc (post.ext x q1)⟩
    · exact q1.elim
  | cons e0 es =>
    obtain ⟨h1, h2⟩ := plain_ne hp
    refine peOf (pe_bm pa slot hty hm ho ha hbase (few_ok hp hl) hline (starEach_plain h1) (plain_any h2)) fun σ H Q ⟨ms, L, ρ, S, e, q⟩ => ?_
    refine ⟨ms, L, ρ, S, e, (post.bind (R1 := Rep G) q).imp (fun v H1 ⟨ms1, L1, d, x, s, r, q1⟩ => ?_) fun _ _ _ z => z⟩
    split at q1
    · rename_i ht
      refine ⟨tyIs_ok ht s r, ms1, L1, ρ, s, e.ext x S.fine, (post.bind (R1 := Reps G) (post.ext x q1)).imp (fun vs H2 ⟨ms2, L2, ds, x2, s2, r2, q2⟩ => ?_) fun _ _ _ z => z⟩
      exact ⟨ms2, L2, d, ds, s2, Rep.ext x2 s.fine _ _ r, r2, post.noExc (post.ext x2 q2)⟩
    · exact q1.elim
theorem mt_of {id : String} {op : D → List D → LH → Res D} {r : V → List V → Hp → VK → Prop} (h : MtR X id r) (hi : ∀ (ms : List Addr) (L : LH) (H : Hp) (d : D) (ds : List D) (x : V) (xs : List V) (Q : VK), Sees G ms L H → Rep G ms H d x → Reps G ms H ds xs → post G ms H (Rep G) Q (fun _ _ _ => False) (noExc (op d ds L)) → r x xs H Q) : MtR X id (rUp G op) :=
  fun pins s σ H x xs v us Q I rx rxs ⟨ms, L, d, ds, S, rd, rs, q⟩ => h pins s σ H x xs v us Q I rx rxs (hi ms L H d ds x xs Q S rd rs q)
theorem mtu_append : MtR X "list.append" (rUp G mAppend) := mt_of mt_append fun ms L H d ds x xs Q S r rs q => by
  unfold mAppend at q
  split at q
  · obtain ⟨w, rfl, rw_⟩ := reps1 rs
    split at q
    · rename_i n y xs en
      obtain ⟨p, rfl, e1, vs, h1, r1⟩ := S.ref en r
      split at q
      · rename_i hz
        refine ⟨p, vs, w, rfl, rfl, h1, by rw [← r1.length]; exact hz, ?_⟩
        refine q ms _ .non (Ext.put e1) (S.put e1 True.intro ⟨_, upd_same, ?_⟩) .non
        exact Reps.ext (Ext.put e1) S.fine _ _ (r1.append (.cons rw_ .nil))
      · exact q.elim
    · exact q.elim
  · exact q.elim
theorem reps0 {ms : List Addr} {H : Hp} {vs : List V} (r : Reps G ms H [] vs) : vs = [] := by cases r; rfl
theorem Reps.dropLast {ms : List Addr} {H : Hp} {l : List D} {vs : List V} (r : Reps G ms H l vs) : Reps G ms H l.dropLast vs.dropLast := by
  rw [List.dropLast_eq_take, List.dropLast_eq_take, ← r.length]
  exact r.take _
theorem Reps.eraseIdx {ms : List Addr} {H : Hp} : ∀ {l : List D} {vs : List V} (i : Nat), Reps G ms H l vs → Reps G ms H (l.eraseIdx i) (vs.eraseIdx i)
  | [], _, _, h => by cases h; exact .nil
  | e :: l, _, 0, h => by
    cases h with
    | cons a b => exact b
  | e :: l, _, i + 1, h => by
    cases h with
    | cons a b => exact .cons a (Reps.eraseIdx i b)
def rPopB : V → List V → Hp → VK → Prop := fun x xs H Q => rPop x xs H Q ∨ rPopAt x xs H Q
theorem mt_popB : MtR X "list.pop" rPopB := fun pins s σ H x xs v us Q I rx rxs h => by
  rcases h with h | h
  · exact mt_pop pins s σ H x xs v us Q I rx rxs h
  · exact mt_popAt pins s σ H x xs v us Q I rx rxs h
theorem mtu_pop : MtR X "list.pop" (rUp G mPop) := mt_of mt_popB fun ms L H d ds x xs Q S r rs q => by
  unfold mPop at q
  split at q
  · cases reps0 rs
    split at q
    · rename_i n xs en
      obtain ⟨p, rfl, e1, vs, h1, r1⟩ := S.ref en r
      split at q
      · rename_i y hy
        obtain ⟨w, e2, r2⟩ := r1.get hy
        refine .inl ⟨p, vs, w, rfl, rfl, h1, by rw [← r1.length]; exact e2, ?_⟩
        refine q ms _ w (Ext.put e1) (S.put e1 True.intro ⟨_, upd_same, ?_⟩) (Rep.ext (Ext.put e1) S.fine _ _ r2)
        exact Reps.ext (Ext.put e1) S.fine _ _ r1.dropLast
      · exact q.elim
    · exact q.elim
  · obtain ⟨w0, rfl, rw_⟩ := reps1 rs
    cases rw_
    rename_i n i
    split at q
    · rename_i xs en
      obtain ⟨p, rfl, e1, vs, h1, r1⟩ := S.ref en r
      split at q
      · rename_i hb
        split at q
        · rename_i k hk
          split at q
          · rename_i y hy
            obtain ⟨w, e2, r2⟩ := r1.get hy
            refine .inr ⟨p, vs, i, k, w, rfl, rfl, h1, hb.1, hb.2, ?_, e2, ?_⟩
            · rw [← r1.length]; exact (ixN_seq hk).1
            · refine q ms _ w (Ext.put e1) (S.put e1 True.intro ⟨_, upd_same, ?_⟩) (Rep.ext (Ext.put e1) S.fine _ _ r2)
              exact Reps.ext (Ext.put e1) S.fine _ _ (r1.eraseIdx k)
          · exact q.elim
        · exact q.elim
      · exact q.elim
    · exact q.elim
  · exact q.elim
theorem mtu_extend : MtR X "list.extend" (rUp G mExtend) := mt_of mt_extend fun ms L H d ds x xs Q S r rs q => by
  unfold mExtend at q
  split at q
  · obtain ⟨w, rfl, rw_⟩ := reps1 rs
    split at q
    · rename_i n m xs ys en em
      obtain ⟨p, rfl, e1, vs, h1, r1⟩ := S.ref en r
      obtain ⟨p2, rfl, _, vs2, h2, r2⟩ := S.ref em rw_
      split at q
      · rename_i hz
        refine ⟨p, p2, vs, vs2, rfl, rfl, h1, h2, by rw [← r1.length, ← r2.length]; exact hz, ?_⟩
        refine q ms _ .non (Ext.put e1) (S.put e1 True.intro ⟨_, upd_same, ?_⟩) .non
        exact Reps.ext (Ext.put e1) S.fine _ _ (r1.append r2)
      · exact q.elim
    · exact q.elim
  · exact q.elim
theorem mtu_clear : MtR X "list.clear" (rUp G mClear) := mt_of mt_clear fun ms L H d ds x xs Q S r rs q => by
  unfold mClear at q
  split at q
  · cases reps0 rs
    split at q
    · rename_i n xs en
      obtain ⟨p, rfl, e1, vs, h1, r1⟩ := S.ref en r
      exact ⟨p, vs, rfl, rfl, h1, q ms _ .non (Ext.put e1) (S.put e1 True.intro ⟨_, upd_same, .nil⟩) .non⟩
    · exact q.elim
  · exact q.elim
theorem mtu_get (hu : X.A.units + 64 < cLine) : MtR X "dict.get" (rUp G mGet) := by
  intro pins s σ H x xs v us Q I rx rxs ⟨ms, L, d, ds, S, rd, rs, q⟩
  unfold mGet at q
  split at q
  · split at q
    · rename_i n kvs en
      obtain ⟨p, rfl, e1, ks, h1, r1, nd⟩ := S.ref en rd
      obtain rfl : v = Value.ref p := rx
      split at q
      · rename_i k
        obtain ⟨w, rfl, rw_⟩ := reps1 rs
        obtain ⟨u, rfl, ru⟩ := vals1 rxs
        split at q
        · rename_i hf
          obtain ⟨key, hk⟩ := keyFits_leaf hf
          cases keyD_rep hk rw_
          refine d_get1 (by omega) I (DGet.k h1) ru fun w' s' I' r' => ⟨_, H, I', r', ?_⟩
          rcases r1.look hk with ⟨d', v', e2, e3, r'⟩ | ⟨e2, e3⟩
          · rw [e2] at q; rw [e3]; exact post.same S q r'
          · rw [e2] at q; rw [e3]; exact post.same S q .non
        · exact q.elim
      · rename_i k dd
        obtain ⟨w, w2, rfl, rw_, rw2⟩ := reps2 rs
        obtain ⟨u, u2, rfl, ru, ru2⟩ := vals2 rxs
        split at q
        · rename_i hf
          obtain ⟨key, hk⟩ := keyFits_leaf hf
          cases keyD_rep hk rw_
          refine d_get2 (by omega) I (DGet.k h1) ru ru2 fun w' s' I' r' => ⟨_, H, I', r', ?_⟩
          rcases r1.look hk with ⟨d', v', e2, e3, r'⟩ | ⟨e2, e3⟩
          · rw [e2] at q; rw [e3]; exact post.same S q r'
          · rw [e2] at q; rw [e3]; exact post.same S q rw2
        · exact q.elim
      · exact q.elim
    · exact q.elim
  · exact q.elim

/-! ### in -/
theorem flatD_rep {ms : List Addr} {H : Hp} {a : D} {v : V} (h : flatD a = true) (r : Rep G ms H a v) : flatV v = true := by
  cases r <;> first
    | rfl
    | cases h
theorem flatDs_rep {ms : List Addr} {H : Hp} : ∀ {l : List D} {vs : List V}, l.all flatD = true → Reps G ms H l vs → vs.all flatV = true
  | [], _, _, r => by cases r; rfl
  | d :: l, _, h, r => by
    cases r with
    | cons a b =>
      rw [List.all_cons, Bool.and_eq_true] at h
      rw [List.all_cons, flatD_rep h.1 a, flatDs_rep h.2 b]; rfl
theorem eqFl_rep {ms : List Addr} {H : Hp} {a b : D} {v w : V} (ha : flatD a = true) (hb : flatD b = true) (r : Rep G ms H a v) (q : Rep G ms H b w) : eqFl a b = eqV v w := by
  cases r <;> first
    | (cases q <;> first
        | rfl
        | cases hb)
    | cases ha
theorem inFl_rep {ms : List Addr} {H : Hp} {a : D} {v : V} (ha : flatD a = true) (r : Rep G ms H a v) : ∀ {l : List D} {vs : List V}, l.all flatD = true → Reps G ms H l vs → (l.any fun y => eqFl y a) = inV v vs
  | [], _, _, q => by cases q; rfl
  | d :: l, _, h, q => by
    cases q with
    | cons q1 q2 =>
      rw [List.all_cons, Bool.and_eq_true] at h
      unfold inV
      rw [List.any_cons, List.any_cons, eqFl_rep h.1 ha q1 r]
      congr 1
      exact inFl_rep ha r h.2 q2
theorem op_oIn (hK : X.K = G.K) (hu : X.A.units + 65 < cLine) : Op2 X G W (compareOp .In) oIn := by
  intro pins s σ H ms L a b x y v u Q I S ra rb rx ry q
  unfold oIn at q
  split at q
  · split at q
    · rename_i hf
      rw [Bool.and_eq_true] at hf
      cases rb with
      | tup h1 r1 =>
        refine op_in_seq pins s σ H x _ v u Q I rx ry ⟨_, _, rfl, .inr (hK ▸ h1), flatD_rep hf.1 ra, flatDs_rep hf.2 r1, ?_⟩
        rw [if_neg (fun z => nomatch z), ← inFl_rep hf.1 ra hf.2 r1]
        exact post.same S q (.bl _)
    · exact q.elim
  · rename_i n
    split at q
    · rename_i kvs en
      obtain ⟨p, rfl, e1, ks, h1, r1, nd⟩ := S.ref en rb
      split at q
      · rename_i hf
        obtain ⟨key, hk⟩ := keyFits_leaf hf
        cases keyD_rep hk ra
        obtain rfl : u = Value.ref p := ry
        refine d_in (by omega) I (DGet.k h1) rx fun s' I' => ⟨.bl _, H, I', rfl, ?_⟩
        rcases r1.look hk with ⟨d', v', e2, e3, r'⟩ | ⟨e2, e3⟩
        · rw [e2] at q; rw [e3]; exact post.same S q (.bl _)
        · rw [e2] at q; rw [e3]; exact post.same S q (.bl _)
      · exact q.elim
    · rename_i xs en
      obtain ⟨p, rfl, e1, vs, h1, r1⟩ := S.ref en rb
      split at q
      · rename_i pd ep
        split at q
        · rename_i ps eps
          obtain ⟨a1, a2, a3⟩ := toP_ok S 50 a x pd ep ra
          obtain ⟨b1, b2, b3⟩ := toPs_ok S 50 xs vs ps eps r1
          refine op_inD hu pins s σ H x _ v u Q I rx ry ⟨pd, ps, hK ▸ a1, .lst (SqL.of h1) (hK ▸ b1), ?_, ?_, post.same S q (.bl _)⟩
          · unfold SeqAt.shaped; rw [a2, decide_eq_true (by omega)]; rfl
          · unfold SeqAt.shaped
            rw [show (PyData.list ps).canLay0 = true by simpa [PyData.canLay0] using b2, decide_eq_true (by simp only [PyData.depth]; omega)]; rfl
        · exact q.elim
      · exact q.elim
    · exact q.elim
  · split at q
    · cases ra; cases rb
      exact op_in_str pins s σ H _ _ v u Q I rx ry ⟨_, _, rfl, rfl, post.same S q (.bl _)⟩
    · exact q.elim
  · exact q.elim
theorem op_oNotIn (hK : X.K = G.K) (hu : X.A.units + 65 < cLine) : Op2 X G W (compareOp .NotIn) oNotIn := by
  intro pins s σ H ms L a b x y v u Q I S ra rb rx ry q
  unfold oNotIn oIn at q
  split at q
  · split at q
    · rename_i hf
      rw [Bool.and_eq_true] at hf
      cases rb with
      | tup h1 r1 =>
        refine op_notIn_seq pins s σ H x _ v u Q I rx ry ⟨_, _, rfl, .inr (hK ▸ h1), flatD_rep hf.1 ra, flatDs_rep hf.2 r1, ?_⟩
        rw [if_pos rfl, ← inFl_rep hf.1 ra hf.2 r1]
        exact post.same S q (.bl _)
    · exact q.elim
  · rename_i n
    split at q
    · rename_i kvs en
      obtain ⟨p, rfl, e1, ks, h1, r1, nd⟩ := S.ref en rb
      split at q
      · rename_i hf
        obtain ⟨key, hk⟩ := keyFits_leaf hf
        cases keyD_rep hk ra
        obtain rfl : u = Value.ref p := ry
        refine d_notIn (by omega) I (DGet.k h1) rx fun s' I' => ⟨.bl _, H, I', rfl, ?_⟩
        rcases r1.look hk with ⟨d', v', e2, e3, r'⟩ | ⟨e2, e3⟩
        · rw [e2] at q; rw [e3]; exact post.same S q (.bl _)
        · rw [e2] at q; rw [e3]; exact post.same S q (.bl _)
      · exact q.elim
    · rename_i xs en
      obtain ⟨p, rfl, e1, vs, h1, r1⟩ := S.ref en rb
      split at q
      · rename_i pd ep
        split at q
        · rename_i ps eps
          obtain ⟨a1, a2, a3⟩ := toP_ok S 50 a x pd ep ra
          obtain ⟨b1, b2, b3⟩ := toPs_ok S 50 xs vs ps eps r1
          refine op_notInD hu pins s σ H x _ v u Q I rx ry ⟨pd, ps, hK ▸ a1, .lst (SqL.of h1) (hK ▸ b1), ?_, ?_, post.same S q (.bl _)⟩
          · unfold SeqAt.shaped; rw [a2, decide_eq_true (by omega)]; rfl
          · unfold SeqAt.shaped
            rw [show (PyData.list ps).canLay0 = true by simpa [PyData.canLay0] using b2, decide_eq_true (by simp only [PyData.depth]; omega)]; rfl
        · exact q.elim
      · exact q.elim
    · exact q.elim
  · split at q
    · cases ra; cases rb
      exact op_notIn_str pins s σ H _ _ v u Q I rx ry ⟨_, _, rfl, rfl, post.same S q (.bl _)⟩
    · exact q.elim
  · exact q.elim

/-! ### * -/
theorem op_oMul (hK : X.K = G.K) : Op2 X G W (binaryOp .Mult) oMul := by
  intro pins s σ H ms L a b x y v u Q I S ra rb rx ry q
  unfold oMul at q
  split at q
  · cases ra; cases rb
    split at q
    · rename_i hz
      exact op_mul pins s σ H _ _ v u Q I rx ry ⟨_, _, rfl, rfl, hz, post.same S q (.int _)⟩
    · exact q.elim
  · cases rb
    cases ra with
    | tup h1 r1 =>
      split at q
      · rename_i hk
        subst hk
        exact RQ.op_repT1 pins s σ H _ _ v u Q I rx ry ⟨_, _, rfl, rfl, hK ▸ h1, post.same S q (.tup h1 r1)⟩
      split at q
      · rename_i hz
        refine op_repT pins s σ H _ _ v u Q I rx ry ⟨_, _, _, rfl, rfl, hK ▸ h1, ?_, hz.1, hz.2.1, by rw [← r1.length]; exact hz.2.2.2, post.tuple S q (r1.rep _)⟩
        intro e
        subst e
        cases r1
        exact absurd hz.2.2.1 (by decide)
      · exact q.elim
  · cases rb
    split at q
    · rename_i xs en
      obtain ⟨p, rfl, e1, vs, h1, r1⟩ := S.ref en ra
      split at q
      · rename_i hz
        exact op_rep pins s σ H _ _ v u Q I rx ry ⟨_, _, vs, rfl, rfl, h1, hz.2.1, hz.1, by rw [← r1.length]; exact hz.2.2, post.list S q (r1.rep _)⟩
      · exact q.elim
    · exact q.elim
  · exact q.elim

/-! ### xs[::-1] -/
theorem re_rev {e : Expr} {fe : FE} {k : Nat} {p1 p2 p3 pos : Pos} (hK : X.K = G.K) (he : PE X e (upE G W R fe)) : PE X (.Subscript e (.Slice none none (some (.UnaryOp .USub (.Constant (.int 1) k p1) p2)) p3) pos) (upE G W R (e1 oRevL fe)) :=
  peOf (pe_revL he) fun σ H Q ⟨ms, L, ρ, S, e, q⟩ => by
    refine ⟨ms, L, ρ, S, e, (post.bind (R1 := Rep G) q).imp (fun v H1 ⟨ms1, L1, d, x, s, r, q1⟩ => ?_) fun _ _ _ z => z⟩
    unfold oRevL at q1
    split at q1
    · cases r with
      | rol h1 r1 => exact ⟨_, _, rfl, hK ▸ h1.sq, post.list s (post.ext x q1) r1.reverse⟩
    · split at q1
      · rename_i xs en
        obtain ⟨p, rfl, _, vs, h1, r1⟩ := s.ref en r
        exact ⟨_, _, rfl, SqL.of h1, post.list s (post.ext x q1) r1.reverse⟩
      · exact q1.elim
    · exact q1.elim
end
end PD
/-! P10: dicts made, what is walked, op=, isinstance, list(range(..)). -/
namespace PD
open PySem PySem.Spec PyProof.Rows L2

/-- an object of ours becomes a cell -/
theorem Sees.adopt {G : Sta} {ms : List Addr} {L : LH} {H : Hp} {p : Addr} {o u : HO} {c : Cell} (S : Sees G ms L H) (hp : H p = some o) (mo : Mut (some o)) (np : p ∉ ms) (m : Mut (some u)) (q : CellOk G (ms ++ [p]) (upd H p u) p c) : Sees G (ms ++ [p]) (L.push c) (upd H p u) := by
  have kp : Kp G.K ms H (ms ++ [p]) (upd H p u) := ⟨fun n a h => by rw [get_app, if_neg (by have := (List.getElem?_eq_some_iff.mp h).1; omega)]; exact h, (Kp.off (ms := ms) hp mo).tup, (Kp.off (ms := ms) hp mo).rol⟩
  refine ⟨by rw [List.length_append, S.len]; rfl, ?_, ⟨fun a h => ?_⟩, fun n a c' h e => ?_⟩
  · exact List.nodup_append.mpr ⟨S.nd, by simp, fun a h b hb => by rw [List.mem_singleton.mp hb]; exact fun e => np (e ▸ h)⟩
  · rcases List.mem_append.mp h with h | h
    · obtain ⟨w, e, m'⟩ := S.fine.muts a h
      exact ⟨w, by rw [upd_ne (show a ≠ p from fun e => np (e ▸ h))]; exact e, m'⟩
    · rw [List.mem_singleton.mp h]
      exact ⟨u, upd_same, m⟩
  · rw [LH.get_push, ← S.len] at h
    rw [get_app] at e
    by_cases hn : n = ms.length
    · rw [if_pos hn] at h e
      cases h; cases e
      exact q
    · rw [if_neg hn] at h e
      refine (S.cell n a c' h e).kp kp fun w z => ?_
      rw [upd_ne (show a ≠ p from fun e' => np (by rw [← e']; exact List.mem_of_getElem? e))]; exact z
theorem Ext.adopt {ms0 ms : List Addr} {H0 H : Hp} {p : Addr} {u : HO} (x : Ext ms0 H0 ms H) (h0 : p ∈ ms0 ∨ H0 p = none) (np : p ∉ ms) : Ext ms0 H0 (ms ++ [p]) (upd H p u) := by
  have h0' : H0 p = none := by
    rcases h0 with h | h
    · obtain ⟨i, hi, e⟩ := List.mem_iff_getElem.mp h
      exact absurd (List.mem_of_getElem? (x.pre i p (by rw [← e]; exact List.getElem?_eq_getElem hi))) np
    · exact h
  refine ⟨fun n a h => ?_, fun a h => ?_, fun a o h na => ?_⟩
  · have h2 := x.pre n a h
    rw [get_app, if_neg (by have := (List.getElem?_eq_some_iff.mp h2).1; omega)]; exact h2
  · rcases List.mem_append.mp h with h | h
    · exact x.new a h
    · rw [List.mem_singleton.mp h]; exact .inr h0'
  · rw [upd_ne (ne_of_none h h0')]; exact x.keep a o h na

section
variable {X : Cx} {G : Sta} {W : WX} {R : Rec}
theorem KvRep.ext {ms ms' : List Addr} {H H' : Hp} (x : Ext ms H ms' H') (f : Fine ms H) {l : List (D × D)} {ks : List (Key × V)} (h : KvRep G ms H l ks) : KvRep G ms' H' l ks := h.kp (x.kp f)
theorem notMem_ext {ms ms' : List Addr} {H H' : Hp} {p : Addr} {o : HO} (x : Ext ms H ms' H') (np : p ∉ ms) (h : H p = some o) : p ∉ ms' := fun z => by
  rcases x.new p z with z | z
  · exact np z
  · rw [h] at z; cases z

/-! ### {} and {k: v, ..} -/
theorem re_dct0 {pos : Pos} : PE X (.Dict [] [] pos) (upE G W R (eDct [])) := peOf pe_dnewK fun σ H Q ⟨ms, L, ρ, S, e, q⟩ => fun p hp => by
  have q' : post G ms H (Rep G) Q (WE W σ) (.ok (.ref L.len) (L.push (.dct []))) := q
  exact q' (ms ++ [p]) _ _ (Ext.push hp) (S.push hp True.intro ⟨[], upd_same, .nil, by simp⟩) (.ref (by rw [get_app, if_pos S.len.symm]))
inductive RPs (X : Cx) (G : Sta) (W : WX) (R : Rec) : List (Option Expr) → List Expr → List (FE × FE) → Prop
  | nil : RPs X G W R [] [] []
  | cons {k v : Expr} {ks : List (Option Expr)} {vs : List Expr} {fk fv : FE} {ps : List (FE × FE)} : PE X k (upE G W R fk) → PE X v (upE G W R fv) → RPs X G W R ks vs ps → RPs X G W R (some k :: ks) (v :: vs) ((fk, fv) :: ps)
theorem RPs.pps {pos : Pos} {ks : List (Option Expr)} {vs : List Expr} {ps : List (FE × FE)} (h : RPs X G W R ks vs ps) : PPs X pos ks vs (ps.map fun p => (upE G W R p.1, upE G W R p.2)) := by
  induction h with
  | nil => exact pps_nil
  | cons a b _ ih => exact pps_cons a b ih
theorem RPs.len {ks : List (Option Expr)} {vs : List Expr} {ps : List (FE × FE)} (h : RPs X G W R ks vs ps) : ks.length = ps.length ∧ vs.length = ps.length ∧ ks.all (·.isSome) = true := by
  induction h with
  | nil => exact ⟨rfl, rfl, rfl⟩
  | cons a b _ ih => exact ⟨by rw [List.length_cons, List.length_cons, ih.1], by rw [List.length_cons, List.length_cons, ih.2.1], by rw [List.all_cons, ih.2.2]; rfl⟩
inductive Prs (G : Sta) (ms : List Addr) (H : Hp) : List (D × D) → List (V × V) → Prop
  | nil : Prs G ms H [] []
  | cons {a b : D} {v w : V} {l : List (D × D)} {vs : List (V × V)} : Rep G ms H a v → Rep G ms H b w → Prs G ms H l vs → Prs G ms H ((a, b) :: l) ((v, w) :: vs)
theorem post.bind2 {ms0 ms : List Addr} {H0 H : Hp} {α β γ δ : Type} {R1 : List Addr → Hp → α → β → Prop} {R2 : List Addr → Hp → γ → δ → Prop} {Q : δ → Hp → Prop} {E : XK} {k : α → LH → Res γ} (x0 : Ext ms0 H0 ms H) :
    ∀ {r : Res α}, post G ms0 H0 R2 Q E (r.bind k) → post G ms H R1 (fun v H1 => ∃ ms1 L1 a, Ext ms H ms1 H1 ∧ Sees G ms1 L1 H1 ∧ R1 ms1 H1 a v ∧ post G ms0 H0 R2 Q E (k a L1)) E r
  | .ok a L1, h => fun ms1 H1 v x s r => ⟨ms1, L1, a, x, s, r, h⟩
  | .exc _ _ _, h => fun ms' H' c d e s r => h ms' H' c d (x0.trans e) s r
  | .bad, h => h
theorem tPairs_read {δ : Type} {R2 : List Addr → Hp → D → δ → Prop} {Qf : δ → Hp → Prop} {σ : L2.St} {ρ : Slt} {ms0 : List Addr} {H0 : Hp} : ∀ (ps : List (FE × FE)) (ms : List Addr) (L : LH) (H : Hp) (k : List (D × D) → LH → Res D) (Q2 : List (V × V) → Hp → Prop), Ext ms0 H0 ms H → Sees G ms L H → EnvOk G ms H ρ σ →
    post G ms0 H0 R2 Qf (WE W σ) ((pPairs ps R ρ L).bind k) →
    (∀ ms' L' H' kvs vs, Ext ms H ms' H' → Sees G ms' L' H' → Prs G ms' H' kvs vs → post G ms0 H0 R2 Qf (WE W σ) (k kvs L') → Q2 vs H') → tPairs (ps.map fun p => (upE G W R p.1, upE G W R p.2)) σ H Q2
  | [], ms, L, H, k, Q2, x0, S, e, q, h => h ms L H [] [] (Ext.refl _ _) S .nil q
  | (fa, fb) :: r, ms, L, H, k, Q2, x0, S, e, q, h => by
    have q1 : post G ms0 H0 R2 Qf (WE W σ) ((fa R ρ L).bind fun x L1 => ((fb R ρ L1).bind fun y L2 => (pPairs r R ρ L2).bind fun ps L3 => .ok ((x, y) :: ps) L3).bind k) := by
      have q2 := q
      unfold pPairs at q2
      cases hz : fa R ρ L with
      | ok a L1 => rw [hz] at q2; exact q2
      | exc _ _ _ => rw [hz] at q2; exact q2
      | bad => rw [hz] at q2; exact q2
    refine (fun (z : upE G W R fa σ H _) => z) (?_)
    refine ⟨ms, L, ρ, S, e, (post.bind2 (R1 := Rep G) x0 q1).imp (fun v H1 ⟨ms1, L1, d, x1, s1, rd, p1⟩ => ?_) fun _ _ _ z => z⟩
    have q3 : post G ms0 H0 R2 Qf (WE W σ) ((fb R ρ L1).bind fun y L2 => ((pPairs r R ρ L2).bind fun ps L3 => .ok ((d, y) :: ps) L3).bind k) := by
      have q2 := p1
      cases hz : fb R ρ L1 with
      | ok a L1 => rw [hz] at q2; exact q2
      | exc _ _ _ => rw [hz] at q2; exact q2
      | bad => rw [hz] at q2; exact q2
    refine (fun (z : upE G W R fb σ H1 _) => z) (?_)
    refine ⟨ms1, L1, ρ, s1, e.ext x1 S.fine, (post.bind2 (R1 := Rep G) (x0.trans x1) q3).imp (fun w H2 ⟨ms2, L2, d2, x2, s2, rd2, p2⟩ => ?_) fun _ _ _ z => z⟩
    have q4 : post G ms0 H0 R2 Qf (WE W σ) ((pPairs r R ρ L2).bind fun ps L3 => k ((d, d2) :: ps) L3) := by
      have q2 := p2
      cases hz : pPairs r R ρ L2 with
      | ok a L1 => rw [hz] at q2; exact q2
      | exc _ _ _ => rw [hz] at q2; exact q2
      | bad => rw [hz] at q2; exact q2
    refine tPairs_read r ms2 L2 H2 _ _ ((x0.trans x1).trans x2) s2 ((e.ext x1 S.fine).ext x2 s1.fine) q4 fun ms' L' H' kvs vs x s rp qq => ?_
    exact h ms' L' H' _ _ ((x1.trans x2).trans x) s (.cons (Rep.ext x s2.fine _ _ (Rep.ext x2 s1.fine _ _ rd)) (Rep.ext x s2.fine _ _ rd2) rp) qq
theorem Prs.keys {ms : List Addr} {H : Hp} : ∀ {l : List (D × D)} {vs : List (V × V)}, Prs G ms H l vs → (l.all fun p => leafKey p.1) = true → ∃ kvs : List (Key × V), vs = kvs.map (fun kv => (kV kv.1, kv.2)) ∧ KvRep G ms H l kvs
  | [], _, h, _ => by cases h; exact ⟨[], rfl, .nil⟩
  | (a, b) :: l, _, h, hk => by
    cases h with
    | cons r1 r2 r3 =>
      rw [List.all_cons, Bool.and_eq_true] at hk
      obtain ⟨kvs, rfl, q⟩ := Prs.keys r3 hk.2
      obtain ⟨key, e⟩ := leaf_key hk.1
      have := keyD_rep e r1
      subst this
      exact ⟨(key, _) :: kvs, rfl, .cons e r2 q⟩
theorem KvRep.merge {ms : List Addr} {H : Hp} : ∀ {l : List (D × D)} {kvs : List (Key × V)} {acc : List (D × D)} {ks : List (Key × V)}, KvRep G ms H l kvs → KvRep G ms H acc ks → (ks.map (·.1)).Nodup →
    KvRep G ms H (l.foldl (fun acc p => dPut acc p.1 p.2) acc) (mergeK ks kvs) ∧ ((mergeK ks kvs).map (·.1)).Nodup
  | [], _, _, _, h, ha, nd => by cases h; exact ⟨ha, nd⟩
  | (a, b) :: l, _, acc, ks, h, ha, nd => by
    cases h with
    | cons h1 h2 h3 =>
      have z := KvRep.merge h3 (KvRep.put h1 h2 ha nd) (putK_keys nd)
      exact z
theorem re_dct {keys : List (Option Expr)} {values : List Expr} {ps : List (FE × FE)} {pos : Pos} (h : RPs X G W R keys values ps) (h0 : keys ≠ []) (h15 : keys.length ≤ 15) : PE X (.Dict keys values pos) (upE G W R (eDct ps)) := by
  obtain ⟨l1, l2, l3⟩ := h.len
  refine peOf (pe_disp h.pps l3 (l1.trans l2.symm) h0 h15) fun σ H Q ⟨ms, L, ρ, S, e, q⟩ => fun p hp => ?_
  have np : p ∉ ms := fun z => by
    obtain ⟨u, e, _⟩ := S.fine.muts p z
    rw [hp] at e; cases e
  have x0 : Ext ms H ms (upd H p (.dK [])) := Ext.fresh hp
  refine tPairs_read ps ms L _ _ _ x0 (S.fresh hp) (e.ext x0 S.fine) q fun ms' L' H' kvs vs x s rp qq => ?_
  have hp' : H' p = some (.dK []) := x.keep p _ upd_same np
  have np' := notMem_ext x np upd_same
  split at qq
  · rename_i hb
    rw [Bool.and_eq_true] at hb
    obtain ⟨kl, e1, rk⟩ := rp.keys hb.1
    obtain ⟨m1, m2⟩ := KvRep.merge rk (.nil : KvRep G ms' H' [] []) (by simp)
    refine ⟨hp', kl, e1, by rw [← rk.length]; exact of_decide_eq_true hb.2, ?_⟩
    have kp : Kp G.K ms' H' (ms' ++ [p]) (upd H' p (.dK (mergeK [] kl))) := ⟨fun n a h => by rw [get_app, if_neg (by have := (List.getElem?_eq_some_iff.mp h).1; omega)]; exact h, (Kp.off (ms := ms') hp' True.intro).tup, (Kp.off (ms := ms') hp' True.intro).rol⟩
    refine qq (ms' ++ [p]) _ (.ref p) ((x0.trans x).adopt (.inr hp) np') (s.adopt hp' True.intro np' True.intro ⟨_, upd_same, m1.kp kp, m2⟩) (.ref (by rw [get_app, if_pos s.len.symm]))
  · exact qq.elim

/-! ### {k: v for ..} -/
theorem dcPur_dyn (b : D → LH → Res (Option (D × D))) (xs : List D) : ∀ (r : List D) (i : Nat) (acc : List (D × D)) (L : LH), xs.drop i = r → dcPur b r acc L = dcDyn b (fun _ i => some xs[i]?) (r.length + 1) i acc L
  | [], i, acc, L, h => by
    have hl : xs.length ≤ i := List.drop_eq_nil_iff.mp h
    unfold dcPur dcDyn
    rw [List.getElem?_eq_none hl]
  | x :: r, i, acc, L, h => by
    have e : xs[i]? = some x := by
      have := congrArg List.head? h
      rw [List.head?_drop] at this
      exact this
    have e2 : xs.drop (i + 1) = r := by rw [← List.tail_drop, h]; rfl
    unfold dcPur dcDyn
    rw [e]
    dsimp only
    congr 1
    funext o L1
    cases o with
    | none => exact dcPur_dyn b xs r (i + 1) acc L1 e2
    | some p =>
      obtain ⟨y, z⟩ := p
      dsimp only
      split
      · exact dcPur_dyn b xs r (i + 1) (dPut acc y z) L1 e2
      · rfl
theorem dcRun_dyn (b : D → LH → Res (Option (D × D))) (j : Itr) (L : LH) : dcRun b j L = dcDyn b j.nx j.bnd 0 [] L := by
  cases j with
  | pur xs => exact dcPur_dyn b xs xs 0 [] L rfl
  | dyn nx k => rfl
theorem dc_read {wi : TI} {g : FG} {t : FT} {fk fe : FE} {it : FI} {vs : List Nat} {σ : L2.St} {H : Hp} {Q : VK} {ms : List Addr} {L : LH} {ρ : Slt} (S : Sees G ms L H) (e : EnvOk G ms H ρ σ) (q : post G ms H (Rep G) Q (WE W σ) (eDc vs it (cPair g t fk fe) R ρ L)) :
    tDc (upI G W R it) (upGp (PrW vs) G W0 R g) (upT G W0 R t) (upE G W0 R fk) (upE G W0 R fe) vs σ H Q := by
  refine ⟨ms, L, ρ, S, e, (post.bind (R1 := ItOk G) q).imp (fun J H1 ⟨ms1, L1, j, x1, s1, itok, q1⟩ => ?_) fun _ _ _ z => z⟩
  intro dd hD
  have q1' : post G ms H (Rep G) Q (WE W σ) ((dcRun (fun x M => cPair g t fk fe R x (wipeE ρ vs) M) j L1).bind fun kvs L2 => .ok (.ref L2.len) (L2.push (.dct kvs))) := q1
  rw [dcRun_dyn] at q1'
  let b : D → LH → Res (Option (D × D)) := fun x M => cPair g t fk fe R x (wipeE ρ vs) M
  let fin : List (D × D) → LH → Res D := fun kvs L2 => .ok (.ref L2.len) (L2.push (.dct kvs))
  have nD : dd ∉ ms1 := fun h => by
    obtain ⟨u, z, _⟩ := s1.fine.muts dd h
    rw [hD] at z; cases z
  let Wd : Nat → Nat → Hp → Prop := fun i m H' => ∃ ms' L' acc ws, Ext ms1 H1 ms' H' ∧ Sees G ms' L' H' ∧ H' dd = some (.dK ws) ∧ dd ∉ ms' ∧ KvRep G ms' H' acc ws ∧ (ws.map (·.1)).Nodup ∧ post G ms H (Rep G) Q (WE W σ) ((dcDyn b j.nx m i acc L').bind fin)
  refine ⟨Wd, ⟨j.bnd, ms1, L1, [], [], Ext.fresh hD, s1.fresh hD, upd_same, nD, .nil, by simp, q1'⟩, ?_⟩
  rintro i m H' ⟨ms', L', acc, ws, x', s', hD', nD', rs', nd', q'⟩
  cases m with
  | zero => exact q'.elim
  | succ k =>
    have ok := itok ms' L' H' i x' s'
    unfold dcDyn at q'
    cases hn : j.nx L' i with
    | none => rw [hn] at q'; exact q'.elim
    | some o =>
      rw [hn] at q' ok
      cases o with
      | none =>
        refine .inl ⟨ok, ?_⟩
        have q2 : post G ms H (Rep G) Q (WE W σ) (.ok (.ref L'.len) (L'.push (.dct acc))) := q'
        have e1 : upd H' dd (.dK ws) = H' := by
          funext a
          by_cases z : a = dd
          · rw [z, upd_same, hD']
          · rw [upd_ne z]
        have h0 : dd ∈ ms ∨ H dd = none := by
          by_cases hm : dd ∈ ms
          · exact .inl hm
          · refine .inr ?_
            cases z : H dd with
            | none => rfl
            | some u => rw [x1.keep dd u z hm] at hD; cases hD
        have xf : Ext ms H (ms' ++ [dd]) H' := by
          have y := (x1.trans x').adopt (u := .dK ws) h0 nD'
          rw [e1] at y
          exact y
        have kp : Kp G.K ms' H' (ms' ++ [dd]) (upd H' dd (.dK ws)) := ⟨fun n a h => by rw [get_app, if_neg (by have := (List.getElem?_eq_some_iff.mp h).1; omega)]; exact h, (Kp.off (ms := ms') hD' True.intro).tup, (Kp.off (ms := ms') hD' True.intro).rol⟩
        have sf := s'.adopt (u := .dK ws) hD' True.intro nD' True.intro (c := .dct acc) ⟨ws, upd_same, rs'.kp kp, nd'⟩
        rw [e1] at sf
        exact q2 (ms' ++ [dd]) H' (.ref dd) xf sf (.ref (by rw [get_app, if_pos s'.len.symm]))
      | some d =>
        refine .inr ⟨ok.1, fun H2 => Wd (i + 1) k H2, fun H2 z => ⟨k, Nat.lt_succ_self _, z⟩, fun v H'' hy => ?_⟩
        obtain ⟨x2, s2, r2⟩ := ok.2 v H'' hy
        have hD2 := x2.keep dd _ hD' nD'
        have nD2 : dd ∉ ms' := nD'
        have ew : EnvOk G ms' H'' (wipeE ρ vs) (L2.wipe σ vs) := (e.ext ((x1.trans x').trans x2) S.fine).wipe vs
        have rs2 := rs'.ext x2 s'.fine
        have q2 : post G ms H (Rep G) Q (WE W σ) (((b d L').bind fun o L1 => match o with
          | none => dcDyn b j.nx k (i + 1) acc L1
          | some (y, z) => if keyFits acc y && decide (acc.length < sizeLine) then dcDyn b j.nx k (i + 1) (dPut acc y z) L1 else .bad).bind fin) := q'
        rcases noExc_cases ((g R d (wipeE ρ vs) L').bind fun ρ1 L1 => (t R ρ1 L1).bind fun c L2 => if c then (fk R ρ1 L2).bind fun y L3 => (fe R ρ1 L3).bind fun z L4 => .ok (some (y, z)) L4 else .ok none L2) with ⟨o, M, ho, hb⟩ | hb
        · have hb' : b d L' = .ok o M := hb
          rw [hb'] at q2
          obtain ⟨ρ1, M1, hg1, ho⟩ := bind_ok ho
          obtain ⟨c, M2, ht1, ho⟩ := bind_ok ho
          refine ⟨ms', L', wipeE ρ vs, d, s2, ew, r2, ?_⟩
          rw [hg1]
          rintro ms2 H2 σ2 y2 z2 ⟨e2, p2⟩
          have p2' : L2.wipe σ2 vs = L2.wipe σ vs := p2.trans (wipe_idem σ vs)
          refine ⟨p2', ms2, M1, ρ1, z2, e2, ?_⟩
          rw [ht1]
          intro ms3 H3 c' y3 z3 hc'
          cases (show c = c' from hc')
          have nDm2 : dd ∉ ms2 := notMem_ext y2 nD2 hD2
          have hDm2 := y2.keep dd _ hD2 nD2
          have nD3 : dd ∉ ms3 := notMem_ext y3 nDm2 hDm2
          have hD3 : H3 dd = some (.dK ws) := y3.keep dd _ hDm2 nDm2
          have ex3 : Ext ms1 H1 ms3 H3 := ((x'.trans x2).trans y2).trans y3
          have rs3 := (rs2.ext y2 s2.fine).ext y3 z2.fine
          cases c with
          | false =>
            cases ho
            exact iteF ⟨ms3, _, acc, ws, ex3, z3, hD3, nD3, rs3, nd', q2⟩
          | true =>
            obtain ⟨y, M3, hk1, ho⟩ := bind_ok ho
            obtain ⟨z, M4, he1, ho⟩ := bind_ok ho
            cases ho
            have e3 := e2.ext y3 z2.fine
            refine iteT ⟨ms3, M2, ρ1, z3, e3, ?_⟩
            rw [hk1]
            intro ms4 H4 yv y4 z4 r4
            have nD4 : dd ∉ ms4 := notMem_ext y4 nD3 hD3
            have hD4 : H4 dd = some (.dK ws) := y4.keep dd _ hD3 nD3
            have rs4 := rs3.ext y4 z3.fine
            refine ⟨ms4, M3, ρ1, z4, e3.ext y4 z3.fine, ?_⟩
            rw [he1]
            intro ms5 H5 zv y5 z5 r5
            have nD5 : dd ∉ ms5 := notMem_ext y5 nD4 hD4
            have hD5 : H5 dd = some (.dK ws) := y5.keep dd _ hD4 nD4
            have rs5 := rs4.ext y5 z4.fine
            have r45 := Rep.ext y5 z4.fine _ _ r4
            have q3 : post G ms H (Rep G) Q (WE W σ) ((if keyFits acc y && decide (acc.length < sizeLine) then dcDyn b j.nx k (i + 1) (dPut acc y z) M else .bad).bind fin) := q2
            by_cases hl : (keyFits acc y && decide (acc.length < sizeLine)) = true
            · rw [if_pos hl] at q3
              rw [Bool.and_eq_true] at hl
              obtain ⟨key, hk⟩ := keyFits_leaf hl.1
              have e7 := keyD_rep hk r45
              refine ⟨ws, key, e7, hD5, by rw [← rs5.length]; exact of_decide_eq_true hl.2, ms5, _, dPut acc y z, putK ws key zv, ?_, z5.off hD5 True.intro nD5, upd_same, nD5, ?_, putK_keys nd', q3⟩
              · have ex5 := (ex3.trans y4).trans y5
                exact ⟨ex5.pre, ex5.new, fun a o' h na => by rw [upd_ne (ne_of_none h hD)]; exact ex5.keep a o' h na⟩
              · exact (KvRep.put hk r5 rs5 nd').kp (Kp.off hD5 True.intro)
            · rw [if_neg hl] at q3; exact q3.elim
        · have hb' : b d L' = .bad := hb
          rw [hb'] at q2
          exact q2.elim
theorem re_dc {kx vx tg iter : Expr} {ifs : List Expr} {scope : Scope} {own : List (Str × Nat)} {pos : Pos} {g : FG} {t : FT} {fk fe : FE} {it : FI} (hc : X.calm = true) (hN : X.N.Nodup) (hi : PI X tg iter (upI G W R it)) (ok : BlkOk X.N X.env.scope scope own)
    (hg : ∀ (s : Shared) (H : Hp) (C : Addr) (cl : List (Str × Addr)) (fp : List Addr), PG (X.blk s H scope (compEnvC scope cl C X.env) fp) tg (upGp (PrW (own.map (·.2))) G W0 R g))
    (ht : ∀ (s : Shared) (H : Hp) (C : Addr) (cl : List (Str × Addr)) (fp : List Addr), PTs (X.blk s H scope (compEnvC scope cl C X.env) fp) ifs (upT G W0 R t))
    (hk : ∀ (s : Shared) (H : Hp) (C : Addr) (cl : List (Str × Addr)) (fp : List Addr), PE (X.blk s H scope (compEnvC scope cl C X.env) fp) kx (upE G W0 R fk))
    (he : ∀ (s : Shared) (H : Hp) (C : Addr) (cl : List (Str × Addr)) (fp : List Addr), PE (X.blk s H scope (compEnvC scope cl C X.env) fp) vx (upE G W0 R fe)) (hs : ∀ x, foldedSetIterable iter X.env x = pure x) :
    PE X (.DictComp kx vx [⟨tg, iter, ifs, 0⟩] scope pos) (upE G W R (eDc (own.map (·.2)) it (cPair g t fk fe))) :=
  peOf (pe_dc hc hN hi ok hg ht hk he hs) fun σ H Q ⟨ms, L, ρ, S, e, q⟩ => dc_read (wi := upI G W R it) S e q

/-! ### what is walked -/
theorem itok_list {ms : List Addr} {H : Hp} {n : Nat} {p : Addr} (hn : ms[n]? = some p) (k : Nat) : ItOk G ms H (.dyn (listAt n) k) (Itl X.K p) := fun ms' L' H' i x S => by
  show match listAt n L' i with
    | none => True
    | some none => (Itl X.K p).stop i H'
    | some (some d) => (Itl X.K p).go i H' ∧ ∀ y H'', (Itl X.K p).yld i H' y H'' → Ext ms' H' ms' H'' ∧ Sees G ms' L' H'' ∧ Rep G ms' H'' d y
  unfold listAt
  cases en : L'.get n with
  | none => trivial
  | some c =>
    cases c with
    | lst xs =>
      dsimp only
      obtain ⟨vs, h1, r1⟩ := S.cell n p _ en (x.pre n p hn)
      cases hx : xs[i]? with
      | none =>
        have hl : xs.length ≤ i := List.getElem?_eq_none_iff.mp hx
        exact ⟨vs, SqL.of h1, by rw [← r1.length]; exact hl⟩
      | some d =>
        obtain ⟨w, e2, r2⟩ := r1.get hx
        refine ⟨⟨vs, w, SqL.of h1, e2⟩, fun y H'' hy => ?_⟩
        obtain ⟨eH, hy⟩ := hy
        subst eH
        have := hy vs (SqL.of h1)
        rw [e2] at this; cases this
        exact ⟨Ext.refl _ _, S, r2⟩
    | dct _ => trivial
    | ins _ _ => trivial
    | set _ => trivial
theorem itok_tup (hK : X.K = G.K) {ms : List Addr} {H : Hp} {p : Addr} {vs : List V} {l : List D} (f : Fine ms H) (h1 : SqT G.K H p vs) (r1 : Reps G ms H l vs) : ItOk G ms H (.pur l) (Itt X.K p) := fun ms' L' H' i x S => by
  have h2 : SqT X.K H' p vs := hK ▸ x.tup f h1
  have r2 := Reps.ext x f _ _ r1
  show match some l[i]? with
    | none => True
    | some none => (Itt X.K p).stop i H'
    | some (some d) => (Itt X.K p).go i H' ∧ ∀ y H'', (Itt X.K p).yld i H' y H'' → Ext ms' H' ms' H'' ∧ Sees G ms' L' H'' ∧ Rep G ms' H'' d y
  cases hx : l[i]? with
  | none =>
    have hl : l.length ≤ i := List.getElem?_eq_none_iff.mp hx
    exact ⟨vs, h2, by rw [← r1.length]; exact hl⟩
  | some d =>
    obtain ⟨w, e2, r3⟩ := r2.get hx
    refine ⟨⟨vs, w, h2, e2⟩, fun y H'' hy => ?_⟩
    obtain ⟨eH, hy⟩ := hy
    subst eH
    have := hy vs h2
    rw [e2] at this; cases this
    exact ⟨Ext.refl _ _, S, r3⟩
theorem itok_rol (hK : X.K = G.K) {ms : List Addr} {H : Hp} {p : Addr} {vs : List V} {l : List D} (f : Fine ms H) (h1 : RoL G.K H p vs) (r1 : Reps G ms H l vs) : ItOk G ms H (.pur l) (Itl X.K p) := fun ms' L' H' i x S => by
  have h2 : SqL X.K H' p vs := hK ▸ (x.rol f h1).sq
  have r2 := Reps.ext x f _ _ r1
  show match some l[i]? with
    | none => True
    | some none => (Itl X.K p).stop i H'
    | some (some d) => (Itl X.K p).go i H' ∧ ∀ y H'', (Itl X.K p).yld i H' y H'' → Ext ms' H' ms' H'' ∧ Sees G ms' L' H'' ∧ Rep G ms' H'' d y
  cases hx : l[i]? with
  | none =>
    have hl : l.length ≤ i := List.getElem?_eq_none_iff.mp hx
    exact ⟨vs, h2, by rw [← r1.length]; exact hl⟩
  | some d =>
    obtain ⟨w, e2, r3⟩ := r2.get hx
    refine ⟨⟨vs, w, h2, e2⟩, fun y H'' hy => ?_⟩
    obtain ⟨eH, hy⟩ := hy
    subst eH
    have := hy vs h2
    rw [e2] at this; cases this
    exact ⟨Ext.refl _ _, S, r3⟩
theorem itok_str {ms : List Addr} {H : Hp} (z : Str) : ItOk G ms H (.pur (chars z)) (Its z) := fun ms' L' H' i x S => by
  show match some (chars z)[i]? with
    | none => True
    | some none => (Its z).stop i H'
    | some (some d) => (Its z).go i H' ∧ ∀ y H'', (Its z).yld i H' y H'' → Ext ms' H' ms' H'' ∧ Sees G ms' L' H'' ∧ Rep G ms' H'' d y
  unfold chars
  rw [List.getElem?_map]
  cases hx : z.cps.toList[i]? with
  | none =>
    have hl : z.cps.toList.length ≤ i := List.getElem?_eq_none_iff.mp hx
    show z.cps.size ≤ i
    simpa using hl
  | some c =>
    refine ⟨?_, fun y H'' hy => ?_⟩
    · show i < z.cps.size
      have := (List.getElem?_eq_some_iff.mp hx).1
      simpa using this
    · obtain ⟨eH, c', hc', rfl⟩ := hy
      subst eH
      have : z.cps.toList[i]? = some c' := by simpa using hc'
      rw [hx] at this; cases this
      exact ⟨Ext.refl _ _, S, .str _⟩
theorem pi_any (hK : X.K = G.K) {tg e : Expr} {fe : FE} (he : PE X e (upE G W R fe)) : PI X tg e (upI G W R (iE fe)) := by
  refine ⟨fun pins s σ H RR I ⟨ms, L, ρ, S, en, q⟩ => ?_⟩
  have fin : ∀ (t : TE), PE X e t → True := fun _ _ => trivial
  have q0 := midE (f := fe) S en q
  refine thn (he.run pins s σ H _ I q0) fun v s1 ⟨x, H1, I1, r1, ms1, L1, d, rd, m⟩ => ?_
  have q1 := m.post
  unfold itOf at q1
  split at q1
  · cases rd with
    | @tup a vs l h1 rs1 =>
      cases r1
      obtain ⟨its, rv, p, hz⟩ := I1.tuple (show SqT X.K H1 a vs from hK ▸ h1)
      refine wpAny_pyIter_tuple (show s1.heap.IsTuple a its.toArray from p) ?_
      refine ⟨s1.heap.objs.size, [s1.heap.objs.size], _, _, H1, rfl, I1.kept (t' := s1.toks) fun b o e => Heap.get?_push_of_some _ e, turn_tuple a _, ⟨_, Heap.get?_push_size _ rfl, rfl, rfl⟩, fun b hb => ?_, q1 ms1 H1 _ (Ext.refl _ _) m.sees (itok_tup hK m.sees.fine h1 rs1)⟩
      have e : b = s1.heap.objs.size := by simpa using hb
      subst e
      exact I1.fpOk (Nat.le_refl _) (I1.hok.fresh (Nat.le_refl _))
  · cases rd with
    | @rol a vs l h1 rs1 =>
      cases r1
      obtain ⟨its, rv, p, hz⟩ := I1.list (show SqL X.K H1 a vs from hK ▸ h1.sq)
      refine wpAny_pyIter_list p.isList ?_
      refine ⟨s1.heap.objs.size, [s1.heap.objs.size], _, _, H1, rfl, I1.kept (t' := s1.toks) fun b o e => Heap.get?_push_of_some _ e, turn_list a _, ⟨_, Heap.get?_push_size _ rfl, rfl, rfl⟩, fun b hb => ?_, q1 ms1 H1 _ (Ext.refl _ _) m.sees (itok_rol hK m.sees.fine h1 rs1)⟩
      have e : b = s1.heap.objs.size := by simpa using hb
      subst e
      exact I1.fpOk (Nat.le_refl _) (I1.hok.fresh (Nat.le_refl _))
  · cases rd with
    | str _ =>
      rename_i z
      obtain ⟨t, rfl⟩ := r1
      have qz := q1 ms1 H1 _ (Ext.refl _ _) m.sees (itok_str z)
      cases ha : z.cps.all (· < 128)
      · exact wpAny_pyIter_wide ha (pi_one (tk := s1.toks) I1 _ (turn_str _ z t "str_iterator" (.inr rfl)) ⟨_, Heap.get?_push_size _ rfl, rfl, rfl⟩ qz)
      · exact wpAny_pyIter_ascii ha (pi_one (tk := s1.toks) I1 _ (turn_str _ z t "str_ascii_iterator" (.inl rfl)) ⟨_, Heap.get?_push_size _ rfl, rfl, rfl⟩ qz)
  · split at q1
    · rename_i xs en1
      obtain ⟨p, rfl, e1, vs, h1, rs1⟩ := m.sees.ref en1 rd
      cases r1
      obtain ⟨its, rv, pl, hz⟩ := I1.list (SqL.of h1)
      refine wpAny_pyIter_list pl.isList ?_
      refine ⟨s1.heap.objs.size, [s1.heap.objs.size], _, _, H1, rfl, I1.kept (t' := s1.toks) fun b o e => Heap.get?_push_of_some _ e, turn_list p _, ⟨_, Heap.get?_push_size _ rfl, rfl, rfl⟩, fun b hb => ?_, q1 ms1 H1 _ (Ext.refl _ _) m.sees (itok_list e1 _)⟩
      have e : b = s1.heap.objs.size := by simpa using hb
      subst e
      exact I1.fpOk (Nat.le_refl _) (I1.hok.fresh (Nat.le_refl _))
    · exact q1.elim
  · exact q1.elim
theorem itok_rng {ms : List Addr} {H : Hp} (lo : Int) (n : Nat) : ItOk G ms H (.pur (rgInts lo n)) (L2.Itr lo n) := fun ms' L' H' i x S => by
  show match some (rgInts lo n)[i]? with
    | none => True
    | some none => (L2.Itr lo n).stop i H'
    | some (some d) => (L2.Itr lo n).go i H' ∧ ∀ y H'', (L2.Itr lo n).yld i H' y H'' → Ext ms' H' ms' H'' ∧ Sees G ms' L' H'' ∧ Rep G ms' H'' d y
  unfold rgInts
  rw [List.getElem?_map]
  by_cases hi : i < n
  · rw [List.getElem?_range hi]
    refine ⟨hi, fun y H'' hy => ?_⟩
    obtain ⟨eH, rfl⟩ := hy
    subst eH
    exact ⟨Ext.refl _ _, S, .int _⟩
  · rw [List.getElem?_eq_none (by rw [List.length_range]; omega)]
    exact (show n ≤ i by omega)
theorem in62_ok {i : Int} (h : in62 i = true) : -(2 ^ 62) ≤ i ∧ i < 2 ^ 62 := by
  unfold in62 at h
  rw [Bool.and_eq_true] at h
  exact ⟨of_decide_eq_true h.1, of_decide_eq_true h.2⟩
theorem pi_rg1 {tg a : Expr} {fa : FA} {p pos : Pos} (hg : Gl X "range") (hm : X.mg "range" = none) (ha : PA X [a] (upA G W R fa)) (hs : plainArgs [a] = true) : PI X tg (.Call (.Name "range" p) [a] [] pos) (upI G W R (iRange1 fa)) :=
  piOf (pi_range1 hg hm ha (by obtain ⟨h1, _⟩ := plain_ne hs; exact starEach_plain h1)) fun σ H Q ⟨ms, L, ρ, S, e, q⟩ => by
    refine ⟨ms, L, ρ, S, e, (post.bind (R1 := Reps G) q).imp (fun vs H1 ⟨ms1, L1, ds, x, s, r, q1⟩ => ?_) fun _ _ _ z => z⟩
    split at q1
    · obtain ⟨v, hv, r⟩ := reps1 r; cases r; subst hv
      split at q1
      · rename_i hb
        obtain ⟨b1, b2⟩ := in62_ok hb
        exact ⟨_, rfl, b1, b2, q1 ms1 H1 _ x s (itok_rng 0 _)⟩
      · exact q1.elim
    · exact q1.elim
theorem pi_rg2 {tg a b : Expr} {fa : FA} {p pos : Pos} (hg : Gl X "range") (hm : X.mg "range" = none) (ha : PA X [a, b] (upA G W R fa)) (hs : plainArgs [a, b] = true) : PI X tg (.Call (.Name "range" p) [a, b] [] pos) (upI G W R (iRange2 fa)) := by
  obtain ⟨h1, h2⟩ := plain_ne hs
  obtain ⟨h3, _⟩ := plain_ne h2
  refine piOf (pi_range2 hg hm ha (by rw [starEach_plain h1, starEach_plain h3]; rfl) (starEach_plain h3)) fun σ H Q ⟨ms, L, ρ, S, e, q⟩ => ?_
  refine ⟨ms, L, ρ, S, e, (post.bind (R1 := Reps G) q).imp (fun vs H1 ⟨ms1, L1, ds, x, s, r, q1⟩ => ?_) fun _ _ _ z => z⟩
  split at q1
  · obtain ⟨v, w, hv, r1, r2⟩ := reps2 r; cases r1; cases r2; subst hv
    split at q1
    · rename_i hb
      rw [Bool.and_eq_true] at hb
      obtain ⟨b1, b2⟩ := in62_ok hb.1
      obtain ⟨b3, b4⟩ := in62_ok hb.2
      exact ⟨_, _, rfl, ⟨b1, b2, b3, b4⟩, q1 ms1 H1 _ x s (itok_rng _ _)⟩
    · exact q1.elim
  · exact q1.elim
theorem itok_enum {ms : List Addr} {H : Hp} {n : Nat} {p : Addr} (hn : ms[n]? = some p) (k : Nat) : ItOk G ms H (.dyn (enuAt n) k) (Ite X.K p) := fun ms' L' H' i x S => by
  show match enuAt n L' i with
    | none => True
    | some none => (Ite X.K p).stop i H'
    | some (some d) => (Ite X.K p).go i H' ∧ ∀ y H'', (Ite X.K p).yld i H' y H'' → Ext ms' H' ms' H'' ∧ Sees G ms' L' H'' ∧ Rep G ms' H'' d y
  unfold enuAt
  cases en : L'.get n with
  | none => trivial
  | some c =>
    cases c with
    | lst xs =>
      dsimp only
      obtain ⟨vs, h1, r1⟩ := S.cell n p _ en (x.pre n p hn)
      cases hx : xs[i]? with
      | none =>
        have hl : xs.length ≤ i := List.getElem?_eq_none_iff.mp hx
        exact ⟨vs, SqL.of h1, by rw [← r1.length]; exact hl⟩
      | some d =>
        obtain ⟨w, e2, r2⟩ := r1.get hx
        refine ⟨⟨vs, w, SqL.of h1, e2⟩, fun y H'' hy => ?_⟩
        obtain ⟨T, x', rfl, hT, rfl, hy⟩ := hy
        have := hy vs (SqL.of h1)
        rw [e2] at this; cases this
        have xx : Ext ms' H' ms' (upd H' T (.tup [.int (i : Nat), w])) := Ext.fresh hT
        exact ⟨xx, S.fresh hT, .tup (SqT.of upd_same) (.cons (.int _) (.cons (Rep.ext xx S.fine _ _ r2) .nil))⟩
    | dct _ => trivial
    | ins _ _ => trivial
    | set _ => trivial
theorem pi_enumE {e : Expr} {fa : FA} {p pos tpos : Pos} {elts : List Expr} {kk : Nat} (hg : Gl X "enumerate") (hm : X.mg "enumerate" = none) (ha : PA X [e] (upA G W R fa)) (hs : plainArgs [e] = true) : PI X (.Tuple elts kk tpos) (.Call (.Name "enumerate" p) [e] [] pos) (upI G W R (iEnumE fa)) :=
  piOf (pi_enum hg hm ha (by obtain ⟨h1, _⟩ := plain_ne hs; exact starEach_plain h1)) fun σ H Q ⟨ms, L, ρ, S, e, q⟩ => by
    refine ⟨ms, L, ρ, S, e, (post.bind (R1 := Reps G) q).imp (fun vs H1 ⟨ms1, L1, ds, x, s, r, q1⟩ => ?_) fun _ _ _ z => z⟩
    unfold itEnum at q1
    split at q1
    · obtain ⟨v, rfl, r'⟩ := reps1 r
      split at q1
      · rename_i xs en
        obtain ⟨p, rfl, e1, vs, h1, rs1⟩ := s.ref en r'
        exact ⟨p, vs, rfl, SqL.of h1, q1 ms1 H1 _ x s (itok_enum e1 _)⟩
      · exact q1.elim
    · exact q1.elim

/-! ### list(range(..)), tuple(range(..)) -/
theorem rgOk_ok {a b : Int} (h : rgOk a b = true) : RgOk a b := by
  unfold rgOk at h
  rw [Bool.and_eq_true, Bool.and_eq_true] at h
  obtain ⟨b1, b2⟩ := in62_ok h.1.1
  obtain ⟨b3, b4⟩ := in62_ok h.1.2
  exact ⟨b1, b2, b3, b4, of_decide_eq_true h.2⟩
theorem rgV_rep {ms : List Addr} {H : Hp} (a b : Int) : Reps G ms H (rgInts a (b - a).toNat) (rgV a b) := by
  unfold rgInts rgV
  generalize List.range (b - a).toNat = l
  induction l with
  | nil => exact .nil
  | cons x r ih => exact .cons (.int _) ih
section
variable {a b e : Expr} {fa fb : FE} {p pos pos2 p2 : Pos}
theorem rgf_lst {ms : List Addr} {L : LH} {H : Hp} {Q : VK} {E : XK} {i j : Int} (S : Sees G ms L H) (q : post G ms H (Rep G) Q E (oLstR i j L)) : ∀ r, H r = none → Q (.ref r) (upd H r (.lst (rgV i j))) := post.list S q (rgV_rep i j)
theorem rgf_tup {ms : List Addr} {L : LH} {H : Hp} {Q : VK} {E : XK} {i j : Int} (S : Sees G ms L H) (q : post G ms H (Rep G) Q E (oTupR i j L)) : ∀ r, H r = none → Q (.ref r) (upd H r (.tup (rgV i j))) := post.tuple S q (rgV_rep i j)
theorem rg1_read {f : Int → Int → LH → Res D} {K : Int → Int → Hp → VK → Prop} (hk : ∀ (ms : List Addr) (L : LH) (H : Hp) (Q : VK) (E : XK) (i j : Int), Sees G ms L H → post G ms H (Rep G) Q E (f i j L) → K i j H Q) {σ : L2.St} {H : Hp} {Q : VK} (h : upE G W R (rg1 f fa) σ H Q) : tRg1 (upE G W R fa) σ H fun a b H1 => RgOk a b ∧ K a b H1 Q := by
  obtain ⟨ms, L, ρ, S, e, q⟩ := h
  refine ⟨ms, L, ρ, S, e, (post.bind (R1 := Rep G) q).imp (fun v H1 ⟨ms1, L1, d, x, s, r, q1⟩ => ?_) fun _ _ _ z => z⟩
  split at q1
  · cases r
    split at q1
    · rename_i hb
      exact ⟨_, rfl, rgOk_ok hb, hk _ _ _ _ _ _ _ s (post.ext x q1)⟩
    · exact q1.elim
  · exact q1.elim
theorem rg2_read {f : Int → Int → LH → Res D} {K : Int → Int → Hp → VK → Prop} (hk : ∀ (ms : List Addr) (L : LH) (H : Hp) (Q : VK) (E : XK) (i j : Int), Sees G ms L H → post G ms H (Rep G) Q E (f i j L) → K i j H Q) {σ : L2.St} {H : Hp} {Q : VK} (h : upE G W R (rg2 f fa fb) σ H Q) : tRg2 (upE G W R fa) (upE G W R fb) σ H fun a b H1 => RgOk a b ∧ K a b H1 Q := by
  obtain ⟨ms, L, ρ, S, e, q⟩ := h
  refine ⟨ms, L, ρ, S, e, (post.bind (R1 := Rep G) q).imp (fun v H1 ⟨ms1, L1, d, x, s, r, q1⟩ => ?_) fun _ _ _ z => z⟩
  refine ⟨ms1, L1, ρ, s, e.ext x S.fine, (post.bind (R1 := Rep G) (post.ext x q1)).imp (fun w H2 ⟨ms2, L2, d2, x2, s2, r2, q2⟩ => ?_) fun _ _ _ z => z⟩
  split at q2
  · cases r; cases r2
    split at q2
    · rename_i hb
      exact ⟨_, _, rfl, rfl, rgOk_ok hb, hk _ _ _ _ _ _ _ s2 (post.ext x2 q2)⟩
    · exact q2.elim
  · exact q2.elim
theorem re_lrg1 (hc : X.calm = true) (hg : Gl X "list") (hm : X.mg "list" = none) (hg2 : Gl X "range") (hm2 : X.mg "range" = none) (ha : PE X a (upE G W R fa)) (hp : plainArgs [a] = true) : PE X (.Call (.Name "list" p) [.Call (.Name "range" p2) [a] [] pos2] [] pos) (upE G W R (rg1 oLstR fa)) :=
  peOf (pe_listRg hc hg hm (prg_1 hg2 hm2 ha (starEach_plain (plain_ne hp).1)) (starEach_plain (fun _ _ z => nomatch z))) fun σ H Q h => rg1_read (K := fun i j H Q => ∀ r, H r = none → Q (.ref r) (upd H r (.lst (rgV i j)))) (fun _ _ _ _ _ _ _ S q => rgf_lst S q) h
theorem re_trg1 (hc : X.calm = true) (hg : Gl X "tuple") (hm : X.mg "tuple" = none) (hg2 : Gl X "range") (hm2 : X.mg "range" = none) (ha : PE X a (upE G W R fa)) (hp : plainArgs [a] = true) : PE X (.Call (.Name "tuple" p) [.Call (.Name "range" p2) [a] [] pos2] [] pos) (upE G W R (rg1 oTupR fa)) :=
  peOf (pe_tupRg hc hg hm (prg_1 hg2 hm2 ha (starEach_plain (plain_ne hp).1)) (starEach_plain (fun _ _ z => nomatch z))) fun σ H Q h => rg1_read (K := fun i j H Q => ∀ r, H r = none → Q (.ref r) (upd H r (.tup (rgV i j)))) (fun _ _ _ _ _ _ _ S q => rgf_tup S q) h
theorem re_lrg2 (hc : X.calm = true) (hg : Gl X "list") (hm : X.mg "list" = none) (hg2 : Gl X "range") (hm2 : X.mg "range" = none) (ha : PE X a (upE G W R fa)) (hb : PE X b (upE G W R fb)) (hp : plainArgs [a, b] = true) : PE X (.Call (.Name "list" p) [.Call (.Name "range" p2) [a, b] [] pos2] [] pos) (upE G W R (rg2 oLstR fa fb)) :=
  peOf (pe_listRg hc hg hm (prg_2 hg2 hm2 ha hb (starEach_plain (plain_ne hp).1) (starEach_plain (plain_ne (plain_ne hp).2).1) (plain_any (plain_ne hp).2)) (starEach_plain (fun _ _ z => nomatch z))) fun σ H Q h => rg2_read (K := fun i j H Q => ∀ r, H r = none → Q (.ref r) (upd H r (.lst (rgV i j)))) (fun _ _ _ _ _ _ _ S q => rgf_lst S q) h
theorem re_trg2 (hc : X.calm = true) (hg : Gl X "tuple") (hm : X.mg "tuple" = none) (hg2 : Gl X "range") (hm2 : X.mg "range" = none) (ha : PE X a (upE G W R fa)) (hb : PE X b (upE G W R fb)) (hp : plainArgs [a, b] = true) : PE X (.Call (.Name "tuple" p) [.Call (.Name "range" p2) [a, b] [] pos2] [] pos) (upE G W R (rg2 oTupR fa fb)) :=
  peOf (pe_tupRg hc hg hm (prg_2 hg2 hm2 ha hb (starEach_plain (plain_ne hp).1) (starEach_plain (plain_ne (plain_ne hp).2).1) (plain_any (plain_ne hp).2)) (starEach_plain (fun _ _ z => nomatch z))) fun σ H Q h => rg2_read (K := fun i j H Q => ∀ r, H r = none → Q (.ref r) (upd H r (.tup (rgV i j)))) (fun _ _ _ _ _ _ _ S q => rgf_tup S q) h
end

/-! ### isinstance(e, T) -/
theorem kitB_all : ∀ s ∈ tyNames7, ∀ T ∈ tyNames, kitB s T = some (subTy s T) := by decide +kernel
theorem tyOf_ok {a : D} {L : LH} {s : String} {ms : List Addr} {H : Hp} {v : V} (hK : X.K = G.K) (h : tyOfD a L = some s) (S : Sees G ms L H) (r : Rep G ms H a v) : TyX X.K H v (.type s) ∧ s ∈ tyNames7 := by
  unfold tyOfD at h
  split at h
  · cases h; cases r; exact ⟨.base .non, by simp [tyNames7]⟩
  · cases h; cases r; exact ⟨.base (.bl _), by simp [tyNames7]⟩
  · cases h; cases r; exact ⟨.base (.int _), by simp [tyNames7]⟩
  · cases h; cases r; exact ⟨.base (.str _), by simp [tyNames7]⟩
  · cases h
    cases r with
    | tup h1 r1 =>
      refine ⟨?_, by simp [tyNames7]⟩
      rcases h1 with (h1 | ⟨o, h1⟩) | h1
      · exact .base (.tup h1)
      · exact .fTuple h1
      · obtain ⟨o, its, n, e, c, _⟩ := h1
        exact .kTuple (hK ▸ e) c
  · split at h
    · rename_i xs en
      cases h
      obtain ⟨p, rfl, _, vs, h1, _⟩ := S.ref en r
      exact ⟨.base (.lst h1), by simp [tyNames7]⟩
    · rename_i kvs en
      cases h
      obtain ⟨p, rfl, _, vs, h1, _⟩ := S.ref en r
      exact ⟨.base (.dK h1), by simp [tyNames7]⟩
    · cases h
  · cases h
theorem isTy_ok {T : String} {a : D} {L : LH} {b : Bool} {ms : List Addr} {H : Hp} {v : V} (hK : X.K = G.K) (h : isTyD T a L = some b) (S : Sees G ms L H) (r : Rep G ms H a v) : ∃ t, TyX X.K H v t ∧ PySem.W.kitOne X.K t (.type T) = some b := by
  unfold isTyD at h
  split at h
  · rename_i hT
    cases hs : tyOfD a L with
    | none => rw [hs] at h; cases h
    | some s =>
      rw [hs] at h
      cases h
      obtain ⟨h1, h2⟩ := tyOf_ok hK hs S r
      exact ⟨_, h1, kit_ty (kitB_all s h2 T (by simpa using hT))⟩
  · cases h
theorem re_isi {T : String} {x : Str} {a : Expr} {fa : FE} {p p2 pos : Pos} (hK : X.K = G.K) (hg : Gl X "isinstance") (hm : X.mg "isinstance" = none) (hg2 : Gl X x) (hm2 : X.mg x = none) (hv : bootBuiltins x = some (.type T)) (hn : x ≠ "__name__") (hdb : (x == ("__debug__" : Str)) = false) (ha : PE X a (upE G W R fa)) (hp : plainArgs [a] = true) :
    PE X (.Call (.Name "isinstance" p) [a, .Name x p2] [] pos) (upE G W R (e1 (oIsi T) fa)) := by
  have hs := starEach_plain (es := [.Name x p2]) (env := X.env) (plain_ne hp).1
  have hs2 : starEach [Expr.Name x p2] X.env = (false, eval (Expr.Name x p2) X.env) :: starEach [] X.env := starEach_plain (fun _ _ z => nomatch z)
  refine peOf (pe_callB call_isi hg hm PyProof.Rows.boot_isinstance (pa_cons ha (pa_cons (pe_bltn (v := .ty T) hg2 hm2 hv rfl hn hdb) pa_nil hs2) hs) (by decide) (by decide) hs (plain_any (by rfl))) fun σ H Q ⟨ms, L, ρ, S, e, q⟩ => ?_
  refine (fun (z : upE G W R fa σ H _) => z) ?_
  refine ⟨ms, L, ρ, S, e, (post.bind (R1 := Rep G) q).imp (fun v H1 ⟨ms1, L1, d, x, s, r, q1⟩ => ?_) fun _ _ _ z => z⟩
  unfold oIsi at q1
  split at q1
  · rename_i b hb
    obtain ⟨t, h1, h2⟩ := isTy_ok hK hb s r
    exact ⟨v, .ty T, t, .type T, b, rfl, .ty T, h1, h2, q1 ms1 H1 _ x s (.bl _)⟩
  · exact q1.elim

/-! ### op= -/
theorem op_oIAdd : Op2 X G W (inplaceOp .Add) oIAdd := by
  intro pins s σ H ms L a b x y v u Q I S ra rb rx ry q
  unfold oIAdd at q
  split at q
  · cases ra; cases rb
    exact ip_add pins s σ H _ _ v u Q I rx ry ⟨_, _, rfl, rfl, post.same S q (.int _)⟩
  · exact q.elim
theorem stA {σ : L2.St} {H : Hp} {ms : List Addr} {L : LH} {ρ : Slt} {E : Ends} {r : Res D} {k : D → LH → Res (Fl × Slt)} (S : Sees G ms L H) (e : EnvOk G ms H ρ σ) (h : postS G W ms H E (r.st ρ k)) :
    post G ms H (Rep G) (fun v H1 => ∃ ms1 L1 d, Ext ms H ms1 H1 ∧ Sees G ms1 L1 H1 ∧ Rep G ms1 H1 d v ∧ EnvOk G ms1 H1 ρ σ ∧ postS G W ms H E (k d L1)) (WE W σ) r := (postS.st (R1 := Rep G) S e h).imp (fun v H1 ⟨ms1, L1, d, x, s, r, en, q⟩ => ⟨ms1, L1, d, x, s, r, en, q⟩) fun _ _ _ z => z
theorem rs_aug {i : Nat} {x : Str} {a : Expr} {fa : FE} {g : D → D → LH → Res D} {op : Operator} {pos pos' : Pos} (hN : X.N.Nodup) (hi : X.N[i]? = some x) (hx : Loc X.env.scope x) (ho : Op2 X G W (inplaceOp op) g) (ha : PE X a (upE G W R fa)) (hf : X.fn x = true ∨ X.env.scope.names.lookup x = some .local) :
    PS X (.AugAssign (.Name x pos') op a pos) (upS G W R (sAug i g fa)) := by
  refine ⟨fun pins s σ H D I ⟨ms, L, ρ, S, en, q⟩ => ?_⟩
  unfold sAug at q
  cases hz : ρ[i]? with
  | none => rw [hz] at q; exact q.elim
  | some o =>
    rw [hz] at q
    cases o with
    | none => exact q.elim
    | some d =>
      dsimp only at q
      obtain ⟨v, ev, rd⟩ := en.at_ i d hz
      obtain ⟨m, hn, hl⟩ := I.loc
      have vis : Vis X.env.scope x := by rcases hx with k | k; exact .inl k; exact .inr (.inl k)
      obtain ⟨u, r, l⟩ := hl i x v hi ev vis
      refine wpAny_AugAssign_Name ?_
      have go : wpAny (model X.prog X.w) X.A (eval a X.env) (fun w s₂ => wpAny (model X.prog X.w) X.A (inplaceOp op u w) (fun r s₃ => wpAny (model X.prog X.w) X.A (storeName X.env x r) (fun _ => SP X pins D .next) X.xe s₃) X.xe s₂) X.xe s := by
        refine thn (ha.run pins s σ H _ I ⟨ms, L, ρ, S, en, stA S en q⟩) fun w s1 ⟨y, H1, I1, r1, ms1, L1, d1, x1, S1, rd1, en1, q1⟩ => ?_
        refine thn (ho pins s1 σ H1 ms1 L1 d d1 v y u w _ I1 S1 (Rep.ext x1 S.fine _ _ rd) rd1 r r1 (stA S1 en1 (postS.ext x1 q1))) fun z s2 ⟨zv, H2, I2, r2, ms2, L2, d2, x2, S2, rd2, en2, q2⟩ => ?_
        exact store_ok I2 hN hi hx r2 (fun s3 I3 => ⟨_, H2, I3, q2 ms2 H2 _ x2 S2 (en2.set rd2 i)⟩) hf
      rcases l with ⟨hk, hm⟩ | ⟨hk, c, hc, hcell⟩
      · exact wpAny_loadName_local I.ok.kind hk hn hm go
      · rcases hk with hk | hk
        · exact wpAny_loadName_cell I.ok.kind hk hc hcell go
        · rcases hx with k | k
          · have : X.env.scope.names.lookup x = some .free := hk
            rw [k] at this; cases this
          · have : X.env.scope.names.lookup x = some .free := hk
            rw [k] at this; cases this
theorem get_oIxL {pins : List (Addr × Obj)} {s : Shared} {σ : L2.St} {H : Hp} {ms : List Addr} {L : LH} {a b : D} {x y : V} {v u : Value} {Q : VK} (I : Inv X pins σ H s) (S : Sees G ms L H) (ra : Rep G ms H a x) (rb : Rep G ms H b y) (rx : RelV x v) (ry : RelV y u)
    (q : post G ms H (Rep G) Q (WE W σ) (oIxL a b L)) : wpAny (model X.prog X.w) X.A (getItem v u) (EP X pins σ Q) X.xe s := by
  unfold oIxL at q
  split at q
  · rename_i n i
    split at q
    · rename_i xs en
      obtain ⟨p, rfl, e1, vs, h1, r1⟩ := S.ref en ra
      cases rb
      cases rx
      obtain ⟨t, rfl⟩ := ry
      split at q
      · rename_i hb
        split at q
        · rename_i d hd
          obtain ⟨its, rv, pl, hz⟩ := I.list (SqL.of h1)
          obtain ⟨w, e2, r2⟩ := r1.get hd
          obtain ⟨w', e3, r3⟩ := rv.get e2
          exact PySem.wpAny_getItem_list pl.isList hb.1 (by omega) (by simpa using e3) ⟨w, H, I, r3, post.same S q r2⟩
        · exact q.elim
      · exact q.elim
    · exact q.elim
  · exact q.elim
theorem rs_subaug {o i e : Expr} {fo fi fe : FE} {g : D → D → LH → Res D} {op : Operator} {tpos pos : Pos} (hu : X.A.units + 64 < cLine) (hK : X.K = G.K) (ho : PE X o (upE G W R fo)) (hi : PE X i (upE G W R fi)) (he : PE X e (upE G W R fe)) (hg : Op2 X G W (inplaceOp op) g)
    (ha : ∀ ov iv new, augStore i ov iv new = (do holding [new, ov, iv] (setItem ov iv new); release [new, ov, iv] []; pure .next)) : PS X (.AugAssign (.Subscript o i tpos) op e pos) (upS G W R (sSubAug fo fi g fe)) := by
  refine ⟨fun pins s σ H D I ⟨ms, L, ρ, S, en, q⟩ => ?_⟩
  refine wpAny_AugAssign_SubscriptAny (thn (ho.run pins s σ H _ I ⟨ms, L, ρ, S, en, stA S en q⟩) fun ov s1 ⟨x1, H1, I1, r1, ms1, L1, d1, y1, S1, rd1, en1, q1⟩ => ?_) ha
  refine thn (hi.run pins s1 σ H1 _ I1 ⟨ms1, L1, ρ, S1, en1, stA S1 en1 (postS.ext y1 q1)⟩) fun iv s2 ⟨x2, H2, I2, r2, ms2, L2, d2, y2, S2, rd2, en2, q2⟩ => ?_
  have rd1' := Rep.ext y2 S1.fine _ _ rd1
  refine thn (get_oIxL I2 S2 rd1' rd2 r1 r2 (stA S2 en2 (postS.ext y2 q2))) fun old s3 ⟨x3, H3, I3, r3, ms3, L3, d3, y3, S3, rd3, en3, q3⟩ => ?_
  have rd13 := Rep.ext y3 S2.fine _ _ rd1'
  have rd23 := Rep.ext y3 S2.fine _ _ rd2
  refine thn (he.run pins s3 σ H3 _ I3 ⟨ms3, L3, ρ, S3, en3, stA S3 en3 (postS.ext y3 q3)⟩) fun v s4 ⟨x4, H4, I4, r4, ms4, L4, d4, y4, S4, rd4, en4, q4⟩ => ?_
  have rd14 := Rep.ext y4 S3.fine _ _ rd13
  have rd24 := Rep.ext y4 S3.fine _ _ rd23
  have rd34 := Rep.ext y4 S3.fine _ _ rd3
  refine thn (hg pins s4 σ H4 ms4 L4 d3 d4 x3 x4 old v _ I4 S4 rd34 rd4 r3 r4 (stA S4 en4 (postS.ext y4 q4))) fun new s5 ⟨x5, H5, I5, r5, ms5, L5, d5, y5, S5, rd5, en5, q5⟩ => ?_
  have rd15 := Rep.ext y5 S4.fine _ _ rd14
  have rd25 := Rep.ext y5 S4.fine _ _ rd24
  have q6 := (postS.st (R1 := fun _ _ (_ _ : Unit) => True) S5 en5 (postS.ext y5 q5))
  refine thn (set_oSet (E := WE W σ) hu hK I5 S5 rd15 rd25 rd5 r1 r2 r5 q6) fun _ s6 ⟨H6, I6, ms6, L6, _, y6, S6, _, en6, q7⟩ => ⟨σ, H6, I6, q7 ms6 H6 σ y6 S6 en6⟩
end
end PD
/-! P10b: raise, try. -/
namespace PD
open PySem PySem.Spec PyProof.Rows L2

/-- the promise of an exception's __init__: the one field that it sets -/
def spX (G : Sta) (m : Nat) (c : Nat) (f : Str) (r : List D → LH → Res D) : Sp := fun vs H Q E => vs.length = m ∧ ∃ a ws, vs = .ref a :: ws ∧ H a = some (exo a (G.CA c) none) ∧ ∃ ms L ds v L', Sees G ms L H ∧ a ∉ ms ∧ Reps G ms H ds ws ∧ r (.non :: ds) L = .ok v L' ∧
  ∀ ms' H' vV, Ext ms H ms' H' → Sees G ms' L' H' → Rep G ms' H' v vV → ∀ dx, H' dx = none → dx ≠ a → Q .non (upd (upd H' dx (exd dx [(f, vV)])) a (exo a (G.CA c) (some dx)))
/-- an own exception's class, as raise needs it -/
structure XcOk (G : Sta) (k : Nat) (c : Nat) (f : Str) (ps : List Str) (r : List D → LH → Res D) : Prop where
  oex : OexC G.K (G.CA c)
  ok : ∃ fI fd, PySem.W.findIn G.K (.ref (G.CA c)) "__init__" = some (some (.ref fI)) ∧ PySem.W.typeIn G.K (.ref fI) = some (.type "function") ∧ FnOk G.P G.w G.K G.mg G.base (L2.CX G.P G.w) k fI fd ps (spX G ps.length c f r) ∧ Binds G.K fd ps []
  fit : fits ps.length r
section
variable {X : Cx} {G : Sta} {W : WX} {R : Rec}
theorem passes0 {X : Cx} : Passes (L2.CX X.prog X.w) X (fun _ _ _ => False) := fun pins σ H s e s' I c => by
  have z := XE.of_call (W := fun _ _ _ _ => False) I (fun _ _ _ h => h) c
  obtain ⟨_, _, _, _, _, _, _, _, _, _, _, _, _, _, _, _, q⟩ := z
  exact q.elim
theorem rs_raise {k c i : Nat} {x f : Str} {p pos pos2 : Pos} {e0 : Expr} {es : List Expr} {fa : FA} {ps : List Str} (eP : X.prog = G.P) (ew : X.w = G.w) (hK : X.K = G.K) (emg : X.mg = G.mg) (ebase : X.base = G.base) (XC : XcOk G k c f ps (R i)) (hr : Room (k + 1) X.A) (hc : X.calm = true) (tk : Takes X W) (hx : Gl X x) (hm : X.mg x = some (.ref (G.CA c)))
    (ha : PA X (e0 :: es) (upA G W R fa)) (hp : plainArgs (e0 :: es) = true) (hdb : (x == ("__debug__" : Str)) = false) : PS X (.Raise (some (.Call (.Name x p) (e0 :: es) [] pos)) none pos2) (upS G W R (sRaise c f i fa)) := by
  obtain ⟨fI, fd, iC, tI, F1, hb⟩ := XC.ok
  obtain ⟨h1, h2⟩ := plain_ne hp
  have F2 : FnOk X.prog X.w X.K X.mg X.base (L2.CX X.prog X.w) k fI fd ps (spX G ps.length c f (R i)) := by
    rw [eP, ew, hK, emg, ebase]; exact F1
  refine psOf (ps_raise hc tk (pmk_oex (hK ▸ XC.oex) (hK ▸ iC) (hK ▸ tI) F2 hr (hK ▸ hb) (dvs := []) .nil passes0 hx hm ha hdb (starEach_plain h1) (plain_any h2))) fun E σ H ⟨ms, L, ρ, S, e, q⟩ => ?_
  refine ⟨ms, L, ρ, S, e, (postS.st (R1 := Reps G) S e q).imp (fun vs H1 ⟨ms1, L1, ds, x1, s1, r1, e1, q1⟩ => ?_) fun _ _ _ z => z⟩
  split at q1
  · rename_i hz
    refine ⟨by rw [← r1.length]; omega, fun a hna => ?_⟩
    have xa : Ext ms1 H1 ms1 (upd H1 a (exo a (G.CA c) none)) := Ext.fresh hna
    have nam : a ∉ ms1 := fun z => by
      obtain ⟨u, e, _⟩ := s1.fine.muts a z
      rw [hna] at e; cases e
    rcases noExc_cases (R i (.non :: ds) L1) with ⟨v, L2', hv, hne⟩ | hb'
    · rw [hne] at q1
      have q2 : postS G W ms H E (.ok (.ex c [(f, v)], ρ) L2') := q1
      rw [List.append_nil]
      have hlen : (V.ref a :: vs).length = ps.length := by
        rw [List.length_cons, ← r1.length]
        by_cases hn : (D.non :: ds).length = ps.length
        · exact hn
        · rw [XC.fit _ _ hn] at hv; cases hv
      refine ⟨hlen, a, vs, rfl, upd_same, ms1, L1, ds, v, L2', s1.fresh hna, nam, Reps.ext xa s1.fine _ _ r1, hv, fun ms' H' vV x2 s2 r2 dx hdx nda => ?_⟩
      have x3 := xa.trans x2
      have hHa : H' a = some (exo a (G.CA c) none) := x2.keep a _ upd_same nam
      have nam' : a ∉ ms' := notMem_ext x2 nam upd_same
      have h1dx : H1 dx = none := by
        cases z : H1 dx with
        | none => rfl
        | some u =>
          by_cases hm : dx ∈ ms1
          · obtain ⟨w, e, _⟩ := s2.fine.muts dx (by
              obtain ⟨j, hj, e⟩ := List.mem_iff_getElem.mp hm
              exact List.mem_of_getElem? (x2.pre j dx (by rw [← e]; exact List.getElem?_eq_getElem hj)))
            rw [hdx] at e; cases e
          · rw [x2.keep dx u (by rw [upd_ne nda]; exact z) hm] at hdx; cases hdx
      refine ⟨rfl, dx, [(f, vV)], upd_same, by rw [upd_ne nda]; exact upd_same, h1dx, ?_⟩
      have eH : upd (del (upd (upd H' dx (exd dx [(f, vV)])) a (exo a (G.CA c) (some dx))) a) dx (.xd [(f, vV)]) = upd (del H' a) dx (.xd [(f, vV)]) := by
        funext b
        by_cases hb : b = dx
        · rw [hb, upd_same, upd_same]
        · rw [upd_ne hb, upd_ne hb]
          by_cases hba : b = a
          · rw [hba, del_same, del_same]
          · rw [del_ne hba, del_ne hba, upd_ne hba, upd_ne hb]
      rw [eH]
      -- the exception itself is no object of ours
      have ndm : dx ∉ ms' := fun z => by
        obtain ⟨w, e, _⟩ := s2.fine.muts dx z
        rw [hdx] at e; cases e
      have ex0 : ∀ {b : Addr} {o : HO}, H' b = some o → o ≠ exo a (G.CA c) none → b ≠ a := fun {b o} e ne z => ne (by rw [z, hHa] at e; exact (Option.some.inj e).symm)
      have hd0 : ∀ b, b ≠ a → b ≠ dx → upd (del H' a) dx (.xd [(f, vV)]) b = H' b := fun b h1 h2 => by rw [upd_ne h2, del_ne h1]
      have kp : Kp G.K ms' H' ms' (upd (del H' a) dx (.xd [(f, vV)])) := by
        refine ⟨fun _ _ h => h, fun b vs h => ?_, fun b vs h => ?_⟩
        · rcases h with (h | ⟨o, h⟩) | h
          · exact .inl (.inl ((hd0 b (ex0 h (fun z => exo_tup z.symm)) (ne_of_none h hdx)).trans h))
          · exact .inl (.inr ⟨o, (hd0 b (ex0 h (fun z => exo_frz z.symm)) (ne_of_none h hdx)).trans h⟩)
          · exact .inr h
        · rcases h with ⟨o, h⟩ | h
          · exact .inl ⟨o, (hd0 b (ex0 h (fun z => exo_frz z.symm)) (ne_of_none h hdx)).trans h⟩
          · exact .inr h
      have sF : Sees G ms' L2' (upd (del H' a) dx (.xd [(f, vV)])) := by
        refine ⟨s2.len, s2.nd, ⟨fun b hb => ?_⟩, fun n b c' hn e => ?_⟩
        · obtain ⟨w, e, m⟩ := s2.fine.muts b hb
          exact ⟨w, (hd0 b (fun z => nam' (z ▸ hb)) (ne_of_none e hdx)).trans e, m⟩
        · refine (s2.cell n b c' hn e).kp kp fun w z => ?_
          exact (hd0 b (fun z => nam' (z ▸ List.mem_of_getElem? e)) (ne_of_none z hdx)).trans z
      have xF : Ext ms1 H1 ms' (upd (del H' a) dx (.xd [(f, vV)])) := by
        refine ⟨x3.pre, x3.new, fun b o h nm => ?_⟩
        have h3 := x3.keep b o h nm
        exact (hd0 b (ne_of_none h hna) (ne_of_none h h1dx)).trans h3
      refine q2 ms' _ σ (.ref (G.CA c)) (some dx) (x1.trans xF) sF (e1.ext xF s1.fine) ⟨rfl, [(f, vV)], upd_same, .cons (Rep.kp kp _ _ r2) .nil⟩
    · rw [hb'] at q1
      exact q1.elim
  · exact q1.elim
/-- which exceptions a clause takes -/
structure HdOk (G : Sta) (all : List Nat) (h : Nat) (cs : List Nat) : Prop where
  exm : ∀ c ∈ all, PySem.W.exmOne G.K (.ref (G.CA c)) (.ref (G.CA h)) = some (cs.contains c)
theorem rs_try {x : Str} {np pos pos' : Pos} {all cs : List Nat} {h : Nat} {body suite : List Stmt} {b₀ : Stmt} {fb fs : FS} (hK : X.K = G.K) (hs : X.stack = X.env :: X.outer) (hf : X.env.frame = some X.env.locals) (hx : Gl X x) (hm : X.mg x = some (.ref (G.CA h))) (hdb : (x == ("__debug__" : Str)) = false) (HO : HdOk G all h cs) (tk : Takes X W)
    (hb : ∀ (W : WX) (pn : List (Addr × Obj)) (xe : Value → Shared → Prop), Takes (X.tr pn xe) W → PassesOwn (model X.prog X.w) X.A X.env xe → PSs (X.tr pn xe) body (upS G W R fb))
    (hsu : ∀ (a : Addr) (oe : Obj) (pn : List (Addr × Obj)), PSs (X.suite a ((a, oe) :: pn)) (b₀ :: suite) (upS G W0 R fs)):
    PS X (.Try body [.ExceptHandler (some (.Name x np)) none (b₀ :: suite) pos'] [] [] pos) (upS G W R (sTry all cs fb fs)) := by
  refine psOf (ps_try_only hs hf ⟨hx, hdb, .inl hm⟩ tk (tb := fun W => upS G W R fb) (ts := fun _ _ _ => upS G W0 R fs) hb fun a oe cls d pn _ _ => hsu a oe pn) fun E σ H ⟨ms, L, ρ, S, e, q⟩ => ?_
  refine ⟨ms, L, ρ, S, e, ?_⟩
  unfold sTry at q
  cases hz : fb R ρ L with
  | bad => rw [hz] at q; exact q.elim
  | exc _ _ _ => rw [hz] at q; exact q
  | ok pr L1 =>
    obtain ⟨fl, ρ1⟩ := pr
    rw [hz] at q
    cases fl with
    | nx => exact q
    | rt d => exact q
    | bk => exact q
    | ct => exact q
    | ex c fds =>
      have q1 : postS G W ms H E (if all.contains c then (if cs.contains c then noEx (fs R ρ1 L1) else .ok (.ex c fds, ρ1) L1) else .bad) := q
      intro ms' H' σ' cls dx x1 s1 e1 k1
      by_cases hall : all.contains c = true
      · rw [if_pos hall] at q1
        have hcm : c ∈ all := by simpa using hall
        obtain ⟨rfl, k2⟩ := k1
        refine ⟨cs.contains c, hK ▸ HO.exm c hcm, fun hyes a na => ?_, fun hno => ?_⟩
        · rw [if_pos hyes] at q1
          refine ⟨ms', L1, ρ1, s1, e1, ?_⟩
          have q2 := postS.ext x1 q1
          cases hz2 : fs R ρ1 L1 with
          | bad => rw [hz2] at q2; exact q2
          | exc _ _ _ => rw [hz2] at q2; exact q2
          | ok pr2 L2' =>
            obtain ⟨fl2, ρ2⟩ := pr2
            rw [hz2] at q2
            cases fl2 with
            | ex c2 f2 => exact q2.elim
            | nx => exact q2
            | rt d => exact q2
            | bk => exact q2
            | ct => exact q2
        · rw [hno, if_neg Bool.false_ne_true] at q1
          exact q1 ms' H' σ' _ dx x1 s1 e1 ⟨rfl, k2⟩
      · rw [if_neg hall] at q1; exact q1.elim
/-- except C as n: return n.f -/
theorem rs_tryF {x n f : Str} {np pos pos' p1 p2 p3 : Pos} {all cs : List Nat} {h i : Nat} {body : List Stmt} {fb : FS} (hK : X.K = G.K) (hs : X.stack = X.env :: X.outer) (hf : X.env.frame = some X.env.locals) (hN : X.N.Nodup) (hi : X.N[i]? = some n) (hln : X.env.kindOf n = some .local) (hx : Gl X x) (hm : X.mg x = some (.ref (G.CA h))) (hdb : (x == ("__debug__" : Str)) = false) (HO : HdOk G all h cs) (tk : Takes X W)
    (hxf : ∀ c ∈ cs, XfC G.K (G.CA c) ∧ PySem.W.findIn G.K (.ref (G.CA c)) f = some none) (hn1 : (n == ("__debug__" : Str)) = false) (hn2 : (n == ("__classdict__" : Str)) = false)
    (hb : ∀ (W : WX) (pn : List (Addr × Obj)) (xe : Value → Shared → Prop), Takes (X.tr pn xe) W → PassesOwn (model X.prog X.w) X.A X.env xe → PSs (X.tr pn xe) body (upS G W R fb)) :
    PS X (.Try body [.ExceptHandler (some (.Name x np)) (some n) [.Return (some (.Attribute (.Name n p1) f p2)) p3] pos'] [] [] pos) (upS G W R (sTryF all cs i f fb)) := by
  refine psOf (ps_try_as hs hf hN hi hln ⟨hx, hdb, .inl hm⟩ tk (tb := fun W => upS G W R fb) (ts := fun a cls d D σ H => ∃ C, XfC X.K C ∧ PySem.W.findIn X.K (.ref C) f = some none ∧ tRet (tXf a cls d C f (tVar i)) D σ H) hb fun a oe cls d pn hz hd => ?_) fun E σ H ⟨ms, L, ρ, S, e, q⟩ => ?_
  · refine ⟨fun pins s σ H D I ⟨C, T, hno, q⟩ => ?_⟩
    exact (pss_one (ps_ret (pe_xf T hno hz hd (pe_var hi (.inl hln) hn1 hn2)))).run pins s σ H D I q
  · refine ⟨ms, L, ρ, S, e, ?_⟩
    unfold sTryF at q
    cases hz : fb R ρ L with
    | bad => rw [hz] at q; exact q.elim
    | exc _ _ _ => rw [hz] at q; exact q
    | ok pr L1 =>
      obtain ⟨fl, ρ1⟩ := pr
      rw [hz] at q
      cases fl with
      | nx => exact q
      | rt d => exact q
      | bk => exact q
      | ct => exact q
      | ex c fds =>
        have q1 : postS G W ms H E (if all.contains c then (if cs.contains c then (match fds.lookup f with
          | some d => if i < ρ1.length then .ok (.rt d, ρ1.set i none) L1 else .bad
          | none => .bad) else .ok (.ex c fds, ρ1) L1) else .bad) := q
        intro ms' H' σ' cls dx x1 s1 e1 k1
        by_cases hall : all.contains c = true
        · rw [if_pos hall] at q1
          have hcm : c ∈ all := by simpa using hall
          obtain ⟨rfl, k2⟩ := k1
          refine ⟨cs.contains c, hK ▸ HO.exm c hcm, fun hyes a na => ?_, fun hno => ?_⟩
          · rw [if_pos hyes] at q1
            have hcs : c ∈ cs := by simpa using hyes
            obtain ⟨T, hno⟩ := hxf c hcs
            refine ⟨G.CA c, hK ▸ T, hK ▸ hno, ?_⟩
            cases hl : fds.lookup f with
            | none => rw [hl] at q1; exact q1.elim
            | some d =>
              rw [hl] at q1
              cases dx with
              | none =>
                have k3 : fds = [] := k2
                rw [k3] at hl; cases hl
              | some dd =>
                obtain ⟨vs, hdd, hfl⟩ := k2
                obtain ⟨v, hv, rv⟩ := hfl.lookup hl
                have q2 : postS G W ms H E (if i < ρ1.length then .ok (.rt d, ρ1.set i none) L1 else .bad) := q1
                by_cases hlt : i < ρ1.length
                · rw [if_pos hlt] at q2
                  exact ⟨_, by rw [List.getElem?_set_self (by rw [← e1.len]; exact hlt)], rfl, rfl, dd, vs, v, rfl, hdd, hv, q2 ms' H' v x1 s1 rv⟩
                · rw [if_neg hlt] at q2; exact q2.elim
          · rw [hno, if_neg Bool.false_ne_true] at q1
            exact q1 ms' H' σ' _ dx x1 s1 e1 ⟨rfl, k2⟩
        · rw [if_neg hall] at q1; exact q1.elim
end
end PD
/-! P10c: repr of data. -/
namespace PD
open PySem PySem.Spec PyProof.Rows L2
mutual
theorem dp_nodict {K : PySem.W.Frag} {H : Hp} : ∀ (p : PyData) (v : V), Dp K H v p → p.hasDict = false
  | .none, _, _ => by simp [PyData.hasDict]
  | .bool _, _, _ => by simp [PyData.hasDict]
  | .int _, _, _ => by simp [PyData.hasDict]
  | .str _, _, _ => by simp [PyData.hasDict]
  | .list ds, _, h => by
    cases h with
    | lst _ ha => simpa [PyData.hasDict] using dps_nodict ds _ ha
  | .tuple ds, _, h => by
    cases h with
    | tup _ ha => simpa [PyData.hasDict] using dps_nodict ds _ ha
  | .dict _, _, h => by cases h
theorem dps_nodict {K : PySem.W.Frag} {H : Hp} : ∀ (ps : List PyData) (vs : List V), DpAll K H vs ps → PyData.hasDictAll ps = false
  | [], _, _ => by simp [PyData.hasDictAll]
  | p :: ps, _, h => by
    cases h with
    | cons h1 h2 => simp [PyData.hasDictAll, dp_nodict p _ h1, dps_nodict ps _ h2]
end
/-- repr of data -/
def bReprO (as : List D) (L : LH) : Res D := match as with
  | [a] => match toP 60 L a with
    | some p => (match p with
      | .list _ => if p.showable && decide (p.shown.length ≤ sizeLine) then .ok (.str p.shown) L else .bad
      | .tuple _ => if p.showable && decide (p.shown.length ≤ sizeLine) then .ok (.str p.shown) L else .bad
      | .int i => if i.natAbs.log2 < 1920 then .ok (.str (toString i : String)) L else .bad
      | .str x => if (reprText x).length ≤ sizeLine then .ok (.str (reprText x)) L else .bad
      | .bool b => .ok (.str (if b then "True" else "False")) L
      | .none => .ok (.str "None") L
      | _ => .bad)
    | none => .bad
  | _ => .bad
section
variable {X : Cx} {G : Sta} {W : WX}
theorem op_bRepr (hK : X.K = G.K) (hg : X.A.guards = some []) (hu : X.A.units + 64 < cLine) : OpA X G W (.builtin "repr") bReprO := by
  intro pins s σ H ms L as xs us Q I S rs rv q
  unfold bReprO at q
  split at q
  · rename_i a
    obtain ⟨v, rfl, r⟩ := reps1 rs
    cases e : toP 60 L a with
    | none => rw [e] at q; exact q.elim
    | some p =>
      rw [e] at q
      obtain ⟨a1, a2, a3⟩ := toP_ok S 60 a v p e r
      obtain ⟨u, rfl, ru⟩ : ∃ u, us = [u] ∧ RelV v u := by
        cases rv with
        | cons h1 h2 => cases h2; exact ⟨_, rfl, h1⟩
      obtain ⟨as', rd⟩ := Dp.reads I p v u (hK ▸ a1) ru
      have fin : ∀ (y : Str) (h' : Heap) (tk t : Nat), (∀ b o, s.heap.get? b = some o → h'.get? b = some o) → post G ms H (Rep G) Q (WE W σ) (.ok (.str y) L) → EP X pins σ Q (.str y t) { s with heap := h', toks := tk } :=
        fun y h' tk t hk q => ⟨.str y, H, I.kept hk, ⟨t, rfl⟩, post.same S q (.str y)⟩
      cases a1 with
      | non => cases ru; exact PySem.P.repr_of_none (fin _ s.heap _ _ (fun _ _ h => h) q)
      | bl b => cases ru; exact PySem.P.repr_of_bool (fin _ s.heap _ _ (fun _ _ h => h) q)
      | int i =>
        obtain ⟨t, rfl⟩ := ru
        dsimp only at q
        split at q
        · rename_i hl
          exact PySem.P.repr_of_int hl (fin _ s.heap _ _ (fun _ _ h => h) q)
        · exact q.elim
      | str x =>
        obtain ⟨t, rfl⟩ := ru
        dsimp only at q
        split at q
        · rename_i hl
          exact PySem.P.repr_of_str (fin _ s.heap _ _ (fun _ _ h => h) q) hl
        · exact q.elim
      | lst h1 h2 =>
        cases ru
        dsimp only at q
        split at q
        · rename_i hb
          rw [Bool.and_eq_true] at hb
          exact repr_of_reads' rd hb.1 (fun h => by rw [dp_nodict _ _ (Dp.lst h1 h2)] at h; cases h) hg (by omega) (fun _ _ e => e) (fun h' u tk hk => fin _ h' tk u hk q) (of_decide_eq_true hb.2)
        · exact q.elim
      | tup h1 h2 =>
        cases ru
        dsimp only at q
        split at q
        · rename_i hb
          rw [Bool.and_eq_true] at hb
          exact repr_of_reads' rd hb.1 (fun h => by rw [dp_nodict _ _ (Dp.tup h1 h2)] at h; cases h) hg (by omega) (fun _ _ e => e) (fun h' u tk hk => fin _ h' tk u hk q) (of_decide_eq_true hb.2)
        · exact q.elim
  · exact q.elim
end
end PD
/-! P10d: more constructs: chains, enumerate, zip, any, all, str, dict, index, stars, three names. -/
namespace PD
open PySem PySem.Spec PyProof.Rows L2

/-! ### combinators -/
/-- a < b < c; no operator raises -/
def eChn (op op' : D → D → LH → Res D) (a b c : FE) : FE := fun R ρ L => (a R ρ L).bind fun x L1 => (b R ρ L1).bind fun y L2 => (noExc (op x y L2)).bind fun k L3 =>
  match k with
  | .bl true => (c R ρ L3).bind fun z L4 => noExc (op' y z L4)
  | .bl false => .ok (.bl false) L3
  | _ => .bad
def enuL : Nat → List D → List D
  | _, [] => []
  | i, x :: r => .tup [.int i, x] :: enuL (i + 1) r
def itEnuA (ds : List D) (L : LH) : Res Itr := match ds with
  | [.ref n] => match L.get n with
    | some (.lst xs) => .ok (.dyn (enuAt n) (xs.length + 1)) L
    | _ => .bad
  | [.tup l] => .ok (.pur (enuL 0 l)) L
  | _ => .bad
def iEnuA (a : FA) : FI := fun R ρ L => (a R ρ L).bind itEnuA
def zipL : List D → List D → List D
  | x :: r, y :: s => .tup [x, y] :: zipL r s
  | _, _ => []
def zipAt (m n : Nat) (L : LH) (i : Nat) : Option (Option D) := match L.get m, L.get n with
  | some (.lst xs), some (.lst ys) => some (match xs[i]?, ys[i]? with
    | some x, some y => some (.tup [x, y])
    | _, _ => none)
  | _, _ => none
def itZip (ds : List D) (L : LH) : Res Itr := match ds with
  | [.tup l, .tup m] => .ok (.pur (zipL l m)) L
  | [.ref m, .ref n] => match L.get m, L.get n with
    | some (.lst xs), some (.lst _) => .ok (.dyn (zipAt m n) (xs.length + 1)) L
    | _, _ => .bad
  | _ => .bad
def iZip2 (a : FA) : FI := fun R ρ L => (a R ρ L).bind itZip
def isTupD : D → Bool
  | .tup _ => true
  | _ => false
def seqAt (d : D) (L : LH) : Option (List D) := match d with
  | .tup l => some l
  | .ref n => match L.get n with
    | some (.lst xs) => some xs
    | _ => none
  | _ => none
def zipAtS (a b : D) (L : LH) (i : Nat) : Option (Option D) := match seqAt a L, seqAt b L with
  | some xs, some ys => (match xs[i]?, ys[i]? with
    | some x, some y => some (some (.tup [x, y]))
    | none, none => some none
    | _, _ => none)
  | _, _ => none
def itZipS (ds : List D) (L : LH) : Res Itr := match ds with
  | [.tup l, .tup m] => if l.length = m.length then .ok (.pur (zipL l m)) L else .bad
  | [a, b] => match seqAt a L with
    | some xs => (match seqAt b L with
      | some _ => .ok (.dyn (zipAtS a b) (xs.length + 1)) L
      | none => .bad)
    | none => .bad
  | _ => .bad
def iZipT (a : FA) : FI := fun R ρ L => (a R ρ L).bind itZipS
def aStar (a : FE) (r : FA) : FA := fun R ρ L => (a R ρ L).bind fun x L1 => match x with
  | .tup l => (r R ρ L1).bind fun xs L2 => .ok (l ++ xs) L2
  | .ref n => (match L1.get n with
    | some (.lst ys) => (r R ρ L1).bind fun xs L2 => .ok (ys ++ xs) L2
    | _ => .bad)
  | _ => .bad
def boolsOf : List D → Option (List Bool)
  | [] => some []
  | .bl b :: r => match boolsOf r with
    | some l => some (b :: l)
    | none => none
  | _ => none
def bAny (as : List D) (L : LH) : Res D := match as with
  | [.ref n] => match L.get n with
    | some (.lst xs) => (match boolsOf xs with
      | some bs => .ok (.bl (bs.any id)) L
      | none => .bad)
    | _ => .bad
  | _ => .bad
def bAll (as : List D) (L : LH) : Res D := match as with
  | [.ref n] => match L.get n with
    | some (.lst xs) => (match boolsOf xs with
      | some bs => .ok (.bl (bs.all id)) L
      | none => .bad)
    | _ => .bad
  | _ => .bad
def bStr (as : List D) (L : LH) : Res D := match as with
  | [.int i] => if i.natAbs.log2 < 1920 then .ok (.str (toString i : String)) L else .bad
  | [.str x] => .ok (.str x) L
  | _ => .bad
def pairsOf : List D → Option (List (D × D))
  | [] => some []
  | .tup [k, v] :: r => if leafKey k then (match pairsOf r with
    | some l => some ((k, v) :: l)
    | none => none) else none
  | _ => none
def bDct (as : List D) (L : LH) : Res D := match as with
  | [.ref n] => match L.get n with
    | some (.lst xs) => (match pairsOf xs with
      | some kvs => .ok (.ref L.len) (L.push (.dct (kvs.foldl (fun acc p => dPut acc p.1 p.2) [])))
      | none => .bad)
    | _ => .bad
  | _ => .bad
def findE (d : PyData) : Nat → List PyData → Option Nat
  | _, [] => none
  | i, x :: r => if PyData.eqv x d then some i else findE d (i + 1) r
def mIndex (a : D) (as : List D) (L : LH) : Res D := match a, as with
  | .ref n, [y] => match L.get n with
    | some (.lst xs) => (match toP 50 L y with
      | some d => (match mapO (toP 50 L) xs with
        | some ds => (match findE d 0 ds with
          | some i => .ok (.int i) L
          | none => .bad)
        | none => .bad)
      | none => .bad)
    | _ => .bad
  | _, _ => .bad

section
variable {X : Cx} {G : Sta} {W : WX} {R : Rec}
/-! ### chains -/
def rOpN (G : Sta) (g : D → D → LH → Res D) : R2 := fun x y H Q => ∃ ms L a b, Sees G ms L H ∧ Rep G ms H a x ∧ Rep G ms H b y ∧ post G ms H (Rep G) Q (fun _ _ _ => False) (g a b L)
theorem opr_of {f : Value → Value → Sem Value} {g : D → D → LH → Res D} (h : Op2 X G W f g) : OpR X f (rOpN G g) :=
  fun pins s σ H x y v u Q I rx ry ⟨ms, L, a, b, S, ra, rb, q⟩ => h pins s σ H ms L a b x y v u Q I S ra rb rx ry (q.imp (fun _ _ z => z) fun _ _ _ z => z.elim)
theorem chain_read {a b c : Expr} {fa fb fc : FE} {g g' : D → D → LH → Res D} {σ : L2.St} {H : Hp} {Q : VK} (h : upE G W R (eChn g g' fa fb fc) σ H Q) : tChain (rOpN G g) (rOpN G g') (upE G W R fa) (upE G W R fb) (upE G W R fc) σ H Q := by
  obtain ⟨ms, L, ρ, S, e, q⟩ := h
  obtain ⟨ms0, L0, ρ0, S0, e0, q0⟩ := midE (f := fa) S e q
  refine ⟨ms0, L0, ρ0, S0, e0, q0.imp (fun x H1 ⟨ms1, L1, d1, r1, m1⟩ => ?_) fun _ _ _ z => z⟩
  obtain ⟨ms2, L2, ρ2, S2, e2, q2⟩ := midE (f := fb) m1.sees m1.env m1.post
  refine ⟨ms2, L2, ρ2, S2, e2, q2.imp (fun y H2 ⟨ms3, L3, d3, r3, m3⟩ => ?_) fun _ _ _ z => z⟩
  refine ⟨ms3, L3, d1, d3, m3.sees, m3.rep m1.sees.fine r1, r3, ?_⟩
  have q3 := m3.post
  cases hg : g d1 d3 L3 with
  | bad => rw [hg] at q3; exact q3.elim
  | exc _ _ _ => rw [hg] at q3; exact q3.elim
  | ok k L4 =>
    rw [hg] at q3
    intro ms4 H4 z x4 s4 r4
    cases k with
    | bl k =>
      cases r4
      refine ⟨k, rfl, ?_⟩
      cases k with
      | true =>
        rw [if_pos rfl]
        obtain ⟨ms5, L5, ρ5, S5, e5, q5⟩ := midE (f := fc) s4 (m3.env.ext x4 m3.sees.fine) (post.ext x4 q3)
        refine ⟨ms5, L5, ρ5, S5, e5, q5.imp (fun w H5 ⟨ms6, L6, d6, r6, m6⟩ => ?_) fun _ _ _ z => z⟩
        exact ⟨ms6, L6, d3, d6, m6.sees, m6.rep s4.fine (Rep.ext x4 m3.sees.fine _ _ r3), r6, by
          have q6 := m6.post
          cases hg2 : g' d3 d6 L6 with
          | bad => rw [hg2] at q6; exact q6.elim
          | exc _ _ _ => rw [hg2] at q6; exact q6.elim
          | ok _ _ => rw [hg2] at q6; exact q6⟩
      | false =>
        rw [if_neg (fun z => nomatch z)]
        exact q3 ms4 H4 _ x4 s4 (.bl false)
    | _ => exact q3.elim
theorem re_chain {a b c : Expr} {fa fb fc : FE} {g g' : D → D → LH → Res D} {op op' : CmpOp} {pos : Pos} (ho : Op2 X G W (compareOp op) g) (ho' : Op2 X G W (compareOp op') g') (ha : PE X a (upE G W R fa)) (hb : PE X b (upE G W R fb)) (hc : PE X c (upE G W R fc))
    (hm : lastMarks [op, op'] [b, c] = false) : PE X (.Compare a [op, op'] [b, c] pos) (upE G W R (eChn g g' fa fb fc)) :=
  peOf (pe_chain (opr_of ho) (opr_of ho') ha hb hc hm) fun σ H Q q => chain_read (a := a) (b := b) (c := c) q
def isBl : D → Bool
  | .bl _ => true
  | _ => false
/-- the value of a test that is a bool -/
def tB1 (a : FE) : FT := fun R ρ L => (a R ρ L).bind fun x L1 => match x with
  | .bl k => .ok k L1
  | _ => .bad
theorem rt_chain {a b c : Expr} {fa fb fc : FE} {g g' : D → D → LH → Res D} {op op' : CmpOp} {pos : Pos} (ho : Op2 X G W (compareOp op) g) (ho' : Op2 X G W (compareOp op') g') (ha : PE X a (upE G W R fa)) (hb : PE X b (upE G W R fb)) (hc : PE X c (upE G W R fc))
    (hm : lastMarks [op, op'] [b, c] = false) : PT X (.Compare a [op, op'] [b, c] pos) (upT G W R (tB1 (eChn g g' fa fb fc))) :=
  ptOf (pt_chain (opr_of ho) (opr_of ho') ha hb hc hm) fun σ H Q ⟨ms, L, ρ, S, e, q⟩ => by
    refine chain_read (W := W) (R := R) (a := a) (b := b) (c := c) ?_
    obtain ⟨ms0, L0, ρ0, S0, e0, q0⟩ := midE (f := eChn g g' fa fb fc) S e q
    refine ⟨ms0, L0, ρ0, S0, e0, q0.imp (fun x H1 ⟨ms1, L1, d1, r1, m1⟩ => ?_) fun _ _ _ z => z⟩
    have q1 := m1.post
    cases d1 with
    | bl k =>
      cases r1
      exact ⟨k, rfl, q1 ms1 H1 k (Ext.refl _ _) m1.sees rfl⟩
    | _ => exact q1.elim

/-! ### stars -/
theorem ra_star {e : Expr} {p : Pos} {es : List Expr} {fa : FE} {fr : FA} (hK : X.K = G.K) (ha : PE X e (upE G W R fa)) (hr : PA X es (upA G W R fr)) : PA X (.Starred e p :: es) (upA G W R (aStar fa fr)) :=
  paOf (StX.pa_star ha hr rfl) fun σ H Q ⟨ms, L, ρ, S, e, q⟩ => by
    obtain ⟨ms0, L0, ρ0, S0, e0, q0⟩ := midE (f := fa) S e q
    refine ⟨ms0, L0, ρ0, S0, e0, q0.imp (fun v H1 ⟨ms1, L1, d, r, m⟩ => ?_) fun _ _ _ z => z⟩
    have q1 := m.post
    cases d with
    | tup l =>
      cases r with
      | tup h1 r1 =>
        refine ⟨_, _, rfl, .inl (hK ▸ h1), ?_⟩
        obtain ⟨ms2, L2, ρ2, S2, e2, q2⟩ := midA (f := fr) m.sees m.env q1
        refine ⟨ms2, L2, ρ2, S2, e2, q2.imp (fun vs H2 ⟨ms3, L3, ds, rs, m2⟩ => ?_) fun _ _ _ z => z⟩
        exact m2.post ms3 H2 _ (Ext.refl _ _) m2.sees ((Reps.ext m2.ext m.sees.fine _ _ r1).append rs)
    | ref n =>
      dsimp only at q1
      split at q1
      · rename_i ys en
        obtain ⟨p, rfl, _, vs, h1, r1⟩ := m.sees.ref en r
        refine ⟨_, _, rfl, .inr (SqL.of h1), ?_⟩
        obtain ⟨ms2, L2, ρ2, S2, e2, q2⟩ := midA (f := fr) m.sees m.env q1
        refine ⟨ms2, L2, ρ2, S2, e2, q2.imp (fun vs H2 ⟨ms3, L3, ds, rs, m2⟩ => ?_) fun _ _ _ z => z⟩
        exact m2.post ms3 H2 _ (Ext.refl _ _) m2.sees ((Reps.ext m2.ext m.sees.fine _ _ r1).append rs)
      · exact q1.elim
    | _ => exact q1.elim

/-! ### enumerate -/
theorem enuL_get : ∀ (l : List D) (i k : Nat), (enuL i l)[k]? = l[k]?.map fun x => .tup [.int ((i + k : Nat) : Int), x]
  | [], _, _ => by simp [enuL]
  | x :: r, i, 0 => by simp [enuL]
  | x :: r, i, k + 1 => by
    unfold enuL
    rw [List.getElem?_cons_succ, List.getElem?_cons_succ, enuL_get r (i + 1) k, show i + 1 + k = i + (k + 1) by omega]
theorem itok_enumT (hK : X.K = G.K) {ms : List Addr} {H : Hp} {p : Addr} {vs : List V} {l : List D} (f : Fine ms H) (h1 : SqT G.K H p vs) (r1 : Reps G ms H l vs) : ItOk G ms H (.pur (enuL 0 l)) (RQ.IteT X.K p) := fun ms' L' H' i x S => by
  have h2 : SqT X.K H' p vs := hK ▸ x.tup f h1
  have r2 := Reps.ext x f _ _ r1
  show match some (enuL 0 l)[i]? with
    | none => True
    | some none => (RQ.IteT X.K p).stop i H'
    | some (some d) => (RQ.IteT X.K p).go i H' ∧ ∀ y H'', (RQ.IteT X.K p).yld i H' y H'' → Ext ms' H' ms' H'' ∧ Sees G ms' L' H'' ∧ Rep G ms' H'' d y
  rw [enuL_get, Nat.zero_add]
  cases hx : l[i]? with
  | none =>
    have hl : l.length ≤ i := List.getElem?_eq_none_iff.mp hx
    exact ⟨vs, h2, by rw [← r1.length]; exact hl⟩
  | some d =>
    obtain ⟨w, e2, r3⟩ := r2.get hx
    refine ⟨⟨vs, w, h2, e2⟩, fun y H'' hy => ?_⟩
    obtain ⟨T, x', rfl, hT, rfl, hy⟩ := hy
    have := hy vs h2
    rw [e2] at this; cases this
    have xx : Ext ms' H' ms' (upd H' T (.tup [.int (i : Nat), w])) := Ext.fresh hT
    exact ⟨xx, S.fresh hT, .tup (SqT.of upd_same) (.cons (.int _) (.cons (Rep.ext xx S.fine _ _ r3) .nil))⟩
theorem pi_enuA {e : Expr} {fa : FA} {p pos tpos : Pos} {elts : List Expr} {kk : Nat} (hK : X.K = G.K) (hg : Gl X "enumerate") (hm : X.mg "enumerate" = none) (ha : PA X [e] (upA G W R fa)) (hs : plainArgs [e] = true) : PI X (.Tuple elts kk tpos) (.Call (.Name "enumerate" p) [e] [] pos) (upI G W R (iEnuA fa)) :=
  piOf (RQ.pi_enumA hg hm ha (by obtain ⟨h1, _⟩ := plain_ne hs; exact starEach_plain h1)) fun σ H Q ⟨ms, L, ρ, S, e, q⟩ => by
    refine ⟨ms, L, ρ, S, e, (post.bind (R1 := Reps G) q).imp (fun vs H1 ⟨ms1, L1, ds, x, s, r, q1⟩ => ?_) fun _ _ _ z => z⟩
    unfold itEnuA at q1
    split at q1
    · obtain ⟨v, rfl, r'⟩ := reps1 r
      split at q1
      · rename_i xs en
        obtain ⟨p, rfl, e1, vs, h1, rs1⟩ := s.ref en r'
        exact ⟨p, vs, rfl, .inl ⟨SqL.of h1, q1 ms1 H1 _ x s (itok_enum e1 _)⟩⟩
      · exact q1.elim
    · obtain ⟨v, rfl, r'⟩ := reps1 r
      cases r' with
      | tup h1 r1 => exact ⟨_, _, rfl, .inr ⟨hK ▸ h1, q1 ms1 H1 _ x s (itok_enumT hK s.fine h1 r1)⟩⟩
    · exact q1.elim

/-! ### zip -/
theorem zipL_get : ∀ (l m : List D) (k : Nat), (zipL l m)[k]? = match l[k]?, m[k]? with
    | some x, some y => some (.tup [x, y])
    | _, _ => none
  | [], _, _ => by simp [zipL]
  | x :: r, [], k => by
    unfold zipL
    rw [List.getElem?_nil]
    cases (x :: r)[k]? <;> rfl
  | x :: r, y :: s, 0 => by simp [zipL]
  | x :: r, y :: s, k + 1 => by
    unfold zipL
    rw [List.getElem?_cons_succ, List.getElem?_cons_succ, List.getElem?_cons_succ, zipL_get r s k]
theorem itok_zipT (hK : X.K = G.K) {ms : List Addr} {H : Hp} {p p2 : Addr} {vs ws : List V} {l m : List D} (f : Fine ms H) (h1 : SqT G.K H p vs) (r1 : Reps G ms H l vs) (h2 : SqT G.K H p2 ws) (r2 : Reps G ms H m ws) : ItOk G ms H (.pur (zipL l m)) (RZ.ItzT X.K p p2) := fun ms' L' H' i x S => by
  have g1 : SqT X.K H' p vs := hK ▸ x.tup f h1
  have g2 : SqT X.K H' p2 ws := hK ▸ x.tup f h2
  have q1 := Reps.ext x f _ _ r1
  have q2 := Reps.ext x f _ _ r2
  show match some (zipL l m)[i]? with
    | none => True
    | some none => (RZ.ItzT X.K p p2).stop i H'
    | some (some d) => (RZ.ItzT X.K p p2).go i H' ∧ ∀ y H'', (RZ.ItzT X.K p p2).yld i H' y H'' → Ext ms' H' ms' H'' ∧ Sees G ms' L' H'' ∧ Rep G ms' H'' d y
  rw [zipL_get]
  cases hx : l[i]? with
  | none => exact ⟨vs, ws, g1, g2, .inl (by rw [← r1.length]; exact List.getElem?_eq_none_iff.mp hx)⟩
  | some d =>
    cases hy : m[i]? with
    | none => exact ⟨vs, ws, g1, g2, .inr (by rw [← r2.length]; exact List.getElem?_eq_none_iff.mp hy)⟩
    | some d2 =>
      obtain ⟨w, e1, r3⟩ := q1.get hx
      obtain ⟨w2, e2, r4⟩ := q2.get hy
      refine ⟨⟨vs, ws, w, w2, g1, g2, e1, e2⟩, fun y H'' hy => ?_⟩
      obtain ⟨T, x', y', rfl, hT, rfl, f1, f2⟩ := hy
      have := f1 vs g1
      rw [e1] at this; cases this
      have := f2 ws g2
      rw [e2] at this; cases this
      have xx : Ext ms' H' ms' (upd H' T (.tup [w, w2])) := Ext.fresh hT
      exact ⟨xx, S.fresh hT, .tup (SqT.of upd_same) (.cons (Rep.ext xx S.fine _ _ r3) (.cons (Rep.ext xx S.fine _ _ r4) .nil))⟩
theorem itok_zipL {ms : List Addr} {H : Hp} {n n2 : Nat} {p p2 : Addr} (hn : ms[n]? = some p) (hn2 : ms[n2]? = some p2) (k : Nat) : ItOk G ms H (.dyn (zipAt n n2) k) (L2.Itz X.K p p2) := fun ms' L' H' i x S => by
  show match zipAt n n2 L' i with
    | none => True
    | some none => (L2.Itz X.K p p2).stop i H'
    | some (some d) => (L2.Itz X.K p p2).go i H' ∧ ∀ y H'', (L2.Itz X.K p p2).yld i H' y H'' → Ext ms' H' ms' H'' ∧ Sees G ms' L' H'' ∧ Rep G ms' H'' d y
  unfold zipAt
  split
  · trivial
  · rename_i en
    split at en
    · rename_i xs ys e1 e2
      obtain ⟨vs, h1, r1⟩ := S.cell n p _ e1 (x.pre n p hn)
      obtain ⟨ws, h2, r2⟩ := S.cell n2 p2 _ e2 (x.pre n2 p2 hn2)
      split at en
      · cases en
      · rename_i hno
        refine ⟨vs, ws, SqL.of h1, SqL.of h2, ?_⟩
        rw [← r1.length, ← r2.length]
        cases hx : xs[i]? with
        | none => exact .inl (List.getElem?_eq_none_iff.mp hx)
        | some a =>
          cases hy : ys[i]? with
          | none => exact .inr (List.getElem?_eq_none_iff.mp hy)
          | some b => exact absurd hy (hno a b hx)
    · cases en
  · rename_i d en
    split at en
    · rename_i xs ys e1 e2
      obtain ⟨vs, h1, r1⟩ := S.cell n p _ e1 (x.pre n p hn)
      obtain ⟨ws, h2, r2⟩ := S.cell n2 p2 _ e2 (x.pre n2 p2 hn2)
      split at en
      · rename_i a b hx hy
        cases en
        obtain ⟨w, g1, r3⟩ := r1.get hx
        obtain ⟨w2, g2, r4⟩ := r2.get hy
        refine ⟨⟨vs, ws, w, w2, SqL.of h1, SqL.of h2, g1, g2⟩, fun y H'' hy => ?_⟩
        obtain ⟨T, x', y', rfl, hT, rfl, f1, f2⟩ := hy
        have := f1 vs (SqL.of h1)
        rw [g1] at this; cases this
        have := f2 ws (SqL.of h2)
        rw [g2] at this; cases this
        have xx : Ext ms' H' ms' (upd H' T (.tup [w, w2])) := Ext.fresh hT
        exact ⟨xx, S.fresh hT, .tup (SqT.of upd_same) (.cons (Rep.ext xx S.fine _ _ r3) (.cons (Rep.ext xx S.fine _ _ r4) .nil))⟩
      · cases en
    · cases en
theorem pi_zip2 {e e2 : Expr} {fa : FA} {p pos tpos : Pos} {elts : List Expr} {kk : Nat} (hK : X.K = G.K) (hg : Gl X "zip") (hm : X.mg "zip" = none) (ha : PA X [e, e2] (upA G W R fa)) (hs : plainArgs [e, e2] = true) : PI X (.Tuple elts kk tpos) (.Call (.Name "zip" p) [e, e2] [] pos) (upI G W R (iZip2 fa)) := by
  obtain ⟨h1, h2⟩ := plain_ne hs
  refine piOf (RZ.pi_zipA hg hm ha (starEach_plain h1) (plain_any h2)) fun σ H Q ⟨ms, L, ρ, S, e, q⟩ => ?_
  refine ⟨ms, L, ρ, S, e, (post.bind (R1 := Reps G) q).imp (fun vs H1 ⟨ms1, L1, ds, x, s, r, q1⟩ => ?_) fun _ _ _ z => z⟩
  unfold itZip at q1
  split at q1
  · obtain ⟨v, w, rfl, r1, r2⟩ := reps2 r
    cases r1 with
    | tup a1 b1 =>
      cases r2 with
      | tup a2 b2 => exact ⟨_, _, _, _, rfl, .inr ⟨hK ▸ a1, hK ▸ a2, q1 ms1 H1 _ x s (itok_zipT hK s.fine a1 b1 a2 b2)⟩⟩
  · obtain ⟨v, w, rfl, r1, r2⟩ := reps2 r
    split at q1
    · rename_i xs ys e1 e2
      obtain ⟨p1, rfl, m1, vs1, a1, b1⟩ := s.ref e1 r1
      obtain ⟨p2, rfl, m2, vs2, a2, b2⟩ := s.ref e2 r2
      exact ⟨_, _, _, _, rfl, .inl ⟨SqL.of a1, SqL.of a2, q1 ms1 H1 _ x s (itok_zipL m1 m2 _)⟩⟩
    · exact q1.elim
  · exact q1.elim
/-- a sequence at a value, as HandS tells it -/
theorem seqAt_ok (hK : X.K = G.K) {ms : List Addr} {L : LH} {H : Hp} {a : D} {v : V} {xs : List D} (S : Sees G ms L H) (r : Rep G ms H a v) (h : seqAt a L = some xs) : ∃ k p vs, v = .ref p ∧ RQ.SqA k X.K H p vs ∧ Reps G ms H xs vs ∧ k = isTupD a := by
  cases a with
  | tup l =>
    cases h
    cases r with
    | tup a1 b1 => exact ⟨true, _, _, rfl, hK ▸ a1, b1, rfl⟩
  | ref n =>
    unfold seqAt at h
    dsimp only at h
    split at h
    · rename_i ys e1
      cases h
      obtain ⟨p, rfl, _, vs, h1, r1⟩ := S.ref e1 r
      exact ⟨false, p, vs, rfl, SqL.of h1, r1, rfl⟩
    · cases h
  | _ => cases h
theorem itok_zipS (hK : X.K = G.K) {ms : List Addr} {H : Hp} {a b : D} {p p2 : Addr} (f : Fine ms H) (ra : Rep G ms H a (.ref p)) (rb : Rep G ms H b (.ref p2)) (k : Nat) : ItOk G ms H (.dyn (zipAtS a b) k) (RQ.ItzS X.K (isTupD a) (isTupD b) p p2) := fun ms' L' H' i x S => by
  have qa := Rep.ext x f _ _ ra
  have qb := Rep.ext x f _ _ rb
  show match zipAtS a b L' i with
    | none => True
    | some none => (RQ.ItzS X.K _ _ p p2).stop i H'
    | some (some d) => (RQ.ItzS X.K _ _ p p2).go i H' ∧ ∀ y H'', (RQ.ItzS X.K _ _ p p2).yld i H' y H'' → Ext ms' H' ms' H'' ∧ Sees G ms' L' H'' ∧ Rep G ms' H'' d y
  unfold zipAtS
  cases e1 : seqAt a L' with
  | none => trivial
  | some xs =>
    cases e2 : seqAt b L' with
    | none => trivial
    | some ys =>
      obtain ⟨ka, pa, vs, ea, h1, r1, rfl⟩ := seqAt_ok hK S qa e1
      obtain ⟨kb, pb, ws, eb, h2, r2, rfl⟩ := seqAt_ok hK S qb e2
      cases ea
      cases eb
      dsimp only
      cases hx : xs[i]? with
      | none =>
        cases hy : ys[i]? with
        | none => exact ⟨vs, ws, h1, h2, by rw [← r1.length]; exact List.getElem?_eq_none_iff.mp hx, by rw [← r2.length]; exact List.getElem?_eq_none_iff.mp hy⟩
        | some _ => trivial
      | some d =>
        cases hy : ys[i]? with
        | none => trivial
        | some d2 =>
          obtain ⟨w, g1, r3⟩ := r1.get hx
          obtain ⟨w2, g2, r4⟩ := r2.get hy
          refine ⟨⟨vs, ws, w, w2, h1, h2, g1, g2⟩, fun y H'' hy => ?_⟩
          obtain ⟨T, x', y', rfl, hT, rfl, f1, f2⟩ := hy
          have := f1 vs h1
          rw [g1] at this; cases this
          have := f2 ws h2
          rw [g2] at this; cases this
          have xx : Ext ms' H' ms' (upd H' T (.tup [w, w2])) := Ext.fresh hT
          exact ⟨xx, S.fresh hT, .tup (SqT.of upd_same) (.cons (Rep.ext xx S.fine _ _ r3) (.cons (Rep.ext xx S.fine _ _ r4) .nil))⟩
theorem itok_zipST (hK : X.K = G.K) {ms : List Addr} {H : Hp} {p p2 : Addr} {vs ws : List V} {l m : List D} (f : Fine ms H) (hl : l.length = m.length) (h1 : SqT G.K H p vs) (r1 : Reps G ms H l vs) (h2 : SqT G.K H p2 ws) (r2 : Reps G ms H m ws) : ItOk G ms H (.pur (zipL l m)) (RQ.ItzS X.K true true p p2) := fun ms' L' H' i x S => by
  have g1 : SqT X.K H' p vs := hK ▸ x.tup f h1
  have g2 : SqT X.K H' p2 ws := hK ▸ x.tup f h2
  have q1 := Reps.ext x f _ _ r1
  have q2 := Reps.ext x f _ _ r2
  show match some (zipL l m)[i]? with
    | none => True
    | some none => (RQ.ItzS X.K true true p p2).stop i H'
    | some (some d) => (RQ.ItzS X.K true true p p2).go i H' ∧ ∀ y H'', (RQ.ItzS X.K true true p p2).yld i H' y H'' → Ext ms' H' ms' H'' ∧ Sees G ms' L' H'' ∧ Rep G ms' H'' d y
  rw [zipL_get]
  cases hx : l[i]? with
  | none =>
    have z := List.getElem?_eq_none_iff.mp hx
    exact ⟨vs, ws, g1, g2, by rw [← r1.length]; exact z, by rw [← r2.length, ← hl]; exact z⟩
  | some d =>
    cases hy : m[i]? with
    | none =>
      have z := List.getElem?_eq_none_iff.mp hy
      rw [List.getElem?_eq_none_iff.mpr (by omega)] at hx
      cases hx
    | some d2 =>
      obtain ⟨w, e1, r3⟩ := q1.get hx
      obtain ⟨w2, e2, r4⟩ := q2.get hy
      refine ⟨⟨vs, ws, w, w2, g1, g2, e1, e2⟩, fun y H'' hy => ?_⟩
      obtain ⟨T, x', y', rfl, hT, rfl, f1, f2⟩ := hy
      have := f1 vs g1
      rw [e1] at this; cases this
      have := f2 ws g2
      rw [e2] at this; cases this
      have xx : Ext ms' H' ms' (upd H' T (.tup [w, w2])) := Ext.fresh hT
      exact ⟨xx, S.fresh hT, .tup (SqT.of upd_same) (.cons (Rep.ext xx S.fine _ _ r3) (.cons (Rep.ext xx S.fine _ _ r4) .nil))⟩
theorem pi_zipT {e e2 : Expr} {fa : FA} {p pos tpos kp cp : Pos} {kc : Nat} {elts : List Expr} {kk : Nat} (hK : X.K = G.K) (hg : Gl X "zip") (hm : X.mg "zip" = none) (ha : PA X [e, e2] (upA G W R fa)) (hs : plainArgs [e, e2] = true) : PI X (.Tuple elts kk tpos) (.Call (.Name "zip" p) [e, e2] [⟨some "strict", .Constant (.bool true) kc cp, kp⟩] pos) (upI G W R (iZipT fa)) := by
  obtain ⟨h1, h2⟩ := plain_ne hs
  refine piOf (RQ.pi_zipS hg hm ha (starEach_plain h1) (plain_any h2)) fun σ H Q ⟨ms, L, ρ, S, e, q⟩ => ?_
  refine ⟨ms, L, ρ, S, e, (post.bind (R1 := Reps G) q).imp (fun vs H1 ⟨ms1, L1, ds, x, s, r, q1⟩ => ?_) fun _ _ _ z => z⟩
  unfold itZipS at q1
  split at q1
  · obtain ⟨v, w, rfl, r1, r2⟩ := reps2 r
    split at q1
    · rename_i hl
      cases r1 with
      | tup a1 b1 =>
        cases r2 with
        | tup a2 b2 => exact ⟨true, true, _, _, _, _, rfl, hK ▸ a1, hK ▸ a2, q1 ms1 H1 _ x s (itok_zipST hK s.fine hl a1 b1 a2 b2)⟩
    · exact q1.elim
  · obtain ⟨v, w, rfl, r1, r2⟩ := reps2 r
    split at q1
    · rename_i xs e1
      split at q1
      · rename_i ys e2
        obtain ⟨ka, pa, vs, rfl, a1, b1, rfl⟩ := seqAt_ok hK s r1 e1
        obtain ⟨kb, pb, ws, rfl, a2, b2, rfl⟩ := seqAt_ok hK s r2 e2
        exact ⟨_, _, _, _, _, _, rfl, a1, a2, q1 ms1 H1 _ x s (itok_zipS hK s.fine r1 r2 _)⟩
      · exact q1.elim
    · exact q1.elim
  · exact q1.elim

/-! ### built-ins -/
theorem boolsOf_rep {ms : List Addr} {H : Hp} : ∀ {l : List D} {vs : List V} {bs : List Bool}, boolsOf l = some bs → Reps G ms H l vs → vs = bs.map V.bl
  | [], _, _, h, r => by cases h; cases r; rfl
  | d :: l, _, bs, h, r => by
    cases r with
    | cons a b =>
      cases d with
      | bl k =>
        cases a
        unfold boolsOf at h
        cases e : boolsOf l with
        | none => rw [e] at h; cases h
        | some q =>
          rw [e] at h; cases h
          rw [List.map_cons, boolsOf_rep e b]
      | _ => cases h
theorem op_bAny (hc : X.calm = true) : OpA X G W (.builtin "any") bAny := OpA.of (cr_any hc) fun ms L H ds vs Q E S rs q => by
  unfold bAny at q
  split at q
  · obtain ⟨v, rfl, r⟩ := reps1 rs
    split at q
    · rename_i xs en
      obtain ⟨p, rfl, _, vs, h1, r1⟩ := S.ref en r
      split at q
      · rename_i ns e
        exact ⟨p, ns, rfl, SqL.of (by rw [← boolsOf_rep e r1]; exact h1), post.same S q (.bl _)⟩
      · exact q.elim
    · exact q.elim
  · exact q.elim
theorem op_bAll (hc : X.calm = true) : OpA X G W (.builtin "all") bAll := OpA.of (cr_all hc) fun ms L H ds vs Q E S rs q => by
  unfold bAll at q
  split at q
  · obtain ⟨v, rfl, r⟩ := reps1 rs
    split at q
    · rename_i xs en
      obtain ⟨p, rfl, _, vs, h1, r1⟩ := S.ref en r
      split at q
      · rename_i ns e
        exact ⟨p, ns, rfl, SqL.of (by rw [← boolsOf_rep e r1]; exact h1), post.same S q (.bl _)⟩
      · exact q.elim
    · exact q.elim
  · exact q.elim
theorem op_bStr : OpA X G W (.type "str") bStr := by
  intro pins s σ H ms L as xs us Q I S rs rv q
  unfold bStr at q
  split at q
  · obtain ⟨v, rfl, r⟩ := reps1 rs
    cases r
    split at q
    · rename_i hl
      exact call_str_int pins s σ H _ us Q I rv ⟨_, rfl, hl, post.same S q (.str _)⟩
    · exact q.elim
  · obtain ⟨v, rfl, r⟩ := reps1 rs
    cases r
    exact SkE.call_str_str pins s σ H _ us Q I rv ⟨_, rfl, post.same S q (.str _)⟩
  · exact q.elim
theorem pairsOf_rep {ms : List Addr} {H : Hp} : ∀ {l : List D} {vs : List V} {kvs : List (D × D)}, pairsOf l = some kvs → Reps G ms H l vs → ∃ (ps : List Addr) (ks : List (Key × V)), vs = ps.map V.ref ∧ Paired (fun p kv => SqT G.K H p [kV kv.1, kv.2]) ps ks ∧ KvRep G ms H kvs ks
  | [], _, _, h, r => by cases h; cases r; exact ⟨[], [], rfl, .nil, .nil⟩
  | d :: l, _, kvs, h, r => by
    cases r with
    | cons a b =>
      unfold pairsOf at h
      split at h
      · rename_i heq
        cases heq
      · rename_i k v r heq
        cases heq
        split at h
        · rename_i hk
          cases e : pairsOf l with
          | none => rw [e] at h; cases h
          | some q =>
            rw [e] at h; cases h
            obtain ⟨ps, ks, rfl, hp, hr⟩ := pairsOf_rep e b
            cases a with
            | tup a1 b1 =>
              obtain ⟨x, y, rfl, rk, rw_⟩ := reps2 b1
              obtain ⟨key, e2⟩ := leaf_key hk
              cases keyD_rep e2 rk
              exact ⟨_ :: ps, (key, y) :: ks, rfl, .cons a1 hp, .cons e2 rw_ hr⟩
        · cases h
      · cases h
theorem op_bDct (hK : X.K = G.K) (hc : X.calm = true) : OpA X G W (.type "dict") bDct := OpA.of (call_dictP hc) fun ms L H ds vs Q E S rs q => by
  unfold bDct at q
  split at q
  · obtain ⟨v, rfl, r⟩ := reps1 rs
    split at q
    · rename_i xs en
      obtain ⟨p, rfl, _, vs, h1, r1⟩ := S.ref en r
      split at q
      · rename_i kvs e
        obtain ⟨ps, ks, rfl, hp, hr⟩ := pairsOf_rep e r1
        obtain ⟨m1, m2⟩ := KvRep.merge hr (.nil : KvRep G ms H [] []) (by simp)
        refine ⟨p, ps, ks, rfl, SqL.of h1, hK ▸ hp, fun a ha => ?_⟩
        exact q (ms ++ [a]) _ (.ref a) (Ext.push ha) (S.push ha True.intro ⟨_, upd_same, m1.kp ((Ext.push ha).kp S.fine), m2⟩) (.ref (by rw [get_app, if_pos S.len.symm]))
      · exact q.elim
    · exact q.elim
  · exact q.elim
theorem findE_ok {d : PyData} : ∀ {ds : List PyData} {i j : Nat}, findE d i ds = some j → ∃ z, i ≤ j ∧ ds[j - i]? = some z ∧ PyData.eqv z d = true ∧ ∀ (m : Nat) (z' : PyData), m < j - i → ds[m]? = some z' → PyData.eqv z' d = false
  | [], _, _, h => by cases h
  | x :: r, i, j, h => by
    unfold findE at h
    by_cases hx : PyData.eqv x d = true
    · rw [if_pos hx] at h
      cases h
      refine ⟨x, Nat.le_refl _, by rw [Nat.sub_self]; rfl, hx, fun m z' hm => by rw [Nat.sub_self] at hm; exact absurd hm (Nat.not_lt_zero _)⟩
    · rw [if_neg hx] at h
      obtain ⟨z, h1, h2, h3, h4⟩ := findE_ok h
      refine ⟨z, by omega, ?_, h3, fun m z' hm hz => ?_⟩
      · rw [show j - i = (j - (i + 1)) + 1 by omega, List.getElem?_cons_succ]; exact h2
      · cases m with
        | zero =>
          rw [List.getElem?_cons_zero] at hz
          cases hz
          simpa using hx
        | succ m =>
          rw [List.getElem?_cons_succ] at hz
          exact h4 m z' (by omega) hz
theorem mtu_index (hK : X.K = G.K) (hu : X.A.units + 65 < cLine) : MtR X "list.index" (rUp G mIndex) := mt_of (mt_indexD hu) fun ms L H d ds x xs Q S r rs q => by
  unfold mIndex at q
  split at q
  · obtain ⟨w, rfl, rw_⟩ := reps1 rs
    split at q
    · rename_i ys en
      obtain ⟨p, rfl, e1, vs, h1, r1⟩ := S.ref en r
      split at q
      · rename_i pd ep
        split at q
        · rename_i ps eps
          split at q
          · rename_i i hi
            obtain ⟨z, _, g1, g2, g3⟩ := findE_ok hi
            rw [Nat.sub_zero] at g1 g3
            obtain ⟨a1, a2, a3⟩ := toP_ok S 50 _ w pd ep rw_
            obtain ⟨b1, b2, b3⟩ := toPs_ok S 50 ys vs ps eps r1
            refine ⟨p, w, pd, ps, i, z, rfl, rfl, .lst (SqL.of h1) (hK ▸ b1), hK ▸ a1, ?_, ?_, g1, g2, g3, post.same S q (.int _)⟩
            · unfold SeqAt.shaped
              rw [show (PyData.list ps).canLay0 = true by simpa [PyData.canLay0] using b2, decide_eq_true (by simp only [PyData.depth]; omega)]; rfl
            · unfold SeqAt.shaped; rw [a2, decide_eq_true (by omega)]; rfl
          · exact q.elim
        · exact q.elim
      · exact q.elim
    · exact q.elim
  · exact q.elim

/-! ### three names at once -/
theorem rs_par3 {i j l : Nat} {x y z : Str} {a b c : Expr} {fa fb fc : FE} {px py pz pt pos : Pos} {kt k2 pt2} (hc : X.calm = true) (hN : X.N.Nodup) (hi : X.N[i]? = some x) (hj : X.N[j]? = some y) (hl : X.N[l]? = some z) (hij : i ≠ j) (hil : i ≠ l) (hjl : j ≠ l)
    (hx : X.env.scope.names.lookup x = some .local) (hy : X.env.scope.names.lookup y = some .local) (hz : X.env.scope.names.lookup z = some .local) (ha : PA X [a, b, c] (upA G W R (aCons fa (aCons fb (aCons fc aNil)))))
    (hw : swappedStores [.Tuple [.Name x px, .Name y py, .Name z pz] kt pt] (.Tuple [a, b, c] k2 pt2) X.env = pure (some [x, y, z]))
    (hs : swapsWithSole [.Tuple [.Name x px, .Name y py, .Name z pz] kt pt] (.Tuple [a, b, c] k2 pt2) pos.line X.env = pure false) :
    PS X (.Assign [.Tuple [.Name x px, .Name y py, .Name z pz] kt pt] (.Tuple [a, b, c] k2 pt2) pos) (upS G W R (sAsg (aApp (aCons fa (aCons fb (aCons fc aNil))) oTup) (gTp 3 (gsCons (gNm i) (gsCons (gNm j) (gsCons (gNm l) gsNil)))))) :=
  psOf (ps_par3 hc hN hi hj hl hij hil hjl hx hy hz ha hw hs) fun E σ H ⟨ms, L, ρ, S, e, q⟩ => by
    have q' : postS G W ms H E (((aCons fa (aCons fb (aCons fc aNil))) R ρ L).st ρ fun ds L1 => (oTup ds L1).st ρ fun d L1 => (gTp 3 (gsCons (gNm i) (gsCons (gNm j) (gsCons (gNm l) gsNil))) R d ρ L1).st ρ fun ρ1 L2 => .ok (.nx, ρ1) L2) := by
      have q1 := q
      unfold sAsg aApp at q1
      cases h : (aCons fa (aCons fb (aCons fc aNil))) R ρ L with
      | ok ds L1 => rw [h] at q1; exact q1
      | exc _ _ _ => rw [h] at q1; exact q1
      | bad => rw [h] at q1; exact q1
    refine ⟨ms, L, ρ, S, e, (postS.st (R1 := Reps G) S e q').imp (fun vs H1 ⟨ms1, L1, ds, x, s, r, en, q1⟩ => ?_) fun _ _ _ z => z⟩
    cases r with
    | nil => exact q1.elim
    | cons r1 r =>
      cases r with
      | nil => exact q1.elim
      | cons r2 r =>
        cases r with
        | nil => exact q1.elim
        | cons r3 r =>
          cases r with
          | nil => exact ⟨_, _, _, rfl, q1 ms1 H1 _ x s (((en.set r1 i).set r2 j).set r3 l)⟩
          | cons r4 r =>
            exfalso
            unfold oTup at q1
            split at q1
            · exact q1
            · exact q1
end
end PD
/-! P11: from a program's text to its combinators. -/
namespace PD
open PySem PySem.Spec PyProof.Rows L2

/-! ### what is said of nothing -/
def eBad : FE := fun _ _ _ => .bad
def tBad : FT := fun _ _ _ => .bad
def sBad : FS := fun _ _ _ => .bad
def gBad : FG := fun _ _ _ _ => .bad
def iBad : FI := fun _ _ _ => .bad
def aBad : FA := fun _ _ _ => .bad
section
variable {X : Cx} {G : Sta} {W : WX} {R : Rec}
theorem re_bad {e : Expr} : PE X e (upE G W R eBad) := ⟨fun _ _ _ _ _ _ ⟨_, _, _, _, _, q⟩ => q.elim⟩
theorem rt_bad {e : Expr} : PT X e (upT G W R tBad) := ⟨fun _ _ _ _ _ _ ⟨_, _, _, _, _, q⟩ => q.elim⟩
theorem rs_bad {e : Stmt} : PS X e (upS G W R sBad) := ⟨fun _ _ _ _ _ _ ⟨_, _, _, _, _, q⟩ => q.elim⟩
theorem rg_bad {Pr : L2.St → L2.St → Prop} {e : Expr} : PG X e (upGp Pr G W R gBad) := ⟨fun _ _ _ _ _ _ _ _ _ ⟨_, _, _, _, _, _, _, q⟩ => q.elim⟩
theorem ri_bad {tg e : Expr} : PI X tg e (upI G W R iBad) := ⟨fun _ _ _ _ _ _ ⟨_, _, _, _, _, q⟩ => q.elim⟩
theorem ra_bad {es : List Expr} : PA X es (upA G W R aBad) := ⟨fun _ _ _ _ _ _ _ ⟨_, _, _, _, _, q⟩ => q.elim⟩
end

/-- the names of a program: its defs, classes, methods, fields, constants; the built-ins' names that it does not bind -/
structure Tab where
  fns : List (Str × Nat)
  cls : List (Str × (Nat × Nat))
  mets : List (Str × List (Nat × Nat))
  flds : List (Str × List Nat)
  con : List (Str × D)
  blt : List Str
  /-- exception classes with an __init__: number, field, the field's def -/
  excs : List (Str × (Nat × (Str × Nat)))
  /-- classes that clauses name: number, the classes that they take -/
  hnds : List (Str × (Nat × List Nat))
  /-- all exception classes -/
  xall : List Nat
  /-- the fields of exceptions: classes -/
  xfl : List (Str × List Nat)
/-- one step of the reading, given the reading of parts -/
structure Cmp where
  E : Ctx → Expr → FE
  T : Ctx → Expr → FT
  I : Ctx → Expr → Expr → FI
  G : Ctx → Expr → FG
  W : List Nat → Ctx → Expr → FG
  S : Ctx → Stmt → FS
def Cmp.bad : Cmp := ⟨fun _ _ => eBad, fun _ _ => tBad, fun _ _ _ => iBad, fun _ _ => gBad, fun _ _ _ => gBad, fun _ _ => sBad⟩

def okNm (x : Str) : Bool := !(x == ("__debug__" : Str)) && !(x == ("__classdict__" : Str)) && !decide (x = ("__name__" : Str))
theorem okNm_ok {x : Str} (h : okNm x = true) : (x == ("__debug__" : Str)) = false ∧ (x == ("__classdict__" : Str)) = false ∧ x ≠ "__name__" := by
  unfold okNm at h
  rw [Bool.and_eq_true, Bool.and_eq_true] at h
  refine ⟨by simpa using h.1.1, by simpa using h.1.2, ?_⟩
  have := h.2
  simpa using this
/-- the slot of a name -/
def slot (x : Str) : List Str → Option Nat
  | [] => none
  | y :: r => if y = x then some 0 else (slot x r).map (· + 1)
theorem slot_ok {x : Str} : ∀ {l : List Str} {i : Nat}, slot x l = some i → l[i]? = some x
  | [], _, h => by cases h
  | y :: r, i, h => by
    unfold slot at h
    split at h
    · rename_i e
      cases h
      rw [e]; rfl
    · cases e2 : slot x r with
      | none => rw [e2] at h; cases h
      | some j =>
        rw [e2] at h
        cases h
        exact slot_ok (l := r) e2
def isVis (sc : Scope) (x : Str) : Bool := isLoc sc x || isCell sc x || isFree sc x
/-- a built-in's name, not bound at the top -/
def isBlt (T : Tab) (c : Ctx) (x : Str) : Bool := isGlo c.sc x && T.blt.contains x
def plainBase (o : Expr) : Bool := match o with
  | .Call (.Name _ _) [] [] _ => false
  | _ => true
theorem plainBase_ok {o : Expr} {f : Str} {env : PySem.Env} {wh : Sem Value} (h : plainBase o = true) : attributeBase o f env wh = wh := by
  unfold plainBase at h
  unfold attributeBase
  split at h
  · cases h
  · rename_i hn
    split
    · rename_i id q pos
      exact absurd rfl (hn id q pos)
    · rfl

/-! ### operators -/
def binOf : Operator → Option (D → D → LH → Res D)
  | .Add => some oAdd
  | .Sub => some oSub
  | .Mult => some oMul
  | .FloorDiv => some oDiv
  | .Mod => some oMod
  | .Pow => some oPow
  | .LShift => some oShl
  | .RShift => some oShr
  | .BitAnd => some oBand
  | _ => none
def cmpOf : CmpOp → Option (D → D → LH → Res D)
  | .Eq => some oEq
  | .NotEq => some oNe
  | .Lt => some oLt
  | .LtE => some oLe
  | .Gt => some oGt
  | .GtE => some oGe
  | .Is => some oIs
  | .IsNot => some oIsNot
  | .In => some oIn
  | .NotIn => some oNotIn
def bltOf (cm : Bool) (x : Str) : Option (List D → LH → Res D) :=
  if x = "len" then some bLen else if x = "abs" then some bAbs else if x = "sorted" then some bSorted
  else if cm && decide (x = "max") then some bMaxA else if cm && decide (x = "min") then some bMinA else if cm && decide (x = "sum") then some bSum
  else if cm && decide (x = "repr") then some bReprO else if cm && decide (x = "any") then some bAny else if cm && decide (x = "all") then some bAll else none
def typOf (cm : Bool) (x : Str) : Option (List D → LH → Res D) :=
  if x = "int" then some bInt else if x = "tuple" then some bTup else if cm && decide (x = "list") then some bLst else if x = "str" then some bStr else if cm && decide (x = "dict") then some bDct else none
/-- a built-in's method, by its name: the type it is of -/
def metOf (m : Str) : Option (String × (D → List D → LH → Res D)) :=
  if m = "append" then some ("list", mAppend) else if m = "pop" then some ("list", mPop) else if m = "extend" then some ("list", mExtend) else if m = "clear" then some ("list", mClear)
  else if m = "get" then some ("dict", mGet) else if m = "index" then some ("list", mIndex) else none

/-! ### expressions -/
def cA (f : Expr → FE) : List Expr → FA
  | [] => aNil
  | e :: r => aCons (f e) (cA f r)
/-- a display's members, some of them starred -/
def cAS (f : Expr → FE) : List Expr → FA
  | [] => aNil
  | .Starred e _ :: r => aStar (f e) (cAS f r)
  | e :: r => aCons (f e) (cAS f r)
def cAnd (f : Expr → FE) : List Expr → FE
  | [] => eBad
  | [e] => f e
  | e :: r => eAnd (f e) (cAnd f r)
def cOr (f : Expr → FE) : List Expr → FE
  | [] => eBad
  | [e] => f e
  | e :: r => eOr (f e) (cOr f r)
def cTAnd (f : Expr → FT) : List Expr → FT
  | [] => tBad
  | [e] => f e
  | e :: r => tAnd (f e) (cTAnd f r)
def cTOr (f : Expr → FT) : List Expr → FT
  | [] => tBad
  | [e] => f e
  | e :: r => tOr (f e) (cTOr f r)
def cO (f : Expr → FE) : Option Expr → FO
  | none => bNo
  | some e => bAt (f e)
def cPairs (f : Expr → FE) : List (Option Expr) → List Expr → Option (List (FE × FE))
  | [], [] => some []
  | some k :: ks, v :: vs => (cPairs f ks vs).map ((f k, f v) :: ·)
  | _, _ => none
def noSlice (e : Expr) : Bool := match e with
  | .Slice _ _ _ _ => false
  | _ => true
def notSet (e : Expr) : Bool := match e with
  | .Set _ _ _ => false
  | _ => true
theorem notSet_ok {e : Expr} {env : PySem.Env} (h : notSet e = true) : ∀ x, foldedSetIterable e env x = pure x := fun x => by
  cases e <;> first
    | rfl
    | cases h
/-- the slots of a comprehension's own names -/
def ownOf (N : List Str) (scope : Scope) : List (Str × Nat) := scope.names.filterMap fun y => match y.2 with
  | .local => (slot y.1 N).map fun i => (y.1, i)
  | .cell => (slot y.1 N).map fun i => (y.1, i)
  | _ => none
def uniqL : List (Str × NameKind) → Bool
  | [] => true
  | y :: r => r.all (fun z => !decide (z.1 = y.1)) && uniqL r
def blkOkB (N : List Str) (sc scope : Scope) : Bool := (scope.kind == .function) && uniqL scope.names
  && scope.names.all fun y => match y.2 with
    | .free => isCell sc y.1 || isFree sc y.1
    | .local => true
    | .cell => true
    | _ => true
def exCall (T : Tab) (c : Cmp) (x : Ctx) (f : Expr) (es : List Expr) (pos : Pos) : FE :=
  match f with
  | .Name n _ =>
    if isGlo x.sc n && okNm n then
      (match T.fns.lookup n with
      | some i => if x.cm then eCall i (cA (c.E x) es) else eBad
      | none => match T.cls.lookup n with
        | some (k, i) => if x.cm && !es.isEmpty then eMake k i (cA (c.E x) es) else eBad
        | none => if !T.blt.contains n || es.isEmpty then eBad else match bltOf x.cm n with
          | some op => aApp (cA (c.E x) es) op
          | none => match typOf x.cm n with
            | some op => aApp (cA (c.E x) es) op
            | none => eBad)
    else eBad
  | .Attribute o m apos =>
    if plainBase o then
      (match T.mets.lookup m with
      | some tb => if x.cm && (apos.endLine == pos.line) && decide (es.length < 29) then eMeth m tb (c.E x o) (cA (c.E x) es) else eBad
      | none => match metOf m with
        | some (ty, op) => if (apos.endLine == pos.line) && decide (es.length < 29) then eBM ty op (c.E x o) (cA (c.E x) es) else eBad
        | none => eBad)
    else eBad
  | _ => eBad
/-- calls of a form of their own -/
def exSpec (T : Tab) (c : Cmp) (x : Ctx) (f : Str) (es : List Expr) : Option FE :=
  if f = "isinstance" then (match es with
    | [a, .Name t _] => if isBlt T x f && isBlt T x t && okNm t && plainArgs [a] && tyNames.any (fun z => decide (t = Str.ofString z)) then (tyNames.find? fun z => decide (t = Str.ofString z)).map fun z => e1 (oIsi z) (c.E x a) else none
    | _ => none)
  else if f = "list" then (match es with
    | [.Call (.Name g _) [a] [] _] => if decide (g = "range") && x.cm && isBlt T x f && isBlt T x g && plainArgs [a] then some (rg1 oLstR (c.E x a)) else none
    | [.Call (.Name g _) [a, b] [] _] => if decide (g = "range") && x.cm && isBlt T x f && isBlt T x g && plainArgs [a, b] then some (rg2 oLstR (c.E x a) (c.E x b)) else none
    | _ => none)
  else if f = "tuple" then (match es with
    | [.Call (.Name g _) [a] [] _] => if decide (g = "range") && x.cm && isBlt T x f && isBlt T x g && plainArgs [a] then some (rg1 oTupR (c.E x a)) else none
    | [.Call (.Name g _) [a, b] [] _] => if decide (g = "range") && x.cm && isBlt T x f && isBlt T x g && plainArgs [a, b] then some (rg2 oTupR (c.E x a) (c.E x b)) else none
    | _ => none)
  else none
def blkCtx (x : Ctx) (scope : Scope) : Ctx := ⟨x.N, true, x.cm, relS scope x.sc⟩
def cIfs (f : Expr → FT) : List Expr → FT
  | [] => tYesT
  | [t] => f t
  | _ => tBad
def exE (T : Tab) (c : Cmp) (x : Ctx) (e : Expr) : FE := match e with
  | .Constant k _ _ => (match k with
    | .int i => eC (.int i)
    | .bool b => eC (.bl b)
    | .none => eC .non
    | .str s => eC (.str s)
    | _ => eBad)
  | .Name n _ => if okNm n then (if isVis x.sc n then (match slot n x.N with
      | some i => eVar i
      | none => eBad) else if isGlo x.sc n then (match T.con.lookup n with
      | some d => eC d
      | none => eBad) else eBad) else eBad
  | .BinOp a op b _ => (match binOf op with
    | some g => e2 g (c.E x a) (c.E x b)
    | none => eBad)
  | .UnaryOp op a _ => (match op with
    | .Not => eNot (c.E x a)
    | .USub => e1 oNeg (c.E x a)
    | _ => eBad)
  | .BoolOp op es _ => (match op with
    | .And => cAnd (c.E x) es
    | .Or => cOr (c.E x) es)
  | .IfExp t a b _ => eIf (c.T x t) (c.E x a) (c.E x b)
  | .Compare a [op] [b] _ => (match cmpOf op with
    | some g => if behindInMarks op b then eBad else e2 g (c.E x a) (c.E x b)
    | none => eBad)
  | .Compare a [op, op'] [b, d] _ => (match cmpOf op, cmpOf op' with
    | some g, some g' => if lastMarks [op, op'] [b, d] then eBad else eChn g g' (c.E x a) (c.E x b) (c.E x d)
    | _, _ => eBad)
  | .Tuple es _ _ => if plainArgs es then aApp (cA (c.E x) es) oTup else aApp (cAS (c.E x) es) oTup
  | .List es _ => if plainArgs es then aApp (cA (c.E x) es) oLst else aApp (cAS (c.E x) es) oLst
  | .Subscript a (.Slice none none (some (.UnaryOp .USub (.Constant (.int 1) _ _) _)) _) _ => e1 oRevL (c.E x a)
  | .Subscript a (.Slice lo hi none _) _ => eSl (c.E x a) (cO (c.E x) lo) (cO (c.E x) hi)
  | .Subscript a b _ => if noSlice b then e2 oIx (c.E x a) (c.E x b) else eBad
  | .Attribute o f _ => if plainBase o then (match T.flds.lookup f with
    | some cs => e1 (oFld cs f) (c.E x o)
    | none => eBad) else eBad
  | .Dict ks vs _ => if decide (ks.length ≤ 15) then (match cPairs (c.E x) ks vs with
    | some ps => eDct ps
    | none => eBad) else eBad
  | .ListComp elt [⟨tg, iter, ifs, 0⟩] scope _ => if x.cm && notSet iter && blkOkB x.N x.sc scope then eLc ((ownOf x.N scope).map (·.2)) (c.I x tg iter) (cTurn (c.W ((ownOf x.N scope).map (·.2)) (blkCtx x scope) tg) (cIfs (c.T (blkCtx x scope)) ifs) (c.E (blkCtx x scope) elt)) else eBad
  | .DictComp kx vx [⟨tg, iter, ifs, 0⟩] scope _ => if x.cm && notSet iter && blkOkB x.N x.sc scope then eDc ((ownOf x.N scope).map (·.2)) (c.I x tg iter) (cPair (c.W ((ownOf x.N scope).map (·.2)) (blkCtx x scope) tg) (cIfs (c.T (blkCtx x scope)) ifs) (c.E (blkCtx x scope) kx) (c.E (blkCtx x scope) vx)) else eBad
  | .Call f es [] pos => if plainArgs es then (match f with
    | .Name n _ => (match exSpec T c x n es with
      | some g => g
      | none => exCall T c x f es pos)
    | _ => exCall T c x f es pos) else eBad
  | _ => eBad

/-! ### tests -/
def plainT (e : Expr) : Bool := match e with
  | .UnaryOp .Not _ _ => false
  | .BoolOp _ _ _ => false
  | .IfExp _ _ _ _ => false
  | .Compare _ _ _ _ => false
  | _ => true
theorem plainT_ok {e : Expr} {env : PySem.Env} (h : plainT e = true) : ∀ whole, isTrue e env whole = (do let v ← whole; standAt e.pos; holding [v] (truthy v)) := fun whole => by
  cases e with
  | UnaryOp op a p =>
    cases op <;> first
      | rfl
      | cases h
  | BoolOp _ _ _ => cases h
  | IfExp _ _ _ _ => cases h
  | Compare _ _ _ _ => cases h
  | _ => rfl
def exT (c : Cmp) (x : Ctx) (e : Expr) : FT := match e with
  | .UnaryOp .Not a _ => tNot (c.T x a)
  | .BoolOp .And es _ => cTAnd (c.T x) es
  | .BoolOp .Or es _ => cTOr (c.T x) es
  | .Compare a [op] [b] _ => (match cmpOf op with
    | some g => if behindInMarks op b then tBad else tV (e2 g (c.E x a) (c.E x b))
    | none => tBad)
  | .Compare a [op, op'] [b, d] _ => (match cmpOf op, cmpOf op' with
    | some g, some g' => if lastMarks [op, op'] [b, d] then tBad else tB1 (eChn g g' (c.E x a) (c.E x b) (c.E x d))
    | _, _ => tBad)
  | e => if plainT e then tV (c.E x e) else tBad

/-! ### what is walked -/
def exI (T : Tab) (c : Cmp) (x : Ctx) (tg e : Expr) : FI := match e with
  | .Call (.Name f _) es [] _ => if decide (f = "range") && isBlt T x f && plainArgs es then (match es with
      | [a] => iRange1 (cA (c.E x) [a])
      | [a, b] => iRange2 (cA (c.E x) [a, b])
      | _ => iBad)
    else if decide (f = "enumerate") && isBlt T x f && plainArgs es then (match es, tg with
      | [a], .Tuple _ _ _ => iEnuA (cA (c.E x) [a])
      | _, _ => iBad)
    else if decide (f = "zip") && isBlt T x f && plainArgs es then (match es, tg with
      | [a, b], .Tuple _ _ _ => iZip2 (cA (c.E x) [a, b])
      | _, _ => iBad)
    else iE (c.E x e)
  | .Call (.Name f _) [a, b] [⟨some kw, .Constant (.bool true) _ _, _⟩] _ => (match tg with
      | .Tuple _ _ _ => if decide (f = "zip") && isBlt T x f && plainArgs [a, b] && decide (kw = "strict") then iZipT (cA (c.E x) [a, b]) else iBad
      | _ => iBad)
  | _ => iE (c.E x e)

/-! ### targets -/
def noStar (e : Expr) : Bool := match e with
  | .Starred _ _ => false
  | _ => true
def cGs (f : Expr → FG) : List Expr → FGs
  | [] => gsNil
  | e :: r => gsCons (f e) (cGs f r)
def exG (c : Cmp) (x : Ctx) (e : Expr) : FG := match e with
  | .Name n _ => if canAsg x.bk x.sc n then (match slot n x.N with
    | some i => gNm i
    | none => gBad) else gBad
  | .Tuple es _ _ => if x.cm && plainArgs es then gTp es.length (cGs (c.G x) es) else gBad
  | .Subscript o i _ => if noSlice i then gSub (c.E x o) (c.E x i) else gBad
  | _ => gBad
def exW (c : Cmp) (vs : List Nat) (x : Ctx) (e : Expr) : FG := match e with
  | .Name n _ => if canAsg x.bk x.sc n then (match slot n x.N with
    | some i => if vs.contains i then gNm i else gBad
    | none => gBad) else gBad
  | .Tuple es _ _ => if x.cm && plainArgs es then gTp es.length (cGs (c.W vs x) es) else gBad
  | _ => gBad

/-! ### statements -/
def cB (f : Stmt → FS) : List Stmt → FS
  | [] => sNext
  | s :: r => sSeq (f s) (cB f r)
def isComp (e : Expr) : Bool := match e with
  | .ListComp _ _ _ _ => true
  | .SetComp _ _ _ _ => true
  | .DictComp _ _ _ _ _ => true
  | _ => false
theorem notComp_swap {e : Expr} {t : Option Expr} {l : Nat} {env : PySem.Env} (h : isComp e = false) : swapsWith e t l env = pure false := by
  cases e <;> first
    | rfl
    | cases h
/-- y = [..], on one line, y a local that the list's block has not -/
def swapLc (x : Ctx) (y : Str) (py : Pos) (scope : Scope) (pos : Pos) : Bool := isLoc x.sc y && (py.line == pos.line) && !(scope.names.any fun (n, k) => n == y && (k == .local || k == .cell))
/-- a tuple is made, and taken apart, by an assignment of a tuple -/
def swapFree (x : Ctx) (es vs : List Expr) : Bool := !(es.length == 2 || es.length == 3) || vs.length != es.length || (es.filterMap (fun (e : Expr) => match e with
  | .Name id pos => if isLoc x.sc id && (pos.line == (es.head?.map (·.pos.line)).getD 0) then some id else none
  | _ => none)).length != es.length
def augOf : Operator → Option (D → D → LH → Res D)
  | .Add => some oIAdd
  | _ => none
def exS (T : Tab) (c : Cmp) (x : Ctx) (s : Stmt) : FS := match s with
  | .Pass _ => sNext
  | .Break _ => sBrk
  | .Continue _ => sCnt
  | .Return none _ => sRetN
  | .Return (some e) _ => sRet (c.E x e)
  | .Expr e _ => if isComp e then sBad else sExpr (c.E x e)
  | .If t a b _ => sIf (c.T x t) (cB (c.S x) a) (cB (c.S x) b)
  | .For tg iter body [] _ => if x.cm && notSet iter then sFor (c.G x tg) (c.I x tg iter) (cB (c.S x) body) else sBad
  | .While t body [] _ => sWhile (c.T x t) (cB (c.S x) body)
  | .Assign [.Name y py] v pos => if canAsg x.bk x.sc y then (match slot y x.N with
      | some i => if isComp v then (match v with
          | .ListComp elt [⟨tg, iter, ifs, 0⟩] scope vpos => if x.cm && notSet iter && blkOkB x.N x.sc scope && swapLc x y py scope vpos then sAsg (eLc ((ownOf x.N scope).map (·.2)) (c.I x tg iter) (cTurn (c.W ((ownOf x.N scope).map (·.2)) (blkCtx x scope) tg) (cIfs (c.T (blkCtx x scope)) ifs) (c.E (blkCtx x scope) elt))) (gNm i) else if swapLc x y py scope vpos then sBad else sAsg (c.E x v) (gNm i)
          | .ListComp _ _ scope vpos => if swapLc x y py scope vpos then sBad else sAsg (c.E x v) (gNm i)
          | .DictComp _ _ _ scope vpos => if swapLc x y py scope vpos then sBad else sAsg (c.E x v) (gNm i)
          | _ => sBad) else sAsg (c.E x v) (gNm i)
      | none => sBad) else sBad
  | .Assign [.Attribute o f _] v _ => (match T.flds.lookup f with
    | some cs => sFldSet cs f (c.E x o) (c.E x v)
    | none => sBad)
  | .Assign [.Subscript o i p] v _ => sAsg (c.E x v) (c.G x (.Subscript o i p))
  | .Assign [.Tuple [.Name a pa, .Name b pb] k1 p1] (.Tuple [e1, e2] k2 p2) _ => (match slot a x.N, slot b x.N with
    | some i, some j => if x.cm && isLoc x.sc a && isLoc x.sc b && !decide (i = j) && (pb.line == pa.line) && plainArgs [e1, e2] && !(a == b) then
        (if [e1, e2].all (foldedForSure 8) then sAsg (c.E x (.Tuple [e1, e2] k2 p2)) (c.G x (.Tuple [.Name a pa, .Name b pb] k1 p1))
        else if [e1, e2].all (constantsAlone 8) then sBad
        else sAsg (aApp (aCons (c.E x e1) (aCons (c.E x e2) aNil)) oTup) (gTp 2 (gsCons (gNm i) (gsCons (gNm j) gsNil)))) else if swapFree x [.Name a pa, .Name b pb] [e1, e2] then sAsg (c.E x (.Tuple [e1, e2] k2 p2)) (c.G x (.Tuple [.Name a pa, .Name b pb] k1 p1)) else sBad
    | _, _ => sBad)
  | .Assign [.Tuple [.Name a pa, .Name b pb, .Name d pd] k1 p1] (.Tuple [e1, e2, e3] k2 p2) _ => (match slot a x.N, slot b x.N, slot d x.N with
    | some i, some j, some l => if x.cm && isLoc x.sc a && isLoc x.sc b && isLoc x.sc d && !decide (i = j) && !decide (i = l) && !decide (j = l) && (pb.line == pa.line) && (pd.line == pa.line) && plainArgs [e1, e2, e3] && !(a == b) && !(a == d) && !(b == d) then
        (if [e1, e2, e3].all (foldedForSure 8) then sAsg (c.E x (.Tuple [e1, e2, e3] k2 p2)) (c.G x (.Tuple [.Name a pa, .Name b pb, .Name d pd] k1 p1))
        else if [e1, e2, e3].all (constantsAlone 8) then sBad
        else sAsg (aApp (aCons (c.E x e1) (aCons (c.E x e2) (aCons (c.E x e3) aNil))) oTup) (gTp 3 (gsCons (gNm i) (gsCons (gNm j) (gsCons (gNm l) gsNil))))) else if swapFree x [.Name a pa, .Name b pb, .Name d pd] [e1, e2, e3] then sAsg (c.E x (.Tuple [e1, e2, e3] k2 p2)) (c.G x (.Tuple [.Name a pa, .Name b pb, .Name d pd] k1 p1)) else sBad
    | _, _, _ => sBad)
  | .Assign [.Tuple es k p] (.Tuple vs k2 p2) _ => if swapFree x es vs then sAsg (c.E x (.Tuple vs k2 p2)) (c.G x (.Tuple es k p)) else sBad
  | .Assign [.Tuple es k p] (.IfExp t v w q) _ => sAsg (c.E x (.IfExp t v w q)) (c.G x (.Tuple es k p))
  | .Assign [.Tuple es k p] (.Attribute o f q) _ => sAsg (c.E x (.Attribute o f q)) (c.G x (.Tuple es k p))
  | .Assign [.Tuple es k p] (.Name n q) _ => sAsg (c.E x (.Name n q)) (c.G x (.Tuple es k p))
  | .Assign [.Tuple es k p] (.Call f as ks q) _ => sAsg (c.E x (.Call f as ks q)) (c.G x (.Tuple es k p))
  | .Assign [.Tuple es k p] (.Subscript a b q) _ => sAsg (c.E x (.Subscript a b q)) (c.G x (.Tuple es k p))
  | .AugAssign (.Name y _) op e _ => if canAsg x.bk x.sc y then (match slot y x.N, augOf op with
    | some i, some g => sAug i g (c.E x e)
    | _, _ => sBad) else sBad
  | .AugAssign (.Subscript o i _) op e _ => if noSlice i then (match augOf op with
    | some g => sSubAug (c.E x o) (c.E x i) g (c.E x e)
    | none => sBad) else sBad
  | .Raise (some (.Call (.Name n _) es [] _)) none _ => if x.cm && isGlo x.sc n && okNm n && plainArgs es && !es.isEmpty then (match T.excs.lookup n with
    | some (k, f, i) => sRaise k f i (cA (c.E x) es)
    | none => sBad) else sBad
  | .Try body [.ExceptHandler (some (.Name h _)) none (b :: suite) _] [] [] _ => if isGlo x.sc h && okNm h then (match T.hnds.lookup h with
    | some (_, cs) => sTry T.xall cs (cB (c.S x) body) (cB (c.S { x with cm := false }) (b :: suite))
    | none => sBad) else sBad
  | .Try body [.ExceptHandler (some (.Name h _)) (some n) [.Return (some (.Attribute (.Name n2 _) f _)) _] _] [] [] _ => if isGlo x.sc h && okNm h && okNm n && isLoc x.sc n && decide (n2 = n) then (match T.hnds.lookup h, T.xfl.lookup f, slot n x.N with
    | some (_, cs), some fs, some i => if cs.all fs.contains then sTryF T.xall cs i f (cB (c.S x) body) else sBad
    | _, _, _ => sBad) else sBad
  | _ => sBad

def Cmp.step (T : Tab) (c : Cmp) : Cmp := ⟨exE T c, exT c, exI T c, exG c, exW c, exS T c⟩
def cmp (T : Tab) : Nat → Cmp
  | 0 => .bad
  | n + 1 => (cmp T n).step T
end PD
/-! P12: the reading of a text is sound. -/
namespace PD
open PySem PySem.Spec PyProof.Rows L2

structure TabOk (G : Sta) (R : Rec) (k : Nat) (T : Tab) : Prop where
  fn : ∀ x i, T.fns.lookup x = some i → ∃ f ps, G.mg x = some (.ref f) ∧ CalleeP G.P G.w G.K G.mg G.base G k f ps (R i) ∧ fits ps.length (R i)
  cl : ∀ x c i, T.cls.lookup x = some (c, i) → ∃ f ps, G.mg x = some (.ref (G.CA c)) ∧ Mk G.K (G.CA c) f ∧ CalleeP G.P G.w G.K G.mg G.base G k f ps (R i) ∧ fits ps.length (R i)
  met : ∀ m tb, T.mets.lookup m = some tb → ∀ c i, tb.lookup c = some i → Cls G.K (G.CA c) ∧ ∃ f ps, Meth G.K (G.CA c) m f ∧ CalleeP G.P G.w G.K G.mg G.base G k f ps (R i) ∧ fits ps.length (R i)
  fld : ∀ f cs, T.flds.lookup f = some cs → FldOk G cs f
  con : ∀ x d, T.con.lookup x = some d → ∃ u v, G.mg x = some u ∧ RelV v u ∧ ∀ ms H, Rep G ms H d v
  blt : ∀ x, T.blt.contains x = true → G.mg x = none
  exc : ∀ x c f i, T.excs.lookup x = some (c, f, i) → G.mg x = some (.ref (G.CA c)) ∧ ∃ ps, XcOk G k c f ps (R i)
  hnd : ∀ x h cs, T.hnds.lookup x = some (h, cs) → G.mg x = some (.ref (G.CA h)) ∧ HdOk G T.xall h cs
  xfl : ∀ f cs, T.xfl.lookup f = some cs → ∀ c ∈ cs, XfC G.K (G.CA c) ∧ PySem.W.findIn G.K (.ref (G.CA c)) f = some none

structure Sound (G : Sta) (R : Rec) (k : Nat) (c : Cmp) : Prop where
  oE : ∀ (X : Cx) (W : WX) (x : Ctx), Fit X G W (k + 1) x → ∀ e, PE X e (upE G W R (c.E x e))
  oT : ∀ (X : Cx) (W : WX) (x : Ctx), Fit X G W (k + 1) x → ∀ e, PT X e (upT G W R (c.T x e))
  oI : ∀ (X : Cx) (W : WX) (x : Ctx), Fit X G W (k + 1) x → ∀ tg e, PI X tg e (upI G W R (c.I x tg e))
  oG : ∀ (X : Cx) (W : WX) (x : Ctx), Fit X G W (k + 1) x → ∀ e, PG X e (upG G W R (c.G x e))
  oW : ∀ (X : Cx) (W : WX) (x : Ctx), Fit X G W (k + 1) x → ∀ vs e, PG X e (upGp (PrW vs) G W R (c.W vs x e))
  oS : ∀ (X : Cx) (W : WX) (x : Ctx), FitS X G W (k + 1) x → ∀ s, PS X s (upS G W R (c.S x s))
theorem Sound.bad {G : Sta} {R : Rec} {k : Nat} : Sound G R k Cmp.bad where
  oE := fun _ _ _ _ _ => re_bad
  oT := fun _ _ _ _ _ => rt_bad
  oI := fun _ _ _ _ _ _ => ri_bad
  oG := fun _ _ _ _ _ => rg_bad
  oW := fun _ _ _ _ _ _ => rg_bad
  oS := fun _ _ _ _ _ => rs_bad

section
variable {X : Cx} {G : Sta} {W : WX} {R : Rec} {k : Nat} {T : Tab} {x : Ctx} {c : Cmp}
theorem isBlt_ok (F : Fit X G W k x) (TO : TabOk G R j T) {n : Str} (h : isBlt T x n = true) : Gl X n ∧ X.mg n = none := by
  unfold isBlt at h
  rw [Bool.and_eq_true] at h
  refine ⟨F.gl h.1, ?_⟩
  rw [F.emg]
  exact TO.blt n h.2
theorem cA_ok (f : Expr → FE) (h : ∀ e, PE X e (upE G W R (f e))) : ∀ es, plainArgs es = true → PA X es (upA G W R (cA f es))
  | [], _ => ra_nil
  | e :: es, hp => ra_cons (h e) (cA_ok f h es (plain_ne hp).2) (starEach_plain (plain_ne hp).1)
theorem cAS_ok (hK : X.K = G.K) (f : Expr → FE) (h : ∀ e, PE X e (upE G W R (f e))) : ∀ es, PA X es (upA G W R (cAS f es))
  | [] => ra_nil
  | e :: es => by
    have hr := cAS_ok hK f h es
    cases e with
    | Starred e p => exact ra_star hK (h e) hr
    | _ => exact ra_cons (h _) hr (starEach_plain fun _ _ z => nomatch z)
theorem cA_nil (f : Expr → FE) (es : List Expr) : es = [] → cA f es = aNil := fun h => by rw [h]; rfl
theorem cAnd_ok (hK : X.K = G.K) (f : Expr → FE) (h : ∀ e, PE X e (upE G W R (f e))) (pos : Pos) : ∀ es, PE X (.BoolOp .And es pos) (upE G W R (cAnd f es))
  | [] => re_bad
  | [e] => re_one (h e)
  | e :: e2 :: es => re_and hK (h e) (cAnd_ok hK f h pos (e2 :: es))
theorem cOr_ok (hK : X.K = G.K) (f : Expr → FE) (h : ∀ e, PE X e (upE G W R (f e))) (pos : Pos) : ∀ es, PE X (.BoolOp .Or es pos) (upE G W R (cOr f es))
  | [] => re_bad
  | [e] => re_one (h e)
  | e :: e2 :: es => re_or hK (h e) (cOr_ok hK f h pos (e2 :: es))
theorem rw_bad {e : Expr} : PW X e (upT G W R tBad) := ⟨fun _ _ _ _ _ _ _ ⟨_, _, _, _, _, q⟩ => q.elim⟩
theorem cTAnd_ok (f : Expr → FT) (h : ∀ e, PT X e (upT G W R (f e))) (pos : Pos) : ∀ es, PW X (.BoolOp .And es pos) (upT G W R (cTAnd f es))
  | [] => rw_bad
  | [e] => rt_and1 (h e)
  | e :: e2 :: es => rt_and (h e) (cTAnd_ok f h pos (e2 :: es))
theorem cTOr_ok (f : Expr → FT) (h : ∀ e, PT X e (upT G W R (f e))) (pos : Pos) : ∀ es, PW X (.BoolOp .Or es pos) (upT G W R (cTOr f es))
  | [] => rw_bad
  | [e] => rt_or1 (h e)
  | e :: e2 :: es => rt_or (h e) (cTOr_ok f h pos (e2 :: es))
theorem cO_ok (f : Expr → FE) (h : ∀ e, PE X e (upE G W R (f e))) : ∀ o, PO X o (upO G W R (cO f o))
  | none => ro_none
  | some e => ro_some (h e)
theorem cPairs_ok (f : Expr → FE) (h : ∀ e, PE X e (upE G W R (f e))) : ∀ ks vs ps, cPairs f ks vs = some ps → RPs X G W R ks vs ps
  | [], [], ps, e => by cases e; exact .nil
  | some k :: ks, v :: vs, ps, e => by
    unfold cPairs at e
    cases q : cPairs f ks vs with
    | none => rw [q] at e; cases e
    | some l =>
      rw [q] at e; cases e
      exact .cons (h k) (h v) (cPairs_ok f h ks vs l q)
  | none :: _, _, _, e => by cases e
  | [], _ :: _, _, e => by cases e
  | some _ :: _, [], _, e => by cases e
theorem binOf_ok (hK : X.K = G.K) {op : Operator} {g : D → D → LH → Res D} (h : binOf op = some g) : Op2 X G W (binaryOp op) g := by
  cases op <;> first
    | (cases h; first | exact op_oAdd hK | exact op_oSub | exact op_oMul hK | exact op_oDiv | exact op_oMod | exact op_oPow | exact op_oShl | exact op_oShr | exact op_oBand)
    | cases h
theorem cmpOf_ok (hK : X.K = G.K) (hu : X.A.units + 65 < cLine) {op : CmpOp} {g : D → D → LH → Res D} (h : cmpOf op = some g) : Op2 X G W (compareOp op) g := by
  cases op <;> first
    | (cases h; first | exact op_oEq hK (by omega) | exact op_oNe hK (by omega) | exact op_oLt | exact op_oLe | exact op_oGt | exact op_oGe | exact op_oIs | exact op_oIsNot | exact op_oIn hK hu | exact op_oNotIn hK hu)
    | cases h
theorem boot_repr : bootBuiltins "repr" = some (.builtin "repr") := by decide +kernel
theorem boot_any : bootBuiltins "any" = some (.builtin "any") := by decide +kernel
theorem boot_all : bootBuiltins "all" = some (.builtin "all") := by decide +kernel
theorem boot_strT : bootBuiltins "str" = some (.type "str") := by decide +kernel
theorem boot_dictT : bootBuiltins "dict" = some (.type "dict") := by decide +kernel
theorem bltOf_ok (F : Fit X G W k x) {n : Str} {g : List D → LH → Res D} (h : bltOf x.cm n = some g) : ∃ id : String, bootBuiltins n = some (.builtin id) ∧ OpA X G W (.builtin id) g := by
  have hK := F.eK
  have hu := F.u64
  unfold bltOf at h
  split at h
  · rename_i e; cases h; exact ⟨"len", by rw [e]; exact boot_len, op_bLen hK⟩
  split at h
  · rename_i e; cases h; exact ⟨"abs", by rw [e]; exact boot_abs, op_bAbs⟩
  split at h
  · rename_i e; cases h; exact ⟨"sorted", by rw [e]; exact boot_sorted, op_bSorted hK hu⟩
  split at h
  · rename_i e; cases h
    rw [Bool.and_eq_true] at e
    exact ⟨"max", by rw [of_decide_eq_true e.2]; exact boot_max, op_bMaxA (F.calm e.1)⟩
  split at h
  · rename_i e; cases h
    rw [Bool.and_eq_true] at e
    exact ⟨"min", by rw [of_decide_eq_true e.2]; exact boot_min, op_bMinA (F.calm e.1)⟩
  split at h
  · rename_i e; cases h
    rw [Bool.and_eq_true] at e
    exact ⟨"sum", by rw [of_decide_eq_true e.2]; exact boot_sum, op_bSum (F.calm e.1)⟩
  split at h
  · rename_i e; cases h
    rw [Bool.and_eq_true] at e
    exact ⟨"repr", by rw [of_decide_eq_true e.2]; exact boot_repr, op_bRepr hK (F.grd e.1) (by omega)⟩
  split at h
  · rename_i e; cases h
    rw [Bool.and_eq_true] at e
    exact ⟨"any", by rw [of_decide_eq_true e.2]; exact boot_any, op_bAny (F.calm e.1)⟩
  split at h
  · rename_i e; cases h
    rw [Bool.and_eq_true] at e
    exact ⟨"all", by rw [of_decide_eq_true e.2]; exact boot_all, op_bAll (F.calm e.1)⟩
  · cases h
theorem typOf_ok (F : Fit X G W k x) {n : Str} {g : List D → LH → Res D} (h : typOf x.cm n = some g) : ∃ id : String, bootBuiltins n = some (.type id) ∧ OpA X G W (.type id) g := by
  have hK := F.eK
  unfold typOf at h
  split at h
  · rename_i e; cases h; exact ⟨"int", by rw [e]; exact PyProof.Rows.boot_int, op_bInt⟩
  split at h
  · rename_i e; cases h; exact ⟨"tuple", by rw [e]; exact PyProof.Rows.boot_tuple, op_bTup hK⟩
  split at h
  · rename_i e; cases h
    rw [Bool.and_eq_true] at e
    exact ⟨"list", by rw [of_decide_eq_true e.2]; exact PyProof.Rows.boot_list, op_bLst hK (F.calm e.1)⟩
  split at h
  · rename_i e; cases h; exact ⟨"str", by rw [e]; exact boot_strT, op_bStr⟩
  split at h
  · rename_i e; cases h
    rw [Bool.and_eq_true] at e
    exact ⟨"dict", by rw [of_decide_eq_true e.2]; exact boot_dictT, op_bDct hK (F.calm e.1)⟩
  · cases h
theorem metOf_ok (F : Fit X G W k x) {m : Str} {ty : String} {op : D → List D → LH → Res D} (h : metOf m = some (ty, op)) : ∃ id : String, PlainAttrs ty ∧ Slot ty m id ∧ typeOf (.builtin id) = pure (.type "method_descriptor") ∧ MtR X id (rUp G op) := by
  have hu := F.u64
  unfold metOf at h
  split at h
  · rename_i e; cases h; subst e
    exact ⟨_, PySem.F.plainAttrs_list, PySem.F.slot_list_append, PySem.F.type_list_append, mtu_append⟩
  split at h
  · rename_i e; cases h; subst e
    exact ⟨_, PySem.F.plainAttrs_list, PySem.F.slot_list_pop, PySem.F.type_list_pop, mtu_pop⟩
  split at h
  · rename_i e; cases h; subst e
    exact ⟨_, PySem.F.plainAttrs_list, PySem.F.slot_list_extend, PySem.F.type_list_extend, mtu_extend⟩
  split at h
  · rename_i e; cases h; subst e
    exact ⟨_, PySem.F.plainAttrs_list, PySem.F.slot_list_clear, PySem.F.type_list_clear, mtu_clear⟩
  split at h
  · rename_i e; cases h; subst e
    exact ⟨_, PySem.F.plainAttrs_dict, PySem.F.slot_dict_get, PySem.F.type_dict_get, mtu_get hu⟩
  split at h
  · rename_i e; cases h; subst e
    exact ⟨_, PySem.F.plainAttrs_list, PySem.F.slot_list_index, PySem.F.type_list_index, mtu_index F.eK (by have := F.un; omega)⟩
  · cases h
theorem meth_tree {o : Expr} {m : Str} {apos pos : Pos} {es : List Expr} {env : PySem.Env} (hb : plainBase o = true) (hp : plainArgs es = true) (hl : es.length < 29) (hline : (apos.endLine == pos.line) = true) :
    eval (.Call (.Attribute o m apos) es [] pos) env = (do
      let ov ← eval o env
      standAt apos.atName
      let (f, first) ← holding [ov] (getMethod ov m (do return (← importBound o env).getD true))
      callWith pos f first (backTo pos (starEach es env)) (backToKw pos (keywordEach [] env))) := by
  rw [PySem.arm_eval_Call, plainBase_ok hb]
  have hf : methodCallForm (es.length + ([] : List Keyword).length) (backTo pos (starEach es env)) (backToKw pos (keywordEach [] env)) = true := few_ok hp hl
  have hpz : ∀ few : Bool, few = true → methodCallPos few o env apos pos = pure pos := fun few e => by
    unfold methodCallPos
    rw [e, hline]
    rfl
  unfold methodCall
  rw [hf, hpz true rfl]
  rfl

/-! ### expressions -/
theorem Fit.callees (F : Fit X G W k x) (hcm : x.cm = true) : Room k X.A ∧ X.A.guards = some [] ∧ Takes X W := ⟨F.room hcm, F.grd hcm, F.tk⟩
theorem exCall_ok (TO : TabOk G R k T) (c : Cmp) (SO : Sound G R k c) (F : Fit X G W (k + 1) x) (f : Expr) (es : List Expr) (pos : Pos) (hp : plainArgs es = true) : PE X (.Call f es [] pos) (upE G W R (exCall T c x f es pos)) := by
  have ha := cA_ok (c.E x) (SO.oE X W x F) es hp
  unfold exCall
  split
  · rename_i n p
    split
    · rename_i hg
      rw [Bool.and_eq_true] at hg
      obtain ⟨n1, n2, n3⟩ := okNm_ok hg.2
      have hgl := F.gl hg.1
      split
      · rename_i i hi
        split
        · rename_i hcm
          obtain ⟨fa, ps, hm, C, hf⟩ := TO.fn n i hi
          have C' : Callee X G k fa ps (R i) := F.callee C
          cases es with
          | nil => exact re_call0 C' hf ((F.room hcm).mono (Nat.le_succ _)) (F.grd hcm) F.tk hgl (F.emg ▸ hm) n1
          | cons e0 es => exact re_call C' hf ((F.room hcm).mono (Nat.le_succ _)) (F.grd hcm) F.tk hgl (F.emg ▸ hm) ha hp n1
        · exact re_bad
      · split
        · rename_i kk i hi
          split
          · rename_i hcm
            rw [Bool.and_eq_true] at hcm
            obtain ⟨fa, ps, hm, M, C, hf⟩ := TO.cl n kk i hi
            have C' : Callee X G k fa ps (R i) := F.callee C
            cases es with
            | nil => exact absurd hcm.2 (by decide)
            | cons e0 es => exact re_make (F.eK ▸ M) C' hf (F.room hcm.1) (F.grd hcm.1) F.tk hgl (F.emg ▸ hm) ha hp n1
          · exact re_bad
        · split
          · exact re_bad
          · rename_i hmod
            rw [Bool.or_eq_true, not_or] at hmod
            have hm : X.mg n = none := by
              rw [F.emg]
              exact TO.blt n (by have := hmod.1; simpa using this)
            cases es with
            | nil => exact absurd rfl hmod.2
            | cons e0 es =>
              split
              · rename_i op ho
                obtain ⟨id, hb, hop⟩ := bltOf_ok F ho
                exact re_bltn hop hgl hm hb ha hp n3 n1
              · split
                · rename_i op ho
                  obtain ⟨id, hb, hop⟩ := typOf_ok F ho
                  exact re_type hop hgl hm hb ha hp n3 n1
                · exact re_bad
    · exact re_bad
  · rename_i o m apos
    split
    · rename_i hb
      split
      · rename_i tb htb
        split
        · rename_i hcm
          rw [Bool.and_eq_true, Bool.and_eq_true] at hcm
          have D0 : Disp X G R k m tb := ⟨fun c i e => by
            obtain ⟨h1, fa, ps, h2, C, hf⟩ := TO.met m tb htb c i e
            exact ⟨F.eK ▸ h1, fa, ps, F.eK ▸ h2, F.callee C, hf⟩⟩
          exact re_meth D0 ((F.room hcm.1.1).mono (Nat.le_succ _)) (F.grd hcm.1.1) F.tk (SO.oE X W x F o) ha hp (cA_nil _ es) (meth_tree hb hp (of_decide_eq_true hcm.2) hcm.1.2)
        · exact re_bad
      · split
        · rename_i ty op hm
          split
          · rename_i hl
            rw [Bool.and_eq_true] at hl
            obtain ⟨id, h1, h2, h3, h4⟩ := metOf_ok F hm
            exact re_bm h1 h2 h3 h4 (SO.oE X W x F o) ha (cA_nil _ es) (plainBase_ok hb) hp (of_decide_eq_true hl.2) hl.1
          · exact re_bad
        · exact re_bad
    · exact re_bad
  · exact re_bad

/-! ### special calls -/
theorem ty_boot : ∀ z ∈ tyNames, bootBuiltins (Str.ofString z) = some (.type z) := by decide +kernel
theorem exSpec_ok (TO : TabOk G R j T) (c : Cmp) (SO : Sound G R k c) (F : Fit X G W (k + 1) x) (f : Str) (p : Pos) (es : List Expr) (pos : Pos) {g : FE} (h : exSpec T c x f es = some g) : PE X (.Call (.Name f p) es [] pos) (upE G W R g) := by
  unfold exSpec at h
  split at h
  · rename_i hf
    subst hf
    split at h
    · rename_i a t p2
      split at h
      · rename_i hb
        rw [Bool.and_eq_true, Bool.and_eq_true, Bool.and_eq_true, Bool.and_eq_true] at hb
        obtain ⟨n1, n2, n3⟩ := okNm_ok hb.1.1.2
        obtain ⟨g1, m1⟩ := isBlt_ok F TO hb.1.1.1.1
        obtain ⟨g2, m2⟩ := isBlt_ok F TO hb.1.1.1.2
        cases hz : tyNames.find? fun z => decide (t = Str.ofString z) with
        | none => rw [hz] at h; cases h
        | some z =>
          rw [hz] at h; cases h
          have e := List.find?_some hz
          have e' : t = Str.ofString z := of_decide_eq_true e
          have hm := List.mem_of_find?_eq_some hz
          exact re_isi F.eK g1 m1 g2 m2 (by rw [e']; exact ty_boot z hm) n3 n1 (SO.oE X W x F a) hb.1.2
      · cases h
    · cases h
  split at h
  · rename_i hf
    subst hf
    split at h
    · rename_i g0 p1 a p2
      split at h
      · rename_i hb
        cases h
        rw [Bool.and_eq_true, Bool.and_eq_true, Bool.and_eq_true, Bool.and_eq_true] at hb
        have hg := of_decide_eq_true hb.1.1.1.1
        subst hg
        obtain ⟨g1, m1⟩ := isBlt_ok F TO hb.1.1.2
        obtain ⟨g2, m2⟩ := isBlt_ok F TO hb.1.2
        exact re_lrg1 (F.calm hb.1.1.1.2) g1 m1 g2 m2 (SO.oE X W x F a) hb.2
      · cases h
    · rename_i g0 p1 a b p2
      split at h
      · rename_i hb
        cases h
        rw [Bool.and_eq_true, Bool.and_eq_true, Bool.and_eq_true, Bool.and_eq_true] at hb
        have hg := of_decide_eq_true hb.1.1.1.1
        subst hg
        obtain ⟨g1, m1⟩ := isBlt_ok F TO hb.1.1.2
        obtain ⟨g2, m2⟩ := isBlt_ok F TO hb.1.2
        exact re_lrg2 (F.calm hb.1.1.1.2) g1 m1 g2 m2 (SO.oE X W x F a) (SO.oE X W x F b) hb.2
      · cases h
    · cases h
  split at h
  · rename_i hf
    subst hf
    split at h
    · rename_i g0 p1 a p2
      split at h
      · rename_i hb
        cases h
        rw [Bool.and_eq_true, Bool.and_eq_true, Bool.and_eq_true, Bool.and_eq_true] at hb
        have hg := of_decide_eq_true hb.1.1.1.1
        subst hg
        obtain ⟨g1, m1⟩ := isBlt_ok F TO hb.1.1.2
        obtain ⟨g2, m2⟩ := isBlt_ok F TO hb.1.2
        exact re_trg1 (F.calm hb.1.1.1.2) g1 m1 g2 m2 (SO.oE X W x F a) hb.2
      · cases h
    · rename_i g0 p1 a b p2
      split at h
      · rename_i hb
        cases h
        rw [Bool.and_eq_true, Bool.and_eq_true, Bool.and_eq_true, Bool.and_eq_true] at hb
        have hg := of_decide_eq_true hb.1.1.1.1
        subst hg
        obtain ⟨g1, m1⟩ := isBlt_ok F TO hb.1.1.2
        obtain ⟨g2, m2⟩ := isBlt_ok F TO hb.1.2
        exact re_trg2 (F.calm hb.1.1.1.2) g1 m1 g2 m2 (SO.oE X W x F a) (SO.oE X W x F b) hb.2
      · cases h
    · cases h
  · cases h

/-! ### comprehensions' blocks -/
theorem uniqL_ok : ∀ {l : List (Str × NameKind)}, uniqL l = true → ∀ y ∈ l, l.lookup y.1 = some y.2
  | [], _, y, h => absurd h (by simp)
  | z :: r, hu, y, h => by
    unfold uniqL at hu
    rw [Bool.and_eq_true] at hu
    obtain ⟨zn, zk⟩ := z
    rcases List.mem_cons.mp h with e | h
    · subst e
      rw [List.lookup_cons_self]
    · rw [List.lookup_cons]
      have h1 := List.all_eq_true.mp hu.1 y h
      have h2 : y.1 ≠ zn := by simpa using h1
      have h3 : (y.1 == zn) = false := by simpa using h2
      rw [h3]
      exact uniqL_ok hu.2 y h
theorem slot_none {n : Str} : ∀ {l : List Str}, slot n l = none → n ∉ l
  | [], _ => by simp
  | y :: r, h => by
    unfold slot at h
    split at h
    · cases h
    · rename_i e
      cases e2 : slot n r with
      | none =>
        rw [List.mem_cons, not_or]
        exact ⟨fun z => e z.symm, slot_none e2⟩
      | some j => rw [e2] at h; cases h
theorem blk_ok (F : Fit X G W k x) {scope : Scope} (h : blkOkB x.N x.sc scope = true) : BlkOk X.N X.env.scope scope (ownOf x.N scope) := by
  unfold blkOkB at h
  rw [Bool.and_eq_true, Bool.and_eq_true] at h
  refine ⟨eq_of_beq h.1.1, uniqL_ok h.1.2, fun p hp => ?_, fun y hy hf => ?_, fun y hy hl => ?_⟩
  · rw [F.eN]
    unfold ownOf at hp
    obtain ⟨y, hy, e⟩ := List.mem_filterMap.mp hp
    split at e
    · cases e2 : slot y.1 x.N with
      | none => rw [e2] at e; cases e
      | some i => rw [e2] at e; cases e; exact slot_ok e2
    · cases e2 : slot y.1 x.N with
      | none => rw [e2] at e; cases e
      | some i => rw [e2] at e; cases e; exact slot_ok e2
    · cases e
  · rw [F.esc]
    have := List.all_eq_true.mp h.2 y hy
    rw [hf] at this
    have h2 : (isCell x.sc y.1 || isFree x.sc y.1) = true := this
    rw [Bool.or_eq_true] at h2
    rcases h2 with h2 | h2
    · exact .inl (isCell_ok h2)
    · exact .inr (isFree_ok h2)
  · rw [F.eN]
    cases e2 : slot y.1 x.N with
    | none => exact .inr (slot_none e2)
    | some i =>
      refine .inl (List.mem_map.mpr ⟨(y.1, i), List.mem_filterMap.mpr ⟨y, hy, ?_⟩, rfl⟩)
      rcases hl with hl | hl
      · rw [hl]
        show (slot y.1 x.N).map _ = _
        rw [e2]; rfl
      · rw [hl]
        show (slot y.1 x.N).map _ = _
        rw [e2]; rfl
theorem cIfs_ok (f : Expr → FT) (h : ∀ e, PT X e (upT G W R (f e))) : ∀ es, PTs X es (upT G W R (cIfs f es))
  | [] => rts_nil
  | [e] => rts_one (h e)
  | _ :: _ :: _ => ⟨fun _ _ _ _ _ _ ⟨_, _, _, _, _, q⟩ => q.elim⟩
theorem exE_ok (TO : TabOk G R k T) (SO : Sound G R k c) (F : Fit X G W (k + 1) x) (e : Expr) : PE X e (upE G W R (exE T c x e)) := by
  have hE := SO.oE X W x F
  have hT := SO.oT X W x F
  have hK := F.eK
  have hu := F.u64
  have hu65 : X.A.units + 65 < cLine := by have := F.un; omega
  unfold exE
  split
  · split
    · exact re_int
    · exact re_bl
    · exact re_non
    · exact re_str
    · exact re_bad
  · rename_i n p
    split
    · rename_i ho
      obtain ⟨n1, n2, n3⟩ := okNm_ok ho
      split
      · rename_i hv
        split
        · rename_i i hi
          exact re_var (pe_var (by rw [F.eN]; exact slot_ok hi) (F.vis hv) n1 n2)
        · exact re_bad
      · split
        · rename_i hg
          split
          · rename_i d hd
            obtain ⟨u, v, h1, h2, h3⟩ := TO.con n d hd
            exact re_c (pe_glob (F.gl hg) (F.emg ▸ h1) h2 n1) h3
          · exact re_bad
        · exact re_bad
    · exact re_bad
  · split
    · rename_i g hg
      exact re_bin (binOf_ok hK hg) (hE _) (hE _)
    · exact re_bad
  · split
    · exact re_not hK (hE _)
    · exact re_un op_oNeg (hE _)
    · exact re_bad
  · split
    · exact cAnd_ok hK _ hE _ _
    · exact cOr_ok hK _ hE _ _
  · exact re_if (hT _) (hE _) (hE _)
  · split
    · rename_i g hg
      split
      · exact re_bad
      · rename_i hb
        exact re_cmp (cmpOf_ok hK hu65 hg) (hE _) (hE _) (by simpa using hb)
    · exact re_bad
  · split
    · rename_i g g' hg hg'
      split
      · exact re_bad
      · rename_i hb
        exact re_chain (cmpOf_ok hK hu65 hg) (cmpOf_ok hK hu65 hg') (hE _) (hE _) (hE _) (by simpa using hb)
    · exact re_bad
  · split
    · rename_i hp
      exact re_tup (cA_ok _ hE _ hp)
    · exact re_tup (cAS_ok hK _ hE _)
  · split
    · rename_i hp
      exact re_lst (cA_ok _ hE _ hp)
    · exact re_lst (cAS_ok hK _ hE _)
  · exact re_rev hK (hE _)
  · exact re_sl hK (hE _) (cO_ok _ hE _) (cO_ok _ hE _)
  · split
    · rename_i hn
      refine re_ix hK hu (hE _) (hE _) (plainIx fun l u s p z => ?_)
      subst z
      exact absurd hn Bool.false_ne_true
    · exact re_bad
  · split
    · rename_i hb
      split
      · rename_i cs hcs
        exact re_fld hK (TO.fld _ _ hcs) (hE _) (plainBase_ok hb)
      · exact re_bad
    · exact re_bad
  · split
    · rename_i ks vs p hl
      split
      · rename_i ps hps
        have hr := cPairs_ok _ hE _ _ _ hps
        cases ks with
        | nil =>
          cases hr
          exact re_dct0
        | cons k0 ks => exact re_dct hr (by simp) (of_decide_eq_true hl)
      · exact re_bad
    · exact re_bad
  · split
    · rename_i h
      rw [Bool.and_eq_true, Bool.and_eq_true] at h
      exact re_lc (F.calm h.1.1) F.hN (SO.oI X W x F _ _) (blk_ok F h.2) (fun s H C cl fp => SO.oW _ _ _ (F.blk s H _ C cl fp) _ _) (fun s H C cl fp => cIfs_ok _ (SO.oT _ _ _ (F.blk s H _ C cl fp)) _) (fun s H C cl fp => SO.oE _ _ _ (F.blk s H _ C cl fp) _) (notSet_ok h.1.2)
    · exact re_bad
  · split
    · rename_i h
      rw [Bool.and_eq_true, Bool.and_eq_true] at h
      exact re_dc (F.calm h.1.1) F.hN (SO.oI X W x F _ _) (blk_ok F h.2) (fun s H C cl fp => SO.oW _ _ _ (F.blk s H _ C cl fp) _ _) (fun s H C cl fp => cIfs_ok _ (SO.oT _ _ _ (F.blk s H _ C cl fp)) _) (fun s H C cl fp => SO.oE _ _ _ (F.blk s H _ C cl fp) _) (fun s H C cl fp => SO.oE _ _ _ (F.blk s H _ C cl fp) _) (notSet_ok h.1.2)
    · exact re_bad
  · split
    · rename_i hp
      split
      · split
        · rename_i g hg
          exact exSpec_ok TO c SO F _ _ _ _ hg
        · exact exCall_ok TO c SO F _ _ _ hp
      · exact exCall_ok TO c SO F _ _ _ hp
    · exact re_bad
  · exact re_bad
theorem exT_ok (SO : Sound G R k c) (F : Fit X G W (k + 1) x) (e : Expr) : PT X e (upT G W R (exT c x e)) := by
  have hE := SO.oE X W x F
  have hT := SO.oT X W x F
  have hK := F.eK
  have hu65 : X.A.units + 65 < cLine := by have := F.un; omega
  unfold exT
  split
  · exact rt_not (hT _)
  · exact (cTAnd_ok _ hT _ _).pt
  · exact (cTOr_ok _ hT _ _).pt
  · split
    · rename_i g hg
      split
      · exact rt_bad
      · rename_i hb
        exact rt_cmp hK (cmpOf_ok hK hu65 hg) (hE _) (hE _) (by simpa using hb)
    · exact rt_bad
  · split
    · rename_i g g' hg hg'
      split
      · exact rt_bad
      · rename_i hb
        exact rt_chain (cmpOf_ok hK hu65 hg) (cmpOf_ok hK hu65 hg') (hE _) (hE _) (hE _) (by simpa using hb)
    · exact rt_bad
  · split
    · rename_i hp
      exact rt_truth hK (hE _) (plainT_ok hp)
    · exact rt_bad
theorem exI_ok (TO : TabOk G R j T) (SO : Sound G R k c) (F : Fit X G W (k + 1) x) (tg e : Expr) : PI X tg e (upI G W R (exI T c x tg e)) := by
  have hE := SO.oE X W x F
  have hK := F.eK
  unfold exI
  split
  · rename_i f p es q
    split
    · rename_i h
      rw [Bool.and_eq_true, Bool.and_eq_true] at h
      obtain ⟨g1, m1⟩ := isBlt_ok F TO h.1.2
      have hf := of_decide_eq_true h.1.1
      subst hf
      split
      · exact pi_rg1 g1 m1 (cA_ok _ hE _ h.2) h.2
      · exact pi_rg2 g1 m1 (cA_ok _ hE _ h.2) h.2
      · exact ri_bad
    · split
      · rename_i h
        rw [Bool.and_eq_true, Bool.and_eq_true] at h
        obtain ⟨g1, m1⟩ := isBlt_ok F TO h.1.2
        have hf := of_decide_eq_true h.1.1
        subst hf
        split
        · exact pi_enuA hK g1 m1 (cA_ok _ hE _ h.2) h.2
        · exact ri_bad
      · split
        · rename_i h
          rw [Bool.and_eq_true, Bool.and_eq_true] at h
          obtain ⟨g1, m1⟩ := isBlt_ok F TO h.1.2
          have hf := of_decide_eq_true h.1.1
          subst hf
          split
          · exact pi_zip2 hK g1 m1 (cA_ok _ hE _ h.2) h.2
          · exact ri_bad
        · exact pi_any hK (hE _)
  · split
    · split
      · rename_i h
        rw [Bool.and_eq_true, Bool.and_eq_true, Bool.and_eq_true] at h
        obtain ⟨g1, m1⟩ := isBlt_ok F TO h.1.1.2
        have hf := of_decide_eq_true h.1.1.1
        have hkw := of_decide_eq_true h.2
        subst hf hkw
        exact pi_zipT hK g1 m1 (cA_ok _ hE _ h.1.2) h.1.2
      · exact ri_bad
    · exact ri_bad
  · exact pi_any hK (hE _)

/-! ### targets -/
theorem Fit.w0 (F : Fit X G W k x) : Fit X G W0 k x := { F with tk := takes0 }
theorem assignEach_plain {e : Expr} {es : List Expr} {env : PySem.Env} (h : ∀ v p, e ≠ .Starred v p) : assignEach (e :: es) env = (false, assign e env) :: assignEach es env := by
  cases e <;> first
    | rfl
    | exact absurd rfl (h _ _)
theorem assignEach_len {env : PySem.Env} : ∀ {es : List Expr}, plainArgs es = true → (assignEach es env).length = es.length ∧ (assignEach es env).findIdx? (·.1) = none
  | [], _ => ⟨rfl, rfl⟩
  | e :: es, h => by
    obtain ⟨h1, h2⟩ := plain_ne h
    obtain ⟨l, n⟩ := assignEach_len (env := env) h2
    rw [assignEach_plain h1]
    refine ⟨by rw [List.length_cons, List.length_cons, l], ?_⟩
    rw [List.findIdx?_cons, n]
    rfl
theorem cGs_ok {Pr : L2.St → L2.St → Prop} (P : PrOk Pr) (f : Expr → FG) (h : ∀ e, PG X e (upGp Pr G W0 R (f e))) : ∀ es, plainArgs es = true → PGs X es (upGs Pr G W0 R (cGs f es))
  | [], _ => rgs_nil P
  | e :: es, hp => rgs_cons P (h e) (cGs_ok P f h es (plain_ne hp).2) (by rw [assignEach_plain (plain_ne hp).1]; rfl)
theorem exG_ok (SO : Sound G R k c) (F : Fit X G W (k + 1) x) (e : Expr) : PG X e (upG G W R (exG c x e)) := by
  have hE := SO.oE X W x F
  have hK := F.eK
  have hu := F.u64
  unfold exG
  split
  · split
    · rename_i hc
      obtain ⟨h1, h2⟩ := F.loc hc
      split
      · rename_i i hi
        exact rg_name (fun _ _ => trivial) (pg_name F.hN (by rw [F.eN]; exact slot_ok hi) h1 h2)
      · exact rg_bad
    · exact rg_bad
  · split
    · rename_i h
      rw [Bool.and_eq_true] at h
      obtain ⟨l, n⟩ := assignEach_len (env := X.env) h.2
      exact rg_tup hK (F.calm h.1) (cGs_ok prT _ (SO.oG X W0 x F.w0) _ h.2) l n
    · exact rg_bad
  · split
    · rename_i o i p hn
      refine rg_sub hK hu (hE _) (hE _) fun v => ?_
      cases i <;> first
        | rfl
        | cases hn
    · exact rg_bad
  · exact rg_bad
theorem exW_ok (SO : Sound G R k c) (F : Fit X G W (k + 1) x) (vs : List Nat) (e : Expr) : PG X e (upGp (PrW vs) G W R (exW c vs x e)) := by
  have hK := F.eK
  unfold exW
  split
  · split
    · rename_i hc
      obtain ⟨h1, h2⟩ := F.loc hc
      split
      · rename_i i hi
        split
        · rename_i hv
          exact rg_name (fun _ _ => wipe_set (by simpa using hv)) (pg_name F.hN (by rw [F.eN]; exact slot_ok hi) h1 h2)
        · exact rg_bad
      · exact rg_bad
    · exact rg_bad
  · split
    · rename_i h
      rw [Bool.and_eq_true] at h
      obtain ⟨l, n⟩ := assignEach_len (env := X.env) h.2
      exact rg_tup hK (F.calm h.1) (cGs_ok (prW vs) _ (SO.oW X W0 x F.w0 vs) _ h.2) l n
    · exact rg_bad
  · exact rg_bad

/-! ### statements -/
theorem cB_ok (f : Stmt → FS) (h : ∀ s, PS X s (upS G W R (f s))) : ∀ l, PSs X l (upS G W R (cB f l))
  | [] => rss_nil
  | s :: l => rss_cons (h s) (cB_ok f h l)
theorem blockKind_fn (F : FitS X G W k x) : X.env.blockKind = .function := by
  unfold Env.blockKind
  rw [F.esc, F.kind]
  rfl
theorem swap_lc (F : FitS X G W k x) {y : Str} {py : Pos} {elt : Expr} {gs : List Comprehension} {scope : Scope} {vpos : Pos} {l : Nat} (h : swapLc x y py scope vpos = true) : swapsWith (.ListComp elt gs scope vpos) (some (.Name y py)) l X.env = pure true := by
  unfold swapLc at h
  rw [Bool.and_eq_true, Bool.and_eq_true] at h
  have h1 : X.env.kindOf y = some .local := by
    show X.env.scope.names.lookup y = _
    rw [F.esc]; exact isLoc_ok h.1.1
  show (pure (X.env.blockKind == .function && X.env.kindOf y == some .local && py.line == vpos.line
      && !(scope.names.any fun (n, k) => n == y && (k == .local || k == .cell))) : Sem Bool) = pure true
  rw [blockKind_fn F, h1, h.1.2, h.2]
  rfl
theorem swap_scope (F : FitS X G W k x) {y : Str} {py : Pos} {scope : Scope} {vpos : Pos} (h : swapLc x y py scope vpos = false) : (X.env.blockKind == .function && X.env.kindOf y == some .local && py.line == vpos.line
      && !(scope.names.any fun (n, k) => n == y && (k == .local || k == .cell))) = false := by
  rw [blockKind_fn F]
  unfold swapLc at h
  cases hl : isLoc x.sc y with
  | true =>
    have h1 : X.env.kindOf y = some .local := by
      show X.env.scope.names.lookup y = _
      rw [F.esc]; exact isLoc_ok hl
    rw [hl, Bool.true_and] at h
    rw [h1]
    exact h
  | false =>
    have h1 : (X.env.kindOf y == some .local) = false := by
      cases e : X.env.kindOf y == some .local with
      | false => rfl
      | true =>
        have e2 : X.env.scope.names.lookup y = some .local := eq_of_beq e
        rw [F.esc] at e2
        unfold isLoc at hl
        rw [e2] at hl
        cases hl
    rw [h1]
    simp
theorem swap_lcN (F : FitS X G W k x) {y : Str} {py : Pos} {elt : Expr} {gs : List Comprehension} {scope : Scope} {vpos : Pos} {l : Nat} (h : swapLc x y py scope vpos = false) : swapsWith (.ListComp elt gs scope vpos) (some (.Name y py)) l X.env = pure false := by
  show (pure (X.env.blockKind == .function && X.env.kindOf y == some .local && py.line == vpos.line
      && !(scope.names.any fun (n, k) => n == y && (k == .local || k == .cell))) : Sem Bool) = pure false
  rw [swap_scope F h]
theorem swap_dcN (F : FitS X G W k x) {y : Str} {py : Pos} {kx vx : Expr} {gs : List Comprehension} {scope : Scope} {vpos : Pos} {l : Nat} (h : swapLc x y py scope vpos = false) : swapsWith (.DictComp kx vx gs scope vpos) (some (.Name y py)) l X.env = pure false := by
  show (pure (X.env.blockKind == .function && X.env.kindOf y == some .local && py.line == vpos.line
      && !(scope.names.any fun (n, k) => n == y && (k == .local || k == .cell))) : Sem Bool) = pure false
  rw [swap_scope F h]
theorem kindLoc (F : FitS X G W k x) {y : Str} (h : isLoc x.sc y = true) : X.env.kindOf y = some .local := by
  show X.env.scope.names.lookup y = _
  rw [F.esc]; exact isLoc_ok h
theorem swapLc_loc (F : FitS X G W k x) {y : Str} {py : Pos} {scope : Scope} {vpos : Pos} (h : swapLc x y py scope vpos = true) : X.env.scope.names.lookup y = some .local := by
  unfold swapLc at h
  rw [Bool.and_eq_true, Bool.and_eq_true] at h
  exact kindLoc F h.1.1
theorem swap_att {v o : Expr} {f : Str} {p : Pos} {l : Nat} {env : PySem.Env} : swapsWith v (some (.Attribute o f p)) l env = pure false := by
  cases v <;> rfl
theorem swap_sub {v o i : Expr} {p : Pos} {l : Nat} {env : PySem.Env} : swapsWithSole [.Subscript o i p] v l env = pure false := by
  cases v <;> rfl
theorem fm_two {α β : Type} {f : α → Option β} {x y : α} {a b : β} (h1 : f x = some a) (h2 : f y = some b) : [x, y].filterMap f = [a, b] := by
  rw [List.filterMap_cons_some h1, List.filterMap_cons_some h2]; rfl
theorem nd_two {a b : Str} (hab : (a == b) = false) : [a, b].eraseDups = [a, b] := by
  have : (b == a) = false := by
    cases h : b == a with
    | false => rfl
    | true => rw [eq_of_beq h] at hab; simp at hab
  simp [List.eraseDups, List.eraseDupsBy, List.eraseDupsBy.loop, hab, this]
theorem any_two {α : Type} {f : α → Bool} {x y : α} (h1 : f x = false) (h2 : f y = false) : ¬ ([x, y].any f = true) := by
  rw [List.any_cons, List.any_cons, List.any_nil, h1, h2]; decide
theorem swap_two (F : FitS X G W k x) {a b : Str} {pa pb : Pos} {e1 e2 : Expr} {k1 k2 : Nat} {p1 p2 : Pos} (ha : isLoc x.sc a = true) (hb : isLoc x.sc b = true) (hab : (a == b) = false) (hl : (pb.line == pa.line) = true) (hp : plainArgs [e1, e2] = true)  :
    swappedStores [.Tuple [.Name a pa, .Name b pb] k1 p1] (.Tuple [e1, e2] k2 p2) X.env = if [e1, e2].all (foldedForSure 8) then pure none else if [e1, e2].all (constantsAlone 8) then (do unsupported "assign.tuple-of-constant-expressions:order-of-the-stores"; pure (some [a, b])) else pure (some [a, b]) := by
  obtain ⟨h1, h2⟩ := plain_ne hp
  obtain ⟨h3, _⟩ := plain_ne h2
  unfold swappedStores
  dsimp only
  rw [blockKind_fn F]
  refine (if_neg (fun z => Bool.false_ne_true z)).trans ((if_neg (any_two ?_ ?_)).trans ?_)
  · cases e1 <;> first
      | rfl
      | exact absurd rfl (h1 _ _)
  · cases e2 <;> first
      | rfl
      | exact absurd rfl (h3 _ _)
  · have e1' : (X.env.kindOf a == some NameKind.local && pa.line == pa.line) = true := by rw [kindLoc F ha]; simp
    have e2' : (X.env.kindOf b == some NameKind.local && pb.line == pa.line) = true := by rw [kindLoc F hb, hl]; rfl
    rw [fm_two (x := Expr.Name a pa) (y := Expr.Name b pb) (a := a) (b := b), nd_two hab]
    · refine (if_neg (fun z => Bool.false_ne_true z)).trans ?_
      rfl
    · exact if_pos e1'
    · exact if_pos e2'
theorem fm_three {α β : Type} {f : α → Option β} {x y z : α} {a b c : β} (h1 : f x = some a) (h2 : f y = some b) (h3 : f z = some c) : [x, y, z].filterMap f = [a, b, c] := by
  rw [List.filterMap_cons_some h1, List.filterMap_cons_some h2, List.filterMap_cons_some h3]; rfl
theorem beq_sym {a b : Str} (h : (a == b) = false) : (b == a) = false := by
  cases q : b == a with
  | false => rfl
  | true => rw [eq_of_beq q] at h; simp at h
theorem nd_three {a b c : Str} (hab : (a == b) = false) (hac : (a == c) = false) (hbc : (b == c) = false) : [a, b, c].eraseDups = [a, b, c] := by
  have h1 := beq_sym hab
  have h2 := beq_sym hac
  have h3 := beq_sym hbc
  simp [List.eraseDups, List.eraseDupsBy, List.eraseDupsBy.loop, hab, hac, hbc, h1, h2, h3]
theorem any_three {α : Type} {f : α → Bool} {x y z : α} (h1 : f x = false) (h2 : f y = false) (h3 : f z = false) : ¬ ([x, y, z].any f = true) := by
  rw [List.any_cons, List.any_cons, List.any_cons, List.any_nil, h1, h2, h3]; decide
theorem swap_three (F : FitS X G W k x) {a b d : Str} {pa pb pd : Pos} {e1 e2 e3 : Expr} {k1 k2 : Nat} {p1 p2 : Pos} (ha : isLoc x.sc a = true) (hb : isLoc x.sc b = true) (hd : isLoc x.sc d = true) (hab : (a == b) = false) (had : (a == d) = false) (hbd : (b == d) = false) (hl : (pb.line == pa.line) = true) (hl2 : (pd.line == pa.line) = true) (hp : plainArgs [e1, e2, e3] = true) :
    swappedStores [.Tuple [.Name a pa, .Name b pb, .Name d pd] k1 p1] (.Tuple [e1, e2, e3] k2 p2) X.env = if [e1, e2, e3].all (foldedForSure 8) then pure none else if [e1, e2, e3].all (constantsAlone 8) then (do unsupported "assign.tuple-of-constant-expressions:order-of-the-stores"; pure (some [a, b, d])) else pure (some [a, b, d]) := by
  obtain ⟨h1, h2⟩ := plain_ne hp
  obtain ⟨h3, h4⟩ := plain_ne h2
  obtain ⟨h5, _⟩ := plain_ne h4
  unfold swappedStores
  dsimp only
  rw [blockKind_fn F]
  refine (if_neg (fun z => Bool.false_ne_true z)).trans ((if_neg (any_three ?_ ?_ ?_)).trans ?_)
  · cases e1 <;> first
      | rfl
      | exact absurd rfl (h1 _ _)
  · cases e2 <;> first
      | rfl
      | exact absurd rfl (h3 _ _)
  · cases e3 <;> first
      | rfl
      | exact absurd rfl (h5 _ _)
  · have e1' : (X.env.kindOf a == some NameKind.local && pa.line == pa.line) = true := by rw [kindLoc F ha]; simp
    have e2' : (X.env.kindOf b == some NameKind.local && pb.line == pa.line) = true := by rw [kindLoc F hb, hl]; rfl
    have e3' : (X.env.kindOf d == some NameKind.local && pd.line == pa.line) = true := by rw [kindLoc F hd, hl2]; rfl
    rw [fm_three (x := Expr.Name a pa) (y := Expr.Name b pb) (z := Expr.Name d pd) (a := a) (b := b) (c := d), nd_three hab had hbd]
    · refine (if_neg (fun z => Bool.false_ne_true z)).trans ?_
      rfl
    · exact if_pos e1'
    · exact if_pos e2'
    · exact if_pos e3'
theorem isLoc_kind (F : FitS X G W k x) (n : Str) : (X.env.kindOf n == some NameKind.local) = isLoc x.sc n := by
  have e : X.env.kindOf n = x.sc.names.lookup n := by
    show X.env.scope.names.lookup n = _
    rw [F.esc]
  rw [e]
  cases h : isLoc x.sc n with
  | true => rw [isLoc_ok h]; rfl
  | false =>
    cases q : x.sc.names.lookup n == some NameKind.local with
    | false => rfl
    | true =>
      have e2 : x.sc.names.lookup n = some .local := eq_of_beq q
      unfold isLoc at h
      rw [e2] at h
      cases h
theorem swap_free (F : FitS X G W k x) {es vs : List Expr} {k1 k2 : Nat} {p1 p2 : Pos} (h : swapFree x es vs = true) : swappedStores [.Tuple es k1 p1] (.Tuple vs k2 p2) X.env = pure none := by
  unfold swapFree at h
  unfold swappedStores
  dsimp only
  by_cases c : (!(es.length == 2 || es.length == 3) || vs.length != es.length || X.env.blockKind != .function) = true
  · exact if_pos c
  refine (if_neg c).trans ?_
  by_cases c2 : vs.any (fun e => match e with | .Starred .. => true | _ => false) = true
  · exact if_pos c2
  refine (if_neg c2).trans ?_
  refine if_pos ?_
  rw [blockKind_fn F] at c
  simp only [isLoc_kind F]
  rw [Bool.or_eq_true] at h ⊢
  left
  rcases h with h | h
  · exfalso
    apply c
    rw [h]; rfl
  · exact h
theorem swap_none_tup {es : List Expr} {kk : Nat} {p : Pos} {v : Expr} {env : PySem.Env} (h : ∀ l a b, v ≠ .Tuple l a b) : swappedStores [.Tuple es kk p] v env = pure none := by
  unfold swappedStores
  cases v <;> first
    | rfl
    | exact absurd rfl (h _ _ _)

theorem augOf_ok {op : Operator} {g : D → D → LH → Res D} (h : augOf op = some g) : Op2 X G W (inplaceOp op) g := by
  cases op <;> first
    | (cases h; exact op_oIAdd)
    | cases h
theorem FitS.tr (F : FitS X G W k x) {W' : WX} {pn : List (Addr × Obj)} {xe : Value → Shared → Prop} (tk : Takes (X.tr pn xe) W') (own : PassesOwn (model X.prog X.w) X.A X.env xe) : FitS (X.tr pn xe) G W' k x :=
  { eP := F.eP, ew := F.ew, eK := F.eK, emg := F.emg, ebase := F.ebase, room := F.room, un := F.un, grd := F.grd, calm := F.calm, nd := F.nd, eN := F.eN, esc := F.esc, fnc := F.fnc, tk := tk, nbk := F.nbk, own := own, stk := F.stk, frm := F.frm, kind := F.kind }
theorem FitS.suite (F : FitS X G W k x) (a : Addr) (oe : Obj) (pn : List (Addr × Obj)) : FitS (X.suite a ((a, oe) :: pn)) G W0 k { x with cm := false } :=
  { eP := F.eP, ew := F.ew, eK := F.eK, emg := F.emg, ebase := F.ebase, room := fun z => (nomatch z), un := F.un, grd := fun z => (nomatch z), calm := fun z => (nomatch z), nd := F.nd, eN := F.eN, esc := F.esc, fnc := F.fnc, tk := takes0, nbk := F.nbk, own := PassesOwn.never, stk := F.stk, frm := F.frm, kind := F.kind }
theorem exS_ok (TO : TabOk G R k T) (SO : Sound G R k c) (F : FitS X G W (k + 1) x) (s : Stmt) : PS X s (upS G W R (exS T c x s)) := by
  have Ff := F.toFit
  have hE := SO.oE X W x Ff
  have hT := SO.oT X W x Ff
  have hG := SO.oG X W x Ff
  have hS := cB_ok _ (SO.oS X W x F)
  have hK := Ff.eK
  have hu := Ff.u64
  unfold exS
  split
  · exact rs_pass
  · exact rs_break
  · exact rs_cont
  · exact rs_retN
  · exact rs_ret (hE _)
  · split
    · exact rs_bad
    · rename_i hc
      exact rs_expr (hE _) (notComp_swap (by simpa using hc))
  · exact rs_if (hT _) (hS _) (hS _)
  · split
    · rename_i h
      rw [Bool.and_eq_true] at h
      exact rs_for F.own (Ff.calm h.1) (SO.oI X W x Ff _ _) (hG _) (hS _) (notSet_ok h.2)
    · exact rs_bad
  · exact rs_while F.own (hT _) (hS _)
  · split
    · rename_i hca
      obtain ⟨h1, h2⟩ := Ff.loc hca
      split
      · rename_i i hi
        have hi' := slot_ok hi
        rw [← Ff.eN] at hi'
        split
        · split
          · split
            · rename_i h
              rw [Bool.and_eq_true, Bool.and_eq_true, Bool.and_eq_true] at h
              exact rs_setLc (Ff.calm h.1.1.1) Ff.hN hi' (swapLc_loc F h.2) (swap_lc F h.2) (SO.oI X W x Ff _ _) (blk_ok Ff h.1.2) (fun s H C cl fp => SO.oW _ _ _ (Ff.blk s H _ C cl fp) _ _) (fun s H C cl fp => cIfs_ok _ (SO.oT _ _ _ (Ff.blk s H _ C cl fp)) _) (fun s H C cl fp => SO.oE _ _ _ (Ff.blk s H _ C cl fp) _) (notSet_ok h.1.1.2)
            · split
              · exact rs_bad
              · rename_i hsw
                exact rs_set Ff.hN hi' h1 (hE _) (swap_lcN F (by simpa using hsw)) h2
          · split
            · exact rs_bad
            · rename_i hsw
              exact rs_set Ff.hN hi' h1 (hE _) (swap_lcN F (by simpa using hsw)) h2
          · split
            · exact rs_bad
            · rename_i hsw
              exact rs_set Ff.hN hi' h1 (hE _) (swap_dcN F (by simpa using hsw)) h2
          · exact rs_bad
        · rename_i hc
          exact rs_set Ff.hN hi' h1 (hE _) (notComp_swap (by simpa using hc)) h2
      · exact rs_bad
    · exact rs_bad
  · split
    · rename_i cs hcs
      exact rs_fldset hK (TO.fld _ _ hcs) (hE _) (hE _) swap_att
    · exact rs_bad
  · exact rs_asg (hE _) (hG _) swap_sub rfl rfl
  · split
    · rename_i i j hi hj
      split
      · rename_i h
        simp only [Bool.and_eq_true] at h
        obtain ⟨⟨⟨⟨⟨⟨h1, h2⟩, h3⟩, h4⟩, h5⟩, h6⟩, h7⟩ := h
        split
        · rename_i hf
          exact rs_asg (hE _) (hG _) rfl ((swap_two F h2 h3 (by simpa using h7) h5 h6).trans (if_pos hf)) rfl
        · rename_i hf
          split
          · exact rs_bad
          · rename_i hf2
            exact rs_par (Ff.calm h1) Ff.hN (by rw [Ff.eN]; exact slot_ok hi) (by rw [Ff.eN]; exact slot_ok hj) (by simpa using h4) (kindLoc F h2) (kindLoc F h3) (cA_ok _ hE _ h6) ((swap_two F h2 h3 (by simpa using h7) h5 h6).trans ((if_neg hf).trans (if_neg hf2))) rfl
      · split
        · rename_i hf
          exact rs_asg (hE _) (hG _) rfl (swap_free F hf) rfl
        · exact rs_bad
    · exact rs_bad
  · split
    · rename_i i j l hi hj hl
      split
      · rename_i h
        simp only [Bool.and_eq_true] at h
        obtain ⟨⟨⟨⟨⟨⟨⟨⟨⟨⟨⟨⟨h1, h2⟩, h3⟩, h4⟩, h5⟩, h6⟩, h7⟩, h8⟩, h9⟩, h10⟩, h11⟩, h12⟩, h13⟩ := h
        have hw := fun k1 k2 p1 p2 => swap_three (k1 := k1) (k2 := k2) (p1 := p1) (p2 := p2) F h2 h3 h4 (by simpa using h11) (by simpa using h12) (by simpa using h13) h8 h9 h10
        split
        · rename_i hf
          exact rs_asg (hE _) (hG _) rfl ((hw _ _ _ _).trans (if_pos hf)) rfl
        · rename_i hf
          split
          · exact rs_bad
          · rename_i hf2
            exact rs_par3 (Ff.calm h1) Ff.hN (by rw [Ff.eN]; exact slot_ok hi) (by rw [Ff.eN]; exact slot_ok hj) (by rw [Ff.eN]; exact slot_ok hl) (by simpa using h5) (by simpa using h6) (by simpa using h7) (kindLoc F h2) (kindLoc F h3) (kindLoc F h4) (cA_ok _ hE _ h10) ((hw _ _ _ _).trans ((if_neg hf).trans (if_neg hf2))) rfl
      · split
        · rename_i hf
          exact rs_asg (hE _) (hG _) rfl (swap_free F hf) rfl
        · exact rs_bad
    · exact rs_bad
  · split
    · rename_i hf
      exact rs_asg (hE _) (hG _) rfl (swap_free F hf) rfl
    · exact rs_bad
  · exact rs_asg (hE _) (hG _) rfl (swap_none_tup fun _ _ _ z => nomatch z) rfl
  · exact rs_asg (hE _) (hG _) rfl (swap_none_tup fun _ _ _ z => nomatch z) rfl
  · exact rs_asg (hE _) (hG _) rfl (swap_none_tup fun _ _ _ z => nomatch z) rfl
  · exact rs_asg (hE _) (hG _) rfl (swap_none_tup fun _ _ _ z => nomatch z) rfl
  · exact rs_asg (hE _) (hG _) rfl (swap_none_tup fun _ _ _ z => nomatch z) rfl
  · split
    · rename_i hca
      obtain ⟨h1, h2⟩ := Ff.loc hca
      split
      · rename_i i g hi hg
        exact rs_aug Ff.hN (by rw [Ff.eN]; exact slot_ok hi) h1 (augOf_ok hg) (hE _) h2
      · exact rs_bad
    · exact rs_bad
  · split
    · rename_i o i p op e q hn
      split
      · rename_i g hg
        refine rs_subaug hu hK (hE _) (hE _) (hE _) (augOf_ok hg) fun ov iv new => ?_
        cases i <;> first
          | rfl
          | cases hn
      · exact rs_bad
    · exact rs_bad
  · split
    · rename_i n p es p2 p3 h
      rw [Bool.and_eq_true, Bool.and_eq_true, Bool.and_eq_true, Bool.and_eq_true] at h
      obtain ⟨n1, n2, n3⟩ := okNm_ok h.1.1.2
      split
      · rename_i kk f i he
        obtain ⟨hm, ps, XC⟩ := TO.exc _ _ _ _ he
        cases es with
        | nil => exact absurd h.2 (by decide)
        | cons e0 es => exact rs_raise Ff.eP Ff.ew hK Ff.emg Ff.ebase XC (Ff.room h.1.1.1.1) (Ff.calm h.1.1.1.1) Ff.tk (Ff.gl h.1.1.1.2) (Ff.emg ▸ hm) (cA_ok _ hE _ h.1.2) h.1.2 n1
      · exact rs_bad
    · exact rs_bad
  · split
    · rename_i h
      rw [Bool.and_eq_true] at h
      obtain ⟨n1, n2, n3⟩ := okNm_ok h.2
      split
      · rename_i hh cs he
        obtain ⟨hm, HO⟩ := TO.hnd _ _ _ he
        exact rs_try hK F.stk F.frm (Ff.gl h.1) (Ff.emg ▸ hm) n1 HO Ff.tk (fun W' pn xe tk own => cB_ok _ (SO.oS _ _ _ (F.tr tk own)) _) (fun a oe pn => cB_ok _ (SO.oS _ _ _ (F.suite a oe pn)) _)
      · exact rs_bad
    · exact rs_bad
  · split
    · rename_i h
      simp only [Bool.and_eq_true, decide_eq_true_eq] at h
      obtain ⟨⟨⟨⟨h1, h2⟩, h3⟩, h4⟩, h5⟩ := h
      obtain ⟨n1, n2, n3⟩ := okNm_ok h2
      obtain ⟨m1, m2, m3⟩ := okNm_ok h3
      subst h5
      split
      · rename_i hh cs fs i he hf hi
        split
        · rename_i hall
          obtain ⟨hm, HO⟩ := TO.hnd _ _ _ he
          have hi' := slot_ok hi
          rw [← Ff.eN] at hi'
          exact rs_tryF hK F.stk F.frm Ff.hN hi' (kindLoc F h4) (Ff.gl h1) (Ff.emg ▸ hm) n1 HO Ff.tk (fun c hc => TO.xfl _ _ hf c (by have := List.all_eq_true.mp hall c hc; simpa using this)) m1 m2 (fun W' pn xe tk own => cB_ok _ (SO.oS _ _ _ (F.tr tk own)) _)
        · exact rs_bad
      · exact rs_bad
    · exact rs_bad
  · exact rs_bad
end
theorem Sound.step {G : Sta} {R : Rec} {k : Nat} {T : Tab} {c : Cmp} (TO : TabOk G R k T) (SO : Sound G R k c) : Sound G R k (c.step T) where
  oE := fun X W x F e => exE_ok TO SO F e
  oT := fun X W x F e => exT_ok SO F e
  oI := fun X W x F tg e => exI_ok TO SO F tg e
  oG := fun X W x F e => exG_ok SO F e
  oW := fun X W x F vs e => exW_ok SO F vs e
  oS := fun X W x F s => exS_ok TO SO F s
theorem cmp_ok {G : Sta} {R : Rec} {k : Nat} {T : Tab} (TO : TabOk G R k T) : ∀ n, Sound G R k (cmp T n)
  | 0 => Sound.bad
  | n + 1 => Sound.step TO (cmp_ok TO n)

/-! ### a def, from its text -/
/-- as deep as any text here -/
def deep : Nat := 40
def cFn (T : Tab) (N : List Str) (pars : Nat) (sc : Scope) (body : List Stmt) : Fn := ⟨N.length, pars, cB ((cmp T deep).S ⟨N, false, true, sc⟩) body⟩
theorem cFn_ok {G : Sta} {x qual : Str} {params : Arguments} {body : List Stmt} {scope : Scope} {dvs : List V} {kws : List (Str × V)} {f : Addr} {fd : FuncData} {N ps : List Str} {k : Nat} {R : Rec} {T : Tab}
    (F : FunD G.K x qual params body scope dvs kws f fd) (S : FnScope N ps scope) (TO : TabOk G R k T) : FnG G.P G.w G.K G.mg G.base (k + 2) f fd ps (spOf G ps.length ((cFn T N ps.length scope body).run R)) :=
  FnG.body (k := k + 1) F S rfl rfl fun X W FS => cB_ok _ (fun s => (cmp_ok TO deep).oS X W _ FS s) body
end PD
/-! P12b: own exceptions: super().__init__ at the head of an __init__. -/
namespace PD
open PySem PySem.Spec PyProof.Rows L2 LamX NdefX

theorem lookup_mem {α β : Type} [BEq α] [LawfulBEq α] {l : List (α × β)} {x : α} {y : β} (h : l.lookup x = some y) : (x, y) ∈ l := by
  induction l with
  | nil => cases h
  | cons q l ih =>
    obtain ⟨a, b⟩ := q
    rw [List.lookup_cons] at h
    cases e : x == a with
    | true =>
      rw [e] at h; cases h
      rw [eq_of_beq e]; exact List.mem_cons_self
    | false =>
      rw [e] at h
      exact List.mem_cons_of_mem _ (ih h)
/-- what the heap says of a class whose __init__ begins with super().__init__(..) of ValueError's -/
structure SupC (P : Program) (K : PySem.W.Frag) (C f cc cda : Addr) : Prop where
  oex : OexC K C
  cell : ∃ oc od osl, K.lookup cc = some ⟨oc, od, .cell (some (.ref C)), osl⟩
  code : ∃ oc od vs osl file t, K.lookup cda = some ⟨oc, od, .fields vs, osl⟩ ∧ vs[2]? = some (.str file t) ∧ ((P.main.file : Str) == file) = true
  cls : ∃ cd, PySem.W.clsIn K C = some cd
  mro : PySem.W.mroIn K C (.ref C) = some true
  top : (P.main.scope.names.lookup ("super" : Str)).isSome = false
  third : PySem.W.nsIn K cStatics "thirdparty.any" = some none
  sup : PySem.W.ks_superIn K C C "__init__" = some (some (.builtin "ValueError.__init__"))
  sub : PySem.W.subIn K (.ref C) (.type "ValueError") = some true
theorem boot_super : bootBuiltins "super" = some (.type "super") := by decide +kernel

/-- the wrapper called: the exception's args are laid anew -/
theorem mw_call {X : Cx} {pins : List (Addr × Obj)} {σ : L2.St} {H : Hp} {s : Shared} {A : Around} {E : Value → Shared → Prop} {Q : Value → Shared → Prop} {a C u : Addr} {us : List Value} (T : OexC X.K C) (I : Inv X pins σ H s) (e : H a = some (exo a C none)) (hu : s.heap.get? u = some (PySem.W.kxs_mw "ValueError.__init__" a)) (hl : us.length ≤ sizeLine)
    (h : ∀ s', Inv X pins σ H s' → Q .none s') : wpAny (model X.prog X.w) A (call (.ref u) us) Q E s := by
  obtain ⟨nm, q, N, bs, bm, sn, sub, ab, col, dd, k0, k1, k2, k3, k5, hC, hbm⟩ := T.cls
  obtain ⟨t1, ho⟩ := exo_at I.hok e
  obtain ⟨hp, g, d, t, os⟩ := s
  refine wpAny_call (codeAny_of_tree ?_)
  show wpAny _ A.in1 (callAny (.ref u) ⟨us, []⟩) _ _ _
  simp only [callAny]
  refine wpAny_bind (wpAny_load hu ?_)
  refine PySem.W.KFB.if_so rfl ?_
  refine wpAny_bind (PySem.W.check_bound_init F.excCall_ValueError (I.kIn _ _ hC) ho rfl ?_)
  refine wpAny_bind (wpAny_pure (wpAny_pure ?_))
  refine ⟨PySem.plainId_quiet F.excBase_ValueError.init.plain _, codeAny_builtin F.excBase_ValueError.initEntry ?_⟩
  refine PySem.W.exc_init_tree (cls := .ref C) (t0 := t1) (dv := none) (c2 := .none) (c3 := .none) (b4 := .bool false) ho hl fun h' k hx ht => ?_
  have J := I.write (t' := t) (x := a) (e := a) (o := exo a C none) (by rw [e]; exact True.intro) (.inl rfl) k ⟨_, hx⟩ (exo_ok hx)
  have eu : upd H a (exo a C none) = H := by
    funext b
    by_cases hb : b = a
    · rw [hb, upd_same, e]
    · rw [upd_ne hb]
  rw [eu] at J
  exact h _ J
/-- the first statement, at the def's own code -/
theorem sup_first {X : Cx} {pins : List (Addr × Obj)} {σ : L2.St} {H : Hp} {s : Shared} {body : List Stmt} {Q : Flow → Shared → Prop} {E : Value → Shared → Prop} {a C f cc cda : Addr} {fd : FuncData} {od : Option Addr} {oc : Value} {osl : Array (Option Value)} {ar : Arg} {i : Nat} {p0 p1 p2 p3 p4 : Pos} {e : Expr} {es : List Expr} {ta : TA}
    (SC : SupC X.prog X.K C f cc cda) (I : Inv X pins σ H s) (hf : X.env.func = some f) (lk : X.K.lookup f = some ⟨oc, od, .func fd, osl⟩) (hpar : (fd.params.posonlyargs ++ fd.params.args).head? = some ar) (hcode : X.env.code = .ref cda) (hcells : X.env.cells.lookup ("__class__" : Str) = some cc)
    (hks : X.env.scope.names.lookup ("super" : Str) = some .globalImplicit) (hkc : X.env.scope.names.lookup ("__class__" : Str) = some .free) (hka : X.env.scope.names.lookup ar.arg = some .local) (hN : X.N[i]? = some ar.arg) (hσ : σ[i]? = some (some (.ref a))) (hm : X.mg "super" = none)
    (he : H a = some (exo a C none)) (ha : PA X (e :: es) ta) (hp : plainArgs (e :: es) = true) (hl : (e :: es).length < 29) (hline : (p2.endLine == p3.line) = true) (hint : interactive X.env = false)
    (h : ta σ H fun vs H1 => H1 = H ∧ vs.length ≤ sizeLine) (hQ : ∀ s', Inv X pins σ H s' → Q .next s') (hE : ∀ e s', X.xe e s' → E e s') :
    PySem.wpAt (model X.prog X.w) X.A (.func body X.env) (exec (.Expr (.Call (.Attribute (.Call (.Name "super" p0) [] [] p1) "__init__" p2) (e :: es) [] p3) p4) X.env) Q E s := by
  have kin := I.kIn
  have X0 := I.ok.mod
  have bk := I.bk
  obtain ⟨oc2, od2, osl2, hcc⟩ := SC.cell
  obtain ⟨oc3, od3, vs, osl3, file, t, hcd, hvs, hfile⟩ := SC.code
  obtain ⟨cd, hcl⟩ := SC.cls
  obtain ⟨t1, hobj⟩ := exo_at I.hok he
  obtain ⟨oD, hD1, hD2⟩ : ∃ oD, s.heap.get? C = some oD ∧ oD.data = .cls cd := by
    unfold PySem.W.clsIn at hcl
    split at hcl
    · rename_i c d cd' sl ho
      cases hcl
      exact ⟨_, kin _ _ ho, rfl⟩
    · cases hcl
  have inst : PySem.W.InstAt s.heap a { cls := .ref C, dict := none, data := .fields #[.ref t1, .none, .none, .none, .bool false, .none] } C none := ⟨hobj, rfl, rfl, trivial⟩
  have ne : a ≠ C := PySem.W.ks_ne kin inst hcl
  obtain ⟨m, hns, hlk⟩ := I.loc
  obtain ⟨u0, ru0, lo⟩ := hlk i ar.arg (.ref a) hN hσ (.inl hka)
  cases ru0
  have hv : m ar.arg = some (.ref a) := by
    rcases lo with ⟨_, z⟩ | ⟨z, _⟩
    · exact z
    · rcases z with z | z
      · rw [show X.env.kindOf ar.arg = some .local from hka] at z; cases z
      · rw [show X.env.kindOf ar.arg = some .local from hka] at z; cases z
  obtain ⟨mb, hmb, hbb⟩ := X0.blt
  refine ks_wpAt_Expr_any ?_ hint rfl
  have tree : eval (.Call (.Attribute (.Call (.Name "super" p0) [] [] p1) "__init__" p2) (e :: es) [] p3) X.env = (do
      let ov ← attributeBase (.Call (.Name "super" p0) [] [] p1) "__init__" X.env (eval (.Call (.Name "super" p0) [] [] p1) X.env)
      standAt p2.atName
      let (f, first) ← holding [ov] (getMethod ov "__init__" (do return (← importBound (.Call (.Name "super" p0) [] [] p1) X.env).getD true))
      callWith p3 f first (backTo p3 (starEach (e :: es) X.env)) []) := by
    rw [PySem.arm_eval_Call]
    have hform : methodCallForm ((e :: es).length + ([] : List Keyword).length) (backTo p3 (starEach (e :: es) X.env)) (backToKw p3 (keywordEach [] X.env)) = true := few_ok hp hl
    have hpz : ∀ few : Bool, few = true → methodCallPos few (.Call (.Name "super" p0) [] [] p1) X.env p2 p3 = pure p3 := fun few e => by
      unfold methodCallPos
      rw [e, hline]
      rfl
    unfold methodCall
    rw [hform, hpz true rfl]
    rfl
  refine ks_wpAt_MethodCall ?_ tree
  refine ks_wpAt_super_base (env := X.env) hks hkc (by decide) hf (kin _ _ lk) rfl hpar hcode (kin _ _ hcd) rfl hvs hfile SC.top ?_
  refine PySem.W.ks_loadName_global I.ok.kind hks (PySem.Calls.loadGlobal_builtin (env := X.env) (I.ok.glob ▸ X0.glob.keeps bk) hm (I.ok.blt ▸ hmb.keeps bk) ((hbb _ (by decide +kernel)).trans boot_super) ⟨rfl, ?_⟩)
  refine wpAny_loadName_free I.ok.kind hkc hcells ⟨_, kin _ _ hcc, rfl⟩ ?_
  refine wpAny_loadName_local I.ok.kind hka hns hv ?_
  obtain ⟨hh, g, d, t, os⟩ := s
  refine ks_wpAny_isType_cls hD1 hD2 ⟨rfl, ?_⟩
  refine ks_wpAny_call_super hD1 hD2 hobj rfl (fun c z => by cases z) (PySem.W.looks_mroIn kin SC.mro) fun h' hso k => ?_
  have I1 : Inv X pins σ H ⟨h', g, d, t, os⟩ := I.kept (t' := t) k
  have kin1 := I1.kIn
  have inst1 : PySem.W.InstAt h' a { cls := .ref C, dict := none, data := .fields #[.ref t1, .none, .none, .none, .bool false, .none] } C none := ⟨k _ _ hobj, rfl, rfl, trivial⟩
  have hI : PySem.W.Looks (model X.prog X.w) h' (isInstance (.ref a) (.type "ValueError")) true := inst1.type.andThen (PySem.W.looks_subIn kin1 SC.sub)
  have hsu := SC.sup
  unfold PySem.W.ks_superIn at hsu
  rw [hcl] at hsu
  refine PySem.W.kxs_getMethod PySem.W.kxs_ValueError hso (PySem.W.looks_opaque kin1 SC.third) (l₀ := cd.mro) (fun A Q E s k q => wpAny_bind ((PySem.W.looks_clsIn kin1 hcl) A _ E s k (wpAny_pure q))) rfl kin1 hsu hI ne (by decide) ?_
  have hu : (h'.push (PySem.W.kxs_mw "ValueError.__init__" a)).get? h'.objs.size = some (PySem.W.kxs_mw "ValueError.__init__" a) := Heap.get?_push_size _ rfl
  have I2 : Inv X ((h'.objs.size, PySem.W.kxs_mw "ValueError.__init__" a) :: pins) σ H ⟨h'.push (PySem.W.kxs_mw "ValueError.__init__" a), g, d, t + 1, os⟩ := ClX.pin_new (t' := t + 1) I1 (fun b o e => Heap.get?_push_of_some _ e) (Nat.le_refl _) hu fun v z => by cases z
  obtain ⟨z1, z2⟩ := plain_ne hp
  have hse := starEach_plain (es := es) (env := X.env) z1
  show wpAny _ _ (callWith p3 (.ref h'.objs.size) [] (backTo p3 (starEach (e :: es) X.env)) []) _ _ _
  rw [hse]
  refine PySem.W.kxs_callWith (i := "ValueError.__init__") (x := a) (by show (false || (backTo p3 (starEach es X.env)).any (·.1)) = false; rw [plain_any z2]; rfl) ?_
  refine PySem.Calls.evalArgs_plain ?_
  have run := ha.run p3 _ _ σ H _ I2 h
  rw [hse] at run
  refine wpAny_mono run (fun us s2 ⟨vs2, H2, I3, rv, e2, hz⟩ => ?_) fun e s' x => hE e s' x
  subst e2
  have hu2 := ClX.pin_at I3
  refine ⟨hu2, ?_⟩
  have I4 : Inv X pins σ H2 s2 := ClX.unpin I3
  exact mw_call SC.oex I4 he hu2 (show us.length ≤ sizeLine by rw [← rv.length]; exact hz) fun s' J => hQ s' J

/-- an __init__ that begins so, and goes on with rest -/
theorem sup_ok {CX : CXT} {P : Program} {w : World} {K : PySem.W.Frag} {mg : Str → Option Value} {base : Heap} {name qual : Str} {params : Arguments} {rest : List Stmt} {scope : Scope} {C f cc cda : Addr} {doc pm ct oc : Value} {an od : Option Addr} {osl : Array (Option Value)} {N ps : List Str} {k : Nat} {sp : Sp} {ar : Arg} {p0 p1 p2 p3 p4 : Pos} {e : Expr} {es : List Expr}
    (SC : SupC P K C f cc cda) (lk : K.lookup f = some ⟨oc, od, .func (PySem.W.fnX name qual params (.Expr (.Call (.Attribute (.Call (.Name "super" p0) [] [] p1) "__init__" p2) (e :: es) [] p3) p4 :: rest) scope [("__class__", cc)] .none .none doc pm an (.ref cda) ct), osl⟩) (hcd : PySem.W.codeIn K (.ref cda) qual = true)
    (S : NScope N ps ["__class__"] scope) (hb : ∀ us : List Value, us.length = ps.length → bindArgs (PySem.W.fnX name qual params (.Expr (.Call (.Attribute (.Call (.Name "super" p0) [] [] p1) "__init__" p2) (e :: es) [] p3) p4 :: rest) scope [("__class__", cc)] .none .none doc pm an (.ref cda) ct) ⟨us, []⟩ = pure (ps.zip us))
    (hpar : (params.posonlyargs ++ params.args).head? = some ar) (hks : scope.names.lookup ("super" : Str) = some .globalImplicit) (hps : ps[0]? = some ar.arg) (hm : mg "super" = none) (hp : plainArgs (e :: es) = true) (hl : (e :: es).length < 29) (hline : (p2.endLine == p3.line) = true)
    (hsp : ∀ vs H Q E, sp vs H Q E → vs.length = ps.length ∧ ∃ a ws, vs = .ref a :: ws ∧ H a = some (exo a C none))
    (hbody : ∀ (A : Around) (outer : List PySem.Env) (s : Shared) (H : Hp) (vs : List V) (Q : VK) (E : XK), Room k (A.deeper (envF ⟨name, qual, params, rest, scope, [("__class__", cc)], cda⟩ f s.heap.objs.size)) → sp vs H Q E →
      ∃ ta t, PA (ncx CX P w K mg base N ⟨name, qual, params, rest, scope, [("__class__", cc)], cda⟩ f A outer s H E) (e :: es) ta ∧ PSs (ncx CX P w K mg base N ⟨name, qual, params, rest, scope, [("__class__", cc)], cda⟩ f A outer s H E) rest t ∧
        (ta (startF N vs [none]) H fun vs H1 => H1 = H ∧ vs.length ≤ sizeLine) ∧ t { nx := fun _ H' => Q .non H', rt := Q } (startF N vs [none]) H) :
    FnOk P w K mg base CX (k + 1) f (PySem.W.fnX name qual params (.Expr (.Call (.Attribute (.Call (.Name "super" p0) [] [] p1) "__init__" p2) (e :: es) [] p3) p4 :: rest) scope [("__class__", cc)] .none .none doc pm an (.ref cda) ct) ps sp := by
  refine ⟨fun vs H Q E h => (hsp vs H Q E h).1, fun A outer s H args us vs Q E hr e0 hbd r h => ?_⟩
  obtain ⟨hlen, a, ws, rfl, ha⟩ := hsp _ _ _ _ h
  have KX : K.In s.heap := e0.mod.kin.keeps fun b o e => (e0.bs b o e).1
  have lim : s.heap.NoLimit := e0.mod.nolimit.keeps fun b o e => (e0.bs b o e).1
  obtain ⟨oc2, od2, osl2, hcc⟩ := SC.cell
  have hccn : H cc = none := (e0.bs cc _ (e0.mod.kin _ _ hcc)).2
  have CA : CellsAt [("__class__", cc)] ["__class__"] [none] s.heap H := by
    refine ⟨rfl, fun y c z => ?_, fun x y c z1 z2 => ?_, fun i y z => ?_⟩
    · obtain ⟨rfl, rfl⟩ : y = "__class__" ∧ c = cc := by
        have := lookup_mem z
        simpa using this
      exact ⟨hccn, _, ⟨_, KX _ _ hcc, rfl⟩⟩
    · have m1 := lookup_mem z1
      have m2 := lookup_mem z2
      have e1 : x = "__class__" := by simp at m1; exact m1.1
      have e2 : y = "__class__" := by simp at m2; exact m2.1
      rw [e1, e2]
    · have e1 : y = "__class__" := by
        cases i with
        | zero => simpa using z.symm
        | succ n => simp at z
      exact ⟨cc, by rw [e1]; rfl, fun v z2 => by
        cases i with
        | zero => cases z2
        | succ n => simp at z2⟩
  refine ks_codeAny_call_defAt hr.depth (KX _ _ lk) rfl lim (PySem.W.codeRec_of KX hcd) rfl hbd S.nocell (fun y hy => S.par _ (List.of_mem_zip hy).1) (fun h₁ hns kp => ?_) S.co S.gen S.kind
  obtain ⟨ta, t, pa, ps_, qa, qt⟩ := hbody A outer s H _ Q E (hr.deeper _) h
  have I : Inv (ncx CX P w K mg base N ⟨name, qual, params, rest, scope, [("__class__", cc)], cda⟩ f A outer s H E) [] (startF N (.ref a :: ws) [none]) H { s with heap := h₁, toks := s.toks + (ps.zip us).length } := inv_startN S hr.hd e0 hlen r CA hns kp
  refine ks_wpAt_execs_cons ?_
  refine sup_first (X := ncx CX P w K mg base N ⟨name, qual, params, rest, scope, [("__class__", cc)], cda⟩ f A outer s H E) (i := 0) (a := a) SC I rfl lk hpar rfl rfl hks (S.frk _ List.mem_cons_self) (S.par _ (List.mem_of_getElem? hps)) ?hN rfl hm ha pa hp hl hline ?hI qa ?hQ ?hE
  case hI =>
    show interactive (envF ⟨name, qual, params, rest, scope, [("__class__", cc)], cda⟩ f s.heap.objs.size) = false
    unfold interactive
    show ((scope.kind == .module) && _) = false
    rw [S.kind]; rfl
  case hN =>
    have q := S.pre
    show N[0]? = some ar.arg
    have z : (N.take (ps.length + [("__class__" : Str)].length))[0]? = (ps ++ [("__class__" : Str)])[0]? := by rw [q]
    rw [List.getElem?_take_of_lt (by simp)] at z
    rw [z]
    cases ps with
    | nil => cases hps
    | cons x r => simpa using hps
  case hE => exact fun e s' x => x
  case hQ =>
    intro s' J
    refine PySem.wpAt_of_wpAny ?_
    refine wpAny_mono (ps_.run [] s' _ H _ J qt) (fun fl s2 hs => ?_) fun e s' hs => hs
    cases fl with
    | ret u =>
      obtain ⟨v, σ', H', J, rv, q⟩ := hs
      exact ⟨v, H', J.os, J.bare, J.base, J.hok, rv, q⟩
    | next =>
      obtain ⟨σ', H', J, q⟩ := hs
      exact ⟨V.non, H', J.os, J.bare, J.base, J.hok, rfl, q⟩
    | brk =>
      obtain ⟨_, _, _, q⟩ := hs
      exact q.elim
    | cont =>
      obtain ⟨_, _, _, q⟩ := hs
      exact q.elim

/-! ### the field's value -/
/-- the value that an exception's __init__ gives its field -/
def xFn (T : Tab) (N : List Str) (pars : Nat) (sc : Scope) (e : Expr) : Fn := ⟨N.length, pars, fun R ρ L => ((cmp T deep).E ⟨N, true, false, sc⟩ e R (ρ.set 0 none) L).st ρ fun d L1 => .ok (.rt d, ρ) L1⟩
theorem xFn_env {G : Sta} {ms : List Addr} {H : Hp} {N ps : List Str} {ds : List D} {ws : List V} {a : Addr} (hl : (V.ref a :: ws).length = ps.length) (hpl : ps.length + 1 ≤ N.length) (r : Reps G ms H ds ws) :
    EnvOk G ms H (((D.non :: ds).map some ++ List.replicate (N.length - ps.length) none).set 0 none) (startF N (.ref a :: ws) [none]) := by
  have e1 := r.length
  have e2 : ws.length + 1 = ps.length := hl
  refine ⟨?_, fun i d h => ?_⟩
  · unfold startF
    simp only [List.length_set, List.length_append, List.length_map, List.length_cons, List.length_replicate, List.length_nil]
    omega
  · cases i with
    | zero => rw [List.getElem?_set_self (by simp)] at h; cases h
    | succ j =>
      rw [List.getElem?_set_ne (by omega)] at h
      rw [List.map_cons, List.cons_append, List.getElem?_cons_succ] at h
      by_cases hj : j < ds.length
      · rw [List.getElem?_append_left (by rw [List.length_map]; exact hj), List.getElem?_map] at h
        cases z : ds[j]? with
        | none => rw [z] at h; cases h
        | some d' =>
          rw [z] at h; cases h
          obtain ⟨v, ev, rv⟩ := r.get z
          refine ⟨v, ?_, rv⟩
          unfold startF
          rw [List.getElem?_append_left (by rw [List.length_map, List.length_cons]; omega), List.map_cons, List.getElem?_cons_succ, List.getElem?_map, ev]
          rfl
      · rw [List.getElem?_append_right (by rw [List.length_map]; omega), List.getElem?_replicate] at h
        split at h <;> cases h
theorem xc_fn {G : Sta} {T : Tab} {R : Rec} {j k : Nat} {name qual : Str} {params : Arguments} {scope : Scope} {c : Nat} {f cc cda : Addr} {doc pm ct oc : Value} {an od : Option Addr} {osl : Array (Option Value)} {N ps : List Str} {ar : Arg} {p0 p1 p2 p3 p4 p5 p6 p7 q : Pos} {jj : Nat} {txt fld self : Str} {e : Expr}
    (TO : TabOk G R j T) (SC : SupC G.P G.K (G.CA c) f cc cda) (lk : G.K.lookup f = some ⟨oc, od, .func (PySem.W.fnX name qual params (.Expr (.Call (.Attribute (.Call (.Name "super" p0) [] [] p1) "__init__" p2) [.Constant (.str txt) jj q] [] p3) p4 :: [.Assign [.Attribute (.Name self p5) fld p6] e p7]) scope [("__class__", cc)] .none .none doc pm an (.ref cda) ct), osl⟩)
    (hcd : PySem.W.codeIn G.K (.ref cda) qual = true) (S : NScope N ps ["__class__"] scope) (hb : ∀ us : List Value, us.length = ps.length → bindArgs (PySem.W.fnX name qual params (.Expr (.Call (.Attribute (.Call (.Name "super" p0) [] [] p1) "__init__" p2) [.Constant (.str txt) jj q] [] p3) p4 :: [.Assign [.Attribute (.Name self p5) fld p6] e p7]) scope [("__class__", cc)] .none .none doc pm an (.ref cda) ct) ⟨us, []⟩ = pure (ps.zip us))
    (hpar : (params.posonlyargs ++ params.args).head? = some ar) (hks : scope.names.lookup ("super" : Str) = some .globalImplicit) (hps : ps[0]? = some ar.arg) (hself : self = ar.arg) (hm : G.mg "super" = none) (hline : (p2.endLine == p3.line) = true) (hno : PySem.W.findIn G.K (.ref (G.CA c)) fld = some none) (hnm : okNm self = true) :
    FnOk G.P G.w G.K G.mg G.base (L2.CX G.P G.w) (k + 1) f (PySem.W.fnX name qual params (.Expr (.Call (.Attribute (.Call (.Name "super" p0) [] [] p1) "__init__" p2) [.Constant (.str txt) jj q] [] p3) p4 :: [.Assign [.Attribute (.Name self p5) fld p6] e p7]) scope [("__class__", cc)] .none .none doc pm an (.ref cda) ct) ps (spX G ps.length c fld ((xFn T N ps.length scope e).run R)) := by
  obtain ⟨n1, n2, n3⟩ := okNm_ok hnm
  have hpre := S.pre
  have hN0 : N[0]? = some ar.arg := by
    have z : (N.take (ps.length + [("__class__" : Str)].length))[0]? = (ps ++ [("__class__" : Str)])[0]? := by rw [hpre]
    rw [List.getElem?_take_of_lt (by simp)] at z
    rw [z]
    cases ps with
    | nil => cases hps
    | cons x r => simpa using hps
  have hpl : ps.length + 1 ≤ N.length := by
    have q := congrArg List.length hpre
    rw [List.length_take, List.length_append] at q
    simp at q
    omega
  refine sup_ok SC lk hcd S hb hpar hks hps hm rfl (show 1 < 29 by decide) hline (fun vs H Q E h => ⟨h.1, by obtain ⟨_, a, ws, h1, h2, _⟩ := h; exact ⟨a, ws, h1, h2⟩⟩) fun A outer s H vs Q E hr h => ?_
  obtain ⟨hlen, a, ws, rfl, ha, ms, L, ds, v, L', Se, nam, rs, hv, fin⟩ := h
  have F : Fit (ncx (L2.CX G.P G.w) G.P G.w G.K G.mg G.base N ⟨name, qual, params, [.Assign [.Attribute (.Name self p5) fld p6] e p7], scope, [("__class__", cc)], cda⟩ f A outer s H E) G W0 (j + 1) ⟨N, true, false, scope⟩ :=
    { eP := rfl, ew := rfl, eK := rfl, emg := rfl, ebase := rfl, room := fun z => (nomatch z), un := Nat.lt_of_le_of_lt (Nat.add_le_add_right (Nat.le_add_right _ (16 * k)) 200) hr.un, grd := fun z => (nomatch z), calm := fun z => (nomatch z), nd := S.nd, eN := rfl, esc := rfl, fnc := fun z => (nomatch z), tk := L2.takes0 }
  have he := (cmp_ok TO deep).oE _ W0 _ F e
  have hloc : scope.names.lookup ar.arg = some .local := S.par _ (List.mem_of_getElem? hps)
  have hself2 : PE (ncx (L2.CX G.P G.w) G.P G.w G.K G.mg G.base N ⟨name, qual, params, [.Assign [.Attribute (.Name self p5) fld p6] e p7], scope, [("__class__", cc)], cda⟩ f A outer s H E) (.Name self p5) (tVar 0) := pe_var (by rw [hself]; exact hN0) (by rw [hself]; exact .inl hloc) n1 n2
  refine ⟨_, _, pa_cons pe_str pa_nil (starEach_plain fun _ _ z => nomatch z), pss_one (ps_ost hself2 he swap_att), ?_, ?_⟩
  · exact ⟨rfl, by show 1 ≤ sizeLine; decide⟩
  · have hv2 : (if (D.non :: ds).length = ps.length then (noExc ((xFn T N ps.length scope e).body R ((D.non :: ds).map some ++ List.replicate (N.length - ps.length) none) L)).bind fun p L1 => (match p.1 with
      | .rt d => Res.ok d L1
      | .nx => .ok .non L1
      | .ex c fs => .exc c fs L1
      | _ => .bad) else .bad) = .ok v L' := hv
    have hl2 : (D.non :: ds).length = ps.length := by
      rw [List.length_cons, rs.length]; exact hlen
    rw [if_pos hl2] at hv2
    obtain ⟨pr, M, hb1, hb2⟩ := bind_ok hv2
    have hb3 := noExc_ok hb1
    have hb4 : (((cmp T deep).E ⟨N, true, false, scope⟩ e R (((D.non :: ds).map some ++ List.replicate (N.length - ps.length) none).set 0 none) L).st ((D.non :: ds).map some ++ List.replicate (N.length - ps.length) none) fun d L1 => .ok (.rt d, (D.non :: ds).map some ++ List.replicate (N.length - ps.length) none) L1) = .ok pr M := hb3
    cases hz : (cmp T deep).E ⟨N, true, false, scope⟩ e R (((D.non :: ds).map some ++ List.replicate (N.length - ps.length) none).set 0 none) L with
    | bad => rw [hz] at hb4; cases hb4
    | exc c2 f2 L2' =>
      rw [hz] at hb4
      cases hb4
      cases hb2
    | ok d L1 =>
      rw [hz] at hb4
      cases hb4
      cases hb2
      refine ⟨ms, L, _, Se, xFn_env hlen hpl rs, ?_⟩
      rw [hz]
      intro ms' H' vV x s2 r2
      have hHa : H' a = some (exo a (G.CA c) none) := x.keep a _ ha nam
      exact ⟨_, rfl, a, G.CA c, rfl, SC.oex, hno, .inl ⟨hHa, fun dx hdx nda => fin ms' H' vV x s2 r2 dx hdx nda⟩⟩
end PD
/-! P13: from the head's facts to the program's table; the law. -/
namespace PD
open PySem PySem.Spec PyProof.Rows L2

/-! ### parameters -/
def plainPar (p : Arguments) (ps : List Str) : Bool := p.posonlyargs.isEmpty && p.kwonlyargs.isEmpty && p.defaults.isEmpty && p.vararg.isNone && p.kwarg.isNone && decide (p.args.map (·.arg) = ps) && decide ps.Nodup
theorem fm_congr {α β : Type} {f g : α → Option β} : ∀ {l : List α}, (∀ x ∈ l, f x = g x) → l.filterMap f = l.filterMap g
  | [], _ => rfl
  | x :: l, h => by
    rw [List.filterMap_cons, List.filterMap_cons, h x List.mem_cons_self, fm_congr fun y hy => h y (List.mem_cons_of_mem _ hy)]
theorem zip_lookup : ∀ {ps : List Str} {us : List Value}, ps.Nodup → us.length = ps.length → ps.filterMap (fun n => ((ps.zip us).lookup n).map (n, ·)) = ps.zip us
  | [], [], _, _ => rfl
  | [], _ :: _, _, h => by cases h
  | p :: ps, [], _, h => by cases h
  | p :: ps, u :: us, nd, h => by
    rw [List.nodup_cons] at nd
    have ih := zip_lookup (us := us) nd.2 (by simpa using h)
    rw [List.zip_cons_cons, List.filterMap_cons, List.lookup_cons_self]
    dsimp only [Option.map_some]
    congr 1
    refine Eq.trans (fm_congr fun n hn => ?_) ih
    rw [List.lookup_cons]
    have : (n == p) = false := by
      cases e : n == p with
      | false => rfl
      | true => rw [eq_of_beq e] at hn; exact absurd hn nd.1
    rw [this]
theorem lookup_some : ∀ {ps : List Str} {us : List Value} {n : Str}, n ∈ ps → us.length = ps.length → ((ps.zip us).lookup n).isNone = false
  | [], _, _, hn, _ => absurd hn (by simp)
  | p :: ps, [], _, _, h => by cases h
  | p :: ps, u :: us, n, hn, h => by
    rw [List.zip_cons_cons, List.lookup_cons]
    cases e : n == p with
    | true => rfl
    | false =>
      rcases List.mem_cons.mp hn with q | q
      · rw [q] at e; simp at e
      · exact lookup_some q (by simpa using h)
theorem bind_plain {x qual : Str} {params : Arguments} {body : List Stmt} {scope : Scope} {ps : List Str} (hp : plainPar params ps = true) (kV doc pm : Value) (an : Option Addr) (cdv ct : Value) (us : List Value) (hl : us.length = ps.length) :
    bindArgs (PySem.W.fnOf x qual params body scope .none kV doc pm an cdv ct) ⟨us, []⟩ = pure (ps.zip us) := by
  obtain ⟨po, ar, va, kw, kd, ka, df⟩ := params
  unfold plainPar at hp
  simp only [Bool.and_eq_true, decide_eq_true_eq, List.isEmpty_iff, Option.isNone_iff_eq_none] at hp
  obtain ⟨⟨⟨⟨⟨⟨h1, h2⟩, h3⟩, h4⟩, h5⟩, h6⟩, h7⟩ := hp
  subst h1 h2 h3 h4 h5
  have hm : (ps.filter fun n => ((ps.zip us).lookup n).isNone) = [] := by
    rw [List.filter_eq_nil_iff]
    intro n hn
    rw [lookup_some hn hl]
    decide
  have hz := zip_lookup h7 hl
  unfold bindArgs
  simp [PySem.W.fnOf, h6, seqItems?, hl, hm, hz]
  rfl

theorem bind_plainX {x qual : Str} {params : Arguments} {body : List Stmt} {scope : Scope} {ps : List Str} (hp : plainPar params ps = true) (cl : List (Str × Addr)) (doc pm : Value) (an : Option Addr) (cdv ct : Value) (us : List Value) (hl : us.length = ps.length) :
    bindArgs (PySem.W.fnX x qual params body scope cl .none .none doc pm an cdv ct) ⟨us, []⟩ = pure (ps.zip us) := by
  obtain ⟨po, ar, va, kw, kd, ka, df⟩ := params
  unfold plainPar at hp
  simp only [Bool.and_eq_true, decide_eq_true_eq, List.isEmpty_iff, Option.isNone_iff_eq_none] at hp
  obtain ⟨⟨⟨⟨⟨⟨h1, h2⟩, h3⟩, h4⟩, h5⟩, h6⟩, h7⟩ := hp
  subst h1 h2 h3 h4 h5
  have hm : (ps.filter fun n => ((ps.zip us).lookup n).isNone) = [] := by
    rw [List.filter_eq_nil_iff]
    intro n hn
    rw [lookup_some hn hl]
    decide
  have hz := zip_lookup h7 hl
  unfold bindArgs
  simp [PySem.W.fnX, h6, seqItems?, hl, hm, hz]
  rfl

/-! ### the data of a program -/
/-- an exception class: its name, its own __init__ (name, qualified name, text), slots, parameters, the field that it sets -/
structure XF where
  cls : Str
  qual : Str
  params : Arguments
  body : List Stmt
  scope : Scope
  N : List Str
  ps : List Str
  fld : Str
/-- the field's value, if the text is as it should be -/
def XF.val (x : XF) : Option Expr := match x.body with
  | [.Expr (.Call (.Attribute (.Call (.Name s0 _) [] [] _) ini p2) [.Constant (.str _) _ _] [] p3) _, .Assign [.Attribute (.Name self _) fld _] e _] =>
    if decide (s0 = "super") && decide (ini = "__init__") && (p2.endLine == p3.line) && decide (fld = x.fld) && decide (x.ps[0]? = some self) && okNm self then some e else none
  | _ => none
def XF.ok (x : XF) : Bool := x.val.isSome && NdefX.nscB x.N x.ps [("__class__" : Str)] x.scope && plainPar x.params x.ps && decide (x.scope.names.lookup ("super" : Str) = some .globalImplicit) && x.params.posonlyargs.isEmpty
def XF.fn (T : Tab) (x : XF) : Option Fn := x.val.map fun e => xFn T x.N x.ps.length x.scope e
/-- what the heap must hold of it -/
def cellOf (K : PySem.W.Frag) (x : XF) : Addr := match K.lookup (He.ma K (He.ga K x.cls) "__init__") with
  | some ⟨_, _, .func fd, _⟩ => (fd.closure.lookup ("__class__" : Str)).getD 0
  | _ => 0
def codeOf (K : PySem.W.Frag) (x : XF) : Addr := match K.lookup (He.ma K (He.ga K x.cls) "__init__") with
  | some ⟨_, _, .func fd, _⟩ => (match fd.code with
    | .ref a => a
    | _ => 0)
  | _ => 0
abbrev XfV : Type := Option (Str × Str × Arguments × FuncBody × Scope)
def xfV (K : PySem.W.Frag) (x : XF) : XfV := match K.lookup (He.ma K (He.ga K x.cls) "__init__") with
  | some ⟨_, _, .func fd, _⟩ => some (fd.name, fd.qualname, fd.params, fd.body, fd.scope)
  | _ => none
def XF.want (x : XF) : XfV := some ("__init__", x.qual, x.params, .stmts x.body, x.scope)
def isNone : Value → Bool
  | .none => true
  | _ => false
theorem isNone_ok {v : Value} (h : isNone v = true) : v = .none := by
  cases v <;> first
    | rfl
    | cases h
def refIs (v : Value) (a : Addr) : Bool := match v with
  | .ref b => decide (b = a)
  | _ => false
theorem refIs_ok {v : Value} {a : Addr} (h : refIs v a = true) : v = .ref a := by
  cases v with
  | ref b => rw [of_decide_eq_true (show decide (b = a) = true from h)]
  | _ => cases h
def oexB (K : PySem.W.Frag) (C : Addr) : Bool := (match K.lookup C with
  | some ⟨.type "type", dd, .cls cd, sl⟩ => (match cd.mro, sl.toList with
    | .ref C' :: bm, [_, _, _, _, some (.builtin n), _] => (C' == C) && (n == "ValueError.__new__") && !cd.hasDel && cd.hasDict && PySem.HandSPX.refsVE bm
    | _, _ => false)
  | _ => false) && He.eqO (PySem.W.findIn K (.ref C) "__setattr__") (some (some (.builtin "object.__setattr__"))) && decide (PySem.W.subIn K (.ref C) (.type "BaseException") = some true) && decide (PySem.W.typeIn K (.ref C) = some (.type "type")) && PySem.W.keepIn K (.ref C)
def supB (P : Program) (K : PySem.W.Frag) (C f cc cda : Addr) : Bool := oexB K C
  && (match K.lookup cc with
    | some ⟨_, _, .cell (some v), _⟩ => refIs v C
    | _ => false)
  && (match K.lookup cda with
    | some ⟨_, _, .fields vs, _⟩ => (match vs[2]? with
      | some (Value.str file _) => (P.main.file : Str) == file
      | _ => false)
    | _ => false)
  && (PySem.W.clsIn K C).isSome && decide (PySem.W.mroIn K C (.ref C) = some true) && !(P.main.scope.names.lookup ("super" : Str)).isSome && He.eqO (PySem.W.nsIn K cStatics "thirdparty.any") (some none)
  && He.eqO (PySem.W.ks_superIn K C C "__init__") (some (some (.builtin "ValueError.__init__"))) && decide (PySem.W.subIn K (.ref C) (.type "ValueError") = some true)
def XF.heapB (P : Program) (K : PySem.W.Frag) (x : XF) : Bool := let C := He.ga K x.cls
  let f := He.ma K C "__init__"
  supB P K C f (cellOf K x) (codeOf K x) && (match K.lookup f with
    | some ⟨_, _, .func fd, _⟩ => decide (fd.closure = [(("__class__" : Str), cellOf K x)]) && isNone fd.defaults && isNone fd.kwdefaults && refIs fd.code (codeOf K x) && decide (fd.globals = mainGlobals) && decide (fd.builtins = builtinsNs) && PySem.W.codeIn K fd.code x.qual
    | _ => false)
  && He.eqO (PySem.W.findIn K (.ref C) "__init__") (some (some (.ref f))) && decide (PySem.W.typeIn K (.ref f) = some (.type "function")) && He.eqO (PySem.W.findIn K (.ref C) x.fld) (some none)
theorem oexB_ok {K : PySem.W.Frag} {C : Addr} (h : oexB K C = true) : OexC K C := by
  unfold oexB at h
  simp only [Bool.and_eq_true, decide_eq_true_eq] at h
  obtain ⟨⟨⟨⟨h1, h2⟩, h3⟩, h4⟩, h5⟩ := h
  refine ⟨?_, He.eqO_ok h2, h3, h4, h5⟩
  split at h1
  · rename_i dd cd sl e
    obtain ⟨nm, bs, mro, ns, qn, hd, sn, sb, ab, col, del⟩ := cd
    split at h1
    · rename_i C' bm k0 k1 k2 k3 n k5 e1 e2
      simp only [Bool.and_eq_true, Bool.not_eq_true'] at h1
      obtain ⟨⟨⟨⟨a1, a2⟩, a3⟩, a4⟩, a5⟩ := h1
      have b1 : C' = C := eq_of_beq a1
      have b2 : n = "ValueError.__new__" := eq_of_beq a2
      dsimp only at e1 a3 a4
      have b3 : sl = #[k0, k1, k2, k3, some (.builtin n), k5] := by
        apply Array.toList_inj.mp
        rw [e2]
      subst b1 b2 b3 e1 a3 a4
      exact ⟨nm, qn, ns, bs, bm, sn, sb, ab, col, dd, k0, k1, k2, k3, k5, e, a5⟩
    · cases h1
  · cases h1
theorem supB_ok {P : Program} {K : PySem.W.Frag} {C f cc cda : Addr} (h : supB P K C f cc cda = true) : SupC P K C f cc cda := by
  unfold supB at h
  simp only [Bool.and_eq_true, decide_eq_true_eq] at h
  obtain ⟨⟨⟨⟨⟨⟨⟨⟨h1, h2⟩, h3⟩, h4⟩, h5⟩, h6⟩, h7⟩, h8⟩, h9⟩ := h
  refine ⟨oexB_ok h1, ?_, ?_, Option.isSome_iff_exists.mp h4, h5, by simpa using h6, He.eqO_ok h7, He.eqO_ok h8, h9⟩
  · split at h2
    · rename_i oc od v osl e
      rw [refIs_ok h2] at e
      exact ⟨_, _, _, e⟩
    · cases h2
  · split at h3
    · rename_i oc od vs osl e
      split at h3
      · rename_i file t e2
        exact ⟨_, _, _, _, _, _, e, e2, h3⟩
      · cases h3
    · cases h3

/-- a def: where it stands and its text; its slots, its parameters -/
structure DF where
  d : He.DefD
  N : List Str
  ps : List Str
structure Pg where
  T : Tab
  cls : List Str
  dfs : List DF
  xs : List XF
/-- the class of that number -/
def Pg.cn (p : Pg) (c : Nat) : Str := p.cls.getD c ""
def Pg.F (p : Pg) (i : Nat) : Option Fn := match p.dfs[i]? with
  | some f => some (cFn p.T f.N f.ps.length f.d.scope f.d.body)
  | none => (p.xs[i - p.dfs.length]?).bind (XF.fn p.T)
def scopeB (N P : List Str) (sc : Scope) : Bool := (sc.kind == .function) && !sc.isCoroutine && !sc.isGenerator && decide N.Nodup && decide (N.take P.length = P) && (P.all fun x => isLoc sc x || isCell sc x) && sc.names.all fun y => !decide (y.2 = .free)
theorem scopeB_ok {N P : List Str} {sc : Scope} (h : scopeB N P sc = true) : FnScope N P sc := by
  unfold scopeB at h
  simp only [Bool.and_eq_true, decide_eq_true_eq] at h
  obtain ⟨⟨⟨⟨⟨⟨h1, h2⟩, h3⟩, h4⟩, h5⟩, h6⟩, h7⟩ := h
  refine ⟨eq_of_beq h1, by simpa using h2, by simpa using h3, h4, h5, fun x hx => ?_, fun y hy => ?_⟩
  · have := List.all_eq_true.mp h6 x hx
    rw [Bool.or_eq_true] at this
    rcases this with q | q
    · exact .inl (isLoc_ok q)
    · exact .inr (isCell_ok q)
  · have := List.all_eq_true.mp h7 y hy
    simpa using this
def DF.ok (f : DF) : Bool := scopeB f.N f.ps f.d.scope && plainPar f.d.params f.ps && f.d.dfl.isEmpty && f.d.kwd.isEmpty
/-- where the def of that number stands -/
def Pg.at_ (p : Pg) (i : Nat) (w : Str × Option Str) : Bool := match p.dfs[i]? with
  | some f => decide (f.d.at_ = w)
  | none => false
/-- what is read off the text alone -/
def Pg.texts (p : Pg) : Bool := p.dfs.all DF.ok
  && (p.T.fns.all fun q => p.at_ q.2 (q.1, none))
  && (p.T.cls.all fun q => p.at_ q.2.2 (q.1, some "__init__") && decide (p.cn q.2.1 = q.1))
  && (p.T.mets.all fun q => q.2.all fun r => p.at_ r.2 (p.cn r.1, some q.1))
  && p.xs.all XF.ok
  && (p.T.excs.all fun q => decide (p.cn q.2.1 = q.1) && decide (p.dfs.length ≤ q.2.2.2) && match p.xs[q.2.2.2 - p.dfs.length]? with
    | some x => decide (x.cls = q.1) && decide (x.fld = q.2.2.1)
    | none => false)
  && (p.T.hnds.all fun q => decide (p.cn q.2.1 = q.1))
/-- what is read off the heap behind the top -/
def Pg.heapOk (p : Pg) (P : Program) (K : PySem.W.Frag) : Bool := (p.T.fns.all fun q => (He.Fa.glo q.1).ok K)
  && (p.T.cls.all fun q => (He.Fa.glo q.1).ok K && (He.Fa.mkr q.1).ok K)
  && (p.T.mets.all fun q => q.2.all fun r => (He.Fa.cls (p.cn r.1)).ok K && (He.Fa.meth (p.cn r.1) q.1).ok K)
  && (p.T.flds.all fun q => q.2.all fun c => (He.Fa.cls (p.cn c)).ok K && (He.Fa.noat (p.cn c) q.1).ok K)
  && (p.T.con.all fun q => match q.2 with
    | .int i => (He.Fa.int q.1 i).ok K
    | _ => false)
  && (p.T.blt.all fun x => (He.Fa.free x).ok K)
  && (p.xs.isEmpty || (He.Fa.free "super").ok K)
  && (p.xs.all fun x => x.heapB P K)
  && (p.T.excs.all fun q => (He.Fa.glo q.1).ok K)
  && (p.T.hnds.all fun q => (He.Fa.glo q.1).ok K && p.T.xall.all fun c => decide (PySem.W.exmOne K (.ref (He.ga K (p.cn c))) (.ref (He.ga K (p.cn q.2.1))) = some (q.2.2.contains c)))
  && p.T.xfl.all fun q => q.2.all fun c => xfB K (He.ga K (p.cn c)) && He.eqO (PySem.W.findIn K (.ref (He.ga K (p.cn c))) q.1) (some none)
/-- the objects that the top's names reach, in n steps -/
def asX (g : Addr → Option Obj) : Nat → List Addr
  | 0 => [mainGlobals, cStatics]
  | n + 1 => He.growD g (asX g n)
/-- the Hook -/
abbrev AlX : Type := Bool × List He.FnW × List XfV
def Pg.fns (p : Pg) : List He.DefD := p.dfs.map (·.d)
def obsX (p : Pg) (P : Program) (K : PySem.W.Frag) : AlX := (p.heapOk P K && p.fns.all fun d => d.ok K, p.fns.map fun d => He.fnW K d.at_, p.xs.map fun x => xfV K x)
def valX (p : Pg) : AlX := (true, p.fns.map He.DefD.val, p.xs.map XF.want)
def SaysX (p : Pg) (P : Program) (K : PySem.W.Frag) : Prop := obsX p P K = valX p
def obsXG (n : Nat) (p : Pg) (P : Program) (g : Addr → Option Obj) : AlX := obsX p P (He.frG g (asX g n))
def hookX (n : Nat) (p : Pg) (P : Program) : PySem.W.Hook where
  α := AlX
  obs := fun s => obsXG n p P s.heap.get?
  val := fun _ => valX p
  says := fun _ h => ∃ K : PySem.W.Frag, K.In h ∧ SaysX p P K
  of := fun _ _ e => ⟨_, He.frG_in, e⟩
  keeps := fun _ _ _ ⟨K, hK, c⟩ k => ⟨K, PySem.W.Frag.In.keeps hK k, c⟩
theorem obsXG_eq {n : Nat} {p : Pg} {P : Program} {g : Addr → Option Obj} {s : Shared} (h : ∀ a, g a = s.heap.get? a) : obsXG n p P g = (hookX n p P).obs s := by
  have e : g = s.heap.get? := funext h
  rw [e] <;> rfl
theorem SaysX.fact {p : Pg} {P : Program} {K : PySem.W.Frag} (c : SaysX p P K) : p.heapOk P K = true :=
  (He.ba (show (p.heapOk P K && p.fns.all fun d => d.ok K) = true from congrArg (fun z : AlX => z.1) c)).1
theorem SaysX.def_ {p : Pg} {P : Program} {K : PySem.W.Frag} (c : SaysX p P K) (i : Nat) {d : He.DefD} (h : p.fns[i]? = some d) : ∃ fd, FunD K d.name d.qual d.params d.body d.scope (d.dvs K) (d.kws K) (He.fAd K d.at_) fd := by
  have c2 := (He.ba (show (p.heapOk P K && p.fns.all fun d => d.ok K) = true from congrArg (fun z : AlX => z.1) c)).2
  have e : p.fns.map (fun d => He.fnW K d.at_) = p.fns.map He.DefD.val := congrArg (fun z : AlX => z.2.1) c
  have e2 : (p.fns.map fun d => He.fnW K d.at_)[i]? = (p.fns.map He.DefD.val)[i]? := by rw [e]
  rw [List.getElem?_map, List.getElem?_map, h] at e2
  exact He.DefD.funD (Option.some.inj e2) (List.all_eq_true.mp c2 d (List.mem_of_getElem? h))
theorem SaysX.xf {p : Pg} {P : Program} {K : PySem.W.Frag} (c : SaysX p P K) (i : Nat) {x : XF} (h : p.xs[i]? = some x) : xfV K x = x.want := by
  have e : p.xs.map (fun x => xfV K x) = p.xs.map XF.want := congrArg (fun z : AlX => z.2.2) c
  have e2 : (p.xs.map fun x => xfV K x)[i]? = (p.xs.map XF.want)[i]? := by rw [e]
  rw [List.getElem?_map, List.getElem?_map, h] at e2
  exact Option.some.inj e2

/-! ### the table is right -/
def Pg.sta (p : Pg) (P : Program) (w : World) (K : PySem.W.Frag) (mg : Str → Option Value) (base : Heap) : Sta := ⟨P, w, K, mg, base, fun c => He.ga K (p.cn c), fun _ => 0⟩
section
variable {p : Pg} {P : Program} {w : World} {K : PySem.W.Frag} {mg : Str → Option Value} {base h : Heap}
theorem Pg.at_ok {i : Nat} {q : Str × Option Str} (h : p.at_ i q = true) : ∃ f, p.dfs[i]? = some f ∧ f.d.at_ = q := by
  unfold Pg.at_ at h
  cases e : p.dfs[i]? with
  | none => rw [e] at h; cases h
  | some f =>
    rw [e] at h
    exact ⟨f, rfl, of_decide_eq_true h⟩
/-- a def as a callee, at any depth -/
theorem Pg.calleeAt (ht : p.texts = true) (n : Nat) (ih : ∀ m, m + 1 = n → TabOk (p.sta P w K mg base) (runN p.F m) (2 * m) p.T) {i : Nat} {f : DF} {fd : FuncData} (hi : p.dfs[i]? = some f) (FD : FunD K f.d.name f.d.qual f.d.params f.d.body f.d.scope (f.d.dvs K) (f.d.kws K) (He.fAd K f.d.at_) fd) :
    FnG P w K mg base (2 * n) (He.fAd K f.d.at_) fd f.ps (spOf (p.sta P w K mg base) f.ps.length (runN p.F n i)) ∧ fits f.ps.length (runN p.F n i) := by
  unfold Pg.texts at ht
  simp only [Bool.and_eq_true] at ht
  have hf := List.all_eq_true.mp ht.1.1.1.1.1.1 f (List.mem_of_getElem? hi)
  unfold DF.ok at hf
  simp only [Bool.and_eq_true] at hf
  obtain ⟨⟨⟨f1, f2⟩, f3⟩, f4⟩ := hf
  have S := scopeB_ok f1
  cases n with
  | zero =>
    refine ⟨⟨fun vs H Q E h => h.1, fun A outer s H args us vs Q E _ _ _ _ _ h => ?_⟩, fun _ _ _ => rfl⟩
    obtain ⟨_, _, _, _, _, _, q⟩ := h
    exact q.elim
  | succ m =>
    have TO := ih m rfl
    have FO := cFn_ok (G := p.sta P w K mg base) FD S TO
    have e3 : runN p.F (m + 1) i = (cFn p.T f.N f.ps.length f.d.scope f.d.body).run (runN p.F m) := by
      funext as L
      show (match p.F i with
        | some f => f.run (runN p.F m) as L
        | none => .bad) = _
      unfold Pg.F
      rw [hi]
    rw [e3]
    refine ⟨FO, fun ds L hne => ?_⟩
    unfold Fn.run
    exact if_neg hne
theorem Pg.binds (ht : p.texts = true) {i : Nat} {f : DF} {fd : FuncData} (hi : p.dfs[i]? = some f) (FD : FunD K f.d.name f.d.qual f.d.params f.d.body f.d.scope (f.d.dvs K) (f.d.kws K) (He.fAd K f.d.at_) fd) :
    Binds K fd f.ps [] ∧ ∀ (s : Shared) (us : List Value), us.length = f.ps.length → BindsTo s fd ⟨us, []⟩ (f.ps.zip us) := by
  unfold Pg.texts at ht
  simp only [Bool.and_eq_true] at ht
  have hf := List.all_eq_true.mp ht.1.1.1.1.1.1 f (List.mem_of_getElem? hi)
  unfold DF.ok at hf
  simp only [Bool.and_eq_true] at hf
  obtain ⟨⟨⟨f1, f2⟩, f3⟩, f4⟩ := hf
  have e1 : f.d.dvs K = [] := by unfold He.DefD.dvs; rw [List.isEmpty_iff.mp f3]; rfl
  rw [e1] at FD
  exact ⟨FD.bindsN fun kV doc pm an cdv ct us hl => bind_plain f2 kV doc pm an cdv ct us hl, FD.bindsA fun kV doc pm an cdv ct us hl => bind_plain f2 kV doc pm an cdv ct us hl⟩
theorem Pg.callee (ht : p.texts = true) (c : SaysX p P K) (n : Nat) (ih : ∀ m, m + 1 = n → TabOk (p.sta P w K mg base) (runN p.F m) (2 * m) p.T) {i : Nat} {f : DF} (hi : p.dfs[i]? = some f) :
    CalleeP P w K mg base (p.sta P w K mg base) (2 * n) (He.fAd K f.d.at_) f.ps (runN p.F n i) ∧ fits f.ps.length (runN p.F n i) := by
  have hd : p.fns[i]? = some f.d := by unfold Pg.fns; rw [List.getElem?_map, hi]; rfl
  obtain ⟨fd, FD⟩ := c.def_ i hd
  obtain ⟨h1, h2⟩ := Pg.calleeAt ht n ih hi FD
  exact ⟨⟨⟨fd, h1, (Pg.binds ht hi FD).1⟩, FD.kp⟩, h2⟩
/-- an exception class, at any depth -/
theorem Pg.exc (ht : p.texts = true) (c : SaysX p P K) (X : K.In h) (G : h.Ns mainGlobals mg) (n : Nat) (ih : ∀ m, m + 1 = n → TabOk (p.sta P w K mg base) (runN p.F m) (2 * m) p.T) {i : Nat} {x : XF} (hi : p.dfs.length ≤ i) (hx : p.xs[i - p.dfs.length]? = some x) (cc : Nat) (hcc : (p.sta P w K mg base).CA cc = He.ga K x.cls) :
    XcOk (p.sta P w K mg base) (2 * n) cc x.fld x.ps (runN p.F n i) := by
  have ok := c.fact
  have hv := c.xf _ hx
  unfold Pg.texts at ht
  simp only [Bool.and_eq_true] at ht
  have hxo := List.all_eq_true.mp ht.1.1.2 x (List.mem_of_getElem? hx)
  unfold Pg.heapOk at ok
  simp only [Bool.and_eq_true] at ok
  have hh := List.all_eq_true.mp ok.1.1.1.2 x (List.mem_of_getElem? hx)
  have hsup : mg "super" = none := by
    have z := ok.1.1.1.1.2
    rw [Bool.or_eq_true] at z
    rcases z with z | z
    · rw [List.isEmpty_iff.mp z] at hx; cases hx
    · exact He.free_ok X G z
  unfold XF.heapB at hh
  simp only [Bool.and_eq_true, decide_eq_true_eq] at hh
  obtain ⟨⟨⟨⟨g1, g2⟩, g3⟩, g4⟩, g5⟩ := hh
  have SC := supB_ok g1
  unfold XF.ok at hxo
  simp only [Bool.and_eq_true, decide_eq_true_eq] at hxo
  obtain ⟨⟨⟨⟨x1, x2⟩, x3⟩, x4⟩, x5⟩ := hxo
  have S := NdefX.nscope_by x2
  split at g2
  · rename_i oc od fd osl lk
    simp only [Bool.and_eq_true, decide_eq_true_eq] at g2
    obtain ⟨⟨⟨⟨⟨⟨y1, y2⟩, y3⟩, y4⟩, y5⟩, y6⟩, y7⟩ := g2
    have z2 := isNone_ok y2
    have z3 := isNone_ok y3
    have z4 := refIs_ok y4
    unfold xfV XF.want at hv
    rw [lk] at hv
    obtain ⟨nm, qn, pr, bd, sc, gl, clo, dflt, kwd, doc, pm, an, cod, ct, blt⟩ := fd
    dsimp only at y1 z2 z3 z4 y5 y6 y7 hv
    simp only [Option.some.injEq, Prod.mk.injEq] at hv
    obtain ⟨v1, v2, v3, v4, v5⟩ := hv
    subst v1 v2 v3 v4 v5 y1 z2 z3 z4 y5 y6
    have bnd : ∀ us : List Value, us.length = x.ps.length → bindArgs _ ⟨us, []⟩ = pure (x.ps.zip us) := fun us hl => bind_plainX (x := "__init__") (qual := x.qual) (params := x.params) (body := x.body) (scope := x.scope) x3 [(("__class__" : Str), cellOf K x)] doc pm an (.ref (codeOf K x)) ct us hl
    have fitsN : fits x.ps.length (runN p.F n i) ∧ (∀ m, n = m + 1 → ∀ e, x.val = some e → runN p.F (m + 1) i = (xFn p.T x.N x.ps.length x.scope e).run (runN p.F m)) := by
      have run1 : ∀ m, ∀ e, x.val = some e → runN p.F (m + 1) i = (xFn p.T x.N x.ps.length x.scope e).run (runN p.F m) := fun m e he => by
        funext as L
        show (match p.F i with
          | some f => f.run (runN p.F m) as L
          | none => .bad) = _
        have : p.F i = some (xFn p.T x.N x.ps.length x.scope e) := by
          unfold Pg.F
          rw [List.getElem?_eq_none hi, hx]
          show XF.fn p.T x = _
          unfold XF.fn
          rw [he]; rfl
        rw [this]
      refine ⟨?_, fun m _ e he => run1 m e he⟩
      cases n with
      | zero => exact fun _ _ _ => rfl
      | succ m =>
        obtain ⟨e, he⟩ := Option.isSome_iff_exists.mp x1
        rw [run1 m e he]
        exact fun ds L hne => if_neg hne
    refine ⟨?_, ⟨He.ma K (He.ga K x.cls) "__init__", _, ?_, g4, ?_, .all bnd⟩, fitsN.1⟩
    · rw [hcc]; exact SC.oex
    · rw [hcc]; exact He.eqO_ok g3
    · cases n with
      | zero =>
        refine ⟨fun vs H Q E h => h.1, fun A outer s H args us vs Q E _ _ _ _ h => ?_⟩
        obtain ⟨_, a, ws, _, _, ms, L, ds, v, L', _, _, _, q, _⟩ := h
        cases q
      | succ m =>
        obtain ⟨e, he⟩ := Option.isSome_iff_exists.mp x1
        rw [fitsN.2 m rfl e he]
        have hval := he
        unfold XF.val at hval
        split at hval
        · rename_i s0 q0 q1 ini p2 txt jj q q3 q4 self q5 fld q6 e' q7 hbody
          split at hval
          · rename_i hc
            cases hval
            simp only [Bool.and_eq_true, decide_eq_true_eq] at hc
            obtain ⟨⟨⟨⟨⟨c1, c2⟩, c3⟩, c4⟩, c5⟩, c6⟩ := hc
            subst c1 c2 c4
            have hps : ∃ ar, (x.params.posonlyargs ++ x.params.args).head? = some ar ∧ x.ps[0]? = some ar.arg ∧ self = ar.arg := by
              unfold plainPar at x3
              simp only [Bool.and_eq_true, decide_eq_true_eq] at x3
              have e1 := x3.1.2
              rw [List.isEmpty_iff.mp x5, List.nil_append]
              cases ha : x.params.args with
              | nil => rw [ha] at e1; rw [← e1] at c5; cases c5
              | cons ar r =>
                rw [ha] at e1
                refine ⟨ar, rfl, ?_, ?_⟩
                · rw [← e1]; rfl
                · rw [← e1] at c5
                  exact (Option.some.inj c5).symm
            obtain ⟨ar, p1, p2', p3'⟩ := hps
            have TO := ih m rfl
            have lk2 := lk
            rw [hbody] at lk2
            rw [hbody] at bnd
            have SC2 : SupC (p.sta P w K mg base).P (p.sta P w K mg base).K ((p.sta P w K mg base).CA cc) (He.ma K (He.ga K x.cls) "__init__") (cellOf K x) (codeOf K x) := by rw [hcc]; exact SC
            rw [hbody]
            exact xc_fn (G := p.sta P w K mg base) (k := 2 * m + 1) TO SC2 lk2 y7 S bnd p1 x4 p2' p3' hsup c3 (by rw [hcc]; exact He.eqO_ok g5) c6
          · cases hval
        · cases hval
  · cases g2
theorem Pg.tab_of (ht : p.texts = true) (c : SaysX p P K) (X : K.In h) (G : h.Ns mainGlobals mg) (n : Nat) (ih : ∀ m, m + 1 = n → TabOk (p.sta P w K mg base) (runN p.F m) (2 * m) p.T) : TabOk (p.sta P w K mg base) (runN p.F n) (2 * n) p.T := by
  have ok := c.fact
  have ht0 := ht
  unfold Pg.texts at ht
  simp only [Bool.and_eq_true] at ht
  obtain ⟨⟨⟨⟨⟨⟨_, t1⟩, t2⟩, t3⟩, t4⟩, t5⟩, t6⟩ := ht
  unfold Pg.heapOk at ok
  simp only [Bool.and_eq_true] at ok
  obtain ⟨⟨⟨⟨⟨⟨⟨⟨⟨⟨k1, k2⟩, k3⟩, k4⟩, k5⟩, k6⟩, k7⟩, k8⟩, k9⟩, k10⟩, k11⟩ := ok
  refine ⟨fun x i hx => ?_, fun x cc i hx => ?_, fun m tb hm cc i hc => ?_, fun f cs hf => ?_, fun x d hx => ?_, fun x hx => ?_, fun x cc fl i hx => ?_, fun x hh cs hx => ?_, fun fl cs hx cc hc => ?_⟩
  · have hm := lookup_mem hx
    obtain ⟨f, hi, e⟩ := Pg.at_ok (List.all_eq_true.mp t1 _ hm)
    obtain ⟨C, ft⟩ := Pg.callee (P := P) (w := w) (mg := mg) (base := base) ht0 c n ih hi
    refine ⟨_, _, ?_, C, ft⟩
    rw [e]
    exact He.glo_ok X G (List.all_eq_true.mp k1 _ hm)
  · have hm := lookup_mem hx
    have z := List.all_eq_true.mp t2 _ hm
    rw [Bool.and_eq_true] at z
    obtain ⟨f, hi, e⟩ := Pg.at_ok z.1
    have e2 := of_decide_eq_true z.2
    obtain ⟨C, ft⟩ := Pg.callee (P := P) (w := w) (mg := mg) (base := base) ht0 c n ih hi
    have y := List.all_eq_true.mp k2 _ hm
    rw [Bool.and_eq_true] at y
    refine ⟨_, _, ?_, ?_, C, ft⟩
    · show mg x = some (.ref (He.ga K (p.cn cc)))
      rw [e2]
      exact He.glo_ok X G y.1
    · show Mk K (He.ga K (p.cn cc)) (He.fAd K f.d.at_)
      rw [e, e2]
      exact He.mkr_ok y.2
  · have h1 := lookup_mem hm
    have h2 := lookup_mem hc
    obtain ⟨f, hi, e⟩ := Pg.at_ok (List.all_eq_true.mp (List.all_eq_true.mp t3 _ h1) _ h2)
    obtain ⟨C, ft⟩ := Pg.callee (P := P) (w := w) (mg := mg) (base := base) ht0 c n ih hi
    have y := List.all_eq_true.mp (List.all_eq_true.mp k3 _ h1) _ h2
    rw [Bool.and_eq_true] at y
    refine ⟨He.cls_ok y.1, _, _, ?_, C, ft⟩
    show Meth K (He.ga K (p.cn cc)) m (He.fAd K f.d.at_)
    rw [e]
    exact He.meth_ok y.2
  · have h1 := lookup_mem hf
    have z := List.all_eq_true.mp k4 _ h1
    refine ⟨fun c hc => ?_, fun c hc => ?_⟩
    · have y := List.all_eq_true.mp z c hc
      rw [Bool.and_eq_true] at y
      exact He.cls_ok y.1
    · have y := List.all_eq_true.mp z c hc
      rw [Bool.and_eq_true] at y
      exact He.noat_ok y.2
  · have h1 := lookup_mem hx
    have z := List.all_eq_true.mp k5 _ h1
    dsimp only at z
    split at z
    · obtain ⟨t, e⟩ := He.int_ok X G z
      exact ⟨_, .int _, e, ⟨t, rfl⟩, fun _ _ => .int _⟩
    · cases z
  · exact He.free_ok X G (List.all_eq_true.mp k6 x (by simpa using hx))
  · have h1 := lookup_mem hx
    have z := List.all_eq_true.mp t5 _ h1
    simp only [Bool.and_eq_true, decide_eq_true_eq] at z
    obtain ⟨⟨z1, z2⟩, z3⟩ := z
    refine ⟨by
      show mg x = some (.ref (He.ga K (p.cn cc)))
      rw [z1]; exact He.glo_ok X G (List.all_eq_true.mp k9 _ h1), ?_⟩
    split at z3
    · rename_i xx hxx
      simp only [Bool.and_eq_true, decide_eq_true_eq] at z3
      obtain ⟨z4, z5⟩ := z3
      have := Pg.exc (P := P) (w := w) (mg := mg) (base := base) ht0 c X G n ih z2 hxx
      rw [z4] at this
      rw [← z5]
      refine ⟨xx.ps, ?_⟩
      have e9 : (p.sta P w K mg base).CA cc = He.ga K x := by
        show He.ga K (p.cn cc) = _
        rw [z1]
      exact this cc e9
    · cases z3
  · have h1 := lookup_mem hx
    have z := of_decide_eq_true (List.all_eq_true.mp t6 _ h1)
    have y := List.all_eq_true.mp k10 _ h1
    rw [Bool.and_eq_true] at y
    refine ⟨by
      show mg x = some (.ref (He.ga K (p.cn hh)))
      have z' : p.cn hh = x := z
      rw [z']; exact He.glo_ok X G y.1, ⟨fun c0 hc => of_decide_eq_true (List.all_eq_true.mp y.2 c0 hc)⟩⟩
  · have h1 := lookup_mem hx
    have y := List.all_eq_true.mp (List.all_eq_true.mp k11 _ h1) cc hc
    rw [Bool.and_eq_true] at y
    exact ⟨xfB_ok y.1, He.eqO_ok y.2⟩
theorem Pg.tab (ht : p.texts = true) (c : SaysX p P K) (X : K.In h) (G : h.Ns mainGlobals mg) : ∀ n, TabOk (p.sta P w K mg base) (runN p.F n) (2 * n) p.T
  | 0 => Pg.tab_of ht c X G 0 fun m e => by cases e
  | n + 1 => Pg.tab_of ht c X G (n + 1) fun m e => by cases e; exact Pg.tab ht c X G n
end

/-! ### the law -/
/-- the heap's part that the law may look at: the script, if no object of the program is it -/
def scriptH (K : PySem.W.Frag) (a : Addr) (o : Obj) (vs : List V) : Hp := fun b => if b = a ∧ K.lookup a = none then some (.frz o (.lst vs)) else none
theorem law_end {P : Program} {w : World} {K : PySem.W.Frag} {mg mb : Str → Option Value} {k : Nat} {f a : Addr} {fd : FuncData} {x : Str} {sp : Heap → Sp} {s : Shared} {us : List Value} {ns : List Int}
    (hK : K.In s.heap) (h1 : s.heap.Ns mainGlobals mg) (h2 : s.heap.Ns builtinsNs mb) (h3 : ∀ x : Str, x ≠ "__name__" → mb x = bootBuiltins x) (h4 : s.heap.NoLimit) (h5 : s.gens = #[])
    (ha : s.heap.get? a = some { cls := .type "list", data := .seq us.toArray }) (hi : IntsAre us ns) (hl : ns.length ≤ sizeLine) (hr : Room k callerA)
    (F : ∀ base : Heap, K.In base → base.Ns mainGlobals mg → FnG P w K mg base k f fd [x] (sp base)) (hb : ∀ (s : Shared) (u : Value), BindsTo s fd ⟨[u], []⟩ [(x, u)])
    (hs : ∀ (base : Heap) (H : Hp), (∀ b o, H b = some o → ¬ Mut (some o)) → RoL K H a (ns.map V.int) → sp base [.ref a] H (fun v _ => v = .bl true) fun _ _ _ => False) :
    codeAny (model P w) callerA (.call (.ref f) ⟨[.ref a], []⟩) (fun r s' => r = .ok (.ret (.bool true)) ∧ OldK s.heap s'.heap ∧ s'.os = s.os ∧ AllBare s'.gens) s := by
  have rv := vals_ints hi
  generalize hH : scriptH K a { cls := .type "list", data := .seq us.toArray } (ns.map V.int) = H
  have off : ∀ b, b ≠ a → H b = none := fun b q => by
    subst hH
    exact if_neg fun z => q z.1
  have own : ∀ o, K.lookup a = some o → ∀ b, H b = none := fun o q b => by
    subst hH
    exact if_neg fun z => by rw [q] at z; cases z.2
  have at_ : ∀ b u, H b = some u → b = a ∧ K.lookup a = none ∧ u = .frz { cls := .type "list", data := .seq us.toArray } (.lst (ns.map V.int)) := fun b u q => by
    subst hH
    unfold scriptH at q
    split at q
    · rename_i z
      cases q
      exact ⟨z.1, z.2, rfl⟩
    · cases q
  have see : ∀ {b : Addr} {o : Obj}, s.heap.get? b = some o → H b = none → (hidT s.heap H).get? b = some o := fun e n => hidT_get e n
  have ro : RoL K H a (ns.map V.int) := by
    cases q : K.lookup a with
    | none =>
      refine .inl ⟨{ cls := .type "list", data := .seq us.toArray }, ?_⟩
      subst hH
      exact if_pos ⟨rfl, q⟩
    | some o =>
      have e := hK a o q
      rw [ha] at e
      cases e
      exact .inr ⟨_, us.toArray, _, q, rfl, rfl, rfl, by rw [List.size_toArray, hi.length]; exact hl, rv⟩
  have good : HOk P w H s.heap := fun b u q => by
    obtain ⟨rfl, _, rfl⟩ := at_ b u q
    exact ⟨ha, by rw [List.length_map]; exact hl, us, _, rv, ha⟩
  have space : ∀ {b : Addr} {m : Str → Option Value}, s.heap.Ns b m → (hidT s.heap H).Ns b m := fun {b m} ⟨o, es, ep, e, d, r⟩ => by
    refine ⟨o, es, ep, see e ?_, d, r⟩
    cases q : H b with
    | none => rfl
    | some u =>
      obtain ⟨rfl, _⟩ := at_ b u q
      rw [ha] at e
      cases e
      cases (show Data.seq us.toArray _ = Data.dict es ep from d)
  have kin : K.In (hidT s.heap H) := fun b o e => see (hK b o e) (by
    cases q : H b with
    | none => rfl
    | some u =>
      obtain ⟨rfl, z, _⟩ := at_ b u q
      rw [z] at e; cases e)
  have m : Mod K mg (hidT s.heap H) := ⟨kin, space h1, ⟨mb, space h2, h3⟩, by
    obtain ⟨mc, z1, z2⟩ := h4
    exact ⟨mc, space z1, z2⟩⟩
  have env : Env0 P w K mg (hidT s.heap H) callerA [] s H := ⟨rfl, m, fun b o e => of_hidT e, Nat.le_of_eq (hidT_size _ _), trivial, fun b hb => absurd hb List.not_mem_nil, good, .of_eq h5⟩
  refine codeAny_mono ((F _ kin (space h1)).run callerA [] s H ⟨[.ref a], []⟩ [.ref a] [.ref a] _ _ hr rfl env (hb s (.ref a)) (.cons rfl .nil) (hs _ H (fun b u q z => ?_) ro)) fun r s' q => ?_
  · obtain ⟨_, _, rfl⟩ := at_ b u q
    exact z
  · cases r with
    | error e =>
      obtain ⟨_, _, _, _, _, _, _, _, _, _, _, _, _, _, _, _, z⟩ := q
    | ok fl =>
      cases fl with
      | ret u =>
        obtain ⟨v, H', os, bare, un, good', r', z⟩ := q
        cases (show v = .bl true from z)
        cases (show u = Value.bool true from r')
        refine ⟨rfl, OldK.of_keep fun b o e => ?_, os, bare⟩
        cases z2 : H b with
        | none => exact un.keep b o e z2 List.not_mem_nil List.not_mem_nil
        | some u =>
          obtain ⟨rfl, _, rfl⟩ := at_ b u z2
          obtain ⟨e2, _⟩ := good' _ _ (un.frzs _ _ _ z2)
          rw [ha] at e; cases e
          exact e2
      | _ => exact False.elim q
/-- what the plain law is to say: the law's def, of a script of ints, gives True -/
def Pg.Right (p : Pg) (law n : Nat) (most : Nat) : Prop := ∀ ns : List Int, ns.length ≤ most → ∃ L, runN p.F n law [.rol (ns.map D.int)] LH.nil = .ok (.bl true) L
theorem rol_ints {G : Sta} {ms : List Addr} {H : Hp} : ∀ ns : List Int, Reps G ms H (ns.map D.int) (ns.map V.int)
  | [] => .nil
  | n :: ns => .cons (.int n) (rol_ints ns)
theorem Pg.walk {l : PySem.W.OpenLaw} {most n law : Nat} {q : Program} {loose : List Str} {XP : (Str → Option Value) → Heap → Prop} {d : DefRec} {p : Pg} {f : DF} {x : Str} {r : Nat}
    (hn : l.most = some most) (hn2 : most ≤ sizeLine) (hdf : d.params.defaults = []) (hr : Room (2 * n) callerA) (ht : p.texts = true) (hlaw : p.dfs[law]? = some f) (hat : f.d.at_ = (d.name, none)) (hps : f.ps = [x]) (hglo : (p.T.fns.lookup d.name).isSome = true) (right : p.Right law n most) :
    PySem.W.WalkO q loose XP (hookX r p l.prog).says l.row.toRowW d [] (fun f vs => PySem.call f vs) := by
  refine Att.attach_call hn hdf fun w s₀ s₁ mg mb fa o pm cd doc a vs ns G Y ho hd hcd hmg hobj hints hlen hg => ?_
  obtain ⟨K, KX, c⟩ := Y
  have hfa : fa = He.fAd K f.d.at_ := by
    cases e : p.T.fns.lookup d.name with
    | none => rw [e] at hglo; cases hglo
    | some i =>
      have ok := c.fact
      unfold Pg.heapOk at ok
      simp only [Bool.and_eq_true] at ok
      have z := He.glo_ok KX G.T.g (List.all_eq_true.mp ok.1.1.1.1.1.1.1.1.1.1 _ (lookup_mem e))
      rw [hmg] at z
      cases z
      rw [hat]; rfl
  have hd0 : p.fns[law]? = some f.d := by unfold Pg.fns; rw [List.getElem?_map, hlaw]; rfl
  obtain ⟨fd, FD⟩ := c.def_ law hd0
  have bi := (Pg.binds ht hlaw FD).2
  subst hfa
  refine law_end (fd := fd) KX G.T.g G.T.b G.T.builtins G.T.nolimit hg hobj hints (Nat.le_trans hlen hn2) hr (x := x) (sp := fun base => spOf (p.sta l.prog w K mg base) 1 (runN p.F n law)) (fun base kin h1 => ?_) (fun s u => ?_) fun base H hm ro => ?_
  · have z := (Pg.calleeAt (P := l.prog) (w := w) (mg := mg) (base := base) ht n (fun m e => Pg.tab ht c KX G.T.g m) hlaw FD).1
    rw [hps] at z
    exact z
  · have z := bi s [u] (by rw [hps]; rfl)
    rw [hps] at z
    exact z
  · obtain ⟨L, e⟩ := right ns hlen
    have S : Sees (p.sta l.prog w K mg base) [] LH.nil H := ⟨rfl, List.nodup_nil, ⟨fun a h => absurd h List.not_mem_nil⟩, fun n a c h _ => by
      rw [LH.get_ge (Nat.zero_le _)] at h; cases h⟩
    refine ⟨rfl, [], LH.nil, [.rol (ns.map D.int)], S, .cons (.rol ro (rol_ints ns)) .nil, ?_⟩
    rw [e]
    intro ms' H' v _ _ r
    cases r
    rfl
end PD
/-! P14: heaps written twice; the laws' source of choices. -/
namespace PD
open PySem

theorem Tr.put_fuel : ∀ (f g : Nat) (t : Tr) (n : Nat) (c : Cell), n < f → n < g → Tr.put f t n c = Tr.put g t n c
  | 0, _, _, _, _, h, _ => absurd h (Nat.not_lt_zero _)
  | _ + 1, 0, _, _, _, _, h => absurd h (Nat.not_lt_zero _)
  | f + 1, g + 1, t, n, c, h1, h2 => by
    have i1 := fun t (a : ¬ n = 0) => Tr.put_fuel f g t (n / 2) c (by omega) (by omega)
    have i2 := fun t (a : ¬ n = 0) => Tr.put_fuel f g t (n / 2 - 1) c (by omega) (by omega)
    cases t <;> unfold Tr.put <;> by_cases h0 : n = 0 <;> by_cases h3 : n % 2 = 1 <;> simp only [h0, h3, if_true, if_false] <;> first
      | rfl
      | rw [i1 _ h0]
      | rw [i2 _ h0]
theorem Tr.put_same : ∀ (f : Nat) (t : Tr) (n : Nat) (c d : Cell), n < f → Tr.put f (Tr.put f t n c) n d = Tr.put f t n d
  | 0, _, _, _, _, h => absurd h (Nat.not_lt_zero _)
  | f + 1, t, n, c, d, h => by
    have i1 := fun t (a : ¬ n = 0) => Tr.put_same f t (n / 2) c d (by omega)
    have i2 := fun t (a : ¬ n = 0) => Tr.put_same f t (n / 2 - 1) c d (by omega)
    by_cases h0 : n = 0
    · cases t <;> simp [Tr.put, h0]
    · by_cases h3 : n % 2 = 1
      · cases t <;> simp [Tr.put, h0, h3, i1 _ h0]
      · cases t <;> simp [Tr.put, h0, h3, i2 _ h0]
theorem Tr.put_comm : ∀ (f : Nat) (t : Tr) (n m : Nat) (c d : Cell), n ≠ m → n < f → m < f → Tr.put f (Tr.put f t n c) m d = Tr.put f (Tr.put f t m d) n c
  | 0, _, _, _, _, _, _, h, _ => absurd h (Nat.not_lt_zero _)
  | f + 1, t, n, m, c, d, hne, h1, h2 => by
    have i1 := fun t (a : ¬ n = 0) (b : ¬ m = 0) (e : n / 2 ≠ m / 2) => Tr.put_comm f t (n / 2) (m / 2) c d e (by omega) (by omega)
    have i2 := fun t (a : ¬ n = 0) (b : ¬ m = 0) (e : n / 2 - 1 ≠ m / 2 - 1) => Tr.put_comm f t (n / 2 - 1) (m / 2 - 1) c d e (by omega) (by omega)
    by_cases hn : n = 0 <;> by_cases hm : m = 0
    · omega
    · cases t <;> by_cases h3 : m % 2 = 1 <;> simp [Tr.put, hn, hm, h3]
    · cases t <;> by_cases h3 : n % 2 = 1 <;> simp [Tr.put, hn, hm, h3]
    · by_cases h3 : n % 2 = 1 <;> by_cases h4 : m % 2 = 1
      · cases t <;> simp [Tr.put, hn, hm, h3, h4, i1 _ hn hm (by omega)]
      · cases t <;> simp [Tr.put, hn, hm, h3, h4]
      · cases t <;> simp [Tr.put, hn, hm, h3, h4]
      · cases t <;> simp [Tr.put, hn, hm, h3, h4, i2 _ hn hm (by omega)]
theorem LH.put_same (L : LH) (n : Nat) (c d : Cell) : (L.put n c).put n d = L.put n d := by
  unfold LH.put
  dsimp only
  rw [Tr.put_same _ _ _ _ _ (Nat.lt_succ_self _)]
theorem LH.put_comm (L : LH) {n m : Nat} (c d : Cell) (h : n ≠ m) : (L.put n c).put m d = (L.put m d).put n c := by
  unfold LH.put
  dsimp only
  rw [Tr.put_fuel (n + 1) (n + m + 2) _ n c (by omega) (by omega), Tr.put_fuel (m + 1) (n + m + 2) _ m d (by omega) (by omega), Tr.put_comm _ _ _ _ _ _ h (by omega) (by omega),
    Tr.put_fuel (m + 1) (n + m + 2) L.t m d (by omega) (by omega), Tr.put_fuel (n + 1) (n + m + 2) _ n c (by omega) (by omega)]

/-! ### the source of choices: its three defs -/
def sourceFn : Fn := ⟨3, 1, sSeq (sAsg (eC (.int 11)) (gNm 1)) (sSeq (sFor (gNm 2) (iE (eVar 0)) (sSeq (sAsg (e2 oMod (aApp (aCons (e2 oAdd (e2 oAdd (e2 oMul (eVar 1) (eC (.int 69069))) (e2 oMul (eVar 2) (eC (.int 31)))) (eC (.int 5))) aNil) bInt) (eC (.int 2147483629))) (gNm 1)) sNext))
  (sSeq (sRet (eDct [(eC (.str "cells"), e1 oRevL (eLc [2] (iE (eVar 0)) (cTurn (gNm 2) tYesT (aApp (aCons (eVar 2) aNil) bAbs)))), (eC (.str "left"), eC (.int 1)), (eC (.str "mixed"), eVar 1), (eC (.str "turn"), eC (.int 0))])) sNext))⟩
def pickTest : FT := tAnd (tV (e2 oGt (eVar 1) (eC (.int 1)))) (tAnd (tV (e2 oLt (e2 oIx (eVar 0) (eC (.str "left"))) (eC (.int 2)))) (tV (e2 oGt (aApp (aCons (e2 oIx (eVar 0) (eC (.str "cells"))) aNil) bLen) (eC (.int 0)))))
def pickBody : FS := sSeq (sAsg (eBM "list" mPop (e2 oIx (eVar 0) (eC (.str "cells"))) aNil) (gSub (eVar 0) (eC (.str "left")))) sNext
def pickRest : FS := sSeq (sAsg (e2 oIx (eVar 0) (eC (.str "left"))) (gNm 2))
  (sSeq (sIf (tOr (tV (e2 oLt (eVar 1) (eC (.int 2)))) (tV (e2 oGt (eVar 2) (eC (.int 1)))))
    (sSeq (sAsg (e2 oDiv (eVar 2) (aApp (aCons (eC (.int 1)) (aCons (eVar 1) aNil)) bMaxA)) (gSub (eVar 0) (eC (.str "left"))))
      (sSeq (sRet (e2 oMod (aApp (aCons (eVar 2) aNil) bInt) (aApp (aCons (eC (.int 1)) (aCons (eVar 1) aNil)) bMaxA))) sNext)) sNext)
  (sSeq (sAsg (e2 oAdd (e2 oIx (eVar 0) (eC (.str "turn"))) (eC (.int 1))) (gSub (eVar 0) (eC (.str "turn"))))
  (sSeq (sAsg (e2 oMod (aApp (aCons (e2 oAdd (e2 oIx (eVar 0) (eC (.str "mixed"))) (e2 oMul (e2 oIx (eVar 0) (eC (.str "turn"))) (eC (.int 104729)))) aNil) bInt) (eC (.int 998244353))) (gNm 3))
  (sSeq (sAsg (e2 oMod (aApp (aCons (e2 oAdd (e2 oMul (eVar 3) (eVar 3)) (e2 oMul (e2 oIx (eVar 0) (eC (.str "turn"))) (eC (.int 17)))) aNil) bInt) (eC (.int 2147483647))) (gNm 3))
  (sSeq (sAsg (eVar 3) (gSub (eVar 0) (eC (.str "mixed"))))
  (sSeq (sRet (e2 oMod (aApp (aCons (e2 oDiv (eVar 3) (eC (.int 16))) aNil) bInt) (eVar 1))) sNext))))))
def pickFn : Fn := ⟨4, 2, sSeq (sWhile pickTest pickBody) pickRest⟩
def mixedFn (pick : Nat) : Fn := ⟨4, 2, sSeq (sAsg (aApp (aCons (eVar 1) aNil) bLst) (gNm 2)) (sSeq (sRet (eLc [3] (iRange1 (aCons (aApp (aCons (eVar 2) aNil) bLen) aNil)) (cTurn (gNm 3) tYesT (eBM "list" mPop (eVar 2) (aCons (eCall pick (aCons (eVar 0) (aCons (aApp (aCons (eVar 2) aNil) bLen) aNil))) aNil))))) sNext)⟩

def srcKvs (c : Nat) (l m t : Int) : List (D × D) := [(.str "cells", .ref c), (.str "left", .int l), (.str "mixed", .int m), (.str "turn", .int t)]
theorem look_cells {c : Nat} {l m t : Int} : dLook (srcKvs c l m t) (.str "cells") = some (.ref c) := by rfl
theorem look_left {c : Nat} {l m t : Int} : dLook (srcKvs c l m t) (.str "left") = some (.int l) := by rfl
theorem look_mixed {c : Nat} {l m t : Int} : dLook (srcKvs c l m t) (.str "mixed") = some (.int m) := by rfl
theorem look_turn {c : Nat} {l m t : Int} : dLook (srcKvs c l m t) (.str "turn") = some (.int t) := by rfl
theorem put_left {c : Nat} {l m t l' : Int} : dPut (srcKvs c l m t) (.str "left") (.int l') = srcKvs c l' m t := by rfl
theorem put_mixed {c : Nat} {l m t m' : Int} : dPut (srcKvs c l m t) (.str "mixed") (.int m') = srcKvs c l m' t := by rfl
theorem put_turn {c : Nat} {l m t t' : Int} : dPut (srcKvs c l m t) (.str "turn") (.int t') = srcKvs c l m t' := by rfl
theorem fits_src {c : Nat} {l m t : Int} {x : Str} : keyFits (srcKvs c l m t) (.str x) = true := by rfl
theorem len_src {c : Nat} {l m t : Int} : (srcKvs c l m t).length = 4 := rfl
/-- the source at s, its cells at c -/
structure SrcAt (L : LH) (s c : Nat) (zs : List Int) (l m t : Int) : Prop where
  d : L.get s = some (.dct (srcKvs c l m t))
  x : L.get c = some (.lst (zs.map D.int))
theorem SrcAt.ne {L : LH} {s c : Nat} {zs : List Int} {l m t : Int} (h : SrcAt L s c zs l m t) : c ≠ s := fun e => by
  have := h.d
  rw [← e, h.x] at this
  cases this
/-- the source written anew -/
def setSrc (L : LH) (s c : Nat) (zs : List Int) (l m t : Int) : LH := (L.put c (.lst (zs.map D.int))).put s (.dct (srcKvs c l m t))
section
variable {L : LH} {s c : Nat} {zs zs' : List Int} {l m t l' m' t' : Int}
theorem SrcAt.set (h : SrcAt L s c zs l m t) (zs' : List Int) (l' m' t' : Int) : SrcAt (setSrc L s c zs' l' m' t') s c zs' l' m' t' := by
  have h1 := LH.get_lt h.d
  have h2 := LH.get_lt h.x
  refine ⟨?_, ?_⟩
  · unfold setSrc
    rw [LH.get_put _ _ (by rw [LH.put_len]; exact h1), if_pos rfl]
  · unfold setSrc
    rw [LH.get_put _ _ (by rw [LH.put_len]; exact h1), if_neg h.ne, LH.get_put _ _ h2, if_pos rfl]
theorem setSrc_len : (setSrc L s c zs l m t).len = L.len := rfl
theorem setSrc_get (h : SrcAt L s c zs l m t) {n : Nat} (h1 : n ≠ s) (h2 : n ≠ c) : (setSrc L s c zs' l' m' t').get n = L.get n := by
  have a1 := LH.get_lt h.d
  have a2 := LH.get_lt h.x
  unfold setSrc
  rw [LH.get_put _ _ (by rw [LH.put_len]; exact a1), if_neg h1, LH.get_put _ _ a2, if_neg h2]
theorem setSrc_twice (h : c ≠ s) {zs2 : List Int} {l2 m2 t2 : Int} : setSrc (setSrc L s c zs l m t) s c zs2 l2 m2 t2 = setSrc L s c zs2 l2 m2 t2 := by
  unfold setSrc
  rw [LH.put_comm _ _ _ (Ne.symm h), LH.put_same, LH.put_same]
theorem setSrc_put_s (h : c ≠ s) {l2 m2 t2 : Int} : (setSrc L s c zs l m t).put s (.dct (srcKvs c l2 m2 t2)) = setSrc L s c zs l2 m2 t2 := by
  unfold setSrc
  rw [LH.put_same]
theorem setSrc_put_c (h : c ≠ s) : (setSrc L s c zs l m t).put c (.lst (zs'.map D.int)) = setSrc L s c zs' l m t := by
  unfold setSrc
  rw [LH.put_comm _ _ _ (Ne.symm h), LH.put_same]
/-- o['k'] of the source -/
theorem ix_src {k : Str} {d : D} (h : SrcAt L s c zs l m t) (hk : dLook (srcKvs c l m t) (.str k) = some d) : oIx (.ref s) (.str k) L = .ok d L := by
  unfold oIx
  simp only [h.d, fits_src, hk, if_true]
theorem set_src {k : Str} {v : D} {kvs : List (D × D)} (h : SrcAt L s c zs l m t) (hk : dPut (srcKvs c l m t) (.str k) v = kvs) : oSet (.ref s) (.str k) v L = .ok () (L.put s (.dct kvs)) := by
  unfold oSet
  simp only [h.d, fits_src, len_src, hk]
  rfl
theorem put_d (h : SrcAt L s c zs l m t) : setSrc L s c zs l m t = (L.put c (.lst (zs.map D.int))).put s (.dct (srcKvs c l m t)) := rfl
end


theorem Tr.put_id : ∀ (f : Nat) (t : Tr) (n : Nat) (c : Cell), n < f → t.get n = some c → Tr.put f t n c = t
  | 0, _, _, _, h, _ => absurd h (Nat.not_lt_zero _)
  | f + 1, t, n, c, h, g => by
    have i1 := fun t (a : ¬ n = 0) => Tr.put_id f t (n / 2) c (by omega)
    have i2 := fun t (a : ¬ n = 0) => Tr.put_id f t (n / 2 - 1) c (by omega)
    cases t with
    | nil => cases g
    | node l v r =>
      rw [Tr.get_node] at g
      by_cases h0 : n = 0
      · rw [if_pos h0] at g
        simp [Tr.put, h0, g]
      · rw [if_neg h0] at g
        by_cases h3 : n % 2 = 1
        · rw [if_pos h3] at g
          simp [Tr.put, h0, h3, i1 l h0 g]
        · rw [if_neg h3] at g
          simp [Tr.put, h0, h3, i2 r h0 g]
theorem LH.put_id (L : LH) {n : Nat} {c : Cell} (h : L.get n = some c) : L.put n c = L := by
  have h1 := LH.get_lt h
  unfold LH.get at h
  rw [if_pos h1] at h
  unfold LH.put
  rw [Tr.put_id _ _ _ _ (Nat.lt_succ_self _) h]
theorem SrcAt.id {L : LH} {s c : Nat} {zs : List Int} {l m t : Int} (h : SrcAt L s c zs l m t) : setSrc L s c zs l m t = L := by
  unfold setSrc
  rw [LH.put_id L h.x, LH.put_id L h.d]

/-! ### steps -/
section
variable {R : Rec} {ρ ρ1 : Slt} {L L1 : LH} {a b : FS} {e : FE} {g : FG} {d : D} {t : FT} {o : D → LH → Res D} {op : D → D → LH → Res D} {e' : FE}
theorem s_seq (h : a R ρ L = .ok (.nx, ρ1) L1) : sSeq a b R ρ L = b R ρ1 L1 := by unfold sSeq; rw [h]; rfl
theorem s_seq_rt (h : a R ρ L = .ok (.rt d, ρ1) L1) : sSeq a b R ρ L = .ok (.rt d, ρ1) L1 := by unfold sSeq; rw [h]; rfl
theorem s_asg {L2 : LH} (h : e R ρ L = .ok d L1) (h2 : g R d ρ L1 = .ok ρ1 L2) : sAsg e g R ρ L = .ok (.nx, ρ1) L2 := by unfold sAsg; rw [h]; show (g R d ρ L1).st ρ _ = _; rw [h2]; rfl
theorem s_asg_nm {i : Nat} (h : e R ρ L = .ok d L1) : sAsg e (gNm i) R ρ L = .ok (.nx, ρ.set i (some d)) L1 := s_asg h rfl
theorem s_ret (h : e R ρ L = .ok d L1) : sRet e R ρ L = .ok (.rt d, ρ) L1 := by unfold sRet; rw [h]; rfl
theorem s_expr (h : e R ρ L = .ok d L1) : sExpr e R ρ L = .ok (.nx, ρ) L1 := by unfold sExpr; rw [h]; rfl
theorem s_if_t (h : t R ρ L = .ok true L1) : sIf t a b R ρ L = a R ρ L1 := by unfold sIf; rw [h]; rfl
theorem s_if_f (h : t R ρ L = .ok false L1) : sIf t a b R ρ L = b R ρ L1 := by unfold sIf; rw [h]; rfl
theorem x_2 {x y : D} {L2 : LH} (h1 : e R ρ L = .ok x L1) (h2 : e' R ρ L1 = .ok y L2) : e2 op e e' R ρ L = op x y L2 := by unfold e2; rw [h1]; show (e' R ρ L1).bind _ = _; rw [h2]; rfl
end

/-! ### one pick -/
section
variable {L : LH} {s c : Nat} {zs zs' : List Int} {l m t l' m' t' : Int} {R : Rec} {many : Int} {a b : Option D}
theorem len_src2 (h : SrcAt L s c zs l m t) : bLen [.ref c] L = .ok (.int zs.length) L := by
  unfold bLen
  simp only [h.x, List.length_map]
theorem test_eq (h : SrcAt L s c zs l m t) : pickTest R [some (.ref s), some (.int many), a, b] L = .ok (decide (many > 1) && (decide (l < 2) && decide (zs.length > 0))) L := by
  have i1 := ix_src h look_left
  have i2 := ix_src h look_cells
  have i3 := len_src2 h
  have e1 : decide ((0 : Int) < (zs.length : Int)) = decide (zs.length > 0) := by
    by_cases z : zs.length > 0
    · rw [decide_eq_true z, decide_eq_true (by omega)]
    · rw [decide_eq_false z, decide_eq_false (by omega)]
  by_cases h1 : many > 1
  · have h1' : (1 : Int) < many := h1
    by_cases h2 : l < 2
    · simp [pickTest, tAnd, tV, e2, eVar, eC, Res.bind, oGt, oLt, truthD, aApp, aCons, aNil, i1, i2, i3, e1, h1', h2]
    · simp [pickTest, tAnd, tV, e2, eVar, eC, Res.bind, oGt, oLt, truthD, aApp, aCons, aNil, i1, i2, i3, e1, h1', h2]
  · have h1' : ¬ (1 : Int) < many := h1
    simp [pickTest, tAnd, tV, e2, eVar, eC, Res.bind, oGt, oLt, truthD, aApp, aCons, aNil, i1, i2, i3, e1, h1']
theorem body_eq (h : SrcAt L s c zs l m t) (hz : zs ≠ []) : pickBody R [some (.ref s), some (.int many), a, b] L = .ok (.nx, [some (.ref s), some (.int many), a, b]) (setSrc L s c zs.dropLast (zs.getLast hz) m t) := by
  have i2 := ix_src h look_cells
  have hx : (zs.map D.int)[(zs.map D.int).length - 1]? = some (.int (zs.getLast hz)) := by
    rw [← List.getLast?_eq_getElem?, List.getLast?_map, List.getLast?_eq_some_getLast hz]; rfl
  have p1 : mPop (.ref c) [] L = .ok (.int (zs.getLast hz)) (setSrc L s c zs.dropLast l m t) := by
    unfold mPop
    simp only [h.x, hx, List.map_dropLast]
    rw [← List.map_dropLast, ← setSrc_put_c h.ne (zs := zs) (l := l) (m := m) (t := t), h.id]
  have e1 : eBM "list" mPop (e2 oIx (eVar 0) (eC (.str "cells"))) aNil R [some (.ref s), some (.int many), a, b] L = .ok (.int (zs.getLast hz)) (setSrc L s c zs.dropLast l m t) := by
    have t1 : tyIs "list" (.ref c) L = true := by unfold tyIs; simp only [h.x]; rfl
    simp [eBM, e2, eVar, eC, i2, Res.bind, t1, aNil, p1, noExc]
  have e3 := set_src (h.set zs.dropLast l m t) (put_left (l' := zs.getLast hz))
  unfold pickBody
  refine (s_seq (s_asg e1 (ρ1 := [some (.ref s), some (.int many), a, b]) (L2 := setSrc L s c zs.dropLast (zs.getLast hz) m t) ?_)).trans rfl
  simp [gSub, eVar, eC, Res.bind, e3, setSrc_put_s h.ne]
theorem loop_eq : ∀ (k : Nat) (zs : List Int) (l : Int) (L : LH), SrcAt L s c zs l m t → zs.length < k → ∃ zs' l', whileN (pickTest R) (pickBody R) k [some (.ref s), some (.int many), a, b] L = .ok (.nx, [some (.ref s), some (.int many), a, b]) (setSrc L s c zs' l' m t) ∧ zs'.length ≤ zs.length
  | 0, _, _, _, _, h => absurd h (Nat.not_lt_zero _)
  | k + 1, zs, l, L, h, hk => by
    unfold whileN
    rw [test_eq h]
    by_cases hc : (decide (many > 1) && (decide (l < 2) && decide (zs.length > 0))) = true
    · rw [hc]
      have hz : zs ≠ [] := by
        intro e; rw [e] at hc; simp at hc
      have ih := loop_eq k zs.dropLast (zs.getLast hz) _ (h.set zs.dropLast (zs.getLast hz) m t) (by rw [List.length_dropLast]; have := List.length_pos_iff.2 hz; omega)
      obtain ⟨zs', l', e, hl⟩ := ih
      refine ⟨zs', l', ?_, by rw [List.length_dropLast] at hl; omega⟩
      show (pickBody R _ L).bind _ = _
      rw [body_eq h hz]
      refine Eq.trans e ?_
      rw [setSrc_twice h.ne]
    · rw [Bool.eq_false_iff.2 hc]
      refine ⟨zs, l, ?_, Nat.le_refl _⟩
      rw [h.id]
      rfl
theorem max_1 {many : Int} : (if many > 1 then many else 1) = max 1 many := by
  by_cases h : many > 1
  · rw [if_pos h]; omega
  · rw [if_neg h]; omega
theorem pick_ok (h : SrcAt L s c zs l m t) (hm : many < 1073741824) (h1 : zs.length < fuel) : ∃ r zs' l' m' t', pickFn.run R [.ref s, .int many] L = .ok (.int r) (setSrc L s c zs' l' m' t') ∧ 0 ≤ r ∧ r < max 1 many ∧ zs'.length ≤ zs.length := by
  obtain ⟨zs1, l1, e1, hl1⟩ := loop_eq (R := R) (many := many) (a := none) (b := none) fuel zs l L h h1
  have H1 := h.set zs1 l1 m t
  have il := ix_src H1 look_left
  have im := ix_src H1 look_mixed
  have it := ix_src H1 look_turn
  have body : ∃ r zs' l' m' t' ρ, (sSeq (sWhile pickTest pickBody) pickRest) R [some (.ref s), some (.int many), none, none] L = .ok (.rt (.int r), ρ) (setSrc L s c zs' l' m' t') ∧ 0 ≤ r ∧ r < max 1 many ∧ zs'.length ≤ zs.length := by
    rw [show (sSeq (sWhile pickTest pickBody) pickRest) R [some (.ref s), some (.int many), none, none] L = pickRest R [some (.ref s), some (.int many), none, none] (setSrc L s c zs1 l1 m t) from s_seq e1]
    have q1 : sAsg (e2 oIx (eVar 0) (eC (.str "left"))) (gNm 2) R [some (.ref s), some (.int many), none, none] (setSrc L s c zs1 l1 m t) = .ok (.nx, [some (.ref s), some (.int many), some (.int l1), none]) (setSrc L s c zs1 l1 m t) := s_asg_nm (by simp [e2, eVar, eC, Res.bind, il])
    have hpos : 0 < max 1 many := by omega
    have hlt : max 1 many < 1073741824 := by omega
    by_cases hc : many < 2 ∨ l1 > 1
    · have q2 : tOr (tV (e2 oLt (eVar 1) (eC (.int 2)))) (tV (e2 oGt (eVar 2) (eC (.int 1)))) R [some (.ref s), some (.int many), some (.int l1), none] (setSrc L s c zs1 l1 m t) = .ok true (setSrc L s c zs1 l1 m t) := by
        by_cases h2 : many < 2
        · simp [tOr, tV, e2, eVar, eC, Res.bind, oLt, oGt, truthD, h2]
        · have h3 : (1 : Int) < l1 := hc.resolve_left h2
          simp [tOr, tV, e2, eVar, eC, Res.bind, oLt, oGt, truthD, h2, h3]
      have e3 := set_src H1 (put_left (l' := l1 / max 1 many))
      have q3 : sAsg (e2 oDiv (eVar 2) (aApp (aCons (eC (.int 1)) (aCons (eVar 1) aNil)) bMaxA)) (gSub (eVar 0) (eC (.str "left"))) R [some (.ref s), some (.int many), some (.int l1), none] (setSrc L s c zs1 l1 m t) = .ok (.nx, [some (.ref s), some (.int many), some (.int l1), none]) (setSrc L s c zs1 (l1 / max 1 many) m t) := by
        refine s_asg (d := .int (l1 / max 1 many)) (L1 := setSrc L s c zs1 l1 m t) ?_ ?_
        · simp [e2, eVar, eC, Res.bind, aApp, aCons, aNil, bMaxA, bMax, max_1, oDiv, hpos, hlt]
        · simp [gSub, eVar, eC, Res.bind, e3, setSrc_put_s h.ne]
      refine ⟨l1 % max 1 many, zs1, l1 / max 1 many, m, t, [some (.ref s), some (.int many), some (.int l1), none], ?_, Int.emod_nonneg _ (by omega), Int.emod_lt_of_pos _ hpos, hl1⟩
      unfold pickRest
      rw [s_seq q1]
      refine s_seq_rt ?_
      rw [s_if_t q2, s_seq q3]
      refine s_seq_rt (s_ret ?_)
      simp [e2, eVar, eC, Res.bind, aApp, aCons, aNil, bInt, bMaxA, bMax, max_1, oMod, hpos]
    · have h2 : ¬ many < 2 := fun x => hc (Or.inl x)
      have h3 : ¬ (1 : Int) < l1 := fun x => hc (Or.inr x)
      have q2 : tOr (tV (e2 oLt (eVar 1) (eC (.int 2)))) (tV (e2 oGt (eVar 2) (eC (.int 1)))) R [some (.ref s), some (.int many), some (.int l1), none] (setSrc L s c zs1 l1 m t) = .ok false (setSrc L s c zs1 l1 m t) := by
        simp [tOr, tV, e2, eVar, eC, Res.bind, oLt, oGt, truthD, h2, h3]
      have e3 := set_src H1 (put_turn (t' := t + 1))
      have q3 : sAsg (e2 oAdd (e2 oIx (eVar 0) (eC (.str "turn"))) (eC (.int 1))) (gSub (eVar 0) (eC (.str "turn"))) R [some (.ref s), some (.int many), some (.int l1), none] (setSrc L s c zs1 l1 m t) = .ok (.nx, [some (.ref s), some (.int many), some (.int l1), none]) (setSrc L s c zs1 l1 m (t + 1)) := by
        refine s_asg (d := .int (t + 1)) (L1 := setSrc L s c zs1 l1 m t) ?_ ?_
        · simp [e2, eVar, eC, Res.bind, it, oAdd]
        · simp [gSub, eVar, eC, Res.bind, e3, setSrc_put_s h.ne]
      have H2 := h.set zs1 l1 m (t + 1)
      have im2 := ix_src H2 look_mixed
      have it2 := ix_src H2 look_turn
      have q4 : sAsg (e2 oMod (aApp (aCons (e2 oAdd (e2 oIx (eVar 0) (eC (.str "mixed"))) (e2 oMul (e2 oIx (eVar 0) (eC (.str "turn"))) (eC (.int 104729)))) aNil) bInt) (eC (.int 998244353))) (gNm 3) R [some (.ref s), some (.int many), some (.int l1), none] (setSrc L s c zs1 l1 m (t + 1)) = .ok (.nx, [some (.ref s), some (.int many), some (.int l1), some (.int ((m + (t + 1) * 104729) % 998244353))]) (setSrc L s c zs1 l1 m (t + 1)) :=
        s_asg_nm (by simp [e2, eVar, eC, Res.bind, aApp, aCons, aNil, bInt, im2, it2, oAdd, oMul, oMod, big64])
      have b1 : 0 ≤ (m + (t + 1) * 104729) % 998244353 := Int.emod_nonneg _ (by omega)
      have b2 : (m + (t + 1) * 104729) % 998244353 < 998244353 := Int.emod_lt_of_pos _ (by omega)
      generalize (m + (t + 1) * 104729) % 998244353 = w at q4 b1 b2
      have q5 : sAsg (e2 oMod (aApp (aCons (e2 oAdd (e2 oMul (eVar 3) (eVar 3)) (e2 oMul (e2 oIx (eVar 0) (eC (.str "turn"))) (eC (.int 17)))) aNil) bInt) (eC (.int 2147483647))) (gNm 3) R [some (.ref s), some (.int many), some (.int l1), some (.int w)] (setSrc L s c zs1 l1 m (t + 1)) = .ok (.nx, [some (.ref s), some (.int many), some (.int l1), some (.int ((w * w + (t + 1) * 17) % 2147483647))]) (setSrc L s c zs1 l1 m (t + 1)) := by
        have hw : -18446744073709551616 < w ∧ w < 18446744073709551616 := by omega
        exact s_asg_nm (by simp [e2, eVar, eC, Res.bind, aApp, aCons, aNil, bInt, it2, oAdd, oMul, oMod, hw, big64])
      generalize (w * w + (t + 1) * 17) % 2147483647 = w2 at q5
      have e4 := set_src H2 (put_mixed (m' := w2))
      have q6 : sAsg (eVar 3) (gSub (eVar 0) (eC (.str "mixed"))) R [some (.ref s), some (.int many), some (.int l1), some (.int w2)] (setSrc L s c zs1 l1 m (t + 1)) = .ok (.nx, [some (.ref s), some (.int many), some (.int l1), some (.int w2)]) (setSrc L s c zs1 l1 w2 (t + 1)) := by
        refine s_asg (d := .int w2) (L1 := setSrc L s c zs1 l1 m (t + 1)) ?_ ?_
        · simp [eVar]
        · simp [gSub, eVar, eC, Res.bind, e4, setSrc_put_s h.ne]
      have hp : 0 < many := by omega
      refine ⟨w2 / 16 % many, zs1, l1, w2, t + 1, [some (.ref s), some (.int many), some (.int l1), some (.int w2)], ?_, Int.emod_nonneg _ (by omega), ?_, hl1⟩
      · unfold pickRest
        rw [s_seq q1, s_seq (s_if_f q2), s_seq q3, s_seq q4, s_seq q5, s_seq q6]
        refine s_seq_rt (s_ret ?_)
        simp [e2, eVar, eC, Res.bind, aApp, aCons, aNil, bInt, oDiv, oMod, hp]
      · have := Int.emod_lt_of_pos (w2 / 16) hp
        omega
  obtain ⟨r, zs', l', m', t', ρ, e, hr⟩ := body
  refine ⟨r, zs', l', m', t', ?_, hr⟩
  unfold Fn.run
  rw [if_pos (show [D.ref s, D.int many].length = pickFn.pars from rfl)]
  show (noExc ((sSeq (sWhile pickTest pickBody) pickRest) R [some (.ref s), some (.int many), none, none] L)).bind _ = _
  rw [e]
  rfl
end
end PD
/-! P15: the source made; a list mixed. -/
namespace PD
open PySem

theorem LH.push_put (L : LH) {n : Nat} (c d : Cell) (h : n < L.len) : (L.push c).put n d = (L.put n d).push c := by
  unfold LH.put LH.push
  dsimp only
  rw [Tr.put_fuel (L.len + 1) (n + L.len + 2) L.t L.len c (by omega) (by omega), Tr.put_fuel (n + 1) (n + L.len + 2) _ n d (by omega) (by omega),
    Tr.put_comm _ _ _ _ _ _ (by omega) (by omega) (by omega), Tr.put_fuel (n + 1) (n + L.len + 2) L.t n d (by omega) (by omega), Tr.put_fuel (L.len + 1) (n + L.len + 2) _ L.len c (by omega) (by omega)]
theorem LH.push_put_new (L : LH) (c d : Cell) : (L.push c).put L.len d = L.push d := by
  unfold LH.put LH.push
  dsimp only
  rw [Tr.put_same _ _ _ _ _ (Nat.lt_succ_self _)]
section
variable {L : LH} {s c : Nat} {zs zs' : List Int} {l m t l' m' t' : Int}
theorem setSrc_push (h : SrcAt L s c zs l m t) (x : Cell) : setSrc (L.push x) s c zs' l' m' t' = (setSrc L s c zs' l' m' t').push x := by
  unfold setSrc
  rw [LH.push_put _ _ _ (LH.get_lt h.x), LH.push_put _ _ _ (by rw [LH.put_len]; exact LH.get_lt h.d)]
theorem SrcAt.push (h : SrcAt L s c zs l m t) (x : Cell) : SrcAt (L.push x) s c zs l m t := by
  have h1 := LH.get_lt h.d
  have h2 := LH.get_lt h.x
  exact ⟨by rw [LH.get_push, if_neg (by omega)]; exact h.d, by rw [LH.get_push, if_neg (by omega)]; exact h.x⟩
end

/-! ### the source -/
theorem rol_loop {R : Rec} {r : D} : ∀ (ns : List Int) (m : Int) (x : Option D) (L : LH), ∃ m' x', forPur (fun x ρ1 M => (gNm 2 R x ρ1 M).st ρ1 fun ρ2 M1 => (sSeq (sAsg (e2 oMod (aApp (aCons (e2 oAdd (e2 oAdd (e2 oMul (eVar 1) (eC (.int 69069))) (e2 oMul (eVar 2) (eC (.int 31)))) (eC (.int 5))) aNil) bInt) (eC (.int 2147483629))) (gNm 1)) sNext) R ρ2 M1) (ns.map D.int) [some r, some (.int m), x] L = .ok (.nx, [some r, some (.int m'), x']) L
  | [], m, x, L => ⟨m, x, rfl⟩
  | n :: ns, m, x, L => by
    obtain ⟨m', x', e⟩ := rol_loop (R := R) (r := r) ns ((m * 69069 + n * 31 + 5) % 2147483629) (some (.int n)) L
    refine ⟨m', x', ?_⟩
    rw [List.map_cons]
    unfold forPur
    have q : ((gNm 2 R (.int n) [some r, some (.int m), x] L).st [some r, some (.int m), x] fun ρ2 M1 => (sSeq (sAsg (e2 oMod (aApp (aCons (e2 oAdd (e2 oAdd (e2 oMul (eVar 1) (eC (.int 69069))) (e2 oMul (eVar 2) (eC (.int 31)))) (eC (.int 5))) aNil) bInt) (eC (.int 2147483629))) (gNm 1)) sNext) R ρ2 M1) = .ok (.nx, [some r, some (.int ((m * 69069 + n * 31 + 5) % 2147483629)), some (.int n)]) L := by
      show (sSeq _ sNext) R [some r, some (.int m), some (.int n)] L = _
      rw [s_seq (s_asg_nm (d := .int ((m * 69069 + n * 31 + 5) % 2147483629)) (L1 := L) (by simp [e2, eVar, eC, Res.bind, aApp, aCons, aNil, bInt, oAdd, oMul, oMod, big64]))]
      rfl
    rw [q]
    exact e
theorem abs_lc {R : Rec} {r : D} {y z : Option D} : ∀ (ns : List Int) (acc : List D) (L : LH), acc.length + ns.length < sizeLine → ∃ zs : List Int, zs.length = ns.length ∧ lcPur (fun x M => cTurn (gNm 2) tYesT (aApp (aCons (eVar 2) aNil) bAbs) R x (wipeE [some r, y, z] [2]) M) (ns.map D.int) acc L = .ok (acc ++ zs.map D.int) L
  | [], acc, L, _ => ⟨[], rfl, by rw [List.map_nil, List.append_nil]; rfl⟩
  | n :: ns, acc, L, h => by
    rw [List.length_cons] at h
    obtain ⟨zs, hl, e⟩ := abs_lc (R := R) (r := r) (y := y) (z := z) ns (acc ++ [.int (if n < 0 then -n else n)]) L (by rw [List.length_append, List.length_singleton]; omega)
    refine ⟨(if n < 0 then -n else n) :: zs, by rw [List.length_cons, List.length_cons, hl], ?_⟩
    rw [List.map_cons]
    unfold lcPur
    rw [show cTurn (gNm 2) tYesT (aApp (aCons (eVar 2) aNil) bAbs) R (.int n) (wipeE [some r, y, z] [2]) L = .ok (some (.int (if n < 0 then -n else n))) L from rfl]
    show (if acc.length < sizeLine then _ else _) = _
    rw [if_pos (by omega), e, List.map_cons, List.append_assoc]
    rfl
/-- the source made -/
def newSrc (L : LH) (xs : List D) (zs : List Int) (m : Int) : LH := ((L.push (.lst xs)).push (.lst (zs.map D.int))).push (.dct (srcKvs (L.len + 1) 1 m 0))
theorem newSrc_at {L : LH} {xs : List D} {zs : List Int} {m : Int} : SrcAt (newSrc L xs zs m) (L.len + 2) (L.len + 1) zs 1 m 0 := by
  refine ⟨?_, ?_⟩
  · simp [newSrc, LH.get_push, LH.push_len]
  · simp [newSrc, LH.get_push, LH.push_len]
theorem source_ok (R : Rec) (ns : List Int) (L : LH) (h : ns.length < sizeLine) : ∃ xs zs m, zs.length = ns.length ∧ sourceFn.run R [.rol (ns.map D.int)] L = .ok (.ref (L.len + 2)) (newSrc L xs zs m) := by
  obtain ⟨m, x, e1'⟩ := rol_loop (R := R) (r := .rol (ns.map D.int)) ns 11 none L
  obtain ⟨zs, hl, e2'⟩ := abs_lc (R := R) (r := .rol (ns.map D.int)) (y := some (.int m)) (z := x) ns [] L (by simpa using h)
  refine ⟨zs.map D.int, zs.reverse, m, by rw [List.length_reverse, hl], ?_⟩
  unfold Fn.run
  rw [if_pos (show [D.rol (ns.map D.int)].length = sourceFn.pars from rfl)]
  have q1 : sAsg (eC (.int 11)) (gNm 1) R [some (.rol (ns.map D.int)), none, none] L = .ok (.nx, [some (.rol (ns.map D.int)), some (.int 11), none]) L := rfl
  have q3 : e1 oRevL (eLc [2] (iE (eVar 0)) (cTurn (gNm 2) tYesT (aApp (aCons (eVar 2) aNil) bAbs))) R [some (.rol (ns.map D.int)), some (.int m), x] L = .ok (.ref (L.len + 1)) ((L.push (.lst (zs.map D.int))).push (.lst (zs.reverse.map D.int))) := by
    have q4 : eLc [2] (iE (eVar 0)) (cTurn (gNm 2) tYesT (aApp (aCons (eVar 2) aNil) bAbs)) R [some (.rol (ns.map D.int)), some (.int m), x] L = .ok (.ref L.len) (L.push (.lst (zs.map D.int))) := by
      show (lcPur _ (ns.map D.int) [] L).bind _ = _
      rw [e2']
      rfl
    unfold e1
    rw [q4]
    show oRevL (.ref L.len) (L.push (.lst (zs.map D.int))) = _
    unfold oRevL
    simp only [LH.get_push, if_pos, List.map_reverse, LH.push_len]
  rw [show (List.map some [D.rol (ns.map D.int)] ++ List.replicate (sourceFn.slots - sourceFn.pars) none) = [some (.rol (ns.map D.int)), none, none] from rfl]
  unfold sourceFn
  dsimp only
  rw [s_seq q1, s_seq (ρ1 := [some (.rol (ns.map D.int)), some (.int m), x]) (L1 := L) e1']
  have q5 : eDct [(eC (.str "cells"), e1 oRevL (eLc [2] (iE (eVar 0)) (cTurn (gNm 2) tYesT (aApp (aCons (eVar 2) aNil) bAbs)))), (eC (.str "left"), eC (.int 1)), (eC (.str "mixed"), eVar 1), (eC (.str "turn"), eC (.int 0))] R [some (.rol (ns.map D.int)), some (.int m), x] L = .ok (.ref (L.len + 2)) (newSrc L (zs.map D.int) zs.reverse m) := by
    unfold eDct
    have q6 : pPairs [(eC (.str "cells"), e1 oRevL (eLc [2] (iE (eVar 0)) (cTurn (gNm 2) tYesT (aApp (aCons (eVar 2) aNil) bAbs)))), (eC (.str "left"), eC (.int 1)), (eC (.str "mixed"), eVar 1), (eC (.str "turn"), eC (.int 0))] R [some (.rol (ns.map D.int)), some (.int m), x] L = .ok (srcKvs (L.len + 1) 1 m 0) ((L.push (.lst (zs.map D.int))).push (.lst (zs.reverse.map D.int))) := by
      unfold pPairs
      show ((e1 oRevL _ R _ L).bind _) = _
      rw [q3]
      rfl
    rw [q6]
    rfl
  rw [s_seq_rt (s_ret q5)]
  rfl

/-! ### a list mixed -/
theorem perm_erase {α : Type} : ∀ (l : List α) (i : Nat) (h : i < l.length), (l[i] :: l.eraseIdx i).Perm l
  | [], _, h => absurd h (Nat.not_lt_zero _)
  | a :: l, 0, _ => List.Perm.refl _
  | a :: l, i + 1, h => ((List.Perm.swap a (l[i]'(Nat.lt_of_succ_lt_succ h)) (l.eraseIdx i))).trans ((perm_erase l i (Nat.lt_of_succ_lt_succ h)).cons a)
section
variable {L : LH} {s c : Nat} {R R' : Rec} {p : Nat} {td : D}
abbrev mixTurn (p : Nat) : FC := cTurn (gNm 3) tYesT (eBM "list" mPop (eVar 2) (aCons (eCall p (aCons (eVar 0) (aCons (aApp (aCons (eVar 2) aNil) bLen) aNil))) aNil))
theorem mix_step (hR : ∀ as M, R p as M = pickFn.run R' as M) {z0 zs : List Int} {l0 m0 t0 l m t : Int} (h : SrcAt L s c z0 l0 m0 t0) (hz : zs.length < fuel) (rest : List D) (hr : rest ≠ []) (hb : rest.length < 1073741824) (x : D) :
    ∃ y rest' zs' l' m' t', mixTurn p R x [some (.ref s), some td, some (.ref L.len), none] ((setSrc L s c zs l m t).push (.lst rest)) = .ok (some y) ((setSrc L s c zs' l' m' t').push (.lst rest')) ∧ (y :: rest').Perm rest ∧ zs'.length ≤ zs.length := by
  have hM := (h.set zs l m t).push (.lst rest)
  obtain ⟨r, zs', l', m', t', e, r0, r1, hl⟩ := pick_ok (R := R') hM (many := (rest.length : Int)) (by omega) hz
  rw [setSrc_push (h.set zs l m t), setSrc_twice h.ne] at e
  have hp : 0 < rest.length := List.length_pos_iff.2 hr
  have hlt : r.toNat < rest.length := by omega
  refine ⟨rest[r.toNat], rest.eraseIdx r.toNat, zs', l', m', t', ?_, perm_erase rest r.toNat hlt, hl⟩
  have g1 : ((setSrc L s c zs l m t).push (.lst rest)).get L.len = some (.lst rest) := by rw [LH.get_push, if_pos setSrc_len.symm]
  have g2 : ((setSrc L s c zs' l' m' t').push (.lst rest)).get L.len = some (.lst rest) := by rw [LH.get_push, if_pos setSrc_len.symm]
  have t1 : tyIs "list" (.ref L.len) ((setSrc L s c zs l m t).push (.lst rest)) = true := by unfold tyIs; simp only [g1]; rfl
  have b1 : bLen [.ref L.len] ((setSrc L s c zs l m t).push (.lst rest)) = .ok (.int rest.length) ((setSrc L s c zs l m t).push (.lst rest)) := by unfold bLen; simp only [g1]
  have e2 : R p [.ref s, .int rest.length] ((setSrc L s c zs l m t).push (.lst rest)) = .ok (.int r) ((setSrc L s c zs' l' m' t').push (.lst rest)) := by rw [hR]; exact e
  have p1 : mPop (.ref L.len) [.int r] ((setSrc L s c zs' l' m' t').push (.lst rest)) = .ok rest[r.toNat] ((setSrc L s c zs' l' m' t').push (.lst (rest.eraseIdx r.toNat))) := by
    unfold mPop
    have i1 : ixOf rest.length r = some r.toNat := by unfold ixOf; rw [if_pos r0, if_pos (by omega)]
    have i2 : -(2 ^ 63) ≤ r ∧ r < 2 ^ 63 := by omega
    simp only [g2]
    rw [if_pos i2, i1]
    simp only [List.getElem?_eq_getElem hlt]
    rw [show ((setSrc L s c zs' l' m' t').push (.lst rest)).put L.len (.lst (rest.eraseIdx r.toNat)) = _ from LH.push_put_new (setSrc L s c zs' l' m' t') _ _]
  simp [mixTurn, cTurn, gNm, tYesT, eBM, eCall, eVar, aCons, aNil, aApp, Res.bind, t1, b1, e2, p1, noExc]
theorem mix_lc (hR : ∀ as M, R p as M = pickFn.run R' as M) {z0 : List Int} {l0 m0 t0 : Int} (h : SrcAt L s c z0 l0 m0 t0) : ∀ (xs : List D) (acc rest : List D) (zs : List Int) (l m t : Int), zs.length < fuel → rest.length < 1073741824 → xs.length = rest.length → acc.length + rest.length ≤ sizeLine →
    ∃ ys zs' l' m' t', lcPur (fun x M => mixTurn p R x [some (.ref s), some td, some (.ref L.len), none] M) xs acc ((setSrc L s c zs l m t).push (.lst rest)) = .ok (acc ++ ys) ((setSrc L s c zs' l' m' t').push (.lst [])) ∧ ys.Perm rest ∧ zs'.length ≤ zs.length
  | [], acc, rest, zs, l, m, t, hz, hb, hx, hs => by
    have e : rest = [] := List.eq_nil_of_length_eq_zero hx.symm
    subst e
    exact ⟨[], zs, l, m, t, by rw [List.append_nil]; rfl, List.Perm.refl _, Nat.le_refl _⟩
  | x :: xs, acc, rest, zs, l, m, t, hz, hb, hx, hs => by
    have hr : rest ≠ [] := by intro e; rw [e] at hx; cases hx
    obtain ⟨y, rest', zs1, l1, m1, t1, e1, hp, hl⟩ := mix_step (td := td) hR h hz rest hr hb x
    have hlen : rest'.length + 1 = rest.length := by rw [← hp.length_eq]; rfl
    rw [List.length_cons] at hx
    obtain ⟨ys, zs', l', m', t', e2, hp2, hl2⟩ := mix_lc hR h xs (acc ++ [y]) rest' zs1 l1 m1 t1 (by omega) (by omega) (by omega) (by rw [List.length_append, List.length_singleton]; omega)
    refine ⟨y :: ys, zs', l', m', t', ?_, (hp2.cons y).trans hp, by omega⟩
    unfold lcPur
    rw [e1]
    show (if acc.length < sizeLine then _ else _) = _
    rw [if_pos (by omega), e2, List.append_assoc]
    rfl
theorem mixed_ok (hR : ∀ as M, R p as M = pickFn.run R' as M) {z0 : List Int} {l0 m0 t0 : Int} (h : SrcAt L s c z0 l0 m0 t0) (hz : z0.length < fuel) (things : List D) (hb : things.length ≤ 1000000) (ht : bLst [td] L = .ok (.ref L.len) (L.push (.lst things))) :
    ∃ ys zs' l' m' t', (mixedFn p).run R [.ref s, td] L = .ok (.ref (L.len + 1)) (((setSrc L s c zs' l' m' t').push (.lst [])).push (.lst ys)) ∧ ys.Perm things ∧ zs'.length ≤ z0.length := by
  obtain ⟨ys, zs', l', m', t', e, hp, hl⟩ := mix_lc (td := td) hR h (rgInts 0 things.length) [] things z0 l0 m0 t0 hz (by omega) (by unfold rgInts; rw [List.length_map, List.length_range]) (by show _ ≤ sizeLine; unfold sizeLine; simp; omega)
  rw [h.id] at e
  refine ⟨ys, zs', l', m', t', ?_, hp, hl⟩
  unfold Fn.run
  rw [if_pos (show [D.ref s, td].length = (mixedFn p).pars from rfl)]
  have q1 : sAsg (aApp (aCons (eVar 1) aNil) bLst) (gNm 2) R [some (.ref s), some td, none, none] L = .ok (.nx, [some (.ref s), some td, some (.ref L.len), none]) (L.push (.lst things)) := s_asg_nm (by simp [aApp, aCons, aNil, eVar, Res.bind, ht])
  have g1 : (L.push (.lst things)).get L.len = some (.lst things) := by rw [LH.get_push, if_pos rfl]
  have q2 : iRange1 (aCons (aApp (aCons (eVar 2) aNil) bLen) aNil) R [some (.ref s), some td, some (.ref L.len), none] (L.push (.lst things)) = .ok (.pur (rgInts 0 things.length)) (L.push (.lst things)) := by
    have i : in62 (things.length : Int) = true := by
      unfold in62
      rw [decide_eq_true (show -(2 ^ 62) ≤ (things.length : Int) by omega), decide_eq_true (show (things.length : Int) < 2 ^ 62 by omega)]
      rfl
    simp [iRange1, aApp, aCons, aNil, eVar, Res.bind, bLen, g1, i]
  have q3 : eLc [3] (iRange1 (aCons (aApp (aCons (eVar 2) aNil) bLen) aNil)) (mixTurn p) R [some (.ref s), some td, some (.ref L.len), none] (L.push (.lst things)) = .ok (.ref (L.len + 1)) (((setSrc L s c zs' l' m' t').push (.lst [])).push (.lst ys)) := by
    unfold eLc
    rw [q2]
    show (lcPur _ _ [] _).bind _ = _
    rw [show lcPur (fun x M => mixTurn p R x (wipeE [some (.ref s), some td, some (.ref L.len), none] [3]) M) (rgInts 0 things.length) [] (L.push (.lst things)) = _ from e]
    rfl
  show (noExc (sSeq _ _ R [some (.ref s), some td, none, none] L)).bind _ = _
  rw [s_seq q1, s_seq_rt (s_ret q3)]
  rfl
end
end PD
namespace PD
open PySem
/-! ### a def run in pieces -/
def isNx : Res (Fl × Slt) → Bool
  | .ok (.nx, _) _ => true
  | _ => false
def gS : Res (Fl × Slt) → Slt
  | .ok (_, ρ) _ => ρ
  | _ => []
def gL {α : Type} : Res α → LH
  | .ok _ L => L
  | _ => LH.nil
theorem isNx_eq {r : Res (Fl × Slt)} (h : isNx r = true) : r = .ok (.nx, gS r) (gL r) := by
  unfold isNx at h
  split at h
  · rfl
  · cases h
def isT : Res D → Bool
  | .ok (.bl true) _ => true
  | _ => false
theorem isT_eq {r : Res D} (h : isT r = true) : ∃ L, r = .ok (.bl true) L := by
  unfold isT at h
  split at h
  · exact ⟨_, rfl⟩
  · cases h
/-- what a def answers, its body run -/
def fin (r : Res (Fl × Slt)) : Res D := (noExc r).bind fun p L1 => match p.1 with
  | .rt d => .ok d L1
  | .nx => .ok .non L1
  | .ex c fs => .exc c fs L1
  | _ => .bad
theorem cB_app {f : Stmt → FS} {R : Rec} {ρ ρ1 : Slt} {L L1 : LH} : ∀ {a b : List Stmt}, cB f a R ρ L = .ok (.nx, ρ1) L1 → cB f (a ++ b) R ρ L = cB f b R ρ1 L1
  | [], b, h => by cases h; rfl
  | s :: a, b, h => by
    show sSeq (f s) (cB f (a ++ b)) R ρ L = _
    have h' : sSeq (f s) (cB f a) R ρ L = _ := h
    unfold sSeq at h' ⊢
    cases e : f s R ρ L with
    | ok x M =>
      rw [e] at h'
      obtain ⟨fl, ρ2⟩ := x
      cases fl <;> first
        | exact cB_app h'
        | cases h'
    | exc c fs M => rw [e] at h'; cases h'
    | bad => rw [e] at h'; cases h'
/-- the compiled statements of a def -/
def Pg.st (p : Pg) (f : DF) : Stmt → FS := (cmp p.T deep).S ⟨f.N, false, true, f.d.scope⟩
theorem Pg.run_def {p : Pg} {f : DF} {k n : Nat} {as : List D} {L : LH} (h : p.dfs[k]? = some f) (hl : as.length = f.ps.length) : runN p.F (n + 1) k as L = fin (cB (p.st f) f.d.body (runN p.F n) (as.map some ++ List.replicate (f.N.length - f.ps.length) none) L) := by
  have e : p.F k = some (cFn p.T f.N f.ps.length f.d.scope f.d.body) := by unfold Pg.F; rw [h]
  show (match p.F k with
    | some f => f.run (runN p.F n) as L
    | none => .bad) = _
  rw [e]
  show (if as.length = f.ps.length then _ else _) = _
  rw [if_pos hl]
  rfl
theorem Pg.run_as {p : Pg} {g : Fn} {k n : Nat} {as : List D} {L : LH} (h : p.F k = some g) : runN p.F (n + 1) k as L = g.run (runN p.F n) as L := by
  show (match p.F k with
    | some f => f.run (runN p.F n) as L
    | none => .bad) = _
  rw [h]
theorem x_call {R : Rec} {ρ : Slt} {L L1 L2 : LH} {i : Nat} {a : FA} {as : List D} {d : D} (h : a R ρ L = .ok as L1) (h2 : R i as L1 = .ok d L2) : eCall i a R ρ L = .ok d L2 := by
  unfold eCall
  rw [h]
  exact h2
theorem i_of {R : Rec} {ρ : Slt} {L L1 : LH} {e : FE} {d : D} (h : e R ρ L = .ok d L1) : iE e R ρ L = itOf d L1 := by
  unfold iE
  rw [h]
  rfl
end PD
/-! P16: the same compiled text, the heap forced at each step (for the kernel's evaluation). -/
namespace PD
open PySem
def frN {α : Type} (n : Nat) (k : Nat → α) : α := match n with
  | 0 => k 0
  | m + 1 => k (m + 1)
theorem frN_eq {α : Type} (n : Nat) (k : Nat → α) : frN n k = k n := by cases n <;> rfl
def frC {α : Type} (c : Cell) (k : Cell → α) : α := match c with
  | .lst xs => k (.lst xs)
  | .dct kvs => k (.dct kvs)
  | .ins c fs => k (.ins c fs)
  | .set xs => k (.set xs)
theorem frC_eq {α : Type} (c : Cell) (k : Cell → α) : frC c k = k c := by cases c <;> rfl
def frV {α : Type} (c : Option Cell) (k : Option Cell → α) : α := match c with
  | none => k none
  | some c => frC c fun c => k (some c)
theorem frV_eq {α : Type} (c : Option Cell) (k : Option Cell → α) : frV c k = k c := by
  cases c with
  | none => rfl
  | some c => exact frC_eq c (fun c => k (some c))
def frT {α : Type} : Tr → (Tr → α) → α
  | .nil, k => k .nil
  | .node l v r, k => frT l fun l => frT r fun r => frV v fun v => k (.node l v r)
theorem frT_eq {α : Type} : ∀ (t : Tr) (k : Tr → α), frT t k = k t
  | .nil, k => rfl
  | .node l v r, k => by
    unfold frT
    rw [frT_eq l, frT_eq r, frV_eq]
def frH {α : Type} (L : LH) (k : LH → α) : α := match L with
  | ⟨t, n⟩ => frT t fun t => frN n fun n => k ⟨t, n⟩
theorem frH_eq {α : Type} (L : LH) (k : LH → α) : frH L k = k L := by
  obtain ⟨t, n⟩ := L
  unfold frH
  dsimp only
  rw [frT_eq, frN_eq]
def frD {α : Type} (d : D) (k : D → α) : α := match d with
  | .non => k .non
  | .bl b => k (.bl b)
  | .int i => k (.int i)
  | .str x => k (.str x)
  | .tup l => k (.tup l)
  | .ref n => frN n fun n => k (.ref n)
  | .rol l => k (.rol l)
  | .fn i => k (.fn i)
theorem frD_eq {α : Type} (d : D) (k : D → α) : frD d k = k d := by
  cases d with
  | ref n => exact frN_eq n (fun n => k (.ref n))
  | _ => rfl
def frO {α : Type} (c : Option D) (k : Option D → α) : α := match c with
  | none => k none
  | some c => frD c fun c => k (some c)
theorem frO_eq {α : Type} (c : Option D) (k : Option D → α) : frO c k = k c := by
  cases c with
  | none => rfl
  | some c => exact frD_eq c (fun c => k (some c))
def frS {α : Type} : Slt → (Slt → α) → α
  | [], k => k []
  | x :: r, k => frO x fun x => frS r fun r => k (x :: r)
theorem frS_eq {α : Type} : ∀ (ρ : Slt) (k : Slt → α), frS ρ k = k ρ
  | [], k => rfl
  | x :: r, k => by
    unfold frS
    rw [frO_eq, frS_eq r]
def frX {α : Type} (f : Rec → Slt → LH → α) : Rec → Slt → LH → α := fun R ρ L => frS ρ fun ρ => frH L fun L => f R ρ L
theorem frX_eq {α : Type} (f : Rec → Slt → LH → α) : frX f = f := by
  funext R ρ L
  unfold frX
  rw [frS_eq, frH_eq]
def Cmp.stepF (T : Tab) (c : Cmp) : Cmp := ⟨fun x e => frX (exE T c x e), fun x e => frX (exT c x e), exI T c, exG c, exW c, fun x s => frX (exS T c x s)⟩
theorem Cmp.stepF_eq (T : Tab) (c : Cmp) : Cmp.stepF T c = Cmp.step T c := by
  unfold Cmp.stepF Cmp.step
  simp only [frX_eq]
def cmpF (T : Tab) : Nat → Cmp
  | 0 => .bad
  | n + 1 => (cmpF T n).stepF T
theorem cmpF_eq (T : Tab) : ∀ n, cmpF T n = cmp T n
  | 0 => rfl
  | n + 1 => by
    show (cmpF T n).stepF T = (cmp T n).step T
    rw [Cmp.stepF_eq, cmpF_eq T n]
def Pg.stF (p : Pg) (f : DF) : Stmt → FS := (cmpF p.T deep).S ⟨f.N, false, true, f.d.scope⟩
theorem Pg.stF_eq (p : Pg) (f : DF) : p.stF f = p.st f := by unfold Pg.stF Pg.st; rw [cmpF_eq]
def cFnF (T : Tab) (N : List Str) (pars : Nat) (sc : Scope) (body : List Stmt) : Fn := ⟨N.length, pars, cB ((cmpF T deep).S ⟨N, false, true, sc⟩) body⟩
def Pg.FF (p : Pg) (i : Nat) : Option Fn := match p.dfs[i]? with
  | some f => some (cFnF p.T f.N f.ps.length f.d.scope f.d.body)
  | none => (p.xs[i - p.dfs.length]?).bind (XF.fn p.T)
theorem Pg.FF_eq (p : Pg) : p.FF = p.F := by
  funext i
  unfold Pg.FF Pg.F cFnF cFn
  simp only [cmpF_eq]
  all_goals rfl
theorem Pg.run_defF {p : Pg} {f : DF} {k n : Nat} {as : List D} {L : LH} (h : p.dfs[k]? = some f) (hl : as.length = f.ps.length) : runN p.FF (n + 1) k as L = fin (cB (p.stF f) f.d.body (runN p.FF n) (as.map some ++ List.replicate (f.N.length - f.ps.length) none) L) := by
  rw [Pg.FF_eq, Pg.stF_eq]
  exact Pg.run_def h hl
theorem Pg.run_asF {p : Pg} {g : Fn} {k n : Nat} {as : List D} {L : LH} (h : p.F k = some g) : runN p.FF (n + 1) k as L = g.run (runN p.FF n) as L := by
  rw [Pg.FF_eq]
  exact Pg.run_as h
def tl (b : FS) (R : Rec) (r : Res (Fl × Slt)) : Res (Fl × Slt) := r.bind fun p L1 => match p.1 with
  | .nx => b R p.2 L1
  | f => .ok (f, p.2) L1
theorem tl_eq {a b : FS} {R : Rec} {ρ : Slt} {L : LH} : sSeq a b R ρ L = tl b R (a R ρ L) := rfl
theorem perm2 {α : Type} {a b : α} : ∀ {ys : List α}, ys.Perm [a, b] → ys = [a, b] ∨ ys = [b, a]
  | [], h => by have := h.length_eq; cases this
  | [x], h => by have := h.length_eq; cases this
  | x :: y :: z :: r, h => by have := h.length_eq; simp at this
  | [x, y], h => by
    have hx : x ∈ [a, b] := h.subset (List.mem_cons_self ..)
    rcases List.mem_cons.1 hx with e | e
    · subst e
      have := List.perm_singleton.1 (List.Perm.cons_inv h)
      left; rw [this]
    · have e := List.mem_singleton.1 e
      subst e
      have := List.perm_singleton.1 (List.Perm.cons_inv (h.trans (List.Perm.swap x a [])))
      right; rw [this]
end PD
/-! P17: what is wanted of a run: rules for simp, construct by construct. -/
namespace PD
open PySem

abbrev XP := Nat → List (Str × D) → LH → Prop
@[irreducible] def W {α : Type} (r : Res α) (Q : α → LH → Prop) (X : XP) : Prop := match r with
  | .ok a L => Q a L
  | .exc c fs L => X c fs L
  | .bad => False
theorem W_ok {α : Type} (a : α) (L : LH) (Q : α → LH → Prop) (X : XP) : W (.ok a L) Q X = Q a L := by with_unfolding_all rfl
theorem W_exc {α : Type} (c : Nat) (fs) (L : LH) (Q : α → LH → Prop) (X : XP) : W (.exc c fs L) Q X = X c fs L := by with_unfolding_all rfl
theorem W_bad {α : Type} (Q : α → LH → Prop) (X : XP) : W .bad Q X = False := by with_unfolding_all rfl
theorem W_bind {α β : Type} (r : Res α) (k : α → LH → Res β) (Q : β → LH → Prop) (X : XP) : W (r.bind k) Q X = W r (fun a L => W (k a L) Q X) X := by cases r <;> with_unfolding_all rfl
theorem W_st {α : Type} (r : Res α) (ρ : Slt) (k : α → LH → Res (Fl × Slt)) (Q) (X : XP) : W (r.st ρ k) Q X = W r (fun a L => W (k a L) Q X) (fun c fs L => Q (.ex c fs, ρ) L) := by cases r <;> with_unfolding_all rfl
abbrev nX : Nat → List (Str × D) → LH → Prop := fun _ _ _ => False
theorem W_noExc {α : Type} (r : Res α) (Q : α → LH → Prop) (X : XP) : W (noExc r) Q X = W r Q nX := by cases r <;> with_unfolding_all rfl
theorem W_mono {α : Type} {r : Res α} {Q Q' : α → LH → Prop} {X X' : XP} (h : W r Q X) (q : ∀ a L, Q a L → Q' a L) (x : ∀ c fs L, X c fs L → X' c fs L) : W r Q' X' := by
  cases r with
  | ok a L => rw [W_ok] at h ⊢; exact q _ _ h
  | exc c fs L => rw [W_exc] at h ⊢; exact x _ _ _ h
  | bad => rw [W_bad] at h; exact h.elim
/-- a call, by what is known of it -/
theorem W_use {α : Type} {r : Res α} {Q Q' : α → LH → Prop} {X : XP} (h : W r Q nX) (q : ∀ a L, Q a L → Q' a L) : W r Q' X := W_mono h q fun _ _ _ h => h.elim
theorem W_of {α : Type} {r : Res α} {Q : α → LH → Prop} (h : W r Q nX) : ∃ a L, r = .ok a L ∧ Q a L := by
  cases r with
  | ok a L => rw [W_ok] at h; exact ⟨a, L, rfl, h⟩
  | exc c fs L => rw [W_exc] at h; exact h.elim
  | bad => rw [W_bad] at h; exact h.elim
theorem W_congr {α : Type} {r r' : Res α} (h : r = r') (Q : α → LH → Prop) (X : XP) : W r Q X = W r' Q X := by rw [h]

/-! a choice, its ways left as they are -/
def ifK (c : Bool) (A B : Prop) : Prop := if c = true then A else B
theorem ifK_congr {c c' : Bool} (h : c = c') (A B : Prop) : ifK c A B = ifK c' A B := by rw [h]
theorem ifK_t (A B : Prop) : ifK true A B = A := by with_unfolding_all rfl
theorem ifK_f (A B : Prop) : ifK false A B = B := by with_unfolding_all rfl
theorem ifK_of {c : Bool} {A B : Prop} (a : c = true → A) (b : c = false → B) : ifK c A B := by
  cases c
  · exact b rfl
  · exact a rfl
theorem W_ite {α : Type} (c : Bool) (a b : Res α) (Q : α → LH → Prop) (X : XP) : W (if c = true then a else b) Q X = ifK c (W a Q X) (W b Q X) := by cases c <;> with_unfolding_all rfl

/-! ### each class of combinators, its text left as it is -/
def WE (e : FE) (R : Rec) (ρ : Slt) (L : LH) (Q : D → LH → Prop) (X : XP) : Prop := W (e R ρ L) Q X
def WT (e : FT) (R : Rec) (ρ : Slt) (L : LH) (Q : Bool → LH → Prop) (X : XP) : Prop := W (e R ρ L) Q X
def WA (e : FA) (R : Rec) (ρ : Slt) (L : LH) (Q : List D → LH → Prop) (X : XP) : Prop := W (e R ρ L) Q X
def WS (e : FS) (R : Rec) (ρ : Slt) (L : LH) (Q : Fl × Slt → LH → Prop) (X : XP) : Prop := W (e R ρ L) Q X
def WG (e : FG) (R : Rec) (d : D) (ρ : Slt) (L : LH) (Q : Slt → LH → Prop) (X : XP) : Prop := W (e R d ρ L) Q X
def WI (e : FI) (R : Rec) (ρ : Slt) (L : LH) (Q : Itr → LH → Prop) (X : XP) : Prop := W (e R ρ L) Q X
def WC (e : FC) (R : Rec) (d : D) (ρ : Slt) (L : LH) (Q : Option D → LH → Prop) (X : XP) : Prop := W (e R d ρ L) Q X
theorem WE_congr (e : FE) (R) {ρ ρ' : Slt} (h : ρ = ρ') {L L' : LH} (h2 : L = L') (Q) (X : XP) : WE e R ρ L Q X = WE e R ρ' L' Q X := by rw [h, h2]
theorem WT_congr (e : FT) (R) {ρ ρ' : Slt} (h : ρ = ρ') {L L' : LH} (h2 : L = L') (Q) (X : XP) : WT e R ρ L Q X = WT e R ρ' L' Q X := by rw [h, h2]
theorem WA_congr (e : FA) (R) {ρ ρ' : Slt} (h : ρ = ρ') {L L' : LH} (h2 : L = L') (Q) (X : XP) : WA e R ρ L Q X = WA e R ρ' L' Q X := by rw [h, h2]
theorem WS_congr (e : FS) (R) {ρ ρ' : Slt} (h : ρ = ρ') {L L' : LH} (h2 : L = L') (Q) (X : XP) : WS e R ρ L Q X = WS e R ρ' L' Q X := by rw [h, h2]
theorem WI_congr (e : FI) (R) {ρ ρ' : Slt} (h : ρ = ρ') {L L' : LH} (h2 : L = L') (Q) (X : XP) : WI e R ρ L Q X = WI e R ρ' L' Q X := by rw [h, h2]
theorem WG_congr (e : FG) (R) {d d' : D} (h0 : d = d') {ρ ρ' : Slt} (h : ρ = ρ') {L L' : LH} (h2 : L = L') (Q) (X : XP) : WG e R d ρ L Q X = WG e R d' ρ' L' Q X := by rw [h0, h, h2]
theorem WC_congr (e : FC) (R) {d d' : D} (h0 : d = d') {ρ ρ' : Slt} (h : ρ = ρ') {L L' : LH} (h2 : L = L') (Q) (X : XP) : WC e R d ρ L Q X = WC e R d' ρ' L' Q X := by rw [h0, h, h2]

section
variable {R : Rec} {ρ : Slt} {L : LH} {Q : D → LH → Prop} {X : Nat → List (Str × D) → LH → Prop} {T : Bool → LH → Prop} {A : List D → LH → Prop} {S : Fl × Slt → LH → Prop} {I : Itr → LH → Prop} {O : Option D → LH → Prop} {Z : Slt → LH → Prop}
/-! expressions -/
theorem WE_c (d : D) : WE (eC d) R ρ L Q X = Q d L := by with_unfolding_all rfl
def slt (ρ : Slt) (i : Nat) : Option D := (ρ[i]?).join
def getK (o : Option D) (k : D → Prop) : Prop := match o with
  | some d => k d
  | none => False
theorem getK_s (d : D) (k) : getK (some d) k = k d := by with_unfolding_all rfl
theorem getK_congr {o o' : Option D} (h : o = o') (k) : getK o k = getK o' k := by rw [h]
theorem slt_0 (o : Option D) (r : Slt) : slt (o :: r) 0 = o := by with_unfolding_all rfl
theorem slt_s (o : Option D) (r : Slt) (n : Nat) : slt (o :: r) (n + 1) = slt r n := by with_unfolding_all rfl
theorem WE_var (i : Nat) : WE (eVar i) R ρ L Q X = getK (slt ρ i) fun d => Q d L := by
  unfold WE eVar slt
  cases h : ρ[i]? with
  | none => with_unfolding_all rfl
  | some o => cases o <;> with_unfolding_all rfl
theorem WE_1 (op) (a : FE) : WE (e1 op a) R ρ L Q X = WE a R ρ L (fun x L1 => W (op x L1) Q X) X := by with_unfolding_all exact W_bind ..
theorem WE_2 (op) (a b : FE) : WE (e2 op a b) R ρ L Q X = WE a R ρ L (fun x L1 => WE b R ρ L1 (fun y L2 => W (op x y L2) Q X) X) X := by
  show W ((a R ρ L).bind _) Q X = _
  rw [W_bind]; congr 1; funext x L1; with_unfolding_all exact W_bind ..
theorem WA_nil : WA aNil R ρ L A X = A [] L := by with_unfolding_all rfl
theorem WA_cons (a : FE) (r : FA) : WA (aCons a r) R ρ L A X = WE a R ρ L (fun x L1 => WA r R ρ L1 (fun xs L2 => A (x :: xs) L2) X) X := by
  show W ((a R ρ L).bind _) A X = _
  rw [W_bind]; congr 1; funext x L1; rw [W_bind]; with_unfolding_all rfl
theorem WE_app (a : FA) (op) : WE (aApp a op) R ρ L Q X = WA a R ρ L (fun xs L1 => W (op xs L1) Q X) X := by with_unfolding_all exact W_bind ..
theorem WE_if (t : FT) (a b : FE) : WE (eIf t a b) R ρ L Q X = WT t R ρ L (fun c L1 => ifK c (WE a R ρ L1 Q X) (WE b R ρ L1 Q X)) X := by
  show W ((t R ρ L).bind _) Q X = _
  rw [W_bind]; congr 1; funext x L1; with_unfolding_all exact W_ite ..
def truK (o : Option Bool) (k : Bool → Prop) : Prop := match o with
  | some d => k d
  | none => False
theorem truK_s (d : Bool) (k) : truK (some d) k = k d := by with_unfolding_all rfl
theorem truK_congr {o o' : Option Bool} (h : o = o') (k) : truK o k = truK o' k := by rw [h]
theorem WE_and (a b : FE) : WE (eAnd a b) R ρ L Q X = WE a R ρ L (fun x L1 => truK (truthD L1 x) fun c => ifK c (WE b R ρ L1 Q X) (Q x L1)) X := by
  show W ((a R ρ L).bind _) Q X = _
  rw [W_bind]; congr 1; funext x L1
  cases truthD L1 x with
  | none => with_unfolding_all rfl
  | some c => cases c <;> with_unfolding_all rfl
theorem WE_or (a b : FE) : WE (eOr a b) R ρ L Q X = WE a R ρ L (fun x L1 => truK (truthD L1 x) fun c => ifK c (Q x L1) (WE b R ρ L1 Q X)) X := by
  show W ((a R ρ L).bind _) Q X = _
  rw [W_bind]; congr 1; funext x L1
  cases truthD L1 x with
  | none => with_unfolding_all rfl
  | some c => cases c <;> with_unfolding_all rfl
theorem WE_not (a : FE) : WE (eNot a) R ρ L Q X = WE a R ρ L (fun x L1 => truK (truthD L1 x) fun c => Q (.bl (!c)) L1) X := by
  show W ((a R ρ L).bind _) Q X = _
  rw [W_bind]; congr 1; funext x L1
  cases truthD L1 x <;> with_unfolding_all rfl
theorem WE_call (i : Nat) (a : FA) : WE (eCall i a) R ρ L Q X = WA a R ρ L (fun xs L1 => W (R i xs L1) Q X) X := by with_unfolding_all exact W_bind ..
def methK (m : Str) (tb : List (Nat × Nat)) (d : D) (L : LH) (k : Nat → Prop) : Prop := match d with
  | .ref n => match L.get n with
    | some (.ins c fs) => match tb.lookup c with
      | some i => if (fs.lookup m).isNone then k i else False
      | none => False
    | _ => False
  | _ => False
theorem WE_meth (m : Str) (tb) (o : FE) (a : FA) : WE (eMeth m tb o a) R ρ L Q X = WE o R ρ L (fun d L1 => methK m tb d L1 fun i => WA a R ρ L1 (fun xs L2 => W (R i (d :: xs) L2) Q X) X) X := by
  show W ((o R ρ L).bind _) Q X = _
  rw [W_bind]; congr 1; funext d L1
  unfold methK
  cases d <;> first
    | with_unfolding_all rfl
    | (rename_i n
       dsimp only
       cases L1.get n with
       | none => with_unfolding_all rfl
       | some c =>
         cases c <;> first
           | with_unfolding_all rfl
           | (rename_i c fs
              dsimp only
              cases tb.lookup c with
              | none => with_unfolding_all rfl
              | some i =>
                dsimp only
                by_cases h : (fs.lookup m).isNone = true
                · rw [if_pos h, if_pos h]; with_unfolding_all exact W_bind ..
                · rw [if_neg h, if_neg h]; exact W_bad ..))
theorem methK_of {m : Str} {tb : List (Nat × Nat)} {n : Nat} {L : LH} {k : Nat → Prop} {c i : Nat} {fs : List (Str × D)} (h : L.get n = some (.ins c fs)) (h1 : tb.lookup c = some i) (h2 : (fs.lookup m).isNone = true) : methK m tb (.ref n) L k = k i := by
  unfold methK
  simp only [h, h1, h2, if_true]
def nonK (d : D) (k : Prop) : Prop := match d with
  | .non => k
  | _ => False
theorem nonK_n (k) : nonK .non k = k := by with_unfolding_all rfl
theorem WE_make (c i : Nat) (a : FA) : WE (eMake c i a) R ρ L Q X = WA a R ρ L (fun xs L1 => W (R i (.ref L1.len :: xs) (L1.push (.ins c []))) (fun d L2 => nonK d (Q (.ref L1.len) L2)) X) X := by
  show W ((a R ρ L).bind _) Q X = _
  rw [W_bind]; congr 1; funext xs L1
  rw [W_bind]; congr 1; funext d L2
  cases d <;> with_unfolding_all rfl
theorem WE_bm (ty : String) (op) (o : FE) (a : FA) : WE (eBM ty op o a) R ρ L Q X = WE o R ρ L (fun d L1 => ifK (tyIs ty d L1) (WA a R ρ L1 (fun xs L2 => W (op d xs L2) Q nX) X) False) X := by
  show W ((o R ρ L).bind _) Q X = _
  rw [W_bind]; congr 1; funext d L1
  cases tyIs ty d L1 with
  | false => with_unfolding_all rfl
  | true =>
    show W ((a R ρ L1).bind _) Q X = _
    rw [W_bind]; rw [ifK_t]; show _ = W _ _ _; congr 1; funext xs L2
    with_unfolding_all exact W_noExc ..
theorem WE_sl (a : FE) (lo hi : FO) : WE (eSl a lo hi) R ρ L Q X = WE a R ρ L (fun d L1 => W (lo R ρ L1) (fun l L2 => W (hi R ρ L2) (fun h L3 => W (oSl d l h L3) Q X) X) X) X := by
  show W ((a R ρ L).bind _) Q X = _
  rw [W_bind]; congr 1; funext d L1
  rw [W_bind]; congr 1; funext l L2
  with_unfolding_all exact W_bind ..
theorem W_bNo (O : Option Int → LH → Prop) : W (bNo R ρ L) O X = O none L := by with_unfolding_all rfl
def intK (d : D) (k : Int → Prop) : Prop := match d with
  | .int i => k i
  | _ => False
theorem intK_i (i : Int) (k) : intK (.int i) k = k i := by with_unfolding_all rfl
theorem W_bAt (a : FE) (O : Option Int → LH → Prop) : W (bAt a R ρ L) O X = WE a R ρ L (fun d L1 => intK d fun i => O (some i) L1) X := by
  show W ((a R ρ L).bind _) O X = _
  rw [W_bind]; congr 1; funext d L1
  cases d <;> with_unfolding_all rfl
theorem WE_ch (op op') (a b c : FE) : WE (eCh op op' a b c) R ρ L Q X = WE a R ρ L (fun x L1 => WE b R ρ L1 (fun y L2 => W (op x y L2) (fun k L3 => match k with
    | .bl true => WE c R ρ L3 (fun z L4 => W (op' y z L4) Q X) X
    | .bl false => Q (.bl false) L3
    | _ => False) X) X) X := by
  show W ((a R ρ L).bind _) Q X = _
  rw [W_bind]; congr 1; funext x L1
  rw [W_bind]; show W _ _ _ = W _ _ _; congr 1; funext y L2
  rw [W_bind]; congr 1; funext k L3
  cases k with
  | bl b =>
    cases b
    · with_unfolding_all rfl
    · with_unfolding_all exact W_bind ..
  | _ => with_unfolding_all rfl
theorem WE_lc (vs : List Nat) (it : FI) (c : FC) : WE (eLc vs it c) R ρ L Q X = WI it R ρ L (fun j L1 => W (lcRun (fun x M => c R x (wipeE ρ vs) M) j L1) (fun ys L2 => Q (.ref L2.len) (L2.push (.lst ys))) X) X := by
  show W ((it R ρ L).bind _) Q X = _
  rw [W_bind]; congr 1; funext j L1
  rw [W_bind]; with_unfolding_all rfl
theorem WC_turn (g : FG) (t : FT) (e : FE) (x : D) : WC (cTurn g t e) R x ρ L O X = WG g R x ρ L (fun ρ1 L1 => WT t R ρ1 L1 (fun c L2 => ifK c (WE e R ρ1 L2 (fun y L3 => O (some y) L3) nX) (O none L2)) nX) nX := by
  show W (noExc _) O X = _
  rw [W_noExc, W_bind]; congr 1; funext ρ1 L1
  rw [W_bind]; show W _ _ _ = W _ _ _; congr 1; funext c L2
  cases c
  · with_unfolding_all rfl
  · with_unfolding_all exact W_bind ..
theorem WT_yes : WT tYesT R ρ L T X = T true L := by with_unfolding_all rfl
/-! tests -/
theorem WT_v (a : FE) : WT (tV a) R ρ L T X = WE a R ρ L (fun x L1 => truK (truthD L1 x) fun c => T c L1) X := by
  show W ((a R ρ L).bind _) T X = _
  rw [W_bind]; congr 1; funext x L1
  cases truthD L1 x <;> with_unfolding_all rfl
theorem WT_and (a b : FT) : WT (tAnd a b) R ρ L T X = WT a R ρ L (fun c L1 => ifK c (WT b R ρ L1 T X) (T false L1)) X := by
  show W ((a R ρ L).bind _) T X = _
  rw [W_bind]; congr 1; funext c L1
  cases c <;> with_unfolding_all rfl
theorem WT_or (a b : FT) : WT (tOr a b) R ρ L T X = WT a R ρ L (fun c L1 => ifK c (T true L1) (WT b R ρ L1 T X)) X := by
  show W ((a R ρ L).bind _) T X = _
  rw [W_bind]; congr 1; funext c L1
  cases c <;> with_unfolding_all rfl
theorem WT_not (a : FT) : WT (tNot a) R ρ L T X = WT a R ρ L (fun c L1 => T (!c) L1) X := by with_unfolding_all exact W_bind ..
/-! targets -/
theorem WG_nm (i : Nat) (d : D) : WG (gNm i) R d ρ L Z X = Z (ρ.set i (some d)) L := by with_unfolding_all rfl
theorem WG_sub (o i : FE) (d : D) : WG (gSub o i) R d ρ L Z X = WE o R ρ L (fun x L1 => WE i R ρ L1 (fun y L2 => W (oSet x y d L2) (fun _ L3 => Z ρ L3) X) X) X := by
  show W ((o R ρ L).bind _) Z X = _
  rw [W_bind]; congr 1; funext x L1
  rw [W_bind]; show W _ _ _ = W _ _ _; congr 1; funext y L2
  with_unfolding_all exact W_bind ..
/-! statements -/
def seqK (b : FS) (R : Rec) (S : Fl × Slt → LH → Prop) (X : XP) (p : Fl × Slt) (L : LH) : Prop := match p.1 with
  | .nx => WS b R p.2 L S X
  | f => S (f, p.2) L
theorem seqK_nx (b) : seqK b R S X (.nx, ρ) L = WS b R ρ L S X := by with_unfolding_all rfl
theorem seqK_rt (b) (d) : seqK b R S X (.rt d, ρ) L = S (.rt d, ρ) L := by with_unfolding_all rfl
theorem seqK_bk (b) : seqK b R S X (.bk, ρ) L = S (.bk, ρ) L := by with_unfolding_all rfl
theorem seqK_ct (b) : seqK b R S X (.ct, ρ) L = S (.ct, ρ) L := by with_unfolding_all rfl
theorem seqK_ex (b) (c fs) : seqK b R S X (.ex c fs, ρ) L = S (.ex c fs, ρ) L := by with_unfolding_all rfl
theorem WS_seq (a b : FS) : WS (sSeq a b) R ρ L S X = WS a R ρ L (seqK b R S X) X := by
  show W ((a R ρ L).bind _) S X = _
  rw [W_bind]; show W _ _ _ = W _ _ _; congr 1; funext p L1
  obtain ⟨f, ρ1⟩ := p
  cases f <;> with_unfolding_all rfl
theorem WS_next : WS sNext R ρ L S X = S (.nx, ρ) L := by with_unfolding_all rfl
theorem WS_asg (e : FE) (g : FG) : WS (sAsg e g) R ρ L S X = WE e R ρ L (fun d L1 => WG g R d ρ L1 (fun ρ1 L2 => S (.nx, ρ1) L2) (fun c fs L2 => S (.ex c fs, ρ) L2)) (fun c fs L1 => S (.ex c fs, ρ) L1) := by
  show W (Res.st _ _ _) S X = _
  rw [W_st]; show W _ _ _ = W _ _ _; congr 1; funext d L1
  with_unfolding_all exact W_st ..
theorem WS_expr (e : FE) : WS (sExpr e) R ρ L S X = WE e R ρ L (fun _ L1 => S (.nx, ρ) L1) (fun c fs L1 => S (.ex c fs, ρ) L1) := by with_unfolding_all exact W_st ..
theorem WS_ret (e : FE) : WS (sRet e) R ρ L S X = WE e R ρ L (fun d L1 => S (.rt d, ρ) L1) (fun c fs L1 => S (.ex c fs, ρ) L1) := by with_unfolding_all exact W_st ..
theorem WS_retN : WS sRetN R ρ L S X = S (.rt .non, ρ) L := by with_unfolding_all rfl
theorem WS_brk : WS sBrk R ρ L S X = S (.bk, ρ) L := by with_unfolding_all rfl
theorem WS_cnt : WS sCnt R ρ L S X = S (.ct, ρ) L := by with_unfolding_all rfl
theorem WS_if (t : FT) (a b : FS) : WS (sIf t a b) R ρ L S X = WT t R ρ L (fun c L1 => ifK c (WS a R ρ L1 S X) (WS b R ρ L1 S X)) (fun c fs L1 => S (.ex c fs, ρ) L1) := by
  show W (Res.st _ _ _) S X = _
  rw [W_st]; show W _ _ _ = W _ _ _; congr 1; funext c L1
  with_unfolding_all exact W_ite ..
theorem WS_aug (i : Nat) (op) (e : FE) : WS (sAug i op e) R ρ L S X = getK (slt ρ i) fun x => WE e R ρ L (fun y L1 => W (op x y L1) (fun z L2 => S (.nx, ρ.set i (some z)) L2) (fun c fs L2 => S (.ex c fs, ρ) L2)) (fun c fs L1 => S (.ex c fs, ρ) L1) := by
  unfold WS sAug slt
  cases h : ρ[i]? with
  | none => with_unfolding_all rfl
  | some o =>
    cases o with
    | none => with_unfolding_all rfl
    | some x =>
      show W (Res.st _ _ _) S X = _
      rw [W_st]; show W _ _ _ = W _ _ _; congr 1; funext y L1
      with_unfolding_all exact W_st ..
theorem WS_fset (cs : List Nat) (f : Str) (o e : FE) : WS (sFldSet cs f o e) R ρ L S X = WE e R ρ L (fun v L1 => WE o R ρ L1 (fun x L2 => W (oSetF cs f x v L2) (fun _ L3 => S (.nx, ρ) L3) (fun c fs L3 => S (.ex c fs, ρ) L3)) (fun c fs L2 => S (.ex c fs, ρ) L2)) (fun c fs L1 => S (.ex c fs, ρ) L1) := by
  show W (Res.st _ _ _) S X = _
  rw [W_st]; show W _ _ _ = W _ _ _; congr 1; funext v L1
  rw [W_st]; show W _ _ _ = W _ _ _; congr 1; funext x L2
  with_unfolding_all exact W_st ..
theorem WS_saug (o i : FE) (op) (e : FE) : WS (sSubAug o i op e) R ρ L S X = WE o R ρ L (fun x L1 => WE i R ρ L1 (fun y L2 => W (oIxL x y L2) (fun z L3 => WE e R ρ L3 (fun v L4 => W (op z v L4) (fun w L5 => W (oSet x y w L5) (fun _ L6 => S (.nx, ρ) L6) (fun c fs L2 => S (.ex c fs, ρ) L2)) (fun c fs L2 => S (.ex c fs, ρ) L2)) (fun c fs L2 => S (.ex c fs, ρ) L2)) (fun c fs L2 => S (.ex c fs, ρ) L2)) (fun c fs L2 => S (.ex c fs, ρ) L2)) (fun c fs L2 => S (.ex c fs, ρ) L2) := by
  show W (Res.st _ _ _) S X = _
  rw [W_st]; show W _ _ _ = W _ _ _; congr 1; funext v L1
  rw [W_st]; show W _ _ _ = W _ _ _; congr 1; funext x L2
  rw [W_st]; show W _ _ _ = W _ _ _; congr 1; funext z L3
  rw [W_st]; show W _ _ _ = W _ _ _; congr 1; funext z L3
  rw [W_st]; show W _ _ _ = W _ _ _; congr 1; funext z L3
  with_unfolding_all exact W_st ..
def WF (b : D → Slt → LH → Res (Fl × Slt)) (it : Itr) (ρ : Slt) (L : LH) (S : Fl × Slt → LH → Prop) (X : XP) : Prop := W (forRun b it ρ L) S X
theorem WF_congr (b) {it it' : Itr} (h : it = it') (ρ L S) (X : XP) : WF b it ρ L S X = WF b it' ρ L S X := by rw [h]
theorem WS_for (g : FG) (it : FI) (body : FS) : WS (sFor g it body) R ρ L S X = WI it R ρ L (fun j L1 => WF (fun x ρ1 M => (g R x ρ1 M).st ρ1 fun ρ2 M1 => body R ρ2 M1) j ρ L1 S X) (fun c fs L1 => S (.ex c fs, ρ) L1) := by with_unfolding_all exact W_st ..
/-! what is walked -/
theorem WI_e (a : FE) : WI (iE a) R ρ L I X = WE a R ρ L (fun d L1 => W (itOf d L1) I X) X := by with_unfolding_all exact W_bind ..
/-! a def -/
def finK (Q : D → LH → Prop) (X : Nat → List (Str × D) → LH → Prop) (p : Fl × Slt) (L : LH) : Prop := match p.1 with
  | .rt d => Q d L
  | .nx => Q .non L
  | .ex c fs => X c fs L
  | _ => False
theorem finK_rt (d) : finK Q X (.rt d, ρ) L = Q d L := by with_unfolding_all rfl
theorem finK_nx : finK Q X (.nx, ρ) L = Q .non L := by with_unfolding_all rfl
theorem finK_ex (c fs) : finK Q X (.ex c fs, ρ) L = X c fs L := by with_unfolding_all rfl
theorem W_run (f : Fn) (as : List D) (h : as.length = f.pars) : W (f.run R as L) Q X = WS f.body R (as.map some ++ List.replicate (f.slots - f.pars) none) L (finK Q X) nX := by
  unfold Fn.run
  rw [if_pos h, W_bind, W_noExc]
  show W _ _ _ = W _ _ _; congr 1; funext p L1
  obtain ⟨f, ρ1⟩ := p
  cases f <;> with_unfolding_all rfl
end
theorem W_runN {F : Nat → Option Fn} {n i : Nat} {f : Fn} (h : F i = some f) {as : List D} {L : LH} {Q : D → LH → Prop} {X : XP} (hl : as.length = f.pars) : W (runN F (n + 1) i as L) Q X = WS f.body (runN F n) (as.map some ++ List.replicate (f.slots - f.pars) none) L (finK Q X) nX := by
  rw [← W_run f as hl]
  show W (match F i with
    | some f => f.run (runN F n) as L
    | none => .bad) Q X = _
  rw [h]
end PD
/-! P18: the set of rules for simp (word_snoc is the library's name of a simp set; ours are added to it); loops; heaps that grow. -/
namespace PD
open PySem

/-! ### the rules, for simp -/
section
variable {R : Rec} {ρ r : Slt} {L : LH} {Q : D → LH → Prop} {X : XP} {T : Bool → LH → Prop} {A : List D → LH → Prop} {S : Fl × Slt → LH → Prop} {I : Itr → LH → Prop} {O : Option D → LH → Prop} {Z : Slt → LH → Prop}
theorem w_ok {α : Type} (a : α) (L : LH) (Q : α → LH → Prop) : W (.ok a L) Q X = Q a L := W_ok ..
theorem w_exc {α : Type} (c : Nat) (fs) (L : LH) (Q : α → LH → Prop) : W (.exc c fs L) Q X = X c fs L := W_exc ..
theorem w_ift (A B : Prop) : ifK true A B = A := by with_unfolding_all rfl
theorem w_iff (A B : Prop) : ifK false A B = B := by with_unfolding_all rfl
theorem w_c (d : D) : WE (eC d) R ρ L Q X = Q d L := by with_unfolding_all rfl
theorem w_getK (d : D) (k) : getK (some d) k = k d := by with_unfolding_all rfl
theorem w_slt0 (o : Option D) (r : Slt) : slt (o :: r) 0 = o := by with_unfolding_all rfl
theorem w_slts (o : Option D) (r : Slt) (n : Nat) : slt (o :: r) (n + 1) = slt r n := by with_unfolding_all rfl
theorem w_set0 (o p : Option D) : (o :: r).set 0 p = p :: r := by with_unfolding_all rfl
theorem w_sets (o p : Option D) (n : Nat) : (o :: r).set (n + 1) p = o :: r.set n p := by with_unfolding_all rfl
theorem w_wipe0 : wipeE ρ [] = ρ := by with_unfolding_all rfl
theorem w_wipes (i : Nat) (l : List Nat) : wipeE ρ (i :: l) = (wipeE ρ l).set i none := by with_unfolding_all rfl
theorem w_var (i : Nat) : WE (eVar i) R ρ L Q X = getK (slt ρ i) fun d => Q d L := WE_var i
theorem w_1 (op) (a : FE) : WE (e1 op a) R ρ L Q X = WE a R ρ L (fun x L1 => W (op x L1) Q X) X := WE_1 op a
theorem w_2 (op) (a b : FE) : WE (e2 op a b) R ρ L Q X = WE a R ρ L (fun x L1 => WE b R ρ L1 (fun y L2 => W (op x y L2) Q X) X) X := WE_2 op a b
theorem w_nil : WA aNil R ρ L A X = A [] L := by with_unfolding_all rfl
theorem w_cons (a : FE) (r : FA) : WA (aCons a r) R ρ L A X = WE a R ρ L (fun x L1 => WA r R ρ L1 (fun xs L2 => A (x :: xs) L2) X) X := WA_cons a r
theorem w_app (a : FA) (op) : WE (aApp a op) R ρ L Q X = WA a R ρ L (fun xs L1 => W (op xs L1) Q X) X := WE_app a op
theorem w_eif (t : FT) (a b : FE) : WE (eIf t a b) R ρ L Q X = WT t R ρ L (fun c L1 => ifK c (WE a R ρ L1 Q X) (WE b R ρ L1 Q X)) X := WE_if t a b
theorem w_truK (d : Bool) (k) : truK (some d) k = k d := by with_unfolding_all rfl
theorem w_and (a b : FE) : WE (eAnd a b) R ρ L Q X = WE a R ρ L (fun x L1 => truK (truthD L1 x) fun c => ifK c (WE b R ρ L1 Q X) (Q x L1)) X := WE_and a b
theorem w_or (a b : FE) : WE (eOr a b) R ρ L Q X = WE a R ρ L (fun x L1 => truK (truthD L1 x) fun c => ifK c (Q x L1) (WE b R ρ L1 Q X)) X := WE_or a b
theorem w_not (a : FE) : WE (eNot a) R ρ L Q X = WE a R ρ L (fun x L1 => truK (truthD L1 x) fun c => Q (.bl (!c)) L1) X := WE_not a
theorem w_call (i : Nat) (a : FA) : WE (eCall i a) R ρ L Q X = WA a R ρ L (fun xs L1 => W (R i xs L1) Q X) X := WE_call i a
theorem w_meth (m : Str) (tb) (o : FE) (a : FA) : WE (eMeth m tb o a) R ρ L Q X = WE o R ρ L (fun d L1 => methK m tb d L1 fun i => WA a R ρ L1 (fun xs L2 => W (R i (d :: xs) L2) Q X) X) X := WE_meth m tb o a
theorem w_nonK (k) : nonK .non k = k := by with_unfolding_all rfl
theorem w_make (c i : Nat) (a : FA) : WE (eMake c i a) R ρ L Q X = WA a R ρ L (fun xs L1 => W (R i (.ref L1.len :: xs) (L1.push (.ins c []))) (fun d L2 => nonK d (Q (.ref L1.len) L2)) X) X := WE_make c i a
theorem w_bm (ty : String) (op) (o : FE) (a : FA) : WE (eBM ty op o a) R ρ L Q X = WE o R ρ L (fun d L1 => ifK (tyIs ty d L1) (WA a R ρ L1 (fun xs L2 => W (op d xs L2) Q nX) X) False) X := WE_bm ty op o a
theorem w_sl (a : FE) (lo hi : FO) : WE (eSl a lo hi) R ρ L Q X = WE a R ρ L (fun d L1 => W (lo R ρ L1) (fun l L2 => W (hi R ρ L2) (fun h L3 => W (oSl d l h L3) Q X) X) X) X := WE_sl a lo hi
theorem w_bNo (O : Option Int → LH → Prop) : W (bNo R ρ L) O X = O none L := by with_unfolding_all rfl
theorem w_intK (i : Int) (k) : intK (.int i) k = k i := by with_unfolding_all rfl
theorem w_bAt (a : FE) (O : Option Int → LH → Prop) : W (bAt a R ρ L) O X = WE a R ρ L (fun d L1 => intK d fun i => O (some i) L1) X := W_bAt a O
def blK (d : D) (k : Bool → Prop) : Prop := match d with
  | .bl b => k b
  | _ => False
theorem w_blK (b : Bool) (k) : blK (.bl b) k = k b := by with_unfolding_all rfl
theorem blK_congr {d d' : D} (h : d = d') (k) : blK d k = blK d' k := by rw [h]
theorem nonK_congr {d d' : D} (h : d = d') (k) : nonK d k = nonK d' k := by rw [h]
theorem intK_congr {d d' : D} (h : d = d') (k) : intK d k = intK d' k := by rw [h]
theorem w_chn (op op') (a b c : FE) : WE (eChn op op' a b c) R ρ L Q X = WE a R ρ L (fun x L1 => WE b R ρ L1 (fun y L2 => W (op x y L2) (fun k L3 => blK k fun k => ifK k (WE c R ρ L3 (fun z L4 => W (op' y z L4) Q nX) X) (Q (.bl false) L3)) nX) X) X := by
  show W ((a R ρ L).bind _) Q X = _
  rw [W_bind]; show W _ _ _ = W _ _ _; congr 1; funext x L1
  rw [W_bind]; show W _ _ _ = W _ _ _; congr 1; funext y L2
  rw [W_bind, W_noExc]; congr 1; funext k L3
  cases k with
  | bl b =>
    cases b
    · with_unfolding_all rfl
    · show W ((c R ρ L3).bind _) Q X = _
      rw [W_bind]; show W _ _ _ = W _ _ _; congr 1; funext z L4
      with_unfolding_all exact W_noExc ..
  | _ => with_unfolding_all rfl
theorem w_tb1 (a : FE) : WT (tB1 a) R ρ L T X = WE a R ρ L (fun x L1 => blK x fun k => T k L1) X := by
  show W ((a R ρ L).bind _) T X = _
  rw [W_bind]; congr 1; funext x L1
  cases x <;> with_unfolding_all rfl
/-- a list built by a comprehension -/
structure WL (c : FC) (R : Rec) (ρ : Slt) (it : Itr) (L : LH) (Y : List D → LH → Prop) (X : XP) : Prop where
  run : W (lcRun (fun x M => c R x ρ M) it L) Y X
theorem WL_eq {c : FC} {R : Rec} {ρ : Slt} {it : Itr} {L : LH} {Y : List D → LH → Prop} {X : XP} : W (lcRun (fun x M => c R x ρ M) it L) Y X = WL c R ρ it L Y X := propext ⟨fun h => ⟨h⟩, fun h => h.run⟩
theorem WL_congr (c : FC) (R) {ρ ρ' : Slt} (h : ρ = ρ') {it it' : Itr} (h1 : it = it') {L L' : LH} (h2 : L = L') (Y) (X : XP) : WL c R ρ it L Y X = WL c R ρ' it' L' Y X := by rw [h, h1, h2]
theorem w_lc (vs : List Nat) (it : FI) (c : FC) : WE (eLc vs it c) R ρ L Q X = WI it R ρ L (fun j L1 => WL c R (wipeE ρ vs) j L1 (fun ys L2 => Q (.ref L2.len) (L2.push (.lst ys))) X) X := by
  rw [show WE (eLc vs it c) R ρ L Q X = _ from WE_lc vs it c]
  simp only [WL_eq]
theorem w_turn (g : FG) (t : FT) (e : FE) (x : D) : WC (cTurn g t e) R x ρ L O X = WG g R x ρ L (fun ρ1 L1 => WT t R ρ1 L1 (fun c L2 => ifK c (WE e R ρ1 L2 (fun y L3 => O (some y) L3) nX) (O none L2)) nX) nX := WC_turn g t e x
theorem w_yes : WT tYesT R ρ L T X = T true L := by with_unfolding_all rfl
theorem w_tv (a : FE) : WT (tV a) R ρ L T X = WE a R ρ L (fun x L1 => truK (truthD L1 x) fun c => T c L1) X := WT_v a
theorem w_tand (a b : FT) : WT (tAnd a b) R ρ L T X = WT a R ρ L (fun c L1 => ifK c (WT b R ρ L1 T X) (T false L1)) X := WT_and a b
theorem w_tor (a b : FT) : WT (tOr a b) R ρ L T X = WT a R ρ L (fun c L1 => ifK c (T true L1) (WT b R ρ L1 T X)) X := WT_or a b
theorem w_tnot (a : FT) : WT (tNot a) R ρ L T X = WT a R ρ L (fun c L1 => T (!c) L1) X := WT_not a
theorem w_nm (i : Nat) (d : D) : WG (gNm i) R d ρ L Z X = Z (ρ.set i (some d)) L := by with_unfolding_all rfl
theorem w_sub (o i : FE) (d : D) : WG (gSub o i) R d ρ L Z X = WE o R ρ L (fun x L1 => WE i R ρ L1 (fun y L2 => W (oSet x y d L2) (fun _ L3 => Z ρ L3) X) X) X := WG_sub o i d
def WGs (g : FGs) (R : Rec) (ds : List D) (ρ : Slt) (L : LH) (Z : Slt → LH → Prop) (X : XP) : Prop := W (g R ds ρ L) Z X
theorem WGs_congr (g : FGs) (R) {ds ds' : List D} (h0 : ds = ds') {ρ ρ' : Slt} (h : ρ = ρ') {L L' : LH} (h2 : L = L') (Z) (X : XP) : WGs g R ds ρ L Z X = WGs g R ds' ρ' L' Z X := by rw [h0, h, h2]
theorem w_gnil : WGs gsNil R [] ρ L Z X = Z ρ L := by with_unfolding_all rfl
theorem w_gcons (g : FG) (k : FGs) (d : D) (l : List D) : WGs (gsCons g k) R (d :: l) ρ L Z X = WG g R d ρ L (fun ρ1 L1 => WGs k R l ρ1 L1 Z X) X := by with_unfolding_all exact W_bind ..
theorem w_gtp (n : Nat) (g : FGs) (l : List D) : WG (gTp n g) R (.tup l) ρ L Z X = (l.length = n ∧ WGs g R l ρ L Z nX) := by
  show W (if l.length = n then noExc (g R l ρ L) else .bad) Z X = _
  by_cases h : l.length = n
  · rw [if_pos h, W_noExc]; simp [h, WGs]
  · rw [if_neg h]; simp [h, W]
theorem w_knx (b) : seqK b R S X (.nx, ρ) L = WS b R ρ L S X := by with_unfolding_all rfl
theorem w_krt (b) (d) : seqK b R S X (.rt d, ρ) L = S (.rt d, ρ) L := by with_unfolding_all rfl
theorem w_kbk (b) : seqK b R S X (.bk, ρ) L = S (.bk, ρ) L := by with_unfolding_all rfl
theorem w_kct (b) : seqK b R S X (.ct, ρ) L = S (.ct, ρ) L := by with_unfolding_all rfl
theorem w_kex (b) (c fs) : seqK b R S X (.ex c fs, ρ) L = S (.ex c fs, ρ) L := by with_unfolding_all rfl
theorem w_seq (a b : FS) : WS (sSeq a b) R ρ L S X = WS a R ρ L (seqK b R S X) X := WS_seq a b
theorem w_next : WS sNext R ρ L S X = S (.nx, ρ) L := by with_unfolding_all rfl
theorem w_asg (e : FE) (g : FG) : WS (sAsg e g) R ρ L S X = WE e R ρ L (fun d L1 => WG g R d ρ L1 (fun ρ1 L2 => S (.nx, ρ1) L2) (fun c fs L2 => S (.ex c fs, ρ) L2)) (fun c fs L1 => S (.ex c fs, ρ) L1) := WS_asg e g
theorem w_expr (e : FE) : WS (sExpr e) R ρ L S X = WE e R ρ L (fun _ L1 => S (.nx, ρ) L1) (fun c fs L1 => S (.ex c fs, ρ) L1) := WS_expr e
theorem w_ret (e : FE) : WS (sRet e) R ρ L S X = WE e R ρ L (fun d L1 => S (.rt d, ρ) L1) (fun c fs L1 => S (.ex c fs, ρ) L1) := WS_ret e
theorem w_retN : WS sRetN R ρ L S X = S (.rt .non, ρ) L := by with_unfolding_all rfl
theorem w_brk : WS sBrk R ρ L S X = S (.bk, ρ) L := by with_unfolding_all rfl
theorem w_cnt : WS sCnt R ρ L S X = S (.ct, ρ) L := by with_unfolding_all rfl
theorem w_if (t : FT) (a b : FS) : WS (sIf t a b) R ρ L S X = WT t R ρ L (fun c L1 => ifK c (WS a R ρ L1 S X) (WS b R ρ L1 S X)) (fun c fs L1 => S (.ex c fs, ρ) L1) := WS_if t a b
theorem w_aug (i : Nat) (op) (e : FE) : WS (sAug i op e) R ρ L S X = getK (slt ρ i) fun x => WE e R ρ L (fun y L1 => W (op x y L1) (fun z L2 => S (.nx, ρ.set i (some z)) L2) (fun c fs L2 => S (.ex c fs, ρ) L2)) (fun c fs L1 => S (.ex c fs, ρ) L1) := WS_aug i op e
theorem w_fset (cs : List Nat) (f : Str) (o e : FE) : WS (sFldSet cs f o e) R ρ L S X = WE e R ρ L (fun v L1 => WE o R ρ L1 (fun x L2 => W (oSetF cs f x v L2) (fun _ L3 => S (.nx, ρ) L3) (fun c fs L3 => S (.ex c fs, ρ) L3)) (fun c fs L2 => S (.ex c fs, ρ) L2)) (fun c fs L1 => S (.ex c fs, ρ) L1) := WS_fset cs f o e
theorem w_saug (o i : FE) (op) (e : FE) : WS (sSubAug o i op e) R ρ L S X = WE o R ρ L (fun x L1 => WE i R ρ L1 (fun y L2 => W (oIxL x y L2) (fun z L3 => WE e R ρ L3 (fun v L4 => W (op z v L4) (fun w L5 => W (oSet x y w L5) (fun _ L6 => S (.nx, ρ) L6) (fun c fs L2 => S (.ex c fs, ρ) L2)) (fun c fs L2 => S (.ex c fs, ρ) L2)) (fun c fs L2 => S (.ex c fs, ρ) L2)) (fun c fs L2 => S (.ex c fs, ρ) L2)) (fun c fs L2 => S (.ex c fs, ρ) L2)) (fun c fs L2 => S (.ex c fs, ρ) L2) := WS_saug o i op e
/-- for: the target, then the body -/
structure WFr (g : FG) (body : FS) (R : Rec) (it : Itr) (ρ : Slt) (L : LH) (S : Fl × Slt → LH → Prop) (X : XP) : Prop where
  run : W (forRun (fun x ρ1 M => (g R x ρ1 M).st ρ1 fun ρ2 M1 => body R ρ2 M1) it ρ L) S X
theorem WFr_eq {g : FG} {body : FS} {R : Rec} {it : Itr} {ρ : Slt} {L : LH} {S : Fl × Slt → LH → Prop} {X : XP} : W (forRun (fun x ρ1 M => (g R x ρ1 M).st ρ1 fun ρ2 M1 => body R ρ2 M1) it ρ L) S X = WFr g body R it ρ L S X := propext ⟨fun h => ⟨h⟩, fun h => h.run⟩
theorem WFr_congr (g body R) {it it' : Itr} (h : it = it') {ρ ρ' : Slt} (h1 : ρ = ρ') {L L' : LH} (h2 : L = L') (S) (X : XP) : WFr g body R it ρ L S X = WFr g body R it' ρ' L' S X := by rw [h, h1, h2]
theorem w_for (g : FG) (it : FI) (body : FS) : WS (sFor g it body) R ρ L S X = WI it R ρ L (fun j L1 => WFr g body R j ρ L1 S X) (fun c fs L1 => S (.ex c fs, ρ) L1) := by
  rw [show WS (sFor g it body) R ρ L S X = _ from WS_for g it body]
  unfold WF
  simp only [WFr_eq]
structure WWh (t : FT) (body : FS) (R : Rec) (n : Nat) (ρ : Slt) (L : LH) (S : Fl × Slt → LH → Prop) (X : XP) : Prop where
  run : W (whileN (t R) (body R) n ρ L) S X
theorem WWh_congr (t body R n) {ρ ρ' : Slt} (h1 : ρ = ρ') {L L' : LH} (h2 : L = L') (S) (X : XP) : WWh t body R n ρ L S X = WWh t body R n ρ' L' S X := by rw [h1, h2]
theorem w_while (t : FT) (body : FS) : WS (sWhile t body) R ρ L S X = WWh t body R fuel ρ L S X := propext ⟨fun h => ⟨h⟩, fun h => h.run⟩
theorem w_ie (a : FE) : WI (iE a) R ρ L I X = WE a R ρ L (fun d L1 => W (itOf d L1) I X) X := WI_e a
theorem w_rt (d) : finK Q X (.rt d, ρ) L = Q d L := by with_unfolding_all rfl
theorem w_nx : finK Q X (.nx, ρ) L = Q .non L := by with_unfolding_all rfl
theorem w_ex (c fs) : finK Q X (.ex c fs, ρ) L = X c fs L := by with_unfolding_all rfl
/-- what is walked, by arguments -/
theorem w_rg1 (a : FE) : WI (iRange1 (aCons a aNil)) R ρ L I X = WE a R ρ L (fun d L1 => intK d fun j => in62 j = true ∧ I (.pur (rgInts 0 j.toNat)) L1) X := by
  show W ((aCons a aNil R ρ L).bind _) I X = _
  rw [W_bind]
  show WA (aCons a aNil) R ρ L _ X = _
  rw [WA_cons]; congr 1; funext d L1
  show W _ _ _ = _
  cases d with
  | int j =>
    show W (.ok [] L1) _ X = _
    rw [W_ok]
    show W (if in62 j then _ else _) I X = _
    cases h : in62 j <;> simp [h, W, intK]
  | _ => with_unfolding_all rfl
theorem w_rg2 (a b : FE) : WI (iRange2 (aCons a (aCons b aNil))) R ρ L I X = WE a R ρ L (fun d L1 => WE b R ρ L1 (fun e L2 => intK d fun i => intK e fun j => in62 i = true ∧ in62 j = true ∧ I (.pur (rgInts i (j - i).toNat)) L2) X) X := by
  show W ((aCons a (aCons b aNil) R ρ L).bind _) I X = _
  rw [W_bind]
  show WA (aCons a (aCons b aNil)) R ρ L _ X = _
  rw [WA_cons]; congr 1; funext d L1
  rw [WA_cons]; congr 1; funext e L2
  show W _ _ _ = _
  cases d with
  | int i =>
    cases e with
    | int j =>
      show W (.ok [] L2) _ X = _
      rw [W_ok]
      show W (if in62 i && in62 j then _ else _) I X = _
      cases h : in62 i <;> cases h2 : in62 j <;> simp [h, h2, W, intK]
    | _ => with_unfolding_all rfl
  | _ => with_unfolding_all rfl
theorem w_enu (a : FA) : WI (iEnuA a) R ρ L I X = WA a R ρ L (fun ds L1 => W (itEnuA ds L1) I X) X := by with_unfolding_all exact W_bind ..
theorem w_zip2 (a : FA) : WI (iZip2 a) R ρ L I X = WA a R ρ L (fun ds L1 => W (itZip ds L1) I X) X := by with_unfolding_all exact W_bind ..
theorem w_zipT (a : FA) : WI (iZipT a) R ρ L I X = WA a R ρ L (fun ds L1 => W (itZipS ds L1) I X) X := by with_unfolding_all exact W_bind ..
theorem w_rgl1 (f) (a : FE) : WE (rg1 f a) R ρ L Q X = WE a R ρ L (fun d L1 => intK d fun j => rgOk 0 j = true ∧ W (f 0 j L1) Q X) X := by
  show W ((a R ρ L).bind _) Q X = _
  rw [W_bind]; show W _ _ _ = W _ _ _; congr 1; funext d L1
  cases d with
  | int j =>
    show W (if rgOk 0 j then _ else _) Q X = _
    cases h : rgOk 0 j <;> simp [h, W, intK]
  | _ => with_unfolding_all rfl
end

/-! ### operators of values -/
section
variable {L : LH} {i j : Int} {x y : Str} {l m : List D} {a b : D} {n k : Nat} {xs ys : List D}
theorem o_add_i : oAdd (.int i) (.int j) L = .ok (.int (i + j)) L := rfl
theorem o_sub_i : oSub (.int i) (.int j) L = .ok (.int (i - j)) L := rfl
theorem o_lt_i : oLt (.int i) (.int j) L = .ok (.bl (decide (i < j))) L := rfl
theorem o_le_i : oLe (.int i) (.int j) L = .ok (.bl (decide (i ≤ j))) L := rfl
theorem o_gt_i : oGt (.int i) (.int j) L = .ok (.bl (decide (j < i))) L := rfl
theorem o_ge_i : oGe (.int i) (.int j) L = .ok (.bl (decide (j ≤ i))) L := rfl
theorem o_is_n : oIs a .non L = .ok (.bl (isNon a)) L := by cases a <;> with_unfolding_all rfl
theorem o_is_b {p q : Bool} : oIs (.bl p) (.bl q) L = .ok (.bl (decide (p = q))) L := rfl
theorem o_isnot_b {p q : Bool} : oIsNot (.bl p) (.bl q) L = .ok (.bl (!decide (p = q))) L := rfl
theorem o_isnot_n : oIsNot a .non L = .ok (.bl (!isNon a)) L := by cases a <;> with_unfolding_all rfl
theorem o_isn_non : isNon .non = true := rfl
theorem o_isn_int : isNon (.int i) = false := rfl
theorem o_isn_tup : isNon (.tup l) = false := rfl
theorem o_neg_i : oNeg (.int i) L = .ok (.int (-i)) L := rfl
theorem o_tru_b {p : Bool} : truthD L (.bl p) = some p := rfl
theorem o_int_i : bInt [.int i] L = .ok (.int i) L := rfl
theorem o_int_b {p : Bool} : bInt [.bl p] L = .ok (.int (if p then 1 else 0)) L := rfl
theorem o_len_t : bLen [.tup l] L = .ok (.int l.length) L := rfl
theorem o_len_l (h : L.get n = some (.lst xs)) : bLen [.ref n] L = .ok (.int xs.length) L := by unfold bLen; simp only [h]
theorem o_tup_t : bTup [.tup l] L = .ok (.tup l) L := rfl
theorem o_tup_l (h : L.get n = some (.lst xs)) : bTup [.ref n] L = .ok (.tup xs) L := by unfold bTup; simp only [h]
theorem o_lst_l (h : L.get n = some (.lst xs)) : bLst [.ref n] L = .ok (.ref L.len) (L.push (.lst xs)) := by unfold bLst; simp only [h]
theorem o_lst_t : bLst [.tup l] L = .ok (.ref L.len) (L.push (.lst l)) := rfl
theorem o_max2 : bMaxA [.int i, .int j] L = .ok (.int (if j > i then j else i)) L := rfl
theorem o_min2 : bMinA [.int i, .int j] L = .ok (.int (if j < i then j else i)) L := rfl
theorem o_ix_t (h : l[n]? = some a) : oIx (.tup l) (.int (n : Int)) L = .ok a L := by
  have h1 : n < l.length := (List.getElem?_eq_some_iff.mp h).1
  unfold oIx ixOf
  simp only
  rw [if_pos (by omega), if_pos (by omega)]
  simp [h]
theorem o_ix_l (hg : L.get k = some (.lst l)) (h : l[n]? = some a) : oIx (.ref k) (.int (n : Int)) L = .ok a L := by
  have h1 : n < l.length := (List.getElem?_eq_some_iff.mp h).1
  unfold oIx ixOf
  simp only [hg]
  rw [if_pos (by omega), if_pos (by omega)]
  simp [h]
theorem o_ix_0 : oIx (.tup (a :: l)) (.int 0) L = .ok a L := o_ix_t (n := 0) rfl
theorem o_ix_1 : oIx (.tup (a :: b :: l)) (.int 1) L = .ok b L := o_ix_t (n := 1) rfl
theorem o_ix_2 {c : D} : oIx (.tup (a :: b :: c :: l)) (.int 2) L = .ok c L := o_ix_t (n := 2) rfl
theorem o_ix_3 {c d : D} : oIx (.tup (a :: b :: c :: d :: l)) (.int 3) L = .ok d L := o_ix_t (n := 3) rfl
theorem o_set_l (hg : L.get k = some (.lst l)) (h : n < l.length) : oSet (.ref k) (.int (n : Int)) a L = .ok () (L.put k (.lst (l.set n a))) := by
  unfold oSet ixOf
  simp only [hg]
  rw [if_pos (by omega), if_pos (by omega)]
  simp
theorem o_app_l (hg : L.get k = some (.lst l)) (h : l.length < sizeLine) : mAppend (.ref k) [a] L = .ok .non (L.put k (.lst (l ++ [a]))) := by
  unfold mAppend
  simp only [hg, h, if_true]
theorem ty_l (hg : L.get k = some (.lst l)) : tyIs "list" (.ref k) L = true := by
  unfold tyIs
  simp only [hg]; rfl
theorem ty_d {kvs} (hg : L.get k = some (.dct kvs)) : tyIs "dict" (.ref k) L = true := by
  unfold tyIs
  simp only [hg]; rfl
theorem it_t : itOf (.tup l) L = .ok (.pur l) L := rfl
theorem it_r : itOf (.rol l) L = .ok (.pur l) L := rfl
theorem it_l (hg : L.get k = some (.lst l)) : itOf (.ref k) L = .ok (.dyn (listAt k) (l.length + 1)) L := by
  unfold itOf
  simp only [hg]
theorem enu_t : itEnuA [.tup l] L = .ok (.pur (enuL 0 l)) L := rfl
theorem zip_t : itZip [.tup l, .tup m] L = .ok (.pur (zipL l m)) L := rfl
theorem zipS_t (h : l.length = m.length) : itZipS [.tup l, .tup m] L = .ok (.pur (zipL l m)) L := by
  unfold itZipS
  simp only [h, if_true]
theorem o_tupd (h : xs.length ≤ sizeLine) : oTup xs L = .ok (.tup xs) L := by unfold oTup; rw [if_pos h]
theorem o_lstd (h : xs.length ≤ sizeLine) : oLst xs L = .ok (.ref L.len) (L.push (.lst xs)) := by unfold oLst; rw [if_pos h]
theorem o_tup0 : oTup [] L = .ok (.tup []) L := o_tupd (by decide)
theorem o_tup1 : oTup [a] L = .ok (.tup [a]) L := o_tupd (by show 1 ≤ _; decide)
theorem o_tup2 : oTup [a, b] L = .ok (.tup [a, b]) L := o_tupd (by show 2 ≤ _; decide)
theorem o_tup3 {c : D} : oTup [a, b, c] L = .ok (.tup [a, b, c]) L := o_tupd (by show 3 ≤ _; decide)
theorem o_tup4 {c d : D} : oTup [a, b, c, d] L = .ok (.tup [a, b, c, d]) L := o_tupd (by show 4 ≤ _; decide)
theorem o_lst0 : oLst [] L = .ok (.ref L.len) (L.push (.lst [])) := o_lstd (by decide)
theorem o_lst1 : oLst [a] L = .ok (.ref L.len) (L.push (.lst [a])) := o_lstd (by show 1 ≤ _; decide)
theorem o_lst2 : oLst [a, b] L = .ok (.ref L.len) (L.push (.lst [a, b])) := o_lstd (by show 2 ≤ _; decide)
theorem o_lst3 {c : D} : oLst [a, b, c] L = .ok (.ref L.len) (L.push (.lst [a, b, c])) := o_lstd (by show 3 ≤ _; decide)
theorem o_lst4 {c d : D} : oLst [a, b, c, d] L = .ok (.ref L.len) (L.push (.lst [a, b, c, d])) := o_lstd (by show 4 ≤ _; decide)
theorem g_push {c : Cell} : (L.push c).get L.len = some c := by rw [LH.get_push, if_pos rfl]
end

/-! ### heaps that grow -/
structure Gr (S : List Nat) (L M : LH) : Prop where
  len : L.len ≤ M.len
  get : ∀ n, n < L.len → n ∉ S → M.get n = L.get n
section
variable {S S' : List Nat} {L M N : LH} {n : Nat} {c : Cell}
theorem Gr.refl : Gr S L L := ⟨Nat.le_refl _, fun _ _ _ => rfl⟩
theorem Gr.trans (a : Gr S L M) (b : Gr S M N) : Gr S L N := ⟨Nat.le_trans a.len b.len, fun n h q => (b.get n (Nat.lt_of_lt_of_le h a.len) q).trans (a.get n h q)⟩
theorem Gr.mono (a : Gr S L M) (h : ∀ n, n ∈ S → n ∈ S' ∨ L.len ≤ n) : Gr S' L M := ⟨a.len, fun n h1 q => a.get n h1 fun z => by
  rcases h n z with h | h
  · exact q h
  · omega⟩
theorem Gr.of0 (a : Gr [] L M) : Gr S L M := a.mono fun _ h => absurd h (by simp)
theorem Gr.push (a : Gr S L M) (c : Cell) : Gr S L (M.push c) := ⟨by rw [LH.push_len]; have := a.len; omega, fun n h q => by rw [LH.get_push, if_neg (by have := a.len; omega)]; exact a.get n h q⟩
theorem Gr.put (a : Gr S L M) (c : Cell) (h : L.len ≤ n ∨ n ∈ S) (hm : n < M.len) : Gr S L (M.put n c) := ⟨a.len, fun k h1 q => by
  rw [LH.get_put _ _ hm, if_neg]
  · exact a.get k h1 q
  · rintro rfl
    rcases h with h | h
    · omega
    · exact q h⟩
theorem Gr.at (a : Gr S L M) (h : L.get n = some c) (q : n ∉ S) : M.get n = some c := by rw [a.get n (LH.get_lt h) q]; exact h
theorem Gr.at0 (a : Gr [] L M) (h : L.get n = some c) : M.get n = some c := a.at h (by simp)
theorem g_put (h : n < L.len) : (L.put n c).get n = some c := by rw [LH.get_put _ _ h, if_pos rfl]
theorem g_put_ne {m : Nat} (h : n < L.len) (e : m ≠ n) : (L.put n c).get m = L.get m := by rw [LH.get_put _ _ h, if_neg e]
theorem g_push_ne {m : Nat} (e : m ≠ L.len) : (L.push c).get m = L.get m := by rw [LH.get_push, if_neg e]
theorem g_push_old {m : Nat} {d : Cell} (h : L.get m = some d) : (L.push c).get m = some d := by rw [LH.get_push, if_neg (by have := LH.get_lt h; omega)]; exact h
end

/-! ### loops -/
def loopK (I : Slt → LH → Prop) (S : Fl × Slt → LH → Prop) (p : Fl × Slt) (L : LH) : Prop := match p.1 with
  | .nx => I p.2 L
  | .ct => I p.2 L
  | .bk => S (.nx, p.2) L
  | f => S (f, p.2) L
section
variable {R : Rec} {ρ : Slt} {L : LH} {X : XP} {S : Fl × Slt → LH → Prop} {g : FG} {body : FS} {c : FC} {I : Slt → LH → Prop}
theorem w_lnx : loopK I S (.nx, ρ) L = I ρ L := rfl
theorem w_lct : loopK I S (.ct, ρ) L = I ρ L := rfl
theorem w_lbk : loopK I S (.bk, ρ) L = S (.nx, ρ) L := rfl
theorem w_lrt (d) : loopK I S (.rt d, ρ) L = S (.rt d, ρ) L := rfl
theorem w_lex (k fs) : loopK I S (.ex k fs, ρ) L = S (.ex k fs, ρ) L := rfl
theorem body_eq' (x : D) (Q : Fl × Slt → LH → Prop) : W ((g R x ρ L).st ρ fun ρ2 M1 => body R ρ2 M1) Q X = WG g R x ρ L (fun ρ2 M1 => WS body R ρ2 M1 Q X) (fun k fs M => Q (.ex k fs, ρ) M) := by with_unfolding_all exact W_st ..
/-- a loop over items: by what holds behind each beginning of them -/
theorem for_pre {α : Type} {enc : α → D} (J : List α → Slt → LH → Prop) : ∀ (l pre : List α) (ρ : Slt) (L : LH), J pre ρ L →
    (∀ p a q ρ L, pre ++ l = p ++ a :: q → J p ρ L → WG g R (enc a) ρ L (fun ρ2 M1 => WS body R ρ2 M1 (loopK (J (p ++ [a])) S) X) (fun k fs M => S (.ex k fs, ρ) M)) →
    (∀ ρ L, J (pre ++ l) ρ L → S (.nx, ρ) L) → W (forPur (fun x ρ1 M => (g R x ρ1 M).st ρ1 fun ρ2 M1 => body R ρ2 M1) (l.map enc) ρ L) S X
  | [], pre, ρ, L, h0, hs, he => by
    show W (.ok (.nx, ρ) L) S X
    rw [W_ok]
    rw [List.append_nil] at he
    exact he ρ L h0
  | a :: l, pre, ρ, L, h0, hs, he => by
    have h1 := hs pre a l ρ L rfl h0
    have ih := fun ρ L (h : J (pre ++ [a]) ρ L) => for_pre J l (pre ++ [a]) ρ L h (fun p b q ρ L e h => hs p b q ρ L (by rw [← e, List.append_assoc]; rfl) h) (fun ρ L h => he ρ L (by rw [← List.append_cons] at h; exact h))
    rw [List.map_cons]
    unfold forPur
    rw [W_bind]
    have h2 : W ((g R (enc a) ρ L).st ρ fun ρ2 M1 => body R ρ2 M1) (loopK (J (pre ++ [a])) S) X := by rw [body_eq']; exact h1
    refine W_mono h2 (fun p M hp => ?_) fun _ _ _ h => h
    obtain ⟨f, ρ1⟩ := p
    cases f with
    | nx => exact ih ρ1 M hp
    | ct => exact ih ρ1 M hp
    | bk => with_unfolding_all exact hp
    | rt d => with_unfolding_all exact hp
    | ex c fs => with_unfolding_all exact hp
theorem forW {α : Type} {enc : α → D} {l : List α} (J : List α → Slt → LH → Prop) (h0 : J [] ρ L)
    (hs : ∀ p a q ρ L, l = p ++ a :: q → J p ρ L → WG g R (enc a) ρ L (fun ρ2 M1 => WS body R ρ2 M1 (loopK (J (p ++ [a])) S) X) (fun k fs M => S (.ex k fs, ρ) M))
    (he : ∀ ρ L, J l ρ L → S (.nx, ρ) L) : WFr g body R (.pur (l.map enc)) ρ L S X := ⟨for_pre J l [] ρ L h0 hs he⟩
/-! a list that stays as it is while it is walked -/
theorem forD_aux {α : Type} {enc : α → D} {n : Nat} (J : List α → Slt → LH → Prop) (whole : List α) (hl : ∀ p ρ L, J p ρ L → L.get n = some (.lst (whole.map enc))) : ∀ (l pre : List α) (k : Nat) (ρ : Slt) (L : LH), whole = pre ++ l → l.length < k → J pre ρ L →
    (∀ p a q ρ L, whole = p ++ a :: q → J p ρ L → WG g R (enc a) ρ L (fun ρ2 M1 => WS body R ρ2 M1 (loopK (J (p ++ [a])) S) X) (fun k fs M => S (.ex k fs, ρ) M)) →
    (∀ ρ L, J whole ρ L → S (.nx, ρ) L) → W (forDyn (fun x ρ1 M => (g R x ρ1 M).st ρ1 fun ρ2 M1 => body R ρ2 M1) (listAt n) k pre.length ρ L) S X
  | _, _, 0, _, _, _, h, _, _, _ => absurd h (Nat.not_lt_zero _)
  | [], pre, k + 1, ρ, L, e, hk, h0, hs, he => by
    unfold forDyn
    have e1 : listAt n L pre.length = some none := by
      unfold listAt
      rw [hl _ _ _ h0]
      rw [List.append_nil] at e
      simp [e]
    rw [e1]
    rw [List.append_nil] at e
    subst e
    with_unfolding_all exact he ρ L h0
  | a :: l, pre, k + 1, ρ, L, e, hk, h0, hs, he => by
    unfold forDyn
    have e1 : listAt n L pre.length = some (some (enc a)) := by
      unfold listAt
      rw [hl _ _ _ h0]
      simp [e]
    rw [e1]
    have h1 := hs pre a l ρ L e h0
    have ih := fun ρ L (h : J (pre ++ [a]) ρ L) => forD_aux J whole hl l (pre ++ [a]) k ρ L (by rw [e, List.append_assoc]; rfl) (by rw [List.length_cons] at hk; omega) h hs he
    rw [List.length_append, List.length_singleton] at ih
    dsimp only
    rw [W_bind]
    have h2 : W ((g R (enc a) ρ L).st ρ fun ρ2 M1 => body R ρ2 M1) (loopK (J (pre ++ [a])) S) X := by rw [body_eq']; exact h1
    refine W_mono h2 (fun p M hp => ?_) fun _ _ _ h => h
    obtain ⟨f, ρ1⟩ := p
    cases f with
    | nx => exact ih ρ1 M hp
    | ct => exact ih ρ1 M hp
    | bk => with_unfolding_all exact hp
    | rt d => with_unfolding_all exact hp
    | ex c fs => with_unfolding_all exact hp
theorem forD {α : Type} {enc : α → D} {l : List α} {n k : Nat} (J : List α → Slt → LH → Prop) (hk : l.length < k) (hl : ∀ p ρ L, J p ρ L → L.get n = some (.lst (l.map enc))) (h0 : J [] ρ L)
    (hs : ∀ p a q ρ L, l = p ++ a :: q → J p ρ L → WG g R (enc a) ρ L (fun ρ2 M1 => WS body R ρ2 M1 (loopK (J (p ++ [a])) S) X) (fun k fs M => S (.ex k fs, ρ) M))
    (he : ∀ ρ L, J l ρ L → S (.nx, ρ) L) : WFr g body R (.dyn (listAt n) k) ρ L S X := ⟨forD_aux J l hl l [] k ρ L rfl hk h0 hs he⟩
/-- one turn of a comprehension -/
def lcK (J : List D → LH → Prop) (ys : List D) (o : Option D) (L : LH) : Prop := match o with
  | none => J ys L
  | some y => J (ys ++ [y]) L
theorem w_lcn {J : List D → LH → Prop} {ys} : lcK J ys none L = J ys L := rfl
theorem w_lcs {J : List D → LH → Prop} {ys y} : lcK J ys (some y) L = J (ys ++ [y]) L := rfl
theorem lc_pre {α : Type} {enc : α → D} {Y : List D → LH → Prop} (J : List α → List D → LH → Prop) : ∀ (l pre : List α) (ys : List D) (L : LH), ys.length ≤ pre.length → (pre ++ l).length ≤ sizeLine → J pre ys L →
    (∀ p a q ys L, pre ++ l = p ++ a :: q → ys.length ≤ p.length → J p ys L → WC c R (enc a) ρ L (lcK (J (p ++ [a])) ys) X) →
    (∀ ys L, ys.length ≤ (pre ++ l).length → J (pre ++ l) ys L → Y ys L) → W (lcPur (fun x M => c R x ρ M) (l.map enc) ys L) Y X
  | [], pre, ys, L, hy, hz, h0, hs, he => by
    show W (.ok ys L) Y X
    rw [W_ok]
    rw [List.append_nil] at he
    exact he ys L hy h0
  | a :: l, pre, ys, L, hy, hz, h0, hs, he => by
    have h1 := hs pre a l ys L rfl hy h0
    have ih := fun ys L hy (h : J (pre ++ [a]) ys L) => lc_pre J l (pre ++ [a]) ys L hy (by rw [← List.append_cons]; exact hz) h (fun p b q ys L e hy h => hs p b q ys L (by rw [← e, List.append_assoc]; rfl) hy h) (fun ys L hy h => he ys L (by rw [← List.append_cons] at hy; exact hy) (by rw [← List.append_cons] at h; exact h))
    show W (lcPur _ (enc a :: l.map enc) ys L) Y X
    unfold lcPur
    rw [W_bind]
    refine W_mono (show W (c R (enc a) ρ L) (lcK (J (pre ++ [a])) ys) X from h1) (fun o M ho => ?_) fun _ _ _ h => h
    cases o with
    | none => exact ih ys M (by rw [List.length_append, List.length_singleton]; omega) ho
    | some y =>
      show W (if ys.length < sizeLine then _ else _) Y X
      rw [if_pos (by rw [List.length_append, List.length_cons] at hz; omega)]
      exact ih (ys ++ [y]) M (by rw [List.length_append, List.length_append, List.length_singleton, List.length_singleton]; omega) ho
theorem lcW {α : Type} {enc : α → D} {l : List α} {Y : List D → LH → Prop} (J : List α → List D → LH → Prop) (hz : l.length ≤ sizeLine) (h0 : J [] [] L)
    (hs : ∀ p a q ys L, l = p ++ a :: q → ys.length ≤ p.length → J p ys L → WC c R (enc a) ρ L (lcK (J (p ++ [a])) ys) X)
    (he : ∀ ys L, ys.length ≤ l.length → J l ys L → Y ys L) : WL c R ρ (.pur (l.map enc)) L Y X := ⟨lc_pre J l [] [] L (Nat.le_refl _) hz h0 hs he⟩
theorem lcD_aux {α : Type} {enc : α → D} {n : Nat} {Y : List D → LH → Prop} (J : List α → List D → LH → Prop) (whole : List α) (hz : whole.length ≤ sizeLine) (hl : ∀ p ys L, J p ys L → L.get n = some (.lst (whole.map enc))) : ∀ (l pre : List α) (k : Nat) (ys : List D) (L : LH), whole = pre ++ l → l.length < k → ys.length ≤ pre.length → J pre ys L →
    (∀ p a q ys L, whole = p ++ a :: q → ys.length ≤ p.length → J p ys L → WC c R (enc a) ρ L (lcK (J (p ++ [a])) ys) X) →
    (∀ ys L, ys.length ≤ whole.length → J whole ys L → Y ys L) → W (lcDyn (fun x M => c R x ρ M) (listAt n) k pre.length ys L) Y X
  | _, _, 0, _, _, _, h, _, _, _, _ => absurd h (Nat.not_lt_zero _)
  | [], pre, k + 1, ys, L, e, hk, hy, h0, hs, he => by
    unfold lcDyn
    have e1 : listAt n L pre.length = some none := by
      unfold listAt
      rw [hl _ _ _ h0]
      rw [List.append_nil] at e
      simp [e]
    rw [e1]
    rw [List.append_nil] at e
    subst e
    with_unfolding_all exact he ys L hy h0
  | a :: l, pre, k + 1, ys, L, e, hk, hy, h0, hs, he => by
    unfold lcDyn
    have e1 : listAt n L pre.length = some (some (enc a)) := by
      unfold listAt
      rw [hl _ _ _ h0]
      simp [e]
    rw [e1]
    have h1 := hs pre a l ys L e hy h0
    have ih := fun ys L hy (h : J (pre ++ [a]) ys L) => lcD_aux J whole hz hl l (pre ++ [a]) k ys L (by rw [e, List.append_assoc]; rfl) (by rw [List.length_cons] at hk; omega) hy h hs he
    rw [List.length_append, List.length_singleton] at ih
    dsimp only
    rw [W_bind]
    refine W_mono (show W (c R (enc a) ρ L) (lcK (J (pre ++ [a])) ys) X from h1) (fun o M ho => ?_) fun _ _ _ h => h
    cases o with
    | none => exact ih ys M (by omega) ho
    | some y =>
      show W (if ys.length < sizeLine then _ else _) Y X
      rw [if_pos (by rw [e, List.length_append, List.length_cons] at hz; omega)]
      exact ih (ys ++ [y]) M (by rw [List.length_append, List.length_singleton]; omega) ho
theorem lcD {α : Type} {enc : α → D} {l : List α} {n k : Nat} {Y : List D → LH → Prop} (J : List α → List D → LH → Prop) (hz : l.length ≤ sizeLine) (hk : l.length < k) (hl : ∀ p ys L, J p ys L → L.get n = some (.lst (l.map enc))) (h0 : J [] [] L)
    (hs : ∀ p a q ys L, l = p ++ a :: q → ys.length ≤ p.length → J p ys L → WC c R (enc a) ρ L (lcK (J (p ++ [a])) ys) X)
    (he : ∀ ys L, ys.length ≤ l.length → J l ys L → Y ys L) : WL c R ρ (.dyn (listAt n) k) L Y X := ⟨lcD_aux J l hz hl l [] k [] L rfl hk (Nat.le_refl _) h0 hs he⟩
end
end PD
/-! P19: data that can be shown; lists sorted. -/
namespace PD
open PySem

/-! ### data, read off a value -/
theorem mapO_mono {α β : Type} {f g : α → Option β} (h : ∀ a b, f a = some b → g a = some b) : ∀ {l : List α} {r : List β}, mapO f l = some r → mapO g l = some r
  | [], _, e => e
  | x :: l, r, e => by
    unfold mapO at e ⊢
    cases e1 : f x with
    | none => rw [e1] at e; cases e
    | some y =>
      rw [e1] at e
      cases e2 : mapO f l with
      | none => rw [e2] at e; cases e
      | some s =>
        rw [e2] at e; cases e
        rw [h _ _ e1, mapO_mono h e2]
theorem toP_succ {L : LH} : ∀ (n : Nat) (d : D) (p : PyData), toP n L d = some p → toP (n + 1) L d = some p
  | 0, _, _, h => by cases h
  | n + 1, d, p, h => by
    cases d with
    | tup l =>
      unfold toP at h ⊢
      dsimp only at h ⊢
      cases e : mapO (toP n L) l with
      | none => rw [e] at h; cases h
      | some q => rw [e] at h; cases h; rw [mapO_mono (toP_succ n) e]; rfl
    | ref k =>
      unfold toP at h ⊢
      dsimp only at h ⊢
      split at h
      · rename_i xs en
        cases e : mapO (toP n L) xs with
        | none => rw [e] at h; cases h
        | some q => rw [e] at h; cases h; rw [mapO_mono (toP_succ n) e]; rfl
      · cases h
    | _ => exact h
theorem toP_mono {L : LH} {n m : Nat} {d : D} {p : PyData} (h : toP n L d = some p) (hm : n ≤ m) : toP m L d = some p := by
  induction m with
  | zero => cases n with
    | zero => exact h
    | succ n => omega
  | succ m ih =>
    by_cases e : n = m + 1
    · rw [← e]; exact h
    · exact toP_succ m d p (ih (by omega))
/-- what a value is as data, and that it can be shown -/
structure Sh (L : LH) (d : D) (p : PyData) (dep wt : Nat) : Prop where
  t : toP dep L d = some p
  lay : p.canLay0 = true
  short : p.intsShort 13 = true
  dp : p.depth ≤ dep
  w : p.weight ≤ wt
  s : p.showable = true
structure Shs (L : LH) (l : List D) (ps : List PyData) (dep wt : Nat) : Prop where
  t : mapO (toP dep L) l = some ps
  lay : PyData.canLayAll0 ps = true
  short : PyData.intsShortAll 13 ps = true
  dp : PyData.depthAll ps ≤ dep
  w : PyData.weightAll ps ≤ wt
  s : PyData.showableAll ps = true
section
variable {L M : LH} {d : D} {l : List D} {p : PyData} {ps : List PyData} {dep wt w1 w2 : Nat}
theorem Sh.mono (h : Sh L d p dep wt) {dep' wt' : Nat} (h1 : dep ≤ dep') (h2 : wt ≤ wt') : Sh L d p dep' wt' := ⟨toP_mono h.t h1, h.lay, h.short, Nat.le_trans h.dp h1, Nat.le_trans h.w h2, h.s⟩
theorem Shs.mono (h : Shs L l ps dep wt) {dep' wt' : Nat} (h1 : dep ≤ dep') (h2 : wt ≤ wt') : Shs L l ps dep' wt' := ⟨mapO_mono (fun _ _ e => toP_mono e h1) h.t, h.lay, h.short, Nat.le_trans h.dp h1, Nat.le_trans h.w h2, h.s⟩
theorem Sh.non : Sh L .non .none 1 0 := ⟨rfl, rfl, rfl, by simp [PyData.depth], by simp [PyData.weight], rfl⟩
theorem Sh.bl (b : Bool) : Sh L (.bl b) (.bool b) 1 0 := ⟨rfl, rfl, rfl, by simp [PyData.depth], by simp [PyData.weight], rfl⟩
theorem log_lt {n k : Nat} (h : n < 2 ^ k) (hk : 0 < k) : n.log2 < k := by
  by_cases e : n = 0
  · subst e; simpa using hk
  · exact (Nat.log2_lt e).mpr h
theorem Sh.int {i : Int} (h : i.natAbs < 10 ^ 12) : Sh L (.int i) (.int i) 1 40 := by
  have h40 : i.natAbs.log2 < 40 := log_lt (Nat.lt_trans h (by decide)) (by decide)
  refine ⟨rfl, rfl, ?_, by simp [PyData.depth], ?_, ?_⟩
  · have e := int_text_length_le10 (k := 12) (by decide) h
    have e2 : (PyData.shown (.int i)).length = (toString i).length := ofString_length _
    simp only [PyData.intsShort]
    exact decide_eq_true (by omega)
  · simp only [PyData.weight]
    split
    · omega
    · omega
  · simp only [PyData.showable, decide_eq_true_eq]; omega
theorem Sh.str {x : Str} (h : PyData.strOk x = true) : Sh L (.str x) (.str x) 1 x.cps.size := ⟨by unfold toP; simp [h], by simp [PyData.canLay0, h], rfl, by simp [PyData.depth], by simp [PyData.weight], rfl⟩
theorem Shs.nil : Shs L [] [] dep 0 := ⟨rfl, rfl, rfl, by simp [PyData.depthAll], by simp [PyData.weightAll], rfl⟩
theorem Shs.cons (a : Sh L d p dep w1) (b : Shs L l ps dep w2) : Shs L (d :: l) (p :: ps) dep (w1 + 1 + w2) := by
  have ha := a.dp
  have hb := b.dp
  have hc := a.w
  have hd := b.w
  refine ⟨?_, ?_, ?_, ?_, ?_, ?_⟩
  · unfold mapO; rw [a.t, b.t]
  · simp only [PyData.canLayAll0, a.lay, b.lay, Bool.and_self]
  · simp only [PyData.intsShortAll, a.short, b.short, Bool.and_self]
  · simp only [PyData.depthAll]; omega
  · simp only [PyData.weightAll]; omega
  · simp only [PyData.showableAll, a.s, b.s, Bool.and_self]
theorem Shs.map {α : Type} {f : α → D} {g : α → PyData} : ∀ {l : List α}, (∀ a ∈ l, Sh L (f a) (g a) dep wt) → Shs L (l.map f) (l.map g) dep (l.length * (wt + 1))
  | [], _ => by rw [List.length_nil, Nat.zero_mul]; exact .nil
  | a :: l, h => by
    have := (Shs.cons (h a (List.mem_cons_self ..)) (Shs.map (l := l) fun b hb => h b (List.mem_cons_of_mem _ hb)))
    exact this.mono (Nat.le_refl _) (by rw [List.length_cons, Nat.add_mul]; omega)
theorem Sh.tup (h : Shs L l ps dep wt) : Sh L (.tup l) (.tuple ps) (dep + 1) wt := by
  have h1 := h.dp
  have h2 := h.w
  refine ⟨?_, ?_, ?_, ?_, ?_, ?_⟩
  · unfold toP; dsimp only; rw [h.t]; rfl
  · simp only [PyData.canLay0, h.lay]
  · simp only [PyData.intsShort, h.short]
  · simp only [PyData.depth]; omega
  · simp only [PyData.weight]; omega
  · simp only [PyData.showable, h.s]
theorem Sh.lst {n : Nat} (hg : L.get n = some (.lst l)) (h : Shs L l ps dep wt) : Sh L (.ref n) (.list ps) (dep + 1) wt := by
  have h1 := h.dp
  have h2 := h.w
  refine ⟨?_, ?_, ?_, ?_, ?_, ?_⟩
  · unfold toP; dsimp only; rw [hg]; dsimp only; rw [h.t]; rfl
  · simp only [PyData.canLay0, h.lay]
  · simp only [PyData.intsShort, h.short]
  · simp only [PyData.depth]; omega
  · simp only [PyData.weight]; omega
  · simp only [PyData.showable, h.s]
theorem Sh.repr (h : Sh L d p dep wt) (hd : dep ≤ 60) (hw : wt ≤ 2 ^ 20) : bReprO [d] L = .ok (.str p.shown) L := by
  have e := toP_mono h.t hd
  have a1 := h.dp
  have a2 := h.w
  have lay : PyData.layable0 p = true := by
    unfold PyData.layable0
    rw [h.lay, decide_eq_true (show p.depth ≤ 64 by omega), decide_eq_true (show p.weight ≤ 2 ^ 20 by omega)]; rfl
  have z : p.shown.length ≤ sizeLine := by
    have := PyProof.Rows.shown_le13 lay h.short
    unfold sizeLine
    omega
  have hs := h.s
  unfold bReprO
  dsimp only
  rw [e]
  dsimp only
  cases p with
  | list xs => dsimp only; rw [hs, decide_eq_true z]; rfl
  | tuple xs => dsimp only; rw [hs, decide_eq_true z]; rfl
  | int i =>
    dsimp only
    simp only [PyData.showable, decide_eq_true_eq] at hs
    rw [if_pos hs]; rfl
  | str x =>
    dsimp only
    have z' : (reprText x).length ≤ sizeLine := z
    rw [if_pos z']; rfl
  | bool b => cases b <;> rfl
  | none => rfl
  | dict kvs => simp [PyData.canLay0] at *; exact absurd h.lay (by simp [PyData.canLay0])
theorem toPs_gr (h : ∀ n c, L.get n = some c → M.get n = some c) : ∀ (n : Nat) (d : D) (p : PyData), toP n L d = some p → toP n M d = some p
  | 0, _, _, e => e
  | n + 1, d, p, e => by
    cases d with
    | tup l =>
      unfold toP at e ⊢
      dsimp only at e ⊢
      cases e1 : mapO (toP n L) l with
      | none => rw [e1] at e; cases e
      | some q => rw [e1] at e; cases e; rw [mapO_mono (toPs_gr h n) e1]; rfl
    | ref k =>
      unfold toP at e ⊢
      dsimp only at e ⊢
      split at e
      · rename_i xs en
        rw [h _ _ en]
        dsimp only
        cases e1 : mapO (toP n L) xs with
        | none => rw [e1] at e; cases e
        | some q => rw [e1] at e; cases e; rw [mapO_mono (toPs_gr h n) e1]; rfl
      · cases e
    | _ => exact e
theorem Sh.gr (h : Sh L d p dep wt) (g : Gr [] L M) : Sh M d p dep wt := ⟨toPs_gr (fun n c e => g.at0 e) _ _ _ h.t, h.lay, h.short, h.dp, h.w, h.s⟩
end
theorem o_eq_s {x y : Str} {L : LH} : oEq (.str x) (.str y) L = .ok (.bl (decide (x = y))) L := rfl
theorem o_ne_s {x y : Str} {L : LH} : oNe (.str x) (.str y) L = .ok (.bl (!decide (x = y))) L := rfl
theorem eqv_int (i j : Int) : PyData.eqv (.int i) (.int j) = decide (i = j) := by
  show (i == j) = _
  by_cases h : i = j
  · subst h; simp
  · rw [decide_eq_false h]; simpa using h
theorem o_eq_i {i j : Int} {L : LH} : oEq (.int i) (.int j) L = .ok (.bl (decide (i = j))) L := by
  show (match some (PyData.eqv (.int i) (.int j)) with | some c => Res.ok (D.bl c) L | none => .bad) = _
  rw [eqv_int]
theorem o_ne_i {i j : Int} {L : LH} : oNe (.int i) (.int j) L = .ok (.bl (!decide (i = j))) L := by
  show (match some (PyData.eqv (.int i) (.int j)) with | some c => Res.ok (D.bl (!c)) L | none => .bad) = _
  rw [eqv_int]
theorem o_eq_p {L : LH} {a b : D} {p q : PyData} (h : eqD L a b = eqP L a b) (ha : toP 60 L a = some p) (hb : toP 60 L b = some q) : oEq a b L = .ok (.bl (PyData.eqv p q)) L := by
  unfold oEq eqP at *
  rw [h, ha]
  dsimp only
  rw [hb]
theorem o_ne_p {L : LH} {a b : D} {p q : PyData} (h : eqD L a b = eqP L a b) (ha : toP 60 L a = some p) (hb : toP 60 L b = some q) : oNe a b L = .ok (.bl (!PyData.eqv p q)) L := by
  unfold oNe eqP at *
  rw [h, ha]
  dsimp only
  rw [hb]

/-! ### sorted -/
theorem insBy_perm {α : Type} (le : α → α → Bool) (a : α) : ∀ l : List α, (insBy le a l).Perm (a :: l)
  | [] => List.Perm.refl _
  | b :: r => by
    unfold insBy
    split
    · exact List.Perm.refl _
    · exact ((insBy_perm le a r).cons b).trans (List.Perm.swap a b r)
theorem isort_perm {α : Type} (le : α → α → Bool) : ∀ l : List α, (isort le l).Perm l
  | [] => List.Perm.refl _
  | a :: r => (insBy_perm le a _).trans ((isort_perm le r).cons a)
theorem insBy_sorted {α : Type} {le : α → α → Bool} (tr : ∀ a b c, le a b = true → le b c = true → le a c = true) (to : ∀ a b, le a b = true ∨ le b a = true) (a : α) : ∀ l : List α, l.Pairwise (fun x y => le x y = true) → (insBy le a l).Pairwise fun x y => le x y = true
  | [], _ => List.pairwise_singleton _ _
  | b :: r, h => by
    unfold insBy
    rw [List.pairwise_cons] at h
    split
    · rename_i hab
      exact List.pairwise_cons.mpr ⟨fun x hx => by
        rcases List.mem_cons.mp hx with rfl | hx
        · exact hab
        · exact tr _ _ _ hab (h.1 x hx), List.pairwise_cons.mpr h⟩
    · rename_i hab
      have hba : le b a = true := (to a b).resolve_left hab
      exact List.pairwise_cons.mpr ⟨fun x hx => by
        rcases List.mem_cons.mp ((insBy_perm le a r).mem_iff.mp hx) with rfl | hx
        · exact hba
        · exact h.1 x hx, insBy_sorted tr to a r h.2⟩
theorem isort_sorted {α : Type} {le : α → α → Bool} (tr : ∀ a b c, le a b = true → le b c = true → le a c = true) (to : ∀ a b, le a b = true ∨ le b a = true) : ∀ l : List α, (isort le l).Pairwise fun x y => le x y = true
  | [] => List.Pairwise.nil
  | a :: r => insBy_sorted tr to a _ (isort_sorted tr to r)
theorem zipO_map {α β γ : Type} (f : α → β) (g : α → γ) : ∀ l : List α, zipO (l.map f) (l.map g) = l.map fun a => (f a, g a)
  | [] => rfl
  | a :: l => by rw [List.map_cons, List.map_cons, List.map_cons, ← zipO_map f g l]; rfl
theorem isort_congr {α : Type} {le le' : α → α → Bool} (h : ∀ a b, le a b = le' a b) (l : List α) : isort le l = isort le' l := by
  have : le = le' := by funext a b; exact h a b
  rw [this]
theorem mapO_all {α β : Type} {f : α → Option β} {γ : Type} {e : γ → α} {g : γ → β} : ∀ {l : List γ}, (∀ a ∈ l, f (e a) = some (g a)) → mapO f (l.map e) = some (l.map g)
  | [], _ => rfl
  | a :: l, h => by
    rw [List.map_cons]
    unfold mapO
    rw [h a (List.mem_cons_self ..), mapO_all (fun b hb => h b (List.mem_cons_of_mem _ hb))]
    rfl
/-- sorted, of a list that stands for alike data -/
theorem sorted_map {α : Type} {e : α → D} {g : α → PyData} {le : α → α → Bool} {l : List α} {L : LH} {n : Nat} (hg : L.get n = some (.lst (l.map e))) (hz : l.length ≤ sizeLine) (ht : ∀ a ∈ l, toP 50 L (e a) = some (g a))
    (hle : ∀ a b, PySem.W.dataLe false (fun p : D × PyData => p.2) (e a, g a) (e b, g b) = le a b) (h1 : likes (l.map g) = true) (h2 : sortables (l.map g) = true) :
    bSorted [.ref n] L = .ok (.ref L.len) (L.push (.lst ((isort le l).map e))) := by
  unfold bSorted
  dsimp only
  rw [hg]
  dsimp only
  rw [mapO_all ht]
  dsimp only
  rw [h1, h2, decide_eq_true (by rw [List.length_map]; exact hz), Bool.and_self, Bool.and_self, if_pos rfl, zipO_map]
  have e1 := isort_map (fun a => (e a, g a)) (PySem.W.dataLe false fun p : D × PyData => p.2) l
  rw [← e1, isort_congr hle, List.map_map]
  rfl
theorem likes_ints {l : List Int} : likes (l.map PyData.int) = true := by
  unfold likes
  rw [List.all_eq_true]
  intro p hp
  rw [List.all_eq_true]
  intro q hq
  obtain ⟨i, _, rfl⟩ := List.mem_map.mp hp
  obtain ⟨j, _, rfl⟩ := List.mem_map.mp hq
  rfl
theorem sortables_ints {l : List Int} : sortables (l.map PyData.int) = true := by
  unfold sortables
  rw [Bool.or_eq_true]
  right
  rw [List.all_eq_true]
  intro p hp
  obtain ⟨i, _, rfl⟩ := List.mem_map.mp hp
  rfl
abbrev leI (a b : Int) : Bool := decide (a ≤ b)
theorem dataLe_int (a b : Int) : PySem.W.dataLe false (fun p : D × PyData => p.2) (.int a, .int a) (.int b, .int b) = leI a b := by
  show (!(decide (b < a) || (!decide (a < b) && false))) = decide (a ≤ b)
  rw [Bool.and_false, Bool.or_false]
  by_cases h : a ≤ b
  · rw [decide_eq_true h, decide_eq_false (by omega)]; rfl
  · rw [decide_eq_false h, decide_eq_true (by omega)]; rfl
theorem sorted_ints {l : List Int} {L : LH} {n : Nat} (hg : L.get n = some (.lst (l.map D.int))) (hz : l.length ≤ sizeLine) : bSorted [.ref n] L = .ok (.ref L.len) (L.push (.lst ((isort leI l).map D.int))) :=
  sorted_map (g := PyData.int) hg hz (fun _ _ => rfl) dataLe_int likes_ints sortables_ints
theorem isortI_sorted (l : List Int) : (isort leI l).Pairwise (· ≤ ·) := by
  have := isort_sorted (le := leI) (fun a b c h1 h2 => by simp only [leI, decide_eq_true_eq] at *; omega) (fun a b => by simp only [leI, decide_eq_true_eq]; omega) l
  simpa [leI] using this
/-- natural numbers -/
abbrev nD (n : Nat) : D := .int (n : Int)
abbrev leN (a b : Nat) : Bool := decide (a ≤ b)
theorem sorted_nats {l : List Nat} {L : LH} {n : Nat} (hg : L.get n = some (.lst (l.map nD))) (hz : l.length ≤ sizeLine) : bSorted [.ref n] L = .ok (.ref L.len) (L.push (.lst ((isort leN l).map nD))) := by
  refine sorted_map (g := fun n : Nat => PyData.int n) hg hz (fun _ _ => rfl) (fun a b => ?_) ?_ ?_
  · rw [dataLe_int]; simp [leI, leN]
  · have := likes_ints (l := l.map fun n : Nat => (n : Int))
    rw [List.map_map] at this; exact this
  · have := sortables_ints (l := l.map fun n : Nat => (n : Int))
    rw [List.map_map] at this; exact this
theorem isortN_sorted (l : List Nat) : (isort leN l).Pairwise (· ≤ ·) := by
  have := isort_sorted (le := leN) (fun a b c h1 h2 => by simp only [leN, decide_eq_true_eq] at *; omega) (fun a b => by simp only [leN, decide_eq_true_eq]; omega) l
  simpa [leN] using this
theorem strict_of_nodup {l : List Nat} (h : l.Pairwise (· ≤ ·)) (nd : l.Nodup) : l.Pairwise (· < ·) := by
  have := h.and nd
  exact this.imp fun ⟨a, b⟩ => by omega
/-- pairs of ints -/
abbrev ppD (p : Int × Int) : D := .tup [.int p.1, .int p.2]
abbrev leP (a b : Int × Int) : Bool := decide (a.1 < b.1 ∨ a.1 = b.1 ∧ a.2 ≤ b.2)
theorem dataLe_pair (a b : Int × Int) : PySem.W.dataLe false (fun p : D × PyData => p.2) (ppD a, .tuple [.int a.1, .int a.2]) (ppD b, .tuple [.int b.1, .int b.2]) = leP a b := by
  obtain ⟨a1, a2⟩ := a
  obtain ⟨b1, b2⟩ := b
  show (!(decide ((1 : Int) < 1) || (!decide ((1 : Int) < 1) && (decide (b1 < a1) || (!decide (a1 < b1) && (decide ((1 : Int) < 1) || (!decide ((1 : Int) < 1) && (decide (b2 < a2) || (!decide (a2 < b2) && (decide ((0 : Int) < 0) || (!decide ((0 : Int) < 0) && false)))))))))) ) = leP (a1, a2) (b1, b2)
  simp only [leP]
  by_cases h1 : b1 < a1
  · simp [h1]; omega
  · by_cases h2 : a1 < b1
    · simp [h1, h2]
    · have e : a1 = b1 := by omega
      subst e
      by_cases h3 : b2 < a2
      · simp [h3]
      · simp [h3]; omega
theorem sorted_pairs {l : List (Int × Int)} {L : LH} {n : Nat} (hg : L.get n = some (.lst (l.map ppD))) (hz : l.length ≤ sizeLine) : bSorted [.ref n] L = .ok (.ref L.len) (L.push (.lst ((isort leP l).map ppD))) := by
  refine sorted_map (g := fun p : Int × Int => PyData.tuple [.int p.1, .int p.2]) hg hz (fun _ _ => rfl) dataLe_pair ?_ ?_
  · unfold likes
    rw [List.all_eq_true]
    intro p hp
    rw [List.all_eq_true]
    intro q hq
    obtain ⟨i, _, rfl⟩ := List.mem_map.mp hp
    obtain ⟨j, _, rfl⟩ := List.mem_map.mp hq
    rfl
  · unfold sortables
    rw [Bool.or_eq_true]
    left
    rw [List.all_eq_true]
    intro p hp
    obtain ⟨i, _, rfl⟩ := List.mem_map.mp hp
    rfl
theorem isortP_sorted (l : List (Int × Int)) : (isort leP l).Pairwise fun a b => a.1 < b.1 ∨ a.1 = b.1 ∧ a.2 ≤ b.2 := by
  have := isort_sorted (le := leP) (fun a b c h1 h2 => by simp only [leP, decide_eq_true_eq] at *; omega) (fun a b => by simp only [leP, decide_eq_true_eq]; omega) l
  simpa [leP] using this
end PD
/-! P20: the laws' source of choices, as promises about calls. -/
namespace PD
open PySem

theorem split_mem {α : Type} {l p q : List α} {a : α} (h : l = p ++ a :: q) : a ∈ l := by rw [h]; simp
theorem o_fld {cs : List Nat} {f : Str} {n c : Nat} {fs : List (Str × D)} {d : D} {L : LH} (hg : L.get n = some (.ins c fs)) (hc : cs.contains c = true) (hl : fs.lookup f = some d) : oFld cs f (.ref n) L = .ok d L := by
  unfold oFld
  simp only [hg, hc, hl, if_true]
/-- the source at s, its cells at c -/
def Src (L : LH) (s c : Nat) : Prop := ∃ zs l m t, SrcAt L s c zs l m t ∧ zs.length < fuel
/-- what a draw does -/
structure Dr (s c : Nat) (L M : LH) : Prop where
  gr : Gr [s, c] L M
  src : Src M s c
theorem Src.lt {L : LH} {s c : Nat} (h : Src L s c) : s < L.len ∧ c < L.len ∧ c ≠ s := by
  obtain ⟨zs, l, m, t, h, _⟩ := h
  exact ⟨LH.get_lt h.d, LH.get_lt h.x, h.ne⟩
theorem Src.gr {L M : LH} {s c : Nat} (h : Src L s c) (g : Gr [] L M) : Src M s c := by
  obtain ⟨zs, l, m, t, h, hz⟩ := h
  exact ⟨zs, l, m, t, ⟨g.at0 h.d, g.at0 h.x⟩, hz⟩
/-- what is kept outside of some places keeps the source -/
theorem Src.grS {L M : LH} {s c : Nat} {S : List Nat} (h : Src L s c) (g : Gr S L M) (h1 : s ∉ S) (h2 : c ∉ S) : Src M s c := by
  obtain ⟨zs, l, m, t, h, hz⟩ := h
  exact ⟨zs, l, m, t, ⟨g.at h.d h1, g.at h.x h2⟩, hz⟩
theorem Dr.refl {L : LH} {s c : Nat} (h : Src L s c) : Dr s c L L := ⟨.refl, h⟩
theorem Dr.trans {L M N : LH} {s c : Nat} (a : Dr s c L M) (b : Dr s c M N) : Dr s c L N := ⟨a.gr.trans b.gr, b.src⟩
theorem Dr.then {L M N : LH} {s c : Nat} (a : Dr s c L M) (b : Gr [] M N) : Dr s c L N := ⟨a.gr.trans b.of0, a.src.gr b⟩
theorem Dr.push {L M : LH} {s c : Nat} (a : Dr s c L M) (x : Cell) : Dr s c L (M.push x) := a.then (Gr.refl.push x)
/-- a new cell is written -/
theorem Dr.put {L M : LH} {s c n : Nat} (h : Src L s c) (a : Dr s c L M) (x : Cell) (h1 : L.len ≤ n) (hm : n < M.len) : Dr s c L (M.put n x) := by
  obtain ⟨q1, q2, _⟩ := h.lt
  refine ⟨a.gr.put x (.inl h1) hm, ?_⟩
  obtain ⟨zs, l, m, t, h, hz⟩ := a.src
  exact ⟨zs, l, m, t, ⟨by rw [g_put_ne hm (by omega)]; exact h.d, by rw [g_put_ne hm (by omega)]; exact h.x⟩, hz⟩
theorem Dr.at {L M : LH} {s c n : Nat} {x : Cell} (a : Dr s c L M) (h : L.get n = some x) (h1 : n ≠ s) (h2 : n ≠ c) : M.get n = some x := a.gr.at h (by simp [h1, h2])
theorem setSrc_dr {L : LH} {s c : Nat} {zs zs' : List Int} {l m t l' m' t' : Int} (h : SrcAt L s c zs l m t) (hz : zs'.length < fuel) : Dr s c L (setSrc L s c zs' l' m' t') := by
  refine ⟨⟨Nat.le_of_eq setSrc_len.symm, fun n _ q => ?_⟩, _, _, _, _, h.set zs' l' m' t', hz⟩
  simp only [List.mem_cons, List.not_mem_nil, or_false, not_or] at q
  exact setSrc_get h q.1 q.2

/-! ### promises -/
def PickOk (R : Rec) (i : Nat) : Prop := ∀ (s c : Nat) (L : LH) (many : Int), Src L s c → many < 1073741824 → W (R i [.ref s, .int many] L) (fun d M => ∃ r : Int, d = .int r ∧ 0 ≤ r ∧ r < max 1 many ∧ Dr s c L M ∧ M.len = L.len) nX
def OfOk (R : Rec) (i : Nat) : Prop := ∀ (s c n : Nat) (L : LH) (xs : List D), Src L s c → L.get n = some (.lst xs) → n ≠ s → n ≠ c → xs ≠ [] → xs.length < 1073741824 → W (R i [.ref s, .ref n] L) (fun d M => d ∈ xs ∧ Dr s c L M ∧ M.len = L.len) nX
def MixedOk (R : Rec) (i : Nat) : Prop := ∀ (s c : Nat) (L : LH) (td : D) (xs : List D), Src L s c → bLst [td] L = .ok (.ref L.len) (L.push (.lst xs)) → xs.length ≤ 1000000 → W (R i [.ref s, td] L) (fun d M => ∃ k ys, d = .ref k ∧ L.len ≤ k ∧ M.get k = some (.lst ys) ∧ ys.Perm xs ∧ Dr s c L M) nX
def SourceOk (R : Rec) (i : Nat) : Prop := ∀ (ns : List Int) (L : LH), ns.length < 64 → W (R i [.rol (ns.map D.int)] L) (fun d M => ∃ s c, d = .ref s ∧ L.len ≤ c ∧ c < s ∧ Gr [] L M ∧ Src M s c) nX
/-- at all depths from k on -/
def From (F : Nat → Option Fn) (k : Nat) (P : Rec → Prop) : Prop := ∀ n, P (runN F (n + k))
theorem From.mono {F : Nat → Option Fn} {k k' : Nat} {P : Rec → Prop} (h : From F k P) (hk : k ≤ k') : From F k' P := fun n => by
  have := h (n + (k' - k))
  rwa [show n + (k' - k) + k = n + k' by omega] at this
theorem W_eq {α : Type} {r : Res α} {Q : α → LH → Prop} {X : XP} {a : α} {L : LH} (h : r = .ok a L) (q : Q a L) : W r Q X := by rw [h, W_ok]; exact q
def of_fn (p : Nat) : Fn := ⟨2, 2, (sSeq (sRet (e2 oIx (eVar 1) (eCall p (aCons (eVar 0) (aCons (aApp (aCons (eVar 1) aNil) bLen) aNil))))) sNext)⟩
section
variable {F : Nat → Option Fn} {i j : Nat}
theorem run_as {n i : Nat} {g : Fn} (h : F i = some g) (as : List D) (L : LH) : runN F (n + 1) i as L = g.run (runN F n) as L := by
  show (match F i with
    | some f => f.run (runN F n) as L
    | none => .bad) = _
  rw [h]
theorem pickOk (h : F i = some pickFn) : From F 1 (PickOk · i) := fun n s c L many hs hm => by
  obtain ⟨zs, l, m, t, h1, hz⟩ := hs
  obtain ⟨r, zs', l', m', t', e, r0, r1, hl⟩ := pick_ok (R := runN F n) h1 hm hz
  rw [run_as h]
  exact W_eq e ⟨r, rfl, r0, r1, setSrc_dr h1 (by omega), setSrc_len⟩
theorem ofOk (h : F i = some (of_fn j)) (hp : F j = some pickFn) : From F 2 (OfOk · i) := fun n s c a L xs hs hg h1 h2 hne hl => by
  rw [W_runN h rfl]
  show WS _ _ [some (.ref s), some (.ref a)] L _ _
  unfold of_fn
  simp only [word_snoc, PD.w_ok, PD.w_exc, PD.w_ift, PD.w_iff, PD.w_c, PD.w_getK, PD.w_slt0, PD.w_slts, PD.w_set0, PD.w_sets, PD.w_wipe0, PD.w_wipes, PD.w_var, PD.w_1, PD.w_2, PD.w_nil, PD.w_cons, PD.w_app, PD.w_eif, PD.w_truK, PD.w_and, PD.w_or, PD.w_not, PD.w_call, PD.w_meth, PD.w_nonK, PD.w_make, PD.w_bm, PD.w_sl, PD.w_bNo, PD.w_intK, PD.w_bAt, PD.w_blK, PD.w_chn, PD.w_tb1, PD.w_lc, PD.w_turn, PD.w_yes, PD.w_tv, PD.w_tand, PD.w_tor, PD.w_tnot, PD.w_nm, PD.w_sub, PD.w_gnil, PD.w_gcons, PD.w_knx, PD.w_krt, PD.w_kbk, PD.w_kct, PD.w_kex, PD.w_seq, PD.w_next, PD.w_asg, PD.w_expr, PD.w_ret, PD.w_retN, PD.w_brk, PD.w_cnt, PD.w_if, PD.w_aug, PD.w_fset, PD.w_saug, PD.w_for, PD.w_while, PD.w_ie, PD.w_rt, PD.w_nx, PD.w_ex, PD.w_rg1, PD.w_rg2, PD.w_enu, PD.w_zip2, PD.w_zipT, PD.w_rgl1, PD.o_add_i, PD.o_sub_i, PD.o_lt_i, PD.o_le_i, PD.o_gt_i, PD.o_ge_i, PD.o_is_n, PD.o_is_b, PD.o_isnot_b, PD.o_isnot_n, PD.o_isn_non, PD.o_isn_int, PD.o_isn_tup, PD.o_neg_i, PD.o_tru_b, PD.o_int_i, PD.o_int_b, PD.o_len_t, PD.o_tup_t, PD.o_lst_t, PD.o_max2, PD.o_min2, PD.o_ix_0, PD.o_ix_1, PD.o_ix_2, PD.o_ix_3, PD.it_t, PD.it_r, PD.enu_t, PD.zip_t, PD.o_tup0, PD.o_tup1, PD.o_tup2, PD.o_tup3, PD.o_tup4, PD.o_lst0, PD.o_lst1, PD.o_lst2, PD.o_lst3, PD.o_lst4, PD.g_push, PD.w_lnx, PD.w_lct, PD.w_lbk, PD.w_lrt, PD.w_lex, PD.w_lcn, PD.w_lcs, PD.o_eq_s, PD.o_ne_s, PD.o_eq_i, PD.o_ne_i, o_len_l hg]
  refine W_use (pickOk hp n s c L xs.length hs (by omega)) fun d M hM => ?_
  obtain ⟨r, rfl, r0, r1, dr, hlen⟩ := hM
  have hpos : 0 < xs.length := List.length_pos_iff.mpr hne
  have hlt : r.toNat < xs.length := by omega
  have e := o_ix_l (n := r.toNat) (dr.at hg h1 h2) (List.getElem?_eq_getElem hlt)
  rw [show ((r.toNat : Nat) : Int) = r by omega] at e
  simp only [word_snoc, PD.w_ok, PD.w_exc, PD.w_ift, PD.w_iff, PD.w_c, PD.w_getK, PD.w_slt0, PD.w_slts, PD.w_set0, PD.w_sets, PD.w_wipe0, PD.w_wipes, PD.w_var, PD.w_1, PD.w_2, PD.w_nil, PD.w_cons, PD.w_app, PD.w_eif, PD.w_truK, PD.w_and, PD.w_or, PD.w_not, PD.w_call, PD.w_meth, PD.w_nonK, PD.w_make, PD.w_bm, PD.w_sl, PD.w_bNo, PD.w_intK, PD.w_bAt, PD.w_blK, PD.w_chn, PD.w_tb1, PD.w_lc, PD.w_turn, PD.w_yes, PD.w_tv, PD.w_tand, PD.w_tor, PD.w_tnot, PD.w_nm, PD.w_sub, PD.w_gnil, PD.w_gcons, PD.w_knx, PD.w_krt, PD.w_kbk, PD.w_kct, PD.w_kex, PD.w_seq, PD.w_next, PD.w_asg, PD.w_expr, PD.w_ret, PD.w_retN, PD.w_brk, PD.w_cnt, PD.w_if, PD.w_aug, PD.w_fset, PD.w_saug, PD.w_for, PD.w_while, PD.w_ie, PD.w_rt, PD.w_nx, PD.w_ex, PD.w_rg1, PD.w_rg2, PD.w_enu, PD.w_zip2, PD.w_zipT, PD.w_rgl1, PD.o_add_i, PD.o_sub_i, PD.o_lt_i, PD.o_le_i, PD.o_gt_i, PD.o_ge_i, PD.o_is_n, PD.o_is_b, PD.o_isnot_b, PD.o_isnot_n, PD.o_isn_non, PD.o_isn_int, PD.o_isn_tup, PD.o_neg_i, PD.o_tru_b, PD.o_int_i, PD.o_int_b, PD.o_len_t, PD.o_tup_t, PD.o_lst_t, PD.o_max2, PD.o_min2, PD.o_ix_0, PD.o_ix_1, PD.o_ix_2, PD.o_ix_3, PD.it_t, PD.it_r, PD.enu_t, PD.zip_t, PD.o_tup0, PD.o_tup1, PD.o_tup2, PD.o_tup3, PD.o_tup4, PD.o_lst0, PD.o_lst1, PD.o_lst2, PD.o_lst3, PD.o_lst4, PD.g_push, PD.w_lnx, PD.w_lct, PD.w_lbk, PD.w_lrt, PD.w_lex, PD.w_lcn, PD.w_lcs, PD.o_eq_s, PD.o_ne_s, PD.o_eq_i, PD.o_ne_i, e]
  exact ⟨List.getElem_mem hlt, dr, hlen⟩
theorem mixedOk (h : F i = some (mixedFn j)) (hp : F j = some pickFn) : From F 2 (MixedOk · i) := fun n s c L td xs hs ht hl => by
  obtain ⟨zs, l, m, t, h1, hz⟩ := hs
  obtain ⟨ys, zs', l', m', t', e, hperm, hl2⟩ := mixed_ok (p := j) (R := runN F (n + 1)) (R' := runN F n) (fun as M => run_as hp as M) h1 hz xs hl ht
  rw [show n + 2 = (n + 1) + 1 from rfl, run_as h]
  have d0 : Dr s c L (setSrc L s c zs' l' m' t') := setSrc_dr h1 (by omega)
  refine W_eq e ⟨_, ys, rfl, Nat.le_succ _, ?_, hperm, (d0.push _).push _⟩
  rw [LH.get_push, if_pos]
  rw [LH.push_len, setSrc_len]
theorem sourceOk (h : F i = some sourceFn) : From F 1 (SourceOk · i) := fun n ns L hl => by
  obtain ⟨xs, zs, m, hz, e⟩ := source_ok (runN F n) ns L (by unfold sizeLine; omega)
  rw [run_as h]
  refine W_eq e ⟨_, _, rfl, Nat.le_succ _, Nat.lt_succ_self _, ?_, zs, 1, m, 0, newSrc_at, by unfold fuel; omega⟩
  exact ((Gr.refl.push _).push _).push _
end
end PD
/-! P21: more rules for simp; encodings. -/
namespace PD
open PySem
section
variable {R : Rec} {ρ : Slt} {L : LH} {X : XP} {Z : Slt → LH → Prop} {a b c d : D} {g : FGs}
theorem w_gtp2 : WG (gTp 2 g) R (.tup [a, b]) ρ L Z X = WGs g R [a, b] ρ L Z nX := by rw [w_gtp]; simp
theorem w_gtp3 : WG (gTp 3 g) R (.tup [a, b, c]) ρ L Z X = WGs g R [a, b, c] ρ L Z nX := by rw [w_gtp]; simp
theorem w_gtp4 : WG (gTp 4 g) R (.tup [a, b, c, d]) ρ L Z X = WGs g R [a, b, c, d] ρ L Z nX := by rw [w_gtp]; simp
end
theorem in62_of {i : Int} (h1 : -(2 ^ 62) ≤ i) (h2 : i < 2 ^ 62) : in62 i = true := by unfold in62; rw [decide_eq_true h1, decide_eq_true h2]; rfl
theorem rg_map (n : Nat) : rgInts 0 n = (List.range n).map nD := by
  unfold rgInts
  apply List.map_congr_left
  intro a _
  show D.int (0 + (a : Int)) = D.int (a : Int)
  rw [Int.zero_add]
theorem zipL_map {α β : Type} (f : α → D) (g : β → D) : ∀ (l : List α) (m : List β), zipL (l.map f) (m.map g) = (l.zip m).map fun p => .tup [f p.1, g p.2]
  | [], _ => by simp [zipL]
  | a :: l, [] => by simp [zipL]
  | a :: l, b :: m => by
    rw [List.map_cons, List.map_cons, List.zip_cons_cons, List.map_cons, ← zipL_map f g l m]; rfl
theorem enuL_map {α : Type} (f : α → D) : ∀ (l : List α) (i : Nat), enuL i (l.map f) = (l.zipIdx i).map fun p => .tup [.int p.2, f p.1]
  | [], _ => by simp [enuL]
  | a :: l, i => by
    rw [List.map_cons, List.zipIdx_cons, List.map_cons, ← enuL_map f l (i + 1)]; rfl
abbrev iL (l : List Int) : Cell := .lst (l.map D.int)
abbrev nL (l : List Nat) : Cell := .lst (l.map nD)
theorem getD_map {l : List Int} {h : Nat} (hh : h < l.length) : (l.map D.int)[h]? = some (.int (l.getD h 0)) := by
  rw [List.getElem?_map, List.getElem?_eq_getElem hh, List.getD_eq_getElem?_getD, List.getElem?_eq_getElem hh]
  rfl
section
variable {L : LH} {n k : Nat} {l : List Int} {a : D} {xs : List D} {i j : Int}
theorem ix_iL (h : L.get n = some (iL l)) (hk : k < l.length) : oIx (.ref n) (.int (k : Int)) L = .ok (.int (l.getD k 0)) L := o_ix_l h (getD_map hk)
theorem ix_iT (hk : k < l.length) : oIx (.tup (l.map D.int)) (.int (k : Int)) L = .ok (.int (l.getD k 0)) L := o_ix_t (getD_map hk)
theorem set_iL (h : L.get n = some (iL l)) (hk : k < l.length) : oSet (.ref n) (.int (k : Int)) (.int i) L = .ok () (L.put n (iL (l.set k i))) := by
  rw [o_set_l h (by rw [List.length_map]; exact hk), ← List.map_set]
theorem intsOf_map : ∀ l : List Int, intsOf (l.map D.int) = some l
  | [] => rfl
  | i :: l => by
    rw [List.map_cons]
    unfold intsOf
    rw [intsOf_map l]
theorem max_iL (h : L.get n = some (iL (i :: l))) : bMaxA [.ref n] L = .ok (.int (maxI i l)) L := by
  unfold bMaxA
  dsimp only
  rw [h]
  dsimp only
  rw [intsOf_map]
theorem sum_iL (h : L.get n = some (iL l)) : bSum [.ref n] L = .ok (.int l.sum) L := by
  unfold bSum
  dsimp only
  rw [h]
  dsimp only
  rw [intsOf_map]
theorem mul_l1 (h : L.get n = some (.lst [a])) (h1 : k ≤ sizeLine) : oMul (.ref n) (.int (k : Int)) L = .ok (.ref L.len) (L.push (.lst (List.replicate k a))) := by
  unfold oMul
  dsimp only
  rw [h]
  dsimp only
  have hz : sizeLine = 16777216 := rfl
  rw [if_pos (by refine ⟨by omega, by omega, ?_⟩; simp; omega)]
  have e : (List.replicate k [a]).flatten = List.replicate k a := by simp
  rw [Int.toNat_natCast, e]
theorem o_mul_i (h : (-big64 < i ∧ i < big64) ∨ (-big64 < j ∧ j < big64)) : oMul (.int i) (.int j) L = .ok (.int (i * j)) L := by
  unfold oMul
  dsimp only
  rw [if_pos h]
/-- == [] and != [] -/
theorem mapO_len {α β : Type} {f : α → Option β} : ∀ {l : List α} {r : List β}, mapO f l = some r → r.length = l.length
  | [], _, h => by cases h; rfl
  | x :: l, r, h => by
    unfold mapO at h
    cases e1 : f x with
    | none => rw [e1] at h; cases h
    | some y =>
      rw [e1] at h
      cases e2 : mapO f l with
      | none => rw [e2] at h; cases h
      | some s => rw [e2] at h; cases h; rw [List.length_cons, List.length_cons, mapO_len e2]
theorem eqv_nil (ps : List PyData) : PyData.eqv (.list ps) (.list []) = ps.isEmpty := by
  cases ps <;> rfl
theorem eq_nil {m : Nat} {p : PyData} {ps : List PyData} {dep wt : Nat} (h : L.get n = some (.lst xs)) (hs : Shs L xs ps dep wt) (hd : dep ≤ 59) (hm : L.get m = some (.lst [])) : oEq (.ref n) (.ref m) L = .ok (.bl xs.isEmpty) L := by
  have a1 := toP_mono (Sh.lst h hs).t (show dep + 1 ≤ 60 by omega)
  have a2 : toP 60 L (.ref m) = some (.list []) := by unfold toP; dsimp only; rw [hm]; rfl
  rw [o_eq_p rfl a1 a2, eqv_nil]
  have := mapO_len hs.t
  cases xs <;> cases ps <;> simp at this ⊢
theorem ne_nil {m : Nat} {ps : List PyData} {dep wt : Nat} (h : L.get n = some (.lst xs)) (hs : Shs L xs ps dep wt) (hd : dep ≤ 59) (hm : L.get m = some (.lst [])) : oNe (.ref n) (.ref m) L = .ok (.bl (!xs.isEmpty)) L := by
  have a1 := toP_mono (Sh.lst h hs).t (show dep + 1 ≤ 60 by omega)
  have a2 : toP 60 L (.ref m) = some (.list []) := by unfold toP; dsimp only; rw [hm]; rfl
  rw [o_ne_p rfl a1 a2, eqv_nil]
  have := mapO_len hs.t
  cases xs <;> cases ps <;> simp at this ⊢
theorem eqv_nilt (ps : List PyData) : PyData.eqv (.tuple ps) (.tuple []) = ps.isEmpty := by
  cases ps <;> rfl
end
/-- a list of ints, as data -/
theorem toI {L : LH} (l : List Int) (dep : Nat) : mapO (toP (dep + 1) L) (l.map D.int) = some (l.map PyData.int) := mapO_all fun _ _ => rfl
theorem ne_nilI {L : LH} {n m : Nat} {l : List Int} (h : L.get n = some (iL l)) (hm : L.get m = some (.lst [])) : oNe (.ref n) (.ref m) L = .ok (.bl (!l.isEmpty)) L := by
  have a1 : toP 60 L (.ref n) = some (.list (l.map PyData.int)) := by unfold toP; dsimp only; rw [h]; dsimp only; rw [toI]; rfl
  have a2 : toP 60 L (.ref m) = some (.list []) := by unfold toP; dsimp only; rw [hm]; rfl
  rw [o_ne_p rfl a1 a2, eqv_nil]
  cases l <;> rfl
theorem eq_nilI {L : LH} {n m : Nat} {l : List Int} (h : L.get n = some (iL l)) (hm : L.get m = some (.lst [])) : oEq (.ref n) (.ref m) L = .ok (.bl l.isEmpty) L := by
  have a1 : toP 60 L (.ref n) = some (.list (l.map PyData.int)) := by unfold toP; dsimp only; rw [h]; dsimp only; rw [toI]; rfl
  have a2 : toP 60 L (.ref m) = some (.list []) := by unfold toP; dsimp only; rw [hm]; rfl
  rw [o_eq_p rfl a1 a2, eqv_nil]
  cases l <;> rfl
theorem toN {L : LH} (l : List Nat) (dep : Nat) : mapO (toP (dep + 1) L) (l.map nD) = some (l.map fun n : Nat => PyData.int n) := mapO_all fun _ _ => rfl
theorem ne_nilN {L : LH} {n m : Nat} {l : List Nat} (h : L.get n = some (nL l)) (hm : L.get m = some (.lst [])) : oNe (.ref n) (.ref m) L = .ok (.bl (!l.isEmpty)) L := by
  have a1 : toP 60 L (.ref n) = some (.list (l.map fun n : Nat => PyData.int n)) := by unfold toP; dsimp only; rw [h]; dsimp only; rw [toN]; rfl
  have a2 : toP 60 L (.ref m) = some (.list []) := by unfold toP; dsimp only; rw [hm]; rfl
  rw [o_ne_p rfl a1 a2, eqv_nil]
  cases l <;> rfl
theorem ne_nilP {L : LH} {n m : Nat} {l : List (Int × Int)} (h : L.get n = some (.lst (l.map ppD))) (hm : L.get m = some (.lst [])) : oNe (.ref n) (.ref m) L = .ok (.bl (!l.isEmpty)) L := by
  have a0 : mapO (toP 59 L) (l.map ppD) = some (l.map fun p => PyData.tuple [.int p.1, .int p.2]) := mapO_all fun _ _ => rfl
  have a1 : toP 60 L (.ref n) = some (.list (l.map fun p => PyData.tuple [.int p.1, .int p.2])) := by unfold toP; dsimp only; rw [h]; dsimp only; rw [a0]; rfl
  have a2 : toP 60 L (.ref m) = some (.list []) := by unfold toP; dsimp only; rw [hm]; rfl
  rw [o_ne_p rfl a1 a2, eqv_nil]
  cases l <;> rfl
/-- gifts -/
def giftD : Option Nat → D
  | none => .non
  | some h => nD h
abbrev reqD (r : List Nat) : D := .tup (r.map nD)
abbrev rowD (row : List (List Nat)) : D := .tup (row.map reqD)
abbrev giftsD (g : List (Option Nat)) : D := .tup (g.map giftD)
abbrev yardD (c : Int) (w : List Int) : D := .tup [.int c, .tup (w.map D.int)]
end PD
/-! P22: slices, pops, ranges. -/
namespace PD
open PySem
section
variable {L : LH} {n k : Nat} {l : List D} {a : D} {i j : Int}
theorem pop_l (hg : L.get k = some (.lst l)) (h0 : 0 ≤ i) (h1 : i < l.length) (hb : i < 2 ^ 63) : mPop (.ref k) [.int i] L = .ok (l[i.toNat]'(by omega)) (L.put k (.lst (l.eraseIdx i.toNat))) := by
  have hlt : i.toNat < l.length := by omega
  unfold mPop
  have i1 : ixOf l.length i = some i.toNat := by unfold ixOf; rw [if_pos h0, if_pos h1]
  simp only [hg, i1, List.getElem?_eq_getElem hlt]
  rw [if_pos ⟨by omega, hb⟩]
theorem cIx_none (n d : Nat) : cIx n d none = d := rfl
theorem cIx_some {n d : Nat} (h0 : 0 ≤ i) : cIx n d (some i) = min i.toNat n := by unfold cIx; dsimp only; rw [if_neg (by omega)]
theorem o_lstR0 {n : Nat} : oLstR 0 (n : Int) L = .ok (.ref L.len) (L.push (nL (List.range n))) := by
  unfold oLstR
  rw [show ((n : Int) - 0).toNat = n by omega, rg_map]
theorem o_tupR0 {n : Nat} : oTupR 0 (n : Int) L = .ok (.tup ((List.range n).map nD)) L := by
  unfold oTupR
  rw [show ((n : Int) - 0).toNat = n by omega, rg_map]
theorem rgOk_of {n : Nat} (h : n ≤ 1000000) : rgOk 0 (n : Int) = true := by
  unfold rgOk
  rw [in62_of (by omega) (by omega), in62_of (by omega) (by omega), decide_eq_true (by omega)]; rfl
/-- xs[:i] -/
theorem sl_to (hg : L.get k = some (.lst l)) (h0 : 0 ≤ i) : oSl (.ref k) none (some i) L = .ok (.ref L.len) (L.push (.lst (l.take i.toNat))) := by
  unfold oSl
  dsimp only
  rw [hg]
  dsimp only
  unfold cut
  rw [cIx_none, cIx_some h0]
  simp only [List.drop_zero, Nat.sub_zero]
  by_cases h : i.toNat ≤ l.length
  · rw [Nat.min_eq_left h]
  · rw [Nat.min_eq_right (by omega), List.take_of_length_le (Nat.le_refl _), List.take_of_length_le (by omega)]
theorem sl_toT (h0 : 0 ≤ i) : oSl (.tup l) none (some i) L = .ok (.tup (l.take i.toNat)) L := by
  unfold oSl
  dsimp only
  unfold cut
  rw [cIx_none, cIx_some h0]
  simp only [List.drop_zero, Nat.sub_zero]
  by_cases h : i.toNat ≤ l.length
  · rw [Nat.min_eq_left h]
  · rw [Nat.min_eq_right (by omega), List.take_of_length_le (Nat.le_refl _), List.take_of_length_le (by omega)]
theorem sl_fromT (h0 : 0 ≤ i) : oSl (.tup l) (some i) none L = .ok (.tup (l.drop i.toNat)) L := by
  unfold oSl
  dsimp only
  unfold cut
  rw [cIx_none, cIx_some h0]
  by_cases h : i.toNat ≤ l.length
  · rw [Nat.min_eq_left h, List.take_of_length_le (by rw [List.length_drop]; omega)]
  · rw [Nat.min_eq_right (by omega), List.drop_of_length_le (Nat.le_refl _), List.drop_of_length_le (by omega), List.take_nil]
theorem o_add_t {m : List D} (h : l.length + m.length ≤ sizeLine) : oAdd (.tup l) (.tup m) L = .ok (.tup (l ++ m)) L := by
  unfold oAdd
  dsimp only
  rw [if_pos h]
theorem o_add_l {m : List D} {n : Nat} (h1 : L.get k = some (.lst l)) (h2 : L.get n = some (.lst m)) (h : l.length + m.length ≤ sizeLine) : oAdd (.ref k) (.ref n) L = .ok (.ref L.len) (L.push (.lst (l ++ m))) := by
  unfold oAdd
  dsimp only
  rw [h1, h2]
  dsimp only
  rw [if_pos h]
end
theorem perm_map {α β : Type} {f : α → β} : ∀ {l : List α} {ys : List β}, ys.Perm (l.map f) → ∃ zs : List α, zs.Perm l ∧ ys = zs.map f := by
  intro l ys h
  generalize hm : l.map f = m at h
  induction h generalizing l with
  | nil => exact ⟨[], by rw [List.map_eq_nil_iff.mp hm], rfl⟩
  | @cons x l1 l2 h ih =>
    cases l with
    | nil => cases hm
    | cons a l =>
      rw [List.map_cons, List.cons.injEq] at hm
      obtain ⟨zs, h1, h2⟩ := ih hm.2
      exact ⟨a :: zs, h1.cons a, by rw [List.map_cons, h2, hm.1]⟩
  | swap x y l' =>
    match l, hm with
    | a :: b :: l, hm =>
      rw [List.map_cons, List.map_cons, List.cons.injEq, List.cons.injEq] at hm
      exact ⟨b :: a :: l, List.Perm.swap _ _ _, by rw [List.map_cons, List.map_cons, hm.1, hm.2.1, hm.2.2]⟩
  | trans h1 h2 ih1 ih2 =>
    obtain ⟨zs, p1, e1⟩ := ih2 hm
    obtain ⟨ws, p2, e2⟩ := ih1 e1.symm
    exact ⟨ws, p2.trans p1, e2⟩
end PD
namespace PD
open PySem
theorem sz_of {n : Nat} (h : n ≤ 1000000) : n ≤ sizeLine := by unfold sizeLine; omega
theorem sz_lt {n : Nat} (h : n ≤ 1000000) : n < sizeLine := by unfold sizeLine; omega
end PD
/-! P23: comprehensions that change nothing. -/
namespace PD
open PySem
section
variable {R : Rec} {ρ : Slt} {L : LH} {X : XP} {c : FC} {Y : List D → LH → Prop}
theorem lcPure {α : Type} {enc : α → D} {l : List α} (f : α → Option D) (hz : l.length ≤ sizeLine) (hs : ∀ a ∈ l, WC c R (enc a) ρ L (fun o M => o = f a ∧ M = L) X) (he : Y (l.filterMap f) L) : WL c R ρ (.pur (l.map enc)) L Y X := by
  refine lcW (fun p ys M => ys = p.filterMap f ∧ M = L) hz ⟨rfl, rfl⟩ ?_ ?_
  · rintro p a q ys M e _ ⟨rfl, rfl⟩
    refine W_mono (show W (c R (enc a) ρ M) _ X from hs a (split_mem e)) (fun o M2 ho => ?_) fun _ _ _ h => h
    obtain ⟨rfl, rfl⟩ := ho
    rw [List.filterMap_append]
    cases h : f a with
    | none => simp [lcK, h]
    | some d => simp [lcK, h]
  · rintro ys M _ ⟨rfl, rfl⟩
    exact he
theorem lcPureD {α : Type} {enc : α → D} {l : List α} {n k : Nat} (f : α → Option D) (hz : l.length ≤ sizeLine) (hk : l.length < k) (hg : L.get n = some (.lst (l.map enc))) (hs : ∀ a ∈ l, WC c R (enc a) ρ L (fun o M => o = f a ∧ M = L) X) (he : Y (l.filterMap f) L) : WL c R ρ (.dyn (listAt n) k) L Y X := by
  refine lcD (l := l) (enc := enc) (fun p ys M => ys = p.filterMap f ∧ M = L) hz hk (fun p ys M h => h.2 ▸ hg) ⟨rfl, rfl⟩ ?_ ?_
  · rintro p a q ys M e _ ⟨rfl, rfl⟩
    refine W_mono (show W (c R (enc a) ρ M) _ X from hs a (split_mem e)) (fun o M2 ho => ?_) fun _ _ _ h => h
    obtain ⟨rfl, rfl⟩ := ho
    rw [List.filterMap_append]
    cases h : f a with
    | none => simp [lcK, h]
    | some d => simp [lcK, h]
  · rintro ys M _ ⟨rfl, rfl⟩
    exact he
/-- the same, the heap growing meanwhile -/
theorem lcGrow {α : Type} {enc : α → D} {l : List α} (f : α → Option D) (hz : l.length ≤ sizeLine) (hs : ∀ a ∈ l, ∀ M, Gr [] L M → WC c R (enc a) ρ M (fun o N => o = f a ∧ Gr [] M N) X) (he : ∀ M, Gr [] L M → Y (l.filterMap f) M) : WL c R ρ (.pur (l.map enc)) L Y X := by
  refine lcW (fun p ys M => ys = p.filterMap f ∧ Gr [] L M) hz ⟨rfl, .refl⟩ ?_ ?_
  · rintro p a q ys M e _ ⟨rfl, g⟩
    refine W_mono (show W (c R (enc a) ρ M) _ X from hs a (split_mem e) M g) (fun o M2 ho => ?_) fun _ _ _ h => h
    obtain ⟨rfl, g2⟩ := ho
    rw [List.filterMap_append]
    cases h : f a with
    | none => simp [lcK, h]; exact g.trans g2
    | some d => simp [lcK, h]; exact g.trans g2
  · rintro ys M _ ⟨rfl, g⟩
    exact he M g
theorem lcGrowD {α : Type} {enc : α → D} {l : List α} {n k : Nat} (f : α → Option D) (hz : l.length ≤ sizeLine) (hk : l.length < k) (hg : L.get n = some (.lst (l.map enc))) (hs : ∀ a ∈ l, ∀ M, Gr [] L M → WC c R (enc a) ρ M (fun o N => o = f a ∧ Gr [] M N) X) (he : ∀ M, Gr [] L M → Y (l.filterMap f) M) : WL c R ρ (.dyn (listAt n) k) L Y X := by
  refine lcD (l := l) (enc := enc) (fun p ys M => ys = p.filterMap f ∧ Gr [] L M) hz hk (fun p ys M h => h.2.at0 hg) ⟨rfl, .refl⟩ ?_ ?_
  · rintro p a q ys M e _ ⟨rfl, g⟩
    refine W_mono (show W (c R (enc a) ρ M) _ X from hs a (split_mem e) M g) (fun o M2 ho => ?_) fun _ _ _ h => h
    obtain ⟨rfl, g2⟩ := ho
    rw [List.filterMap_append]
    cases h : f a with
    | none => simp [lcK, h]; exact g.trans g2
    | some d => simp [lcK, h]; exact g.trans g2
  · rintro ys M _ ⟨rfl, g⟩
    exact he M g
end
theorem fm_filter {α : Type} {P : α → Bool} {g : α → D} : ∀ l : List α, l.filterMap (fun a => if P a = true then some (g a) else none) = (l.filter P).map g
  | [] => rfl
  | a :: l => by
    rw [List.filterMap_cons, List.filter_cons]
    cases h : P a <;> simp [fm_filter l]
theorem fm_some {α : Type} {g : α → D} : ∀ l : List α, l.filterMap (fun a => some (g a)) = l.map g
  | [] => rfl
  | a :: l => by simp [fm_some l]
theorem ix_last {L : LH} {k : Nat} {l : List D} {a : D} (h : L.get k = some (.lst (l ++ [a]))) : oIx (.ref k) (.int (-1)) L = .ok a L := by
  unfold oIx ixOf
  dsimp only
  rw [h]
  dsimp only
  rw [if_neg (by omega), if_pos (by simp; omega)]
  have e : (-1 + ((l ++ [a]).length : Int)).toNat = l.length := by simp; omega
  rw [e, Option.bind_some, List.getElem?_append_right (Nat.le_refl _), Nat.sub_self]
  rfl
end PD
/-! P24: more rules for simp. -/
namespace PD
open PySem
theorem o_not_f : (!false) = true := rfl
theorem o_not_t : (!true) = false := rfl
theorem o_dec_tt : decide (True) = true := rfl
theorem o_nn (b : Bool) : (!!b) = b := Bool.not_not b
theorem o_ne_b {a b : Bool} {L : LH} : oNe (.bl a) (.bl b) L = .ok (.bl (a != b)) L := by cases a <;> cases b <;> rfl
theorem o_eq_b {a b : Bool} {L : LH} : oEq (.bl a) (.bl b) L = .ok (.bl (a == b)) L := by cases a <;> cases b <;> rfl
theorem o_bne_tf (b : Bool) : (true != b) = !b := by cases b <;> rfl
theorem o_bne_ff (b : Bool) : (false != b) = b := by cases b <;> rfl
end PD
/-! P25: cuts between statements; texts of short lists. -/
namespace PD
open PySem
section
variable {R : Rec} {ρ : Slt} {L : LH} {X : XP} {S : Fl × Slt → LH → Prop} {a b : FS} {c : FC} {Y : List D → LH → Prop} {x y : D}
/-- one statement, by what holds behind it -/
theorem w_cut (J : Slt → LH → Prop) (ha : WS a R ρ L (fun p M => p.1 = .nx ∧ J p.2 M) X) (hb : ∀ ρ M, J ρ M → WS b R ρ M S X) : WS (sSeq a b) R ρ L S X := by
  rw [WS_seq]
  refine W_mono (show W (a R ρ L) _ X from ha) (fun p M h => ?_) fun _ _ _ h => h
  obtain ⟨f, ρ1⟩ := p
  obtain ⟨h1, h2⟩ := h
  dsimp only at h1
  subst h1
  rw [seqK_nx]
  exact hb _ _ h2
theorem lc2 (h : WC c R x ρ L (fun o M => ∃ d, o = some d ∧ WC c R y ρ M (fun o2 M2 => ∃ e, o2 = some e ∧ Y [d, e] M2) X) X) : WL c R ρ (.pur [x, y]) L Y X := by
  refine ⟨?_⟩
  show W (lcPur (fun x M => c R x ρ M) [x, y] [] L) Y X
  unfold lcPur
  rw [W_bind]
  refine W_mono (show W (c R x ρ L) _ X from h) (fun o M ho => ?_) fun _ _ _ h => h
  obtain ⟨d, rfl, h2⟩ := ho
  show W (if ([] : List D).length < sizeLine then lcPur _ [y] ([] ++ [d]) M else .bad) Y X
  rw [if_pos (by show 0 < sizeLine; decide)]
  unfold lcPur
  rw [W_bind]
  refine W_mono (show W (c R y ρ M) _ X from h2) (fun o M ho => ?_) fun _ _ _ h => h
  obtain ⟨e, rfl, h3⟩ := ho
  show W (if ([] ++ [d]).length < sizeLine then lcPur _ [] ([] ++ [d] ++ [e]) M else .bad) Y X
  rw [if_pos (by show 1 < sizeLine; decide)]
  show W (.ok [d, e] M) Y X
  rw [W_ok]; exact h3
end
theorem repr_l2 {L : LH} {a b : D} {p q : PyData} (ha : Sh L a p 8 100000) (hb : Sh L b q 8 100000) : bReprO [.ref L.len] (L.push (.lst [a, b])) = .ok (.str (PyData.list [p, q]).shown) (L.push (.lst [a, b])) := by
  have g := Gr.push (S := []) (L := L) Gr.refl (.lst [a, b])
  have := Sh.lst (g_push (L := L) (c := .lst [a, b])) (Shs.cons (ha.gr g) (Shs.cons (hb.gr g) Shs.nil))
  exact this.repr (by omega) (by omega)
theorem repr_of2 {L : LH} {n : Nat} {a b : D} {p q : PyData} (hg : L.get n = some (.lst [a, b])) (ha : Sh L a p 8 100000) (hb : Sh L b q 8 100000) : bReprO [.ref n] L = .ok (.str (PyData.list [p, q]).shown) L :=
  (Sh.lst hg (Shs.cons ha (Shs.cons hb Shs.nil))).repr (by omega) (by omega)
theorem repr_b {L : LH} {b : Bool} : bReprO [.bl b] L = .ok (.str (PyData.bool b).shown) L := (Sh.bl b).repr (by omega) (by omega)
/-- (a,) * k -/
theorem mul_t1 {L : LH} {a : D} {k : Nat} (h0 : 1 ≤ k) (h : k ≤ 1000) : oMul (.tup [a]) (.int (k : Int)) L = .ok (.tup (List.replicate k a)) L := by
  unfold oMul
  dsimp only
  by_cases h1 : (k : Int) = 1
  · rw [if_pos h1]
    have : k = 1 := by omega
    subst this; rfl
  · rw [if_neg h1, if_pos ⟨by omega, by omega, rfl, by show 1 ≤ 1000; decide⟩]
    have e : (List.replicate k [a]).flatten = List.replicate k a := by simp
    rw [Int.toNat_natCast, e]
end PD
/-! E0: the helpers of the laws of part 8, as combinators (printed by pfn.py). -/
namespace EG
open PySem PD
def law_source_fn : Fn := ⟨3, 1, (sSeq (sAsg (eC (.int 11)) (gNm 1)) (sSeq (sFor (gNm 2) (iE (eVar 0)) (sSeq (sAsg (e2 oMod (aApp (aCons (e2 oAdd (e2 oAdd (e2 oMul (eVar 1) (eC (.int 69069))) (e2 oMul (eVar 2) (eC (.int 31)))) (eC (.int 5))) aNil) bInt) (eC (.int 2147483629))) (gNm 1)) sNext)) (sSeq (sRet (eDct [((eC (.str "cells")), (e1 oRevL (eLc [2] (iE (eVar 0)) (cTurn (gNm 2) tYesT (aApp (aCons (eVar 2) aNil) bAbs))))), ((eC (.str "left")), (eC (.int 1))), ((eC (.str "mixed")), (eVar 1)), ((eC (.str "turn")), (eC (.int 0)))])) sNext)))⟩
def law_row_fn (i_law_pick : Nat) (i_law_of : Nat) (i_law_mixed : Nat) : Fn := ⟨9, 3, (sSeq (sAsg (aApp (aCons (eCall i_law_pick (aCons (eVar 0) (aCons (eC (.int 4)) aNil))) (aCons (aApp aNil oLst) (aCons (rg1 oLstR (eVar 1)) aNil))) oTup) (gTp 3 (gsCons (gNm 3) (gsCons (gNm 4) (gsCons (gNm 5) gsNil))))) (sSeq (sAsg (eLc [7] (iRange1 (aCons (eC (.int 3)) aNil)) (cTurn (gNm 7) tYesT (aApp (aCons (aApp (aCons (eSl (eCall i_law_mixed (aCons (eVar 0) (aCons (rg1 oLstR (eVar 1)) aNil))) bNo (bAt (eCall i_law_pick (aCons (eVar 0) (aCons (e2 oAdd (eVar 1) (eC (.int 1))) aNil))))) aNil) bSorted) aNil) bTup))) (gNm 6)) (sSeq (sFor (gNm 7) (iRange1 (aCons (eCall i_law_pick (aCons (eVar 0) (aCons (e2 oAdd (eVar 2) (eC (.int 1))) aNil))) aNil)) (sSeq (sIf (tV (e2 oEq (eVar 3) (eC (.int 0)))) (sSeq (sExpr (eBM "list" mAppend (eVar 4) (aCons (aApp (aCons (eLc [8] (iRange1 (aCons (eVar 1) aNil)) (cTurn (gNm 8) (tV (e2 oEq (eCall i_law_pick (aCons (eVar 0) (aCons (eC (.int 2)) aNil))) (eC (.int 0)))) (eVar 8))) aNil) bTup) aNil))) sNext) (sSeq (sIf (tV (e2 oEq (eVar 3) (eC (.int 1)))) (sSeq (sExpr (eBM "list" mAppend (eVar 4) (aCons (eCall i_law_of (aCons (eVar 0) (aCons (eVar 6) aNil))) aNil))) sNext) (sSeq (sIf (tV (e2 oEq (eVar 3) (eC (.int 2)))) (sSeq (sExpr (eBM "list" mAppend (eVar 4) (aCons (aApp (aCons (aApp (aCons (eVar 5) aNil) bSorted) aNil) bTup) aNil))) (sSeq (sIf (tAnd (tV (e2 oEq (eCall i_law_pick (aCons (eVar 0) (aCons (eC (.int 3)) aNil))) (eC (.int 0)))) (tV (e2 oGt (aApp (aCons (eVar 5) aNil) bLen) (eC (.int 1))))) (sSeq (sExpr (eBM "list" mPop (eVar 5) (aCons (eCall i_law_pick (aCons (eVar 0) (aCons (aApp (aCons (eVar 5) aNil) bLen) aNil))) aNil))) sNext) sNext) sNext)) (sSeq (sExpr (eBM "list" mAppend (eVar 4) (aCons (eIf (tV (e2 oEq (eCall i_law_pick (aCons (eVar 0) (aCons (eC (.int 2)) aNil))) (eC (.int 0)))) (aApp (aCons (eCall i_law_pick (aCons (eVar 0) (aCons (eVar 1) aNil))) aNil) oTup) (eCall i_law_of (aCons (eVar 0) (aCons (eVar 6) aNil)))) aNil))) sNext)) sNext)) sNext)) sNext)) (sSeq (sRet (aApp (aCons (eVar 4) aNil) bTup)) sNext))))⟩
def law_eager_fn (i_law_of : Nat) : Fn := ⟨11, 4, (sSeq (sAsg (aApp (aCons (e2 oMul (aApp (aCons (e2 oMul (eVar 2) (e2 oIx (eVar 1) (eC (.int 0)))) aNil) oLst) (aApp (aCons (e2 oIx (eVar 1) (eC (.int 1))) aNil) bLen)) (aCons (aApp aNil oLst) aNil)) oTup) (gTp 2 (gsCons (gNm 4) (gsCons (gNm 5) gsNil)))) (sSeq (sFor (gNm 6) (iE (eVar 3)) (sSeq (sAsg (eLc [8] (iE (eVar 6)) (cTurn (gNm 8) (tV (e2 oGt (e2 oIx (eVar 4) (eVar 8)) (eC (.int 0)))) (eVar 8))) (gNm 7)) (sSeq (sAsg (eLc [8] (iE (eVar 7)) (cTurn (gNm 8) (tV (e2 oEq (e2 oIx (e2 oIx (eVar 1) (eC (.int 1))) (eVar 8)) (aApp (aCons (eLc [10] (iE (eVar 7)) (cTurn (gNm 10) tYesT (e2 oIx (e2 oIx (eVar 1) (eC (.int 1))) (eVar 10)))) aNil) bMaxA))) (eVar 8))) (gNm 9)) (sSeq (sExpr (eBM "list" mAppend (eVar 5) (aCons (eIf (tV (e2 oNe (eVar 9) (aApp aNil oLst))) (eCall i_law_of (aCons (eVar 0) (aCons (eVar 9) aNil))) (eC .non)) aNil))) (sSeq (sIf (tV (e2 oNe (eVar 9) (aApp aNil oLst))) (sSeq (sAsg (e2 oSub (e2 oIx (eVar 4) (e2 oIx (eVar 5) (e1 oNeg (eC (.int 1))))) (eC (.int 1))) (gSub (eVar 4) (e2 oIx (eVar 5) (e1 oNeg (eC (.int 1)))))) sNext) sNext) sNext))))) (sSeq (sRet (aApp (aCons (eVar 5) aNil) bTup)) sNext)))⟩
def first_gifts_fn (tb_give : List (Nat × Nat)) (c_FirstGiver : Nat) (i_FirstGiver_init : Nat) : Fn := ⟨5, 3, (sSeq (sAsg (eMake c_FirstGiver i_FirstGiver_init (aCons (eVar 0) (aCons (eVar 1) aNil))) (gNm 3)) (sSeq (sRet (aApp (aCons (eLc [4] (iE (eVar 2)) (cTurn (gNm 4) tYesT (eMeth "give" tb_give (eVar 3) (aCons (eVar 4) aNil)))) aNil) bTup)) sNext))⟩
def law_yard_fn (i_law_pick : Nat) : Fn := ⟨7, 3, (sSeq (sAsg (aApp (aCons (e2 oAdd (eC (.int 1)) (eCall i_law_pick (aCons (eVar 0) (aCons (eVar 1) aNil)))) (aCons (eCall i_law_pick (aCons (eVar 0) (aCons (eC (.int 3)) aNil))) aNil)) oTup) (gTp 2 (gsCons (gNm 3) (gsCons (gNm 4) gsNil)))) (sSeq (sAsg (eLc [6] (iRange1 (aCons (eVar 3) aNil)) (cTurn (gNm 6) tYesT (e2 oAdd (eC (.int 1)) (eCall i_law_pick (aCons (eVar 0) (aCons (e2 oIx (aApp (aCons (eC (.int 1)) (aCons (eC (.int 4)) (aCons (eC (.int 1000)) aNil))) oLst) (eVar 4)) aNil)))))) (gNm 5)) (sSeq (sRet (aApp (aCons (e2 oAdd (eC (.int 1)) (eCall i_law_pick (aCons (eVar 0) (aCons (eVar 2) aNil)))) (aCons (aApp (aCons (eVar 5) aNil) bTup) aNil)) oTup)) sNext)))⟩
def law_first_fn : Fn := ⟨8, 3, (sSeq (sAsg (aApp (aCons (e2 oMul (aApp (aCons (e2 oMul (eVar 1) (e2 oIx (eVar 0) (eC (.int 0)))) aNil) oLst) (aApp (aCons (e2 oIx (eVar 0) (eC (.int 1))) aNil) bLen)) (aCons (aApp aNil oLst) aNil)) oTup) (gTp 2 (gsCons (gNm 3) (gsCons (gNm 4) gsNil)))) (sSeq (sFor (gNm 5) (iE (eVar 2)) (sSeq (sAsg (aApp (aCons (eLc [7] (iE (eVar 5)) (cTurn (gNm 7) (tV (e2 oGt (e2 oIx (eVar 3) (eVar 7)) (eC (.int 0)))) (aApp (aCons (e2 oSub (eC (.int 0)) (e2 oIx (e2 oIx (eVar 0) (eC (.int 1))) (eVar 7))) (aCons (eVar 7) aNil)) oTup))) aNil) bSorted) (gNm 6)) (sSeq (sExpr (eBM "list" mAppend (eVar 4) (aCons (eIf (tV (e2 oNe (eVar 6) (aApp aNil oLst))) (e2 oIx (e2 oIx (eVar 6) (eC (.int 0))) (eC (.int 1))) (eC .non)) aNil))) (sSeq (sIf (tV (e2 oNe (eVar 6) (aApp aNil oLst))) (sSeq (sAsg (e2 oSub (e2 oIx (eVar 3) (e2 oIx (e2 oIx (eVar 6) (eC (.int 0))) (eC (.int 1)))) (eC (.int 1))) (gSub (eVar 3) (e2 oIx (e2 oIx (eVar 6) (eC (.int 0))) (eC (.int 1))))) sNext) sNext) sNext)))) (sSeq (sRet (aApp (aCons (eVar 4) aNil) bTup)) sNext)))⟩
def law_pick_fn : Fn := ⟨4, 2, (sSeq (sWhile (tAnd (tV (e2 oGt (eVar 1) (eC (.int 1)))) (tAnd (tV (e2 oLt (e2 oIx (eVar 0) (eC (.str "left"))) (eC (.int 2)))) (tV (e2 oGt (aApp (aCons (e2 oIx (eVar 0) (eC (.str "cells"))) aNil) bLen) (eC (.int 0)))))) (sSeq (sAsg (eBM "list" mPop (e2 oIx (eVar 0) (eC (.str "cells"))) aNil) (gSub (eVar 0) (eC (.str "left")))) sNext)) (sSeq (sAsg (e2 oIx (eVar 0) (eC (.str "left"))) (gNm 2)) (sSeq (sIf (tOr (tV (e2 oLt (eVar 1) (eC (.int 2)))) (tV (e2 oGt (eVar 2) (eC (.int 1))))) (sSeq (sAsg (e2 oDiv (eVar 2) (aApp (aCons (eC (.int 1)) (aCons (eVar 1) aNil)) bMaxA)) (gSub (eVar 0) (eC (.str "left")))) (sSeq (sRet (e2 oMod (aApp (aCons (eVar 2) aNil) bInt) (aApp (aCons (eC (.int 1)) (aCons (eVar 1) aNil)) bMaxA))) sNext)) sNext) (sSeq (sAsg (e2 oAdd (e2 oIx (eVar 0) (eC (.str "turn"))) (eC (.int 1))) (gSub (eVar 0) (eC (.str "turn")))) (sSeq (sAsg (e2 oMod (aApp (aCons (e2 oAdd (e2 oIx (eVar 0) (eC (.str "mixed"))) (e2 oMul (e2 oIx (eVar 0) (eC (.str "turn"))) (eC (.int 104729)))) aNil) bInt) (eC (.int 998244353))) (gNm 3)) (sSeq (sAsg (e2 oMod (aApp (aCons (e2 oAdd (e2 oMul (eVar 3) (eVar 3)) (e2 oMul (e2 oIx (eVar 0) (eC (.str "turn"))) (eC (.int 17)))) aNil) bInt) (eC (.int 2147483647))) (gNm 3)) (sSeq (sAsg (eVar 3) (gSub (eVar 0) (eC (.str "mixed")))) (sSeq (sRet (e2 oMod (aApp (aCons (e2 oDiv (eVar 3) (eC (.int 16))) aNil) bInt) (eVar 1))) sNext))))))))⟩
def run_fn (tb_give : List (Nat × Nat)) : Fn := ⟨3, 2, (sSeq (sRet (aApp (aCons (eLc [2] (iE (eVar 1)) (cTurn (gNm 2) tYesT (eMeth "give" tb_give (eVar 0) (aCons (eVar 2) aNil)))) aNil) bTup)) sNext)⟩
def law_any_gifts_fn (i_law_pick : Nat) (i_law_of : Nat) : Fn := ⟨10, 4, (sSeq (sAsg (aApp (aCons (e2 oMul (aApp (aCons (eVar 1) aNil) oLst) (eVar 3)) (aCons (aApp aNil oLst) aNil)) oTup) (gTp 2 (gsCons (gNm 4) (gsCons (gNm 5) gsNil)))) (sSeq (sFor (gNm 6) (iE (eVar 2)) (sSeq (sAsg (eLc [8] (iE (eVar 6)) (cTurn (gNm 8) (tV (e2 oGt (e2 oIx (eVar 4) (eVar 8)) (eC (.int 0)))) (eVar 8))) (gNm 7)) (sSeq (sAsg (eIf (tAnd (tV (e2 oNe (eVar 7) (aApp aNil oLst))) (tV (e2 oGt (eCall i_law_pick (aCons (eVar 0) (aCons (eC (.int 5)) aNil))) (eC (.int 0))))) (eCall i_law_of (aCons (eVar 0) (aCons (eVar 7) aNil))) (eC .non)) (gNm 9)) (sSeq (sExpr (eBM "list" mAppend (eVar 5) (aCons (eVar 9) aNil))) (sSeq (sIf (tV (e2 oIsNot (eVar 9) (eC .non))) (sSeq (sAsg (e2 oSub (e2 oIx (eVar 4) (eVar 9)) (eC (.int 1))) (gSub (eVar 4) (eVar 9))) sNext) sNext) sNext))))) (sSeq (sRet (aApp (aCons (eVar 5) aNil) bTup)) sNext)))⟩
def is_eager_fn : Fn := ⟨10, 4, (sSeq (sAsg (eLc [5] (iE (e2 oIx (eVar 0) (eC (.int 1)))) (cTurn (gNm 5) tYesT (e2 oMul (eVar 1) (e2 oIx (eVar 0) (eC (.int 0)))))) (gNm 4)) (sSeq (sFor (gTp 2 (gsCons (gNm 6) (gsCons (gNm 7) gsNil))) (iZipT (aCons (eVar 2) (aCons (eVar 3) aNil))) (sSeq (sAsg (eLc [9] (iE (eVar 6)) (cTurn (gNm 9) (tV (e2 oGt (e2 oIx (eVar 4) (eVar 9)) (eC (.int 0)))) (e2 oIx (e2 oIx (eVar 0) (eC (.int 1))) (eVar 9)))) (gNm 8)) (sSeq (sIf (tOr (tAnd (tV (e2 oIs (eVar 7) (eC .non))) (tV (e2 oNe (eVar 8) (aApp aNil oLst)))) (tAnd (tV (e2 oIsNot (eVar 7) (eC .non))) (tV (e2 oLt (e2 oIx (e2 oIx (eVar 0) (eC (.int 1))) (eVar 7)) (aApp (aCons (eVar 8) aNil) bMaxA))))) (sSeq (sRet (eC (.bl false))) sNext) sNext) (sSeq (sIf (tV (e2 oIsNot (eVar 7) (eC .non))) (sSeq (sAsg (e2 oSub (e2 oIx (eVar 4) (eVar 7)) (eC (.int 1))) (gSub (eVar 4) (eVar 7))) sNext) sNext) sNext)))) (sSeq (sRet (eC (.bl true))) sNext)))⟩
def FirstGiver__init_fn (cs_FirstGiver : List Nat) : Fn := ⟨4, 3, (sSeq (sFldSet cs_FirstGiver "yard" (eVar 0) (eVar 1)) (sSeq (sFldSet cs_FirstGiver "left" (eVar 0) (eLc [3] (iE (e2 oIx (eVar 1) (eC (.int 1)))) (cTurn (gNm 3) tYesT (e2 oMul (eVar 2) (e2 oIx (eVar 1) (eC (.int 0))))))) sNext))⟩
def bare_row_fn : Fn := ⟨3, 2, (sSeq (sAsg (rg1 oTupR (e2 oAdd (eVar 0) (eC (.int 1)))) (gNm 2)) (sSeq (sRet (aApp (aCons (aApp (aCons (eVar 1) (aCons (e2 oMul (aApp (aCons (eC (.int 1)) aNil) oTup) (e2 oAdd (eVar 0) (eC (.int 1)))) aNil)) oTup) (aCons (e2 oAdd (e2 oMul (aApp (aCons (eVar 2) aNil) oTup) (e2 oMul (eVar 0) (eVar 1))) (e2 oMul (aApp (aCons (aApp (aCons (eC (.int 0)) aNil) oTup) aNil) oTup) (eVar 1))) aNil)) oTup)) sNext))⟩
def law_is_eager_fn : Fn := ⟨9, 4, (sSeq (sAsg (e2 oMul (aApp (aCons (e2 oMul (eVar 1) (e2 oIx (eVar 0) (eC (.int 0)))) aNil) oLst) (aApp (aCons (e2 oIx (eVar 0) (eC (.int 1))) aNil) bLen)) (gNm 4)) (sSeq (sFor (gTp 2 (gsCons (gNm 5) (gsCons (gNm 6) gsNil))) (iZip2 (aCons (eVar 2) (aCons (eVar 3) aNil))) (sSeq (sAsg (eLc [8] (iE (eVar 5)) (cTurn (gNm 8) (tV (e2 oGt (e2 oIx (eVar 4) (eVar 8)) (eC (.int 0)))) (e2 oIx (e2 oIx (eVar 0) (eC (.int 1))) (eVar 8)))) (gNm 7)) (sSeq (sIf (tOr (tV (e2 oNe (e2 oIs (eVar 6) (eC .non)) (e2 oEq (eVar 7) (aApp aNil oLst)))) (tAnd (tV (e2 oIsNot (eVar 6) (eC .non))) (tV (e2 oNe (e2 oIx (e2 oIx (eVar 0) (eC (.int 1))) (eVar 6)) (aApp (aCons (eVar 7) aNil) bMaxA))))) (sSeq (sRet (eC (.bl false))) sNext) sNext) (sSeq (sIf (tV (e2 oIsNot (eVar 6) (eC .non))) (sSeq (sAsg (e2 oSub (e2 oIx (eVar 4) (eVar 6)) (eC (.int 1))) (gSub (eVar 4) (eVar 6))) sNext) sNext) sNext)))) (sSeq (sRet (eC (.bl true))) sNext)))⟩
def FirstGiver_give_fn (cs_FirstGiver : List Nat) : Fn := ⟨4, 2, (sSeq (sAsg (eC .non) (gNm 2)) (sSeq (sFor (gNm 3) (iE (eVar 1)) (sSeq (sIf (tAnd (tV (e2 oGt (e2 oIx (e1 (oFld cs_FirstGiver "left") (eVar 0)) (eVar 3)) (eC (.int 0)))) (tOr (tV (e2 oIs (eVar 2) (eC .non))) (tV (e2 oGt (e2 oIx (e2 oIx (e1 (oFld cs_FirstGiver "yard") (eVar 0)) (eC (.int 1))) (eVar 3)) (e2 oIx (e2 oIx (e1 (oFld cs_FirstGiver "yard") (eVar 0)) (eC (.int 1))) (eVar 2)))))) (sSeq (sAsg (eVar 3) (gNm 2)) sNext) sNext) sNext)) (sSeq (sIf (tV (e2 oIsNot (eVar 2) (eC .non))) (sSeq (sAsg (e2 oSub (e2 oIx (e1 (oFld cs_FirstGiver "left") (eVar 0)) (eVar 2)) (eC (.int 1))) (gSub (e1 (oFld cs_FirstGiver "left") (eVar 0)) (eVar 2))) sNext) sNext) (sSeq (sRet (eVar 2)) sNext))))⟩
def law_mixed_fn (i_law_pick : Nat) : Fn := ⟨4, 2, (sSeq (sAsg (aApp (aCons (eVar 1) aNil) bLst) (gNm 2)) (sSeq (sRet (eLc [3] (iRange1 (aCons (aApp (aCons (eVar 2) aNil) bLen) aNil)) (cTurn (gNm 3) tYesT (eBM "list" mPop (eVar 2) (aCons (eCall i_law_pick (aCons (eVar 0) (aCons (aApp (aCons (eVar 2) aNil) bLen) aNil))) aNil))))) sNext))⟩
def law_of_fn (i_law_pick : Nat) : Fn := ⟨2, 2, (sSeq (sRet (e2 oIx (eVar 1) (eCall i_law_pick (aCons (eVar 0) (aCons (aApp (aCons (eVar 1) aNil) bLen) aNil))))) sNext)⟩
end EG
/-! E1: drawn yards and rows. -/
namespace EG
open PySem PD
def YardOk (R : Rec) (i : Nat) : Prop := ∀ (s c : Nat) (L : LH) (top high : Int), Src L s c → 1 ≤ top → top ≤ 1000 → 1 ≤ high → high ≤ 1000 → W (R i [.ref s, .int top, .int high] L) (fun d M => ∃ (c0 : Int) (w : List Int), d = yardD c0 w ∧ 1 ≤ c0 ∧ c0 ≤ high ∧ 1 ≤ w.length ∧ (w.length : Int) ≤ top ∧ (∀ x ∈ w, 1 ≤ x ∧ x ≤ 1000) ∧ Dr s c L M) nX
theorem ix3 {L : LH} {n : Nat} {i : Int} (h : L.get n = some (.lst [.int 1, .int 4, .int 1000])) (h0 : 0 ≤ i) (h1 : i < 3) : ∃ b : Int, 1 ≤ b ∧ b ≤ 1000 ∧ oIx (.ref n) (.int i) L = .ok (.int b) L := by
  have : i = 0 ∨ i = 1 ∨ i = 2 := by omega
  rcases this with rfl | rfl | rfl
  · exact ⟨1, by decide, by decide, o_ix_l (n := 0) h rfl⟩
  · exact ⟨4, by decide, by decide, o_ix_l (n := 1) h rfl⟩
  · exact ⟨1000, by decide, by decide, o_ix_l (n := 2) h rfl⟩
section
variable {F : Nat → Option Fn} {i j : Nat}
theorem yardOk (h : F i = some (law_yard_fn j)) (hp : F j = some pickFn) : From F 2 (YardOk · i) := by
  intro n s c L top high hs t1 t2 g1 g2
  rw [W_runN h rfl]
  unfold law_yard_fn
  show WS _ _ [some (.ref s), some (.int top), some (.int high), none, none, none, none] L _ _
  try simp only [word_snoc, PD.w_ok, PD.w_exc, PD.w_ift, PD.w_iff, PD.w_c, PD.w_getK, PD.w_slt0, PD.w_slts, PD.w_set0, PD.w_sets, PD.w_wipe0, PD.w_wipes, PD.w_var, PD.w_1, PD.w_2, PD.w_nil, PD.w_cons, PD.w_app, PD.w_eif, PD.w_truK, PD.w_and, PD.w_or, PD.w_not, PD.w_call, PD.w_meth, PD.w_nonK, PD.w_make, PD.w_bm, PD.w_sl, PD.w_bNo, PD.w_intK, PD.w_bAt, PD.w_blK, PD.w_chn, PD.w_tb1, PD.w_lc, PD.w_turn, PD.w_yes, PD.w_tv, PD.w_tand, PD.w_tor, PD.w_tnot, PD.w_nm, PD.w_sub, PD.w_gnil, PD.w_gcons, PD.w_knx, PD.w_krt, PD.w_kbk, PD.w_kct, PD.w_kex, PD.w_seq, PD.w_next, PD.w_asg, PD.w_expr, PD.w_ret, PD.w_retN, PD.w_brk, PD.w_cnt, PD.w_if, PD.w_aug, PD.w_fset, PD.w_saug, PD.w_for, PD.w_while, PD.w_ie, PD.w_rt, PD.w_nx, PD.w_ex, PD.w_rg1, PD.w_rg2, PD.w_enu, PD.w_zip2, PD.w_zipT, PD.w_rgl1, PD.o_add_i, PD.o_sub_i, PD.o_lt_i, PD.o_le_i, PD.o_gt_i, PD.o_ge_i, PD.o_is_n, PD.o_is_b, PD.o_isnot_b, PD.o_isnot_n, PD.o_isn_non, PD.o_isn_int, PD.o_isn_tup, PD.o_neg_i, PD.o_tru_b, PD.o_int_i, PD.o_int_b, PD.o_len_t, PD.o_tup_t, PD.o_lst_t, PD.o_max2, PD.o_min2, PD.o_ix_0, PD.o_ix_1, PD.o_ix_2, PD.o_ix_3, PD.it_t, PD.it_r, PD.enu_t, PD.zip_t, PD.o_tup0, PD.o_tup1, PD.o_tup2, PD.o_tup3, PD.o_tup4, PD.o_lst0, PD.o_lst1, PD.o_lst2, PD.o_lst3, PD.o_lst4, PD.g_push, PD.w_lnx, PD.w_lct, PD.w_lbk, PD.w_lrt, PD.w_lex, PD.w_lcn, PD.w_lcs, PD.o_eq_s, PD.o_ne_s, PD.o_eq_i, PD.o_ne_i, PD.w_gtp2, PD.w_gtp3, PD.w_gtp4, PD.rg_map, PD.o_lstR0, PD.o_tupR0, PD.o_not_f, PD.o_not_t, PD.o_dec_tt, PD.o_nn, PD.o_ne_b, PD.o_eq_b, PD.o_bne_tf, PD.o_bne_ff]
  refine W_use (pickOk hp n s c L top hs (by omega)) fun d M hM => ?_
  obtain ⟨r, rfl, r0, r1, d1, l1⟩ := hM
  try simp only [word_snoc, PD.w_ok, PD.w_exc, PD.w_ift, PD.w_iff, PD.w_c, PD.w_getK, PD.w_slt0, PD.w_slts, PD.w_set0, PD.w_sets, PD.w_wipe0, PD.w_wipes, PD.w_var, PD.w_1, PD.w_2, PD.w_nil, PD.w_cons, PD.w_app, PD.w_eif, PD.w_truK, PD.w_and, PD.w_or, PD.w_not, PD.w_call, PD.w_meth, PD.w_nonK, PD.w_make, PD.w_bm, PD.w_sl, PD.w_bNo, PD.w_intK, PD.w_bAt, PD.w_blK, PD.w_chn, PD.w_tb1, PD.w_lc, PD.w_turn, PD.w_yes, PD.w_tv, PD.w_tand, PD.w_tor, PD.w_tnot, PD.w_nm, PD.w_sub, PD.w_gnil, PD.w_gcons, PD.w_knx, PD.w_krt, PD.w_kbk, PD.w_kct, PD.w_kex, PD.w_seq, PD.w_next, PD.w_asg, PD.w_expr, PD.w_ret, PD.w_retN, PD.w_brk, PD.w_cnt, PD.w_if, PD.w_aug, PD.w_fset, PD.w_saug, PD.w_for, PD.w_while, PD.w_ie, PD.w_rt, PD.w_nx, PD.w_ex, PD.w_rg1, PD.w_rg2, PD.w_enu, PD.w_zip2, PD.w_zipT, PD.w_rgl1, PD.o_add_i, PD.o_sub_i, PD.o_lt_i, PD.o_le_i, PD.o_gt_i, PD.o_ge_i, PD.o_is_n, PD.o_is_b, PD.o_isnot_b, PD.o_isnot_n, PD.o_isn_non, PD.o_isn_int, PD.o_isn_tup, PD.o_neg_i, PD.o_tru_b, PD.o_int_i, PD.o_int_b, PD.o_len_t, PD.o_tup_t, PD.o_lst_t, PD.o_max2, PD.o_min2, PD.o_ix_0, PD.o_ix_1, PD.o_ix_2, PD.o_ix_3, PD.it_t, PD.it_r, PD.enu_t, PD.zip_t, PD.o_tup0, PD.o_tup1, PD.o_tup2, PD.o_tup3, PD.o_tup4, PD.o_lst0, PD.o_lst1, PD.o_lst2, PD.o_lst3, PD.o_lst4, PD.g_push, PD.w_lnx, PD.w_lct, PD.w_lbk, PD.w_lrt, PD.w_lex, PD.w_lcn, PD.w_lcs, PD.o_eq_s, PD.o_ne_s, PD.o_eq_i, PD.o_ne_i, PD.w_gtp2, PD.w_gtp3, PD.w_gtp4, PD.rg_map, PD.o_lstR0, PD.o_tupR0, PD.o_not_f, PD.o_not_t, PD.o_dec_tt, PD.o_nn, PD.o_ne_b, PD.o_eq_b, PD.o_bne_tf, PD.o_bne_ff]
  refine W_use (pickOk hp n s c M 3 d1.src (by omega)) fun d M2 hM => ?_
  obtain ⟨r2, rfl, q0, q1, d2, l2⟩ := hM
  try simp only [word_snoc, PD.w_ok, PD.w_exc, PD.w_ift, PD.w_iff, PD.w_c, PD.w_getK, PD.w_slt0, PD.w_slts, PD.w_set0, PD.w_sets, PD.w_wipe0, PD.w_wipes, PD.w_var, PD.w_1, PD.w_2, PD.w_nil, PD.w_cons, PD.w_app, PD.w_eif, PD.w_truK, PD.w_and, PD.w_or, PD.w_not, PD.w_call, PD.w_meth, PD.w_nonK, PD.w_make, PD.w_bm, PD.w_sl, PD.w_bNo, PD.w_intK, PD.w_bAt, PD.w_blK, PD.w_chn, PD.w_tb1, PD.w_lc, PD.w_turn, PD.w_yes, PD.w_tv, PD.w_tand, PD.w_tor, PD.w_tnot, PD.w_nm, PD.w_sub, PD.w_gnil, PD.w_gcons, PD.w_knx, PD.w_krt, PD.w_kbk, PD.w_kct, PD.w_kex, PD.w_seq, PD.w_next, PD.w_asg, PD.w_expr, PD.w_ret, PD.w_retN, PD.w_brk, PD.w_cnt, PD.w_if, PD.w_aug, PD.w_fset, PD.w_saug, PD.w_for, PD.w_while, PD.w_ie, PD.w_rt, PD.w_nx, PD.w_ex, PD.w_rg1, PD.w_rg2, PD.w_enu, PD.w_zip2, PD.w_zipT, PD.w_rgl1, PD.o_add_i, PD.o_sub_i, PD.o_lt_i, PD.o_le_i, PD.o_gt_i, PD.o_ge_i, PD.o_is_n, PD.o_is_b, PD.o_isnot_b, PD.o_isnot_n, PD.o_isn_non, PD.o_isn_int, PD.o_isn_tup, PD.o_neg_i, PD.o_tru_b, PD.o_int_i, PD.o_int_b, PD.o_len_t, PD.o_tup_t, PD.o_lst_t, PD.o_max2, PD.o_min2, PD.o_ix_0, PD.o_ix_1, PD.o_ix_2, PD.o_ix_3, PD.it_t, PD.it_r, PD.enu_t, PD.zip_t, PD.o_tup0, PD.o_tup1, PD.o_tup2, PD.o_tup3, PD.o_tup4, PD.o_lst0, PD.o_lst1, PD.o_lst2, PD.o_lst3, PD.o_lst4, PD.g_push, PD.w_lnx, PD.w_lct, PD.w_lbk, PD.w_lrt, PD.w_lex, PD.w_lcn, PD.w_lcs, PD.o_eq_s, PD.o_ne_s, PD.o_eq_i, PD.o_ne_i, PD.w_gtp2, PD.w_gtp3, PD.w_gtp4, PD.rg_map, PD.o_lstR0, PD.o_tupR0, PD.o_not_f, PD.o_not_t, PD.o_dec_tt, PD.o_nn, PD.o_ne_b, PD.o_eq_b, PD.o_bne_tf, PD.o_bne_ff]
  refine ⟨in62_of (by omega) (by omega), ?_⟩
  refine lcW (fun p ys N => ∃ w : List Int, ys = w.map D.int ∧ w.length = p.length ∧ (∀ x ∈ w, 1 ≤ x ∧ x ≤ 1000) ∧ Dr s c M2 N) (by rw [List.length_range]; unfold sizeLine; omega) ⟨[], rfl, rfl, by simp, .refl d2.src⟩ ?_ ?_
  · rintro p a q ys N e hy ⟨w, rfl, hl, hw, dN⟩
    obtain ⟨b, b1, b2, eb⟩ := ix3 (L := N.push (.lst [.int 1, .int 4, .int 1000])) (n := N.len) g_push q0 (by omega)
    simp only [word_snoc, PD.w_ok, PD.w_exc, PD.w_ift, PD.w_iff, PD.w_c, PD.w_getK, PD.w_slt0, PD.w_slts, PD.w_set0, PD.w_sets, PD.w_wipe0, PD.w_wipes, PD.w_var, PD.w_1, PD.w_2, PD.w_nil, PD.w_cons, PD.w_app, PD.w_eif, PD.w_truK, PD.w_and, PD.w_or, PD.w_not, PD.w_call, PD.w_meth, PD.w_nonK, PD.w_make, PD.w_bm, PD.w_sl, PD.w_bNo, PD.w_intK, PD.w_bAt, PD.w_blK, PD.w_chn, PD.w_tb1, PD.w_lc, PD.w_turn, PD.w_yes, PD.w_tv, PD.w_tand, PD.w_tor, PD.w_tnot, PD.w_nm, PD.w_sub, PD.w_gnil, PD.w_gcons, PD.w_knx, PD.w_krt, PD.w_kbk, PD.w_kct, PD.w_kex, PD.w_seq, PD.w_next, PD.w_asg, PD.w_expr, PD.w_ret, PD.w_retN, PD.w_brk, PD.w_cnt, PD.w_if, PD.w_aug, PD.w_fset, PD.w_saug, PD.w_for, PD.w_while, PD.w_ie, PD.w_rt, PD.w_nx, PD.w_ex, PD.w_rg1, PD.w_rg2, PD.w_enu, PD.w_zip2, PD.w_zipT, PD.w_rgl1, PD.o_add_i, PD.o_sub_i, PD.o_lt_i, PD.o_le_i, PD.o_gt_i, PD.o_ge_i, PD.o_is_n, PD.o_is_b, PD.o_isnot_b, PD.o_isnot_n, PD.o_isn_non, PD.o_isn_int, PD.o_isn_tup, PD.o_neg_i, PD.o_tru_b, PD.o_int_i, PD.o_int_b, PD.o_len_t, PD.o_tup_t, PD.o_lst_t, PD.o_max2, PD.o_min2, PD.o_ix_0, PD.o_ix_1, PD.o_ix_2, PD.o_ix_3, PD.it_t, PD.it_r, PD.enu_t, PD.zip_t, PD.o_tup0, PD.o_tup1, PD.o_tup2, PD.o_tup3, PD.o_tup4, PD.o_lst0, PD.o_lst1, PD.o_lst2, PD.o_lst3, PD.o_lst4, PD.g_push, PD.w_lnx, PD.w_lct, PD.w_lbk, PD.w_lrt, PD.w_lex, PD.w_lcn, PD.w_lcs, PD.o_eq_s, PD.o_ne_s, PD.o_eq_i, PD.o_ne_i, PD.w_gtp2, PD.w_gtp3, PD.w_gtp4, PD.rg_map, PD.o_lstR0, PD.o_tupR0, PD.o_not_f, PD.o_not_t, PD.o_dec_tt, PD.o_nn, PD.o_ne_b, PD.o_eq_b, PD.o_bne_tf, PD.o_bne_ff, eb]
    refine W_use (pickOk hp n s c _ b (dN.push _).src (by omega)) fun d N2 hN => ?_
    obtain ⟨r3, rfl, s0, s1, d3, l3⟩ := hN
    try simp only [word_snoc, PD.w_ok, PD.w_exc, PD.w_ift, PD.w_iff, PD.w_c, PD.w_getK, PD.w_slt0, PD.w_slts, PD.w_set0, PD.w_sets, PD.w_wipe0, PD.w_wipes, PD.w_var, PD.w_1, PD.w_2, PD.w_nil, PD.w_cons, PD.w_app, PD.w_eif, PD.w_truK, PD.w_and, PD.w_or, PD.w_not, PD.w_call, PD.w_meth, PD.w_nonK, PD.w_make, PD.w_bm, PD.w_sl, PD.w_bNo, PD.w_intK, PD.w_bAt, PD.w_blK, PD.w_chn, PD.w_tb1, PD.w_lc, PD.w_turn, PD.w_yes, PD.w_tv, PD.w_tand, PD.w_tor, PD.w_tnot, PD.w_nm, PD.w_sub, PD.w_gnil, PD.w_gcons, PD.w_knx, PD.w_krt, PD.w_kbk, PD.w_kct, PD.w_kex, PD.w_seq, PD.w_next, PD.w_asg, PD.w_expr, PD.w_ret, PD.w_retN, PD.w_brk, PD.w_cnt, PD.w_if, PD.w_aug, PD.w_fset, PD.w_saug, PD.w_for, PD.w_while, PD.w_ie, PD.w_rt, PD.w_nx, PD.w_ex, PD.w_rg1, PD.w_rg2, PD.w_enu, PD.w_zip2, PD.w_zipT, PD.w_rgl1, PD.o_add_i, PD.o_sub_i, PD.o_lt_i, PD.o_le_i, PD.o_gt_i, PD.o_ge_i, PD.o_is_n, PD.o_is_b, PD.o_isnot_b, PD.o_isnot_n, PD.o_isn_non, PD.o_isn_int, PD.o_isn_tup, PD.o_neg_i, PD.o_tru_b, PD.o_int_i, PD.o_int_b, PD.o_len_t, PD.o_tup_t, PD.o_lst_t, PD.o_max2, PD.o_min2, PD.o_ix_0, PD.o_ix_1, PD.o_ix_2, PD.o_ix_3, PD.it_t, PD.it_r, PD.enu_t, PD.zip_t, PD.o_tup0, PD.o_tup1, PD.o_tup2, PD.o_tup3, PD.o_tup4, PD.o_lst0, PD.o_lst1, PD.o_lst2, PD.o_lst3, PD.o_lst4, PD.g_push, PD.w_lnx, PD.w_lct, PD.w_lbk, PD.w_lrt, PD.w_lex, PD.w_lcn, PD.w_lcs, PD.o_eq_s, PD.o_ne_s, PD.o_eq_i, PD.o_ne_i, PD.w_gtp2, PD.w_gtp3, PD.w_gtp4, PD.rg_map, PD.o_lstR0, PD.o_tupR0, PD.o_not_f, PD.o_not_t, PD.o_dec_tt, PD.o_nn, PD.o_ne_b, PD.o_eq_b, PD.o_bne_tf, PD.o_bne_ff]
    refine ⟨w ++ [1 + r3], by simp, by simp [hl], fun x hx => ?_, (dN.push _).trans d3⟩
    rcases List.mem_append.mp hx with hx | hx
    · exact hw x hx
    · rw [List.mem_singleton.mp hx]; omega
  · rintro ys N hy ⟨w, rfl, hl, hw, dN⟩
    try simp only [word_snoc, PD.w_ok, PD.w_exc, PD.w_ift, PD.w_iff, PD.w_c, PD.w_getK, PD.w_slt0, PD.w_slts, PD.w_set0, PD.w_sets, PD.w_wipe0, PD.w_wipes, PD.w_var, PD.w_1, PD.w_2, PD.w_nil, PD.w_cons, PD.w_app, PD.w_eif, PD.w_truK, PD.w_and, PD.w_or, PD.w_not, PD.w_call, PD.w_meth, PD.w_nonK, PD.w_make, PD.w_bm, PD.w_sl, PD.w_bNo, PD.w_intK, PD.w_bAt, PD.w_blK, PD.w_chn, PD.w_tb1, PD.w_lc, PD.w_turn, PD.w_yes, PD.w_tv, PD.w_tand, PD.w_tor, PD.w_tnot, PD.w_nm, PD.w_sub, PD.w_gnil, PD.w_gcons, PD.w_knx, PD.w_krt, PD.w_kbk, PD.w_kct, PD.w_kex, PD.w_seq, PD.w_next, PD.w_asg, PD.w_expr, PD.w_ret, PD.w_retN, PD.w_brk, PD.w_cnt, PD.w_if, PD.w_aug, PD.w_fset, PD.w_saug, PD.w_for, PD.w_while, PD.w_ie, PD.w_rt, PD.w_nx, PD.w_ex, PD.w_rg1, PD.w_rg2, PD.w_enu, PD.w_zip2, PD.w_zipT, PD.w_rgl1, PD.o_add_i, PD.o_sub_i, PD.o_lt_i, PD.o_le_i, PD.o_gt_i, PD.o_ge_i, PD.o_is_n, PD.o_is_b, PD.o_isnot_b, PD.o_isnot_n, PD.o_isn_non, PD.o_isn_int, PD.o_isn_tup, PD.o_neg_i, PD.o_tru_b, PD.o_int_i, PD.o_int_b, PD.o_len_t, PD.o_tup_t, PD.o_lst_t, PD.o_max2, PD.o_min2, PD.o_ix_0, PD.o_ix_1, PD.o_ix_2, PD.o_ix_3, PD.it_t, PD.it_r, PD.enu_t, PD.zip_t, PD.o_tup0, PD.o_tup1, PD.o_tup2, PD.o_tup3, PD.o_tup4, PD.o_lst0, PD.o_lst1, PD.o_lst2, PD.o_lst3, PD.o_lst4, PD.g_push, PD.w_lnx, PD.w_lct, PD.w_lbk, PD.w_lrt, PD.w_lex, PD.w_lcn, PD.w_lcs, PD.o_eq_s, PD.o_ne_s, PD.o_eq_i, PD.o_ne_i, PD.w_gtp2, PD.w_gtp3, PD.w_gtp4, PD.rg_map, PD.o_lstR0, PD.o_tupR0, PD.o_not_f, PD.o_not_t, PD.o_dec_tt, PD.o_nn, PD.o_ne_b, PD.o_eq_b, PD.o_bne_tf, PD.o_bne_ff]
    refine W_use (pickOk hp n s c _ high (dN.push _).src (by omega)) fun d N2 hN => ?_
    obtain ⟨r3, rfl, s0, s1, d3, l3⟩ := hN
    have g : N2.get N.len = some (iL w) := d3.at g_push (by have := dN.src.lt; omega) (by have := dN.src.lt; omega)
    simp only [word_snoc, PD.w_ok, PD.w_exc, PD.w_ift, PD.w_iff, PD.w_c, PD.w_getK, PD.w_slt0, PD.w_slts, PD.w_set0, PD.w_sets, PD.w_wipe0, PD.w_wipes, PD.w_var, PD.w_1, PD.w_2, PD.w_nil, PD.w_cons, PD.w_app, PD.w_eif, PD.w_truK, PD.w_and, PD.w_or, PD.w_not, PD.w_call, PD.w_meth, PD.w_nonK, PD.w_make, PD.w_bm, PD.w_sl, PD.w_bNo, PD.w_intK, PD.w_bAt, PD.w_blK, PD.w_chn, PD.w_tb1, PD.w_lc, PD.w_turn, PD.w_yes, PD.w_tv, PD.w_tand, PD.w_tor, PD.w_tnot, PD.w_nm, PD.w_sub, PD.w_gnil, PD.w_gcons, PD.w_knx, PD.w_krt, PD.w_kbk, PD.w_kct, PD.w_kex, PD.w_seq, PD.w_next, PD.w_asg, PD.w_expr, PD.w_ret, PD.w_retN, PD.w_brk, PD.w_cnt, PD.w_if, PD.w_aug, PD.w_fset, PD.w_saug, PD.w_for, PD.w_while, PD.w_ie, PD.w_rt, PD.w_nx, PD.w_ex, PD.w_rg1, PD.w_rg2, PD.w_enu, PD.w_zip2, PD.w_zipT, PD.w_rgl1, PD.o_add_i, PD.o_sub_i, PD.o_lt_i, PD.o_le_i, PD.o_gt_i, PD.o_ge_i, PD.o_is_n, PD.o_is_b, PD.o_isnot_b, PD.o_isnot_n, PD.o_isn_non, PD.o_isn_int, PD.o_isn_tup, PD.o_neg_i, PD.o_tru_b, PD.o_int_i, PD.o_int_b, PD.o_len_t, PD.o_tup_t, PD.o_lst_t, PD.o_max2, PD.o_min2, PD.o_ix_0, PD.o_ix_1, PD.o_ix_2, PD.o_ix_3, PD.it_t, PD.it_r, PD.enu_t, PD.zip_t, PD.o_tup0, PD.o_tup1, PD.o_tup2, PD.o_tup3, PD.o_tup4, PD.o_lst0, PD.o_lst1, PD.o_lst2, PD.o_lst3, PD.o_lst4, PD.g_push, PD.w_lnx, PD.w_lct, PD.w_lbk, PD.w_lrt, PD.w_lex, PD.w_lcn, PD.w_lcs, PD.o_eq_s, PD.o_ne_s, PD.o_eq_i, PD.o_ne_i, PD.w_gtp2, PD.w_gtp3, PD.w_gtp4, PD.rg_map, PD.o_lstR0, PD.o_tupR0, PD.o_not_f, PD.o_not_t, PD.o_dec_tt, PD.o_nn, PD.o_ne_b, PD.o_eq_b, PD.o_bne_tf, PD.o_bne_ff, o_tup_l g]
    refine ⟨1 + r3, w, rfl, by omega, by omega, ?_, ?_, hw, ((d1.trans d2).trans (dN.push _)).trans d3⟩
    · rw [hl, List.length_range]; omega
    · rw [hl, List.length_range]; omega
end
end EG
/-! E2: drawn rows. -/
namespace EG
open PySem PD
/-- a request of a yard with so many houses -/
def Req (many : Nat) (r : List Nat) : Prop := r.Pairwise (· < ·) ∧ ∀ h ∈ r, h < many
def RowOk (R : Rec) (i : Nat) : Prop := ∀ (s c : Nat) (L : LH) (many : Nat) (top : Int), Src L s c → 1 ≤ many → many ≤ 1000 → 0 ≤ top → top ≤ 1000 → W (R i [.ref s, nD many, .int top] L) (fun d M => ∃ row : List (List Nat), d = rowD row ∧ (row.length : Int) ≤ top ∧ (∀ r ∈ row, Req many r) ∧ Dr s c L M) nX
theorem req_sorted {many : Nat} {l : List Nat} (h1 : l.Nodup) (h2 : ∀ h ∈ l, h < many) : Req many (isort leN l) :=
  ⟨strict_of_nodup (isortN_sorted l) ((isort_perm leN l).nodup_iff.mpr h1), fun h hh => h2 h ((isort_perm leN l).mem_iff.mp hh)⟩
theorem Req.nodup {many : Nat} {l : List Nat} (h : Req many l) : l.Nodup := h.1.imp fun h => Nat.ne_of_lt h
theorem erase_map {α β : Type} (f : α → β) : ∀ (l : List α) (i : Nat), (l.map f).eraseIdx i = (l.eraseIdx i).map f
  | [], _ => by simp
  | a :: l, 0 => by simp
  | a :: l, i + 1 => by simp [erase_map f l i]
theorem asc_len {n : Nat} : ∀ {l : List Nat} {k : Nat}, l.Pairwise (· < ·) → (∀ h ∈ l, k ≤ h ∧ h < n) → l.length + k ≤ n ∨ l = []
  | [], _, _, _ => .inr rfl
  | a :: l, k, h, hb => by
    rw [List.pairwise_cons] at h
    have h1 := hb a (List.mem_cons_self ..)
    rcases asc_len (k := a + 1) h.2 (fun x hx => ⟨h.1 x hx, (hb x (List.mem_cons_of_mem _ hx)).2⟩) with q | q
    · left; rw [List.length_cons]; omega
    · left; rw [q, List.length_cons, List.length_nil]; omega
theorem Req.len {many : Nat} {l : List Nat} (h : Req many l) : l.length ≤ many := by
  rcases asc_len (k := 0) h.1 (fun x hx => ⟨Nat.zero_le _, h.2 x hx⟩) with q | q
  · omega
  · rw [q]; exact Nat.zero_le _
theorem req_range (many : Nat) : Req many (List.range many) := ⟨List.pairwise_lt_range, fun h hh => List.mem_range.mp hh⟩
theorem Req.erase {many : Nat} {l : List Nat} (h : Req many l) (i : Nat) : Req many (l.eraseIdx i) := ⟨h.1.sublist (List.eraseIdx_sublist ..), fun x hx => h.2 x ((List.eraseIdx_sublist ..).subset hx)⟩
theorem Req.snoc {many : Nat} {l : List Nat} (h : Req many l) {a : Nat} (ha : a < many) (hl : ∀ x ∈ l, x < a) : Req many (l ++ [a]) := by
  refine ⟨List.pairwise_append.mpr ⟨h.1, List.pairwise_singleton _ _, fun x hx y hy => ?_⟩, fun x hx => ?_⟩
  · rw [List.mem_singleton.mp hy]; exact hl x hx
  · rcases List.mem_append.mp hx with hx | hx
    · exact h.2 x hx
    · rw [List.mem_singleton.mp hx]; exact ha
section
variable {F : Nat → Option Fn} {i jp jo jm : Nat}
theorem rowOk (h : F i = some (law_row_fn jp jo jm)) (hp : F jp = some pickFn) (ho : F jo = some (of_fn jp)) (hm : F jm = some (mixedFn jp)) : From F 3 (RowOk · i) := by
  intro n s c L many top hs m1 m2 t1 t2
  have PK := (pickOk hp).mono (show 1 ≤ 2 by decide) n
  have OF := ofOk ho hp n
  have MX := mixedOk hm hp n
  rw [W_runN h rfl]
  unfold law_row_fn
  show WS _ _ [some (.ref s), some (nD many), some (.int top), none, none, none, none, none, none] L _ _
  generalize PD.runN F (n + 2) = R at *
  simp only [word_snoc, PD.w_ok, PD.w_exc, PD.w_ift, PD.w_iff, PD.w_c, PD.w_getK, PD.w_slt0, PD.w_slts, PD.w_set0, PD.w_sets, PD.w_wipe0, PD.w_wipes, PD.w_var, PD.w_1, PD.w_2, PD.w_nil, PD.w_cons, PD.w_app, PD.w_eif, PD.w_truK, PD.w_and, PD.w_or, PD.w_not, PD.w_call, PD.w_meth, PD.w_nonK, PD.w_make, PD.w_bm, PD.w_sl, PD.w_bNo, PD.w_intK, PD.w_bAt, PD.w_blK, PD.w_chn, PD.w_tb1, PD.w_lc, PD.w_turn, PD.w_yes, PD.w_tv, PD.w_tand, PD.w_tor, PD.w_tnot, PD.w_nm, PD.w_sub, PD.w_gnil, PD.w_gcons, PD.w_knx, PD.w_krt, PD.w_kbk, PD.w_kct, PD.w_kex, PD.w_seq, PD.w_next, PD.w_asg, PD.w_expr, PD.w_ret, PD.w_retN, PD.w_brk, PD.w_cnt, PD.w_if, PD.w_aug, PD.w_fset, PD.w_saug, PD.w_for, PD.w_while, PD.w_ie, PD.w_rt, PD.w_nx, PD.w_ex, PD.w_rg1, PD.w_rg2, PD.w_enu, PD.w_zip2, PD.w_zipT, PD.w_rgl1, PD.o_add_i, PD.o_sub_i, PD.o_lt_i, PD.o_le_i, PD.o_gt_i, PD.o_ge_i, PD.o_is_n, PD.o_is_b, PD.o_isnot_b, PD.o_isnot_n, PD.o_isn_non, PD.o_isn_int, PD.o_isn_tup, PD.o_neg_i, PD.o_tru_b, PD.o_int_i, PD.o_int_b, PD.o_len_t, PD.o_tup_t, PD.o_lst_t, PD.o_max2, PD.o_min2, PD.o_ix_0, PD.o_ix_1, PD.o_ix_2, PD.o_ix_3, PD.it_t, PD.it_r, PD.enu_t, PD.zip_t, PD.o_tup0, PD.o_tup1, PD.o_tup2, PD.o_tup3, PD.o_tup4, PD.o_lst0, PD.o_lst1, PD.o_lst2, PD.o_lst3, PD.o_lst4, PD.g_push, PD.w_lnx, PD.w_lct, PD.w_lbk, PD.w_lrt, PD.w_lex, PD.w_lcn, PD.w_lcs, PD.o_eq_s, PD.o_ne_s, PD.o_eq_i, PD.o_ne_i, PD.w_gtp2, PD.w_gtp3, PD.w_gtp4, PD.rg_map, PD.o_lstR0, PD.o_tupR0, PD.o_not_f, PD.o_not_t, PD.o_dec_tt, PD.o_nn, PD.o_ne_b, PD.o_eq_b, PD.o_bne_tf, PD.o_bne_ff]
  refine W_use (PK s c L 4 hs (by omega)) fun d M hM => ?_
  obtain ⟨way, rfl, r0, r1, d1, l1⟩ := hM
  try simp only [word_snoc, PD.w_ok, PD.w_exc, PD.w_ift, PD.w_iff, PD.w_c, PD.w_getK, PD.w_slt0, PD.w_slts, PD.w_set0, PD.w_sets, PD.w_wipe0, PD.w_wipes, PD.w_var, PD.w_1, PD.w_2, PD.w_nil, PD.w_cons, PD.w_app, PD.w_eif, PD.w_truK, PD.w_and, PD.w_or, PD.w_not, PD.w_call, PD.w_meth, PD.w_nonK, PD.w_make, PD.w_bm, PD.w_sl, PD.w_bNo, PD.w_intK, PD.w_bAt, PD.w_blK, PD.w_chn, PD.w_tb1, PD.w_lc, PD.w_turn, PD.w_yes, PD.w_tv, PD.w_tand, PD.w_tor, PD.w_tnot, PD.w_nm, PD.w_sub, PD.w_gnil, PD.w_gcons, PD.w_knx, PD.w_krt, PD.w_kbk, PD.w_kct, PD.w_kex, PD.w_seq, PD.w_next, PD.w_asg, PD.w_expr, PD.w_ret, PD.w_retN, PD.w_brk, PD.w_cnt, PD.w_if, PD.w_aug, PD.w_fset, PD.w_saug, PD.w_for, PD.w_while, PD.w_ie, PD.w_rt, PD.w_nx, PD.w_ex, PD.w_rg1, PD.w_rg2, PD.w_enu, PD.w_zip2, PD.w_zipT, PD.w_rgl1, PD.o_add_i, PD.o_sub_i, PD.o_lt_i, PD.o_le_i, PD.o_gt_i, PD.o_ge_i, PD.o_is_n, PD.o_is_b, PD.o_isnot_b, PD.o_isnot_n, PD.o_isn_non, PD.o_isn_int, PD.o_isn_tup, PD.o_neg_i, PD.o_tru_b, PD.o_int_i, PD.o_int_b, PD.o_len_t, PD.o_tup_t, PD.o_lst_t, PD.o_max2, PD.o_min2, PD.o_ix_0, PD.o_ix_1, PD.o_ix_2, PD.o_ix_3, PD.it_t, PD.it_r, PD.enu_t, PD.zip_t, PD.o_tup0, PD.o_tup1, PD.o_tup2, PD.o_tup3, PD.o_tup4, PD.o_lst0, PD.o_lst1, PD.o_lst2, PD.o_lst3, PD.o_lst4, PD.g_push, PD.w_lnx, PD.w_lct, PD.w_lbk, PD.w_lrt, PD.w_lex, PD.w_lcn, PD.w_lcs, PD.o_eq_s, PD.o_ne_s, PD.o_eq_i, PD.o_ne_i, PD.w_gtp2, PD.w_gtp3, PD.w_gtp4, PD.rg_map, PD.o_lstR0, PD.o_tupR0, PD.o_not_f, PD.o_not_t, PD.o_dec_tt, PD.o_nn, PD.o_ne_b, PD.o_eq_b, PD.o_bne_tf, PD.o_bne_ff]
  refine ⟨rgOk_of (by omega), in62_of (by omega) (by omega), ?_⟩
  have hsl := hs.lt
  -- the kinds
  refine lcW (fun p ys N => ∃ ks : List (List Nat), ys = ks.map reqD ∧ ks.length = p.length ∧ (∀ r ∈ ks, Req many r) ∧ Dr s c ((M.push (.lst [])).push (nL (List.range many))) N) (sz_of (by simp)) ⟨[], rfl, rfl, by simp, .refl ((d1.push _).push _).src⟩ ?_ ?_
  · rintro p a q ys N e hy ⟨ks, rfl, hl, hk, dN⟩
    try simp only [word_snoc, PD.w_ok, PD.w_exc, PD.w_ift, PD.w_iff, PD.w_c, PD.w_getK, PD.w_slt0, PD.w_slts, PD.w_set0, PD.w_sets, PD.w_wipe0, PD.w_wipes, PD.w_var, PD.w_1, PD.w_2, PD.w_nil, PD.w_cons, PD.w_app, PD.w_eif, PD.w_truK, PD.w_and, PD.w_or, PD.w_not, PD.w_call, PD.w_meth, PD.w_nonK, PD.w_make, PD.w_bm, PD.w_sl, PD.w_bNo, PD.w_intK, PD.w_bAt, PD.w_blK, PD.w_chn, PD.w_tb1, PD.w_lc, PD.w_turn, PD.w_yes, PD.w_tv, PD.w_tand, PD.w_tor, PD.w_tnot, PD.w_nm, PD.w_sub, PD.w_gnil, PD.w_gcons, PD.w_knx, PD.w_krt, PD.w_kbk, PD.w_kct, PD.w_kex, PD.w_seq, PD.w_next, PD.w_asg, PD.w_expr, PD.w_ret, PD.w_retN, PD.w_brk, PD.w_cnt, PD.w_if, PD.w_aug, PD.w_fset, PD.w_saug, PD.w_for, PD.w_while, PD.w_ie, PD.w_rt, PD.w_nx, PD.w_ex, PD.w_rg1, PD.w_rg2, PD.w_enu, PD.w_zip2, PD.w_zipT, PD.w_rgl1, PD.o_add_i, PD.o_sub_i, PD.o_lt_i, PD.o_le_i, PD.o_gt_i, PD.o_ge_i, PD.o_is_n, PD.o_is_b, PD.o_isnot_b, PD.o_isnot_n, PD.o_isn_non, PD.o_isn_int, PD.o_isn_tup, PD.o_neg_i, PD.o_tru_b, PD.o_int_i, PD.o_int_b, PD.o_len_t, PD.o_tup_t, PD.o_lst_t, PD.o_max2, PD.o_min2, PD.o_ix_0, PD.o_ix_1, PD.o_ix_2, PD.o_ix_3, PD.it_t, PD.it_r, PD.enu_t, PD.zip_t, PD.o_tup0, PD.o_tup1, PD.o_tup2, PD.o_tup3, PD.o_tup4, PD.o_lst0, PD.o_lst1, PD.o_lst2, PD.o_lst3, PD.o_lst4, PD.g_push, PD.w_lnx, PD.w_lct, PD.w_lbk, PD.w_lrt, PD.w_lex, PD.w_lcn, PD.w_lcs, PD.o_eq_s, PD.o_ne_s, PD.o_eq_i, PD.o_ne_i, PD.w_gtp2, PD.w_gtp3, PD.w_gtp4, PD.rg_map, PD.o_lstR0, PD.o_tupR0, PD.o_not_f, PD.o_not_t, PD.o_dec_tt, PD.o_nn, PD.o_ne_b, PD.o_eq_b, PD.o_bne_tf, PD.o_bne_ff]
    refine ⟨rgOk_of (by omega), ?_⟩
    refine W_use (MX s c _ _ ((List.range many).map nD) (dN.push _).src (o_lst_l g_push) (by simp; omega)) fun d N2 hN => ?_
    obtain ⟨k, zs, rfl, hk1, hk2, hk3, d2⟩ := hN
    obtain ⟨zs, hz, rfl⟩ := perm_map hk3
    try simp only [word_snoc, PD.w_ok, PD.w_exc, PD.w_ift, PD.w_iff, PD.w_c, PD.w_getK, PD.w_slt0, PD.w_slts, PD.w_set0, PD.w_sets, PD.w_wipe0, PD.w_wipes, PD.w_var, PD.w_1, PD.w_2, PD.w_nil, PD.w_cons, PD.w_app, PD.w_eif, PD.w_truK, PD.w_and, PD.w_or, PD.w_not, PD.w_call, PD.w_meth, PD.w_nonK, PD.w_make, PD.w_bm, PD.w_sl, PD.w_bNo, PD.w_intK, PD.w_bAt, PD.w_blK, PD.w_chn, PD.w_tb1, PD.w_lc, PD.w_turn, PD.w_yes, PD.w_tv, PD.w_tand, PD.w_tor, PD.w_tnot, PD.w_nm, PD.w_sub, PD.w_gnil, PD.w_gcons, PD.w_knx, PD.w_krt, PD.w_kbk, PD.w_kct, PD.w_kex, PD.w_seq, PD.w_next, PD.w_asg, PD.w_expr, PD.w_ret, PD.w_retN, PD.w_brk, PD.w_cnt, PD.w_if, PD.w_aug, PD.w_fset, PD.w_saug, PD.w_for, PD.w_while, PD.w_ie, PD.w_rt, PD.w_nx, PD.w_ex, PD.w_rg1, PD.w_rg2, PD.w_enu, PD.w_zip2, PD.w_zipT, PD.w_rgl1, PD.o_add_i, PD.o_sub_i, PD.o_lt_i, PD.o_le_i, PD.o_gt_i, PD.o_ge_i, PD.o_is_n, PD.o_is_b, PD.o_isnot_b, PD.o_isnot_n, PD.o_isn_non, PD.o_isn_int, PD.o_isn_tup, PD.o_neg_i, PD.o_tru_b, PD.o_int_i, PD.o_int_b, PD.o_len_t, PD.o_tup_t, PD.o_lst_t, PD.o_max2, PD.o_min2, PD.o_ix_0, PD.o_ix_1, PD.o_ix_2, PD.o_ix_3, PD.it_t, PD.it_r, PD.enu_t, PD.zip_t, PD.o_tup0, PD.o_tup1, PD.o_tup2, PD.o_tup3, PD.o_tup4, PD.o_lst0, PD.o_lst1, PD.o_lst2, PD.o_lst3, PD.o_lst4, PD.g_push, PD.w_lnx, PD.w_lct, PD.w_lbk, PD.w_lrt, PD.w_lex, PD.w_lcn, PD.w_lcs, PD.o_eq_s, PD.o_ne_s, PD.o_eq_i, PD.o_ne_i, PD.w_gtp2, PD.w_gtp3, PD.w_gtp4, PD.rg_map, PD.o_lstR0, PD.o_tupR0, PD.o_not_f, PD.o_not_t, PD.o_dec_tt, PD.o_nn, PD.o_ne_b, PD.o_eq_b, PD.o_bne_tf, PD.o_bne_ff]
    refine W_use (PK s c N2 (many + 1) d2.src (by omega)) fun d N3 hN => ?_
    obtain ⟨b, rfl, b0, b1, d3, l3⟩ := hN
    have := dN.src.lt
    have g3 : N3.get k = some (nL zs) := d3.at hk2 (by rw [LH.push_len] at hk1; omega) (by rw [LH.push_len] at hk1; omega)
    try simp only [word_snoc, PD.w_ok, PD.w_exc, PD.w_ift, PD.w_iff, PD.w_c, PD.w_getK, PD.w_slt0, PD.w_slts, PD.w_set0, PD.w_sets, PD.w_wipe0, PD.w_wipes, PD.w_var, PD.w_1, PD.w_2, PD.w_nil, PD.w_cons, PD.w_app, PD.w_eif, PD.w_truK, PD.w_and, PD.w_or, PD.w_not, PD.w_call, PD.w_meth, PD.w_nonK, PD.w_make, PD.w_bm, PD.w_sl, PD.w_bNo, PD.w_intK, PD.w_bAt, PD.w_blK, PD.w_chn, PD.w_tb1, PD.w_lc, PD.w_turn, PD.w_yes, PD.w_tv, PD.w_tand, PD.w_tor, PD.w_tnot, PD.w_nm, PD.w_sub, PD.w_gnil, PD.w_gcons, PD.w_knx, PD.w_krt, PD.w_kbk, PD.w_kct, PD.w_kex, PD.w_seq, PD.w_next, PD.w_asg, PD.w_expr, PD.w_ret, PD.w_retN, PD.w_brk, PD.w_cnt, PD.w_if, PD.w_aug, PD.w_fset, PD.w_saug, PD.w_for, PD.w_while, PD.w_ie, PD.w_rt, PD.w_nx, PD.w_ex, PD.w_rg1, PD.w_rg2, PD.w_enu, PD.w_zip2, PD.w_zipT, PD.w_rgl1, PD.o_add_i, PD.o_sub_i, PD.o_lt_i, PD.o_le_i, PD.o_gt_i, PD.o_ge_i, PD.o_is_n, PD.o_is_b, PD.o_isnot_b, PD.o_isnot_n, PD.o_isn_non, PD.o_isn_int, PD.o_isn_tup, PD.o_neg_i, PD.o_tru_b, PD.o_int_i, PD.o_int_b, PD.o_len_t, PD.o_tup_t, PD.o_lst_t, PD.o_max2, PD.o_min2, PD.o_ix_0, PD.o_ix_1, PD.o_ix_2, PD.o_ix_3, PD.it_t, PD.it_r, PD.enu_t, PD.zip_t, PD.o_tup0, PD.o_tup1, PD.o_tup2, PD.o_tup3, PD.o_tup4, PD.o_lst0, PD.o_lst1, PD.o_lst2, PD.o_lst3, PD.o_lst4, PD.g_push, PD.w_lnx, PD.w_lct, PD.w_lbk, PD.w_lrt, PD.w_lex, PD.w_lcn, PD.w_lcs, PD.o_eq_s, PD.o_ne_s, PD.o_eq_i, PD.o_ne_i, PD.w_gtp2, PD.w_gtp3, PD.w_gtp4, PD.rg_map, PD.o_lstR0, PD.o_tupR0, PD.o_not_f, PD.o_not_t, PD.o_dec_tt, PD.o_nn, PD.o_ne_b, PD.o_eq_b, PD.o_bne_tf, PD.o_bne_ff, sl_to g3 b0, ← List.map_take]
    have hzl : zs.length = many := by rw [hz.length_eq, List.length_range]
    have hzn : zs.Nodup := hz.nodup_iff.mpr List.nodup_range
    have g4 : (N3.push (nL (zs.take b.toNat))).get N3.len = some (nL (zs.take b.toNat)) := g_push
    try simp only [word_snoc, PD.w_ok, PD.w_exc, PD.w_ift, PD.w_iff, PD.w_c, PD.w_getK, PD.w_slt0, PD.w_slts, PD.w_set0, PD.w_sets, PD.w_wipe0, PD.w_wipes, PD.w_var, PD.w_1, PD.w_2, PD.w_nil, PD.w_cons, PD.w_app, PD.w_eif, PD.w_truK, PD.w_and, PD.w_or, PD.w_not, PD.w_call, PD.w_meth, PD.w_nonK, PD.w_make, PD.w_bm, PD.w_sl, PD.w_bNo, PD.w_intK, PD.w_bAt, PD.w_blK, PD.w_chn, PD.w_tb1, PD.w_lc, PD.w_turn, PD.w_yes, PD.w_tv, PD.w_tand, PD.w_tor, PD.w_tnot, PD.w_nm, PD.w_sub, PD.w_gnil, PD.w_gcons, PD.w_knx, PD.w_krt, PD.w_kbk, PD.w_kct, PD.w_kex, PD.w_seq, PD.w_next, PD.w_asg, PD.w_expr, PD.w_ret, PD.w_retN, PD.w_brk, PD.w_cnt, PD.w_if, PD.w_aug, PD.w_fset, PD.w_saug, PD.w_for, PD.w_while, PD.w_ie, PD.w_rt, PD.w_nx, PD.w_ex, PD.w_rg1, PD.w_rg2, PD.w_enu, PD.w_zip2, PD.w_zipT, PD.w_rgl1, PD.o_add_i, PD.o_sub_i, PD.o_lt_i, PD.o_le_i, PD.o_gt_i, PD.o_ge_i, PD.o_is_n, PD.o_is_b, PD.o_isnot_b, PD.o_isnot_n, PD.o_isn_non, PD.o_isn_int, PD.o_isn_tup, PD.o_neg_i, PD.o_tru_b, PD.o_int_i, PD.o_int_b, PD.o_len_t, PD.o_tup_t, PD.o_lst_t, PD.o_max2, PD.o_min2, PD.o_ix_0, PD.o_ix_1, PD.o_ix_2, PD.o_ix_3, PD.it_t, PD.it_r, PD.enu_t, PD.zip_t, PD.o_tup0, PD.o_tup1, PD.o_tup2, PD.o_tup3, PD.o_tup4, PD.o_lst0, PD.o_lst1, PD.o_lst2, PD.o_lst3, PD.o_lst4, PD.g_push, PD.w_lnx, PD.w_lct, PD.w_lbk, PD.w_lrt, PD.w_lex, PD.w_lcn, PD.w_lcs, PD.o_eq_s, PD.o_ne_s, PD.o_eq_i, PD.o_ne_i, PD.w_gtp2, PD.w_gtp3, PD.w_gtp4, PD.rg_map, PD.o_lstR0, PD.o_tupR0, PD.o_not_f, PD.o_not_t, PD.o_dec_tt, PD.o_nn, PD.o_ne_b, PD.o_eq_b, PD.o_bne_tf, PD.o_bne_ff, sorted_nats g4 (by rw [List.length_take]; unfold sizeLine; omega)]
    have g5 : ((N3.push (nL (zs.take b.toNat))).push (nL (isort leN (zs.take b.toNat)))).get (N3.push (nL (zs.take b.toNat))).len = some (nL (isort leN (zs.take b.toNat))) := g_push
    try simp only [word_snoc, PD.w_ok, PD.w_exc, PD.w_ift, PD.w_iff, PD.w_c, PD.w_getK, PD.w_slt0, PD.w_slts, PD.w_set0, PD.w_sets, PD.w_wipe0, PD.w_wipes, PD.w_var, PD.w_1, PD.w_2, PD.w_nil, PD.w_cons, PD.w_app, PD.w_eif, PD.w_truK, PD.w_and, PD.w_or, PD.w_not, PD.w_call, PD.w_meth, PD.w_nonK, PD.w_make, PD.w_bm, PD.w_sl, PD.w_bNo, PD.w_intK, PD.w_bAt, PD.w_blK, PD.w_chn, PD.w_tb1, PD.w_lc, PD.w_turn, PD.w_yes, PD.w_tv, PD.w_tand, PD.w_tor, PD.w_tnot, PD.w_nm, PD.w_sub, PD.w_gnil, PD.w_gcons, PD.w_knx, PD.w_krt, PD.w_kbk, PD.w_kct, PD.w_kex, PD.w_seq, PD.w_next, PD.w_asg, PD.w_expr, PD.w_ret, PD.w_retN, PD.w_brk, PD.w_cnt, PD.w_if, PD.w_aug, PD.w_fset, PD.w_saug, PD.w_for, PD.w_while, PD.w_ie, PD.w_rt, PD.w_nx, PD.w_ex, PD.w_rg1, PD.w_rg2, PD.w_enu, PD.w_zip2, PD.w_zipT, PD.w_rgl1, PD.o_add_i, PD.o_sub_i, PD.o_lt_i, PD.o_le_i, PD.o_gt_i, PD.o_ge_i, PD.o_is_n, PD.o_is_b, PD.o_isnot_b, PD.o_isnot_n, PD.o_isn_non, PD.o_isn_int, PD.o_isn_tup, PD.o_neg_i, PD.o_tru_b, PD.o_int_i, PD.o_int_b, PD.o_len_t, PD.o_tup_t, PD.o_lst_t, PD.o_max2, PD.o_min2, PD.o_ix_0, PD.o_ix_1, PD.o_ix_2, PD.o_ix_3, PD.it_t, PD.it_r, PD.enu_t, PD.zip_t, PD.o_tup0, PD.o_tup1, PD.o_tup2, PD.o_tup3, PD.o_tup4, PD.o_lst0, PD.o_lst1, PD.o_lst2, PD.o_lst3, PD.o_lst4, PD.g_push, PD.w_lnx, PD.w_lct, PD.w_lbk, PD.w_lrt, PD.w_lex, PD.w_lcn, PD.w_lcs, PD.o_eq_s, PD.o_ne_s, PD.o_eq_i, PD.o_ne_i, PD.w_gtp2, PD.w_gtp3, PD.w_gtp4, PD.rg_map, PD.o_lstR0, PD.o_tupR0, PD.o_not_f, PD.o_not_t, PD.o_dec_tt, PD.o_nn, PD.o_ne_b, PD.o_eq_b, PD.o_bne_tf, PD.o_bne_ff, o_tup_l g5]
    refine ⟨ks ++ [isort leN (zs.take b.toNat)], by simp, by simp [hl], fun r hr => ?_, (((((dN.push _).trans d2).trans d3).push _).push _)⟩
    rcases List.mem_append.mp hr with hr | hr
    · exact hk r hr
    · rw [List.mem_singleton.mp hr]
      exact req_sorted (hzn.sublist (List.take_sublist ..)) fun h hh => List.mem_range.mp (hz.mem_iff.mp (List.mem_of_mem_take hh))
  · rintro ys N hy ⟨ks, rfl, hl, hk, dN⟩
    rw [List.length_range] at hl
    have q0 := dN.gr.len
    rw [LH.push_len, LH.push_len] at q0
    refine W_use (PK s c _ (top + 1) (dN.push _).src (by omega)) fun d N2 hN => ?_
    obtain ⟨b, rfl, b0, b1, d2, l2⟩ := hN
    try simp only [word_snoc, PD.w_ok, PD.w_exc, PD.w_ift, PD.w_iff, PD.w_c, PD.w_getK, PD.w_slt0, PD.w_slts, PD.w_set0, PD.w_sets, PD.w_wipe0, PD.w_wipes, PD.w_var, PD.w_1, PD.w_2, PD.w_nil, PD.w_cons, PD.w_app, PD.w_eif, PD.w_truK, PD.w_and, PD.w_or, PD.w_not, PD.w_call, PD.w_meth, PD.w_nonK, PD.w_make, PD.w_bm, PD.w_sl, PD.w_bNo, PD.w_intK, PD.w_bAt, PD.w_blK, PD.w_chn, PD.w_tb1, PD.w_lc, PD.w_turn, PD.w_yes, PD.w_tv, PD.w_tand, PD.w_tor, PD.w_tnot, PD.w_nm, PD.w_sub, PD.w_gnil, PD.w_gcons, PD.w_knx, PD.w_krt, PD.w_kbk, PD.w_kct, PD.w_kex, PD.w_seq, PD.w_next, PD.w_asg, PD.w_expr, PD.w_ret, PD.w_retN, PD.w_brk, PD.w_cnt, PD.w_if, PD.w_aug, PD.w_fset, PD.w_saug, PD.w_for, PD.w_while, PD.w_ie, PD.w_rt, PD.w_nx, PD.w_ex, PD.w_rg1, PD.w_rg2, PD.w_enu, PD.w_zip2, PD.w_zipT, PD.w_rgl1, PD.o_add_i, PD.o_sub_i, PD.o_lt_i, PD.o_le_i, PD.o_gt_i, PD.o_ge_i, PD.o_is_n, PD.o_is_b, PD.o_isnot_b, PD.o_isnot_n, PD.o_isn_non, PD.o_isn_int, PD.o_isn_tup, PD.o_neg_i, PD.o_tru_b, PD.o_int_i, PD.o_int_b, PD.o_len_t, PD.o_tup_t, PD.o_lst_t, PD.o_max2, PD.o_min2, PD.o_ix_0, PD.o_ix_1, PD.o_ix_2, PD.o_ix_3, PD.it_t, PD.it_r, PD.enu_t, PD.zip_t, PD.o_tup0, PD.o_tup1, PD.o_tup2, PD.o_tup3, PD.o_tup4, PD.o_lst0, PD.o_lst1, PD.o_lst2, PD.o_lst3, PD.o_lst4, PD.g_push, PD.w_lnx, PD.w_lct, PD.w_lbk, PD.w_lrt, PD.w_lex, PD.w_lcn, PD.w_lcs, PD.o_eq_s, PD.o_ne_s, PD.o_eq_i, PD.o_ne_i, PD.w_gtp2, PD.w_gtp3, PD.w_gtp4, PD.rg_map, PD.o_lstR0, PD.o_tupR0, PD.o_not_f, PD.o_not_t, PD.o_dec_tt, PD.o_nn, PD.o_ne_b, PD.o_eq_b, PD.o_bne_tf, PD.o_bne_ff]
    refine ⟨in62_of (by omega) (by omega), ?_⟩
    have d0 : Dr s c L N2 := ((((d1.push _).push _).trans dN).push _).trans d2
    have gf : N2.get M.len = some (.lst []) := (dN.push (.lst (ks.map reqD)) |>.trans d2).at (g_push_old g_push) (by omega) (by omega)
    have gl : N2.get (M.push (.lst [])).len = some (nL (List.range many)) := (dN.push (.lst (ks.map reqD)) |>.trans d2).at g_push (by rw [LH.push_len]; omega) (by rw [LH.push_len]; omega)
    have gk : N2.get N.len = some (.lst (ks.map reqD)) := d2.at g_push (by omega) (by omega)
    rw [LH.push_len] at gl
    have e1 : (M.push (.lst [])).len = M.len + 1 := rfl
    rw [e1]
    have lM := d1.gr.len
    generalize M.len = f at *
    generalize N.len = kd at *
    have ln2 : kd < N2.len := LH.get_lt gk
    refine forW (fun p ρ N => ∃ row lot o7 o8, ρ = [some (.ref s), some (nD many), some (.int top), some (.int way), some (.ref f), some (.ref (f + 1)), some (.ref kd), o7, o8] ∧ row.length = p.length ∧ (∀ r ∈ row, Req many r) ∧ Req many lot ∧ N.get f = some (.lst (row.map reqD)) ∧ N.get (f + 1) = some (nL lot) ∧ N.get kd = some (.lst (ks.map reqD)) ∧ Dr s c L N) ⟨[], List.range many, none, none, rfl, rfl, by simp, req_range many, gf, gl, gk, d0⟩ ?_ ?_
    · rintro p a q ρ N e ⟨row, lot, o7, o8, rfl, hr1, hr2, hlot, gf, gl, gk, dN⟩
      have hp : p.length < 1000000 := by
        have := congrArg List.length e
        rw [List.length_range, List.length_append, List.length_cons] at this
        omega
      have fl := LH.get_lt gf
      have gL := dN.gr.len
      -- one more request
      have add : ∀ (N' : LH) (r : List Nat) (o7 o8 : Option D), Req many r → Dr s c L N' → N'.get f = some (.lst (row.map reqD)) → N'.get (f + 1) = some (nL lot) → N'.get kd = some (.lst (ks.map reqD)) → mAppend (.ref f) [reqD r] N' = .ok .non (N'.put f (.lst (row.map reqD ++ [reqD r]))) ∧ Dr s c L (N'.put f (.lst (row.map reqD ++ [reqD r]))) ∧ (N'.put f (.lst (row.map reqD ++ [reqD r]))).get f = some (.lst (row.map reqD ++ [reqD r])) ∧ (N'.put f (.lst (row.map reqD ++ [reqD r]))).get (f + 1) = some (nL lot) ∧ (N'.put f (.lst (row.map reqD ++ [reqD r]))).get kd = some (.lst (ks.map reqD)) := by
        intro N' r o7 o8 hr dN' g1 g2 g3
        have hf := LH.get_lt g1
        refine ⟨?_, Dr.put hs dN' _ (by omega) hf, g_put hf, ?_, ?_⟩
        · rw [o_app_l g1 (by rw [List.length_map]; exact sz_lt (by omega))]
        · rw [g_put_ne hf (by omega)]; exact g2
        · rw [g_put_ne hf (by omega)]; exact g3
      have done : ∀ (r : List Nat), Req many r → ∀ x ∈ row ++ [r], Req many x := by
        intro r hr x hx
        rcases List.mem_append.mp hx with hx | hx
        · exact hr2 x hx
        · rw [List.mem_singleton.mp hx]; exact hr
      have fin : ∀ (N' : LH) (r lot' : List Nat) (o8 : Option D), Req many r → Req many lot' → Dr s c L N' → N'.get f = some (.lst (row.map reqD ++ [reqD r])) → N'.get (f + 1) = some (nL lot') → N'.get kd = some (.lst (ks.map reqD)) →
          ∃ (row : List (List Nat)) (lot : List Nat) (o7 o8_1 : Option D), [some (D.ref s), some (nD many), some (D.int top), some (D.int way), some (D.ref f), some (D.ref (f + 1)), some (D.ref kd), some (nD a), o8] = [some (D.ref s), some (nD many), some (D.int top), some (D.int way), some (D.ref f), some (D.ref (f + 1)), some (D.ref kd), o7, o8_1] ∧ row.length = p.length + [a].length ∧ (∀ (r : List Nat), r ∈ row → Req many r) ∧ Req many lot ∧ N'.get f = some (.lst (row.map reqD)) ∧ N'.get (f + 1) = some (nL lot) ∧ N'.get kd = some (.lst (ks.map reqD)) ∧ Dr s c L N' :=
        fun N' r lot' o8 h1 h2 h3 h4 h5 h6 => ⟨row ++ [r], lot', some (nD a), o8, rfl, by simp [hr1], done r h1, h2, by rw [h4, List.map_append]; rfl, h5, h6, h3⟩
      try simp only [word_snoc, PD.w_ok, PD.w_exc, PD.w_ift, PD.w_iff, PD.w_c, PD.w_getK, PD.w_slt0, PD.w_slts, PD.w_set0, PD.w_sets, PD.w_wipe0, PD.w_wipes, PD.w_var, PD.w_1, PD.w_2, PD.w_nil, PD.w_cons, PD.w_app, PD.w_eif, PD.w_truK, PD.w_and, PD.w_or, PD.w_not, PD.w_call, PD.w_meth, PD.w_nonK, PD.w_make, PD.w_bm, PD.w_sl, PD.w_bNo, PD.w_intK, PD.w_bAt, PD.w_blK, PD.w_chn, PD.w_tb1, PD.w_lc, PD.w_turn, PD.w_yes, PD.w_tv, PD.w_tand, PD.w_tor, PD.w_tnot, PD.w_nm, PD.w_sub, PD.w_gnil, PD.w_gcons, PD.w_knx, PD.w_krt, PD.w_kbk, PD.w_kct, PD.w_kex, PD.w_seq, PD.w_next, PD.w_asg, PD.w_expr, PD.w_ret, PD.w_retN, PD.w_brk, PD.w_cnt, PD.w_if, PD.w_aug, PD.w_fset, PD.w_saug, PD.w_for, PD.w_while, PD.w_ie, PD.w_rt, PD.w_nx, PD.w_ex, PD.w_rg1, PD.w_rg2, PD.w_enu, PD.w_zip2, PD.w_zipT, PD.w_rgl1, PD.o_add_i, PD.o_sub_i, PD.o_lt_i, PD.o_le_i, PD.o_gt_i, PD.o_ge_i, PD.o_is_n, PD.o_is_b, PD.o_isnot_b, PD.o_isnot_n, PD.o_isn_non, PD.o_isn_int, PD.o_isn_tup, PD.o_neg_i, PD.o_tru_b, PD.o_int_i, PD.o_int_b, PD.o_len_t, PD.o_tup_t, PD.o_lst_t, PD.o_max2, PD.o_min2, PD.o_ix_0, PD.o_ix_1, PD.o_ix_2, PD.o_ix_3, PD.it_t, PD.it_r, PD.enu_t, PD.zip_t, PD.o_tup0, PD.o_tup1, PD.o_tup2, PD.o_tup3, PD.o_tup4, PD.o_lst0, PD.o_lst1, PD.o_lst2, PD.o_lst3, PD.o_lst4, PD.g_push, PD.w_lnx, PD.w_lct, PD.w_lbk, PD.w_lrt, PD.w_lex, PD.w_lcn, PD.w_lcs, PD.o_eq_s, PD.o_ne_s, PD.o_eq_i, PD.o_ne_i, PD.w_gtp2, PD.w_gtp3, PD.w_gtp4, PD.rg_map, PD.o_lstR0, PD.o_tupR0, PD.o_not_f, PD.o_not_t, PD.o_dec_tt, PD.o_nn, PD.o_ne_b, PD.o_eq_b, PD.o_bne_tf, PD.o_bne_ff, ty_l gf]
      refine ifK_of (fun c1 => ?_) fun c1 => ?_
      · refine ⟨in62_of (by omega) (by omega), ?_⟩
        have := dN.src.lt
        refine lcW (fun p ys N' => ∃ r : List Nat, ys = r.map nD ∧ Req many r ∧ (∀ x ∈ r, x ∈ p) ∧ Gr [s, c] N N' ∧ Dr s c L N') (sz_of (by rw [List.length_range]; omega)) ⟨[], rfl, ⟨List.Pairwise.nil, by simp⟩, by simp, .refl, dN⟩ ?_ ?_
        · rintro p2 a2 q2 ys N' e2 hy ⟨r, rfl, hr, hin, gN, dN'⟩
          try simp only [word_snoc, PD.w_ok, PD.w_exc, PD.w_ift, PD.w_iff, PD.w_c, PD.w_getK, PD.w_slt0, PD.w_slts, PD.w_set0, PD.w_sets, PD.w_wipe0, PD.w_wipes, PD.w_var, PD.w_1, PD.w_2, PD.w_nil, PD.w_cons, PD.w_app, PD.w_eif, PD.w_truK, PD.w_and, PD.w_or, PD.w_not, PD.w_call, PD.w_meth, PD.w_nonK, PD.w_make, PD.w_bm, PD.w_sl, PD.w_bNo, PD.w_intK, PD.w_bAt, PD.w_blK, PD.w_chn, PD.w_tb1, PD.w_lc, PD.w_turn, PD.w_yes, PD.w_tv, PD.w_tand, PD.w_tor, PD.w_tnot, PD.w_nm, PD.w_sub, PD.w_gnil, PD.w_gcons, PD.w_knx, PD.w_krt, PD.w_kbk, PD.w_kct, PD.w_kex, PD.w_seq, PD.w_next, PD.w_asg, PD.w_expr, PD.w_ret, PD.w_retN, PD.w_brk, PD.w_cnt, PD.w_if, PD.w_aug, PD.w_fset, PD.w_saug, PD.w_for, PD.w_while, PD.w_ie, PD.w_rt, PD.w_nx, PD.w_ex, PD.w_rg1, PD.w_rg2, PD.w_enu, PD.w_zip2, PD.w_zipT, PD.w_rgl1, PD.o_add_i, PD.o_sub_i, PD.o_lt_i, PD.o_le_i, PD.o_gt_i, PD.o_ge_i, PD.o_is_n, PD.o_is_b, PD.o_isnot_b, PD.o_isnot_n, PD.o_isn_non, PD.o_isn_int, PD.o_isn_tup, PD.o_neg_i, PD.o_tru_b, PD.o_int_i, PD.o_int_b, PD.o_len_t, PD.o_tup_t, PD.o_lst_t, PD.o_max2, PD.o_min2, PD.o_ix_0, PD.o_ix_1, PD.o_ix_2, PD.o_ix_3, PD.it_t, PD.it_r, PD.enu_t, PD.zip_t, PD.o_tup0, PD.o_tup1, PD.o_tup2, PD.o_tup3, PD.o_tup4, PD.o_lst0, PD.o_lst1, PD.o_lst2, PD.o_lst3, PD.o_lst4, PD.g_push, PD.w_lnx, PD.w_lct, PD.w_lbk, PD.w_lrt, PD.w_lex, PD.w_lcn, PD.w_lcs, PD.o_eq_s, PD.o_ne_s, PD.o_eq_i, PD.o_ne_i, PD.w_gtp2, PD.w_gtp3, PD.w_gtp4, PD.rg_map, PD.o_lstR0, PD.o_tupR0, PD.o_not_f, PD.o_not_t, PD.o_dec_tt, PD.o_nn, PD.o_ne_b, PD.o_eq_b, PD.o_bne_tf, PD.o_bne_ff]
          refine W_use (PK s c N' 2 dN'.src (by omega)) fun d M hM => ?_
          obtain ⟨b2, rfl, b20, b21, d3, l3⟩ := hM
          try simp only [word_snoc, PD.w_ok, PD.w_exc, PD.w_ift, PD.w_iff, PD.w_c, PD.w_getK, PD.w_slt0, PD.w_slts, PD.w_set0, PD.w_sets, PD.w_wipe0, PD.w_wipes, PD.w_var, PD.w_1, PD.w_2, PD.w_nil, PD.w_cons, PD.w_app, PD.w_eif, PD.w_truK, PD.w_and, PD.w_or, PD.w_not, PD.w_call, PD.w_meth, PD.w_nonK, PD.w_make, PD.w_bm, PD.w_sl, PD.w_bNo, PD.w_intK, PD.w_bAt, PD.w_blK, PD.w_chn, PD.w_tb1, PD.w_lc, PD.w_turn, PD.w_yes, PD.w_tv, PD.w_tand, PD.w_tor, PD.w_tnot, PD.w_nm, PD.w_sub, PD.w_gnil, PD.w_gcons, PD.w_knx, PD.w_krt, PD.w_kbk, PD.w_kct, PD.w_kex, PD.w_seq, PD.w_next, PD.w_asg, PD.w_expr, PD.w_ret, PD.w_retN, PD.w_brk, PD.w_cnt, PD.w_if, PD.w_aug, PD.w_fset, PD.w_saug, PD.w_for, PD.w_while, PD.w_ie, PD.w_rt, PD.w_nx, PD.w_ex, PD.w_rg1, PD.w_rg2, PD.w_enu, PD.w_zip2, PD.w_zipT, PD.w_rgl1, PD.o_add_i, PD.o_sub_i, PD.o_lt_i, PD.o_le_i, PD.o_gt_i, PD.o_ge_i, PD.o_is_n, PD.o_is_b, PD.o_isnot_b, PD.o_isnot_n, PD.o_isn_non, PD.o_isn_int, PD.o_isn_tup, PD.o_neg_i, PD.o_tru_b, PD.o_int_i, PD.o_int_b, PD.o_len_t, PD.o_tup_t, PD.o_lst_t, PD.o_max2, PD.o_min2, PD.o_ix_0, PD.o_ix_1, PD.o_ix_2, PD.o_ix_3, PD.it_t, PD.it_r, PD.enu_t, PD.zip_t, PD.o_tup0, PD.o_tup1, PD.o_tup2, PD.o_tup3, PD.o_tup4, PD.o_lst0, PD.o_lst1, PD.o_lst2, PD.o_lst3, PD.o_lst4, PD.g_push, PD.w_lnx, PD.w_lct, PD.w_lbk, PD.w_lrt, PD.w_lex, PD.w_lcn, PD.w_lcs, PD.o_eq_s, PD.o_ne_s, PD.o_eq_i, PD.o_ne_i, PD.w_gtp2, PD.w_gtp3, PD.w_gtp4, PD.rg_map, PD.o_lstR0, PD.o_tupR0, PD.o_not_f, PD.o_not_t, PD.o_dec_tt, PD.o_nn, PD.o_ne_b, PD.o_eq_b, PD.o_bne_tf, PD.o_bne_ff]
          have hlt : ∀ x ∈ p2, x < a2 := by
            have hs := List.pairwise_lt_range (n := (many : Int).toNat)
            rw [e2] at hs
            exact fun x hx => (List.pairwise_append.mp hs).2.2 x hx a2 (List.mem_cons_self ..)
          have ha2 : a2 < many := by
            have : a2 ∈ List.range (many : Int).toNat := split_mem e2
            rw [List.mem_range] at this
            omega
          refine ifK_of (fun _ => ?_) fun _ => ?_
          · refine ⟨r ++ [a2], by simp, hr.snoc ha2 fun x hx => hlt x (hin x hx), fun x hx => ?_, gN.trans d3.gr, dN'.trans d3⟩
            rcases List.mem_append.mp hx with hx | hx
            · exact List.mem_append.mpr (.inl (hin x hx))
            · exact List.mem_append.mpr (.inr hx)
          · exact ⟨r, rfl, hr, fun x hx => List.mem_append.mpr (.inl (hin x hx)), gN.trans d3.gr, dN'.trans d3⟩
        · rintro ys N' hy ⟨r, rfl, hr, _, gN, dN'⟩
          have gr : (N'.push (nL r)).get N'.len = some (nL r) := g_push
          have ms : ∀ k, k < L.len ∨ L.len ≤ k := fun k => by omega
          have g1 := gN.at gf (by simp; omega)
          have g2 := gN.at gl (by simp; omega)
          have g3 := gN.at gk (by simp; omega)
          obtain ⟨k1, k2, k3, k4, k5⟩ := add (N'.push (nL r)) r none none hr (dN'.push _) (g_push_old g1) (g_push_old g2) (g_push_old g3)
          try simp only [word_snoc, PD.w_ok, PD.w_exc, PD.w_ift, PD.w_iff, PD.w_c, PD.w_getK, PD.w_slt0, PD.w_slts, PD.w_set0, PD.w_sets, PD.w_wipe0, PD.w_wipes, PD.w_var, PD.w_1, PD.w_2, PD.w_nil, PD.w_cons, PD.w_app, PD.w_eif, PD.w_truK, PD.w_and, PD.w_or, PD.w_not, PD.w_call, PD.w_meth, PD.w_nonK, PD.w_make, PD.w_bm, PD.w_sl, PD.w_bNo, PD.w_intK, PD.w_bAt, PD.w_blK, PD.w_chn, PD.w_tb1, PD.w_lc, PD.w_turn, PD.w_yes, PD.w_tv, PD.w_tand, PD.w_tor, PD.w_tnot, PD.w_nm, PD.w_sub, PD.w_gnil, PD.w_gcons, PD.w_knx, PD.w_krt, PD.w_kbk, PD.w_kct, PD.w_kex, PD.w_seq, PD.w_next, PD.w_asg, PD.w_expr, PD.w_ret, PD.w_retN, PD.w_brk, PD.w_cnt, PD.w_if, PD.w_aug, PD.w_fset, PD.w_saug, PD.w_for, PD.w_while, PD.w_ie, PD.w_rt, PD.w_nx, PD.w_ex, PD.w_rg1, PD.w_rg2, PD.w_enu, PD.w_zip2, PD.w_zipT, PD.w_rgl1, PD.o_add_i, PD.o_sub_i, PD.o_lt_i, PD.o_le_i, PD.o_gt_i, PD.o_ge_i, PD.o_is_n, PD.o_is_b, PD.o_isnot_b, PD.o_isnot_n, PD.o_isn_non, PD.o_isn_int, PD.o_isn_tup, PD.o_neg_i, PD.o_tru_b, PD.o_int_i, PD.o_int_b, PD.o_len_t, PD.o_tup_t, PD.o_lst_t, PD.o_max2, PD.o_min2, PD.o_ix_0, PD.o_ix_1, PD.o_ix_2, PD.o_ix_3, PD.it_t, PD.it_r, PD.enu_t, PD.zip_t, PD.o_tup0, PD.o_tup1, PD.o_tup2, PD.o_tup3, PD.o_tup4, PD.o_lst0, PD.o_lst1, PD.o_lst2, PD.o_lst3, PD.o_lst4, PD.g_push, PD.w_lnx, PD.w_lct, PD.w_lbk, PD.w_lrt, PD.w_lex, PD.w_lcn, PD.w_lcs, PD.o_eq_s, PD.o_ne_s, PD.o_eq_i, PD.o_ne_i, PD.w_gtp2, PD.w_gtp3, PD.w_gtp4, PD.rg_map, PD.o_lstR0, PD.o_tupR0, PD.o_not_f, PD.o_not_t, PD.o_dec_tt, PD.o_nn, PD.o_ne_b, PD.o_eq_b, PD.o_bne_tf, PD.o_bne_ff, o_tup_l gr, k1]
          exact fin _ r lot o8 hr hlot k2 k3 k4 k5
      refine ifK_of (fun c2 => ?_) fun c2 => ?_
      · have := dN.src.lt
        refine W_use (OF s c kd N _ dN.src gk (by omega) (by omega) (by intro z; rw [List.map_eq_nil_iff] at z; subst z; simp at hl) (by rw [List.length_map, hl]; decide)) fun d M hM => ?_
        obtain ⟨hd, d3, l3⟩ := hM
        obtain ⟨r, hr, rfl⟩ := List.mem_map.mp hd
        obtain ⟨k1, k2, k3, k4, k5⟩ := add M r none none (hk r hr) (dN.trans d3) (d3.at gf (by omega) (by omega)) (d3.at gl (by omega) (by omega)) (d3.at gk (by omega) (by omega))
        try simp only [word_snoc, PD.w_ok, PD.w_exc, PD.w_ift, PD.w_iff, PD.w_c, PD.w_getK, PD.w_slt0, PD.w_slts, PD.w_set0, PD.w_sets, PD.w_wipe0, PD.w_wipes, PD.w_var, PD.w_1, PD.w_2, PD.w_nil, PD.w_cons, PD.w_app, PD.w_eif, PD.w_truK, PD.w_and, PD.w_or, PD.w_not, PD.w_call, PD.w_meth, PD.w_nonK, PD.w_make, PD.w_bm, PD.w_sl, PD.w_bNo, PD.w_intK, PD.w_bAt, PD.w_blK, PD.w_chn, PD.w_tb1, PD.w_lc, PD.w_turn, PD.w_yes, PD.w_tv, PD.w_tand, PD.w_tor, PD.w_tnot, PD.w_nm, PD.w_sub, PD.w_gnil, PD.w_gcons, PD.w_knx, PD.w_krt, PD.w_kbk, PD.w_kct, PD.w_kex, PD.w_seq, PD.w_next, PD.w_asg, PD.w_expr, PD.w_ret, PD.w_retN, PD.w_brk, PD.w_cnt, PD.w_if, PD.w_aug, PD.w_fset, PD.w_saug, PD.w_for, PD.w_while, PD.w_ie, PD.w_rt, PD.w_nx, PD.w_ex, PD.w_rg1, PD.w_rg2, PD.w_enu, PD.w_zip2, PD.w_zipT, PD.w_rgl1, PD.o_add_i, PD.o_sub_i, PD.o_lt_i, PD.o_le_i, PD.o_gt_i, PD.o_ge_i, PD.o_is_n, PD.o_is_b, PD.o_isnot_b, PD.o_isnot_n, PD.o_isn_non, PD.o_isn_int, PD.o_isn_tup, PD.o_neg_i, PD.o_tru_b, PD.o_int_i, PD.o_int_b, PD.o_len_t, PD.o_tup_t, PD.o_lst_t, PD.o_max2, PD.o_min2, PD.o_ix_0, PD.o_ix_1, PD.o_ix_2, PD.o_ix_3, PD.it_t, PD.it_r, PD.enu_t, PD.zip_t, PD.o_tup0, PD.o_tup1, PD.o_tup2, PD.o_tup3, PD.o_tup4, PD.o_lst0, PD.o_lst1, PD.o_lst2, PD.o_lst3, PD.o_lst4, PD.g_push, PD.w_lnx, PD.w_lct, PD.w_lbk, PD.w_lrt, PD.w_lex, PD.w_lcn, PD.w_lcs, PD.o_eq_s, PD.o_ne_s, PD.o_eq_i, PD.o_ne_i, PD.w_gtp2, PD.w_gtp3, PD.w_gtp4, PD.rg_map, PD.o_lstR0, PD.o_tupR0, PD.o_not_f, PD.o_not_t, PD.o_dec_tt, PD.o_nn, PD.o_ne_b, PD.o_eq_b, PD.o_bne_tf, PD.o_bne_ff, k1]
        exact fin _ r lot o8 (hk r hr) hlot k2 k3 k4 k5
      have hsc := dN.src.lt
      refine ifK_of (fun c3 => ?_) fun c3 => ?_
      · have hlen : lot.length ≤ many := hlot.len
        have gs : (N.push (nL (isort leN lot))).get N.len = some (nL (isort leN lot)) := g_push
        have hrq : Req many (isort leN lot) := req_sorted hlot.nodup hlot.2
        obtain ⟨k1, k2, k3, k4, k5⟩ := add (N.push (nL (isort leN lot))) (isort leN lot) none none hrq (dN.push _) (g_push_old gf) (g_push_old gl) (g_push_old gk)
        try simp only [word_snoc, PD.w_ok, PD.w_exc, PD.w_ift, PD.w_iff, PD.w_c, PD.w_getK, PD.w_slt0, PD.w_slts, PD.w_set0, PD.w_sets, PD.w_wipe0, PD.w_wipes, PD.w_var, PD.w_1, PD.w_2, PD.w_nil, PD.w_cons, PD.w_app, PD.w_eif, PD.w_truK, PD.w_and, PD.w_or, PD.w_not, PD.w_call, PD.w_meth, PD.w_nonK, PD.w_make, PD.w_bm, PD.w_sl, PD.w_bNo, PD.w_intK, PD.w_bAt, PD.w_blK, PD.w_chn, PD.w_tb1, PD.w_lc, PD.w_turn, PD.w_yes, PD.w_tv, PD.w_tand, PD.w_tor, PD.w_tnot, PD.w_nm, PD.w_sub, PD.w_gnil, PD.w_gcons, PD.w_knx, PD.w_krt, PD.w_kbk, PD.w_kct, PD.w_kex, PD.w_seq, PD.w_next, PD.w_asg, PD.w_expr, PD.w_ret, PD.w_retN, PD.w_brk, PD.w_cnt, PD.w_if, PD.w_aug, PD.w_fset, PD.w_saug, PD.w_for, PD.w_while, PD.w_ie, PD.w_rt, PD.w_nx, PD.w_ex, PD.w_rg1, PD.w_rg2, PD.w_enu, PD.w_zip2, PD.w_zipT, PD.w_rgl1, PD.o_add_i, PD.o_sub_i, PD.o_lt_i, PD.o_le_i, PD.o_gt_i, PD.o_ge_i, PD.o_is_n, PD.o_is_b, PD.o_isnot_b, PD.o_isnot_n, PD.o_isn_non, PD.o_isn_int, PD.o_isn_tup, PD.o_neg_i, PD.o_tru_b, PD.o_int_i, PD.o_int_b, PD.o_len_t, PD.o_tup_t, PD.o_lst_t, PD.o_max2, PD.o_min2, PD.o_ix_0, PD.o_ix_1, PD.o_ix_2, PD.o_ix_3, PD.it_t, PD.it_r, PD.enu_t, PD.zip_t, PD.o_tup0, PD.o_tup1, PD.o_tup2, PD.o_tup3, PD.o_tup4, PD.o_lst0, PD.o_lst1, PD.o_lst2, PD.o_lst3, PD.o_lst4, PD.g_push, PD.w_lnx, PD.w_lct, PD.w_lbk, PD.w_lrt, PD.w_lex, PD.w_lcn, PD.w_lcs, PD.o_eq_s, PD.o_ne_s, PD.o_eq_i, PD.o_ne_i, PD.w_gtp2, PD.w_gtp3, PD.w_gtp4, PD.rg_map, PD.o_lstR0, PD.o_tupR0, PD.o_not_f, PD.o_not_t, PD.o_dec_tt, PD.o_nn, PD.o_ne_b, PD.o_eq_b, PD.o_bne_tf, PD.o_bne_ff, sorted_nats gl (sz_of (by omega)), o_tup_l gs, k1]
        refine W_use (PK s c _ 3 k2.src (by omega)) fun d M hM => ?_
        obtain ⟨b2, rfl, b20, b21, d3, l3⟩ := hM
        have g1 := d3.at k3 (by omega) (by omega)
        have g2 := d3.at k4 (by omega) (by omega)
        have g3 := d3.at k5 (by omega) (by omega)
        try simp only [word_snoc, PD.w_ok, PD.w_exc, PD.w_ift, PD.w_iff, PD.w_c, PD.w_getK, PD.w_slt0, PD.w_slts, PD.w_set0, PD.w_sets, PD.w_wipe0, PD.w_wipes, PD.w_var, PD.w_1, PD.w_2, PD.w_nil, PD.w_cons, PD.w_app, PD.w_eif, PD.w_truK, PD.w_and, PD.w_or, PD.w_not, PD.w_call, PD.w_meth, PD.w_nonK, PD.w_make, PD.w_bm, PD.w_sl, PD.w_bNo, PD.w_intK, PD.w_bAt, PD.w_blK, PD.w_chn, PD.w_tb1, PD.w_lc, PD.w_turn, PD.w_yes, PD.w_tv, PD.w_tand, PD.w_tor, PD.w_tnot, PD.w_nm, PD.w_sub, PD.w_gnil, PD.w_gcons, PD.w_knx, PD.w_krt, PD.w_kbk, PD.w_kct, PD.w_kex, PD.w_seq, PD.w_next, PD.w_asg, PD.w_expr, PD.w_ret, PD.w_retN, PD.w_brk, PD.w_cnt, PD.w_if, PD.w_aug, PD.w_fset, PD.w_saug, PD.w_for, PD.w_while, PD.w_ie, PD.w_rt, PD.w_nx, PD.w_ex, PD.w_rg1, PD.w_rg2, PD.w_enu, PD.w_zip2, PD.w_zipT, PD.w_rgl1, PD.o_add_i, PD.o_sub_i, PD.o_lt_i, PD.o_le_i, PD.o_gt_i, PD.o_ge_i, PD.o_is_n, PD.o_is_b, PD.o_isnot_b, PD.o_isnot_n, PD.o_isn_non, PD.o_isn_int, PD.o_isn_tup, PD.o_neg_i, PD.o_tru_b, PD.o_int_i, PD.o_int_b, PD.o_len_t, PD.o_tup_t, PD.o_lst_t, PD.o_max2, PD.o_min2, PD.o_ix_0, PD.o_ix_1, PD.o_ix_2, PD.o_ix_3, PD.it_t, PD.it_r, PD.enu_t, PD.zip_t, PD.o_tup0, PD.o_tup1, PD.o_tup2, PD.o_tup3, PD.o_tup4, PD.o_lst0, PD.o_lst1, PD.o_lst2, PD.o_lst3, PD.o_lst4, PD.g_push, PD.w_lnx, PD.w_lct, PD.w_lbk, PD.w_lrt, PD.w_lex, PD.w_lcn, PD.w_lcs, PD.o_eq_s, PD.o_ne_s, PD.o_eq_i, PD.o_ne_i, PD.w_gtp2, PD.w_gtp3, PD.w_gtp4, PD.rg_map, PD.o_lstR0, PD.o_tupR0, PD.o_not_f, PD.o_not_t, PD.o_dec_tt, PD.o_nn, PD.o_ne_b, PD.o_eq_b, PD.o_bne_tf, PD.o_bne_ff, o_len_l g2, ty_l g2]
        refine ifK_of (fun _ => ?_) fun _ => fin _ _ lot o8 hrq hlot (k2.trans d3) g1 g2 g3
        refine ifK_of (fun c4 => ?_) fun _ => fin _ _ lot o8 hrq hlot (k2.trans d3) g1 g2 g3
        refine W_use (PK s c _ _ d3.src (by simp only [List.length_map]; omega)) fun d M2 hM => ?_
        obtain ⟨b3, rfl, b30, b31, d4, l4⟩ := hM
        have c5 := of_decide_eq_true c4
        rw [List.length_map] at c5
        have g1' := d4.at g1 (by omega) (by omega)
        have g2' := d4.at g2 (by omega) (by omega)
        have g3' := d4.at g3 (by omega) (by omega)
        have hf := LH.get_lt g2'
        rw [pop_l g2' b30 (by rw [List.length_map] at *; omega) (by rw [List.length_map] at *; omega)]
        try simp only [word_snoc, PD.w_ok, PD.w_exc, PD.w_ift, PD.w_iff, PD.w_c, PD.w_getK, PD.w_slt0, PD.w_slts, PD.w_set0, PD.w_sets, PD.w_wipe0, PD.w_wipes, PD.w_var, PD.w_1, PD.w_2, PD.w_nil, PD.w_cons, PD.w_app, PD.w_eif, PD.w_truK, PD.w_and, PD.w_or, PD.w_not, PD.w_call, PD.w_meth, PD.w_nonK, PD.w_make, PD.w_bm, PD.w_sl, PD.w_bNo, PD.w_intK, PD.w_bAt, PD.w_blK, PD.w_chn, PD.w_tb1, PD.w_lc, PD.w_turn, PD.w_yes, PD.w_tv, PD.w_tand, PD.w_tor, PD.w_tnot, PD.w_nm, PD.w_sub, PD.w_gnil, PD.w_gcons, PD.w_knx, PD.w_krt, PD.w_kbk, PD.w_kct, PD.w_kex, PD.w_seq, PD.w_next, PD.w_asg, PD.w_expr, PD.w_ret, PD.w_retN, PD.w_brk, PD.w_cnt, PD.w_if, PD.w_aug, PD.w_fset, PD.w_saug, PD.w_for, PD.w_while, PD.w_ie, PD.w_rt, PD.w_nx, PD.w_ex, PD.w_rg1, PD.w_rg2, PD.w_enu, PD.w_zip2, PD.w_zipT, PD.w_rgl1, PD.o_add_i, PD.o_sub_i, PD.o_lt_i, PD.o_le_i, PD.o_gt_i, PD.o_ge_i, PD.o_is_n, PD.o_is_b, PD.o_isnot_b, PD.o_isnot_n, PD.o_isn_non, PD.o_isn_int, PD.o_isn_tup, PD.o_neg_i, PD.o_tru_b, PD.o_int_i, PD.o_int_b, PD.o_len_t, PD.o_tup_t, PD.o_lst_t, PD.o_max2, PD.o_min2, PD.o_ix_0, PD.o_ix_1, PD.o_ix_2, PD.o_ix_3, PD.it_t, PD.it_r, PD.enu_t, PD.zip_t, PD.o_tup0, PD.o_tup1, PD.o_tup2, PD.o_tup3, PD.o_tup4, PD.o_lst0, PD.o_lst1, PD.o_lst2, PD.o_lst3, PD.o_lst4, PD.g_push, PD.w_lnx, PD.w_lct, PD.w_lbk, PD.w_lrt, PD.w_lex, PD.w_lcn, PD.w_lcs, PD.o_eq_s, PD.o_ne_s, PD.o_eq_i, PD.o_ne_i, PD.w_gtp2, PD.w_gtp3, PD.w_gtp4, PD.rg_map, PD.o_lstR0, PD.o_tupR0, PD.o_not_f, PD.o_not_t, PD.o_dec_tt, PD.o_nn, PD.o_ne_b, PD.o_eq_b, PD.o_bne_tf, PD.o_bne_ff]
        refine fin _ _ (lot.eraseIdx b3.toNat) o8 hrq (hlot.erase _) (Dr.put hs ((k2.trans d3).trans d4) _ (by omega) hf) ?_ ?_ ?_
        · rw [g_put_ne hf (by omega)]; exact g1'
        · rw [g_put hf, erase_map]
        · rw [g_put_ne hf (by omega)]; exact g3'
      · refine W_use (PK s c _ 2 dN.src (by omega)) fun d M hM => ?_
        obtain ⟨b2, rfl, b20, b21, d3, l3⟩ := hM
        have g1 := d3.at gf (by omega) (by omega)
        have g2 := d3.at gl (by omega) (by omega)
        have g3 := d3.at gk (by omega) (by omega)
        try simp only [word_snoc, PD.w_ok, PD.w_exc, PD.w_ift, PD.w_iff, PD.w_c, PD.w_getK, PD.w_slt0, PD.w_slts, PD.w_set0, PD.w_sets, PD.w_wipe0, PD.w_wipes, PD.w_var, PD.w_1, PD.w_2, PD.w_nil, PD.w_cons, PD.w_app, PD.w_eif, PD.w_truK, PD.w_and, PD.w_or, PD.w_not, PD.w_call, PD.w_meth, PD.w_nonK, PD.w_make, PD.w_bm, PD.w_sl, PD.w_bNo, PD.w_intK, PD.w_bAt, PD.w_blK, PD.w_chn, PD.w_tb1, PD.w_lc, PD.w_turn, PD.w_yes, PD.w_tv, PD.w_tand, PD.w_tor, PD.w_tnot, PD.w_nm, PD.w_sub, PD.w_gnil, PD.w_gcons, PD.w_knx, PD.w_krt, PD.w_kbk, PD.w_kct, PD.w_kex, PD.w_seq, PD.w_next, PD.w_asg, PD.w_expr, PD.w_ret, PD.w_retN, PD.w_brk, PD.w_cnt, PD.w_if, PD.w_aug, PD.w_fset, PD.w_saug, PD.w_for, PD.w_while, PD.w_ie, PD.w_rt, PD.w_nx, PD.w_ex, PD.w_rg1, PD.w_rg2, PD.w_enu, PD.w_zip2, PD.w_zipT, PD.w_rgl1, PD.o_add_i, PD.o_sub_i, PD.o_lt_i, PD.o_le_i, PD.o_gt_i, PD.o_ge_i, PD.o_is_n, PD.o_is_b, PD.o_isnot_b, PD.o_isnot_n, PD.o_isn_non, PD.o_isn_int, PD.o_isn_tup, PD.o_neg_i, PD.o_tru_b, PD.o_int_i, PD.o_int_b, PD.o_len_t, PD.o_tup_t, PD.o_lst_t, PD.o_max2, PD.o_min2, PD.o_ix_0, PD.o_ix_1, PD.o_ix_2, PD.o_ix_3, PD.it_t, PD.it_r, PD.enu_t, PD.zip_t, PD.o_tup0, PD.o_tup1, PD.o_tup2, PD.o_tup3, PD.o_tup4, PD.o_lst0, PD.o_lst1, PD.o_lst2, PD.o_lst3, PD.o_lst4, PD.g_push, PD.w_lnx, PD.w_lct, PD.w_lbk, PD.w_lrt, PD.w_lex, PD.w_lcn, PD.w_lcs, PD.o_eq_s, PD.o_ne_s, PD.o_eq_i, PD.o_ne_i, PD.w_gtp2, PD.w_gtp3, PD.w_gtp4, PD.rg_map, PD.o_lstR0, PD.o_tupR0, PD.o_not_f, PD.o_not_t, PD.o_dec_tt, PD.o_nn, PD.o_ne_b, PD.o_eq_b, PD.o_bne_tf, PD.o_bne_ff]
        refine ifK_of (fun _ => ?_) fun _ => ?_
        · refine W_use (PK s c _ _ d3.src (by omega)) fun d M2 hM => ?_
          obtain ⟨b3, rfl, b30, b31, d4, l4⟩ := hM
          have hrq : Req many [b3.toNat] := ⟨List.pairwise_singleton _ _, fun h hh => by rw [List.mem_singleton.mp hh]; omega⟩
          obtain ⟨k1, k2, k3, k4, k5⟩ := add M2 [b3.toNat] none none hrq ((dN.trans d3).trans d4) (d4.at g1 (by omega) (by omega)) (d4.at g2 (by omega) (by omega)) (d4.at g3 (by omega) (by omega))
          have e3 : reqD [b3.toNat] = .tup [.int b3] := by
            show D.tup [.int ((b3.toNat : Nat) : Int)] = _
            rw [Int.toNat_of_nonneg b30]
          rw [e3] at k1 k2 k3 k4 k5
          try simp only [word_snoc, PD.w_ok, PD.w_exc, PD.w_ift, PD.w_iff, PD.w_c, PD.w_getK, PD.w_slt0, PD.w_slts, PD.w_set0, PD.w_sets, PD.w_wipe0, PD.w_wipes, PD.w_var, PD.w_1, PD.w_2, PD.w_nil, PD.w_cons, PD.w_app, PD.w_eif, PD.w_truK, PD.w_and, PD.w_or, PD.w_not, PD.w_call, PD.w_meth, PD.w_nonK, PD.w_make, PD.w_bm, PD.w_sl, PD.w_bNo, PD.w_intK, PD.w_bAt, PD.w_blK, PD.w_chn, PD.w_tb1, PD.w_lc, PD.w_turn, PD.w_yes, PD.w_tv, PD.w_tand, PD.w_tor, PD.w_tnot, PD.w_nm, PD.w_sub, PD.w_gnil, PD.w_gcons, PD.w_knx, PD.w_krt, PD.w_kbk, PD.w_kct, PD.w_kex, PD.w_seq, PD.w_next, PD.w_asg, PD.w_expr, PD.w_ret, PD.w_retN, PD.w_brk, PD.w_cnt, PD.w_if, PD.w_aug, PD.w_fset, PD.w_saug, PD.w_for, PD.w_while, PD.w_ie, PD.w_rt, PD.w_nx, PD.w_ex, PD.w_rg1, PD.w_rg2, PD.w_enu, PD.w_zip2, PD.w_zipT, PD.w_rgl1, PD.o_add_i, PD.o_sub_i, PD.o_lt_i, PD.o_le_i, PD.o_gt_i, PD.o_ge_i, PD.o_is_n, PD.o_is_b, PD.o_isnot_b, PD.o_isnot_n, PD.o_isn_non, PD.o_isn_int, PD.o_isn_tup, PD.o_neg_i, PD.o_tru_b, PD.o_int_i, PD.o_int_b, PD.o_len_t, PD.o_tup_t, PD.o_lst_t, PD.o_max2, PD.o_min2, PD.o_ix_0, PD.o_ix_1, PD.o_ix_2, PD.o_ix_3, PD.it_t, PD.it_r, PD.enu_t, PD.zip_t, PD.o_tup0, PD.o_tup1, PD.o_tup2, PD.o_tup3, PD.o_tup4, PD.o_lst0, PD.o_lst1, PD.o_lst2, PD.o_lst3, PD.o_lst4, PD.g_push, PD.w_lnx, PD.w_lct, PD.w_lbk, PD.w_lrt, PD.w_lex, PD.w_lcn, PD.w_lcs, PD.o_eq_s, PD.o_ne_s, PD.o_eq_i, PD.o_ne_i, PD.w_gtp2, PD.w_gtp3, PD.w_gtp4, PD.rg_map, PD.o_lstR0, PD.o_tupR0, PD.o_not_f, PD.o_not_t, PD.o_dec_tt, PD.o_nn, PD.o_ne_b, PD.o_eq_b, PD.o_bne_tf, PD.o_bne_ff, k1]
          exact fin _ [b3.toNat] lot o8 hrq hlot k2 (by rw [e3]; exact k3) k4 k5
        · refine W_use (OF s c kd _ _ d3.src g3 (by omega) (by omega) (by intro z; rw [List.map_eq_nil_iff] at z; subst z; simp at hl) (by rw [List.length_map, hl]; decide)) fun d M2 hM => ?_
          obtain ⟨hd, d4, l4⟩ := hM
          obtain ⟨r, hr, rfl⟩ := List.mem_map.mp hd
          obtain ⟨k1, k2, k3, k4, k5⟩ := add M2 r none none (hk r hr) ((dN.trans d3).trans d4) (d4.at g1 (by omega) (by omega)) (d4.at g2 (by omega) (by omega)) (d4.at g3 (by omega) (by omega))
          try simp only [word_snoc, PD.w_ok, PD.w_exc, PD.w_ift, PD.w_iff, PD.w_c, PD.w_getK, PD.w_slt0, PD.w_slts, PD.w_set0, PD.w_sets, PD.w_wipe0, PD.w_wipes, PD.w_var, PD.w_1, PD.w_2, PD.w_nil, PD.w_cons, PD.w_app, PD.w_eif, PD.w_truK, PD.w_and, PD.w_or, PD.w_not, PD.w_call, PD.w_meth, PD.w_nonK, PD.w_make, PD.w_bm, PD.w_sl, PD.w_bNo, PD.w_intK, PD.w_bAt, PD.w_blK, PD.w_chn, PD.w_tb1, PD.w_lc, PD.w_turn, PD.w_yes, PD.w_tv, PD.w_tand, PD.w_tor, PD.w_tnot, PD.w_nm, PD.w_sub, PD.w_gnil, PD.w_gcons, PD.w_knx, PD.w_krt, PD.w_kbk, PD.w_kct, PD.w_kex, PD.w_seq, PD.w_next, PD.w_asg, PD.w_expr, PD.w_ret, PD.w_retN, PD.w_brk, PD.w_cnt, PD.w_if, PD.w_aug, PD.w_fset, PD.w_saug, PD.w_for, PD.w_while, PD.w_ie, PD.w_rt, PD.w_nx, PD.w_ex, PD.w_rg1, PD.w_rg2, PD.w_enu, PD.w_zip2, PD.w_zipT, PD.w_rgl1, PD.o_add_i, PD.o_sub_i, PD.o_lt_i, PD.o_le_i, PD.o_gt_i, PD.o_ge_i, PD.o_is_n, PD.o_is_b, PD.o_isnot_b, PD.o_isnot_n, PD.o_isn_non, PD.o_isn_int, PD.o_isn_tup, PD.o_neg_i, PD.o_tru_b, PD.o_int_i, PD.o_int_b, PD.o_len_t, PD.o_tup_t, PD.o_lst_t, PD.o_max2, PD.o_min2, PD.o_ix_0, PD.o_ix_1, PD.o_ix_2, PD.o_ix_3, PD.it_t, PD.it_r, PD.enu_t, PD.zip_t, PD.o_tup0, PD.o_tup1, PD.o_tup2, PD.o_tup3, PD.o_tup4, PD.o_lst0, PD.o_lst1, PD.o_lst2, PD.o_lst3, PD.o_lst4, PD.g_push, PD.w_lnx, PD.w_lct, PD.w_lbk, PD.w_lrt, PD.w_lex, PD.w_lcn, PD.w_lcs, PD.o_eq_s, PD.o_ne_s, PD.o_eq_i, PD.o_ne_i, PD.w_gtp2, PD.w_gtp3, PD.w_gtp4, PD.rg_map, PD.o_lstR0, PD.o_tupR0, PD.o_not_f, PD.o_not_t, PD.o_dec_tt, PD.o_nn, PD.o_ne_b, PD.o_eq_b, PD.o_bne_tf, PD.o_bne_ff, k1]
          exact fin _ r lot o8 (hk r hr) hlot k2 k3 k4 k5
    · rintro ρ N ⟨row, lot, o7, o8, rfl, hr1, hr2, hlot, gf, gl, gk, dN⟩
      try simp only [word_snoc, PD.w_ok, PD.w_exc, PD.w_ift, PD.w_iff, PD.w_c, PD.w_getK, PD.w_slt0, PD.w_slts, PD.w_set0, PD.w_sets, PD.w_wipe0, PD.w_wipes, PD.w_var, PD.w_1, PD.w_2, PD.w_nil, PD.w_cons, PD.w_app, PD.w_eif, PD.w_truK, PD.w_and, PD.w_or, PD.w_not, PD.w_call, PD.w_meth, PD.w_nonK, PD.w_make, PD.w_bm, PD.w_sl, PD.w_bNo, PD.w_intK, PD.w_bAt, PD.w_blK, PD.w_chn, PD.w_tb1, PD.w_lc, PD.w_turn, PD.w_yes, PD.w_tv, PD.w_tand, PD.w_tor, PD.w_tnot, PD.w_nm, PD.w_sub, PD.w_gnil, PD.w_gcons, PD.w_knx, PD.w_krt, PD.w_kbk, PD.w_kct, PD.w_kex, PD.w_seq, PD.w_next, PD.w_asg, PD.w_expr, PD.w_ret, PD.w_retN, PD.w_brk, PD.w_cnt, PD.w_if, PD.w_aug, PD.w_fset, PD.w_saug, PD.w_for, PD.w_while, PD.w_ie, PD.w_rt, PD.w_nx, PD.w_ex, PD.w_rg1, PD.w_rg2, PD.w_enu, PD.w_zip2, PD.w_zipT, PD.w_rgl1, PD.o_add_i, PD.o_sub_i, PD.o_lt_i, PD.o_le_i, PD.o_gt_i, PD.o_ge_i, PD.o_is_n, PD.o_is_b, PD.o_isnot_b, PD.o_isnot_n, PD.o_isn_non, PD.o_isn_int, PD.o_isn_tup, PD.o_neg_i, PD.o_tru_b, PD.o_int_i, PD.o_int_b, PD.o_len_t, PD.o_tup_t, PD.o_lst_t, PD.o_max2, PD.o_min2, PD.o_ix_0, PD.o_ix_1, PD.o_ix_2, PD.o_ix_3, PD.it_t, PD.it_r, PD.enu_t, PD.zip_t, PD.o_tup0, PD.o_tup1, PD.o_tup2, PD.o_tup3, PD.o_tup4, PD.o_lst0, PD.o_lst1, PD.o_lst2, PD.o_lst3, PD.o_lst4, PD.g_push, PD.w_lnx, PD.w_lct, PD.w_lbk, PD.w_lrt, PD.w_lex, PD.w_lcn, PD.w_lcs, PD.o_eq_s, PD.o_ne_s, PD.o_eq_i, PD.o_ne_i, PD.w_gtp2, PD.w_gtp3, PD.w_gtp4, PD.rg_map, PD.o_lstR0, PD.o_tupR0, PD.o_not_f, PD.o_not_t, PD.o_dec_tt, PD.o_nn, PD.o_ne_b, PD.o_eq_b, PD.o_bne_tf, PD.o_bne_ff, o_tup_l gf]
      exact ⟨row, rfl, by rw [hr1, List.length_range]; omega, hr2, dN⟩
end
end EG
/-! E3: gifts: eager ones, any ones. -/
namespace EG
open PySem PD
/-- the named houses with room -/
def rooms (left : List Int) (r : List Nat) : List Nat := r.filter fun h => decide (0 < left.getD h 0)
def dec1 (left : List Int) : Option Nat → List Int
  | none => left
  | some h => left.set h (left.getD h 0 - 1)
def wOf (w : List Int) (h : Nat) : Int := w.getD h 0
/-- one gift is eager, one gift is let -/
def E1 (w left : List Int) (r : List Nat) (g : Option Nat) : Prop := match g with
  | none => rooms left r = []
  | some h => h ∈ rooms left r ∧ ∀ x ∈ rooms left r, wOf w x ≤ wOf w h
def V1 (left : List Int) (r : List Nat) (g : Option Nat) : Prop := match g with
  | none => True
  | some h => h ∈ rooms left r
def AllS (P : List Int → List Nat → Option Nat → Prop) : List Int → List (List Nat × Option Nat) → Prop
  | _, [] => True
  | left, (r, g) :: t => P left r g ∧ AllS P (dec1 left g) t
theorem allS_snoc {P : List Int → List Nat → Option Nat → Prop} : ∀ {l : List (List Nat × Option Nat)} {left : List Int} {r : List Nat} {g : Option Nat}, AllS P left (l ++ [(r, g)]) ↔ AllS P left l ∧ P ((l.map (·.2)).foldl dec1 left) r g
  | [], left, r, g => by simp [AllS]
  | (r', g') :: l, left, r, g => by
    show P left r' g' ∧ AllS P (dec1 left g') (l ++ [(r, g)]) ↔ _
    rw [allS_snoc]
    show _ ↔ (P left r' g' ∧ AllS P (dec1 left g') l) ∧ P ((l.map (·.2)).foldl dec1 (dec1 left g')) r g
    exact and_assoc.symm
theorem dec1_len {left : List Int} {g : Option Nat} : (dec1 left g).length = left.length := by
  cases g with
  | none => rfl
  | some h => exact List.length_set
theorem decs_len : ∀ {gs : List (Option Nat)} {left : List Int}, (gs.foldl dec1 left).length = left.length
  | [], _ => rfl
  | g :: gs, left => by rw [List.foldl_cons, decs_len, dec1_len]
theorem zip_snd {α β : Type} : ∀ {l : List α} {m : List β}, l.length = m.length → (l.zip m).map (·.2) = m
  | [], [], _ => rfl
  | a :: l, b :: m, h => by simp [zip_snd (Nat.succ.inj h)]
  | [], _ :: _, h => by cases h
  | _ :: _, [], h => by cases h
theorem zip_snoc {α β : Type} {a : α} {b : β} : ∀ {l : List α} {m : List β}, l.length = m.length → (l ++ [a]).zip (m ++ [b]) = l.zip m ++ [(a, b)]
  | [], [], _ => rfl
  | x :: l, y :: m, h => by simp [zip_snoc (Nat.succ.inj h)]
  | [], _ :: _, h => by cases h
  | _ :: _, [], h => by cases h
theorem rooms_sub {left : List Int} {r : List Nat} {h : Nat} (hh : h ∈ rooms left r) : h ∈ r ∧ 0 < left.getD h 0 := by
  unfold rooms at hh
  rw [List.mem_filter, decide_eq_true_eq] at hh
  exact hh
/-- what the laws pass -/
structure Fit (c0 m : Int) (w : List Int) (row : List (List Nat)) : Prop where
  c1 : 1 ≤ c0
  c2 : c0 ≤ 1000
  m1 : 1 ≤ m
  m2 : m ≤ 1000
  w1 : 1 ≤ w.length
  w2 : w.length ≤ 1000
  r : ∀ r ∈ row, Req w.length r
  n : row.length ≤ 1000
def room0 (c0 m : Int) (w : List Int) : List Int := List.replicate w.length (m * c0)
def EagerOk (R : Rec) (i : Nat) : Prop := ∀ (s c : Nat) (L : LH) (c0 m : Int) (w : List Int) (row : List (List Nat)), Src L s c → Fit c0 m w row → W (R i [.ref s, yardD c0 w, .int m, rowD row] L) (fun d M => ∃ g : List (Option Nat), d = giftsD g ∧ g.length = row.length ∧ AllS (E1 w) (room0 c0 m w) (row.zip g) ∧ Dr s c L M) nX
def AnyOk (R : Rec) (i : Nat) : Prop := ∀ (s c : Nat) (L : LH) (room : Int) (many : Nat) (row : List (List Nat)), Src L s c → many ≤ 1000 → (∀ r ∈ row, Req many r) → row.length ≤ 1000 → W (R i [.ref s, .int room, rowD row, nD many] L) (fun d M => ∃ g : List (Option Nat), d = giftsD g ∧ g.length = row.length ∧ AllS V1 (List.replicate many room) (row.zip g) ∧ Dr s c L M) nX
theorem map_rep {n : Nat} {x : Int} : List.replicate n (D.int x) = (List.replicate n x).map D.int := by rw [List.map_replicate]
/-- gifts so far: left at a, gifts at f; K: what else is known of the heap -/
structure GI (P : List Int → List Nat → Option Nat → Prop) (K : LH → Prop) (left0 : List Int) (a f : Nat) (p : List (List Nat)) (fs : List (Option Nat)) (N : LH) : Prop where
  len : fs.length = p.length
  ga : N.get a = some (iL (fs.foldl dec1 left0))
  gf : N.get f = some (.lst (fs.map giftD))
  ok : AllS P left0 (p.zip fs)
  k : K N
section
variable {P : List Int → List Nat → Option Nat → Prop} {K : LH → Prop} {left0 : List Int} {a f : Nat} {p : List (List Nat)} {fs : List (Option Nat)} {N : LH} {r : List Nat} {h : Nat}
theorem GI.none (g : GI P K left0 a f p fs N) (hK : ∀ N n x, K N → (n = a ∨ n = f) → n < N.len → K (N.put n x)) (hne : a ≠ f) (hz : p.length ≤ 1000) (hp : P (fs.foldl dec1 left0) r none) : mAppend (.ref f) [.non] N = .ok .non (N.put f (.lst (fs.map giftD ++ [.non]))) ∧ GI P K left0 a f (p ++ [r]) (fs ++ [Option.none]) (N.put f (.lst (fs.map giftD ++ [.non]))) := by
  have hf := LH.get_lt g.gf
  have hl := g.len
  refine ⟨o_app_l g.gf (by rw [List.length_map]; exact sz_lt (by omega)), by simp [hl], ?_, ?_, ?_, hK _ _ _ g.k (.inr rfl) hf⟩
  · rw [g_put_ne hf hne, g.ga, List.foldl_append]; rfl
  · rw [g_put hf, List.map_append]; rfl
  · rw [zip_snoc hl.symm]
    refine allS_snoc.mpr ⟨g.ok, ?_⟩
    rw [zip_snd hl.symm]; exact hp
theorem GI.some (g : GI P K left0 a f p fs N) (hK : ∀ N n x, K N → (n = a ∨ n = f) → n < N.len → K (N.put n x)) (hne : a ≠ f) (hz : p.length ≤ 1000) (hp : P (fs.foldl dec1 left0) r (some h)) (hh : h < left0.length) : ∃ M1 M2, mAppend (.ref f) [nD h] N = .ok .non M1 ∧ M1.get f = some (.lst (fs.map giftD ++ [nD h])) ∧ oIx (.ref a) (nD h) M1 = .ok (.int ((fs.foldl dec1 left0).getD h 0)) M1 ∧
    oSet (.ref a) (nD h) (.int ((fs.foldl dec1 left0).getD h 0 - 1)) M1 = .ok () M2 ∧ GI P K left0 a f (p ++ [r]) (fs ++ [Option.some h]) M2 ∧ (∀ n c, N.get n = Option.some c → n ≠ a → n ≠ f → M1.get n = Option.some c) := by
  have hf := LH.get_lt g.gf
  have ha := LH.get_lt g.ga
  have hl := g.len
  have hlen : (fs.foldl dec1 left0).length = left0.length := decs_len
  have g1 : (N.put f (.lst (fs.map giftD ++ [nD h]))).get f = Option.some (.lst (fs.map giftD ++ [nD h])) := g_put hf
  have g2 : (N.put f (.lst (fs.map giftD ++ [nD h]))).get a = Option.some (iL (fs.foldl dec1 left0)) := by rw [g_put_ne hf hne]; exact g.ga
  refine ⟨_, _, o_app_l g.gf (by rw [List.length_map]; exact sz_lt (by omega)), g1, ix_iL g2 (by omega), set_iL g2 (by omega), ⟨by simp [hl], ?_, ?_, ?_, hK _ _ _ (hK _ _ _ g.k (.inr rfl) hf) (.inl rfl) ha⟩, fun n c e h1 h2 => ?_⟩
  · rw [g_put (by exact ha), List.foldl_append]; rfl
  · rw [g_put_ne (by exact ha) (Ne.symm hne), g1, List.map_append]; rfl
  · rw [zip_snoc hl.symm]
    refine allS_snoc.mpr ⟨g.ok, ?_⟩
    rw [zip_snd hl.symm]; exact hp
  · rw [g_put_ne hf h2]; exact e
theorem GI.keep (g : GI P K left0 a f p fs N) {M : LH} (h1 : M.get a = N.get a) (h2 : M.get f = N.get f) (hk : K M) : GI P K left0 a f p fs M := ⟨g.len, h1.trans g.ga, h2.trans g.gf, g.ok, hk⟩
theorem GI.gr (g : GI P K left0 a f p fs N) {M : LH} (h : Gr [] N M) (hk : K M) : GI P K left0 a f p fs M := ⟨g.len, h.at0 g.ga, h.at0 g.gf, g.ok, hk⟩
end
theorem mem_nD {d : D} {l : List Nat} (h : d ∈ l.map nD) : ∃ a ∈ l, d = nD a := by
  obtain ⟨a, h1, h2⟩ := List.mem_map.mp h
  exact ⟨a, h1, h2.symm⟩
section
variable {F : Nat → Option Fn} {i jp jo : Nat}
theorem anyOk (h : F i = some (law_any_gifts_fn jp jo)) (hp : F jp = some pickFn) (ho : F jo = some (of_fn jp)) : From F 3 (AnyOk · i) := by
  intro n s c L room many row hs m1 hr hn
  have PK := (pickOk hp).mono (show 1 ≤ 2 by decide) n
  have OF := ofOk ho hp n
  rw [W_runN h rfl]
  unfold law_any_gifts_fn
  show WS _ _ [some (.ref s), some (.int room), some (rowD row), some (nD many), none, none, none, none, none, none] L _ _
  generalize PD.runN F (n + 2) = R at *
  have hsl := hs.lt
  have g0 : (L.push (.lst [.int room])).get L.len = some (.lst [.int room]) := g_push
  simp only [word_snoc, PD.w_ok, PD.w_exc, PD.w_ift, PD.w_iff, PD.w_c, PD.w_getK, PD.w_slt0, PD.w_slts, PD.w_set0, PD.w_sets, PD.w_wipe0, PD.w_wipes, PD.w_var, PD.w_1, PD.w_2, PD.w_nil, PD.w_cons, PD.w_app, PD.w_eif, PD.w_truK, PD.w_and, PD.w_or, PD.w_not, PD.w_call, PD.w_meth, PD.w_nonK, PD.w_make, PD.w_bm, PD.w_sl, PD.w_bNo, PD.w_intK, PD.w_bAt, PD.w_blK, PD.w_chn, PD.w_tb1, PD.w_lc, PD.w_turn, PD.w_yes, PD.w_tv, PD.w_tand, PD.w_tor, PD.w_tnot, PD.w_nm, PD.w_sub, PD.w_gnil, PD.w_gcons, PD.w_knx, PD.w_krt, PD.w_kbk, PD.w_kct, PD.w_kex, PD.w_seq, PD.w_next, PD.w_asg, PD.w_expr, PD.w_ret, PD.w_retN, PD.w_brk, PD.w_cnt, PD.w_if, PD.w_aug, PD.w_fset, PD.w_saug, PD.w_for, PD.w_while, PD.w_ie, PD.w_rt, PD.w_nx, PD.w_ex, PD.w_rg1, PD.w_rg2, PD.w_enu, PD.w_zip2, PD.w_zipT, PD.w_rgl1, PD.o_add_i, PD.o_sub_i, PD.o_lt_i, PD.o_le_i, PD.o_gt_i, PD.o_ge_i, PD.o_is_n, PD.o_is_b, PD.o_isnot_b, PD.o_isnot_n, PD.o_isn_non, PD.o_isn_int, PD.o_isn_tup, PD.o_neg_i, PD.o_tru_b, PD.o_int_i, PD.o_int_b, PD.o_len_t, PD.o_tup_t, PD.o_lst_t, PD.o_max2, PD.o_min2, PD.o_ix_0, PD.o_ix_1, PD.o_ix_2, PD.o_ix_3, PD.it_t, PD.it_r, PD.enu_t, PD.zip_t, PD.o_tup0, PD.o_tup1, PD.o_tup2, PD.o_tup3, PD.o_tup4, PD.o_lst0, PD.o_lst1, PD.o_lst2, PD.o_lst3, PD.o_lst4, PD.g_push, PD.w_lnx, PD.w_lct, PD.w_lbk, PD.w_lrt, PD.w_lex, PD.w_lcn, PD.w_lcs, PD.o_eq_s, PD.o_ne_s, PD.o_eq_i, PD.o_ne_i, PD.w_gtp2, PD.w_gtp3, PD.w_gtp4, PD.rg_map, PD.o_lstR0, PD.o_tupR0, PD.o_not_f, PD.o_not_t, PD.o_dec_tt, PD.o_nn, PD.o_ne_b, PD.o_eq_b, PD.o_bne_tf, PD.o_bne_ff, mul_l1 g0 (sz_of (show many ≤ 1000000 by omega)), map_rep]
  have la : (L.push (.lst [.int room])).len = L.len + 1 := rfl
  have lf : ((L.push (.lst [.int room])).push (iL (List.replicate many room))).len = L.len + 2 := rfl
  rw [la, lf]
  have ga : (((L.push (.lst [.int room])).push (iL (List.replicate many room))).push (.lst [])).get (L.len + 1) = some (iL (List.replicate many room)) := g_push_old (by rw [← la]; exact g_push)
  have gf : (((L.push (.lst [.int room])).push (iL (List.replicate many room))).push (.lst [])).get (L.len + 2) = some (.lst []) := by rw [← lf]; exact g_push
  have d0 : Dr s c L (((L.push (.lst [.int room])).push (iL (List.replicate many room))).push (.lst [])) := (((Dr.refl hs).push _).push _).push _
  generalize (((L.push (.lst [.int room])).push (iL (List.replicate many room))).push (.lst [])) = L0 at *
  have hK : ∀ (N : LH) n x, Dr s c L N → (n = L.len + 1 ∨ n = L.len + 2) → n < N.len → Dr s c L (N.put n x) := fun N n x d h hl => Dr.put hs d x (by omega) hl
  refine forW (fun p ρ N => ∃ (fs : List (Option Nat)) (o6 o7 o8 o9 : Option D), ρ = [some (.ref s), some (.int room), some (rowD row), some (nD many), some (.ref (L.len + 1)), some (.ref (L.len + 2)), o6, o7, o8, o9] ∧ GI V1 (Dr s c L) (List.replicate many room) (L.len + 1) (L.len + 2) p fs N) ⟨[], none, none, none, none, rfl, rfl, ga, gf, trivial, d0⟩ ?_ ?_
  · rintro p r q ρ N e ⟨fs, o6, o7, o8, o9, rfl, g⟩
    have hrq := hr r (split_mem e)
    have hlen : ((fs.foldl dec1 (List.replicate many room))).length = many := by rw [decs_len, List.length_replicate]
    have hz : p.length < 1000 := by
      have := congrArg List.length e
      rw [List.length_append, List.length_cons] at this
      omega
    have hN := g.k.src.lt
    have ga := g.ga
    have hNf := LH.get_lt g.gf
    generalize hlf : fs.foldl dec1 (List.replicate many room) = left at *
    try simp only [word_snoc, PD.w_ok, PD.w_exc, PD.w_ift, PD.w_iff, PD.w_c, PD.w_getK, PD.w_slt0, PD.w_slts, PD.w_set0, PD.w_sets, PD.w_wipe0, PD.w_wipes, PD.w_var, PD.w_1, PD.w_2, PD.w_nil, PD.w_cons, PD.w_app, PD.w_eif, PD.w_truK, PD.w_and, PD.w_or, PD.w_not, PD.w_call, PD.w_meth, PD.w_nonK, PD.w_make, PD.w_bm, PD.w_sl, PD.w_bNo, PD.w_intK, PD.w_bAt, PD.w_blK, PD.w_chn, PD.w_tb1, PD.w_lc, PD.w_turn, PD.w_yes, PD.w_tv, PD.w_tand, PD.w_tor, PD.w_tnot, PD.w_nm, PD.w_sub, PD.w_gnil, PD.w_gcons, PD.w_knx, PD.w_krt, PD.w_kbk, PD.w_kct, PD.w_kex, PD.w_seq, PD.w_next, PD.w_asg, PD.w_expr, PD.w_ret, PD.w_retN, PD.w_brk, PD.w_cnt, PD.w_if, PD.w_aug, PD.w_fset, PD.w_saug, PD.w_for, PD.w_while, PD.w_ie, PD.w_rt, PD.w_nx, PD.w_ex, PD.w_rg1, PD.w_rg2, PD.w_enu, PD.w_zip2, PD.w_zipT, PD.w_rgl1, PD.o_add_i, PD.o_sub_i, PD.o_lt_i, PD.o_le_i, PD.o_gt_i, PD.o_ge_i, PD.o_is_n, PD.o_is_b, PD.o_isnot_b, PD.o_isnot_n, PD.o_isn_non, PD.o_isn_int, PD.o_isn_tup, PD.o_neg_i, PD.o_tru_b, PD.o_int_i, PD.o_int_b, PD.o_len_t, PD.o_tup_t, PD.o_lst_t, PD.o_max2, PD.o_min2, PD.o_ix_0, PD.o_ix_1, PD.o_ix_2, PD.o_ix_3, PD.it_t, PD.it_r, PD.enu_t, PD.zip_t, PD.o_tup0, PD.o_tup1, PD.o_tup2, PD.o_tup3, PD.o_tup4, PD.o_lst0, PD.o_lst1, PD.o_lst2, PD.o_lst3, PD.o_lst4, PD.g_push, PD.w_lnx, PD.w_lct, PD.w_lbk, PD.w_lrt, PD.w_lex, PD.w_lcn, PD.w_lcs, PD.o_eq_s, PD.o_ne_s, PD.o_eq_i, PD.o_ne_i, PD.w_gtp2, PD.w_gtp3, PD.w_gtp4, PD.rg_map, PD.o_lstR0, PD.o_tupR0, PD.o_not_f, PD.o_not_t, PD.o_dec_tt, PD.o_nn, PD.o_ne_b, PD.o_eq_b, PD.o_bne_tf, PD.o_bne_ff]
    refine lcPure (fun h => if decide (0 < left.getD h 0) = true then some (nD h) else none) (sz_of (by have := hrq.len; omega)) (fun a ha => ?_) ?_
    · have hlt := hrq.2 a ha
      try simp only [word_snoc, PD.w_ok, PD.w_exc, PD.w_ift, PD.w_iff, PD.w_c, PD.w_getK, PD.w_slt0, PD.w_slts, PD.w_set0, PD.w_sets, PD.w_wipe0, PD.w_wipes, PD.w_var, PD.w_1, PD.w_2, PD.w_nil, PD.w_cons, PD.w_app, PD.w_eif, PD.w_truK, PD.w_and, PD.w_or, PD.w_not, PD.w_call, PD.w_meth, PD.w_nonK, PD.w_make, PD.w_bm, PD.w_sl, PD.w_bNo, PD.w_intK, PD.w_bAt, PD.w_blK, PD.w_chn, PD.w_tb1, PD.w_lc, PD.w_turn, PD.w_yes, PD.w_tv, PD.w_tand, PD.w_tor, PD.w_tnot, PD.w_nm, PD.w_sub, PD.w_gnil, PD.w_gcons, PD.w_knx, PD.w_krt, PD.w_kbk, PD.w_kct, PD.w_kex, PD.w_seq, PD.w_next, PD.w_asg, PD.w_expr, PD.w_ret, PD.w_retN, PD.w_brk, PD.w_cnt, PD.w_if, PD.w_aug, PD.w_fset, PD.w_saug, PD.w_for, PD.w_while, PD.w_ie, PD.w_rt, PD.w_nx, PD.w_ex, PD.w_rg1, PD.w_rg2, PD.w_enu, PD.w_zip2, PD.w_zipT, PD.w_rgl1, PD.o_add_i, PD.o_sub_i, PD.o_lt_i, PD.o_le_i, PD.o_gt_i, PD.o_ge_i, PD.o_is_n, PD.o_is_b, PD.o_isnot_b, PD.o_isnot_n, PD.o_isn_non, PD.o_isn_int, PD.o_isn_tup, PD.o_neg_i, PD.o_tru_b, PD.o_int_i, PD.o_int_b, PD.o_len_t, PD.o_tup_t, PD.o_lst_t, PD.o_max2, PD.o_min2, PD.o_ix_0, PD.o_ix_1, PD.o_ix_2, PD.o_ix_3, PD.it_t, PD.it_r, PD.enu_t, PD.zip_t, PD.o_tup0, PD.o_tup1, PD.o_tup2, PD.o_tup3, PD.o_tup4, PD.o_lst0, PD.o_lst1, PD.o_lst2, PD.o_lst3, PD.o_lst4, PD.g_push, PD.w_lnx, PD.w_lct, PD.w_lbk, PD.w_lrt, PD.w_lex, PD.w_lcn, PD.w_lcs, PD.o_eq_s, PD.o_ne_s, PD.o_eq_i, PD.o_ne_i, PD.w_gtp2, PD.w_gtp3, PD.w_gtp4, PD.rg_map, PD.o_lstR0, PD.o_tupR0, PD.o_not_f, PD.o_not_t, PD.o_dec_tt, PD.o_nn, PD.o_ne_b, PD.o_eq_b, PD.o_bne_tf, PD.o_bne_ff, ix_iL ga (show a < left.length by omega)]
      refine ifK_of (fun c1 => ?_) fun c1 => ?_
      · rw [if_pos c1]; exact ⟨rfl, trivial⟩
      · rw [if_neg (by rw [c1]; exact Bool.false_ne_true)]; exact ⟨rfl, trivial⟩
    · rw [fm_filter]
      have gs : ((N.push (nL (rooms left r))).push (.lst [])).get N.len = some (nL (rooms left r)) := g_push_old g_push
      have ge : ((N.push (nL (rooms left r))).push (.lst [])).get (N.push (nL (rooms left r))).len = some (.lst []) := g_push
      have g1 : GI V1 (Dr s c L) (List.replicate many room) (L.len + 1) (L.len + 2) p fs ((N.push (nL (rooms left r))).push (.lst [])) := g.gr ((Gr.refl.push _).push _) ((g.k.push _).push _)
      show W (oNe (.ref N.len) (.ref (N.push (nL (rooms left r))).len) ((N.push (nL (rooms left r))).push (.lst []))) _ _
      generalize ((N.push (nL (rooms left r))).push (.lst [])) = K at *
      rw [ne_nilN gs ge]
      have hrl : (rooms left r).length ≤ 1000 := Nat.le_trans (List.length_filter_le ..) (by have := hrq.len; omega)
      have leave : ∀ M, Dr s c K M → GI V1 (Dr s c L) (List.replicate many room) (L.len + 1) (L.len + 2) p fs M := fun M d => g1.keep (d.gr.get _ (LH.get_lt g1.ga) (by simp; omega)) (d.gr.get _ (LH.get_lt g1.gf) (by simp; omega)) (g1.k.trans d)
      have leaf : ∀ M, GI V1 (Dr s c L) (List.replicate many room) (L.len + 1) (L.len + 2) p fs M → W (mAppend (.ref (L.len + 2)) [.non] M) (fun x L1 => ∃ (fs : List (Option Nat)) (o6 o7 o8_1 o9 : Option D), [some (D.ref s), some (.int room), some (rowD row), some (nD many), some (.ref (L.len + 1)), some (.ref (L.len + 2)), some (reqD r), some (.ref N.len), o8, some .non] = [some (.ref s), some (.int room), some (rowD row), some (nD many), some (.ref (L.len + 1)), some (.ref (L.len + 2)), o6, o7, o8_1, o9] ∧ GI V1 (Dr s c L) (List.replicate many room) (L.len + 1) (L.len + 2) (p ++ [r]) fs L1) nX := by
        intro M gM
        obtain ⟨k1, k2⟩ := gM.none (r := r) hK (by omega) (by omega) trivial
        exact W_eq k1 ⟨_, _, _, _, _, rfl, k2⟩
      try simp only [word_snoc, PD.w_ok, PD.w_exc, PD.w_ift, PD.w_iff, PD.w_c, PD.w_getK, PD.w_slt0, PD.w_slts, PD.w_set0, PD.w_sets, PD.w_wipe0, PD.w_wipes, PD.w_var, PD.w_1, PD.w_2, PD.w_nil, PD.w_cons, PD.w_app, PD.w_eif, PD.w_truK, PD.w_and, PD.w_or, PD.w_not, PD.w_call, PD.w_meth, PD.w_nonK, PD.w_make, PD.w_bm, PD.w_sl, PD.w_bNo, PD.w_intK, PD.w_bAt, PD.w_blK, PD.w_chn, PD.w_tb1, PD.w_lc, PD.w_turn, PD.w_yes, PD.w_tv, PD.w_tand, PD.w_tor, PD.w_tnot, PD.w_nm, PD.w_sub, PD.w_gnil, PD.w_gcons, PD.w_knx, PD.w_krt, PD.w_kbk, PD.w_kct, PD.w_kex, PD.w_seq, PD.w_next, PD.w_asg, PD.w_expr, PD.w_ret, PD.w_retN, PD.w_brk, PD.w_cnt, PD.w_if, PD.w_aug, PD.w_fset, PD.w_saug, PD.w_for, PD.w_while, PD.w_ie, PD.w_rt, PD.w_nx, PD.w_ex, PD.w_rg1, PD.w_rg2, PD.w_enu, PD.w_zip2, PD.w_zipT, PD.w_rgl1, PD.o_add_i, PD.o_sub_i, PD.o_lt_i, PD.o_le_i, PD.o_gt_i, PD.o_ge_i, PD.o_is_n, PD.o_is_b, PD.o_isnot_b, PD.o_isnot_n, PD.o_isn_non, PD.o_isn_int, PD.o_isn_tup, PD.o_neg_i, PD.o_tru_b, PD.o_int_i, PD.o_int_b, PD.o_len_t, PD.o_tup_t, PD.o_lst_t, PD.o_max2, PD.o_min2, PD.o_ix_0, PD.o_ix_1, PD.o_ix_2, PD.o_ix_3, PD.it_t, PD.it_r, PD.enu_t, PD.zip_t, PD.o_tup0, PD.o_tup1, PD.o_tup2, PD.o_tup3, PD.o_tup4, PD.o_lst0, PD.o_lst1, PD.o_lst2, PD.o_lst3, PD.o_lst4, PD.g_push, PD.w_lnx, PD.w_lct, PD.w_lbk, PD.w_lrt, PD.w_lex, PD.w_lcn, PD.w_lcs, PD.o_eq_s, PD.o_ne_s, PD.o_eq_i, PD.o_ne_i, PD.w_gtp2, PD.w_gtp3, PD.w_gtp4, PD.rg_map, PD.o_lstR0, PD.o_tupR0, PD.o_not_f, PD.o_not_t, PD.o_dec_tt, PD.o_nn, PD.o_ne_b, PD.o_eq_b, PD.o_bne_tf, PD.o_bne_ff]
      refine ifK_of (fun c1 => ?_) fun c1 => ?_
      · refine W_use (PK s c _ 5 g1.k.src (by omega)) fun d M hM => ?_
        obtain ⟨b, rfl, b0, b1, d2, l2⟩ := hM
        have gM := leave M d2
        try simp only [word_snoc, PD.w_ok, PD.w_exc, PD.w_ift, PD.w_iff, PD.w_c, PD.w_getK, PD.w_slt0, PD.w_slts, PD.w_set0, PD.w_sets, PD.w_wipe0, PD.w_wipes, PD.w_var, PD.w_1, PD.w_2, PD.w_nil, PD.w_cons, PD.w_app, PD.w_eif, PD.w_truK, PD.w_and, PD.w_or, PD.w_not, PD.w_call, PD.w_meth, PD.w_nonK, PD.w_make, PD.w_bm, PD.w_sl, PD.w_bNo, PD.w_intK, PD.w_bAt, PD.w_blK, PD.w_chn, PD.w_tb1, PD.w_lc, PD.w_turn, PD.w_yes, PD.w_tv, PD.w_tand, PD.w_tor, PD.w_tnot, PD.w_nm, PD.w_sub, PD.w_gnil, PD.w_gcons, PD.w_knx, PD.w_krt, PD.w_kbk, PD.w_kct, PD.w_kex, PD.w_seq, PD.w_next, PD.w_asg, PD.w_expr, PD.w_ret, PD.w_retN, PD.w_brk, PD.w_cnt, PD.w_if, PD.w_aug, PD.w_fset, PD.w_saug, PD.w_for, PD.w_while, PD.w_ie, PD.w_rt, PD.w_nx, PD.w_ex, PD.w_rg1, PD.w_rg2, PD.w_enu, PD.w_zip2, PD.w_zipT, PD.w_rgl1, PD.o_add_i, PD.o_sub_i, PD.o_lt_i, PD.o_le_i, PD.o_gt_i, PD.o_ge_i, PD.o_is_n, PD.o_is_b, PD.o_isnot_b, PD.o_isnot_n, PD.o_isn_non, PD.o_isn_int, PD.o_isn_tup, PD.o_neg_i, PD.o_tru_b, PD.o_int_i, PD.o_int_b, PD.o_len_t, PD.o_tup_t, PD.o_lst_t, PD.o_max2, PD.o_min2, PD.o_ix_0, PD.o_ix_1, PD.o_ix_2, PD.o_ix_3, PD.it_t, PD.it_r, PD.enu_t, PD.zip_t, PD.o_tup0, PD.o_tup1, PD.o_tup2, PD.o_tup3, PD.o_tup4, PD.o_lst0, PD.o_lst1, PD.o_lst2, PD.o_lst3, PD.o_lst4, PD.g_push, PD.w_lnx, PD.w_lct, PD.w_lbk, PD.w_lrt, PD.w_lex, PD.w_lcn, PD.w_lcs, PD.o_eq_s, PD.o_ne_s, PD.o_eq_i, PD.o_ne_i, PD.w_gtp2, PD.w_gtp3, PD.w_gtp4, PD.rg_map, PD.o_lstR0, PD.o_tupR0, PD.o_not_f, PD.o_not_t, PD.o_dec_tt, PD.o_nn, PD.o_ne_b, PD.o_eq_b, PD.o_bne_tf, PD.o_bne_ff]
        refine ifK_of (fun c2 => ?_) fun c2 => ?_
        · have hne : rooms left r ≠ [] := by intro z; rw [z] at c1; cases c1
          refine W_use (OF s c N.len M _ d2.src (d2.at gs (by omega) (by omega)) (by omega) (by omega) (by simpa using hne) (by rw [List.length_map]; omega)) fun d M2 hM => ?_
          obtain ⟨hd, d3, l3⟩ := hM
          obtain ⟨hh, hin, rfl⟩ := mem_nD hd
          have gM2 := leave M2 (d2.trans d3)
          obtain ⟨M3, M4, k1, k2, k3, k4, k5, _⟩ := gM2.some (r := r) hK (by omega) (by omega) (by rw [hlf]; exact hin) (show hh < (List.replicate many room).length by rw [List.length_replicate]; exact hrq.2 _ (rooms_sub hin).1)
          rw [hlf] at k3 k4
          try simp only [word_snoc, PD.w_ok, PD.w_exc, PD.w_ift, PD.w_iff, PD.w_c, PD.w_getK, PD.w_slt0, PD.w_slts, PD.w_set0, PD.w_sets, PD.w_wipe0, PD.w_wipes, PD.w_var, PD.w_1, PD.w_2, PD.w_nil, PD.w_cons, PD.w_app, PD.w_eif, PD.w_truK, PD.w_and, PD.w_or, PD.w_not, PD.w_call, PD.w_meth, PD.w_nonK, PD.w_make, PD.w_bm, PD.w_sl, PD.w_bNo, PD.w_intK, PD.w_bAt, PD.w_blK, PD.w_chn, PD.w_tb1, PD.w_lc, PD.w_turn, PD.w_yes, PD.w_tv, PD.w_tand, PD.w_tor, PD.w_tnot, PD.w_nm, PD.w_sub, PD.w_gnil, PD.w_gcons, PD.w_knx, PD.w_krt, PD.w_kbk, PD.w_kct, PD.w_kex, PD.w_seq, PD.w_next, PD.w_asg, PD.w_expr, PD.w_ret, PD.w_retN, PD.w_brk, PD.w_cnt, PD.w_if, PD.w_aug, PD.w_fset, PD.w_saug, PD.w_for, PD.w_while, PD.w_ie, PD.w_rt, PD.w_nx, PD.w_ex, PD.w_rg1, PD.w_rg2, PD.w_enu, PD.w_zip2, PD.w_zipT, PD.w_rgl1, PD.o_add_i, PD.o_sub_i, PD.o_lt_i, PD.o_le_i, PD.o_gt_i, PD.o_ge_i, PD.o_is_n, PD.o_is_b, PD.o_isnot_b, PD.o_isnot_n, PD.o_isn_non, PD.o_isn_int, PD.o_isn_tup, PD.o_neg_i, PD.o_tru_b, PD.o_int_i, PD.o_int_b, PD.o_len_t, PD.o_tup_t, PD.o_lst_t, PD.o_max2, PD.o_min2, PD.o_ix_0, PD.o_ix_1, PD.o_ix_2, PD.o_ix_3, PD.it_t, PD.it_r, PD.enu_t, PD.zip_t, PD.o_tup0, PD.o_tup1, PD.o_tup2, PD.o_tup3, PD.o_tup4, PD.o_lst0, PD.o_lst1, PD.o_lst2, PD.o_lst3, PD.o_lst4, PD.g_push, PD.w_lnx, PD.w_lct, PD.w_lbk, PD.w_lrt, PD.w_lex, PD.w_lcn, PD.w_lcs, PD.o_eq_s, PD.o_ne_s, PD.o_eq_i, PD.o_ne_i, PD.w_gtp2, PD.w_gtp3, PD.w_gtp4, PD.rg_map, PD.o_lstR0, PD.o_tupR0, PD.o_not_f, PD.o_not_t, PD.o_dec_tt, PD.o_nn, PD.o_ne_b, PD.o_eq_b, PD.o_bne_tf, PD.o_bne_ff, ty_l gM2.gf, k1, k3, k4]
          exact ⟨_, _, _, _, _, rfl, k5⟩
        · try simp only [word_snoc, PD.w_ok, PD.w_exc, PD.w_ift, PD.w_iff, PD.w_c, PD.w_getK, PD.w_slt0, PD.w_slts, PD.w_set0, PD.w_sets, PD.w_wipe0, PD.w_wipes, PD.w_var, PD.w_1, PD.w_2, PD.w_nil, PD.w_cons, PD.w_app, PD.w_eif, PD.w_truK, PD.w_and, PD.w_or, PD.w_not, PD.w_call, PD.w_meth, PD.w_nonK, PD.w_make, PD.w_bm, PD.w_sl, PD.w_bNo, PD.w_intK, PD.w_bAt, PD.w_blK, PD.w_chn, PD.w_tb1, PD.w_lc, PD.w_turn, PD.w_yes, PD.w_tv, PD.w_tand, PD.w_tor, PD.w_tnot, PD.w_nm, PD.w_sub, PD.w_gnil, PD.w_gcons, PD.w_knx, PD.w_krt, PD.w_kbk, PD.w_kct, PD.w_kex, PD.w_seq, PD.w_next, PD.w_asg, PD.w_expr, PD.w_ret, PD.w_retN, PD.w_brk, PD.w_cnt, PD.w_if, PD.w_aug, PD.w_fset, PD.w_saug, PD.w_for, PD.w_while, PD.w_ie, PD.w_rt, PD.w_nx, PD.w_ex, PD.w_rg1, PD.w_rg2, PD.w_enu, PD.w_zip2, PD.w_zipT, PD.w_rgl1, PD.o_add_i, PD.o_sub_i, PD.o_lt_i, PD.o_le_i, PD.o_gt_i, PD.o_ge_i, PD.o_is_n, PD.o_is_b, PD.o_isnot_b, PD.o_isnot_n, PD.o_isn_non, PD.o_isn_int, PD.o_isn_tup, PD.o_neg_i, PD.o_tru_b, PD.o_int_i, PD.o_int_b, PD.o_len_t, PD.o_tup_t, PD.o_lst_t, PD.o_max2, PD.o_min2, PD.o_ix_0, PD.o_ix_1, PD.o_ix_2, PD.o_ix_3, PD.it_t, PD.it_r, PD.enu_t, PD.zip_t, PD.o_tup0, PD.o_tup1, PD.o_tup2, PD.o_tup3, PD.o_tup4, PD.o_lst0, PD.o_lst1, PD.o_lst2, PD.o_lst3, PD.o_lst4, PD.g_push, PD.w_lnx, PD.w_lct, PD.w_lbk, PD.w_lrt, PD.w_lex, PD.w_lcn, PD.w_lcs, PD.o_eq_s, PD.o_ne_s, PD.o_eq_i, PD.o_ne_i, PD.w_gtp2, PD.w_gtp3, PD.w_gtp4, PD.rg_map, PD.o_lstR0, PD.o_tupR0, PD.o_not_f, PD.o_not_t, PD.o_dec_tt, PD.o_nn, PD.o_ne_b, PD.o_eq_b, PD.o_bne_tf, PD.o_bne_ff, ty_l gM.gf, Bool.not_true]
          exact leaf M gM
      · try simp only [word_snoc, PD.w_ok, PD.w_exc, PD.w_ift, PD.w_iff, PD.w_c, PD.w_getK, PD.w_slt0, PD.w_slts, PD.w_set0, PD.w_sets, PD.w_wipe0, PD.w_wipes, PD.w_var, PD.w_1, PD.w_2, PD.w_nil, PD.w_cons, PD.w_app, PD.w_eif, PD.w_truK, PD.w_and, PD.w_or, PD.w_not, PD.w_call, PD.w_meth, PD.w_nonK, PD.w_make, PD.w_bm, PD.w_sl, PD.w_bNo, PD.w_intK, PD.w_bAt, PD.w_blK, PD.w_chn, PD.w_tb1, PD.w_lc, PD.w_turn, PD.w_yes, PD.w_tv, PD.w_tand, PD.w_tor, PD.w_tnot, PD.w_nm, PD.w_sub, PD.w_gnil, PD.w_gcons, PD.w_knx, PD.w_krt, PD.w_kbk, PD.w_kct, PD.w_kex, PD.w_seq, PD.w_next, PD.w_asg, PD.w_expr, PD.w_ret, PD.w_retN, PD.w_brk, PD.w_cnt, PD.w_if, PD.w_aug, PD.w_fset, PD.w_saug, PD.w_for, PD.w_while, PD.w_ie, PD.w_rt, PD.w_nx, PD.w_ex, PD.w_rg1, PD.w_rg2, PD.w_enu, PD.w_zip2, PD.w_zipT, PD.w_rgl1, PD.o_add_i, PD.o_sub_i, PD.o_lt_i, PD.o_le_i, PD.o_gt_i, PD.o_ge_i, PD.o_is_n, PD.o_is_b, PD.o_isnot_b, PD.o_isnot_n, PD.o_isn_non, PD.o_isn_int, PD.o_isn_tup, PD.o_neg_i, PD.o_tru_b, PD.o_int_i, PD.o_int_b, PD.o_len_t, PD.o_tup_t, PD.o_lst_t, PD.o_max2, PD.o_min2, PD.o_ix_0, PD.o_ix_1, PD.o_ix_2, PD.o_ix_3, PD.it_t, PD.it_r, PD.enu_t, PD.zip_t, PD.o_tup0, PD.o_tup1, PD.o_tup2, PD.o_tup3, PD.o_tup4, PD.o_lst0, PD.o_lst1, PD.o_lst2, PD.o_lst3, PD.o_lst4, PD.g_push, PD.w_lnx, PD.w_lct, PD.w_lbk, PD.w_lrt, PD.w_lex, PD.w_lcn, PD.w_lcs, PD.o_eq_s, PD.o_ne_s, PD.o_eq_i, PD.o_ne_i, PD.w_gtp2, PD.w_gtp3, PD.w_gtp4, PD.rg_map, PD.o_lstR0, PD.o_tupR0, PD.o_not_f, PD.o_not_t, PD.o_dec_tt, PD.o_nn, PD.o_ne_b, PD.o_eq_b, PD.o_bne_tf, PD.o_bne_ff, ty_l g1.gf, Bool.not_true]
        exact leaf K g1
  · rintro ρ N ⟨fs, o6, o7, o8, o9, rfl, g⟩
    try simp only [word_snoc, PD.w_ok, PD.w_exc, PD.w_ift, PD.w_iff, PD.w_c, PD.w_getK, PD.w_slt0, PD.w_slts, PD.w_set0, PD.w_sets, PD.w_wipe0, PD.w_wipes, PD.w_var, PD.w_1, PD.w_2, PD.w_nil, PD.w_cons, PD.w_app, PD.w_eif, PD.w_truK, PD.w_and, PD.w_or, PD.w_not, PD.w_call, PD.w_meth, PD.w_nonK, PD.w_make, PD.w_bm, PD.w_sl, PD.w_bNo, PD.w_intK, PD.w_bAt, PD.w_blK, PD.w_chn, PD.w_tb1, PD.w_lc, PD.w_turn, PD.w_yes, PD.w_tv, PD.w_tand, PD.w_tor, PD.w_tnot, PD.w_nm, PD.w_sub, PD.w_gnil, PD.w_gcons, PD.w_knx, PD.w_krt, PD.w_kbk, PD.w_kct, PD.w_kex, PD.w_seq, PD.w_next, PD.w_asg, PD.w_expr, PD.w_ret, PD.w_retN, PD.w_brk, PD.w_cnt, PD.w_if, PD.w_aug, PD.w_fset, PD.w_saug, PD.w_for, PD.w_while, PD.w_ie, PD.w_rt, PD.w_nx, PD.w_ex, PD.w_rg1, PD.w_rg2, PD.w_enu, PD.w_zip2, PD.w_zipT, PD.w_rgl1, PD.o_add_i, PD.o_sub_i, PD.o_lt_i, PD.o_le_i, PD.o_gt_i, PD.o_ge_i, PD.o_is_n, PD.o_is_b, PD.o_isnot_b, PD.o_isnot_n, PD.o_isn_non, PD.o_isn_int, PD.o_isn_tup, PD.o_neg_i, PD.o_tru_b, PD.o_int_i, PD.o_int_b, PD.o_len_t, PD.o_tup_t, PD.o_lst_t, PD.o_max2, PD.o_min2, PD.o_ix_0, PD.o_ix_1, PD.o_ix_2, PD.o_ix_3, PD.it_t, PD.it_r, PD.enu_t, PD.zip_t, PD.o_tup0, PD.o_tup1, PD.o_tup2, PD.o_tup3, PD.o_tup4, PD.o_lst0, PD.o_lst1, PD.o_lst2, PD.o_lst3, PD.o_lst4, PD.g_push, PD.w_lnx, PD.w_lct, PD.w_lbk, PD.w_lrt, PD.w_lex, PD.w_lcn, PD.w_lcs, PD.o_eq_s, PD.o_ne_s, PD.o_eq_i, PD.o_ne_i, PD.w_gtp2, PD.w_gtp3, PD.w_gtp4, PD.rg_map, PD.o_lstR0, PD.o_tupR0, PD.o_not_f, PD.o_not_t, PD.o_dec_tt, PD.o_nn, PD.o_ne_b, PD.o_eq_b, PD.o_bne_tf, PD.o_bne_ff, o_tup_l g.gf]
    exact ⟨fs, rfl, g.len, g.ok, g.k⟩
end
end EG
/-! E4: drawn eager gifts. -/
namespace EG
open PySem PD
def maxL : List Int → Int
  | [] => 0
  | i :: l => maxI i l
theorem maxL_ge {l : List Int} {x : Int} (h : x ∈ l) : x ≤ maxL l := by
  cases l with
  | nil => cases h
  | cons i l =>
    have := maxI_spec l i
    rcases List.mem_cons.mp h with rfl | h
    · exact this.2.1
    · exact this.2.2 x h
theorem maxL_mem {l : List Int} (h : l ≠ []) : maxL l ∈ l := by
  cases l with
  | nil => exact absurd rfl h
  | cons i l =>
    rcases (maxI_spec l i).1 with h | h
    · show maxI i l ∈ _; rw [h]; exact List.mem_cons_self ..
    · exact List.mem_cons_of_mem _ h
theorem max_L {L : LH} {n : Nat} {l : List Int} (h : L.get n = some (iL l)) (hne : l ≠ []) : bMaxA [.ref n] L = .ok (.int (maxL l)) L := by
  cases l with
  | nil => exact absurd rfl hne
  | cons i l => exact max_iL h
/-- a gift told, not yet taken off -/
structure GH (P : List Int → List Nat → Option Nat → Prop) (K : LH → Prop) (left0 : List Int) (a f : Nat) (p : List (List Nat)) (fs : List (Option Nat)) (r : List Nat) (g : Option Nat) (N : LH) : Prop where
  len : fs.length = p.length
  ga : N.get a = some (iL (fs.foldl dec1 left0))
  gf : N.get f = some (.lst (fs.map giftD ++ [giftD g]))
  ok : AllS P left0 (p.zip fs)
  one : P (fs.foldl dec1 left0) r g
  k : K N
section
variable {P : List Int → List Nat → Option Nat → Prop} {K : LH → Prop} {left0 : List Int} {a f : Nat} {p : List (List Nat)} {fs : List (Option Nat)} {N : LH} {r : List Nat} {h : Nat} {o : Option Nat}
theorem GI.app (g : GI P K left0 a f p fs N) (hK : ∀ N n x, K N → (n = a ∨ n = f) → n < N.len → K (N.put n x)) (hne : a ≠ f) (hz : p.length ≤ 1000) (hp : P (fs.foldl dec1 left0) r o) : mAppend (.ref f) [giftD o] N = .ok .non (N.put f (.lst (fs.map giftD ++ [giftD o]))) ∧ GH P K left0 a f p fs r o (N.put f (.lst (fs.map giftD ++ [giftD o]))) := by
  have hf := LH.get_lt g.gf
  have hl := g.len
  refine ⟨o_app_l g.gf (by rw [List.length_map]; exact sz_lt (by omega)), hl, ?_, ?_, g.ok, hp, hK _ _ _ g.k (.inr rfl) hf⟩
  · rw [g_put_ne hf hne, g.ga]
  · rw [g_put hf]
theorem GH.gr (g : GH P K left0 a f p fs r o N) {M : LH} (h : Gr [] N M) (hk : K M) : GH P K left0 a f p fs r o M := ⟨g.len, h.at0 g.ga, h.at0 g.gf, g.ok, g.one, hk⟩
theorem GH.ok' (g : GH P K left0 a f p fs r o N) : AllS P left0 ((p ++ [r]).zip (fs ++ [o])) := by
  rw [zip_snoc g.len.symm]
  refine allS_snoc.mpr ⟨g.ok, ?_⟩
  rw [zip_snd g.len.symm]; exact g.one
theorem GH.none (g : GH P K left0 a f p fs r Option.none N) : GI P K left0 a f (p ++ [r]) (fs ++ [Option.none]) N := by
  refine ⟨by simp [g.len], ?_, ?_, g.ok', g.k⟩
  · rw [g.ga, List.foldl_append]; rfl
  · rw [g.gf, List.map_append]; rfl
theorem GH.some (g : GH P K left0 a f p fs r (Option.some h) N) (hK : ∀ N n x, K N → (n = a ∨ n = f) → n < N.len → K (N.put n x)) (hne : a ≠ f) (hh : h < left0.length) : oIx (.ref a) (nD h) N = .ok (.int ((fs.foldl dec1 left0).getD h 0)) N ∧ ∃ M, oSet (.ref a) (nD h) (.int ((fs.foldl dec1 left0).getD h 0 - 1)) N = .ok () M ∧ GI P K left0 a f (p ++ [r]) (fs ++ [Option.some h]) M := by
  have ha := LH.get_lt g.ga
  have hlen : (fs.foldl dec1 left0).length = left0.length := decs_len
  refine ⟨ix_iL g.ga (by omega), _, set_iL g.ga (by omega), by simp [g.len], ?_, ?_, g.ok', hK _ _ _ g.k (.inl rfl) ha⟩
  · rw [g_put ha, List.foldl_append]; rfl
  · rw [g_put_ne ha (Ne.symm hne), g.gf, List.map_append]; rfl
end
theorem map_wOf (w : List Int) (l : List Nat) : (l.map fun h => D.int (wOf w h)) = (l.map (wOf w)).map D.int := by rw [List.map_map]; rfl
section
variable {F : Nat → Option Fn} {i jp jo : Nat}
theorem eagerOk (h : F i = some (law_eager_fn jo)) (hp : F jp = some pickFn) (ho : F jo = some (of_fn jp)) : From F 3 (EagerOk · i) := by
  intro n s c L c0 m w row hs ft
  have OF := ofOk ho hp n
  rw [W_runN h rfl]
  unfold law_eager_fn
  show WS _ _ [some (.ref s), some (yardD c0 w), some (.int m), some (rowD row), none, none, none, none, none, none, none] L _ _
  generalize PD.runN F (n + 2) = R at *
  have hsl := hs.lt
  have g0 : (L.push (.lst [.int (m * c0)])).get L.len = some (.lst [.int (m * c0)]) := g_push
  have z := ft.w2
  have c1 := ft.c1
  have c2 := ft.c2
  have m1 := ft.m1
  have m2 := ft.m2
  have b1 : oMul (.int m) (.int c0) L = .ok (.int (m * c0)) L := o_mul_i (.inl (by unfold big64; omega))
  have b2 : oMul (.ref L.len) (.int ((w.map D.int).length : Int)) (L.push (.lst [.int (m * c0)])) = .ok (.ref (L.push (.lst [.int (m * c0)])).len) ((L.push (.lst [.int (m * c0)])).push (iL (room0 c0 m w))) := by
    rw [mul_l1 g0 (sz_of (by rw [List.length_map]; omega)), map_rep, List.length_map]; rfl
  simp only [word_snoc, PD.w_ok, PD.w_exc, PD.w_ift, PD.w_iff, PD.w_c, PD.w_getK, PD.w_slt0, PD.w_slts, PD.w_set0, PD.w_sets, PD.w_wipe0, PD.w_wipes, PD.w_var, PD.w_1, PD.w_2, PD.w_nil, PD.w_cons, PD.w_app, PD.w_eif, PD.w_truK, PD.w_and, PD.w_or, PD.w_not, PD.w_call, PD.w_meth, PD.w_nonK, PD.w_make, PD.w_bm, PD.w_sl, PD.w_bNo, PD.w_intK, PD.w_bAt, PD.w_blK, PD.w_chn, PD.w_tb1, PD.w_lc, PD.w_turn, PD.w_yes, PD.w_tv, PD.w_tand, PD.w_tor, PD.w_tnot, PD.w_nm, PD.w_sub, PD.w_gnil, PD.w_gcons, PD.w_knx, PD.w_krt, PD.w_kbk, PD.w_kct, PD.w_kex, PD.w_seq, PD.w_next, PD.w_asg, PD.w_expr, PD.w_ret, PD.w_retN, PD.w_brk, PD.w_cnt, PD.w_if, PD.w_aug, PD.w_fset, PD.w_saug, PD.w_for, PD.w_while, PD.w_ie, PD.w_rt, PD.w_nx, PD.w_ex, PD.w_rg1, PD.w_rg2, PD.w_enu, PD.w_zip2, PD.w_zipT, PD.w_rgl1, PD.o_add_i, PD.o_sub_i, PD.o_lt_i, PD.o_le_i, PD.o_gt_i, PD.o_ge_i, PD.o_is_n, PD.o_is_b, PD.o_isnot_b, PD.o_isnot_n, PD.o_isn_non, PD.o_isn_int, PD.o_isn_tup, PD.o_neg_i, PD.o_tru_b, PD.o_int_i, PD.o_int_b, PD.o_len_t, PD.o_tup_t, PD.o_lst_t, PD.o_max2, PD.o_min2, PD.o_ix_0, PD.o_ix_1, PD.o_ix_2, PD.o_ix_3, PD.it_t, PD.it_r, PD.enu_t, PD.zip_t, PD.o_tup0, PD.o_tup1, PD.o_tup2, PD.o_tup3, PD.o_tup4, PD.o_lst0, PD.o_lst1, PD.o_lst2, PD.o_lst3, PD.o_lst4, PD.g_push, PD.w_lnx, PD.w_lct, PD.w_lbk, PD.w_lrt, PD.w_lex, PD.w_lcn, PD.w_lcs, PD.o_eq_s, PD.o_ne_s, PD.o_eq_i, PD.o_ne_i, PD.w_gtp2, PD.w_gtp3, PD.w_gtp4, PD.rg_map, PD.o_lstR0, PD.o_tupR0, PD.o_not_f, PD.o_not_t, PD.o_dec_tt, PD.o_nn, PD.o_ne_b, PD.o_eq_b, PD.o_bne_tf, PD.o_bne_ff, b1, b2]
  have la : (L.push (.lst [.int (m * c0)])).len = L.len + 1 := rfl
  have lf : ((L.push (.lst [.int (m * c0)])).push (iL (room0 c0 m w))).len = L.len + 2 := rfl
  rw [la, lf]
  have ga : (((L.push (.lst [.int (m * c0)])).push (iL (room0 c0 m w))).push (.lst [])).get (L.len + 1) = some (iL (room0 c0 m w)) := g_push_old (by rw [← la]; exact g_push)
  have gf : (((L.push (.lst [.int (m * c0)])).push (iL (room0 c0 m w))).push (.lst [])).get (L.len + 2) = some (.lst []) := by rw [← lf]; exact g_push
  have d0 : Dr s c L (((L.push (.lst [.int (m * c0)])).push (iL (room0 c0 m w))).push (.lst [])) := (((Dr.refl hs).push _).push _).push _
  have hrl0 : (room0 c0 m w).length = w.length := List.length_replicate
  generalize (((L.push (.lst [.int (m * c0)])).push (iL (room0 c0 m w))).push (.lst [])) = L0 at *
  generalize hleft0 : room0 c0 m w = left0 at *
  have hK : ∀ (N : LH) n x, Dr s c L N → (n = L.len + 1 ∨ n = L.len + 2) → n < N.len → Dr s c L (N.put n x) := fun N n x d h hl => Dr.put hs d x (by omega) hl
  refine forW (fun p ρ N => ∃ (fs : List (Option Nat)) (o6 o7 o8 o9 o10 : Option D), ρ = [some (.ref s), some (yardD c0 w), some (.int m), some (rowD row), some (.ref (L.len + 1)), some (.ref (L.len + 2)), o6, o7, o8, o9, o10] ∧ GI (EG.E1 w) (Dr s c L) left0 (L.len + 1) (L.len + 2) p fs N) ⟨[], none, none, none, none, none, rfl, rfl, ga, gf, trivial, d0⟩ ?_ ?_
  · rintro p r q ρ N e ⟨fs, o6, o7, o8, o9, o10, rfl, g⟩
    have hrq := ft.r r (split_mem e)
    have hlen : ((fs.foldl dec1 left0)).length = w.length := by rw [decs_len, hrl0]
    have hz : p.length < 1000 := by
      have := congrArg List.length e
      rw [List.length_append, List.length_cons] at this
      have := ft.n
      omega
    have hN := g.k.src.lt
    have ga := g.ga
    have hNf := LH.get_lt g.gf
    generalize hlf : fs.foldl dec1 left0 = left at *
    try simp only [word_snoc, PD.w_ok, PD.w_exc, PD.w_ift, PD.w_iff, PD.w_c, PD.w_getK, PD.w_slt0, PD.w_slts, PD.w_set0, PD.w_sets, PD.w_wipe0, PD.w_wipes, PD.w_var, PD.w_1, PD.w_2, PD.w_nil, PD.w_cons, PD.w_app, PD.w_eif, PD.w_truK, PD.w_and, PD.w_or, PD.w_not, PD.w_call, PD.w_meth, PD.w_nonK, PD.w_make, PD.w_bm, PD.w_sl, PD.w_bNo, PD.w_intK, PD.w_bAt, PD.w_blK, PD.w_chn, PD.w_tb1, PD.w_lc, PD.w_turn, PD.w_yes, PD.w_tv, PD.w_tand, PD.w_tor, PD.w_tnot, PD.w_nm, PD.w_sub, PD.w_gnil, PD.w_gcons, PD.w_knx, PD.w_krt, PD.w_kbk, PD.w_kct, PD.w_kex, PD.w_seq, PD.w_next, PD.w_asg, PD.w_expr, PD.w_ret, PD.w_retN, PD.w_brk, PD.w_cnt, PD.w_if, PD.w_aug, PD.w_fset, PD.w_saug, PD.w_for, PD.w_while, PD.w_ie, PD.w_rt, PD.w_nx, PD.w_ex, PD.w_rg1, PD.w_rg2, PD.w_enu, PD.w_zip2, PD.w_zipT, PD.w_rgl1, PD.o_add_i, PD.o_sub_i, PD.o_lt_i, PD.o_le_i, PD.o_gt_i, PD.o_ge_i, PD.o_is_n, PD.o_is_b, PD.o_isnot_b, PD.o_isnot_n, PD.o_isn_non, PD.o_isn_int, PD.o_isn_tup, PD.o_neg_i, PD.o_tru_b, PD.o_int_i, PD.o_int_b, PD.o_len_t, PD.o_tup_t, PD.o_lst_t, PD.o_max2, PD.o_min2, PD.o_ix_0, PD.o_ix_1, PD.o_ix_2, PD.o_ix_3, PD.it_t, PD.it_r, PD.enu_t, PD.zip_t, PD.o_tup0, PD.o_tup1, PD.o_tup2, PD.o_tup3, PD.o_tup4, PD.o_lst0, PD.o_lst1, PD.o_lst2, PD.o_lst3, PD.o_lst4, PD.g_push, PD.w_lnx, PD.w_lct, PD.w_lbk, PD.w_lrt, PD.w_lex, PD.w_lcn, PD.w_lcs, PD.o_eq_s, PD.o_ne_s, PD.o_eq_i, PD.o_ne_i, PD.w_gtp2, PD.w_gtp3, PD.w_gtp4, PD.rg_map, PD.o_lstR0, PD.o_tupR0, PD.o_not_f, PD.o_not_t, PD.o_dec_tt, PD.o_nn, PD.o_ne_b, PD.o_eq_b, PD.o_bne_tf, PD.o_bne_ff]
    refine lcPure (fun h => if decide (0 < left.getD h 0) = true then some (nD h) else none) (sz_of (by have := hrq.len; omega)) (fun a ha => ?_) ?_
    · have hlt := hrq.2 a ha
      try simp only [word_snoc, PD.w_ok, PD.w_exc, PD.w_ift, PD.w_iff, PD.w_c, PD.w_getK, PD.w_slt0, PD.w_slts, PD.w_set0, PD.w_sets, PD.w_wipe0, PD.w_wipes, PD.w_var, PD.w_1, PD.w_2, PD.w_nil, PD.w_cons, PD.w_app, PD.w_eif, PD.w_truK, PD.w_and, PD.w_or, PD.w_not, PD.w_call, PD.w_meth, PD.w_nonK, PD.w_make, PD.w_bm, PD.w_sl, PD.w_bNo, PD.w_intK, PD.w_bAt, PD.w_blK, PD.w_chn, PD.w_tb1, PD.w_lc, PD.w_turn, PD.w_yes, PD.w_tv, PD.w_tand, PD.w_tor, PD.w_tnot, PD.w_nm, PD.w_sub, PD.w_gnil, PD.w_gcons, PD.w_knx, PD.w_krt, PD.w_kbk, PD.w_kct, PD.w_kex, PD.w_seq, PD.w_next, PD.w_asg, PD.w_expr, PD.w_ret, PD.w_retN, PD.w_brk, PD.w_cnt, PD.w_if, PD.w_aug, PD.w_fset, PD.w_saug, PD.w_for, PD.w_while, PD.w_ie, PD.w_rt, PD.w_nx, PD.w_ex, PD.w_rg1, PD.w_rg2, PD.w_enu, PD.w_zip2, PD.w_zipT, PD.w_rgl1, PD.o_add_i, PD.o_sub_i, PD.o_lt_i, PD.o_le_i, PD.o_gt_i, PD.o_ge_i, PD.o_is_n, PD.o_is_b, PD.o_isnot_b, PD.o_isnot_n, PD.o_isn_non, PD.o_isn_int, PD.o_isn_tup, PD.o_neg_i, PD.o_tru_b, PD.o_int_i, PD.o_int_b, PD.o_len_t, PD.o_tup_t, PD.o_lst_t, PD.o_max2, PD.o_min2, PD.o_ix_0, PD.o_ix_1, PD.o_ix_2, PD.o_ix_3, PD.it_t, PD.it_r, PD.enu_t, PD.zip_t, PD.o_tup0, PD.o_tup1, PD.o_tup2, PD.o_tup3, PD.o_tup4, PD.o_lst0, PD.o_lst1, PD.o_lst2, PD.o_lst3, PD.o_lst4, PD.g_push, PD.w_lnx, PD.w_lct, PD.w_lbk, PD.w_lrt, PD.w_lex, PD.w_lcn, PD.w_lcs, PD.o_eq_s, PD.o_ne_s, PD.o_eq_i, PD.o_ne_i, PD.w_gtp2, PD.w_gtp3, PD.w_gtp4, PD.rg_map, PD.o_lstR0, PD.o_tupR0, PD.o_not_f, PD.o_not_t, PD.o_dec_tt, PD.o_nn, PD.o_ne_b, PD.o_eq_b, PD.o_bne_tf, PD.o_bne_ff, ix_iL ga (show a < left.length by omega)]
      refine ifK_of (fun c1 => ?_) fun c1 => ?_
      · rw [if_pos c1]; exact ⟨rfl, trivial⟩
      · rw [if_neg (by rw [c1]; exact Bool.false_ne_true)]; exact ⟨rfl, trivial⟩
    · rw [fm_filter]
      have gs : (N.push (nL (rooms left r))).get N.len = some (nL (rooms left r)) := g_push
      have g1 : GI (EG.E1 w) (Dr s c L) left0 (L.len + 1) (L.len + 2) p fs (N.push (nL (rooms left r))) := g.gr (Gr.refl.push _) (g.k.push _)
      show W (itOf (.ref N.len) (N.push (nL (rooms left r)))) _ _
      generalize hN1 : (N.push (nL (rooms left r))) = N1 at *
      have hrl : (rooms left r).length ≤ 1000 := Nat.le_trans (List.length_filter_le ..) (by have := hrq.len; omega)
      have hrw : ∀ h ∈ rooms left r, h < w.length := fun h hh => hrq.2 h (rooms_sub hh).1
      simp only [word_snoc, PD.w_ok, PD.w_exc, PD.w_ift, PD.w_iff, PD.w_c, PD.w_getK, PD.w_slt0, PD.w_slts, PD.w_set0, PD.w_sets, PD.w_wipe0, PD.w_wipes, PD.w_var, PD.w_1, PD.w_2, PD.w_nil, PD.w_cons, PD.w_app, PD.w_eif, PD.w_truK, PD.w_and, PD.w_or, PD.w_not, PD.w_call, PD.w_meth, PD.w_nonK, PD.w_make, PD.w_bm, PD.w_sl, PD.w_bNo, PD.w_intK, PD.w_bAt, PD.w_blK, PD.w_chn, PD.w_tb1, PD.w_lc, PD.w_turn, PD.w_yes, PD.w_tv, PD.w_tand, PD.w_tor, PD.w_tnot, PD.w_nm, PD.w_sub, PD.w_gnil, PD.w_gcons, PD.w_knx, PD.w_krt, PD.w_kbk, PD.w_kct, PD.w_kex, PD.w_seq, PD.w_next, PD.w_asg, PD.w_expr, PD.w_ret, PD.w_retN, PD.w_brk, PD.w_cnt, PD.w_if, PD.w_aug, PD.w_fset, PD.w_saug, PD.w_for, PD.w_while, PD.w_ie, PD.w_rt, PD.w_nx, PD.w_ex, PD.w_rg1, PD.w_rg2, PD.w_enu, PD.w_zip2, PD.w_zipT, PD.w_rgl1, PD.o_add_i, PD.o_sub_i, PD.o_lt_i, PD.o_le_i, PD.o_gt_i, PD.o_ge_i, PD.o_is_n, PD.o_is_b, PD.o_isnot_b, PD.o_isnot_n, PD.o_isn_non, PD.o_isn_int, PD.o_isn_tup, PD.o_neg_i, PD.o_tru_b, PD.o_int_i, PD.o_int_b, PD.o_len_t, PD.o_tup_t, PD.o_lst_t, PD.o_max2, PD.o_min2, PD.o_ix_0, PD.o_ix_1, PD.o_ix_2, PD.o_ix_3, PD.it_t, PD.it_r, PD.enu_t, PD.zip_t, PD.o_tup0, PD.o_tup1, PD.o_tup2, PD.o_tup3, PD.o_tup4, PD.o_lst0, PD.o_lst1, PD.o_lst2, PD.o_lst3, PD.o_lst4, PD.g_push, PD.w_lnx, PD.w_lct, PD.w_lbk, PD.w_lrt, PD.w_lex, PD.w_lcn, PD.w_lcs, PD.o_eq_s, PD.o_ne_s, PD.o_eq_i, PD.o_ne_i, PD.w_gtp2, PD.w_gtp3, PD.w_gtp4, PD.rg_map, PD.o_lstR0, PD.o_tupR0, PD.o_not_f, PD.o_not_t, PD.o_dec_tt, PD.o_nn, PD.o_ne_b, PD.o_eq_b, PD.o_bne_tf, PD.o_bne_ff, it_l gs]
      refine lcGrowD (enc := nD) (l := rooms left r) (fun h => if decide (wOf w h = maxL ((rooms left r).map (wOf w))) = true then some (nD h) else none) (sz_of (by omega)) (by simp) gs (fun a ha M gM => ?_) ?_
      · have gs1 := gM.at0 gs
        simp only [word_snoc, PD.w_ok, PD.w_exc, PD.w_ift, PD.w_iff, PD.w_c, PD.w_getK, PD.w_slt0, PD.w_slts, PD.w_set0, PD.w_sets, PD.w_wipe0, PD.w_wipes, PD.w_var, PD.w_1, PD.w_2, PD.w_nil, PD.w_cons, PD.w_app, PD.w_eif, PD.w_truK, PD.w_and, PD.w_or, PD.w_not, PD.w_call, PD.w_meth, PD.w_nonK, PD.w_make, PD.w_bm, PD.w_sl, PD.w_bNo, PD.w_intK, PD.w_bAt, PD.w_blK, PD.w_chn, PD.w_tb1, PD.w_lc, PD.w_turn, PD.w_yes, PD.w_tv, PD.w_tand, PD.w_tor, PD.w_tnot, PD.w_nm, PD.w_sub, PD.w_gnil, PD.w_gcons, PD.w_knx, PD.w_krt, PD.w_kbk, PD.w_kct, PD.w_kex, PD.w_seq, PD.w_next, PD.w_asg, PD.w_expr, PD.w_ret, PD.w_retN, PD.w_brk, PD.w_cnt, PD.w_if, PD.w_aug, PD.w_fset, PD.w_saug, PD.w_for, PD.w_while, PD.w_ie, PD.w_rt, PD.w_nx, PD.w_ex, PD.w_rg1, PD.w_rg2, PD.w_enu, PD.w_zip2, PD.w_zipT, PD.w_rgl1, PD.o_add_i, PD.o_sub_i, PD.o_lt_i, PD.o_le_i, PD.o_gt_i, PD.o_ge_i, PD.o_is_n, PD.o_is_b, PD.o_isnot_b, PD.o_isnot_n, PD.o_isn_non, PD.o_isn_int, PD.o_isn_tup, PD.o_neg_i, PD.o_tru_b, PD.o_int_i, PD.o_int_b, PD.o_len_t, PD.o_tup_t, PD.o_lst_t, PD.o_max2, PD.o_min2, PD.o_ix_0, PD.o_ix_1, PD.o_ix_2, PD.o_ix_3, PD.it_t, PD.it_r, PD.enu_t, PD.zip_t, PD.o_tup0, PD.o_tup1, PD.o_tup2, PD.o_tup3, PD.o_tup4, PD.o_lst0, PD.o_lst1, PD.o_lst2, PD.o_lst3, PD.o_lst4, PD.g_push, PD.w_lnx, PD.w_lct, PD.w_lbk, PD.w_lrt, PD.w_lex, PD.w_lcn, PD.w_lcs, PD.o_eq_s, PD.o_ne_s, PD.o_eq_i, PD.o_ne_i, PD.w_gtp2, PD.w_gtp3, PD.w_gtp4, PD.rg_map, PD.o_lstR0, PD.o_tupR0, PD.o_not_f, PD.o_not_t, PD.o_dec_tt, PD.o_nn, PD.o_ne_b, PD.o_eq_b, PD.o_bne_tf, PD.o_bne_ff, ix_iT (hrw a ha), it_l gs1]
        refine lcPureD (enc := nD) (l := rooms left r) (fun h => some (.int (wOf w h))) (sz_of (by omega)) (by simp) gs1 (fun b hb => ?_) ?_
        · simp only [word_snoc, PD.w_ok, PD.w_exc, PD.w_ift, PD.w_iff, PD.w_c, PD.w_getK, PD.w_slt0, PD.w_slts, PD.w_set0, PD.w_sets, PD.w_wipe0, PD.w_wipes, PD.w_var, PD.w_1, PD.w_2, PD.w_nil, PD.w_cons, PD.w_app, PD.w_eif, PD.w_truK, PD.w_and, PD.w_or, PD.w_not, PD.w_call, PD.w_meth, PD.w_nonK, PD.w_make, PD.w_bm, PD.w_sl, PD.w_bNo, PD.w_intK, PD.w_bAt, PD.w_blK, PD.w_chn, PD.w_tb1, PD.w_lc, PD.w_turn, PD.w_yes, PD.w_tv, PD.w_tand, PD.w_tor, PD.w_tnot, PD.w_nm, PD.w_sub, PD.w_gnil, PD.w_gcons, PD.w_knx, PD.w_krt, PD.w_kbk, PD.w_kct, PD.w_kex, PD.w_seq, PD.w_next, PD.w_asg, PD.w_expr, PD.w_ret, PD.w_retN, PD.w_brk, PD.w_cnt, PD.w_if, PD.w_aug, PD.w_fset, PD.w_saug, PD.w_for, PD.w_while, PD.w_ie, PD.w_rt, PD.w_nx, PD.w_ex, PD.w_rg1, PD.w_rg2, PD.w_enu, PD.w_zip2, PD.w_zipT, PD.w_rgl1, PD.o_add_i, PD.o_sub_i, PD.o_lt_i, PD.o_le_i, PD.o_gt_i, PD.o_ge_i, PD.o_is_n, PD.o_is_b, PD.o_isnot_b, PD.o_isnot_n, PD.o_isn_non, PD.o_isn_int, PD.o_isn_tup, PD.o_neg_i, PD.o_tru_b, PD.o_int_i, PD.o_int_b, PD.o_len_t, PD.o_tup_t, PD.o_lst_t, PD.o_max2, PD.o_min2, PD.o_ix_0, PD.o_ix_1, PD.o_ix_2, PD.o_ix_3, PD.it_t, PD.it_r, PD.enu_t, PD.zip_t, PD.o_tup0, PD.o_tup1, PD.o_tup2, PD.o_tup3, PD.o_tup4, PD.o_lst0, PD.o_lst1, PD.o_lst2, PD.o_lst3, PD.o_lst4, PD.g_push, PD.w_lnx, PD.w_lct, PD.w_lbk, PD.w_lrt, PD.w_lex, PD.w_lcn, PD.w_lcs, PD.o_eq_s, PD.o_ne_s, PD.o_eq_i, PD.o_ne_i, PD.w_gtp2, PD.w_gtp3, PD.w_gtp4, PD.rg_map, PD.o_lstR0, PD.o_tupR0, PD.o_not_f, PD.o_not_t, PD.o_dec_tt, PD.o_nn, PD.o_ne_b, PD.o_eq_b, PD.o_bne_tf, PD.o_bne_ff, ix_iT (hrw b hb)]
          exact ⟨rfl, trivial⟩
        · rw [fm_some, map_wOf]
          have gm : (M.push (iL ((rooms left r).map (wOf w)))).get M.len = some (iL ((rooms left r).map (wOf w))) := g_push
          simp only [word_snoc, PD.w_ok, PD.w_exc, PD.w_ift, PD.w_iff, PD.w_c, PD.w_getK, PD.w_slt0, PD.w_slts, PD.w_set0, PD.w_sets, PD.w_wipe0, PD.w_wipes, PD.w_var, PD.w_1, PD.w_2, PD.w_nil, PD.w_cons, PD.w_app, PD.w_eif, PD.w_truK, PD.w_and, PD.w_or, PD.w_not, PD.w_call, PD.w_meth, PD.w_nonK, PD.w_make, PD.w_bm, PD.w_sl, PD.w_bNo, PD.w_intK, PD.w_bAt, PD.w_blK, PD.w_chn, PD.w_tb1, PD.w_lc, PD.w_turn, PD.w_yes, PD.w_tv, PD.w_tand, PD.w_tor, PD.w_tnot, PD.w_nm, PD.w_sub, PD.w_gnil, PD.w_gcons, PD.w_knx, PD.w_krt, PD.w_kbk, PD.w_kct, PD.w_kex, PD.w_seq, PD.w_next, PD.w_asg, PD.w_expr, PD.w_ret, PD.w_retN, PD.w_brk, PD.w_cnt, PD.w_if, PD.w_aug, PD.w_fset, PD.w_saug, PD.w_for, PD.w_while, PD.w_ie, PD.w_rt, PD.w_nx, PD.w_ex, PD.w_rg1, PD.w_rg2, PD.w_enu, PD.w_zip2, PD.w_zipT, PD.w_rgl1, PD.o_add_i, PD.o_sub_i, PD.o_lt_i, PD.o_le_i, PD.o_gt_i, PD.o_ge_i, PD.o_is_n, PD.o_is_b, PD.o_isnot_b, PD.o_isnot_n, PD.o_isn_non, PD.o_isn_int, PD.o_isn_tup, PD.o_neg_i, PD.o_tru_b, PD.o_int_i, PD.o_int_b, PD.o_len_t, PD.o_tup_t, PD.o_lst_t, PD.o_max2, PD.o_min2, PD.o_ix_0, PD.o_ix_1, PD.o_ix_2, PD.o_ix_3, PD.it_t, PD.it_r, PD.enu_t, PD.zip_t, PD.o_tup0, PD.o_tup1, PD.o_tup2, PD.o_tup3, PD.o_tup4, PD.o_lst0, PD.o_lst1, PD.o_lst2, PD.o_lst3, PD.o_lst4, PD.g_push, PD.w_lnx, PD.w_lct, PD.w_lbk, PD.w_lrt, PD.w_lex, PD.w_lcn, PD.w_lcs, PD.o_eq_s, PD.o_ne_s, PD.o_eq_i, PD.o_ne_i, PD.w_gtp2, PD.w_gtp3, PD.w_gtp4, PD.rg_map, PD.o_lstR0, PD.o_tupR0, PD.o_not_f, PD.o_not_t, PD.o_dec_tt, PD.o_nn, PD.o_ne_b, PD.o_eq_b, PD.o_bne_tf, PD.o_bne_ff, max_L gm (by intro z; rw [List.map_eq_nil_iff] at z; rw [z] at ha; cases ha)]
          refine ifK_of (fun c1 => ?_) fun c1 => ?_
          · exact ⟨(if_pos (show decide (wOf w a = _) = true from c1)).symm, Gr.refl.push _⟩
          · exact ⟨(if_neg (show ¬ decide (wOf w a = _) = true by unfold wOf at *; rw [c1]; exact Bool.false_ne_true)).symm, Gr.refl.push _⟩
      · intro N2 gN2
        rw [fm_filter]
        generalize hdear : (rooms left r).filter (fun h => decide (wOf w h = maxL ((rooms left r).map (wOf w)))) = dear at *
        have gd0 : (N2.push (nL dear)).get N2.len = some (nL dear) := g_push
        have g2 : GI (EG.E1 w) (Dr s c L) left0 (L.len + 1) (L.len + 2) p fs (N2.push (nL dear)) := g1.gr (gN2.push _) (g1.k.then (gN2.push _))
        have h2l := gN2.len
        have hN1f := LH.get_lt g1.gf
        have dsub : ∀ h ∈ dear, h ∈ rooms left r ∧ ∀ x ∈ rooms left r, wOf w x ≤ wOf w h := by
          intro h hh
          rw [← hdear, List.mem_filter, decide_eq_true_eq] at hh
          exact ⟨hh.1, fun x hx => by rw [hh.2]; exact maxL_ge (List.mem_map_of_mem hx)⟩
        have dnil : dear = [] → rooms left r = [] := by
          intro z
          by_cases q : rooms left r = []
          · exact q
          · have := maxL_mem (l := (rooms left r).map (wOf w)) (by simpa using q)
            obtain ⟨h, h1, h2⟩ := List.mem_map.mp this
            have : h ∈ dear := by rw [← hdear, List.mem_filter, decide_eq_true_eq]; exact ⟨h1, h2⟩
            rw [z] at this; cases this
        have dlen : dear.length ≤ 1000 := by rw [← hdear]; exact Nat.le_trans (List.length_filter_le ..) hrl
        simp only [word_snoc, PD.w_ok, PD.w_exc, PD.w_ift, PD.w_iff, PD.w_c, PD.w_getK, PD.w_slt0, PD.w_slts, PD.w_set0, PD.w_sets, PD.w_wipe0, PD.w_wipes, PD.w_var, PD.w_1, PD.w_2, PD.w_nil, PD.w_cons, PD.w_app, PD.w_eif, PD.w_truK, PD.w_and, PD.w_or, PD.w_not, PD.w_call, PD.w_meth, PD.w_nonK, PD.w_make, PD.w_bm, PD.w_sl, PD.w_bNo, PD.w_intK, PD.w_bAt, PD.w_blK, PD.w_chn, PD.w_tb1, PD.w_lc, PD.w_turn, PD.w_yes, PD.w_tv, PD.w_tand, PD.w_tor, PD.w_tnot, PD.w_nm, PD.w_sub, PD.w_gnil, PD.w_gcons, PD.w_knx, PD.w_krt, PD.w_kbk, PD.w_kct, PD.w_kex, PD.w_seq, PD.w_next, PD.w_asg, PD.w_expr, PD.w_ret, PD.w_retN, PD.w_brk, PD.w_cnt, PD.w_if, PD.w_aug, PD.w_fset, PD.w_saug, PD.w_for, PD.w_while, PD.w_ie, PD.w_rt, PD.w_nx, PD.w_ex, PD.w_rg1, PD.w_rg2, PD.w_enu, PD.w_zip2, PD.w_zipT, PD.w_rgl1, PD.o_add_i, PD.o_sub_i, PD.o_lt_i, PD.o_le_i, PD.o_gt_i, PD.o_ge_i, PD.o_is_n, PD.o_is_b, PD.o_isnot_b, PD.o_isnot_n, PD.o_isn_non, PD.o_isn_int, PD.o_isn_tup, PD.o_neg_i, PD.o_tru_b, PD.o_int_i, PD.o_int_b, PD.o_len_t, PD.o_tup_t, PD.o_lst_t, PD.o_max2, PD.o_min2, PD.o_ix_0, PD.o_ix_1, PD.o_ix_2, PD.o_ix_3, PD.it_t, PD.it_r, PD.enu_t, PD.zip_t, PD.o_tup0, PD.o_tup1, PD.o_tup2, PD.o_tup3, PD.o_tup4, PD.o_lst0, PD.o_lst1, PD.o_lst2, PD.o_lst3, PD.o_lst4, PD.g_push, PD.w_lnx, PD.w_lct, PD.w_lbk, PD.w_lrt, PD.w_lex, PD.w_lcn, PD.w_lcs, PD.o_eq_s, PD.o_ne_s, PD.o_eq_i, PD.o_ne_i, PD.w_gtp2, PD.w_gtp3, PD.w_gtp4, PD.rg_map, PD.o_lstR0, PD.o_tupR0, PD.o_not_f, PD.o_not_t, PD.o_dec_tt, PD.o_nn, PD.o_ne_b, PD.o_eq_b, PD.o_bne_tf, PD.o_bne_ff, ty_l g2.gf]
        have gd : ((N2.push (nL dear)).push (.lst [])).get N2.len = some (nL dear) := g_push_old gd0
        have ge : ((N2.push (nL dear)).push (.lst [])).get (N2.push (nL dear)).len = some (.lst []) := g_push
        have g3 : GI (EG.E1 w) (Dr s c L) left0 (L.len + 1) (L.len + 2) p fs ((N2.push (nL dear)).push (.lst [])) := g2.gr (Gr.refl.push _) (g2.k.push _)
        have k3 : N2.len < ((N2.push (nL dear)).push (.lst [])).len := LH.get_lt gd
        show W (oNe (.ref N2.len) (.ref (N2.push (nL dear)).len) ((N2.push (nL dear)).push (.lst []))) _ _
        generalize ((N2.push (nL dear)).push (.lst [])) = K at *
        rw [ne_nilN gd ge]
        try simp only [word_snoc, PD.w_ok, PD.w_exc, PD.w_ift, PD.w_iff, PD.w_c, PD.w_getK, PD.w_slt0, PD.w_slts, PD.w_set0, PD.w_sets, PD.w_wipe0, PD.w_wipes, PD.w_var, PD.w_1, PD.w_2, PD.w_nil, PD.w_cons, PD.w_app, PD.w_eif, PD.w_truK, PD.w_and, PD.w_or, PD.w_not, PD.w_call, PD.w_meth, PD.w_nonK, PD.w_make, PD.w_bm, PD.w_sl, PD.w_bNo, PD.w_intK, PD.w_bAt, PD.w_blK, PD.w_chn, PD.w_tb1, PD.w_lc, PD.w_turn, PD.w_yes, PD.w_tv, PD.w_tand, PD.w_tor, PD.w_tnot, PD.w_nm, PD.w_sub, PD.w_gnil, PD.w_gcons, PD.w_knx, PD.w_krt, PD.w_kbk, PD.w_kct, PD.w_kex, PD.w_seq, PD.w_next, PD.w_asg, PD.w_expr, PD.w_ret, PD.w_retN, PD.w_brk, PD.w_cnt, PD.w_if, PD.w_aug, PD.w_fset, PD.w_saug, PD.w_for, PD.w_while, PD.w_ie, PD.w_rt, PD.w_nx, PD.w_ex, PD.w_rg1, PD.w_rg2, PD.w_enu, PD.w_zip2, PD.w_zipT, PD.w_rgl1, PD.o_add_i, PD.o_sub_i, PD.o_lt_i, PD.o_le_i, PD.o_gt_i, PD.o_ge_i, PD.o_is_n, PD.o_is_b, PD.o_isnot_b, PD.o_isnot_n, PD.o_isn_non, PD.o_isn_int, PD.o_isn_tup, PD.o_neg_i, PD.o_tru_b, PD.o_int_i, PD.o_int_b, PD.o_len_t, PD.o_tup_t, PD.o_lst_t, PD.o_max2, PD.o_min2, PD.o_ix_0, PD.o_ix_1, PD.o_ix_2, PD.o_ix_3, PD.it_t, PD.it_r, PD.enu_t, PD.zip_t, PD.o_tup0, PD.o_tup1, PD.o_tup2, PD.o_tup3, PD.o_tup4, PD.o_lst0, PD.o_lst1, PD.o_lst2, PD.o_lst3, PD.o_lst4, PD.g_push, PD.w_lnx, PD.w_lct, PD.w_lbk, PD.w_lrt, PD.w_lex, PD.w_lcn, PD.w_lcs, PD.o_eq_s, PD.o_ne_s, PD.o_eq_i, PD.o_ne_i, PD.w_gtp2, PD.w_gtp3, PD.w_gtp4, PD.rg_map, PD.o_lstR0, PD.o_tupR0, PD.o_not_f, PD.o_not_t, PD.o_dec_tt, PD.o_nn, PD.o_ne_b, PD.o_eq_b, PD.o_bne_tf, PD.o_bne_ff]
        refine ifK_of (fun c1 => ?_) fun c1 => ?_
        · have hne : dear ≠ [] := by intro z; rw [z] at c1; cases c1
          refine W_use (OF s c N2.len K _ g3.k.src gd (by omega) (by omega) (by simpa using hne) (by rw [List.length_map]; omega)) fun d M2 hM => ?_
          obtain ⟨hd, d3, l3⟩ := hM
          obtain ⟨hh, hin, rfl⟩ := mem_nD hd
          have gM2 : GI (EG.E1 w) (Dr s c L) left0 (L.len + 1) (L.len + 2) p fs M2 := g3.keep (d3.gr.get _ (LH.get_lt g3.ga) (by simp; omega)) (d3.gr.get _ (LH.get_lt g3.gf) (by simp; omega)) (g3.k.trans d3)
          have gdM := d3.at gd (by omega) (by omega)
          obtain ⟨k1, k2⟩ := gM2.app (r := r) (o := some hh) hK (by omega) (by omega) (by rw [hlf]; exact dsub hh hin)
          have gd4 : (M2.put (L.len + 2) (.lst (fs.map giftD ++ [giftD (some hh)]))).get N2.len = some (nL dear) := by rw [g_put_ne (LH.get_lt gM2.gf) (by omega)]; exact gdM
          show W (mAppend (.ref (L.len + 2)) [giftD (some hh)] M2) _ _
          rw [k1]
          generalize (M2.put (L.len + 2) (.lst (fs.map giftD ++ [giftD (some hh)]))) = M3 at *
          have k3 := k2.gr (Gr.refl.push (.lst [])) (k2.k.push (.lst []))
          have e1 := ne_nilN (g_push_old (c := .lst []) gd4) (g_push (L := M3) (c := .lst []))
          obtain ⟨k4, M4, k5, k6⟩ := k3.some hK (by omega) (show hh < left0.length by rw [hrl0]; exact hrw _ (dsub hh hin).1)
          have e2 := ix_last k3.gf
          rw [hlf] at k4 k5
          simp only [word_snoc, PD.w_ok, PD.w_exc, PD.w_ift, PD.w_iff, PD.w_c, PD.w_getK, PD.w_slt0, PD.w_slts, PD.w_set0, PD.w_sets, PD.w_wipe0, PD.w_wipes, PD.w_var, PD.w_1, PD.w_2, PD.w_nil, PD.w_cons, PD.w_app, PD.w_eif, PD.w_truK, PD.w_and, PD.w_or, PD.w_not, PD.w_call, PD.w_meth, PD.w_nonK, PD.w_make, PD.w_bm, PD.w_sl, PD.w_bNo, PD.w_intK, PD.w_bAt, PD.w_blK, PD.w_chn, PD.w_tb1, PD.w_lc, PD.w_turn, PD.w_yes, PD.w_tv, PD.w_tand, PD.w_tor, PD.w_tnot, PD.w_nm, PD.w_sub, PD.w_gnil, PD.w_gcons, PD.w_knx, PD.w_krt, PD.w_kbk, PD.w_kct, PD.w_kex, PD.w_seq, PD.w_next, PD.w_asg, PD.w_expr, PD.w_ret, PD.w_retN, PD.w_brk, PD.w_cnt, PD.w_if, PD.w_aug, PD.w_fset, PD.w_saug, PD.w_for, PD.w_while, PD.w_ie, PD.w_rt, PD.w_nx, PD.w_ex, PD.w_rg1, PD.w_rg2, PD.w_enu, PD.w_zip2, PD.w_zipT, PD.w_rgl1, PD.o_add_i, PD.o_sub_i, PD.o_lt_i, PD.o_le_i, PD.o_gt_i, PD.o_ge_i, PD.o_is_n, PD.o_is_b, PD.o_isnot_b, PD.o_isnot_n, PD.o_isn_non, PD.o_isn_int, PD.o_isn_tup, PD.o_neg_i, PD.o_tru_b, PD.o_int_i, PD.o_int_b, PD.o_len_t, PD.o_tup_t, PD.o_lst_t, PD.o_max2, PD.o_min2, PD.o_ix_0, PD.o_ix_1, PD.o_ix_2, PD.o_ix_3, PD.it_t, PD.it_r, PD.enu_t, PD.zip_t, PD.o_tup0, PD.o_tup1, PD.o_tup2, PD.o_tup3, PD.o_tup4, PD.o_lst0, PD.o_lst1, PD.o_lst2, PD.o_lst3, PD.o_lst4, PD.g_push, PD.w_lnx, PD.w_lct, PD.w_lbk, PD.w_lrt, PD.w_lex, PD.w_lcn, PD.w_lcs, PD.o_eq_s, PD.o_ne_s, PD.o_eq_i, PD.o_ne_i, PD.w_gtp2, PD.w_gtp3, PD.w_gtp4, PD.rg_map, PD.o_lstR0, PD.o_tupR0, PD.o_not_f, PD.o_not_t, PD.o_dec_tt, PD.o_nn, PD.o_ne_b, PD.o_eq_b, PD.o_bne_tf, PD.o_bne_ff, e1, c1, e2, giftD, k4, k5]
          exact ⟨_, _, _, _, _, _, rfl, k6⟩
        · have hnil : dear = [] := by cases dear with
            | nil => rfl
            | cons => cases c1
          obtain ⟨k1, k2⟩ := g3.app (r := r) (o := none) hK (by omega) (by omega) (by rw [hlf]; exact dnil hnil)
          have gd4 : (K.put (L.len + 2) (.lst (fs.map giftD ++ [giftD none]))).get N2.len = some (nL dear) := by rw [g_put_ne (LH.get_lt g3.gf) (by omega)]; exact gd
          show W (mAppend (.ref (L.len + 2)) [giftD none] K) _ _
          rw [k1]
          generalize (K.put (L.len + 2) (.lst (fs.map giftD ++ [giftD none]))) = M3 at *
          have k3 := k2.gr (Gr.refl.push (.lst [])) (k2.k.push (.lst []))
          have e1 := ne_nilN (g_push_old (c := .lst []) gd4) (g_push (L := M3) (c := .lst []))
          simp only [word_snoc, PD.w_ok, PD.w_exc, PD.w_ift, PD.w_iff, PD.w_c, PD.w_getK, PD.w_slt0, PD.w_slts, PD.w_set0, PD.w_sets, PD.w_wipe0, PD.w_wipes, PD.w_var, PD.w_1, PD.w_2, PD.w_nil, PD.w_cons, PD.w_app, PD.w_eif, PD.w_truK, PD.w_and, PD.w_or, PD.w_not, PD.w_call, PD.w_meth, PD.w_nonK, PD.w_make, PD.w_bm, PD.w_sl, PD.w_bNo, PD.w_intK, PD.w_bAt, PD.w_blK, PD.w_chn, PD.w_tb1, PD.w_lc, PD.w_turn, PD.w_yes, PD.w_tv, PD.w_tand, PD.w_tor, PD.w_tnot, PD.w_nm, PD.w_sub, PD.w_gnil, PD.w_gcons, PD.w_knx, PD.w_krt, PD.w_kbk, PD.w_kct, PD.w_kex, PD.w_seq, PD.w_next, PD.w_asg, PD.w_expr, PD.w_ret, PD.w_retN, PD.w_brk, PD.w_cnt, PD.w_if, PD.w_aug, PD.w_fset, PD.w_saug, PD.w_for, PD.w_while, PD.w_ie, PD.w_rt, PD.w_nx, PD.w_ex, PD.w_rg1, PD.w_rg2, PD.w_enu, PD.w_zip2, PD.w_zipT, PD.w_rgl1, PD.o_add_i, PD.o_sub_i, PD.o_lt_i, PD.o_le_i, PD.o_gt_i, PD.o_ge_i, PD.o_is_n, PD.o_is_b, PD.o_isnot_b, PD.o_isnot_n, PD.o_isn_non, PD.o_isn_int, PD.o_isn_tup, PD.o_neg_i, PD.o_tru_b, PD.o_int_i, PD.o_int_b, PD.o_len_t, PD.o_tup_t, PD.o_lst_t, PD.o_max2, PD.o_min2, PD.o_ix_0, PD.o_ix_1, PD.o_ix_2, PD.o_ix_3, PD.it_t, PD.it_r, PD.enu_t, PD.zip_t, PD.o_tup0, PD.o_tup1, PD.o_tup2, PD.o_tup3, PD.o_tup4, PD.o_lst0, PD.o_lst1, PD.o_lst2, PD.o_lst3, PD.o_lst4, PD.g_push, PD.w_lnx, PD.w_lct, PD.w_lbk, PD.w_lrt, PD.w_lex, PD.w_lcn, PD.w_lcs, PD.o_eq_s, PD.o_ne_s, PD.o_eq_i, PD.o_ne_i, PD.w_gtp2, PD.w_gtp3, PD.w_gtp4, PD.rg_map, PD.o_lstR0, PD.o_tupR0, PD.o_not_f, PD.o_not_t, PD.o_dec_tt, PD.o_nn, PD.o_ne_b, PD.o_eq_b, PD.o_bne_tf, PD.o_bne_ff, e1, c1]
          exact ⟨_, _, _, _, _, _, rfl, k3.none⟩
  · rintro ρ N ⟨fs, o6, o7, o8, o9, o10, rfl, g⟩
    try simp only [word_snoc, PD.w_ok, PD.w_exc, PD.w_ift, PD.w_iff, PD.w_c, PD.w_getK, PD.w_slt0, PD.w_slts, PD.w_set0, PD.w_sets, PD.w_wipe0, PD.w_wipes, PD.w_var, PD.w_1, PD.w_2, PD.w_nil, PD.w_cons, PD.w_app, PD.w_eif, PD.w_truK, PD.w_and, PD.w_or, PD.w_not, PD.w_call, PD.w_meth, PD.w_nonK, PD.w_make, PD.w_bm, PD.w_sl, PD.w_bNo, PD.w_intK, PD.w_bAt, PD.w_blK, PD.w_chn, PD.w_tb1, PD.w_lc, PD.w_turn, PD.w_yes, PD.w_tv, PD.w_tand, PD.w_tor, PD.w_tnot, PD.w_nm, PD.w_sub, PD.w_gnil, PD.w_gcons, PD.w_knx, PD.w_krt, PD.w_kbk, PD.w_kct, PD.w_kex, PD.w_seq, PD.w_next, PD.w_asg, PD.w_expr, PD.w_ret, PD.w_retN, PD.w_brk, PD.w_cnt, PD.w_if, PD.w_aug, PD.w_fset, PD.w_saug, PD.w_for, PD.w_while, PD.w_ie, PD.w_rt, PD.w_nx, PD.w_ex, PD.w_rg1, PD.w_rg2, PD.w_enu, PD.w_zip2, PD.w_zipT, PD.w_rgl1, PD.o_add_i, PD.o_sub_i, PD.o_lt_i, PD.o_le_i, PD.o_gt_i, PD.o_ge_i, PD.o_is_n, PD.o_is_b, PD.o_isnot_b, PD.o_isnot_n, PD.o_isn_non, PD.o_isn_int, PD.o_isn_tup, PD.o_neg_i, PD.o_tru_b, PD.o_int_i, PD.o_int_b, PD.o_len_t, PD.o_tup_t, PD.o_lst_t, PD.o_max2, PD.o_min2, PD.o_ix_0, PD.o_ix_1, PD.o_ix_2, PD.o_ix_3, PD.it_t, PD.it_r, PD.enu_t, PD.zip_t, PD.o_tup0, PD.o_tup1, PD.o_tup2, PD.o_tup3, PD.o_tup4, PD.o_lst0, PD.o_lst1, PD.o_lst2, PD.o_lst3, PD.o_lst4, PD.g_push, PD.w_lnx, PD.w_lct, PD.w_lbk, PD.w_lrt, PD.w_lex, PD.w_lcn, PD.w_lcs, PD.o_eq_s, PD.o_ne_s, PD.o_eq_i, PD.o_ne_i, PD.w_gtp2, PD.w_gtp3, PD.w_gtp4, PD.rg_map, PD.o_lstR0, PD.o_tupR0, PD.o_not_f, PD.o_not_t, PD.o_dec_tt, PD.o_nn, PD.o_ne_b, PD.o_eq_b, PD.o_bne_tf, PD.o_bne_ff, o_tup_l g.gf]
    exact ⟨fs, rfl, g.len, g.ok, g.k⟩
end
end EG
/-! E5: the first giver, and the law's own. -/
namespace PD
open PySem
theorem o_setf {cs : List Nat} {f : Str} {n c : Nat} {fs : List (Str × D)} {v : D} {L : LH} (hg : L.get n = some (.ins c fs)) (hc : cs.contains c = true) (hl : fs.length < 1000) : oSetF cs f (.ref n) v L = .ok () (L.put n (.ins c (putFs f v fs))) := by
  unfold oSetF
  simp only [hg, hc, hl, decide_true, Bool.and_self, if_true]
end PD
namespace EG
open PySem PD
/-- the dearest, the first of equal ones -/
def B1 (w left : List Int) (r : List Nat) (g : Option Nat) : Prop := match g with
  | none => rooms left r = []
  | some h => h ∈ rooms left r ∧ ∀ x ∈ rooms left r, wOf w x ≤ wOf w h ∧ (wOf w x = wOf w h → h ≤ x)
theorem B1.e {w left : List Int} {r : List Nat} {g : Option Nat} (h : B1 w left r g) : EG.E1 w left r g := by
  cases g with
  | none => exact h
  | some a => exact ⟨h.1, fun x hx => (h.2 x hx).1⟩
theorem B1.uniq {w left : List Int} {r : List Nat} {g g' : Option Nat} (h : B1 w left r g) (h' : B1 w left r g') : g = g' := by
  cases g with
  | none =>
    cases g' with
    | none => rfl
    | some b => have := h'.1; rw [show rooms left r = [] from h] at this; cases this
  | some a =>
    cases g' with
    | none => have := h.1; rw [show rooms left r = [] from h'] at this; cases this
    | some b =>
      have q1 := h.2 b h'.1
      have q2 := h'.2 a h.1
      have : wOf w a = wOf w b := by omega
      have := q1.2 this.symm
      have := q2.2 (by assumption)
      rw [show a = b by omega]
theorem first_uniq {w : List Int} : ∀ {row : List (List Nat)} {left : List Int} {g g' : List (Option Nat)}, g.length = row.length → g'.length = row.length → AllS (B1 w) left (row.zip g) → AllS (B1 w) left (row.zip g') → g = g'
  | [], left, g, g', h, h', _, _ => by rw [List.eq_nil_of_length_eq_zero h, List.eq_nil_of_length_eq_zero h']
  | r :: row, left, [], _, h, _, _, _ => by cases h
  | r :: row, left, _ :: _, [], _, h, _, _ => by cases h
  | r :: row, left, a :: g, b :: g', h, h', k, k' => by
    have e := k.1.uniq k'.1
    subst e
    rw [first_uniq (Nat.succ.inj h) (Nat.succ.inj h') k.2 k'.2]
theorem allS_imp {P P' : List Int → List Nat → Option Nat → Prop} (hp : ∀ l r g, P l r g → P' l r g) : ∀ {l : List (List Nat × Option Nat)} {left : List Int}, AllS P left l → AllS P' left l
  | [], _, _ => trivial
  | (r, g) :: l, left, h => ⟨hp _ _ _ h.1, allS_imp hp h.2⟩
/-! the law's way: sorted -/
def pr (w : List Int) (h : Nat) : Int × Int := (0 - wOf w h, (h : Int))
theorem first_sorted {w left : List Int} {r : List Nat} {x : Int × Int} {t : List (Int × Int)} (h : isort leP ((rooms left r).map (pr w)) = x :: t) : ∃ a, x = pr w a ∧ B1 w left r (some a) := by
  have hs := isortP_sorted ((rooms left r).map (pr w))
  have hp := isort_perm leP ((rooms left r).map (pr w))
  rw [h] at hs hp
  obtain ⟨a, ha, e⟩ := List.mem_map.mp (hp.mem_iff.mp (List.mem_cons_self ..))
  refine ⟨a, e.symm, ha, fun y hy => ?_⟩
  have hm : pr w y ∈ x :: t := hp.mem_iff.mpr (List.mem_map_of_mem hy)
  rw [List.pairwise_cons] at hs
  rw [← e] at hs hm
  rcases List.mem_cons.mp hm with q | q
  · have e1 : (pr w y).1 = (pr w a).1 := by rw [q]
    have e2 : (pr w y).2 = (pr w a).2 := by rw [q]
    simp only [pr] at e1 e2
    exact ⟨by omega, fun _ => by omega⟩
  · have := hs.1 _ q
    simp only [pr] at this
    exact ⟨by omega, fun _ => by omega⟩
theorem sorted_nil {w left : List Int} {r : List Nat} (h : isort leP ((rooms left r).map (pr w)) = []) : rooms left r = [] := by
  have hp := (isort_perm leP ((rooms left r).map (pr w))).length_eq
  rw [h, List.length_map] at hp
  exact List.eq_nil_of_length_eq_zero hp.symm
def FirstOk (R : Rec) (i : Nat) : Prop := ∀ (L : LH) (c0 m : Int) (w : List Int) (row : List (List Nat)), Fit c0 m w row → W (R i [yardD c0 w, .int m, rowD row] L) (fun d M => ∃ g : List (Option Nat), d = giftsD g ∧ g.length = row.length ∧ AllS (B1 w) (room0 c0 m w) (row.zip g) ∧ Gr [] L M) nX
section
variable {F : Nat → Option Fn} {i : Nat}
theorem firstOk (h : F i = some law_first_fn) : From F 1 (FirstOk · i) := by
  intro n L c0 m w row ft
  rw [W_runN h rfl]
  unfold law_first_fn
  show WS _ _ [some (yardD c0 w), some (.int m), some (rowD row), none, none, none, none, none] L _ _
  generalize PD.runN F n = R at *
  have g0 : (L.push (.lst [.int (m * c0)])).get L.len = some (.lst [.int (m * c0)]) := g_push
  have z := ft.w2
  have c1 := ft.c1
  have c2 := ft.c2
  have m1 := ft.m1
  have m2 := ft.m2
  have b1 : oMul (.int m) (.int c0) L = .ok (.int (m * c0)) L := o_mul_i (.inl (by unfold big64; omega))
  have b2 : oMul (.ref L.len) (.int ((w.map D.int).length : Int)) (L.push (.lst [.int (m * c0)])) = .ok (.ref (L.push (.lst [.int (m * c0)])).len) ((L.push (.lst [.int (m * c0)])).push (iL (room0 c0 m w))) := by
    rw [mul_l1 g0 (sz_of (by rw [List.length_map]; omega)), map_rep, List.length_map]; rfl
  simp only [word_snoc, PD.w_ok, PD.w_exc, PD.w_ift, PD.w_iff, PD.w_c, PD.w_getK, PD.w_slt0, PD.w_slts, PD.w_set0, PD.w_sets, PD.w_wipe0, PD.w_wipes, PD.w_var, PD.w_1, PD.w_2, PD.w_nil, PD.w_cons, PD.w_app, PD.w_eif, PD.w_truK, PD.w_and, PD.w_or, PD.w_not, PD.w_call, PD.w_meth, PD.w_nonK, PD.w_make, PD.w_bm, PD.w_sl, PD.w_bNo, PD.w_intK, PD.w_bAt, PD.w_blK, PD.w_chn, PD.w_tb1, PD.w_lc, PD.w_turn, PD.w_yes, PD.w_tv, PD.w_tand, PD.w_tor, PD.w_tnot, PD.w_nm, PD.w_sub, PD.w_gnil, PD.w_gcons, PD.w_knx, PD.w_krt, PD.w_kbk, PD.w_kct, PD.w_kex, PD.w_seq, PD.w_next, PD.w_asg, PD.w_expr, PD.w_ret, PD.w_retN, PD.w_brk, PD.w_cnt, PD.w_if, PD.w_aug, PD.w_fset, PD.w_saug, PD.w_for, PD.w_while, PD.w_ie, PD.w_rt, PD.w_nx, PD.w_ex, PD.w_rg1, PD.w_rg2, PD.w_enu, PD.w_zip2, PD.w_zipT, PD.w_rgl1, PD.o_add_i, PD.o_sub_i, PD.o_lt_i, PD.o_le_i, PD.o_gt_i, PD.o_ge_i, PD.o_is_n, PD.o_is_b, PD.o_isnot_b, PD.o_isnot_n, PD.o_isn_non, PD.o_isn_int, PD.o_isn_tup, PD.o_neg_i, PD.o_tru_b, PD.o_int_i, PD.o_int_b, PD.o_len_t, PD.o_tup_t, PD.o_lst_t, PD.o_max2, PD.o_min2, PD.o_ix_0, PD.o_ix_1, PD.o_ix_2, PD.o_ix_3, PD.it_t, PD.it_r, PD.enu_t, PD.zip_t, PD.o_tup0, PD.o_tup1, PD.o_tup2, PD.o_tup3, PD.o_tup4, PD.o_lst0, PD.o_lst1, PD.o_lst2, PD.o_lst3, PD.o_lst4, PD.g_push, PD.w_lnx, PD.w_lct, PD.w_lbk, PD.w_lrt, PD.w_lex, PD.w_lcn, PD.w_lcs, PD.o_eq_s, PD.o_ne_s, PD.o_eq_i, PD.o_ne_i, PD.w_gtp2, PD.w_gtp3, PD.w_gtp4, PD.rg_map, PD.o_lstR0, PD.o_tupR0, PD.o_not_f, PD.o_not_t, PD.o_dec_tt, PD.o_nn, PD.o_ne_b, PD.o_eq_b, PD.o_bne_tf, PD.o_bne_ff, b1, b2]
  have la : (L.push (.lst [.int (m * c0)])).len = L.len + 1 := rfl
  have lf : ((L.push (.lst [.int (m * c0)])).push (iL (room0 c0 m w))).len = L.len + 2 := rfl
  rw [la, lf]
  have ga : (((L.push (.lst [.int (m * c0)])).push (iL (room0 c0 m w))).push (.lst [])).get (L.len + 1) = some (iL (room0 c0 m w)) := g_push_old (by rw [← la]; exact g_push)
  have gf : (((L.push (.lst [.int (m * c0)])).push (iL (room0 c0 m w))).push (.lst [])).get (L.len + 2) = some (.lst []) := by rw [← lf]; exact g_push
  have d0 : Gr [] L (((L.push (.lst [.int (m * c0)])).push (iL (room0 c0 m w))).push (.lst [])) := ((Gr.refl.push _).push _).push _
  have hrl0 : (room0 c0 m w).length = w.length := List.length_replicate
  generalize (((L.push (.lst [.int (m * c0)])).push (iL (room0 c0 m w))).push (.lst [])) = L0 at *
  generalize hleft0 : room0 c0 m w = left0 at *
  have hK : ∀ (N : LH) n x, Gr [] L N → (n = L.len + 1 ∨ n = L.len + 2) → n < N.len → Gr [] L (N.put n x) := fun N n x d h hl => d.put x (.inl (by omega)) hl
  refine forW (fun p ρ N => ∃ (fs : List (Option Nat)) (o5 o6 o7 : Option D), ρ = [some (yardD c0 w), some (.int m), some (rowD row), some (.ref (L.len + 1)), some (.ref (L.len + 2)), o5, o6, o7] ∧ GI (B1 w) (Gr [] L) left0 (L.len + 1) (L.len + 2) p fs N) ⟨[], none, none, none, rfl, rfl, ga, gf, trivial, d0⟩ ?_ ?_
  · rintro p r q ρ N e ⟨fs, o5, o6, o7, rfl, g⟩
    have hrq := ft.r r (split_mem e)
    have hlen : ((fs.foldl dec1 left0)).length = w.length := by rw [decs_len, hrl0]
    have hz : p.length < 1000 := by
      have := congrArg List.length e
      rw [List.length_append, List.length_cons] at this
      have := ft.n
      omega
    have ga := g.ga
    have hNf := LH.get_lt g.gf
    generalize hlf : fs.foldl dec1 left0 = left at *
    try simp only [word_snoc, PD.w_ok, PD.w_exc, PD.w_ift, PD.w_iff, PD.w_c, PD.w_getK, PD.w_slt0, PD.w_slts, PD.w_set0, PD.w_sets, PD.w_wipe0, PD.w_wipes, PD.w_var, PD.w_1, PD.w_2, PD.w_nil, PD.w_cons, PD.w_app, PD.w_eif, PD.w_truK, PD.w_and, PD.w_or, PD.w_not, PD.w_call, PD.w_meth, PD.w_nonK, PD.w_make, PD.w_bm, PD.w_sl, PD.w_bNo, PD.w_intK, PD.w_bAt, PD.w_blK, PD.w_chn, PD.w_tb1, PD.w_lc, PD.w_turn, PD.w_yes, PD.w_tv, PD.w_tand, PD.w_tor, PD.w_tnot, PD.w_nm, PD.w_sub, PD.w_gnil, PD.w_gcons, PD.w_knx, PD.w_krt, PD.w_kbk, PD.w_kct, PD.w_kex, PD.w_seq, PD.w_next, PD.w_asg, PD.w_expr, PD.w_ret, PD.w_retN, PD.w_brk, PD.w_cnt, PD.w_if, PD.w_aug, PD.w_fset, PD.w_saug, PD.w_for, PD.w_while, PD.w_ie, PD.w_rt, PD.w_nx, PD.w_ex, PD.w_rg1, PD.w_rg2, PD.w_enu, PD.w_zip2, PD.w_zipT, PD.w_rgl1, PD.o_add_i, PD.o_sub_i, PD.o_lt_i, PD.o_le_i, PD.o_gt_i, PD.o_ge_i, PD.o_is_n, PD.o_is_b, PD.o_isnot_b, PD.o_isnot_n, PD.o_isn_non, PD.o_isn_int, PD.o_isn_tup, PD.o_neg_i, PD.o_tru_b, PD.o_int_i, PD.o_int_b, PD.o_len_t, PD.o_tup_t, PD.o_lst_t, PD.o_max2, PD.o_min2, PD.o_ix_0, PD.o_ix_1, PD.o_ix_2, PD.o_ix_3, PD.it_t, PD.it_r, PD.enu_t, PD.zip_t, PD.o_tup0, PD.o_tup1, PD.o_tup2, PD.o_tup3, PD.o_tup4, PD.o_lst0, PD.o_lst1, PD.o_lst2, PD.o_lst3, PD.o_lst4, PD.g_push, PD.w_lnx, PD.w_lct, PD.w_lbk, PD.w_lrt, PD.w_lex, PD.w_lcn, PD.w_lcs, PD.o_eq_s, PD.o_ne_s, PD.o_eq_i, PD.o_ne_i, PD.w_gtp2, PD.w_gtp3, PD.w_gtp4, PD.rg_map, PD.o_lstR0, PD.o_tupR0, PD.o_not_f, PD.o_not_t, PD.o_dec_tt, PD.o_nn, PD.o_ne_b, PD.o_eq_b, PD.o_bne_tf, PD.o_bne_ff]
    refine lcPure (fun h => if decide (0 < left.getD h 0) = true then some (ppD (pr w h)) else none) (sz_of (by have := hrq.len; omega)) (fun a ha => ?_) ?_
    · have hlt := hrq.2 a ha
      try simp only [word_snoc, PD.w_ok, PD.w_exc, PD.w_ift, PD.w_iff, PD.w_c, PD.w_getK, PD.w_slt0, PD.w_slts, PD.w_set0, PD.w_sets, PD.w_wipe0, PD.w_wipes, PD.w_var, PD.w_1, PD.w_2, PD.w_nil, PD.w_cons, PD.w_app, PD.w_eif, PD.w_truK, PD.w_and, PD.w_or, PD.w_not, PD.w_call, PD.w_meth, PD.w_nonK, PD.w_make, PD.w_bm, PD.w_sl, PD.w_bNo, PD.w_intK, PD.w_bAt, PD.w_blK, PD.w_chn, PD.w_tb1, PD.w_lc, PD.w_turn, PD.w_yes, PD.w_tv, PD.w_tand, PD.w_tor, PD.w_tnot, PD.w_nm, PD.w_sub, PD.w_gnil, PD.w_gcons, PD.w_knx, PD.w_krt, PD.w_kbk, PD.w_kct, PD.w_kex, PD.w_seq, PD.w_next, PD.w_asg, PD.w_expr, PD.w_ret, PD.w_retN, PD.w_brk, PD.w_cnt, PD.w_if, PD.w_aug, PD.w_fset, PD.w_saug, PD.w_for, PD.w_while, PD.w_ie, PD.w_rt, PD.w_nx, PD.w_ex, PD.w_rg1, PD.w_rg2, PD.w_enu, PD.w_zip2, PD.w_zipT, PD.w_rgl1, PD.o_add_i, PD.o_sub_i, PD.o_lt_i, PD.o_le_i, PD.o_gt_i, PD.o_ge_i, PD.o_is_n, PD.o_is_b, PD.o_isnot_b, PD.o_isnot_n, PD.o_isn_non, PD.o_isn_int, PD.o_isn_tup, PD.o_neg_i, PD.o_tru_b, PD.o_int_i, PD.o_int_b, PD.o_len_t, PD.o_tup_t, PD.o_lst_t, PD.o_max2, PD.o_min2, PD.o_ix_0, PD.o_ix_1, PD.o_ix_2, PD.o_ix_3, PD.it_t, PD.it_r, PD.enu_t, PD.zip_t, PD.o_tup0, PD.o_tup1, PD.o_tup2, PD.o_tup3, PD.o_tup4, PD.o_lst0, PD.o_lst1, PD.o_lst2, PD.o_lst3, PD.o_lst4, PD.g_push, PD.w_lnx, PD.w_lct, PD.w_lbk, PD.w_lrt, PD.w_lex, PD.w_lcn, PD.w_lcs, PD.o_eq_s, PD.o_ne_s, PD.o_eq_i, PD.o_ne_i, PD.w_gtp2, PD.w_gtp3, PD.w_gtp4, PD.rg_map, PD.o_lstR0, PD.o_tupR0, PD.o_not_f, PD.o_not_t, PD.o_dec_tt, PD.o_nn, PD.o_ne_b, PD.o_eq_b, PD.o_bne_tf, PD.o_bne_ff, ix_iL ga (show a < left.length by omega), ix_iT hlt]
      refine ifK_of (fun c1 => ?_) fun c1 => ?_
      · rw [if_pos c1]; exact ⟨rfl, trivial⟩
      · rw [if_neg (by rw [c1]; exact Bool.false_ne_true)]; exact ⟨rfl, trivial⟩
    · rw [fm_filter (g := fun h => ppD (pr w h))]
      have hrl : (rooms left r).length ≤ 1000 := Nat.le_trans (List.length_filter_le ..) (by have := hrq.len; omega)
      have ex : (r.filter fun h => decide (0 < left.getD h 0)).map (fun h => ppD (pr w h)) = ((rooms left r).map (pr w)).map ppD := by rw [List.map_map]; rfl
      rw [ex]
      have gs : (N.push (.lst (((rooms left r).map (pr w)).map ppD))).get N.len = some (.lst (((rooms left r).map (pr w)).map ppD)) := g_push
      have g1 : GI (B1 w) (Gr [] L) left0 (L.len + 1) (L.len + 2) p fs (N.push (.lst (((rooms left r).map (pr w)).map ppD))) := g.gr (Gr.refl.push _) (g.k.push _)
      simp only [word_snoc, PD.w_ok, PD.w_exc, PD.w_ift, PD.w_iff, PD.w_c, PD.w_getK, PD.w_slt0, PD.w_slts, PD.w_set0, PD.w_sets, PD.w_wipe0, PD.w_wipes, PD.w_var, PD.w_1, PD.w_2, PD.w_nil, PD.w_cons, PD.w_app, PD.w_eif, PD.w_truK, PD.w_and, PD.w_or, PD.w_not, PD.w_call, PD.w_meth, PD.w_nonK, PD.w_make, PD.w_bm, PD.w_sl, PD.w_bNo, PD.w_intK, PD.w_bAt, PD.w_blK, PD.w_chn, PD.w_tb1, PD.w_lc, PD.w_turn, PD.w_yes, PD.w_tv, PD.w_tand, PD.w_tor, PD.w_tnot, PD.w_nm, PD.w_sub, PD.w_gnil, PD.w_gcons, PD.w_knx, PD.w_krt, PD.w_kbk, PD.w_kct, PD.w_kex, PD.w_seq, PD.w_next, PD.w_asg, PD.w_expr, PD.w_ret, PD.w_retN, PD.w_brk, PD.w_cnt, PD.w_if, PD.w_aug, PD.w_fset, PD.w_saug, PD.w_for, PD.w_while, PD.w_ie, PD.w_rt, PD.w_nx, PD.w_ex, PD.w_rg1, PD.w_rg2, PD.w_enu, PD.w_zip2, PD.w_zipT, PD.w_rgl1, PD.o_add_i, PD.o_sub_i, PD.o_lt_i, PD.o_le_i, PD.o_gt_i, PD.o_ge_i, PD.o_is_n, PD.o_is_b, PD.o_isnot_b, PD.o_isnot_n, PD.o_isn_non, PD.o_isn_int, PD.o_isn_tup, PD.o_neg_i, PD.o_tru_b, PD.o_int_i, PD.o_int_b, PD.o_len_t, PD.o_tup_t, PD.o_lst_t, PD.o_max2, PD.o_min2, PD.o_ix_0, PD.o_ix_1, PD.o_ix_2, PD.o_ix_3, PD.it_t, PD.it_r, PD.enu_t, PD.zip_t, PD.o_tup0, PD.o_tup1, PD.o_tup2, PD.o_tup3, PD.o_tup4, PD.o_lst0, PD.o_lst1, PD.o_lst2, PD.o_lst3, PD.o_lst4, PD.g_push, PD.w_lnx, PD.w_lct, PD.w_lbk, PD.w_lrt, PD.w_lex, PD.w_lcn, PD.w_lcs, PD.o_eq_s, PD.o_ne_s, PD.o_eq_i, PD.o_ne_i, PD.w_gtp2, PD.w_gtp3, PD.w_gtp4, PD.rg_map, PD.o_lstR0, PD.o_tupR0, PD.o_not_f, PD.o_not_t, PD.o_dec_tt, PD.o_nn, PD.o_ne_b, PD.o_eq_b, PD.o_bne_tf, PD.o_bne_ff, sorted_pairs gs (by rw [List.length_map]; exact sz_of (by omega))]
      generalize (N.push (.lst (((rooms left r).map (pr w)).map ppD))) = N1 at *
      generalize hso : isort leP ((rooms left r).map (pr w)) = so at *
      have gs2 : (N1.push (.lst (so.map ppD))).get N1.len = some (.lst (so.map ppD)) := g_push
      have g2 : GI (B1 w) (Gr [] L) left0 (L.len + 1) (L.len + 2) p fs (N1.push (.lst (so.map ppD))) := g1.gr (Gr.refl.push _) (g1.k.push _)
      have hf1 := LH.get_lt g1.gf
      simp only [word_snoc, PD.w_ok, PD.w_exc, PD.w_ift, PD.w_iff, PD.w_c, PD.w_getK, PD.w_slt0, PD.w_slts, PD.w_set0, PD.w_sets, PD.w_wipe0, PD.w_wipes, PD.w_var, PD.w_1, PD.w_2, PD.w_nil, PD.w_cons, PD.w_app, PD.w_eif, PD.w_truK, PD.w_and, PD.w_or, PD.w_not, PD.w_call, PD.w_meth, PD.w_nonK, PD.w_make, PD.w_bm, PD.w_sl, PD.w_bNo, PD.w_intK, PD.w_bAt, PD.w_blK, PD.w_chn, PD.w_tb1, PD.w_lc, PD.w_turn, PD.w_yes, PD.w_tv, PD.w_tand, PD.w_tor, PD.w_tnot, PD.w_nm, PD.w_sub, PD.w_gnil, PD.w_gcons, PD.w_knx, PD.w_krt, PD.w_kbk, PD.w_kct, PD.w_kex, PD.w_seq, PD.w_next, PD.w_asg, PD.w_expr, PD.w_ret, PD.w_retN, PD.w_brk, PD.w_cnt, PD.w_if, PD.w_aug, PD.w_fset, PD.w_saug, PD.w_for, PD.w_while, PD.w_ie, PD.w_rt, PD.w_nx, PD.w_ex, PD.w_rg1, PD.w_rg2, PD.w_enu, PD.w_zip2, PD.w_zipT, PD.w_rgl1, PD.o_add_i, PD.o_sub_i, PD.o_lt_i, PD.o_le_i, PD.o_gt_i, PD.o_ge_i, PD.o_is_n, PD.o_is_b, PD.o_isnot_b, PD.o_isnot_n, PD.o_isn_non, PD.o_isn_int, PD.o_isn_tup, PD.o_neg_i, PD.o_tru_b, PD.o_int_i, PD.o_int_b, PD.o_len_t, PD.o_tup_t, PD.o_lst_t, PD.o_max2, PD.o_min2, PD.o_ix_0, PD.o_ix_1, PD.o_ix_2, PD.o_ix_3, PD.it_t, PD.it_r, PD.enu_t, PD.zip_t, PD.o_tup0, PD.o_tup1, PD.o_tup2, PD.o_tup3, PD.o_tup4, PD.o_lst0, PD.o_lst1, PD.o_lst2, PD.o_lst3, PD.o_lst4, PD.g_push, PD.w_lnx, PD.w_lct, PD.w_lbk, PD.w_lrt, PD.w_lex, PD.w_lcn, PD.w_lcs, PD.o_eq_s, PD.o_ne_s, PD.o_eq_i, PD.o_ne_i, PD.w_gtp2, PD.w_gtp3, PD.w_gtp4, PD.rg_map, PD.o_lstR0, PD.o_tupR0, PD.o_not_f, PD.o_not_t, PD.o_dec_tt, PD.o_nn, PD.o_ne_b, PD.o_eq_b, PD.o_bne_tf, PD.o_bne_ff, ty_l g2.gf]
      have gd : ((N1.push (.lst (so.map ppD))).push (.lst [])).get N1.len = some (.lst (so.map ppD)) := g_push_old gs2
      have ge : ((N1.push (.lst (so.map ppD))).push (.lst [])).get (N1.push (.lst (so.map ppD))).len = some (.lst []) := g_push
      have g3 : GI (B1 w) (Gr [] L) left0 (L.len + 1) (L.len + 2) p fs ((N1.push (.lst (so.map ppD))).push (.lst [])) := g2.gr (Gr.refl.push _) (g2.k.push _)
      show W (oNe (.ref N1.len) (.ref (N1.push (.lst (so.map ppD))).len) ((N1.push (.lst (so.map ppD))).push (.lst []))) _ _
      generalize ((N1.push (.lst (so.map ppD))).push (.lst [])) = K at *
      rw [ne_nilP gd ge]
      try simp only [word_snoc, PD.w_ok, PD.w_exc, PD.w_ift, PD.w_iff, PD.w_c, PD.w_getK, PD.w_slt0, PD.w_slts, PD.w_set0, PD.w_sets, PD.w_wipe0, PD.w_wipes, PD.w_var, PD.w_1, PD.w_2, PD.w_nil, PD.w_cons, PD.w_app, PD.w_eif, PD.w_truK, PD.w_and, PD.w_or, PD.w_not, PD.w_call, PD.w_meth, PD.w_nonK, PD.w_make, PD.w_bm, PD.w_sl, PD.w_bNo, PD.w_intK, PD.w_bAt, PD.w_blK, PD.w_chn, PD.w_tb1, PD.w_lc, PD.w_turn, PD.w_yes, PD.w_tv, PD.w_tand, PD.w_tor, PD.w_tnot, PD.w_nm, PD.w_sub, PD.w_gnil, PD.w_gcons, PD.w_knx, PD.w_krt, PD.w_kbk, PD.w_kct, PD.w_kex, PD.w_seq, PD.w_next, PD.w_asg, PD.w_expr, PD.w_ret, PD.w_retN, PD.w_brk, PD.w_cnt, PD.w_if, PD.w_aug, PD.w_fset, PD.w_saug, PD.w_for, PD.w_while, PD.w_ie, PD.w_rt, PD.w_nx, PD.w_ex, PD.w_rg1, PD.w_rg2, PD.w_enu, PD.w_zip2, PD.w_zipT, PD.w_rgl1, PD.o_add_i, PD.o_sub_i, PD.o_lt_i, PD.o_le_i, PD.o_gt_i, PD.o_ge_i, PD.o_is_n, PD.o_is_b, PD.o_isnot_b, PD.o_isnot_n, PD.o_isn_non, PD.o_isn_int, PD.o_isn_tup, PD.o_neg_i, PD.o_tru_b, PD.o_int_i, PD.o_int_b, PD.o_len_t, PD.o_tup_t, PD.o_lst_t, PD.o_max2, PD.o_min2, PD.o_ix_0, PD.o_ix_1, PD.o_ix_2, PD.o_ix_3, PD.it_t, PD.it_r, PD.enu_t, PD.zip_t, PD.o_tup0, PD.o_tup1, PD.o_tup2, PD.o_tup3, PD.o_tup4, PD.o_lst0, PD.o_lst1, PD.o_lst2, PD.o_lst3, PD.o_lst4, PD.g_push, PD.w_lnx, PD.w_lct, PD.w_lbk, PD.w_lrt, PD.w_lex, PD.w_lcn, PD.w_lcs, PD.o_eq_s, PD.o_ne_s, PD.o_eq_i, PD.o_ne_i, PD.w_gtp2, PD.w_gtp3, PD.w_gtp4, PD.rg_map, PD.o_lstR0, PD.o_tupR0, PD.o_not_f, PD.o_not_t, PD.o_dec_tt, PD.o_nn, PD.o_ne_b, PD.o_eq_b, PD.o_bne_tf, PD.o_bne_ff]
      refine ifK_of (fun c1 => ?_) fun c1 => ?_
      · obtain ⟨x, t, rfl⟩ : ∃ x t, so = x :: t := by cases so with
          | nil => cases c1
          | cons x t => exact ⟨x, t, rfl⟩
        obtain ⟨a, rfl, hB⟩ := first_sorted hso
        have haw : a < w.length := hrq.2 _ (rooms_sub hB.1).1
        obtain ⟨k1, k2⟩ := g3.app (r := r) (o := some a) hK (by omega) (by omega) (by rw [hlf]; exact hB)
        have e0 : oIx (.ref N1.len) (.int 0) K = .ok (ppD (pr w a)) K := o_ix_l (n := 0) gd rfl
        have e01 : ∀ H, oIx (ppD (pr w a)) (.int 1) H = .ok (nD a) H := fun H => o_ix_1
        simp only [word_snoc, PD.w_ok, PD.w_exc, PD.w_ift, PD.w_iff, PD.w_c, PD.w_getK, PD.w_slt0, PD.w_slts, PD.w_set0, PD.w_sets, PD.w_wipe0, PD.w_wipes, PD.w_var, PD.w_1, PD.w_2, PD.w_nil, PD.w_cons, PD.w_app, PD.w_eif, PD.w_truK, PD.w_and, PD.w_or, PD.w_not, PD.w_call, PD.w_meth, PD.w_nonK, PD.w_make, PD.w_bm, PD.w_sl, PD.w_bNo, PD.w_intK, PD.w_bAt, PD.w_blK, PD.w_chn, PD.w_tb1, PD.w_lc, PD.w_turn, PD.w_yes, PD.w_tv, PD.w_tand, PD.w_tor, PD.w_tnot, PD.w_nm, PD.w_sub, PD.w_gnil, PD.w_gcons, PD.w_knx, PD.w_krt, PD.w_kbk, PD.w_kct, PD.w_kex, PD.w_seq, PD.w_next, PD.w_asg, PD.w_expr, PD.w_ret, PD.w_retN, PD.w_brk, PD.w_cnt, PD.w_if, PD.w_aug, PD.w_fset, PD.w_saug, PD.w_for, PD.w_while, PD.w_ie, PD.w_rt, PD.w_nx, PD.w_ex, PD.w_rg1, PD.w_rg2, PD.w_enu, PD.w_zip2, PD.w_zipT, PD.w_rgl1, PD.o_add_i, PD.o_sub_i, PD.o_lt_i, PD.o_le_i, PD.o_gt_i, PD.o_ge_i, PD.o_is_n, PD.o_is_b, PD.o_isnot_b, PD.o_isnot_n, PD.o_isn_non, PD.o_isn_int, PD.o_isn_tup, PD.o_neg_i, PD.o_tru_b, PD.o_int_i, PD.o_int_b, PD.o_len_t, PD.o_tup_t, PD.o_lst_t, PD.o_max2, PD.o_min2, PD.o_ix_0, PD.o_ix_1, PD.o_ix_2, PD.o_ix_3, PD.it_t, PD.it_r, PD.enu_t, PD.zip_t, PD.o_tup0, PD.o_tup1, PD.o_tup2, PD.o_tup3, PD.o_tup4, PD.o_lst0, PD.o_lst1, PD.o_lst2, PD.o_lst3, PD.o_lst4, PD.g_push, PD.w_lnx, PD.w_lct, PD.w_lbk, PD.w_lrt, PD.w_lex, PD.w_lcn, PD.w_lcs, PD.o_eq_s, PD.o_ne_s, PD.o_eq_i, PD.o_ne_i, PD.w_gtp2, PD.w_gtp3, PD.w_gtp4, PD.rg_map, PD.o_lstR0, PD.o_tupR0, PD.o_not_f, PD.o_not_t, PD.o_dec_tt, PD.o_nn, PD.o_ne_b, PD.o_eq_b, PD.o_bne_tf, PD.o_bne_ff, e0, e01]
        have gd4 : (K.put (L.len + 2) (.lst (fs.map giftD ++ [giftD (some a)]))).get N1.len = some (.lst ((pr w a :: t).map ppD)) := by rw [g_put_ne (LH.get_lt g3.gf) (by omega)]; exact gd
        show W (mAppend (.ref (L.len + 2)) [giftD (some a)] K) _ _
        rw [k1]
        generalize (K.put (L.len + 2) (.lst (fs.map giftD ++ [giftD (some a)]))) = M3 at *
        have k3 := k2.gr (Gr.refl.push (.lst [])) (k2.k.push (.lst []))
        have gd5 := g_push_old (c := .lst []) gd4
        have e1 := ne_nilP gd5 (g_push (L := M3) (c := .lst []))
        obtain ⟨k4, M4, k5, k6⟩ := k3.some hK (by omega) (show a < left0.length by omega)
        have e2 : oIx (.ref N1.len) (.int 0) (M3.push (.lst [])) = .ok (ppD (pr w a)) (M3.push (.lst [])) := o_ix_l (n := 0) gd5 rfl
        rw [hlf] at k4 k5
        simp only [word_snoc, PD.w_ok, PD.w_exc, PD.w_ift, PD.w_iff, PD.w_c, PD.w_getK, PD.w_slt0, PD.w_slts, PD.w_set0, PD.w_sets, PD.w_wipe0, PD.w_wipes, PD.w_var, PD.w_1, PD.w_2, PD.w_nil, PD.w_cons, PD.w_app, PD.w_eif, PD.w_truK, PD.w_and, PD.w_or, PD.w_not, PD.w_call, PD.w_meth, PD.w_nonK, PD.w_make, PD.w_bm, PD.w_sl, PD.w_bNo, PD.w_intK, PD.w_bAt, PD.w_blK, PD.w_chn, PD.w_tb1, PD.w_lc, PD.w_turn, PD.w_yes, PD.w_tv, PD.w_tand, PD.w_tor, PD.w_tnot, PD.w_nm, PD.w_sub, PD.w_gnil, PD.w_gcons, PD.w_knx, PD.w_krt, PD.w_kbk, PD.w_kct, PD.w_kex, PD.w_seq, PD.w_next, PD.w_asg, PD.w_expr, PD.w_ret, PD.w_retN, PD.w_brk, PD.w_cnt, PD.w_if, PD.w_aug, PD.w_fset, PD.w_saug, PD.w_for, PD.w_while, PD.w_ie, PD.w_rt, PD.w_nx, PD.w_ex, PD.w_rg1, PD.w_rg2, PD.w_enu, PD.w_zip2, PD.w_zipT, PD.w_rgl1, PD.o_add_i, PD.o_sub_i, PD.o_lt_i, PD.o_le_i, PD.o_gt_i, PD.o_ge_i, PD.o_is_n, PD.o_is_b, PD.o_isnot_b, PD.o_isnot_n, PD.o_isn_non, PD.o_isn_int, PD.o_isn_tup, PD.o_neg_i, PD.o_tru_b, PD.o_int_i, PD.o_int_b, PD.o_len_t, PD.o_tup_t, PD.o_lst_t, PD.o_max2, PD.o_min2, PD.o_ix_0, PD.o_ix_1, PD.o_ix_2, PD.o_ix_3, PD.it_t, PD.it_r, PD.enu_t, PD.zip_t, PD.o_tup0, PD.o_tup1, PD.o_tup2, PD.o_tup3, PD.o_tup4, PD.o_lst0, PD.o_lst1, PD.o_lst2, PD.o_lst3, PD.o_lst4, PD.g_push, PD.w_lnx, PD.w_lct, PD.w_lbk, PD.w_lrt, PD.w_lex, PD.w_lcn, PD.w_lcs, PD.o_eq_s, PD.o_ne_s, PD.o_eq_i, PD.o_ne_i, PD.w_gtp2, PD.w_gtp3, PD.w_gtp4, PD.rg_map, PD.o_lstR0, PD.o_tupR0, PD.o_not_f, PD.o_not_t, PD.o_dec_tt, PD.o_nn, PD.o_ne_b, PD.o_eq_b, PD.o_bne_tf, PD.o_bne_ff, e1, List.isEmpty_cons, Bool.not_false, e2, e01, k4, k5]
        exact ⟨_, _, _, _, rfl, k6⟩
      · have hnil : so = [] := by cases so with
          | nil => rfl
          | cons => cases c1
        subst hnil
        obtain ⟨k1, k2⟩ := g3.app (r := r) (o := none) hK (by omega) (by omega) (by rw [hlf]; exact sorted_nil hso)
        have gd4 : (K.put (L.len + 2) (.lst (fs.map giftD ++ [giftD none]))).get N1.len = some (.lst (([] : List (Int × Int)).map ppD)) := by rw [g_put_ne (LH.get_lt g3.gf) (by omega)]; exact gd
        show W (mAppend (.ref (L.len + 2)) [giftD none] K) _ _
        rw [k1]
        generalize (K.put (L.len + 2) (.lst (fs.map giftD ++ [giftD none]))) = M3 at *
        have k3 := k2.gr (Gr.refl.push (.lst [])) (k2.k.push (.lst []))
        have e1 := ne_nilP (g_push_old (c := .lst []) gd4) (g_push (L := M3) (c := .lst []))
        simp only [word_snoc, PD.w_ok, PD.w_exc, PD.w_ift, PD.w_iff, PD.w_c, PD.w_getK, PD.w_slt0, PD.w_slts, PD.w_set0, PD.w_sets, PD.w_wipe0, PD.w_wipes, PD.w_var, PD.w_1, PD.w_2, PD.w_nil, PD.w_cons, PD.w_app, PD.w_eif, PD.w_truK, PD.w_and, PD.w_or, PD.w_not, PD.w_call, PD.w_meth, PD.w_nonK, PD.w_make, PD.w_bm, PD.w_sl, PD.w_bNo, PD.w_intK, PD.w_bAt, PD.w_blK, PD.w_chn, PD.w_tb1, PD.w_lc, PD.w_turn, PD.w_yes, PD.w_tv, PD.w_tand, PD.w_tor, PD.w_tnot, PD.w_nm, PD.w_sub, PD.w_gnil, PD.w_gcons, PD.w_knx, PD.w_krt, PD.w_kbk, PD.w_kct, PD.w_kex, PD.w_seq, PD.w_next, PD.w_asg, PD.w_expr, PD.w_ret, PD.w_retN, PD.w_brk, PD.w_cnt, PD.w_if, PD.w_aug, PD.w_fset, PD.w_saug, PD.w_for, PD.w_while, PD.w_ie, PD.w_rt, PD.w_nx, PD.w_ex, PD.w_rg1, PD.w_rg2, PD.w_enu, PD.w_zip2, PD.w_zipT, PD.w_rgl1, PD.o_add_i, PD.o_sub_i, PD.o_lt_i, PD.o_le_i, PD.o_gt_i, PD.o_ge_i, PD.o_is_n, PD.o_is_b, PD.o_isnot_b, PD.o_isnot_n, PD.o_isn_non, PD.o_isn_int, PD.o_isn_tup, PD.o_neg_i, PD.o_tru_b, PD.o_int_i, PD.o_int_b, PD.o_len_t, PD.o_tup_t, PD.o_lst_t, PD.o_max2, PD.o_min2, PD.o_ix_0, PD.o_ix_1, PD.o_ix_2, PD.o_ix_3, PD.it_t, PD.it_r, PD.enu_t, PD.zip_t, PD.o_tup0, PD.o_tup1, PD.o_tup2, PD.o_tup3, PD.o_tup4, PD.o_lst0, PD.o_lst1, PD.o_lst2, PD.o_lst3, PD.o_lst4, PD.g_push, PD.w_lnx, PD.w_lct, PD.w_lbk, PD.w_lrt, PD.w_lex, PD.w_lcn, PD.w_lcs, PD.o_eq_s, PD.o_ne_s, PD.o_eq_i, PD.o_ne_i, PD.w_gtp2, PD.w_gtp3, PD.w_gtp4, PD.rg_map, PD.o_lstR0, PD.o_tupR0, PD.o_not_f, PD.o_not_t, PD.o_dec_tt, PD.o_nn, PD.o_ne_b, PD.o_eq_b, PD.o_bne_tf, PD.o_bne_ff, e1, c1]
        exact ⟨_, _, _, _, rfl, k3.none⟩
  · rintro ρ N ⟨fs, o5, o6, o7, rfl, g⟩
    try simp only [word_snoc, PD.w_ok, PD.w_exc, PD.w_ift, PD.w_iff, PD.w_c, PD.w_getK, PD.w_slt0, PD.w_slts, PD.w_set0, PD.w_sets, PD.w_wipe0, PD.w_wipes, PD.w_var, PD.w_1, PD.w_2, PD.w_nil, PD.w_cons, PD.w_app, PD.w_eif, PD.w_truK, PD.w_and, PD.w_or, PD.w_not, PD.w_call, PD.w_meth, PD.w_nonK, PD.w_make, PD.w_bm, PD.w_sl, PD.w_bNo, PD.w_intK, PD.w_bAt, PD.w_blK, PD.w_chn, PD.w_tb1, PD.w_lc, PD.w_turn, PD.w_yes, PD.w_tv, PD.w_tand, PD.w_tor, PD.w_tnot, PD.w_nm, PD.w_sub, PD.w_gnil, PD.w_gcons, PD.w_knx, PD.w_krt, PD.w_kbk, PD.w_kct, PD.w_kex, PD.w_seq, PD.w_next, PD.w_asg, PD.w_expr, PD.w_ret, PD.w_retN, PD.w_brk, PD.w_cnt, PD.w_if, PD.w_aug, PD.w_fset, PD.w_saug, PD.w_for, PD.w_while, PD.w_ie, PD.w_rt, PD.w_nx, PD.w_ex, PD.w_rg1, PD.w_rg2, PD.w_enu, PD.w_zip2, PD.w_zipT, PD.w_rgl1, PD.o_add_i, PD.o_sub_i, PD.o_lt_i, PD.o_le_i, PD.o_gt_i, PD.o_ge_i, PD.o_is_n, PD.o_is_b, PD.o_isnot_b, PD.o_isnot_n, PD.o_isn_non, PD.o_isn_int, PD.o_isn_tup, PD.o_neg_i, PD.o_tru_b, PD.o_int_i, PD.o_int_b, PD.o_len_t, PD.o_tup_t, PD.o_lst_t, PD.o_max2, PD.o_min2, PD.o_ix_0, PD.o_ix_1, PD.o_ix_2, PD.o_ix_3, PD.it_t, PD.it_r, PD.enu_t, PD.zip_t, PD.o_tup0, PD.o_tup1, PD.o_tup2, PD.o_tup3, PD.o_tup4, PD.o_lst0, PD.o_lst1, PD.o_lst2, PD.o_lst3, PD.o_lst4, PD.g_push, PD.w_lnx, PD.w_lct, PD.w_lbk, PD.w_lrt, PD.w_lex, PD.w_lcn, PD.w_lcs, PD.o_eq_s, PD.o_ne_s, PD.o_eq_i, PD.o_ne_i, PD.w_gtp2, PD.w_gtp3, PD.w_gtp4, PD.rg_map, PD.o_lstR0, PD.o_tupR0, PD.o_not_f, PD.o_not_t, PD.o_dec_tt, PD.o_nn, PD.o_ne_b, PD.o_eq_b, PD.o_bne_tf, PD.o_bne_ff, o_tup_l g.gf]
    exact ⟨fs, rfl, g.len, g.ok, g.k⟩
end
end EG
/-! E6: the first giver. -/
namespace EG
open PySem PD
def bestS (w left : List Int) (b : Option Nat) (h : Nat) : Option Nat := match b with
  | none => if left.getD h 0 > 0 then some h else none
  | some o => if left.getD h 0 > 0 ∧ w.getD h 0 > w.getD o 0 then some h else some o
theorem rooms_snoc {left : List Int} {p : List Nat} {h : Nat} : rooms left (p ++ [h]) = rooms left p ++ if 0 < left.getD h 0 then [h] else [] := by
  unfold rooms
  rw [List.filter_append]
  congr 1
  by_cases q : 0 < left.getD h 0
  · rw [if_pos q]; simp only [List.filter_cons, decide_eq_true q, if_true, List.filter_nil]
  · rw [if_neg q]; simp only [List.filter_cons, decide_eq_false q, List.filter_nil]; rfl
theorem bestS_B {w left : List Int} {p : List Nat} {h : Nat} {b : Option Nat} (hb : B1 w left p b) (hp : ∀ x ∈ p, x < h) : B1 w left (p ++ [h]) (bestS w left b h) := by
  cases b with
  | none =>
    have e : rooms left p = [] := hb
    unfold bestS
    dsimp only
    by_cases q : left.getD h 0 > 0
    · rw [if_pos q]
      refine ⟨?_, fun x hx => ?_⟩
      · rw [rooms_snoc, if_pos q]; simp
      · rw [rooms_snoc, if_pos q, e] at hx
        simp only [List.nil_append, List.mem_singleton] at hx
        subst hx
        exact ⟨Int.le_refl _, fun _ => Nat.le_refl _⟩
    · rw [if_neg q]
      show rooms left (p ++ [h]) = []
      rw [rooms_snoc, if_neg q, e]; rfl
  | some o =>
    unfold bestS
    dsimp only
    by_cases q : left.getD h 0 > 0 ∧ w.getD h 0 > w.getD o 0
    · rw [if_pos q]
      refine ⟨?_, fun x hx => ?_⟩
      · rw [rooms_snoc, if_pos q.1]; simp
      · rw [rooms_snoc, if_pos q.1] at hx
        rcases List.mem_append.mp hx with hx | hx
        · have := (hb.2 x hx).1
          have h2 := q.2
          unfold wOf at *
          exact ⟨by omega, fun z => by omega⟩
        · rw [List.mem_singleton.mp hx]; exact ⟨Int.le_refl _, fun _ => Nat.le_refl _⟩
    · rw [if_neg q]
      refine ⟨by rw [rooms_snoc]; exact List.mem_append_left _ hb.1, fun x hx => ?_⟩
      rw [rooms_snoc] at hx
      rcases List.mem_append.mp hx with hx | hx
      · exact hb.2 x hx
      · by_cases q1 : 0 < left.getD h 0
        · rw [if_pos q1] at hx
          have hx := List.mem_singleton.mp hx
          subst hx
          have := hp o (rooms_sub hb.1).1
          unfold wOf
          exact ⟨by omega, fun _ => by omega⟩
        · rw [if_neg q1] at hx; cases hx
/-- a giver at g, what is left at a -/
structure Gv (cc : Nat) (c0 : Int) (w : List Int) (g a : Nat) (left : List Int) (N : LH) : Prop where
  g : N.get g = some (.ins cc [("yard", yardD c0 w), ("left", .ref a)])
  a : N.get a = some (iL left)
theorem Gv.ne {cc c0 w g a left N} (h : Gv cc c0 w g a left N) : g ≠ a := by
  rintro rfl
  have h1 := h.g
  have h2 := h.a
  rw [h1] at h2; cases h2
theorem Gv.gr {cc c0 w g a left N M} {S : List Nat} (h : Gv cc c0 w g a left N) (gr : Gr S N M) (h1 : g ∉ S) (h2 : a ∉ S) : Gv cc c0 w g a left M := ⟨gr.at h.g h1, gr.at h.a h2⟩
theorem Gv.put {cc c0 w g a left N left'} (h : Gv cc c0 w g a left N) : Gv cc c0 w g a left' (N.put a (iL left')) := ⟨by rw [g_put_ne (LH.get_lt h.a) h.ne]; exact h.g, g_put (LH.get_lt h.a)⟩
section
variable {F : Nat → Option Fn} {i : Nat} {cs : List Nat} {cc : Nat}
def GiveOk (cc : Nat) (R : Rec) (i : Nat) : Prop := ∀ (g a : Nat) (L : LH) (c0 : Int) (w left : List Int) (r : List Nat), Gv cc c0 w g a left L → Req w.length r → w.length ≤ 1000 → left.length = w.length → W (R i [.ref g, reqD r] L) (fun d M => ∃ o, d = giftD o ∧ B1 w left r o ∧ M = L.put a (iL (dec1 left o))) nX
theorem giveOk (hc : cs.contains cc = true) (h : F i = some (FirstGiver_give_fn cs)) : From F 1 (GiveOk cc · i) := by
  intro n g a L c0 w left r gv hrq hw hl
  have fy : oFld cs "yard" (.ref g) L = .ok (yardD c0 w) L := o_fld gv.g hc rfl
  have fl : oFld cs "left" (.ref g) L = .ok (.ref a) L := o_fld gv.g hc rfl
  have ha := gv.a
  rw [W_runN h rfl]
  unfold FirstGiver_give_fn
  show WS _ _ [some (.ref g), some (reqD r), none, none] L _ _
  simp only [word_snoc, PD.w_ok, PD.w_exc, PD.w_ift, PD.w_iff, PD.w_c, PD.w_getK, PD.w_slt0, PD.w_slts, PD.w_set0, PD.w_sets, PD.w_wipe0, PD.w_wipes, PD.w_var, PD.w_1, PD.w_2, PD.w_nil, PD.w_cons, PD.w_app, PD.w_eif, PD.w_truK, PD.w_and, PD.w_or, PD.w_not, PD.w_call, PD.w_meth, PD.w_nonK, PD.w_make, PD.w_bm, PD.w_sl, PD.w_bNo, PD.w_intK, PD.w_bAt, PD.w_blK, PD.w_chn, PD.w_tb1, PD.w_lc, PD.w_turn, PD.w_yes, PD.w_tv, PD.w_tand, PD.w_tor, PD.w_tnot, PD.w_nm, PD.w_sub, PD.w_gnil, PD.w_gcons, PD.w_knx, PD.w_krt, PD.w_kbk, PD.w_kct, PD.w_kex, PD.w_seq, PD.w_next, PD.w_asg, PD.w_expr, PD.w_ret, PD.w_retN, PD.w_brk, PD.w_cnt, PD.w_if, PD.w_aug, PD.w_fset, PD.w_saug, PD.w_for, PD.w_while, PD.w_ie, PD.w_rt, PD.w_nx, PD.w_ex, PD.w_rg1, PD.w_rg2, PD.w_enu, PD.w_zip2, PD.w_zipT, PD.w_rgl1, PD.o_add_i, PD.o_sub_i, PD.o_lt_i, PD.o_le_i, PD.o_gt_i, PD.o_ge_i, PD.o_is_n, PD.o_is_b, PD.o_isnot_b, PD.o_isnot_n, PD.o_isn_non, PD.o_isn_int, PD.o_isn_tup, PD.o_neg_i, PD.o_tru_b, PD.o_int_i, PD.o_int_b, PD.o_len_t, PD.o_tup_t, PD.o_lst_t, PD.o_max2, PD.o_min2, PD.o_ix_0, PD.o_ix_1, PD.o_ix_2, PD.o_ix_3, PD.it_t, PD.it_r, PD.enu_t, PD.zip_t, PD.o_tup0, PD.o_tup1, PD.o_tup2, PD.o_tup3, PD.o_tup4, PD.o_lst0, PD.o_lst1, PD.o_lst2, PD.o_lst3, PD.o_lst4, PD.g_push, PD.w_lnx, PD.w_lct, PD.w_lbk, PD.w_lrt, PD.w_lex, PD.w_lcn, PD.w_lcs, PD.o_eq_s, PD.o_ne_s, PD.o_eq_i, PD.o_ne_i, PD.w_gtp2, PD.w_gtp3, PD.w_gtp4, PD.rg_map, PD.o_lstR0, PD.o_tupR0, PD.o_not_f, PD.o_not_t, PD.o_dec_tt, PD.o_nn, PD.o_ne_b, PD.o_eq_b, PD.o_bne_tf, PD.o_bne_ff]
  refine forW (fun p ρ M => M = L ∧ ∃ b o, B1 w left p b ∧ ρ = [some (.ref g), some (reqD r), some (giftD b), o]) ⟨rfl, none, _, rfl, rfl⟩ ?_ ?_
  · rintro p h q ρ M e ⟨rfl, b, o, hb, rfl⟩
    have hh : h < w.length := hrq.2 h (split_mem e)
    have hlt : ∀ x ∈ p, x < h := by
      intro x hx
      have := hrq.1
      rw [e, List.pairwise_append] at this
      exact this.2.2 x hx h (List.mem_cons_self ..)
    have i1 : oIx (.ref a) (.int (h : Int)) M = .ok (.int (left.getD h 0)) M := ix_iL ha (by omega)
    have i2 : oIx (.tup (w.map D.int)) (.int (h : Int)) M = .ok (.int (w.getD h 0)) M := ix_iT hh
    have hB := bestS_B (h := h) hb hlt
    simp only [word_snoc, PD.w_ok, PD.w_exc, PD.w_ift, PD.w_iff, PD.w_c, PD.w_getK, PD.w_slt0, PD.w_slts, PD.w_set0, PD.w_sets, PD.w_wipe0, PD.w_wipes, PD.w_var, PD.w_1, PD.w_2, PD.w_nil, PD.w_cons, PD.w_app, PD.w_eif, PD.w_truK, PD.w_and, PD.w_or, PD.w_not, PD.w_call, PD.w_meth, PD.w_nonK, PD.w_make, PD.w_bm, PD.w_sl, PD.w_bNo, PD.w_intK, PD.w_bAt, PD.w_blK, PD.w_chn, PD.w_tb1, PD.w_lc, PD.w_turn, PD.w_yes, PD.w_tv, PD.w_tand, PD.w_tor, PD.w_tnot, PD.w_nm, PD.w_sub, PD.w_gnil, PD.w_gcons, PD.w_knx, PD.w_krt, PD.w_kbk, PD.w_kct, PD.w_kex, PD.w_seq, PD.w_next, PD.w_asg, PD.w_expr, PD.w_ret, PD.w_retN, PD.w_brk, PD.w_cnt, PD.w_if, PD.w_aug, PD.w_fset, PD.w_saug, PD.w_for, PD.w_while, PD.w_ie, PD.w_rt, PD.w_nx, PD.w_ex, PD.w_rg1, PD.w_rg2, PD.w_enu, PD.w_zip2, PD.w_zipT, PD.w_rgl1, PD.o_add_i, PD.o_sub_i, PD.o_lt_i, PD.o_le_i, PD.o_gt_i, PD.o_ge_i, PD.o_is_n, PD.o_is_b, PD.o_isnot_b, PD.o_isnot_n, PD.o_isn_non, PD.o_isn_int, PD.o_isn_tup, PD.o_neg_i, PD.o_tru_b, PD.o_int_i, PD.o_int_b, PD.o_len_t, PD.o_tup_t, PD.o_lst_t, PD.o_max2, PD.o_min2, PD.o_ix_0, PD.o_ix_1, PD.o_ix_2, PD.o_ix_3, PD.it_t, PD.it_r, PD.enu_t, PD.zip_t, PD.o_tup0, PD.o_tup1, PD.o_tup2, PD.o_tup3, PD.o_tup4, PD.o_lst0, PD.o_lst1, PD.o_lst2, PD.o_lst3, PD.o_lst4, PD.g_push, PD.w_lnx, PD.w_lct, PD.w_lbk, PD.w_lrt, PD.w_lex, PD.w_lcn, PD.w_lcs, PD.o_eq_s, PD.o_ne_s, PD.o_eq_i, PD.o_ne_i, PD.w_gtp2, PD.w_gtp3, PD.w_gtp4, PD.rg_map, PD.o_lstR0, PD.o_tupR0, PD.o_not_f, PD.o_not_t, PD.o_dec_tt, PD.o_nn, PD.o_ne_b, PD.o_eq_b, PD.o_bne_tf, PD.o_bne_ff, fl, fy, i1, i2]
    cases b with
    | none =>
      simp only [giftD, word_snoc, PD.w_ok, PD.w_exc, PD.w_ift, PD.w_iff, PD.w_c, PD.w_getK, PD.w_slt0, PD.w_slts, PD.w_set0, PD.w_sets, PD.w_wipe0, PD.w_wipes, PD.w_var, PD.w_1, PD.w_2, PD.w_nil, PD.w_cons, PD.w_app, PD.w_eif, PD.w_truK, PD.w_and, PD.w_or, PD.w_not, PD.w_call, PD.w_meth, PD.w_nonK, PD.w_make, PD.w_bm, PD.w_sl, PD.w_bNo, PD.w_intK, PD.w_bAt, PD.w_blK, PD.w_chn, PD.w_tb1, PD.w_lc, PD.w_turn, PD.w_yes, PD.w_tv, PD.w_tand, PD.w_tor, PD.w_tnot, PD.w_nm, PD.w_sub, PD.w_gnil, PD.w_gcons, PD.w_knx, PD.w_krt, PD.w_kbk, PD.w_kct, PD.w_kex, PD.w_seq, PD.w_next, PD.w_asg, PD.w_expr, PD.w_ret, PD.w_retN, PD.w_brk, PD.w_cnt, PD.w_if, PD.w_aug, PD.w_fset, PD.w_saug, PD.w_for, PD.w_while, PD.w_ie, PD.w_rt, PD.w_nx, PD.w_ex, PD.w_rg1, PD.w_rg2, PD.w_enu, PD.w_zip2, PD.w_zipT, PD.w_rgl1, PD.o_add_i, PD.o_sub_i, PD.o_lt_i, PD.o_le_i, PD.o_gt_i, PD.o_ge_i, PD.o_is_n, PD.o_is_b, PD.o_isnot_b, PD.o_isnot_n, PD.o_isn_non, PD.o_isn_int, PD.o_isn_tup, PD.o_neg_i, PD.o_tru_b, PD.o_int_i, PD.o_int_b, PD.o_len_t, PD.o_tup_t, PD.o_lst_t, PD.o_max2, PD.o_min2, PD.o_ix_0, PD.o_ix_1, PD.o_ix_2, PD.o_ix_3, PD.it_t, PD.it_r, PD.enu_t, PD.zip_t, PD.o_tup0, PD.o_tup1, PD.o_tup2, PD.o_tup3, PD.o_tup4, PD.o_lst0, PD.o_lst1, PD.o_lst2, PD.o_lst3, PD.o_lst4, PD.g_push, PD.w_lnx, PD.w_lct, PD.w_lbk, PD.w_lrt, PD.w_lex, PD.w_lcn, PD.w_lcs, PD.o_eq_s, PD.o_ne_s, PD.o_eq_i, PD.o_ne_i, PD.w_gtp2, PD.w_gtp3, PD.w_gtp4, PD.rg_map, PD.o_lstR0, PD.o_tupR0, PD.o_not_f, PD.o_not_t, PD.o_dec_tt, PD.o_nn, PD.o_ne_b, PD.o_eq_b, PD.o_bne_tf, PD.o_bne_ff]
      refine ifK_of (fun c1 => ⟨trivial, some h, some (nD h), ?_, rfl⟩) fun c1 => ⟨trivial, none, some (nD h), ?_, rfl⟩
      · rwa [show bestS w left none h = some h from if_pos (of_decide_eq_true c1)] at hB
      · rwa [show bestS w left none h = none from if_neg (of_decide_eq_false c1)] at hB
    | some b =>
      have hbw : b < w.length := hrq.2 b (by rw [e]; exact List.mem_append_left _ (rooms_sub hb.1).1)
      have i3 : oIx (.tup (w.map D.int)) (.int (b : Int)) M = .ok (.int (w.getD b 0)) M := ix_iT hbw
      simp only [giftD, word_snoc, PD.w_ok, PD.w_exc, PD.w_ift, PD.w_iff, PD.w_c, PD.w_getK, PD.w_slt0, PD.w_slts, PD.w_set0, PD.w_sets, PD.w_wipe0, PD.w_wipes, PD.w_var, PD.w_1, PD.w_2, PD.w_nil, PD.w_cons, PD.w_app, PD.w_eif, PD.w_truK, PD.w_and, PD.w_or, PD.w_not, PD.w_call, PD.w_meth, PD.w_nonK, PD.w_make, PD.w_bm, PD.w_sl, PD.w_bNo, PD.w_intK, PD.w_bAt, PD.w_blK, PD.w_chn, PD.w_tb1, PD.w_lc, PD.w_turn, PD.w_yes, PD.w_tv, PD.w_tand, PD.w_tor, PD.w_tnot, PD.w_nm, PD.w_sub, PD.w_gnil, PD.w_gcons, PD.w_knx, PD.w_krt, PD.w_kbk, PD.w_kct, PD.w_kex, PD.w_seq, PD.w_next, PD.w_asg, PD.w_expr, PD.w_ret, PD.w_retN, PD.w_brk, PD.w_cnt, PD.w_if, PD.w_aug, PD.w_fset, PD.w_saug, PD.w_for, PD.w_while, PD.w_ie, PD.w_rt, PD.w_nx, PD.w_ex, PD.w_rg1, PD.w_rg2, PD.w_enu, PD.w_zip2, PD.w_zipT, PD.w_rgl1, PD.o_add_i, PD.o_sub_i, PD.o_lt_i, PD.o_le_i, PD.o_gt_i, PD.o_ge_i, PD.o_is_n, PD.o_is_b, PD.o_isnot_b, PD.o_isnot_n, PD.o_isn_non, PD.o_isn_int, PD.o_isn_tup, PD.o_neg_i, PD.o_tru_b, PD.o_int_i, PD.o_int_b, PD.o_len_t, PD.o_tup_t, PD.o_lst_t, PD.o_max2, PD.o_min2, PD.o_ix_0, PD.o_ix_1, PD.o_ix_2, PD.o_ix_3, PD.it_t, PD.it_r, PD.enu_t, PD.zip_t, PD.o_tup0, PD.o_tup1, PD.o_tup2, PD.o_tup3, PD.o_tup4, PD.o_lst0, PD.o_lst1, PD.o_lst2, PD.o_lst3, PD.o_lst4, PD.g_push, PD.w_lnx, PD.w_lct, PD.w_lbk, PD.w_lrt, PD.w_lex, PD.w_lcn, PD.w_lcs, PD.o_eq_s, PD.o_ne_s, PD.o_eq_i, PD.o_ne_i, PD.w_gtp2, PD.w_gtp3, PD.w_gtp4, PD.rg_map, PD.o_lstR0, PD.o_tupR0, PD.o_not_f, PD.o_not_t, PD.o_dec_tt, PD.o_nn, PD.o_ne_b, PD.o_eq_b, PD.o_bne_tf, PD.o_bne_ff, i3]
      refine ifK_of (fun c1 => ifK_of (fun c2 => ⟨trivial, some h, some (nD h), ?_, rfl⟩) fun c2 => ⟨trivial, some b, some (nD h), ?_, rfl⟩) fun c1 => ⟨trivial, some b, some (nD h), ?_, rfl⟩
      · rwa [show bestS w left (some b) h = some h from if_pos ⟨of_decide_eq_true c1, of_decide_eq_true c2⟩] at hB
      · rwa [show bestS w left (some b) h = some b from if_neg fun z => (of_decide_eq_false c2) z.2] at hB
      · rwa [show bestS w left (some b) h = some b from if_neg fun z => (of_decide_eq_false c1) z.1] at hB
  · rintro ρ M ⟨rfl, b, o, hb, rfl⟩
    cases b with
    | none =>
      simp only [giftD, word_snoc, PD.w_ok, PD.w_exc, PD.w_ift, PD.w_iff, PD.w_c, PD.w_getK, PD.w_slt0, PD.w_slts, PD.w_set0, PD.w_sets, PD.w_wipe0, PD.w_wipes, PD.w_var, PD.w_1, PD.w_2, PD.w_nil, PD.w_cons, PD.w_app, PD.w_eif, PD.w_truK, PD.w_and, PD.w_or, PD.w_not, PD.w_call, PD.w_meth, PD.w_nonK, PD.w_make, PD.w_bm, PD.w_sl, PD.w_bNo, PD.w_intK, PD.w_bAt, PD.w_blK, PD.w_chn, PD.w_tb1, PD.w_lc, PD.w_turn, PD.w_yes, PD.w_tv, PD.w_tand, PD.w_tor, PD.w_tnot, PD.w_nm, PD.w_sub, PD.w_gnil, PD.w_gcons, PD.w_knx, PD.w_krt, PD.w_kbk, PD.w_kct, PD.w_kex, PD.w_seq, PD.w_next, PD.w_asg, PD.w_expr, PD.w_ret, PD.w_retN, PD.w_brk, PD.w_cnt, PD.w_if, PD.w_aug, PD.w_fset, PD.w_saug, PD.w_for, PD.w_while, PD.w_ie, PD.w_rt, PD.w_nx, PD.w_ex, PD.w_rg1, PD.w_rg2, PD.w_enu, PD.w_zip2, PD.w_zipT, PD.w_rgl1, PD.o_add_i, PD.o_sub_i, PD.o_lt_i, PD.o_le_i, PD.o_gt_i, PD.o_ge_i, PD.o_is_n, PD.o_is_b, PD.o_isnot_b, PD.o_isnot_n, PD.o_isn_non, PD.o_isn_int, PD.o_isn_tup, PD.o_neg_i, PD.o_tru_b, PD.o_int_i, PD.o_int_b, PD.o_len_t, PD.o_tup_t, PD.o_lst_t, PD.o_max2, PD.o_min2, PD.o_ix_0, PD.o_ix_1, PD.o_ix_2, PD.o_ix_3, PD.it_t, PD.it_r, PD.enu_t, PD.zip_t, PD.o_tup0, PD.o_tup1, PD.o_tup2, PD.o_tup3, PD.o_tup4, PD.o_lst0, PD.o_lst1, PD.o_lst2, PD.o_lst3, PD.o_lst4, PD.g_push, PD.w_lnx, PD.w_lct, PD.w_lbk, PD.w_lrt, PD.w_lex, PD.w_lcn, PD.w_lcs, PD.o_eq_s, PD.o_ne_s, PD.o_eq_i, PD.o_ne_i, PD.w_gtp2, PD.w_gtp3, PD.w_gtp4, PD.rg_map, PD.o_lstR0, PD.o_tupR0, PD.o_not_f, PD.o_not_t, PD.o_dec_tt, PD.o_nn, PD.o_ne_b, PD.o_eq_b, PD.o_bne_tf, PD.o_bne_ff]
      exact ⟨none, rfl, hb, by unfold dec1; rw [LH.put_id _ ha]⟩
    | some h =>
      have hh : h < w.length := hrq.2 h (rooms_sub hb.1).1
      have i1 : oIx (.ref a) (.int (h : Int)) M = .ok (.int (left.getD h 0)) M := ix_iL ha (by omega)
      have i2 : oSet (.ref a) (.int (h : Int)) (.int (left.getD h 0 - 1)) M = .ok () (M.put a (iL (left.set h (left.getD h 0 - 1)))) := set_iL ha (by omega)
      simp only [giftD, word_snoc, PD.w_ok, PD.w_exc, PD.w_ift, PD.w_iff, PD.w_c, PD.w_getK, PD.w_slt0, PD.w_slts, PD.w_set0, PD.w_sets, PD.w_wipe0, PD.w_wipes, PD.w_var, PD.w_1, PD.w_2, PD.w_nil, PD.w_cons, PD.w_app, PD.w_eif, PD.w_truK, PD.w_and, PD.w_or, PD.w_not, PD.w_call, PD.w_meth, PD.w_nonK, PD.w_make, PD.w_bm, PD.w_sl, PD.w_bNo, PD.w_intK, PD.w_bAt, PD.w_blK, PD.w_chn, PD.w_tb1, PD.w_lc, PD.w_turn, PD.w_yes, PD.w_tv, PD.w_tand, PD.w_tor, PD.w_tnot, PD.w_nm, PD.w_sub, PD.w_gnil, PD.w_gcons, PD.w_knx, PD.w_krt, PD.w_kbk, PD.w_kct, PD.w_kex, PD.w_seq, PD.w_next, PD.w_asg, PD.w_expr, PD.w_ret, PD.w_retN, PD.w_brk, PD.w_cnt, PD.w_if, PD.w_aug, PD.w_fset, PD.w_saug, PD.w_for, PD.w_while, PD.w_ie, PD.w_rt, PD.w_nx, PD.w_ex, PD.w_rg1, PD.w_rg2, PD.w_enu, PD.w_zip2, PD.w_zipT, PD.w_rgl1, PD.o_add_i, PD.o_sub_i, PD.o_lt_i, PD.o_le_i, PD.o_gt_i, PD.o_ge_i, PD.o_is_n, PD.o_is_b, PD.o_isnot_b, PD.o_isnot_n, PD.o_isn_non, PD.o_isn_int, PD.o_isn_tup, PD.o_neg_i, PD.o_tru_b, PD.o_int_i, PD.o_int_b, PD.o_len_t, PD.o_tup_t, PD.o_lst_t, PD.o_max2, PD.o_min2, PD.o_ix_0, PD.o_ix_1, PD.o_ix_2, PD.o_ix_3, PD.it_t, PD.it_r, PD.enu_t, PD.zip_t, PD.o_tup0, PD.o_tup1, PD.o_tup2, PD.o_tup3, PD.o_tup4, PD.o_lst0, PD.o_lst1, PD.o_lst2, PD.o_lst3, PD.o_lst4, PD.g_push, PD.w_lnx, PD.w_lct, PD.w_lbk, PD.w_lrt, PD.w_lex, PD.w_lcn, PD.w_lcs, PD.o_eq_s, PD.o_ne_s, PD.o_eq_i, PD.o_ne_i, PD.w_gtp2, PD.w_gtp3, PD.w_gtp4, PD.rg_map, PD.o_lstR0, PD.o_tupR0, PD.o_not_f, PD.o_not_t, PD.o_dec_tt, PD.o_nn, PD.o_ne_b, PD.o_eq_b, PD.o_bne_tf, PD.o_bne_ff, fl, i1, i2]
      exact ⟨some h, rfl, hb, rfl⟩
/-- a new giver -/
def MadeOk (cc : Nat) (R : Rec) (i : Nat) : Prop := ∀ (L : LH) (c0 m : Int) (w : List Int) (row : List (List Nat)), Fit c0 m w row → W (R i [.ref L.len, yardD c0 w, .int m] (L.push (.ins cc []))) (fun d M => d = .non ∧ Gv cc c0 w L.len (L.len + 1) (room0 c0 m w) M ∧ Gr [] L M ∧ M.len = L.len + 2) nX
theorem madeOk (hc : cs.contains cc = true) (h : F i = some (FirstGiver__init_fn cs)) : From F 1 (MadeOk cc · i) := by
  intro n L c0 m w row ft
  have z := ft.w2
  have c1 := ft.c1
  have c2 := ft.c2
  have m1 := ft.m1
  have m2 := ft.m2
  rw [W_runN h rfl]
  unfold FirstGiver__init_fn
  show WS _ _ [some (.ref L.len), some (yardD c0 w), some (.int m), none] _ _ _
  have g0 : (L.push (.ins cc [])).get L.len = some (.ins cc []) := g_push
  have d0 : Gr [] L (L.push (.ins cc [])) := Gr.refl.push _
  have l0 : (L.push (.ins cc [])).len = L.len + 1 := rfl
  generalize (L.push (.ins cc [])) = M at *
  have e1 : oSetF cs "yard" (.ref L.len) (yardD c0 w) M = .ok () (M.put L.len (.ins cc [("yard", yardD c0 w)])) := o_setf g0 hc (by decide)
  simp only [word_snoc, PD.w_ok, PD.w_exc, PD.w_ift, PD.w_iff, PD.w_c, PD.w_getK, PD.w_slt0, PD.w_slts, PD.w_set0, PD.w_sets, PD.w_wipe0, PD.w_wipes, PD.w_var, PD.w_1, PD.w_2, PD.w_nil, PD.w_cons, PD.w_app, PD.w_eif, PD.w_truK, PD.w_and, PD.w_or, PD.w_not, PD.w_call, PD.w_meth, PD.w_nonK, PD.w_make, PD.w_bm, PD.w_sl, PD.w_bNo, PD.w_intK, PD.w_bAt, PD.w_blK, PD.w_chn, PD.w_tb1, PD.w_lc, PD.w_turn, PD.w_yes, PD.w_tv, PD.w_tand, PD.w_tor, PD.w_tnot, PD.w_nm, PD.w_sub, PD.w_gnil, PD.w_gcons, PD.w_knx, PD.w_krt, PD.w_kbk, PD.w_kct, PD.w_kex, PD.w_seq, PD.w_next, PD.w_asg, PD.w_expr, PD.w_ret, PD.w_retN, PD.w_brk, PD.w_cnt, PD.w_if, PD.w_aug, PD.w_fset, PD.w_saug, PD.w_for, PD.w_while, PD.w_ie, PD.w_rt, PD.w_nx, PD.w_ex, PD.w_rg1, PD.w_rg2, PD.w_enu, PD.w_zip2, PD.w_zipT, PD.w_rgl1, PD.o_add_i, PD.o_sub_i, PD.o_lt_i, PD.o_le_i, PD.o_gt_i, PD.o_ge_i, PD.o_is_n, PD.o_is_b, PD.o_isnot_b, PD.o_isnot_n, PD.o_isn_non, PD.o_isn_int, PD.o_isn_tup, PD.o_neg_i, PD.o_tru_b, PD.o_int_i, PD.o_int_b, PD.o_len_t, PD.o_tup_t, PD.o_lst_t, PD.o_max2, PD.o_min2, PD.o_ix_0, PD.o_ix_1, PD.o_ix_2, PD.o_ix_3, PD.it_t, PD.it_r, PD.enu_t, PD.zip_t, PD.o_tup0, PD.o_tup1, PD.o_tup2, PD.o_tup3, PD.o_tup4, PD.o_lst0, PD.o_lst1, PD.o_lst2, PD.o_lst3, PD.o_lst4, PD.g_push, PD.w_lnx, PD.w_lct, PD.w_lbk, PD.w_lrt, PD.w_lex, PD.w_lcn, PD.w_lcs, PD.o_eq_s, PD.o_ne_s, PD.o_eq_i, PD.o_ne_i, PD.w_gtp2, PD.w_gtp3, PD.w_gtp4, PD.rg_map, PD.o_lstR0, PD.o_tupR0, PD.o_not_f, PD.o_not_t, PD.o_dec_tt, PD.o_nn, PD.o_ne_b, PD.o_eq_b, PD.o_bne_tf, PD.o_bne_ff, e1]
  have hM := LH.get_lt g0
  have g1 : (M.put L.len (.ins cc [("yard", yardD c0 w)])).get L.len = some (.ins cc [("yard", yardD c0 w)]) := g_put hM
  have d1 : Gr [] L (M.put L.len (.ins cc [("yard", yardD c0 w)])) := d0.put _ (.inl (Nat.le_refl _)) hM
  have l1 : (M.put L.len (.ins cc [("yard", yardD c0 w)])).len = L.len + 1 := l0
  generalize (M.put L.len (.ins cc [("yard", yardD c0 w)])) = N at *
  have b1 : oMul (.int m) (.int c0) N = .ok (.int (m * c0)) N := o_mul_i (.inl (by unfold big64; omega))
  refine lcPure (fun _ => some (.int (m * c0))) (sz_of (by omega)) (fun a ha => ?_) ?_
  · simp only [word_snoc, PD.w_ok, PD.w_exc, PD.w_ift, PD.w_iff, PD.w_c, PD.w_getK, PD.w_slt0, PD.w_slts, PD.w_set0, PD.w_sets, PD.w_wipe0, PD.w_wipes, PD.w_var, PD.w_1, PD.w_2, PD.w_nil, PD.w_cons, PD.w_app, PD.w_eif, PD.w_truK, PD.w_and, PD.w_or, PD.w_not, PD.w_call, PD.w_meth, PD.w_nonK, PD.w_make, PD.w_bm, PD.w_sl, PD.w_bNo, PD.w_intK, PD.w_bAt, PD.w_blK, PD.w_chn, PD.w_tb1, PD.w_lc, PD.w_turn, PD.w_yes, PD.w_tv, PD.w_tand, PD.w_tor, PD.w_tnot, PD.w_nm, PD.w_sub, PD.w_gnil, PD.w_gcons, PD.w_knx, PD.w_krt, PD.w_kbk, PD.w_kct, PD.w_kex, PD.w_seq, PD.w_next, PD.w_asg, PD.w_expr, PD.w_ret, PD.w_retN, PD.w_brk, PD.w_cnt, PD.w_if, PD.w_aug, PD.w_fset, PD.w_saug, PD.w_for, PD.w_while, PD.w_ie, PD.w_rt, PD.w_nx, PD.w_ex, PD.w_rg1, PD.w_rg2, PD.w_enu, PD.w_zip2, PD.w_zipT, PD.w_rgl1, PD.o_add_i, PD.o_sub_i, PD.o_lt_i, PD.o_le_i, PD.o_gt_i, PD.o_ge_i, PD.o_is_n, PD.o_is_b, PD.o_isnot_b, PD.o_isnot_n, PD.o_isn_non, PD.o_isn_int, PD.o_isn_tup, PD.o_neg_i, PD.o_tru_b, PD.o_int_i, PD.o_int_b, PD.o_len_t, PD.o_tup_t, PD.o_lst_t, PD.o_max2, PD.o_min2, PD.o_ix_0, PD.o_ix_1, PD.o_ix_2, PD.o_ix_3, PD.it_t, PD.it_r, PD.enu_t, PD.zip_t, PD.o_tup0, PD.o_tup1, PD.o_tup2, PD.o_tup3, PD.o_tup4, PD.o_lst0, PD.o_lst1, PD.o_lst2, PD.o_lst3, PD.o_lst4, PD.g_push, PD.w_lnx, PD.w_lct, PD.w_lbk, PD.w_lrt, PD.w_lex, PD.w_lcn, PD.w_lcs, PD.o_eq_s, PD.o_ne_s, PD.o_eq_i, PD.o_ne_i, PD.w_gtp2, PD.w_gtp3, PD.w_gtp4, PD.rg_map, PD.o_lstR0, PD.o_tupR0, PD.o_not_f, PD.o_not_t, PD.o_dec_tt, PD.o_nn, PD.o_ne_b, PD.o_eq_b, PD.o_bne_tf, PD.o_bne_ff, b1]
    exact ⟨trivial, trivial⟩
  · have e2 : w.filterMap (fun _ => some (D.int (m * c0))) = (room0 c0 m w).map D.int := by
      rw [fm_some]; unfold room0
      rw [List.map_const', List.map_replicate]
    rw [e2]
    have g2 : (N.push (iL (room0 c0 m w))).get L.len = some (.ins cc [("yard", yardD c0 w)]) := g_push_old g1
    have ga : (N.push (iL (room0 c0 m w))).get (L.len + 1) = some (iL (room0 c0 m w)) := by rw [← l1]; exact g_push
    have d2 : Gr [] L (N.push (iL (room0 c0 m w))) := d1.push _
    have l2 : (N.push (iL (room0 c0 m w))).len = L.len + 2 := by rw [LH.push_len]; omega
    have hr : D.ref N.len = D.ref (L.len + 1) := by rw [l1]
    generalize (N.push (iL (room0 c0 m w))) = K at *
    have e3 : oSetF cs "left" (.ref L.len) (.ref (L.len + 1)) K = .ok () (K.put L.len (.ins cc [("yard", yardD c0 w), ("left", .ref (L.len + 1))])) := o_setf g2 hc (by show 1 < 1000; decide)
    rw [hr]
    simp only [word_snoc, PD.w_ok, PD.w_exc, PD.w_ift, PD.w_iff, PD.w_c, PD.w_getK, PD.w_slt0, PD.w_slts, PD.w_set0, PD.w_sets, PD.w_wipe0, PD.w_wipes, PD.w_var, PD.w_1, PD.w_2, PD.w_nil, PD.w_cons, PD.w_app, PD.w_eif, PD.w_truK, PD.w_and, PD.w_or, PD.w_not, PD.w_call, PD.w_meth, PD.w_nonK, PD.w_make, PD.w_bm, PD.w_sl, PD.w_bNo, PD.w_intK, PD.w_bAt, PD.w_blK, PD.w_chn, PD.w_tb1, PD.w_lc, PD.w_turn, PD.w_yes, PD.w_tv, PD.w_tand, PD.w_tor, PD.w_tnot, PD.w_nm, PD.w_sub, PD.w_gnil, PD.w_gcons, PD.w_knx, PD.w_krt, PD.w_kbk, PD.w_kct, PD.w_kex, PD.w_seq, PD.w_next, PD.w_asg, PD.w_expr, PD.w_ret, PD.w_retN, PD.w_brk, PD.w_cnt, PD.w_if, PD.w_aug, PD.w_fset, PD.w_saug, PD.w_for, PD.w_while, PD.w_ie, PD.w_rt, PD.w_nx, PD.w_ex, PD.w_rg1, PD.w_rg2, PD.w_enu, PD.w_zip2, PD.w_zipT, PD.w_rgl1, PD.o_add_i, PD.o_sub_i, PD.o_lt_i, PD.o_le_i, PD.o_gt_i, PD.o_ge_i, PD.o_is_n, PD.o_is_b, PD.o_isnot_b, PD.o_isnot_n, PD.o_isn_non, PD.o_isn_int, PD.o_isn_tup, PD.o_neg_i, PD.o_tru_b, PD.o_int_i, PD.o_int_b, PD.o_len_t, PD.o_tup_t, PD.o_lst_t, PD.o_max2, PD.o_min2, PD.o_ix_0, PD.o_ix_1, PD.o_ix_2, PD.o_ix_3, PD.it_t, PD.it_r, PD.enu_t, PD.zip_t, PD.o_tup0, PD.o_tup1, PD.o_tup2, PD.o_tup3, PD.o_tup4, PD.o_lst0, PD.o_lst1, PD.o_lst2, PD.o_lst3, PD.o_lst4, PD.g_push, PD.w_lnx, PD.w_lct, PD.w_lbk, PD.w_lrt, PD.w_lex, PD.w_lcn, PD.w_lcs, PD.o_eq_s, PD.o_ne_s, PD.o_eq_i, PD.o_ne_i, PD.w_gtp2, PD.w_gtp3, PD.w_gtp4, PD.rg_map, PD.o_lstR0, PD.o_tupR0, PD.o_not_f, PD.o_not_t, PD.o_dec_tt, PD.o_nn, PD.o_ne_b, PD.o_eq_b, PD.o_bne_tf, PD.o_bne_ff, e3]
    have hk := LH.get_lt g2
    exact ⟨trivial, ⟨g_put hk, by rw [g_put_ne hk (by omega)]; exact ga⟩, d2.put _ (.inl (Nat.le_refl _)) hk, l2⟩
end
end EG
/-! E7: runs of the first giver. -/
namespace PD
open PySem
theorem Gr.new {S : List Nat} {L M N : LH} (a : Gr [] L M) (b : Gr S M N) (h : ∀ n ∈ S, L.len ≤ n) : Gr [] L N :=
  ⟨Nat.le_trans a.len b.len, fun n hn q => (b.get n (Nat.lt_of_lt_of_le hn a.len) fun z => by have := h n z; omega).trans (a.get n hn q)⟩
end PD
namespace EG
open PySem PD
/-- gifts so far of the giver at g -/
structure GJ (cc : Nat) (c0 : Int) (w : List Int) (g a : Nat) (left : List Int) (L : LH) (p : List (List Nat)) (ys : List D) (N : LH) : Prop where
  ex : ∃ gs : List (Option Nat), ys = gs.map giftD ∧ gs.length = p.length ∧ AllS (B1 w) left (p.zip gs) ∧ Gv cc c0 w g a (gs.foldl dec1 left) N
  gr : Gr [a] L N
section
variable {cc : Nat} {c0 : Int} {w left : List Int} {g a : Nat} {L N : LH} {p : List (List Nat)} {ys : List D} {r : List Nat} {R : Rec} {i : Nat}
theorem GJ.nil (h : Gv cc c0 w g a left L) : GJ cc c0 w g a left L [] [] L := ⟨⟨[], rfl, rfl, trivial, h⟩, .refl⟩
theorem GJ.step (h : GJ cc c0 w g a left L p ys N) (GO : GiveOk cc R i) (hr : Req w.length r) (hw : w.length ≤ 1000) (hl : left.length = w.length) : W (R i [.ref g, reqD r] N) (fun d M => GJ cc c0 w g a left L (p ++ [r]) (ys ++ [d]) M) nX := by
  obtain ⟨⟨gs, rfl, h1, h2, h3⟩, h4⟩ := h
  refine W_use (GO g a N c0 w _ r h3 hr hw (by rw [decs_len]; exact hl)) fun d M hM => ?_
  obtain ⟨o, rfl, hB, rfl⟩ := hM
  refine ⟨⟨gs ++ [o], by simp, by simp [h1], ?_, ?_⟩, h4.put _ (.inr (by simp)) (LH.get_lt h3.a)⟩
  · rw [zip_snoc h1.symm]
    refine allS_snoc.mpr ⟨h2, ?_⟩
    rw [zip_snd h1.symm]; exact hB
  · rw [List.foldl_append]
    exact h3.put
end
section
variable {F : Nat → Option Fn} {i ig ii : Nat} {cs : List Nat} {cc : Nat} {tb : List (Nat × Nat)}
def RunOk (cc : Nat) (R : Rec) (i : Nat) : Prop := ∀ (g a : Nat) (L : LH) (c0 : Int) (w left : List Int) (row : List (List Nat)), Gv cc c0 w g a left L → (∀ r ∈ row, Req w.length r) → w.length ≤ 1000 → left.length = w.length → row.length ≤ 1000 → W (R i [.ref g, rowD row] L) (fun d M => ∃ gs : List (Option Nat), d = giftsD gs ∧ gs.length = row.length ∧ AllS (B1 w) left (row.zip gs) ∧ Gv cc c0 w g a (gs.foldl dec1 left) M ∧ Gr [a] L M) nX
theorem runOk (hc : cs.contains cc = true) (h : F i = some (run_fn tb)) (hg : F ig = some (FirstGiver_give_fn cs)) (ht : tb.lookup cc = some ig) : From F 2 (RunOk cc · i) := by
  intro n g a L c0 w left row gv hr hw hl hn
  have GO := giveOk hc hg n
  rw [W_runN h rfl]
  unfold run_fn
  show WS _ _ [some (.ref g), some (rowD row), none] L _ _
  generalize PD.runN F (n + 1) = R at *
  simp only [word_snoc, PD.w_ok, PD.w_exc, PD.w_ift, PD.w_iff, PD.w_c, PD.w_getK, PD.w_slt0, PD.w_slts, PD.w_set0, PD.w_sets, PD.w_wipe0, PD.w_wipes, PD.w_var, PD.w_1, PD.w_2, PD.w_nil, PD.w_cons, PD.w_app, PD.w_eif, PD.w_truK, PD.w_and, PD.w_or, PD.w_not, PD.w_call, PD.w_meth, PD.w_nonK, PD.w_make, PD.w_bm, PD.w_sl, PD.w_bNo, PD.w_intK, PD.w_bAt, PD.w_blK, PD.w_chn, PD.w_tb1, PD.w_lc, PD.w_turn, PD.w_yes, PD.w_tv, PD.w_tand, PD.w_tor, PD.w_tnot, PD.w_nm, PD.w_sub, PD.w_gnil, PD.w_gcons, PD.w_knx, PD.w_krt, PD.w_kbk, PD.w_kct, PD.w_kex, PD.w_seq, PD.w_next, PD.w_asg, PD.w_expr, PD.w_ret, PD.w_retN, PD.w_brk, PD.w_cnt, PD.w_if, PD.w_aug, PD.w_fset, PD.w_saug, PD.w_for, PD.w_while, PD.w_ie, PD.w_rt, PD.w_nx, PD.w_ex, PD.w_rg1, PD.w_rg2, PD.w_enu, PD.w_zip2, PD.w_zipT, PD.w_rgl1, PD.o_add_i, PD.o_sub_i, PD.o_lt_i, PD.o_le_i, PD.o_gt_i, PD.o_ge_i, PD.o_is_n, PD.o_is_b, PD.o_isnot_b, PD.o_isnot_n, PD.o_isn_non, PD.o_isn_int, PD.o_isn_tup, PD.o_neg_i, PD.o_tru_b, PD.o_int_i, PD.o_int_b, PD.o_len_t, PD.o_tup_t, PD.o_lst_t, PD.o_max2, PD.o_min2, PD.o_ix_0, PD.o_ix_1, PD.o_ix_2, PD.o_ix_3, PD.it_t, PD.it_r, PD.enu_t, PD.zip_t, PD.o_tup0, PD.o_tup1, PD.o_tup2, PD.o_tup3, PD.o_tup4, PD.o_lst0, PD.o_lst1, PD.o_lst2, PD.o_lst3, PD.o_lst4, PD.g_push, PD.w_lnx, PD.w_lct, PD.w_lbk, PD.w_lrt, PD.w_lex, PD.w_lcn, PD.w_lcs, PD.o_eq_s, PD.o_ne_s, PD.o_eq_i, PD.o_ne_i, PD.w_gtp2, PD.w_gtp3, PD.w_gtp4, PD.rg_map, PD.o_lstR0, PD.o_tupR0, PD.o_not_f, PD.o_not_t, PD.o_dec_tt, PD.o_nn, PD.o_ne_b, PD.o_eq_b, PD.o_bne_tf, PD.o_bne_ff]
  refine lcW (GJ cc c0 w g a left L) (sz_of (by omega)) (GJ.nil gv) ?_ ?_
  · rintro p r q ys N e hy hJ
    obtain ⟨gs, _, _, _, h3⟩ := hJ.ex
    simp only [word_snoc, PD.w_ok, PD.w_exc, PD.w_ift, PD.w_iff, PD.w_c, PD.w_getK, PD.w_slt0, PD.w_slts, PD.w_set0, PD.w_sets, PD.w_wipe0, PD.w_wipes, PD.w_var, PD.w_1, PD.w_2, PD.w_nil, PD.w_cons, PD.w_app, PD.w_eif, PD.w_truK, PD.w_and, PD.w_or, PD.w_not, PD.w_call, PD.w_meth, PD.w_nonK, PD.w_make, PD.w_bm, PD.w_sl, PD.w_bNo, PD.w_intK, PD.w_bAt, PD.w_blK, PD.w_chn, PD.w_tb1, PD.w_lc, PD.w_turn, PD.w_yes, PD.w_tv, PD.w_tand, PD.w_tor, PD.w_tnot, PD.w_nm, PD.w_sub, PD.w_gnil, PD.w_gcons, PD.w_knx, PD.w_krt, PD.w_kbk, PD.w_kct, PD.w_kex, PD.w_seq, PD.w_next, PD.w_asg, PD.w_expr, PD.w_ret, PD.w_retN, PD.w_brk, PD.w_cnt, PD.w_if, PD.w_aug, PD.w_fset, PD.w_saug, PD.w_for, PD.w_while, PD.w_ie, PD.w_rt, PD.w_nx, PD.w_ex, PD.w_rg1, PD.w_rg2, PD.w_enu, PD.w_zip2, PD.w_zipT, PD.w_rgl1, PD.o_add_i, PD.o_sub_i, PD.o_lt_i, PD.o_le_i, PD.o_gt_i, PD.o_ge_i, PD.o_is_n, PD.o_is_b, PD.o_isnot_b, PD.o_isnot_n, PD.o_isn_non, PD.o_isn_int, PD.o_isn_tup, PD.o_neg_i, PD.o_tru_b, PD.o_int_i, PD.o_int_b, PD.o_len_t, PD.o_tup_t, PD.o_lst_t, PD.o_max2, PD.o_min2, PD.o_ix_0, PD.o_ix_1, PD.o_ix_2, PD.o_ix_3, PD.it_t, PD.it_r, PD.enu_t, PD.zip_t, PD.o_tup0, PD.o_tup1, PD.o_tup2, PD.o_tup3, PD.o_tup4, PD.o_lst0, PD.o_lst1, PD.o_lst2, PD.o_lst3, PD.o_lst4, PD.g_push, PD.w_lnx, PD.w_lct, PD.w_lbk, PD.w_lrt, PD.w_lex, PD.w_lcn, PD.w_lcs, PD.o_eq_s, PD.o_ne_s, PD.o_eq_i, PD.o_ne_i, PD.w_gtp2, PD.w_gtp3, PD.w_gtp4, PD.rg_map, PD.o_lstR0, PD.o_tupR0, PD.o_not_f, PD.o_not_t, PD.o_dec_tt, PD.o_nn, PD.o_ne_b, PD.o_eq_b, PD.o_bne_tf, PD.o_bne_ff, methK_of (m := "give") h3.g ht rfl]
    exact hJ.step GO (hr r (split_mem e)) hw hl
  · rintro ys N hy ⟨⟨gs, rfl, h1, h2, h3⟩, h4⟩
    have g1 : (N.push (.lst (gs.map giftD))).get N.len = some (.lst (gs.map giftD)) := g_push
    simp only [word_snoc, PD.w_ok, PD.w_exc, PD.w_ift, PD.w_iff, PD.w_c, PD.w_getK, PD.w_slt0, PD.w_slts, PD.w_set0, PD.w_sets, PD.w_wipe0, PD.w_wipes, PD.w_var, PD.w_1, PD.w_2, PD.w_nil, PD.w_cons, PD.w_app, PD.w_eif, PD.w_truK, PD.w_and, PD.w_or, PD.w_not, PD.w_call, PD.w_meth, PD.w_nonK, PD.w_make, PD.w_bm, PD.w_sl, PD.w_bNo, PD.w_intK, PD.w_bAt, PD.w_blK, PD.w_chn, PD.w_tb1, PD.w_lc, PD.w_turn, PD.w_yes, PD.w_tv, PD.w_tand, PD.w_tor, PD.w_tnot, PD.w_nm, PD.w_sub, PD.w_gnil, PD.w_gcons, PD.w_knx, PD.w_krt, PD.w_kbk, PD.w_kct, PD.w_kex, PD.w_seq, PD.w_next, PD.w_asg, PD.w_expr, PD.w_ret, PD.w_retN, PD.w_brk, PD.w_cnt, PD.w_if, PD.w_aug, PD.w_fset, PD.w_saug, PD.w_for, PD.w_while, PD.w_ie, PD.w_rt, PD.w_nx, PD.w_ex, PD.w_rg1, PD.w_rg2, PD.w_enu, PD.w_zip2, PD.w_zipT, PD.w_rgl1, PD.o_add_i, PD.o_sub_i, PD.o_lt_i, PD.o_le_i, PD.o_gt_i, PD.o_ge_i, PD.o_is_n, PD.o_is_b, PD.o_isnot_b, PD.o_isnot_n, PD.o_isn_non, PD.o_isn_int, PD.o_isn_tup, PD.o_neg_i, PD.o_tru_b, PD.o_int_i, PD.o_int_b, PD.o_len_t, PD.o_tup_t, PD.o_lst_t, PD.o_max2, PD.o_min2, PD.o_ix_0, PD.o_ix_1, PD.o_ix_2, PD.o_ix_3, PD.it_t, PD.it_r, PD.enu_t, PD.zip_t, PD.o_tup0, PD.o_tup1, PD.o_tup2, PD.o_tup3, PD.o_tup4, PD.o_lst0, PD.o_lst1, PD.o_lst2, PD.o_lst3, PD.o_lst4, PD.g_push, PD.w_lnx, PD.w_lct, PD.w_lbk, PD.w_lrt, PD.w_lex, PD.w_lcn, PD.w_lcs, PD.o_eq_s, PD.o_ne_s, PD.o_eq_i, PD.o_ne_i, PD.w_gtp2, PD.w_gtp3, PD.w_gtp4, PD.rg_map, PD.o_lstR0, PD.o_tupR0, PD.o_not_f, PD.o_not_t, PD.o_dec_tt, PD.o_nn, PD.o_ne_b, PD.o_eq_b, PD.o_bne_tf, PD.o_bne_ff, o_tup_l g1]
    exact ⟨gs, rfl, h1, h2, h3.gr (S := []) (Gr.refl.push _) (by simp) (by simp), h4.push _⟩
def FirstsOk (R : Rec) (i : Nat) : Prop := FirstOk R i
theorem firstsOk (hc : cs.contains cc = true) (h : F i = some (first_gifts_fn tb cc ii)) (hi : F ii = some (FirstGiver__init_fn cs)) (hg : F ig = some (FirstGiver_give_fn cs)) (ht : tb.lookup cc = some ig) : From F 2 (FirstOk · i) := by
  intro n L c0 m w row ft
  have GO := giveOk hc hg n
  have MO := madeOk hc hi n
  rw [W_runN h rfl]
  unfold first_gifts_fn
  show WS _ _ [some (yardD c0 w), some (.int m), some (rowD row), none, none] L _ _
  generalize PD.runN F (n + 1) = R at *
  simp only [word_snoc, PD.w_ok, PD.w_exc, PD.w_ift, PD.w_iff, PD.w_c, PD.w_getK, PD.w_slt0, PD.w_slts, PD.w_set0, PD.w_sets, PD.w_wipe0, PD.w_wipes, PD.w_var, PD.w_1, PD.w_2, PD.w_nil, PD.w_cons, PD.w_app, PD.w_eif, PD.w_truK, PD.w_and, PD.w_or, PD.w_not, PD.w_call, PD.w_meth, PD.w_nonK, PD.w_make, PD.w_bm, PD.w_sl, PD.w_bNo, PD.w_intK, PD.w_bAt, PD.w_blK, PD.w_chn, PD.w_tb1, PD.w_lc, PD.w_turn, PD.w_yes, PD.w_tv, PD.w_tand, PD.w_tor, PD.w_tnot, PD.w_nm, PD.w_sub, PD.w_gnil, PD.w_gcons, PD.w_knx, PD.w_krt, PD.w_kbk, PD.w_kct, PD.w_kex, PD.w_seq, PD.w_next, PD.w_asg, PD.w_expr, PD.w_ret, PD.w_retN, PD.w_brk, PD.w_cnt, PD.w_if, PD.w_aug, PD.w_fset, PD.w_saug, PD.w_for, PD.w_while, PD.w_ie, PD.w_rt, PD.w_nx, PD.w_ex, PD.w_rg1, PD.w_rg2, PD.w_enu, PD.w_zip2, PD.w_zipT, PD.w_rgl1, PD.o_add_i, PD.o_sub_i, PD.o_lt_i, PD.o_le_i, PD.o_gt_i, PD.o_ge_i, PD.o_is_n, PD.o_is_b, PD.o_isnot_b, PD.o_isnot_n, PD.o_isn_non, PD.o_isn_int, PD.o_isn_tup, PD.o_neg_i, PD.o_tru_b, PD.o_int_i, PD.o_int_b, PD.o_len_t, PD.o_tup_t, PD.o_lst_t, PD.o_max2, PD.o_min2, PD.o_ix_0, PD.o_ix_1, PD.o_ix_2, PD.o_ix_3, PD.it_t, PD.it_r, PD.enu_t, PD.zip_t, PD.o_tup0, PD.o_tup1, PD.o_tup2, PD.o_tup3, PD.o_tup4, PD.o_lst0, PD.o_lst1, PD.o_lst2, PD.o_lst3, PD.o_lst4, PD.g_push, PD.w_lnx, PD.w_lct, PD.w_lbk, PD.w_lrt, PD.w_lex, PD.w_lcn, PD.w_lcs, PD.o_eq_s, PD.o_ne_s, PD.o_eq_i, PD.o_ne_i, PD.w_gtp2, PD.w_gtp3, PD.w_gtp4, PD.rg_map, PD.o_lstR0, PD.o_tupR0, PD.o_not_f, PD.o_not_t, PD.o_dec_tt, PD.o_nn, PD.o_ne_b, PD.o_eq_b, PD.o_bne_tf, PD.o_bne_ff]
  refine W_use (MO L c0 m w row ft) fun d M hM => ?_
  obtain ⟨rfl, gv, d0, l0⟩ := hM
  simp only [word_snoc, PD.w_ok, PD.w_exc, PD.w_ift, PD.w_iff, PD.w_c, PD.w_getK, PD.w_slt0, PD.w_slts, PD.w_set0, PD.w_sets, PD.w_wipe0, PD.w_wipes, PD.w_var, PD.w_1, PD.w_2, PD.w_nil, PD.w_cons, PD.w_app, PD.w_eif, PD.w_truK, PD.w_and, PD.w_or, PD.w_not, PD.w_call, PD.w_meth, PD.w_nonK, PD.w_make, PD.w_bm, PD.w_sl, PD.w_bNo, PD.w_intK, PD.w_bAt, PD.w_blK, PD.w_chn, PD.w_tb1, PD.w_lc, PD.w_turn, PD.w_yes, PD.w_tv, PD.w_tand, PD.w_tor, PD.w_tnot, PD.w_nm, PD.w_sub, PD.w_gnil, PD.w_gcons, PD.w_knx, PD.w_krt, PD.w_kbk, PD.w_kct, PD.w_kex, PD.w_seq, PD.w_next, PD.w_asg, PD.w_expr, PD.w_ret, PD.w_retN, PD.w_brk, PD.w_cnt, PD.w_if, PD.w_aug, PD.w_fset, PD.w_saug, PD.w_for, PD.w_while, PD.w_ie, PD.w_rt, PD.w_nx, PD.w_ex, PD.w_rg1, PD.w_rg2, PD.w_enu, PD.w_zip2, PD.w_zipT, PD.w_rgl1, PD.o_add_i, PD.o_sub_i, PD.o_lt_i, PD.o_le_i, PD.o_gt_i, PD.o_ge_i, PD.o_is_n, PD.o_is_b, PD.o_isnot_b, PD.o_isnot_n, PD.o_isn_non, PD.o_isn_int, PD.o_isn_tup, PD.o_neg_i, PD.o_tru_b, PD.o_int_i, PD.o_int_b, PD.o_len_t, PD.o_tup_t, PD.o_lst_t, PD.o_max2, PD.o_min2, PD.o_ix_0, PD.o_ix_1, PD.o_ix_2, PD.o_ix_3, PD.it_t, PD.it_r, PD.enu_t, PD.zip_t, PD.o_tup0, PD.o_tup1, PD.o_tup2, PD.o_tup3, PD.o_tup4, PD.o_lst0, PD.o_lst1, PD.o_lst2, PD.o_lst3, PD.o_lst4, PD.g_push, PD.w_lnx, PD.w_lct, PD.w_lbk, PD.w_lrt, PD.w_lex, PD.w_lcn, PD.w_lcs, PD.o_eq_s, PD.o_ne_s, PD.o_eq_i, PD.o_ne_i, PD.w_gtp2, PD.w_gtp3, PD.w_gtp4, PD.rg_map, PD.o_lstR0, PD.o_tupR0, PD.o_not_f, PD.o_not_t, PD.o_dec_tt, PD.o_nn, PD.o_ne_b, PD.o_eq_b, PD.o_bne_tf, PD.o_bne_ff]
  have hlen : (room0 c0 m w).length = w.length := List.length_replicate
  refine lcW (GJ cc c0 w L.len (L.len + 1) (room0 c0 m w) M) (sz_of (by have := ft.n; omega)) (GJ.nil gv) ?_ ?_
  · rintro p r q ys N e hy hJ
    obtain ⟨gs, _, _, _, h3⟩ := hJ.ex
    simp only [word_snoc, PD.w_ok, PD.w_exc, PD.w_ift, PD.w_iff, PD.w_c, PD.w_getK, PD.w_slt0, PD.w_slts, PD.w_set0, PD.w_sets, PD.w_wipe0, PD.w_wipes, PD.w_var, PD.w_1, PD.w_2, PD.w_nil, PD.w_cons, PD.w_app, PD.w_eif, PD.w_truK, PD.w_and, PD.w_or, PD.w_not, PD.w_call, PD.w_meth, PD.w_nonK, PD.w_make, PD.w_bm, PD.w_sl, PD.w_bNo, PD.w_intK, PD.w_bAt, PD.w_blK, PD.w_chn, PD.w_tb1, PD.w_lc, PD.w_turn, PD.w_yes, PD.w_tv, PD.w_tand, PD.w_tor, PD.w_tnot, PD.w_nm, PD.w_sub, PD.w_gnil, PD.w_gcons, PD.w_knx, PD.w_krt, PD.w_kbk, PD.w_kct, PD.w_kex, PD.w_seq, PD.w_next, PD.w_asg, PD.w_expr, PD.w_ret, PD.w_retN, PD.w_brk, PD.w_cnt, PD.w_if, PD.w_aug, PD.w_fset, PD.w_saug, PD.w_for, PD.w_while, PD.w_ie, PD.w_rt, PD.w_nx, PD.w_ex, PD.w_rg1, PD.w_rg2, PD.w_enu, PD.w_zip2, PD.w_zipT, PD.w_rgl1, PD.o_add_i, PD.o_sub_i, PD.o_lt_i, PD.o_le_i, PD.o_gt_i, PD.o_ge_i, PD.o_is_n, PD.o_is_b, PD.o_isnot_b, PD.o_isnot_n, PD.o_isn_non, PD.o_isn_int, PD.o_isn_tup, PD.o_neg_i, PD.o_tru_b, PD.o_int_i, PD.o_int_b, PD.o_len_t, PD.o_tup_t, PD.o_lst_t, PD.o_max2, PD.o_min2, PD.o_ix_0, PD.o_ix_1, PD.o_ix_2, PD.o_ix_3, PD.it_t, PD.it_r, PD.enu_t, PD.zip_t, PD.o_tup0, PD.o_tup1, PD.o_tup2, PD.o_tup3, PD.o_tup4, PD.o_lst0, PD.o_lst1, PD.o_lst2, PD.o_lst3, PD.o_lst4, PD.g_push, PD.w_lnx, PD.w_lct, PD.w_lbk, PD.w_lrt, PD.w_lex, PD.w_lcn, PD.w_lcs, PD.o_eq_s, PD.o_ne_s, PD.o_eq_i, PD.o_ne_i, PD.w_gtp2, PD.w_gtp3, PD.w_gtp4, PD.rg_map, PD.o_lstR0, PD.o_tupR0, PD.o_not_f, PD.o_not_t, PD.o_dec_tt, PD.o_nn, PD.o_ne_b, PD.o_eq_b, PD.o_bne_tf, PD.o_bne_ff, methK_of (m := "give") h3.g ht rfl]
    exact hJ.step GO (ft.r r (split_mem e)) ft.w2 hlen
  · rintro ys N hy ⟨⟨gs, rfl, h1, h2, h3⟩, h4⟩
    have g1 : (N.push (.lst (gs.map giftD))).get N.len = some (.lst (gs.map giftD)) := g_push
    simp only [word_snoc, PD.w_ok, PD.w_exc, PD.w_ift, PD.w_iff, PD.w_c, PD.w_getK, PD.w_slt0, PD.w_slts, PD.w_set0, PD.w_sets, PD.w_wipe0, PD.w_wipes, PD.w_var, PD.w_1, PD.w_2, PD.w_nil, PD.w_cons, PD.w_app, PD.w_eif, PD.w_truK, PD.w_and, PD.w_or, PD.w_not, PD.w_call, PD.w_meth, PD.w_nonK, PD.w_make, PD.w_bm, PD.w_sl, PD.w_bNo, PD.w_intK, PD.w_bAt, PD.w_blK, PD.w_chn, PD.w_tb1, PD.w_lc, PD.w_turn, PD.w_yes, PD.w_tv, PD.w_tand, PD.w_tor, PD.w_tnot, PD.w_nm, PD.w_sub, PD.w_gnil, PD.w_gcons, PD.w_knx, PD.w_krt, PD.w_kbk, PD.w_kct, PD.w_kex, PD.w_seq, PD.w_next, PD.w_asg, PD.w_expr, PD.w_ret, PD.w_retN, PD.w_brk, PD.w_cnt, PD.w_if, PD.w_aug, PD.w_fset, PD.w_saug, PD.w_for, PD.w_while, PD.w_ie, PD.w_rt, PD.w_nx, PD.w_ex, PD.w_rg1, PD.w_rg2, PD.w_enu, PD.w_zip2, PD.w_zipT, PD.w_rgl1, PD.o_add_i, PD.o_sub_i, PD.o_lt_i, PD.o_le_i, PD.o_gt_i, PD.o_ge_i, PD.o_is_n, PD.o_is_b, PD.o_isnot_b, PD.o_isnot_n, PD.o_isn_non, PD.o_isn_int, PD.o_isn_tup, PD.o_neg_i, PD.o_tru_b, PD.o_int_i, PD.o_int_b, PD.o_len_t, PD.o_tup_t, PD.o_lst_t, PD.o_max2, PD.o_min2, PD.o_ix_0, PD.o_ix_1, PD.o_ix_2, PD.o_ix_3, PD.it_t, PD.it_r, PD.enu_t, PD.zip_t, PD.o_tup0, PD.o_tup1, PD.o_tup2, PD.o_tup3, PD.o_tup4, PD.o_lst0, PD.o_lst1, PD.o_lst2, PD.o_lst3, PD.o_lst4, PD.g_push, PD.w_lnx, PD.w_lct, PD.w_lbk, PD.w_lrt, PD.w_lex, PD.w_lcn, PD.w_lcs, PD.o_eq_s, PD.o_ne_s, PD.o_eq_i, PD.o_ne_i, PD.w_gtp2, PD.w_gtp3, PD.w_gtp4, PD.rg_map, PD.o_lstR0, PD.o_tupR0, PD.o_not_f, PD.o_not_t, PD.o_dec_tt, PD.o_nn, PD.o_ne_b, PD.o_eq_b, PD.o_bne_tf, PD.o_bne_ff, o_tup_l g1]
    refine ⟨gs, rfl, h1, h2, ?_⟩
    exact d0.new (h4.push _) (by intro n hn; rw [List.mem_singleton.mp hn]; omega)
end
end EG
/-! E8: whether gifts are eager: the program's answer, the law's answer. -/
namespace EG
open PySem PD
def goodB (w left : List Int) (r : List Nat) (g : Option Nat) : Bool := match g with
  | none => (rooms left r).isEmpty
  | some h => decide (wOf w h = maxL ((rooms left r).map (wOf w)))
def eagerB (w : List Int) : List Int → List (List Nat × Option Nat) → Bool
  | _, [] => true
  | left, (r, g) :: t => if goodB w left r g = true then eagerB w (dec1 left g) t else false
def VS (w : List Int) : List Int → List (List Nat × Option Nat) → Prop
  | _, [] => True
  | left, (r, g) :: t => V1 left r g ∧ (goodB w left r g = true → VS w (dec1 left g) t)
theorem VS.of {w : List Int} : ∀ {l : List (List Nat × Option Nat)} {left : List Int}, AllS V1 left l → VS w left l
  | [], _, _ => trivial
  | (r, g) :: t, left, h => ⟨h.1, fun _ => VS.of h.2⟩
theorem E1.v {w left : List Int} {r : List Nat} {g : Option Nat} (h : EG.E1 w left r g) : V1 left r g := by
  cases g with
  | none => trivial
  | some a => exact h.1
theorem E1.good {w left : List Int} {r : List Nat} {g : Option Nat} (h : EG.E1 w left r g) : goodB w left r g = true := by
  cases g with
  | none => unfold goodB; dsimp only; rw [show rooms left r = [] from h]; rfl
  | some a =>
    unfold goodB
    dsimp only
    apply decide_eq_true
    have h1 : wOf w a ∈ (rooms left r).map (wOf w) := List.mem_map_of_mem h.1
    have h2 := maxL_ge h1
    obtain ⟨b, hb, e⟩ := List.mem_map.mp (maxL_mem (List.ne_nil_of_mem h1))
    have h3 := h.2 b hb
    omega
theorem eagerB_true {w : List Int} : ∀ {l : List (List Nat × Option Nat)} {left : List Int}, AllS (EG.E1 w) left l → eagerB w left l = true
  | [], _, _ => rfl
  | (r, g) :: t, left, h => by
    unfold eagerB
    rw [if_pos h.1.good]
    exact eagerB_true h.2
/-- a gift replaced by none -/
theorem late_VS {w : List Int} : ∀ {row : List (List Nat)} {gs : List (Option Nat)} {left : List Int} (k : Nat), AllS (EG.E1 w) left (row.zip gs) → VS w left (row.zip (gs.take k ++ none :: gs.drop (k + 1)))
  | [], gs, left, k, h => by simp [VS]
  | r :: row, [], left, k, h => by
    simp only [List.take_nil, List.drop_nil, List.nil_append, List.zip_cons_cons, List.zip_nil_right]
    exact ⟨trivial, fun _ => trivial⟩
  | r :: row, g :: gs, left, 0, h => by
    simp only [List.take_zero, List.nil_append, List.drop_succ_cons, List.drop_zero, List.zip_cons_cons]
    rw [List.zip_cons_cons] at h
    refine ⟨trivial, fun q => ?_⟩
    have hn : rooms left r = [] := by simpa [goodB] using q
    have hg : g = none := by
      cases g with
      | none => rfl
      | some a => have := h.1.1; rw [hn] at this; cases this
    subst hg
    exact VS.of (allS_imp (fun _ _ _ z => E1.v z) h.2)
  | r :: row, g :: gs, left, k + 1, h => by
    simp only [List.take_succ_cons, List.cons_append, List.drop_succ_cons, List.zip_cons_cons]
    rw [List.zip_cons_cons] at h
    exact ⟨h.1.v, fun _ => late_VS k h.2⟩
abbrev zD (p : List Nat × Option Nat) : D := .tup [reqD p.1, giftD p.2]
theorem zip_D (row : List (List Nat)) (g : List (Option Nat)) : zipL (row.map reqD) (g.map giftD) = (row.zip g).map zD := zipL_map ..
theorem zip_mem {α β : Type} {l : List α} {m : List β} {p : α × β} (h : p ∈ l.zip m) : p.1 ∈ l := (List.of_mem_zip h).1
def EagOk (R : Rec) (i : Nat) : Prop := ∀ (L : LH) (c0 m : Int) (w : List Int) (row : List (List Nat)) (g : List (Option Nat)), Fit c0 m w row → g.length = row.length → VS w (room0 c0 m w) (row.zip g) → W (R i [yardD c0 w, .int m, rowD row, giftsD g] L) (fun d M => d = .bl (eagerB w (room0 c0 m w) (row.zip g)) ∧ Gr [] L M) nX
/-- how far the walk is -/
structure EJ (w left0 : List Int) (l : List (List Nat × Option Nat)) (a : Nat) (L : LH) (p : List (List Nat × Option Nat)) (N : LH) : Prop where
  ga : N.get a = some (iL ((p.map (·.2)).foldl dec1 left0))
  gr : Gr [] L N
  vs : ∀ q, l = p ++ q → eagerB w left0 l = eagerB w ((p.map (·.2)).foldl dec1 left0) q ∧ VS w ((p.map (·.2)).foldl dec1 left0) q
section
variable {w left0 : List Int} {l p q : List (List Nat × Option Nat)} {a : Nat} {L N M : LH} {x : List Nat × Option Nat} {h : Nat}
theorem EJ.grow (j : EJ w left0 l a L p N) (g : Gr [] N M) : EJ w left0 l a L p M := ⟨g.at0 j.ga, j.gr.trans g, j.vs⟩
theorem EJ.bad (j : EJ w left0 l a L p N) (e : l = p ++ x :: q) (h : goodB w ((p.map (·.2)).foldl dec1 left0) x.1 x.2 = false) : eagerB w left0 l = false := by
  rw [(j.vs _ e).1]
  obtain ⟨r, g⟩ := x
  rw [show eagerB w _ ((r, g) :: q) = if goodB w ((p.map (·.2)).foldl dec1 left0) r g = true then _ else false from rfl, h]; rfl
theorem EJ.next (j : EJ w left0 l a L p N) (e : l = p ++ x :: q) (h : goodB w ((p.map (·.2)).foldl dec1 left0) x.1 x.2 = true) : ∀ q, l = (p ++ [x]) ++ q → eagerB w left0 l = eagerB w (((p ++ [x]).map (·.2)).foldl dec1 left0) q ∧ VS w (((p ++ [x]).map (·.2)).foldl dec1 left0) q := by
  intro q' e'
  have e2 : l = p ++ x :: q' := by rw [e', List.append_assoc]; rfl
  have ⟨h1, h2⟩ := j.vs _ e2
  rw [List.map_append, List.foldl_append]
  refine ⟨?_, h2.2 h⟩
  rw [h1]
  obtain ⟨r, g⟩ := x
  show eagerB w _ ((r, g) :: q') = eagerB w (dec1 _ g) q'
  rw [show eagerB w _ ((r, g) :: q') = if goodB w ((p.map (·.2)).foldl dec1 left0) r g = true then _ else false from rfl, if_pos h]
end
section
variable {F : Nat → Option Fn} {i : Nat}
theorem eagOk (h : F i = some is_eager_fn) : From F 1 (EagOk · i) := by
  intro n L c0 m w row g ft hg hv
  have z := ft.w2
  have c1 := ft.c1
  have c2 := ft.c2
  have m1 := ft.m1
  have m2 := ft.m2
  rw [W_runN h rfl]
  unfold is_eager_fn
  show WS _ _ [some (yardD c0 w), some (.int m), some (rowD row), some (giftsD g), none, none, none, none, none, none] L _ _
  generalize PD.runN F n = R at *
  have b1 : oMul (.int m) (.int c0) L = .ok (.int (m * c0)) L := o_mul_i (.inl (by unfold big64; omega))
  simp only [word_snoc, PD.w_ok, PD.w_exc, PD.w_ift, PD.w_iff, PD.w_c, PD.w_getK, PD.w_slt0, PD.w_slts, PD.w_set0, PD.w_sets, PD.w_wipe0, PD.w_wipes, PD.w_var, PD.w_1, PD.w_2, PD.w_nil, PD.w_cons, PD.w_app, PD.w_eif, PD.w_truK, PD.w_and, PD.w_or, PD.w_not, PD.w_call, PD.w_meth, PD.w_nonK, PD.w_make, PD.w_bm, PD.w_sl, PD.w_bNo, PD.w_intK, PD.w_bAt, PD.w_blK, PD.w_chn, PD.w_tb1, PD.w_lc, PD.w_turn, PD.w_yes, PD.w_tv, PD.w_tand, PD.w_tor, PD.w_tnot, PD.w_nm, PD.w_sub, PD.w_gnil, PD.w_gcons, PD.w_knx, PD.w_krt, PD.w_kbk, PD.w_kct, PD.w_kex, PD.w_seq, PD.w_next, PD.w_asg, PD.w_expr, PD.w_ret, PD.w_retN, PD.w_brk, PD.w_cnt, PD.w_if, PD.w_aug, PD.w_fset, PD.w_saug, PD.w_for, PD.w_while, PD.w_ie, PD.w_rt, PD.w_nx, PD.w_ex, PD.w_rg1, PD.w_rg2, PD.w_enu, PD.w_zip2, PD.w_zipT, PD.w_rgl1, PD.o_add_i, PD.o_sub_i, PD.o_lt_i, PD.o_le_i, PD.o_gt_i, PD.o_ge_i, PD.o_is_n, PD.o_is_b, PD.o_isnot_b, PD.o_isnot_n, PD.o_isn_non, PD.o_isn_int, PD.o_isn_tup, PD.o_neg_i, PD.o_tru_b, PD.o_int_i, PD.o_int_b, PD.o_len_t, PD.o_tup_t, PD.o_lst_t, PD.o_max2, PD.o_min2, PD.o_ix_0, PD.o_ix_1, PD.o_ix_2, PD.o_ix_3, PD.it_t, PD.it_r, PD.enu_t, PD.zip_t, PD.o_tup0, PD.o_tup1, PD.o_tup2, PD.o_tup3, PD.o_tup4, PD.o_lst0, PD.o_lst1, PD.o_lst2, PD.o_lst3, PD.o_lst4, PD.g_push, PD.w_lnx, PD.w_lct, PD.w_lbk, PD.w_lrt, PD.w_lex, PD.w_lcn, PD.w_lcs, PD.o_eq_s, PD.o_ne_s, PD.o_eq_i, PD.o_ne_i, PD.w_gtp2, PD.w_gtp3, PD.w_gtp4, PD.rg_map, PD.o_lstR0, PD.o_tupR0, PD.o_not_f, PD.o_not_t, PD.o_dec_tt, PD.o_nn, PD.o_ne_b, PD.o_eq_b, PD.o_bne_tf, PD.o_bne_ff]
  refine lcPure (fun _ => some (.int (m * c0))) (sz_of (by omega)) (fun a ha => ?_) ?_
  · simp only [word_snoc, PD.w_ok, PD.w_exc, PD.w_ift, PD.w_iff, PD.w_c, PD.w_getK, PD.w_slt0, PD.w_slts, PD.w_set0, PD.w_sets, PD.w_wipe0, PD.w_wipes, PD.w_var, PD.w_1, PD.w_2, PD.w_nil, PD.w_cons, PD.w_app, PD.w_eif, PD.w_truK, PD.w_and, PD.w_or, PD.w_not, PD.w_call, PD.w_meth, PD.w_nonK, PD.w_make, PD.w_bm, PD.w_sl, PD.w_bNo, PD.w_intK, PD.w_bAt, PD.w_blK, PD.w_chn, PD.w_tb1, PD.w_lc, PD.w_turn, PD.w_yes, PD.w_tv, PD.w_tand, PD.w_tor, PD.w_tnot, PD.w_nm, PD.w_sub, PD.w_gnil, PD.w_gcons, PD.w_knx, PD.w_krt, PD.w_kbk, PD.w_kct, PD.w_kex, PD.w_seq, PD.w_next, PD.w_asg, PD.w_expr, PD.w_ret, PD.w_retN, PD.w_brk, PD.w_cnt, PD.w_if, PD.w_aug, PD.w_fset, PD.w_saug, PD.w_for, PD.w_while, PD.w_ie, PD.w_rt, PD.w_nx, PD.w_ex, PD.w_rg1, PD.w_rg2, PD.w_enu, PD.w_zip2, PD.w_zipT, PD.w_rgl1, PD.o_add_i, PD.o_sub_i, PD.o_lt_i, PD.o_le_i, PD.o_gt_i, PD.o_ge_i, PD.o_is_n, PD.o_is_b, PD.o_isnot_b, PD.o_isnot_n, PD.o_isn_non, PD.o_isn_int, PD.o_isn_tup, PD.o_neg_i, PD.o_tru_b, PD.o_int_i, PD.o_int_b, PD.o_len_t, PD.o_tup_t, PD.o_lst_t, PD.o_max2, PD.o_min2, PD.o_ix_0, PD.o_ix_1, PD.o_ix_2, PD.o_ix_3, PD.it_t, PD.it_r, PD.enu_t, PD.zip_t, PD.o_tup0, PD.o_tup1, PD.o_tup2, PD.o_tup3, PD.o_tup4, PD.o_lst0, PD.o_lst1, PD.o_lst2, PD.o_lst3, PD.o_lst4, PD.g_push, PD.w_lnx, PD.w_lct, PD.w_lbk, PD.w_lrt, PD.w_lex, PD.w_lcn, PD.w_lcs, PD.o_eq_s, PD.o_ne_s, PD.o_eq_i, PD.o_ne_i, PD.w_gtp2, PD.w_gtp3, PD.w_gtp4, PD.rg_map, PD.o_lstR0, PD.o_tupR0, PD.o_not_f, PD.o_not_t, PD.o_dec_tt, PD.o_nn, PD.o_ne_b, PD.o_eq_b, PD.o_bne_tf, PD.o_bne_ff, b1]
    exact ⟨trivial, trivial⟩
  have e2 : w.filterMap (fun _ => some (D.int (m * c0))) = (room0 c0 m w).map D.int := by
    rw [fm_some]; unfold room0
    rw [List.map_const', List.map_replicate]
  rw [e2]
  have zz : ∀ H, itZipS [rowD row, giftsD g] H = .ok (.pur ((row.zip g).map zD)) H := fun H => by rw [zipS_t (by simp [hg]), zip_D]
  simp only [word_snoc, PD.w_ok, PD.w_exc, PD.w_ift, PD.w_iff, PD.w_c, PD.w_getK, PD.w_slt0, PD.w_slts, PD.w_set0, PD.w_sets, PD.w_wipe0, PD.w_wipes, PD.w_var, PD.w_1, PD.w_2, PD.w_nil, PD.w_cons, PD.w_app, PD.w_eif, PD.w_truK, PD.w_and, PD.w_or, PD.w_not, PD.w_call, PD.w_meth, PD.w_nonK, PD.w_make, PD.w_bm, PD.w_sl, PD.w_bNo, PD.w_intK, PD.w_bAt, PD.w_blK, PD.w_chn, PD.w_tb1, PD.w_lc, PD.w_turn, PD.w_yes, PD.w_tv, PD.w_tand, PD.w_tor, PD.w_tnot, PD.w_nm, PD.w_sub, PD.w_gnil, PD.w_gcons, PD.w_knx, PD.w_krt, PD.w_kbk, PD.w_kct, PD.w_kex, PD.w_seq, PD.w_next, PD.w_asg, PD.w_expr, PD.w_ret, PD.w_retN, PD.w_brk, PD.w_cnt, PD.w_if, PD.w_aug, PD.w_fset, PD.w_saug, PD.w_for, PD.w_while, PD.w_ie, PD.w_rt, PD.w_nx, PD.w_ex, PD.w_rg1, PD.w_rg2, PD.w_enu, PD.w_zip2, PD.w_zipT, PD.w_rgl1, PD.o_add_i, PD.o_sub_i, PD.o_lt_i, PD.o_le_i, PD.o_gt_i, PD.o_ge_i, PD.o_is_n, PD.o_is_b, PD.o_isnot_b, PD.o_isnot_n, PD.o_isn_non, PD.o_isn_int, PD.o_isn_tup, PD.o_neg_i, PD.o_tru_b, PD.o_int_i, PD.o_int_b, PD.o_len_t, PD.o_tup_t, PD.o_lst_t, PD.o_max2, PD.o_min2, PD.o_ix_0, PD.o_ix_1, PD.o_ix_2, PD.o_ix_3, PD.it_t, PD.it_r, PD.enu_t, PD.zip_t, PD.o_tup0, PD.o_tup1, PD.o_tup2, PD.o_tup3, PD.o_tup4, PD.o_lst0, PD.o_lst1, PD.o_lst2, PD.o_lst3, PD.o_lst4, PD.g_push, PD.w_lnx, PD.w_lct, PD.w_lbk, PD.w_lrt, PD.w_lex, PD.w_lcn, PD.w_lcs, PD.o_eq_s, PD.o_ne_s, PD.o_eq_i, PD.o_ne_i, PD.w_gtp2, PD.w_gtp3, PD.w_gtp4, PD.rg_map, PD.o_lstR0, PD.o_tupR0, PD.o_not_f, PD.o_not_t, PD.o_dec_tt, PD.o_nn, PD.o_ne_b, PD.o_eq_b, PD.o_bne_tf, PD.o_bne_ff, zz]
  have hrl0 : (room0 c0 m w).length = w.length := List.length_replicate
  have ga : (L.push (iL (room0 c0 m w))).get L.len = some (iL (room0 c0 m w)) := g_push
  have d0 : Gr [] L (L.push (iL (room0 c0 m w))) := Gr.refl.push _
  generalize (L.push (iL (room0 c0 m w))) = L0 at *
  generalize room0 c0 m w = left0 at *
  refine forW (fun p ρ N => ∃ o5 o6 o7 o8 o9 : Option D, ρ = [some (yardD c0 w), some (.int m), some (rowD row), some (giftsD g), some (.ref L.len), o5, o6, o7, o8, o9] ∧ EJ w left0 (row.zip g) L.len L p N) ⟨_, _, _, _, _, rfl, ga, d0, fun q e => by rw [List.nil_append] at e; subst e; exact ⟨rfl, hv⟩⟩ ?_ ?_
  · rintro p x q ρ N e ⟨o5, o6, o7, o8, o9, rfl, j⟩
    have hrq := ft.r x.1 (zip_mem (split_mem e))
    have hbad := j.bad e
    have hnext := j.next e
    have hV := (j.vs _ e).2.1
    have ga := j.ga
    have hlen : ((p.map (·.2)).foldl dec1 left0).length = w.length := by rw [decs_len, hrl0]
    have hrl : (rooms ((p.map (·.2)).foldl dec1 left0) x.1).length ≤ 1000 := Nat.le_trans (List.length_filter_le ..) (by have : x.1.length ≤ w.length := hrq.len; omega)
    have hfin : ∀ h M, x.2 = some h → Gr [] N M → h < w.length → ∃ K, oIx (.ref L.len) (nD h) M = .ok (.int (((p.map (·.2)).foldl dec1 left0).getD h 0)) M ∧ oSet (.ref L.len) (nD h) (.int (((p.map (·.2)).foldl dec1 left0).getD h 0 - 1)) M = .ok () K ∧ Gr [] L K ∧ K.get L.len = some (iL (((p ++ [x]).map (·.2)).foldl dec1 left0)) := by
      intro h M hx gM hh
      have gaM := gM.at0 ga
      refine ⟨_, ix_iL gaM (by omega), set_iL gaM (by omega), (j.gr.trans gM).put _ (.inl (Nat.le_refl _)) (LH.get_lt gaM), ?_⟩
      rw [g_put (LH.get_lt gaM), List.map_append, List.foldl_append]
      show _ = some (iL (dec1 _ x.2))
      rw [hx]; rfl
    have hsame : ∀ M, x.2 = none → Gr [] N M → M.get L.len = some (iL (((p ++ [x]).map (·.2)).foldl dec1 left0)) := by
      intro M hx gM
      rw [List.map_append, List.foldl_append]
      show _ = some (iL (dec1 _ x.2))
      rw [hx]; exact gM.at0 ga
    generalize hleft : (p.map (·.2)).foldl dec1 left0 = left at *
    obtain ⟨r, y⟩ := x
    simp only [word_snoc, PD.w_ok, PD.w_exc, PD.w_ift, PD.w_iff, PD.w_c, PD.w_getK, PD.w_slt0, PD.w_slts, PD.w_set0, PD.w_sets, PD.w_wipe0, PD.w_wipes, PD.w_var, PD.w_1, PD.w_2, PD.w_nil, PD.w_cons, PD.w_app, PD.w_eif, PD.w_truK, PD.w_and, PD.w_or, PD.w_not, PD.w_call, PD.w_meth, PD.w_nonK, PD.w_make, PD.w_bm, PD.w_sl, PD.w_bNo, PD.w_intK, PD.w_bAt, PD.w_blK, PD.w_chn, PD.w_tb1, PD.w_lc, PD.w_turn, PD.w_yes, PD.w_tv, PD.w_tand, PD.w_tor, PD.w_tnot, PD.w_nm, PD.w_sub, PD.w_gnil, PD.w_gcons, PD.w_knx, PD.w_krt, PD.w_kbk, PD.w_kct, PD.w_kex, PD.w_seq, PD.w_next, PD.w_asg, PD.w_expr, PD.w_ret, PD.w_retN, PD.w_brk, PD.w_cnt, PD.w_if, PD.w_aug, PD.w_fset, PD.w_saug, PD.w_for, PD.w_while, PD.w_ie, PD.w_rt, PD.w_nx, PD.w_ex, PD.w_rg1, PD.w_rg2, PD.w_enu, PD.w_zip2, PD.w_zipT, PD.w_rgl1, PD.o_add_i, PD.o_sub_i, PD.o_lt_i, PD.o_le_i, PD.o_gt_i, PD.o_ge_i, PD.o_is_n, PD.o_is_b, PD.o_isnot_b, PD.o_isnot_n, PD.o_isn_non, PD.o_isn_int, PD.o_isn_tup, PD.o_neg_i, PD.o_tru_b, PD.o_int_i, PD.o_int_b, PD.o_len_t, PD.o_tup_t, PD.o_lst_t, PD.o_max2, PD.o_min2, PD.o_ix_0, PD.o_ix_1, PD.o_ix_2, PD.o_ix_3, PD.it_t, PD.it_r, PD.enu_t, PD.zip_t, PD.o_tup0, PD.o_tup1, PD.o_tup2, PD.o_tup3, PD.o_tup4, PD.o_lst0, PD.o_lst1, PD.o_lst2, PD.o_lst3, PD.o_lst4, PD.g_push, PD.w_lnx, PD.w_lct, PD.w_lbk, PD.w_lrt, PD.w_lex, PD.w_lcn, PD.w_lcs, PD.o_eq_s, PD.o_ne_s, PD.o_eq_i, PD.o_ne_i, PD.w_gtp2, PD.w_gtp3, PD.w_gtp4, PD.rg_map, PD.o_lstR0, PD.o_tupR0, PD.o_not_f, PD.o_not_t, PD.o_dec_tt, PD.o_nn, PD.o_ne_b, PD.o_eq_b, PD.o_bne_tf, PD.o_bne_ff]
    refine lcPure (fun h => if decide (0 < left.getD h 0) = true then some (.int (wOf w h)) else none) (sz_of (by have : r.length ≤ w.length := hrq.len; omega)) (fun a ha => ?_) ?_
    · have hlt := hrq.2 a ha
      simp only [word_snoc, PD.w_ok, PD.w_exc, PD.w_ift, PD.w_iff, PD.w_c, PD.w_getK, PD.w_slt0, PD.w_slts, PD.w_set0, PD.w_sets, PD.w_wipe0, PD.w_wipes, PD.w_var, PD.w_1, PD.w_2, PD.w_nil, PD.w_cons, PD.w_app, PD.w_eif, PD.w_truK, PD.w_and, PD.w_or, PD.w_not, PD.w_call, PD.w_meth, PD.w_nonK, PD.w_make, PD.w_bm, PD.w_sl, PD.w_bNo, PD.w_intK, PD.w_bAt, PD.w_blK, PD.w_chn, PD.w_tb1, PD.w_lc, PD.w_turn, PD.w_yes, PD.w_tv, PD.w_tand, PD.w_tor, PD.w_tnot, PD.w_nm, PD.w_sub, PD.w_gnil, PD.w_gcons, PD.w_knx, PD.w_krt, PD.w_kbk, PD.w_kct, PD.w_kex, PD.w_seq, PD.w_next, PD.w_asg, PD.w_expr, PD.w_ret, PD.w_retN, PD.w_brk, PD.w_cnt, PD.w_if, PD.w_aug, PD.w_fset, PD.w_saug, PD.w_for, PD.w_while, PD.w_ie, PD.w_rt, PD.w_nx, PD.w_ex, PD.w_rg1, PD.w_rg2, PD.w_enu, PD.w_zip2, PD.w_zipT, PD.w_rgl1, PD.o_add_i, PD.o_sub_i, PD.o_lt_i, PD.o_le_i, PD.o_gt_i, PD.o_ge_i, PD.o_is_n, PD.o_is_b, PD.o_isnot_b, PD.o_isnot_n, PD.o_isn_non, PD.o_isn_int, PD.o_isn_tup, PD.o_neg_i, PD.o_tru_b, PD.o_int_i, PD.o_int_b, PD.o_len_t, PD.o_tup_t, PD.o_lst_t, PD.o_max2, PD.o_min2, PD.o_ix_0, PD.o_ix_1, PD.o_ix_2, PD.o_ix_3, PD.it_t, PD.it_r, PD.enu_t, PD.zip_t, PD.o_tup0, PD.o_tup1, PD.o_tup2, PD.o_tup3, PD.o_tup4, PD.o_lst0, PD.o_lst1, PD.o_lst2, PD.o_lst3, PD.o_lst4, PD.g_push, PD.w_lnx, PD.w_lct, PD.w_lbk, PD.w_lrt, PD.w_lex, PD.w_lcn, PD.w_lcs, PD.o_eq_s, PD.o_ne_s, PD.o_eq_i, PD.o_ne_i, PD.w_gtp2, PD.w_gtp3, PD.w_gtp4, PD.rg_map, PD.o_lstR0, PD.o_tupR0, PD.o_not_f, PD.o_not_t, PD.o_dec_tt, PD.o_nn, PD.o_ne_b, PD.o_eq_b, PD.o_bne_tf, PD.o_bne_ff, ix_iL ga (show a < left.length by omega), ix_iT hlt]
      refine ifK_of (fun c1 => ?_) fun c1 => ?_
      · rw [if_pos c1]; exact ⟨rfl, trivial⟩
      · rw [if_neg (by rw [c1]; exact Bool.false_ne_true)]; exact ⟨rfl, trivial⟩
    · rw [fm_filter]
      have ex : (r.filter fun h => decide (0 < left.getD h 0)).map (fun h => D.int (wOf w h)) = ((rooms left r).map (wOf w)).map D.int := by rw [List.map_map]; rfl
      rw [ex]
      have gs : (N.push (iL ((rooms left r).map (wOf w)))).get N.len = some (iL ((rooms left r).map (wOf w))) := g_push
      have g1 : Gr [] N (N.push (iL ((rooms left r).map (wOf w)))) := Gr.refl.push _
      generalize (N.push (iL ((rooms left r).map (wOf w)))) = N1 at *
      cases y with
      | none =>
        simp only [giftD, word_snoc, PD.w_ok, PD.w_exc, PD.w_ift, PD.w_iff, PD.w_c, PD.w_getK, PD.w_slt0, PD.w_slts, PD.w_set0, PD.w_sets, PD.w_wipe0, PD.w_wipes, PD.w_var, PD.w_1, PD.w_2, PD.w_nil, PD.w_cons, PD.w_app, PD.w_eif, PD.w_truK, PD.w_and, PD.w_or, PD.w_not, PD.w_call, PD.w_meth, PD.w_nonK, PD.w_make, PD.w_bm, PD.w_sl, PD.w_bNo, PD.w_intK, PD.w_bAt, PD.w_blK, PD.w_chn, PD.w_tb1, PD.w_lc, PD.w_turn, PD.w_yes, PD.w_tv, PD.w_tand, PD.w_tor, PD.w_tnot, PD.w_nm, PD.w_sub, PD.w_gnil, PD.w_gcons, PD.w_knx, PD.w_krt, PD.w_kbk, PD.w_kct, PD.w_kex, PD.w_seq, PD.w_next, PD.w_asg, PD.w_expr, PD.w_ret, PD.w_retN, PD.w_brk, PD.w_cnt, PD.w_if, PD.w_aug, PD.w_fset, PD.w_saug, PD.w_for, PD.w_while, PD.w_ie, PD.w_rt, PD.w_nx, PD.w_ex, PD.w_rg1, PD.w_rg2, PD.w_enu, PD.w_zip2, PD.w_zipT, PD.w_rgl1, PD.o_add_i, PD.o_sub_i, PD.o_lt_i, PD.o_le_i, PD.o_gt_i, PD.o_ge_i, PD.o_is_n, PD.o_is_b, PD.o_isnot_b, PD.o_isnot_n, PD.o_isn_non, PD.o_isn_int, PD.o_isn_tup, PD.o_neg_i, PD.o_tru_b, PD.o_int_i, PD.o_int_b, PD.o_len_t, PD.o_tup_t, PD.o_lst_t, PD.o_max2, PD.o_min2, PD.o_ix_0, PD.o_ix_1, PD.o_ix_2, PD.o_ix_3, PD.it_t, PD.it_r, PD.enu_t, PD.zip_t, PD.o_tup0, PD.o_tup1, PD.o_tup2, PD.o_tup3, PD.o_tup4, PD.o_lst0, PD.o_lst1, PD.o_lst2, PD.o_lst3, PD.o_lst4, PD.g_push, PD.w_lnx, PD.w_lct, PD.w_lbk, PD.w_lrt, PD.w_lex, PD.w_lcn, PD.w_lcs, PD.o_eq_s, PD.o_ne_s, PD.o_eq_i, PD.o_ne_i, PD.w_gtp2, PD.w_gtp3, PD.w_gtp4, PD.rg_map, PD.o_lstR0, PD.o_tupR0, PD.o_not_f, PD.o_not_t, PD.o_dec_tt, PD.o_nn, PD.o_ne_b, PD.o_eq_b, PD.o_bne_tf, PD.o_bne_ff]
        have gs2 : (N1.push (.lst [])).get N.len = some (iL ((rooms left r).map (wOf w))) := g_push_old gs
        have ge : (N1.push (.lst [])).get N1.len = some (.lst []) := g_push
        have g2 : Gr [] N (N1.push (.lst [])) := g1.push _
        generalize (N1.push (.lst [])) = N2 at *
        simp only [ne_nilI gs2 ge, word_snoc, PD.w_ok, PD.w_exc, PD.w_ift, PD.w_iff, PD.w_c, PD.w_getK, PD.w_slt0, PD.w_slts, PD.w_set0, PD.w_sets, PD.w_wipe0, PD.w_wipes, PD.w_var, PD.w_1, PD.w_2, PD.w_nil, PD.w_cons, PD.w_app, PD.w_eif, PD.w_truK, PD.w_and, PD.w_or, PD.w_not, PD.w_call, PD.w_meth, PD.w_nonK, PD.w_make, PD.w_bm, PD.w_sl, PD.w_bNo, PD.w_intK, PD.w_bAt, PD.w_blK, PD.w_chn, PD.w_tb1, PD.w_lc, PD.w_turn, PD.w_yes, PD.w_tv, PD.w_tand, PD.w_tor, PD.w_tnot, PD.w_nm, PD.w_sub, PD.w_gnil, PD.w_gcons, PD.w_knx, PD.w_krt, PD.w_kbk, PD.w_kct, PD.w_kex, PD.w_seq, PD.w_next, PD.w_asg, PD.w_expr, PD.w_ret, PD.w_retN, PD.w_brk, PD.w_cnt, PD.w_if, PD.w_aug, PD.w_fset, PD.w_saug, PD.w_for, PD.w_while, PD.w_ie, PD.w_rt, PD.w_nx, PD.w_ex, PD.w_rg1, PD.w_rg2, PD.w_enu, PD.w_zip2, PD.w_zipT, PD.w_rgl1, PD.o_add_i, PD.o_sub_i, PD.o_lt_i, PD.o_le_i, PD.o_gt_i, PD.o_ge_i, PD.o_is_n, PD.o_is_b, PD.o_isnot_b, PD.o_isnot_n, PD.o_isn_non, PD.o_isn_int, PD.o_isn_tup, PD.o_neg_i, PD.o_tru_b, PD.o_int_i, PD.o_int_b, PD.o_len_t, PD.o_tup_t, PD.o_lst_t, PD.o_max2, PD.o_min2, PD.o_ix_0, PD.o_ix_1, PD.o_ix_2, PD.o_ix_3, PD.it_t, PD.it_r, PD.enu_t, PD.zip_t, PD.o_tup0, PD.o_tup1, PD.o_tup2, PD.o_tup3, PD.o_tup4, PD.o_lst0, PD.o_lst1, PD.o_lst2, PD.o_lst3, PD.o_lst4, PD.g_push, PD.w_lnx, PD.w_lct, PD.w_lbk, PD.w_lrt, PD.w_lex, PD.w_lcn, PD.w_lcs, PD.o_eq_s, PD.o_ne_s, PD.o_eq_i, PD.o_ne_i, PD.w_gtp2, PD.w_gtp3, PD.w_gtp4, PD.rg_map, PD.o_lstR0, PD.o_tupR0, PD.o_not_f, PD.o_not_t, PD.o_dec_tt, PD.o_nn, PD.o_ne_b, PD.o_eq_b, PD.o_bne_tf, PD.o_bne_ff]
        refine ifK_of (fun c1 => ?_) fun c1 => ?_
        · refine ⟨?_, j.gr.trans g2⟩
          rw [hbad (by simpa [goodB] using c1)]
        · refine ⟨_, _, _, _, _, rfl, hsame N2 rfl g2, j.gr.trans g2, hnext (by simpa [goodB] using c1)⟩
      | some h =>
        have hin : h ∈ rooms left r := hV
        have hh : h < w.length := hrq.2 h (rooms_sub hin).1
        have hne : (rooms left r).map (wOf w) ≠ [] := List.ne_nil_of_mem (List.mem_map_of_mem hin)
        have hge : wOf w h ≤ maxL ((rooms left r).map (wOf w)) := maxL_ge (List.mem_map_of_mem hin)
        obtain ⟨K, k1, k2, k3, k4⟩ := hfin h N1 rfl g1 hh
        simp only [giftD, word_snoc, PD.w_ok, PD.w_exc, PD.w_ift, PD.w_iff, PD.w_c, PD.w_getK, PD.w_slt0, PD.w_slts, PD.w_set0, PD.w_sets, PD.w_wipe0, PD.w_wipes, PD.w_var, PD.w_1, PD.w_2, PD.w_nil, PD.w_cons, PD.w_app, PD.w_eif, PD.w_truK, PD.w_and, PD.w_or, PD.w_not, PD.w_call, PD.w_meth, PD.w_nonK, PD.w_make, PD.w_bm, PD.w_sl, PD.w_bNo, PD.w_intK, PD.w_bAt, PD.w_blK, PD.w_chn, PD.w_tb1, PD.w_lc, PD.w_turn, PD.w_yes, PD.w_tv, PD.w_tand, PD.w_tor, PD.w_tnot, PD.w_nm, PD.w_sub, PD.w_gnil, PD.w_gcons, PD.w_knx, PD.w_krt, PD.w_kbk, PD.w_kct, PD.w_kex, PD.w_seq, PD.w_next, PD.w_asg, PD.w_expr, PD.w_ret, PD.w_retN, PD.w_brk, PD.w_cnt, PD.w_if, PD.w_aug, PD.w_fset, PD.w_saug, PD.w_for, PD.w_while, PD.w_ie, PD.w_rt, PD.w_nx, PD.w_ex, PD.w_rg1, PD.w_rg2, PD.w_enu, PD.w_zip2, PD.w_zipT, PD.w_rgl1, PD.o_add_i, PD.o_sub_i, PD.o_lt_i, PD.o_le_i, PD.o_gt_i, PD.o_ge_i, PD.o_is_n, PD.o_is_b, PD.o_isnot_b, PD.o_isnot_n, PD.o_isn_non, PD.o_isn_int, PD.o_isn_tup, PD.o_neg_i, PD.o_tru_b, PD.o_int_i, PD.o_int_b, PD.o_len_t, PD.o_tup_t, PD.o_lst_t, PD.o_max2, PD.o_min2, PD.o_ix_0, PD.o_ix_1, PD.o_ix_2, PD.o_ix_3, PD.it_t, PD.it_r, PD.enu_t, PD.zip_t, PD.o_tup0, PD.o_tup1, PD.o_tup2, PD.o_tup3, PD.o_tup4, PD.o_lst0, PD.o_lst1, PD.o_lst2, PD.o_lst3, PD.o_lst4, PD.g_push, PD.w_lnx, PD.w_lct, PD.w_lbk, PD.w_lrt, PD.w_lex, PD.w_lcn, PD.w_lcs, PD.o_eq_s, PD.o_ne_s, PD.o_eq_i, PD.o_ne_i, PD.w_gtp2, PD.w_gtp3, PD.w_gtp4, PD.rg_map, PD.o_lstR0, PD.o_tupR0, PD.o_not_f, PD.o_not_t, PD.o_dec_tt, PD.o_nn, PD.o_ne_b, PD.o_eq_b, PD.o_bne_tf, PD.o_bne_ff, ix_iT hh, max_L gs hne, k1, k2]
        refine ifK_of (fun c1 => ?_) fun c1 => ?_
        · refine ⟨?_, j.gr.trans g1⟩
          rw [hbad ?_]
          have c2 : wOf w h < maxL ((rooms left r).map (wOf w)) := of_decide_eq_true c1
          show decide (wOf w h = maxL ((rooms left r).map (wOf w))) = false
          exact decide_eq_false (by omega)
        · refine ⟨_, _, _, _, _, rfl, k4, k3, hnext ?_⟩
          have c2 : ¬ wOf w h < maxL ((rooms left r).map (wOf w)) := of_decide_eq_false c1
          show decide (wOf w h = maxL ((rooms left r).map (wOf w))) = true
          exact decide_eq_true (by omega)
  · rintro ρ N ⟨o5, o6, o7, o8, o9, rfl, j⟩
    simp only [word_snoc, PD.w_ok, PD.w_exc, PD.w_ift, PD.w_iff, PD.w_c, PD.w_getK, PD.w_slt0, PD.w_slts, PD.w_set0, PD.w_sets, PD.w_wipe0, PD.w_wipes, PD.w_var, PD.w_1, PD.w_2, PD.w_nil, PD.w_cons, PD.w_app, PD.w_eif, PD.w_truK, PD.w_and, PD.w_or, PD.w_not, PD.w_call, PD.w_meth, PD.w_nonK, PD.w_make, PD.w_bm, PD.w_sl, PD.w_bNo, PD.w_intK, PD.w_bAt, PD.w_blK, PD.w_chn, PD.w_tb1, PD.w_lc, PD.w_turn, PD.w_yes, PD.w_tv, PD.w_tand, PD.w_tor, PD.w_tnot, PD.w_nm, PD.w_sub, PD.w_gnil, PD.w_gcons, PD.w_knx, PD.w_krt, PD.w_kbk, PD.w_kct, PD.w_kex, PD.w_seq, PD.w_next, PD.w_asg, PD.w_expr, PD.w_ret, PD.w_retN, PD.w_brk, PD.w_cnt, PD.w_if, PD.w_aug, PD.w_fset, PD.w_saug, PD.w_for, PD.w_while, PD.w_ie, PD.w_rt, PD.w_nx, PD.w_ex, PD.w_rg1, PD.w_rg2, PD.w_enu, PD.w_zip2, PD.w_zipT, PD.w_rgl1, PD.o_add_i, PD.o_sub_i, PD.o_lt_i, PD.o_le_i, PD.o_gt_i, PD.o_ge_i, PD.o_is_n, PD.o_is_b, PD.o_isnot_b, PD.o_isnot_n, PD.o_isn_non, PD.o_isn_int, PD.o_isn_tup, PD.o_neg_i, PD.o_tru_b, PD.o_int_i, PD.o_int_b, PD.o_len_t, PD.o_tup_t, PD.o_lst_t, PD.o_max2, PD.o_min2, PD.o_ix_0, PD.o_ix_1, PD.o_ix_2, PD.o_ix_3, PD.it_t, PD.it_r, PD.enu_t, PD.zip_t, PD.o_tup0, PD.o_tup1, PD.o_tup2, PD.o_tup3, PD.o_tup4, PD.o_lst0, PD.o_lst1, PD.o_lst2, PD.o_lst3, PD.o_lst4, PD.g_push, PD.w_lnx, PD.w_lct, PD.w_lbk, PD.w_lrt, PD.w_lex, PD.w_lcn, PD.w_lcs, PD.o_eq_s, PD.o_ne_s, PD.o_eq_i, PD.o_ne_i, PD.w_gtp2, PD.w_gtp3, PD.w_gtp4, PD.rg_map, PD.o_lstR0, PD.o_tupR0, PD.o_not_f, PD.o_not_t, PD.o_dec_tt, PD.o_nn, PD.o_ne_b, PD.o_eq_b, PD.o_bne_tf, PD.o_bne_ff]
    have := (j.vs [] (by simp)).1
    refine ⟨?_, j.gr⟩
    rw [this]; rfl
theorem lawEagOk (h : F i = some law_is_eager_fn) : From F 1 (EagOk · i) := by
  intro n L c0 m w row g ft hg hv
  have z := ft.w2
  have c1 := ft.c1
  have c2 := ft.c2
  have m1 := ft.m1
  have m2 := ft.m2
  rw [W_runN h rfl]
  unfold law_is_eager_fn
  show WS _ _ [some (yardD c0 w), some (.int m), some (rowD row), some (giftsD g), none, none, none, none, none] L _ _
  generalize PD.runN F n = R at *
  have g0 : (L.push (.lst [.int (m * c0)])).get L.len = some (.lst [.int (m * c0)]) := g_push
  have b1 : oMul (.int m) (.int c0) L = .ok (.int (m * c0)) L := o_mul_i (.inl (by unfold big64; omega))
  have b2 : oMul (.ref L.len) (.int ((w.map D.int).length : Int)) (L.push (.lst [.int (m * c0)])) = .ok (.ref (L.push (.lst [.int (m * c0)])).len) ((L.push (.lst [.int (m * c0)])).push (iL (room0 c0 m w))) := by
    rw [mul_l1 g0 (sz_of (by rw [List.length_map]; omega)), map_rep, List.length_map]; rfl
  simp only [word_snoc, PD.w_ok, PD.w_exc, PD.w_ift, PD.w_iff, PD.w_c, PD.w_getK, PD.w_slt0, PD.w_slts, PD.w_set0, PD.w_sets, PD.w_wipe0, PD.w_wipes, PD.w_var, PD.w_1, PD.w_2, PD.w_nil, PD.w_cons, PD.w_app, PD.w_eif, PD.w_truK, PD.w_and, PD.w_or, PD.w_not, PD.w_call, PD.w_meth, PD.w_nonK, PD.w_make, PD.w_bm, PD.w_sl, PD.w_bNo, PD.w_intK, PD.w_bAt, PD.w_blK, PD.w_chn, PD.w_tb1, PD.w_lc, PD.w_turn, PD.w_yes, PD.w_tv, PD.w_tand, PD.w_tor, PD.w_tnot, PD.w_nm, PD.w_sub, PD.w_gnil, PD.w_gcons, PD.w_knx, PD.w_krt, PD.w_kbk, PD.w_kct, PD.w_kex, PD.w_seq, PD.w_next, PD.w_asg, PD.w_expr, PD.w_ret, PD.w_retN, PD.w_brk, PD.w_cnt, PD.w_if, PD.w_aug, PD.w_fset, PD.w_saug, PD.w_for, PD.w_while, PD.w_ie, PD.w_rt, PD.w_nx, PD.w_ex, PD.w_rg1, PD.w_rg2, PD.w_enu, PD.w_zip2, PD.w_zipT, PD.w_rgl1, PD.o_add_i, PD.o_sub_i, PD.o_lt_i, PD.o_le_i, PD.o_gt_i, PD.o_ge_i, PD.o_is_n, PD.o_is_b, PD.o_isnot_b, PD.o_isnot_n, PD.o_isn_non, PD.o_isn_int, PD.o_isn_tup, PD.o_neg_i, PD.o_tru_b, PD.o_int_i, PD.o_int_b, PD.o_len_t, PD.o_tup_t, PD.o_lst_t, PD.o_max2, PD.o_min2, PD.o_ix_0, PD.o_ix_1, PD.o_ix_2, PD.o_ix_3, PD.it_t, PD.it_r, PD.enu_t, PD.zip_t, PD.o_tup0, PD.o_tup1, PD.o_tup2, PD.o_tup3, PD.o_tup4, PD.o_lst0, PD.o_lst1, PD.o_lst2, PD.o_lst3, PD.o_lst4, PD.g_push, PD.w_lnx, PD.w_lct, PD.w_lbk, PD.w_lrt, PD.w_lex, PD.w_lcn, PD.w_lcs, PD.o_eq_s, PD.o_ne_s, PD.o_eq_i, PD.o_ne_i, PD.w_gtp2, PD.w_gtp3, PD.w_gtp4, PD.rg_map, PD.o_lstR0, PD.o_tupR0, PD.o_not_f, PD.o_not_t, PD.o_dec_tt, PD.o_nn, PD.o_ne_b, PD.o_eq_b, PD.o_bne_tf, PD.o_bne_ff, b1, b2, zip_D]
  have hrl0 : (room0 c0 m w).length = w.length := List.length_replicate
  have la : (L.push (.lst [.int (m * c0)])).len = L.len + 1 := rfl
  have ga : ((L.push (.lst [.int (m * c0)])).push (iL (room0 c0 m w))).get (L.len + 1) = some (iL (room0 c0 m w)) := by rw [← la]; exact g_push
  have d0 : Gr [] L ((L.push (.lst [.int (m * c0)])).push (iL (room0 c0 m w))) := (Gr.refl.push _).push _
  rw [la]
  generalize ((L.push (.lst [.int (m * c0)])).push (iL (room0 c0 m w))) = L0 at *
  generalize room0 c0 m w = left0 at *
  refine forW (fun p ρ N => ∃ o5 o6 o7 o8 : Option D, ρ = [some (yardD c0 w), some (.int m), some (rowD row), some (giftsD g), some (.ref (L.len + 1)), o5, o6, o7, o8] ∧ EJ w left0 (row.zip g) (L.len + 1) L p N) ⟨_, _, _, _, rfl, ga, d0, fun q e => by rw [List.nil_append] at e; subst e; exact ⟨rfl, hv⟩⟩ ?_ ?_
  · rintro p x q ρ N e ⟨o5, o6, o7, o8, rfl, j⟩
    have hrq := ft.r x.1 (zip_mem (split_mem e))
    have hbad := j.bad e
    have hnext := j.next e
    have hV := (j.vs _ e).2.1
    have ga := j.ga
    have hlen : ((p.map (·.2)).foldl dec1 left0).length = w.length := by rw [decs_len, hrl0]
    have hrl : (rooms ((p.map (·.2)).foldl dec1 left0) x.1).length ≤ 1000 := Nat.le_trans (List.length_filter_le ..) (by have : x.1.length ≤ w.length := hrq.len; omega)
    have hfin : ∀ h M, x.2 = some h → Gr [] N M → h < w.length → ∃ K, oIx (.ref (L.len + 1)) (nD h) M = .ok (.int (((p.map (·.2)).foldl dec1 left0).getD h 0)) M ∧ oSet (.ref (L.len + 1)) (nD h) (.int (((p.map (·.2)).foldl dec1 left0).getD h 0 - 1)) M = .ok () K ∧ Gr [] L K ∧ K.get (L.len + 1) = some (iL (((p ++ [x]).map (·.2)).foldl dec1 left0)) := by
      intro h M hx gM hh
      have gaM := gM.at0 ga
      refine ⟨_, ix_iL gaM (by omega), set_iL gaM (by omega), (j.gr.trans gM).put _ (.inl (Nat.le_succ _)) (LH.get_lt gaM), ?_⟩
      rw [g_put (LH.get_lt gaM), List.map_append, List.foldl_append]
      show _ = some (iL (dec1 _ x.2))
      rw [hx]; rfl
    have hsame : ∀ M, x.2 = none → Gr [] N M → M.get (L.len + 1) = some (iL (((p ++ [x]).map (·.2)).foldl dec1 left0)) := by
      intro M hx gM
      rw [List.map_append, List.foldl_append]
      show _ = some (iL (dec1 _ x.2))
      rw [hx]; exact gM.at0 ga
    generalize hleft : (p.map (·.2)).foldl dec1 left0 = left at *
    obtain ⟨r, y⟩ := x
    simp only [word_snoc, PD.w_ok, PD.w_exc, PD.w_ift, PD.w_iff, PD.w_c, PD.w_getK, PD.w_slt0, PD.w_slts, PD.w_set0, PD.w_sets, PD.w_wipe0, PD.w_wipes, PD.w_var, PD.w_1, PD.w_2, PD.w_nil, PD.w_cons, PD.w_app, PD.w_eif, PD.w_truK, PD.w_and, PD.w_or, PD.w_not, PD.w_call, PD.w_meth, PD.w_nonK, PD.w_make, PD.w_bm, PD.w_sl, PD.w_bNo, PD.w_intK, PD.w_bAt, PD.w_blK, PD.w_chn, PD.w_tb1, PD.w_lc, PD.w_turn, PD.w_yes, PD.w_tv, PD.w_tand, PD.w_tor, PD.w_tnot, PD.w_nm, PD.w_sub, PD.w_gnil, PD.w_gcons, PD.w_knx, PD.w_krt, PD.w_kbk, PD.w_kct, PD.w_kex, PD.w_seq, PD.w_next, PD.w_asg, PD.w_expr, PD.w_ret, PD.w_retN, PD.w_brk, PD.w_cnt, PD.w_if, PD.w_aug, PD.w_fset, PD.w_saug, PD.w_for, PD.w_while, PD.w_ie, PD.w_rt, PD.w_nx, PD.w_ex, PD.w_rg1, PD.w_rg2, PD.w_enu, PD.w_zip2, PD.w_zipT, PD.w_rgl1, PD.o_add_i, PD.o_sub_i, PD.o_lt_i, PD.o_le_i, PD.o_gt_i, PD.o_ge_i, PD.o_is_n, PD.o_is_b, PD.o_isnot_b, PD.o_isnot_n, PD.o_isn_non, PD.o_isn_int, PD.o_isn_tup, PD.o_neg_i, PD.o_tru_b, PD.o_int_i, PD.o_int_b, PD.o_len_t, PD.o_tup_t, PD.o_lst_t, PD.o_max2, PD.o_min2, PD.o_ix_0, PD.o_ix_1, PD.o_ix_2, PD.o_ix_3, PD.it_t, PD.it_r, PD.enu_t, PD.zip_t, PD.o_tup0, PD.o_tup1, PD.o_tup2, PD.o_tup3, PD.o_tup4, PD.o_lst0, PD.o_lst1, PD.o_lst2, PD.o_lst3, PD.o_lst4, PD.g_push, PD.w_lnx, PD.w_lct, PD.w_lbk, PD.w_lrt, PD.w_lex, PD.w_lcn, PD.w_lcs, PD.o_eq_s, PD.o_ne_s, PD.o_eq_i, PD.o_ne_i, PD.w_gtp2, PD.w_gtp3, PD.w_gtp4, PD.rg_map, PD.o_lstR0, PD.o_tupR0, PD.o_not_f, PD.o_not_t, PD.o_dec_tt, PD.o_nn, PD.o_ne_b, PD.o_eq_b, PD.o_bne_tf, PD.o_bne_ff]
    refine lcPure (fun h => if decide (0 < left.getD h 0) = true then some (.int (wOf w h)) else none) (sz_of (by have : r.length ≤ w.length := hrq.len; omega)) (fun a ha => ?_) ?_
    · have hlt := hrq.2 a ha
      simp only [word_snoc, PD.w_ok, PD.w_exc, PD.w_ift, PD.w_iff, PD.w_c, PD.w_getK, PD.w_slt0, PD.w_slts, PD.w_set0, PD.w_sets, PD.w_wipe0, PD.w_wipes, PD.w_var, PD.w_1, PD.w_2, PD.w_nil, PD.w_cons, PD.w_app, PD.w_eif, PD.w_truK, PD.w_and, PD.w_or, PD.w_not, PD.w_call, PD.w_meth, PD.w_nonK, PD.w_make, PD.w_bm, PD.w_sl, PD.w_bNo, PD.w_intK, PD.w_bAt, PD.w_blK, PD.w_chn, PD.w_tb1, PD.w_lc, PD.w_turn, PD.w_yes, PD.w_tv, PD.w_tand, PD.w_tor, PD.w_tnot, PD.w_nm, PD.w_sub, PD.w_gnil, PD.w_gcons, PD.w_knx, PD.w_krt, PD.w_kbk, PD.w_kct, PD.w_kex, PD.w_seq, PD.w_next, PD.w_asg, PD.w_expr, PD.w_ret, PD.w_retN, PD.w_brk, PD.w_cnt, PD.w_if, PD.w_aug, PD.w_fset, PD.w_saug, PD.w_for, PD.w_while, PD.w_ie, PD.w_rt, PD.w_nx, PD.w_ex, PD.w_rg1, PD.w_rg2, PD.w_enu, PD.w_zip2, PD.w_zipT, PD.w_rgl1, PD.o_add_i, PD.o_sub_i, PD.o_lt_i, PD.o_le_i, PD.o_gt_i, PD.o_ge_i, PD.o_is_n, PD.o_is_b, PD.o_isnot_b, PD.o_isnot_n, PD.o_isn_non, PD.o_isn_int, PD.o_isn_tup, PD.o_neg_i, PD.o_tru_b, PD.o_int_i, PD.o_int_b, PD.o_len_t, PD.o_tup_t, PD.o_lst_t, PD.o_max2, PD.o_min2, PD.o_ix_0, PD.o_ix_1, PD.o_ix_2, PD.o_ix_3, PD.it_t, PD.it_r, PD.enu_t, PD.zip_t, PD.o_tup0, PD.o_tup1, PD.o_tup2, PD.o_tup3, PD.o_tup4, PD.o_lst0, PD.o_lst1, PD.o_lst2, PD.o_lst3, PD.o_lst4, PD.g_push, PD.w_lnx, PD.w_lct, PD.w_lbk, PD.w_lrt, PD.w_lex, PD.w_lcn, PD.w_lcs, PD.o_eq_s, PD.o_ne_s, PD.o_eq_i, PD.o_ne_i, PD.w_gtp2, PD.w_gtp3, PD.w_gtp4, PD.rg_map, PD.o_lstR0, PD.o_tupR0, PD.o_not_f, PD.o_not_t, PD.o_dec_tt, PD.o_nn, PD.o_ne_b, PD.o_eq_b, PD.o_bne_tf, PD.o_bne_ff, ix_iL ga (show a < left.length by omega), ix_iT hlt]
      refine ifK_of (fun c1 => ?_) fun c1 => ?_
      · rw [if_pos c1]; exact ⟨rfl, trivial⟩
      · rw [if_neg (by rw [c1]; exact Bool.false_ne_true)]; exact ⟨rfl, trivial⟩
    · rw [fm_filter]
      have ex : (r.filter fun h => decide (0 < left.getD h 0)).map (fun h => D.int (wOf w h)) = ((rooms left r).map (wOf w)).map D.int := by rw [List.map_map]; rfl
      rw [ex]
      have gs : (N.push (iL ((rooms left r).map (wOf w)))).get N.len = some (iL ((rooms left r).map (wOf w))) := g_push
      have g1 : Gr [] N (N.push (iL ((rooms left r).map (wOf w)))) := Gr.refl.push _
      generalize (N.push (iL ((rooms left r).map (wOf w)))) = N1 at *
      cases y with
      | none =>
        simp only [giftD, word_snoc, PD.w_ok, PD.w_exc, PD.w_ift, PD.w_iff, PD.w_c, PD.w_getK, PD.w_slt0, PD.w_slts, PD.w_set0, PD.w_sets, PD.w_wipe0, PD.w_wipes, PD.w_var, PD.w_1, PD.w_2, PD.w_nil, PD.w_cons, PD.w_app, PD.w_eif, PD.w_truK, PD.w_and, PD.w_or, PD.w_not, PD.w_call, PD.w_meth, PD.w_nonK, PD.w_make, PD.w_bm, PD.w_sl, PD.w_bNo, PD.w_intK, PD.w_bAt, PD.w_blK, PD.w_chn, PD.w_tb1, PD.w_lc, PD.w_turn, PD.w_yes, PD.w_tv, PD.w_tand, PD.w_tor, PD.w_tnot, PD.w_nm, PD.w_sub, PD.w_gnil, PD.w_gcons, PD.w_knx, PD.w_krt, PD.w_kbk, PD.w_kct, PD.w_kex, PD.w_seq, PD.w_next, PD.w_asg, PD.w_expr, PD.w_ret, PD.w_retN, PD.w_brk, PD.w_cnt, PD.w_if, PD.w_aug, PD.w_fset, PD.w_saug, PD.w_for, PD.w_while, PD.w_ie, PD.w_rt, PD.w_nx, PD.w_ex, PD.w_rg1, PD.w_rg2, PD.w_enu, PD.w_zip2, PD.w_zipT, PD.w_rgl1, PD.o_add_i, PD.o_sub_i, PD.o_lt_i, PD.o_le_i, PD.o_gt_i, PD.o_ge_i, PD.o_is_n, PD.o_is_b, PD.o_isnot_b, PD.o_isnot_n, PD.o_isn_non, PD.o_isn_int, PD.o_isn_tup, PD.o_neg_i, PD.o_tru_b, PD.o_int_i, PD.o_int_b, PD.o_len_t, PD.o_tup_t, PD.o_lst_t, PD.o_max2, PD.o_min2, PD.o_ix_0, PD.o_ix_1, PD.o_ix_2, PD.o_ix_3, PD.it_t, PD.it_r, PD.enu_t, PD.zip_t, PD.o_tup0, PD.o_tup1, PD.o_tup2, PD.o_tup3, PD.o_tup4, PD.o_lst0, PD.o_lst1, PD.o_lst2, PD.o_lst3, PD.o_lst4, PD.g_push, PD.w_lnx, PD.w_lct, PD.w_lbk, PD.w_lrt, PD.w_lex, PD.w_lcn, PD.w_lcs, PD.o_eq_s, PD.o_ne_s, PD.o_eq_i, PD.o_ne_i, PD.w_gtp2, PD.w_gtp3, PD.w_gtp4, PD.rg_map, PD.o_lstR0, PD.o_tupR0, PD.o_not_f, PD.o_not_t, PD.o_dec_tt, PD.o_nn, PD.o_ne_b, PD.o_eq_b, PD.o_bne_tf, PD.o_bne_ff]
        have gs2 : (N1.push (.lst [])).get N.len = some (iL ((rooms left r).map (wOf w))) := g_push_old gs
        have ge : (N1.push (.lst [])).get N1.len = some (.lst []) := g_push
        have g2 : Gr [] N (N1.push (.lst [])) := g1.push _
        generalize (N1.push (.lst [])) = N2 at *
        simp only [eq_nilI gs2 ge, word_snoc, PD.w_ok, PD.w_exc, PD.w_ift, PD.w_iff, PD.w_c, PD.w_getK, PD.w_slt0, PD.w_slts, PD.w_set0, PD.w_sets, PD.w_wipe0, PD.w_wipes, PD.w_var, PD.w_1, PD.w_2, PD.w_nil, PD.w_cons, PD.w_app, PD.w_eif, PD.w_truK, PD.w_and, PD.w_or, PD.w_not, PD.w_call, PD.w_meth, PD.w_nonK, PD.w_make, PD.w_bm, PD.w_sl, PD.w_bNo, PD.w_intK, PD.w_bAt, PD.w_blK, PD.w_chn, PD.w_tb1, PD.w_lc, PD.w_turn, PD.w_yes, PD.w_tv, PD.w_tand, PD.w_tor, PD.w_tnot, PD.w_nm, PD.w_sub, PD.w_gnil, PD.w_gcons, PD.w_knx, PD.w_krt, PD.w_kbk, PD.w_kct, PD.w_kex, PD.w_seq, PD.w_next, PD.w_asg, PD.w_expr, PD.w_ret, PD.w_retN, PD.w_brk, PD.w_cnt, PD.w_if, PD.w_aug, PD.w_fset, PD.w_saug, PD.w_for, PD.w_while, PD.w_ie, PD.w_rt, PD.w_nx, PD.w_ex, PD.w_rg1, PD.w_rg2, PD.w_enu, PD.w_zip2, PD.w_zipT, PD.w_rgl1, PD.o_add_i, PD.o_sub_i, PD.o_lt_i, PD.o_le_i, PD.o_gt_i, PD.o_ge_i, PD.o_is_n, PD.o_is_b, PD.o_isnot_b, PD.o_isnot_n, PD.o_isn_non, PD.o_isn_int, PD.o_isn_tup, PD.o_neg_i, PD.o_tru_b, PD.o_int_i, PD.o_int_b, PD.o_len_t, PD.o_tup_t, PD.o_lst_t, PD.o_max2, PD.o_min2, PD.o_ix_0, PD.o_ix_1, PD.o_ix_2, PD.o_ix_3, PD.it_t, PD.it_r, PD.enu_t, PD.zip_t, PD.o_tup0, PD.o_tup1, PD.o_tup2, PD.o_tup3, PD.o_tup4, PD.o_lst0, PD.o_lst1, PD.o_lst2, PD.o_lst3, PD.o_lst4, PD.g_push, PD.w_lnx, PD.w_lct, PD.w_lbk, PD.w_lrt, PD.w_lex, PD.w_lcn, PD.w_lcs, PD.o_eq_s, PD.o_ne_s, PD.o_eq_i, PD.o_ne_i, PD.w_gtp2, PD.w_gtp3, PD.w_gtp4, PD.rg_map, PD.o_lstR0, PD.o_tupR0, PD.o_not_f, PD.o_not_t, PD.o_dec_tt, PD.o_nn, PD.o_ne_b, PD.o_eq_b, PD.o_bne_tf, PD.o_bne_ff]
        refine ifK_of (fun c1 => ?_) fun c1 => ?_
        · refine ⟨?_, j.gr.trans g2⟩
          rw [hbad (by simpa [goodB] using c1)]
        · refine ⟨_, _, _, _, rfl, hsame N2 rfl g2, j.gr.trans g2, hnext (by simpa [goodB] using c1)⟩
      | some h =>
        have hin : h ∈ rooms left r := hV
        have hh : h < w.length := hrq.2 h (rooms_sub hin).1
        have hne : (rooms left r).map (wOf w) ≠ [] := List.ne_nil_of_mem (List.mem_map_of_mem hin)
        have hemp : ((rooms left r).map (wOf w)).isEmpty = false := by cases hz : (rooms left r).map (wOf w) with
          | nil => exact absurd hz hne
          | cons => rfl
        simp only [giftD, word_snoc, PD.w_ok, PD.w_exc, PD.w_ift, PD.w_iff, PD.w_c, PD.w_getK, PD.w_slt0, PD.w_slts, PD.w_set0, PD.w_sets, PD.w_wipe0, PD.w_wipes, PD.w_var, PD.w_1, PD.w_2, PD.w_nil, PD.w_cons, PD.w_app, PD.w_eif, PD.w_truK, PD.w_and, PD.w_or, PD.w_not, PD.w_call, PD.w_meth, PD.w_nonK, PD.w_make, PD.w_bm, PD.w_sl, PD.w_bNo, PD.w_intK, PD.w_bAt, PD.w_blK, PD.w_chn, PD.w_tb1, PD.w_lc, PD.w_turn, PD.w_yes, PD.w_tv, PD.w_tand, PD.w_tor, PD.w_tnot, PD.w_nm, PD.w_sub, PD.w_gnil, PD.w_gcons, PD.w_knx, PD.w_krt, PD.w_kbk, PD.w_kct, PD.w_kex, PD.w_seq, PD.w_next, PD.w_asg, PD.w_expr, PD.w_ret, PD.w_retN, PD.w_brk, PD.w_cnt, PD.w_if, PD.w_aug, PD.w_fset, PD.w_saug, PD.w_for, PD.w_while, PD.w_ie, PD.w_rt, PD.w_nx, PD.w_ex, PD.w_rg1, PD.w_rg2, PD.w_enu, PD.w_zip2, PD.w_zipT, PD.w_rgl1, PD.o_add_i, PD.o_sub_i, PD.o_lt_i, PD.o_le_i, PD.o_gt_i, PD.o_ge_i, PD.o_is_n, PD.o_is_b, PD.o_isnot_b, PD.o_isnot_n, PD.o_isn_non, PD.o_isn_int, PD.o_isn_tup, PD.o_neg_i, PD.o_tru_b, PD.o_int_i, PD.o_int_b, PD.o_len_t, PD.o_tup_t, PD.o_lst_t, PD.o_max2, PD.o_min2, PD.o_ix_0, PD.o_ix_1, PD.o_ix_2, PD.o_ix_3, PD.it_t, PD.it_r, PD.enu_t, PD.zip_t, PD.o_tup0, PD.o_tup1, PD.o_tup2, PD.o_tup3, PD.o_tup4, PD.o_lst0, PD.o_lst1, PD.o_lst2, PD.o_lst3, PD.o_lst4, PD.g_push, PD.w_lnx, PD.w_lct, PD.w_lbk, PD.w_lrt, PD.w_lex, PD.w_lcn, PD.w_lcs, PD.o_eq_s, PD.o_ne_s, PD.o_eq_i, PD.o_ne_i, PD.w_gtp2, PD.w_gtp3, PD.w_gtp4, PD.rg_map, PD.o_lstR0, PD.o_tupR0, PD.o_not_f, PD.o_not_t, PD.o_dec_tt, PD.o_nn, PD.o_ne_b, PD.o_eq_b, PD.o_bne_tf, PD.o_bne_ff]
        have gs2 : (N1.push (.lst [])).get N.len = some (iL ((rooms left r).map (wOf w))) := g_push_old gs
        have ge : (N1.push (.lst [])).get N1.len = some (.lst []) := g_push
        have g2 : Gr [] N (N1.push (.lst [])) := g1.push _
        generalize (N1.push (.lst [])) = N2 at *
        obtain ⟨K, k1, k2, k3, k4⟩ := hfin h N2 rfl g2 hh
        simp only [eq_nilI gs2 ge, hemp, word_snoc, PD.w_ok, PD.w_exc, PD.w_ift, PD.w_iff, PD.w_c, PD.w_getK, PD.w_slt0, PD.w_slts, PD.w_set0, PD.w_sets, PD.w_wipe0, PD.w_wipes, PD.w_var, PD.w_1, PD.w_2, PD.w_nil, PD.w_cons, PD.w_app, PD.w_eif, PD.w_truK, PD.w_and, PD.w_or, PD.w_not, PD.w_call, PD.w_meth, PD.w_nonK, PD.w_make, PD.w_bm, PD.w_sl, PD.w_bNo, PD.w_intK, PD.w_bAt, PD.w_blK, PD.w_chn, PD.w_tb1, PD.w_lc, PD.w_turn, PD.w_yes, PD.w_tv, PD.w_tand, PD.w_tor, PD.w_tnot, PD.w_nm, PD.w_sub, PD.w_gnil, PD.w_gcons, PD.w_knx, PD.w_krt, PD.w_kbk, PD.w_kct, PD.w_kex, PD.w_seq, PD.w_next, PD.w_asg, PD.w_expr, PD.w_ret, PD.w_retN, PD.w_brk, PD.w_cnt, PD.w_if, PD.w_aug, PD.w_fset, PD.w_saug, PD.w_for, PD.w_while, PD.w_ie, PD.w_rt, PD.w_nx, PD.w_ex, PD.w_rg1, PD.w_rg2, PD.w_enu, PD.w_zip2, PD.w_zipT, PD.w_rgl1, PD.o_add_i, PD.o_sub_i, PD.o_lt_i, PD.o_le_i, PD.o_gt_i, PD.o_ge_i, PD.o_is_n, PD.o_is_b, PD.o_isnot_b, PD.o_isnot_n, PD.o_isn_non, PD.o_isn_int, PD.o_isn_tup, PD.o_neg_i, PD.o_tru_b, PD.o_int_i, PD.o_int_b, PD.o_len_t, PD.o_tup_t, PD.o_lst_t, PD.o_max2, PD.o_min2, PD.o_ix_0, PD.o_ix_1, PD.o_ix_2, PD.o_ix_3, PD.it_t, PD.it_r, PD.enu_t, PD.zip_t, PD.o_tup0, PD.o_tup1, PD.o_tup2, PD.o_tup3, PD.o_tup4, PD.o_lst0, PD.o_lst1, PD.o_lst2, PD.o_lst3, PD.o_lst4, PD.g_push, PD.w_lnx, PD.w_lct, PD.w_lbk, PD.w_lrt, PD.w_lex, PD.w_lcn, PD.w_lcs, PD.o_eq_s, PD.o_ne_s, PD.o_eq_i, PD.o_ne_i, PD.w_gtp2, PD.w_gtp3, PD.w_gtp4, PD.rg_map, PD.o_lstR0, PD.o_tupR0, PD.o_not_f, PD.o_not_t, PD.o_dec_tt, PD.o_nn, PD.o_ne_b, PD.o_eq_b, PD.o_bne_tf, PD.o_bne_ff, ix_iT hh, max_L gs2 hne, k1, k2]
        refine ifK_of (fun c1 => ?_) fun c1 => ?_
        · refine ⟨?_, j.gr.trans g2⟩
          rw [hbad ?_]
          have c2 : (!decide (wOf w h = maxL ((rooms left r).map (wOf w)))) = true := c1
          show decide (wOf w h = maxL ((rooms left r).map (wOf w))) = false
          simpa using c2
        · refine ⟨_, _, _, _, rfl, k4, k3, hnext ?_⟩
          have c2 : (!decide (wOf w h = maxL ((rooms left r).map (wOf w)))) = false := c1
          show decide (wOf w h = maxL ((rooms left r).map (wOf w))) = true
          simpa using c2
  · rintro ρ N ⟨o5, o6, o7, o8, rfl, j⟩
    simp only [word_snoc, PD.w_ok, PD.w_exc, PD.w_ift, PD.w_iff, PD.w_c, PD.w_getK, PD.w_slt0, PD.w_slts, PD.w_set0, PD.w_sets, PD.w_wipe0, PD.w_wipes, PD.w_var, PD.w_1, PD.w_2, PD.w_nil, PD.w_cons, PD.w_app, PD.w_eif, PD.w_truK, PD.w_and, PD.w_or, PD.w_not, PD.w_call, PD.w_meth, PD.w_nonK, PD.w_make, PD.w_bm, PD.w_sl, PD.w_bNo, PD.w_intK, PD.w_bAt, PD.w_blK, PD.w_chn, PD.w_tb1, PD.w_lc, PD.w_turn, PD.w_yes, PD.w_tv, PD.w_tand, PD.w_tor, PD.w_tnot, PD.w_nm, PD.w_sub, PD.w_gnil, PD.w_gcons, PD.w_knx, PD.w_krt, PD.w_kbk, PD.w_kct, PD.w_kex, PD.w_seq, PD.w_next, PD.w_asg, PD.w_expr, PD.w_ret, PD.w_retN, PD.w_brk, PD.w_cnt, PD.w_if, PD.w_aug, PD.w_fset, PD.w_saug, PD.w_for, PD.w_while, PD.w_ie, PD.w_rt, PD.w_nx, PD.w_ex, PD.w_rg1, PD.w_rg2, PD.w_enu, PD.w_zip2, PD.w_zipT, PD.w_rgl1, PD.o_add_i, PD.o_sub_i, PD.o_lt_i, PD.o_le_i, PD.o_gt_i, PD.o_ge_i, PD.o_is_n, PD.o_is_b, PD.o_isnot_b, PD.o_isnot_n, PD.o_isn_non, PD.o_isn_int, PD.o_isn_tup, PD.o_neg_i, PD.o_tru_b, PD.o_int_i, PD.o_int_b, PD.o_len_t, PD.o_tup_t, PD.o_lst_t, PD.o_max2, PD.o_min2, PD.o_ix_0, PD.o_ix_1, PD.o_ix_2, PD.o_ix_3, PD.it_t, PD.it_r, PD.enu_t, PD.zip_t, PD.o_tup0, PD.o_tup1, PD.o_tup2, PD.o_tup3, PD.o_tup4, PD.o_lst0, PD.o_lst1, PD.o_lst2, PD.o_lst3, PD.o_lst4, PD.g_push, PD.w_lnx, PD.w_lct, PD.w_lbk, PD.w_lrt, PD.w_lex, PD.w_lcn, PD.w_lcs, PD.o_eq_s, PD.o_ne_s, PD.o_eq_i, PD.o_ne_i, PD.w_gtp2, PD.w_gtp3, PD.w_gtp4, PD.rg_map, PD.o_lstR0, PD.o_tupR0, PD.o_not_f, PD.o_not_t, PD.o_dec_tt, PD.o_nn, PD.o_ne_b, PD.o_eq_b, PD.o_bne_tf, PD.o_bne_ff]
    have := (j.vs [] (by simp)).1
    refine ⟨?_, j.gr⟩
    rw [this]; rfl
end
end EG
/-! E9: what is shown; bare rows. -/
namespace EG
open PySem PD
def reqP (r : List Nat) : PyData := .tuple (r.map fun n : Nat => .int n)
def rowP (row : List (List Nat)) : PyData := .tuple (row.map reqP)
def giftP : Option Nat → PyData
  | none => .none
  | some h => .int h
def giftsP (g : List (Option Nat)) : PyData := .tuple (g.map giftP)
def yardP (c : Int) (w : List Int) : PyData := .tuple [.int c, .tuple (w.map .int)]
theorem natSh {L : LH} {n : Nat} (h : n < 1000000) : Sh L (nD n) (.int n) 1 40 := Sh.int (by omega)
theorem reqSh {L : LH} {many : Nat} {r : List Nat} (h : Req many r) (hm : many ≤ 12) : Sh L (reqD r) (reqP r) 2 500 :=
  (Sh.tup (Shs.map (f := nD) (g := fun n : Nat => PyData.int n) fun a ha => natSh (by have := h.2 a ha; omega))).mono (by omega) (by have := h.len; omega)
theorem rowSh {L : LH} {many : Nat} {row : List (List Nat)} (h : ∀ r ∈ row, Req many r) (hm : many ≤ 12) (hr : row.length ≤ 100) : Sh L (rowD row) (rowP row) 3 60000 :=
  (Sh.tup (Shs.map (f := reqD) (g := reqP) fun a ha => reqSh (h a ha) hm)).mono (by omega) (by omega)
theorem giftSh {L : LH} {o : Option Nat} (h : ∀ a, o = some a → a < 1000) : Sh L (giftD o) (giftP o) 1 40 := by
  cases o with
  | none => exact Sh.non.mono (by omega) (by omega)
  | some a => exact natSh (by have := h a rfl; omega)
theorem giftsSh {L : LH} {g : List (Option Nat)} (h : ∀ o ∈ g, ∀ a, o = some a → a < 1000) (hg : g.length ≤ 100) : Sh L (giftsD g) (giftsP g) 2 60000 :=
  (Sh.tup (Shs.map (f := giftD) (g := giftP) fun a ha => giftSh (h a ha))).mono (by omega) (by omega)
theorem yardSh {L : LH} {c : Int} {w : List Int} (hc : c.natAbs < 1000000) (h : ∀ x ∈ w, x.natAbs < 1000000) (hw : w.length ≤ 100) : Sh L (yardD c w) (yardP c w) 3 60000 :=
  (Sh.tup (Shs.cons ((Sh.int (by omega)).mono (show 1 ≤ 2 by omega) (Nat.le_refl _)) (Shs.cons (Sh.tup (Shs.map (f := D.int) (g := PyData.int) fun a ha => Sh.int (by have := h a ha; omega))) Shs.nil))).mono (by omega) (by omega)
theorem gifts_lt {w : List Int} {P : List Int → List Nat → Option Nat → Prop} (hP : ∀ l r g, P l r g → V1 l r g) {many : Nat} : ∀ {row : List (List Nat)} {g : List (Option Nat)} {left : List Int}, (∀ r ∈ row, Req many r) → many ≤ 1000 → g.length = row.length → AllS P left (row.zip g) → ∀ o ∈ g, ∀ a, o = some a → a < 1000
  | _, [], _, _, _, _, _ => fun o h => nomatch h
  | [], _ :: _, _, _, _, h, _ => by cases h
  | r :: row, x :: g, left, hr, hm, hl, h => by
    intro o ho a e
    rcases List.mem_cons.mp ho with rfl | ho
    · have := hP _ _ _ h.1
      subst e
      have h2 := (hr r (List.mem_cons_self ..)).2 a (rooms_sub this).1
      omega
    · exact gifts_lt (w := w) hP (fun r h => hr r (List.mem_cons_of_mem _ h)) hm (Nat.succ.inj hl) h.2 o ho a e
theorem allS_app {P : List Int → List Nat → Option Nat → Prop} : ∀ {l l' : List (List Nat × Option Nat)} {left : List Int}, AllS P left l → AllS P ((l.map (·.2)).foldl dec1 left) l' → AllS P left (l ++ l')
  | [], _, _, _, h => h
  | (r, g) :: l, l', left, h, h' => ⟨h.1, allS_app h.2 h'⟩
/-- bare rows -/
def bareD (m c : Nat) : D := .tup [.tup [.int c, .tup (List.replicate (m + 1) (.int 1))], .tup (List.replicate (m * c) (.tup ((List.range (m + 1)).map nD)) ++ List.replicate c (.tup [.int 0]))]
def bareP (m c : Nat) : PyData := .tuple [yardP c (List.replicate (m + 1) 1), rowP (List.replicate (m * c) (List.range (m + 1)) ++ List.replicate c [0])]
theorem bare_eq (m c : Nat) : bareD m c = .tup [yardD c (List.replicate (m + 1) 1), rowD (List.replicate (m * c) (List.range (m + 1)) ++ List.replicate c [0])] := by
  unfold bareD yardD rowD reqD
  rw [List.map_replicate, List.map_append, List.map_replicate, List.map_replicate]
  rfl
theorem bareSh {L : LH} {m c : Nat} (hm : m ≤ 9) (hc : c ≤ 9) : Sh L (bareD m c) (bareP m c) 5 150000 := by
  rw [bare_eq]
  have q : m * c ≤ 9 * 9 := Nat.mul_le_mul hm hc
  refine (Sh.tup (Shs.cons (yardSh (by omega) (fun x hx => by rw [(List.mem_replicate.mp hx).2]; decide) (by rw [List.length_replicate]; omega)) (Shs.cons (rowSh (many := m + 1) (fun r hr => ?_) (by omega) (by rw [List.length_append, List.length_replicate, List.length_replicate]; omega)) Shs.nil))).mono (by omega) (by omega)
  rcases List.mem_append.mp hr with hr | hr
  · rw [(List.mem_replicate.mp hr).2]; exact req_range _
  · rw [(List.mem_replicate.mp hr).2]
    exact ⟨List.pairwise_singleton _ _, fun h hh => by rw [List.mem_singleton.mp hh]; omega⟩
def BareOk (R : Rec) (i : Nat) : Prop := ∀ (L : LH) (m c : Nat), 1 ≤ m → m ≤ 9 → 1 ≤ c → c ≤ 9 → W (R i [nD m, nD c] L) (fun d M => d = bareD m c ∧ M = L) nX
theorem addN (a b : Nat) : D.int ((a : Int) + (b : Int)) = nD (a + b) := rfl
section
variable {F : Nat → Option Fn} {i : Nat}
theorem bareOk (h : F i = some bare_row_fn) : From F 1 (BareOk · i) := by
  intro n L m c m1 m2 c1 c2
  rw [W_runN h rfl]
  unfold bare_row_fn
  show WS _ _ [some (nD m), some (nD c), none] L _ _
  generalize PD.runN F n = R at *
  have e1 : (m : Int) + 1 = ((m + 1 : Nat) : Int) := rfl
  have q : m * c ≤ 9 * 9 := Nat.mul_le_mul m2 c2
  have q1 : 1 ≤ m * c := Nat.mul_pos m1 c1
  have e2 : oMul (nD m) (nD c) L = .ok (nD (m * c)) L := by
    rw [o_mul_i (.inl (by unfold big64; omega))]
    unfold nD; rw [Int.natCast_mul]
  have e3 : oMul (.tup [.int 1]) (nD (m + 1)) L = .ok (.tup (List.replicate (m + 1) (.int 1))) L := mul_t1 (by omega) (by omega)
  have e4 : oMul (.tup [.tup ((List.range (m + 1)).map nD)]) (nD (m * c)) L = .ok (.tup (List.replicate (m * c) (.tup ((List.range (m + 1)).map nD)))) L := mul_t1 q1 (by omega)
  have e5 : oMul (.tup [.tup [.int 0]]) (nD c) L = .ok (.tup (List.replicate c (.tup [.int 0]))) L := mul_t1 c1 (by omega)
  simp only [word_snoc, PD.w_ok, PD.w_exc, PD.w_ift, PD.w_iff, PD.w_c, PD.w_getK, PD.w_slt0, PD.w_slts, PD.w_set0, PD.w_sets, PD.w_wipe0, PD.w_wipes, PD.w_var, PD.w_1, PD.w_2, PD.w_nil, PD.w_cons, PD.w_app, PD.w_eif, PD.w_truK, PD.w_and, PD.w_or, PD.w_not, PD.w_call, PD.w_meth, PD.w_nonK, PD.w_make, PD.w_bm, PD.w_sl, PD.w_bNo, PD.w_intK, PD.w_bAt, PD.w_blK, PD.w_chn, PD.w_tb1, PD.w_lc, PD.w_turn, PD.w_yes, PD.w_tv, PD.w_tand, PD.w_tor, PD.w_tnot, PD.w_nm, PD.w_sub, PD.w_gnil, PD.w_gcons, PD.w_knx, PD.w_krt, PD.w_kbk, PD.w_kct, PD.w_kex, PD.w_seq, PD.w_next, PD.w_asg, PD.w_expr, PD.w_ret, PD.w_retN, PD.w_brk, PD.w_cnt, PD.w_if, PD.w_aug, PD.w_fset, PD.w_saug, PD.w_for, PD.w_while, PD.w_ie, PD.w_rt, PD.w_nx, PD.w_ex, PD.w_rg1, PD.w_rg2, PD.w_enu, PD.w_zip2, PD.w_zipT, PD.w_rgl1, PD.o_add_i, PD.o_sub_i, PD.o_lt_i, PD.o_le_i, PD.o_gt_i, PD.o_ge_i, PD.o_is_n, PD.o_is_b, PD.o_isnot_b, PD.o_isnot_n, PD.o_isn_non, PD.o_isn_int, PD.o_isn_tup, PD.o_neg_i, PD.o_tru_b, PD.o_int_i, PD.o_int_b, PD.o_len_t, PD.o_tup_t, PD.o_lst_t, PD.o_max2, PD.o_min2, PD.o_ix_0, PD.o_ix_1, PD.o_ix_2, PD.o_ix_3, PD.it_t, PD.it_r, PD.enu_t, PD.zip_t, PD.o_tup0, PD.o_tup1, PD.o_tup2, PD.o_tup3, PD.o_tup4, PD.o_lst0, PD.o_lst1, PD.o_lst2, PD.o_lst3, PD.o_lst4, PD.g_push, PD.w_lnx, PD.w_lct, PD.w_lbk, PD.w_lrt, PD.w_lex, PD.w_lcn, PD.w_lcs, PD.o_eq_s, PD.o_ne_s, PD.o_eq_i, PD.o_ne_i, PD.w_gtp2, PD.w_gtp3, PD.w_gtp4, PD.rg_map, PD.o_lstR0, PD.o_tupR0, PD.o_not_f, PD.o_not_t, PD.o_dec_tt, PD.o_nn, PD.o_ne_b, PD.o_eq_b, PD.o_bne_tf, PD.o_bne_ff, e1]
  refine ⟨rgOk_of (by omega), ?_⟩
  simp only [word_snoc, PD.w_ok, PD.w_exc, PD.w_ift, PD.w_iff, PD.w_c, PD.w_getK, PD.w_slt0, PD.w_slts, PD.w_set0, PD.w_sets, PD.w_wipe0, PD.w_wipes, PD.w_var, PD.w_1, PD.w_2, PD.w_nil, PD.w_cons, PD.w_app, PD.w_eif, PD.w_truK, PD.w_and, PD.w_or, PD.w_not, PD.w_call, PD.w_meth, PD.w_nonK, PD.w_make, PD.w_bm, PD.w_sl, PD.w_bNo, PD.w_intK, PD.w_bAt, PD.w_blK, PD.w_chn, PD.w_tb1, PD.w_lc, PD.w_turn, PD.w_yes, PD.w_tv, PD.w_tand, PD.w_tor, PD.w_tnot, PD.w_nm, PD.w_sub, PD.w_gnil, PD.w_gcons, PD.w_knx, PD.w_krt, PD.w_kbk, PD.w_kct, PD.w_kex, PD.w_seq, PD.w_next, PD.w_asg, PD.w_expr, PD.w_ret, PD.w_retN, PD.w_brk, PD.w_cnt, PD.w_if, PD.w_aug, PD.w_fset, PD.w_saug, PD.w_for, PD.w_while, PD.w_ie, PD.w_rt, PD.w_nx, PD.w_ex, PD.w_rg1, PD.w_rg2, PD.w_enu, PD.w_zip2, PD.w_zipT, PD.w_rgl1, PD.o_add_i, PD.o_sub_i, PD.o_lt_i, PD.o_le_i, PD.o_gt_i, PD.o_ge_i, PD.o_is_n, PD.o_is_b, PD.o_isnot_b, PD.o_isnot_n, PD.o_isn_non, PD.o_isn_int, PD.o_isn_tup, PD.o_neg_i, PD.o_tru_b, PD.o_int_i, PD.o_int_b, PD.o_len_t, PD.o_tup_t, PD.o_lst_t, PD.o_max2, PD.o_min2, PD.o_ix_0, PD.o_ix_1, PD.o_ix_2, PD.o_ix_3, PD.it_t, PD.it_r, PD.enu_t, PD.zip_t, PD.o_tup0, PD.o_tup1, PD.o_tup2, PD.o_tup3, PD.o_tup4, PD.o_lst0, PD.o_lst1, PD.o_lst2, PD.o_lst3, PD.o_lst4, PD.g_push, PD.w_lnx, PD.w_lct, PD.w_lbk, PD.w_lrt, PD.w_lex, PD.w_lcn, PD.w_lcs, PD.o_eq_s, PD.o_ne_s, PD.o_eq_i, PD.o_ne_i, PD.w_gtp2, PD.w_gtp3, PD.w_gtp4, PD.rg_map, PD.o_lstR0, PD.o_tupR0, PD.o_not_f, PD.o_not_t, PD.o_dec_tt, PD.o_nn, PD.o_ne_b, PD.o_eq_b, PD.o_bne_tf, PD.o_bne_ff, e2, e3, e4, e5]
  rw [o_add_t (by rw [List.length_replicate, List.length_replicate]; exact sz_of (by omega))]
  simp only [word_snoc, PD.w_ok, PD.w_exc, PD.w_ift, PD.w_iff, PD.w_c, PD.w_getK, PD.w_slt0, PD.w_slts, PD.w_set0, PD.w_sets, PD.w_wipe0, PD.w_wipes, PD.w_var, PD.w_1, PD.w_2, PD.w_nil, PD.w_cons, PD.w_app, PD.w_eif, PD.w_truK, PD.w_and, PD.w_or, PD.w_not, PD.w_call, PD.w_meth, PD.w_nonK, PD.w_make, PD.w_bm, PD.w_sl, PD.w_bNo, PD.w_intK, PD.w_bAt, PD.w_blK, PD.w_chn, PD.w_tb1, PD.w_lc, PD.w_turn, PD.w_yes, PD.w_tv, PD.w_tand, PD.w_tor, PD.w_tnot, PD.w_nm, PD.w_sub, PD.w_gnil, PD.w_gcons, PD.w_knx, PD.w_krt, PD.w_kbk, PD.w_kct, PD.w_kex, PD.w_seq, PD.w_next, PD.w_asg, PD.w_expr, PD.w_ret, PD.w_retN, PD.w_brk, PD.w_cnt, PD.w_if, PD.w_aug, PD.w_fset, PD.w_saug, PD.w_for, PD.w_while, PD.w_ie, PD.w_rt, PD.w_nx, PD.w_ex, PD.w_rg1, PD.w_rg2, PD.w_enu, PD.w_zip2, PD.w_zipT, PD.w_rgl1, PD.o_add_i, PD.o_sub_i, PD.o_lt_i, PD.o_le_i, PD.o_gt_i, PD.o_ge_i, PD.o_is_n, PD.o_is_b, PD.o_isnot_b, PD.o_isnot_n, PD.o_isn_non, PD.o_isn_int, PD.o_isn_tup, PD.o_neg_i, PD.o_tru_b, PD.o_int_i, PD.o_int_b, PD.o_len_t, PD.o_tup_t, PD.o_lst_t, PD.o_max2, PD.o_min2, PD.o_ix_0, PD.o_ix_1, PD.o_ix_2, PD.o_ix_3, PD.it_t, PD.it_r, PD.enu_t, PD.zip_t, PD.o_tup0, PD.o_tup1, PD.o_tup2, PD.o_tup3, PD.o_tup4, PD.o_lst0, PD.o_lst1, PD.o_lst2, PD.o_lst3, PD.o_lst4, PD.g_push, PD.w_lnx, PD.w_lct, PD.w_lbk, PD.w_lrt, PD.w_lex, PD.w_lcn, PD.w_lcs, PD.o_eq_s, PD.o_ne_s, PD.o_eq_i, PD.o_ne_i, PD.w_gtp2, PD.w_gtp3, PD.w_gtp4, PD.rg_map, PD.o_lstR0, PD.o_tupR0, PD.o_not_f, PD.o_not_t, PD.o_dec_tt, PD.o_nn, PD.o_ne_b, PD.o_eq_b, PD.o_bne_tf, PD.o_bne_ff]
  exact ⟨rfl, trivial⟩
end
end EG
/-! E10: the law k71 and its lap, as combinators (printed by pfn.py, sub.py). -/
namespace EG
open PySem PD
def law_fn (i_first_gifts : Nat) (i_bare_row : Nat) (i_law_pick : Nat) (i_is_eager : Nat) (i_law_is_eager : Nat) (i_law_any_gifts : Nat) (i_law_eager : Nat) (i_run : Nat) (tb_give : List (Nat × Nat)) (c_FirstGiver : Nat) (i_FirstGiver_init : Nat) (i_law_first : Nat) (i_law_row : Nat) (i_law_yard : Nat) (i_law_source : Nat) : Fn := ⟨19, 1, (sSeq (sAsg (eCall i_law_source (aCons (eVar 0) aNil)) (gNm 1)) (sSeq (sFor (gNm 2) (iRange1 (aCons (eC (.int 6)) aNil)) (sSeq (sAsg (aApp (aCons (eCall i_law_yard (aCons (eVar 1) (aCons (eC (.int 6)) (aCons (eC (.int 3)) aNil)))) (aCons (e2 oAdd (eC (.int 1)) (eCall i_law_pick (aCons (eVar 1) (aCons (eC (.int 4)) aNil)))) aNil)) oTup) (gTp 2 (gsCons (gNm 3) (gsCons (gNm 4) gsNil)))) (sSeq (sAsg (eCall i_law_row (aCons (eVar 1) (aCons (aApp (aCons (e2 oIx (eVar 3) (eC (.int 1))) aNil) bLen) (aCons (eC (.int 30)) aNil)))) (gNm 5)) (sSeq (sAsg (aApp (aCons (eCall i_law_first (aCons (eVar 3) (aCons (eVar 4) (aCons (eVar 5) aNil)))) (aCons (aApp (aCons (aApp (aCons (eVar 3) (aCons (eVar 5) aNil)) oLst) aNil) bReprO) aNil)) oTup) (gTp 2 (gsCons (gNm 6) (gsCons (gNm 7) gsNil)))) (sSeq (sIf (tOr (tV (e2 oNe (aApp (aCons (aApp (aCons (eCall i_first_gifts (aCons (eVar 3) (aCons (eVar 4) (aCons (eVar 5) aNil)))) (aCons (eCall i_run (aCons (eMake c_FirstGiver i_FirstGiver_init (aCons (eVar 3) (aCons (eVar 4) aNil))) (aCons (eVar 5) aNil))) aNil)) oLst) aNil) bReprO) (aApp (aCons (aApp (aCons (eVar 6) (aCons (eVar 6) aNil)) oLst) aNil) bReprO))) (tV (e2 oIsNot (eCall i_is_eager (aCons (eVar 3) (aCons (eVar 4) (aCons (eVar 5) (aCons (eVar 6) aNil))))) (eC (.bl true))))) (sSeq (sRet (eC (.bl false))) sNext) sNext) (sSeq (sAsg (aApp (aCons (eCall i_law_pick (aCons (eVar 1) (aCons (e2 oAdd (aApp (aCons (eVar 5) aNil) bLen) (eC (.int 1))) aNil))) (aCons (aApp (aCons (eMake c_FirstGiver i_FirstGiver_init (aCons (eVar 3) (aCons (eVar 4) aNil))) (aCons (eMake c_FirstGiver i_FirstGiver_init (aCons (eVar 3) (aCons (eVar 4) aNil))) aNil)) oLst) aNil)) oTup) (gTp 2 (gsCons (gNm 8) (gsCons (gNm 9) gsNil)))) (sSeq (sAsg (eLc [11] (iRange1 (aCons (eC (.int 2)) aNil)) (cTurn (gNm 11) tYesT (eCall i_run (aCons (e2 oIx (eVar 9) (eVar 11)) (aCons (eSl (eVar 5) bNo (bAt (eVar 8))) aNil))))) (gNm 10)) (sSeq (sAsg (aApp (aCons (e2 oAdd (e2 oIx (eVar 10) (eC (.int 1))) (aApp (aCons (eLc [12] (iE (eSl (eVar 5) (bAt (eVar 8)) bNo)) (cTurn (gNm 12) tYesT (eMeth "give" tb_give (e2 oIx (eVar 9) (eC (.int 1))) (aCons (eVar 12) aNil)))) aNil) bTup)) (aCons (e2 oAdd (e2 oIx (eVar 10) (eC (.int 0))) (eCall i_run (aCons (e2 oIx (eVar 9) (eC (.int 0))) (aCons (eSl (eVar 5) (bAt (eVar 8)) bNo) aNil)))) aNil)) oLst) (gNm 10)) (sSeq (sIf (tV (e2 oNe (aApp (aCons (eVar 10) aNil) bReprO) (aApp (aCons (aApp (aCons (eVar 6) (aCons (eVar 6) aNil)) oLst) aNil) bReprO))) (sSeq (sRet (eC (.bl false))) sNext) sNext) (sSeq (sAsg (eCall i_law_eager (aCons (eVar 1) (aCons (eVar 3) (aCons (eVar 4) (aCons (eVar 5) aNil))))) (gNm 13)) (sSeq (sIf (tOr (tV (e2 oIsNot (eCall i_is_eager (aCons (eVar 3) (aCons (eVar 4) (aCons (eVar 5) (aCons (eVar 13) aNil))))) (eC (.bl true)))) (tV (e2 oNe (aApp (aCons (aApp (aCons (eVar 3) (aCons (eVar 5) aNil)) oLst) aNil) bReprO) (eVar 7)))) (sSeq (sRet (eC (.bl false))) sNext) sNext) (sSeq (sFor (gNm 14) (iRange1 (aCons (eC (.int 4)) aNil)) (sSeq (sAsg (eCall i_law_any_gifts (aCons (eVar 1) (aCons (e2 oMul (eVar 4) (e2 oIx (eVar 3) (eC (.int 0)))) (aCons (eVar 5) (aCons (aApp (aCons (e2 oIx (eVar 3) (eC (.int 1))) aNil) bLen) aNil))))) (gNm 15)) (sSeq (sIf (tV (e2 oNe (aApp (aCons (eCall i_is_eager (aCons (eVar 3) (aCons (eVar 4) (aCons (eVar 5) (aCons (eVar 15) aNil))))) aNil) bReprO) (aApp (aCons (eCall i_law_is_eager (aCons (eVar 3) (aCons (eVar 4) (aCons (eVar 5) (aCons (eVar 15) aNil))))) aNil) bReprO))) (sSeq (sRet (eC (.bl false))) sNext) sNext) sNext))) (sSeq (sIf (tV (e2 oGt (aApp (aCons (eVar 5) aNil) bLen) (eC (.int 0)))) (sSeq (sAsg (eCall i_law_pick (aCons (eVar 1) (aCons (aApp (aCons (eVar 5) aNil) bLen) aNil))) (gNm 11)) (sSeq (sAsg (e2 oAdd (e2 oAdd (eSl (eVar 13) bNo (bAt (eVar 11))) (aApp (aCons (eC .non) aNil) oTup)) (eSl (eVar 13) (bAt (e2 oAdd (eVar 11) (eC (.int 1)))) bNo)) (gNm 16)) (sSeq (sIf (tV (e2 oNe (aApp (aCons (eCall i_is_eager (aCons (eVar 3) (aCons (eVar 4) (aCons (eVar 5) (aCons (eVar 16) aNil))))) aNil) bReprO) (aApp (aCons (eCall i_law_is_eager (aCons (eVar 3) (aCons (eVar 4) (aCons (eVar 5) (aCons (eVar 16) aNil))))) aNil) bReprO))) (sSeq (sRet (eC (.bl false))) sNext) sNext) sNext))) sNext) (sSeq (sAsg (e2 oAdd (eC (.int 1)) (eCall i_law_pick (aCons (eVar 1) (aCons (eC (.int 5)) aNil)))) (gNm 17)) (sSeq (sAsg (aApp (aCons (rg1 oLstR (e2 oAdd (eVar 4) (eC (.int 1)))) aNil) bTup) (gNm 18)) (sSeq (sIf (tV (e2 oNe (aApp (aCons (eCall i_bare_row (aCons (eVar 4) (aCons (eVar 17) aNil))) aNil) bReprO) (aApp (aCons (aApp (aCons (aApp (aCons (eVar 17) (aCons (e2 oMul (aApp (aCons (eC (.int 1)) aNil) oTup) (e2 oAdd (eVar 4) (eC (.int 1)))) aNil)) oTup) (aCons (e2 oAdd (e2 oMul (aApp (aCons (eVar 18) aNil) oTup) (e2 oMul (eVar 4) (eVar 17))) (e2 oMul (aApp (aCons (aApp (aCons (eC (.int 0)) aNil) oTup) aNil) oTup) (eVar 17))) aNil)) oTup) aNil) bReprO))) (sSeq (sRet (eC (.bl false))) sNext) sNext) sNext)))))))))))))))) (sSeq (sRet (e2 oEq (eCall i_first_gifts (aCons (aApp (aCons (eC (.int 1)) (aCons (aApp (aCons (eC (.int 2)) (aCons (eC (.int 5)) (aCons (eC (.int 5)) aNil))) oTup) aNil)) oTup) (aCons (eC (.int 1)) (aCons (aApp (aCons (aApp (aCons (eC (.int 0)) (aCons (eC (.int 1)) (aCons (eC (.int 2)) aNil))) oTup) (aCons (aApp (aCons (eC (.int 0)) (aCons (eC (.int 1)) (aCons (eC (.int 2)) aNil))) oTup) (aCons (aApp (aCons (eC (.int 0)) (aCons (eC (.int 1)) (aCons (eC (.int 2)) aNil))) oTup) (aCons (aApp (aCons (eC (.int 1)) (aCons (eC (.int 2)) aNil)) oTup) aNil)))) oTup) aNil)))) (aApp (aCons (eC (.int 1)) (aCons (eC (.int 2)) (aCons (eC (.int 0)) (aCons (eC .non) aNil)))) oTup))) sNext)))⟩
def law_lap (i_first_gifts : Nat) (i_bare_row : Nat) (i_law_pick : Nat) (i_is_eager : Nat) (i_law_is_eager : Nat) (i_law_any_gifts : Nat) (i_law_eager : Nat) (i_run : Nat) (tb_give : List (Nat × Nat)) (c_FirstGiver : Nat) (i_FirstGiver_init : Nat) (i_law_first : Nat) (i_law_row : Nat) (i_law_yard : Nat) : FS := (sSeq (sAsg (aApp (aCons (eCall i_law_yard (aCons (eVar 1) (aCons (eC (.int 6)) (aCons (eC (.int 3)) aNil)))) (aCons (e2 oAdd (eC (.int 1)) (eCall i_law_pick (aCons (eVar 1) (aCons (eC (.int 4)) aNil)))) aNil)) oTup) (gTp 2 (gsCons (gNm 3) (gsCons (gNm 4) gsNil)))) (sSeq (sAsg (eCall i_law_row (aCons (eVar 1) (aCons (aApp (aCons (e2 oIx (eVar 3) (eC (.int 1))) aNil) bLen) (aCons (eC (.int 30)) aNil)))) (gNm 5)) (sSeq (sAsg (aApp (aCons (eCall i_law_first (aCons (eVar 3) (aCons (eVar 4) (aCons (eVar 5) aNil)))) (aCons (aApp (aCons (aApp (aCons (eVar 3) (aCons (eVar 5) aNil)) oLst) aNil) bReprO) aNil)) oTup) (gTp 2 (gsCons (gNm 6) (gsCons (gNm 7) gsNil)))) (sSeq (sIf (tOr (tV (e2 oNe (aApp (aCons (aApp (aCons (eCall i_first_gifts (aCons (eVar 3) (aCons (eVar 4) (aCons (eVar 5) aNil)))) (aCons (eCall i_run (aCons (eMake c_FirstGiver i_FirstGiver_init (aCons (eVar 3) (aCons (eVar 4) aNil))) (aCons (eVar 5) aNil))) aNil)) oLst) aNil) bReprO) (aApp (aCons (aApp (aCons (eVar 6) (aCons (eVar 6) aNil)) oLst) aNil) bReprO))) (tV (e2 oIsNot (eCall i_is_eager (aCons (eVar 3) (aCons (eVar 4) (aCons (eVar 5) (aCons (eVar 6) aNil))))) (eC (.bl true))))) (sSeq (sRet (eC (.bl false))) sNext) sNext) (sSeq (sAsg (aApp (aCons (eCall i_law_pick (aCons (eVar 1) (aCons (e2 oAdd (aApp (aCons (eVar 5) aNil) bLen) (eC (.int 1))) aNil))) (aCons (aApp (aCons (eMake c_FirstGiver i_FirstGiver_init (aCons (eVar 3) (aCons (eVar 4) aNil))) (aCons (eMake c_FirstGiver i_FirstGiver_init (aCons (eVar 3) (aCons (eVar 4) aNil))) aNil)) oLst) aNil)) oTup) (gTp 2 (gsCons (gNm 8) (gsCons (gNm 9) gsNil)))) (sSeq (sAsg (eLc [11] (iRange1 (aCons (eC (.int 2)) aNil)) (cTurn (gNm 11) tYesT (eCall i_run (aCons (e2 oIx (eVar 9) (eVar 11)) (aCons (eSl (eVar 5) bNo (bAt (eVar 8))) aNil))))) (gNm 10)) (sSeq (sAsg (aApp (aCons (e2 oAdd (e2 oIx (eVar 10) (eC (.int 1))) (aApp (aCons (eLc [12] (iE (eSl (eVar 5) (bAt (eVar 8)) bNo)) (cTurn (gNm 12) tYesT (eMeth "give" tb_give (e2 oIx (eVar 9) (eC (.int 1))) (aCons (eVar 12) aNil)))) aNil) bTup)) (aCons (e2 oAdd (e2 oIx (eVar 10) (eC (.int 0))) (eCall i_run (aCons (e2 oIx (eVar 9) (eC (.int 0))) (aCons (eSl (eVar 5) (bAt (eVar 8)) bNo) aNil)))) aNil)) oLst) (gNm 10)) (sSeq (sIf (tV (e2 oNe (aApp (aCons (eVar 10) aNil) bReprO) (aApp (aCons (aApp (aCons (eVar 6) (aCons (eVar 6) aNil)) oLst) aNil) bReprO))) (sSeq (sRet (eC (.bl false))) sNext) sNext) (sSeq (sAsg (eCall i_law_eager (aCons (eVar 1) (aCons (eVar 3) (aCons (eVar 4) (aCons (eVar 5) aNil))))) (gNm 13)) (sSeq (sIf (tOr (tV (e2 oIsNot (eCall i_is_eager (aCons (eVar 3) (aCons (eVar 4) (aCons (eVar 5) (aCons (eVar 13) aNil))))) (eC (.bl true)))) (tV (e2 oNe (aApp (aCons (aApp (aCons (eVar 3) (aCons (eVar 5) aNil)) oLst) aNil) bReprO) (eVar 7)))) (sSeq (sRet (eC (.bl false))) sNext) sNext) (sSeq (sFor (gNm 14) (iRange1 (aCons (eC (.int 4)) aNil)) (sSeq (sAsg (eCall i_law_any_gifts (aCons (eVar 1) (aCons (e2 oMul (eVar 4) (e2 oIx (eVar 3) (eC (.int 0)))) (aCons (eVar 5) (aCons (aApp (aCons (e2 oIx (eVar 3) (eC (.int 1))) aNil) bLen) aNil))))) (gNm 15)) (sSeq (sIf (tV (e2 oNe (aApp (aCons (eCall i_is_eager (aCons (eVar 3) (aCons (eVar 4) (aCons (eVar 5) (aCons (eVar 15) aNil))))) aNil) bReprO) (aApp (aCons (eCall i_law_is_eager (aCons (eVar 3) (aCons (eVar 4) (aCons (eVar 5) (aCons (eVar 15) aNil))))) aNil) bReprO))) (sSeq (sRet (eC (.bl false))) sNext) sNext) sNext))) (sSeq (sIf (tV (e2 oGt (aApp (aCons (eVar 5) aNil) bLen) (eC (.int 0)))) (sSeq (sAsg (eCall i_law_pick (aCons (eVar 1) (aCons (aApp (aCons (eVar 5) aNil) bLen) aNil))) (gNm 11)) (sSeq (sAsg (e2 oAdd (e2 oAdd (eSl (eVar 13) bNo (bAt (eVar 11))) (aApp (aCons (eC .non) aNil) oTup)) (eSl (eVar 13) (bAt (e2 oAdd (eVar 11) (eC (.int 1)))) bNo)) (gNm 16)) (sSeq (sIf (tV (e2 oNe (aApp (aCons (eCall i_is_eager (aCons (eVar 3) (aCons (eVar 4) (aCons (eVar 5) (aCons (eVar 16) aNil))))) aNil) bReprO) (aApp (aCons (eCall i_law_is_eager (aCons (eVar 3) (aCons (eVar 4) (aCons (eVar 5) (aCons (eVar 16) aNil))))) aNil) bReprO))) (sSeq (sRet (eC (.bl false))) sNext) sNext) sNext))) sNext) (sSeq (sAsg (e2 oAdd (eC (.int 1)) (eCall i_law_pick (aCons (eVar 1) (aCons (eC (.int 5)) aNil)))) (gNm 17)) (sSeq (sAsg (aApp (aCons (rg1 oLstR (e2 oAdd (eVar 4) (eC (.int 1)))) aNil) bTup) (gNm 18)) (sSeq (sIf (tV (e2 oNe (aApp (aCons (eCall i_bare_row (aCons (eVar 4) (aCons (eVar 17) aNil))) aNil) bReprO) (aApp (aCons (aApp (aCons (aApp (aCons (eVar 17) (aCons (e2 oMul (aApp (aCons (eC (.int 1)) aNil) oTup) (e2 oAdd (eVar 4) (eC (.int 1)))) aNil)) oTup) (aCons (e2 oAdd (e2 oMul (aApp (aCons (eVar 18) aNil) oTup) (e2 oMul (eVar 4) (eVar 17))) (e2 oMul (aApp (aCons (aApp (aCons (eC (.int 0)) aNil) oTup) aNil) oTup) (eVar 17))) aNil)) oTup) aNil) bReprO))) (sSeq (sRet (eC (.bl false))) sNext) sNext) sNext)))))))))))))))
end EG
/-! E11: one lap of the law. -/
namespace EG
open PySem PD
structure Kit (R : Rec) (fg br pk ie lie ag eg rn : Nat) (tb : List (Nat × Nat)) (cc ii lf rw yd ig : Nat) : Prop where
  fg : FirstOk R fg
  br : BareOk R br
  pk : PickOk R pk
  ie : EagOk R ie
  lie : EagOk R lie
  ag : AnyOk R ag
  eg : EagerOk R eg
  rn : RunOk cc R rn
  made : MadeOk cc R ii
  lf : FirstOk R lf
  rw : RowOk R rw
  yd : YardOk R yd
  gv : GiveOk cc R ig
  tb : tb.lookup cc = some ig
section
variable {R : Rec} {fg br pk ie lie ag eg rn : Nat} {tb : List (Nat × Nat)} {cc ii lf rw yd ig : Nat} {X : XP} {S : Fl × Slt → LH → Prop}
theorem lap_ok (K : Kit R fg br pk ie lie ag eg rn tb cc ii lf rw yd ig) {s c : Nat} {L : LH} {sc o2 o3 o4 o5 o6 o7 o8 o9 o10 o11 o12 o13 o14 o15 o16 o17 o18 : Option D} (hs : Src L s c)
    (hS : ∀ (o2 o3 o4 o5 o6 o7 o8 o9 o10 o11 o12 o13 o14 o15 o16 o17 o18 : Option D) (M : LH), Src M s c → S (.nx, [sc, some (.ref s), o2, o3, o4, o5, o6, o7, o8, o9, o10, o11, o12, o13, o14, o15, o16, o17, o18]) M) :
    WS (law_lap fg br pk ie lie ag eg rn tb cc ii lf rw yd) R [sc, some (.ref s), o2, o3, o4, o5, o6, o7, o8, o9, o10, o11, o12, o13, o14, o15, o16, o17, o18] L S X := by
  unfold law_lap
  -- the yard, m
  refine w_cut (fun ρ M => ∃ (c0 : Int) (w : List Int) (m : Nat), ρ = [sc, some (.ref s), o2, some (yardD c0 w), some (nD m), o5, o6, o7, o8, o9, o10, o11, o12, o13, o14, o15, o16, o17, o18] ∧ 1 ≤ c0 ∧ c0 ≤ 3 ∧ 1 ≤ w.length ∧ w.length ≤ 6 ∧ (∀ x ∈ w, 1 ≤ x ∧ x ≤ 1000) ∧ 1 ≤ m ∧ m ≤ 4 ∧ Src M s c) ?_ ?_
  · try simp only [word_snoc, PD.w_ok, PD.w_exc, PD.w_ift, PD.w_iff, PD.w_c, PD.w_getK, PD.w_slt0, PD.w_slts, PD.w_set0, PD.w_sets, PD.w_wipe0, PD.w_wipes, PD.w_var, PD.w_1, PD.w_2, PD.w_nil, PD.w_cons, PD.w_app, PD.w_eif, PD.w_truK, PD.w_and, PD.w_or, PD.w_not, PD.w_call, PD.w_meth, PD.w_nonK, PD.w_make, PD.w_bm, PD.w_sl, PD.w_bNo, PD.w_intK, PD.w_bAt, PD.w_blK, PD.w_chn, PD.w_tb1, PD.w_lc, PD.w_turn, PD.w_yes, PD.w_tv, PD.w_tand, PD.w_tor, PD.w_tnot, PD.w_nm, PD.w_sub, PD.w_gnil, PD.w_gcons, PD.w_knx, PD.w_krt, PD.w_kbk, PD.w_kct, PD.w_kex, PD.w_seq, PD.w_next, PD.w_asg, PD.w_expr, PD.w_ret, PD.w_retN, PD.w_brk, PD.w_cnt, PD.w_if, PD.w_aug, PD.w_fset, PD.w_saug, PD.w_for, PD.w_while, PD.w_ie, PD.w_rt, PD.w_nx, PD.w_ex, PD.w_rg1, PD.w_rg2, PD.w_enu, PD.w_zip2, PD.w_zipT, PD.w_rgl1, PD.o_add_i, PD.o_sub_i, PD.o_lt_i, PD.o_le_i, PD.o_gt_i, PD.o_ge_i, PD.o_is_n, PD.o_is_b, PD.o_isnot_b, PD.o_isnot_n, PD.o_isn_non, PD.o_isn_int, PD.o_isn_tup, PD.o_neg_i, PD.o_tru_b, PD.o_int_i, PD.o_int_b, PD.o_len_t, PD.o_tup_t, PD.o_lst_t, PD.o_max2, PD.o_min2, PD.o_ix_0, PD.o_ix_1, PD.o_ix_2, PD.o_ix_3, PD.it_t, PD.it_r, PD.enu_t, PD.zip_t, PD.o_tup0, PD.o_tup1, PD.o_tup2, PD.o_tup3, PD.o_tup4, PD.o_lst0, PD.o_lst1, PD.o_lst2, PD.o_lst3, PD.o_lst4, PD.g_push, PD.w_lnx, PD.w_lct, PD.w_lbk, PD.w_lrt, PD.w_lex, PD.w_lcn, PD.w_lcs, PD.o_eq_s, PD.o_ne_s, PD.o_eq_i, PD.o_ne_i, PD.w_gtp2, PD.w_gtp3, PD.w_gtp4, PD.rg_map, PD.o_lstR0, PD.o_tupR0, PD.o_not_f, PD.o_not_t, PD.o_dec_tt, PD.o_nn, PD.o_ne_b, PD.o_eq_b, PD.o_bne_tf, PD.o_bne_ff]
    refine W_use (K.yd s c L 6 3 hs (by omega) (by omega) (by omega) (by omega)) fun d M hM => ?_
    obtain ⟨c0, w, rfl, q1, q2, q3, q4, q5, d1⟩ := hM
    try simp only [word_snoc, PD.w_ok, PD.w_exc, PD.w_ift, PD.w_iff, PD.w_c, PD.w_getK, PD.w_slt0, PD.w_slts, PD.w_set0, PD.w_sets, PD.w_wipe0, PD.w_wipes, PD.w_var, PD.w_1, PD.w_2, PD.w_nil, PD.w_cons, PD.w_app, PD.w_eif, PD.w_truK, PD.w_and, PD.w_or, PD.w_not, PD.w_call, PD.w_meth, PD.w_nonK, PD.w_make, PD.w_bm, PD.w_sl, PD.w_bNo, PD.w_intK, PD.w_bAt, PD.w_blK, PD.w_chn, PD.w_tb1, PD.w_lc, PD.w_turn, PD.w_yes, PD.w_tv, PD.w_tand, PD.w_tor, PD.w_tnot, PD.w_nm, PD.w_sub, PD.w_gnil, PD.w_gcons, PD.w_knx, PD.w_krt, PD.w_kbk, PD.w_kct, PD.w_kex, PD.w_seq, PD.w_next, PD.w_asg, PD.w_expr, PD.w_ret, PD.w_retN, PD.w_brk, PD.w_cnt, PD.w_if, PD.w_aug, PD.w_fset, PD.w_saug, PD.w_for, PD.w_while, PD.w_ie, PD.w_rt, PD.w_nx, PD.w_ex, PD.w_rg1, PD.w_rg2, PD.w_enu, PD.w_zip2, PD.w_zipT, PD.w_rgl1, PD.o_add_i, PD.o_sub_i, PD.o_lt_i, PD.o_le_i, PD.o_gt_i, PD.o_ge_i, PD.o_is_n, PD.o_is_b, PD.o_isnot_b, PD.o_isnot_n, PD.o_isn_non, PD.o_isn_int, PD.o_isn_tup, PD.o_neg_i, PD.o_tru_b, PD.o_int_i, PD.o_int_b, PD.o_len_t, PD.o_tup_t, PD.o_lst_t, PD.o_max2, PD.o_min2, PD.o_ix_0, PD.o_ix_1, PD.o_ix_2, PD.o_ix_3, PD.it_t, PD.it_r, PD.enu_t, PD.zip_t, PD.o_tup0, PD.o_tup1, PD.o_tup2, PD.o_tup3, PD.o_tup4, PD.o_lst0, PD.o_lst1, PD.o_lst2, PD.o_lst3, PD.o_lst4, PD.g_push, PD.w_lnx, PD.w_lct, PD.w_lbk, PD.w_lrt, PD.w_lex, PD.w_lcn, PD.w_lcs, PD.o_eq_s, PD.o_ne_s, PD.o_eq_i, PD.o_ne_i, PD.w_gtp2, PD.w_gtp3, PD.w_gtp4, PD.rg_map, PD.o_lstR0, PD.o_tupR0, PD.o_not_f, PD.o_not_t, PD.o_dec_tt, PD.o_nn, PD.o_ne_b, PD.o_eq_b, PD.o_bne_tf, PD.o_bne_ff]
    refine W_use (K.pk s c M 4 d1.src (by omega)) fun d M2 hM => ?_
    obtain ⟨r, rfl, r0, r1, d2, l2⟩ := hM
    try simp only [word_snoc, PD.w_ok, PD.w_exc, PD.w_ift, PD.w_iff, PD.w_c, PD.w_getK, PD.w_slt0, PD.w_slts, PD.w_set0, PD.w_sets, PD.w_wipe0, PD.w_wipes, PD.w_var, PD.w_1, PD.w_2, PD.w_nil, PD.w_cons, PD.w_app, PD.w_eif, PD.w_truK, PD.w_and, PD.w_or, PD.w_not, PD.w_call, PD.w_meth, PD.w_nonK, PD.w_make, PD.w_bm, PD.w_sl, PD.w_bNo, PD.w_intK, PD.w_bAt, PD.w_blK, PD.w_chn, PD.w_tb1, PD.w_lc, PD.w_turn, PD.w_yes, PD.w_tv, PD.w_tand, PD.w_tor, PD.w_tnot, PD.w_nm, PD.w_sub, PD.w_gnil, PD.w_gcons, PD.w_knx, PD.w_krt, PD.w_kbk, PD.w_kct, PD.w_kex, PD.w_seq, PD.w_next, PD.w_asg, PD.w_expr, PD.w_ret, PD.w_retN, PD.w_brk, PD.w_cnt, PD.w_if, PD.w_aug, PD.w_fset, PD.w_saug, PD.w_for, PD.w_while, PD.w_ie, PD.w_rt, PD.w_nx, PD.w_ex, PD.w_rg1, PD.w_rg2, PD.w_enu, PD.w_zip2, PD.w_zipT, PD.w_rgl1, PD.o_add_i, PD.o_sub_i, PD.o_lt_i, PD.o_le_i, PD.o_gt_i, PD.o_ge_i, PD.o_is_n, PD.o_is_b, PD.o_isnot_b, PD.o_isnot_n, PD.o_isn_non, PD.o_isn_int, PD.o_isn_tup, PD.o_neg_i, PD.o_tru_b, PD.o_int_i, PD.o_int_b, PD.o_len_t, PD.o_tup_t, PD.o_lst_t, PD.o_max2, PD.o_min2, PD.o_ix_0, PD.o_ix_1, PD.o_ix_2, PD.o_ix_3, PD.it_t, PD.it_r, PD.enu_t, PD.zip_t, PD.o_tup0, PD.o_tup1, PD.o_tup2, PD.o_tup3, PD.o_tup4, PD.o_lst0, PD.o_lst1, PD.o_lst2, PD.o_lst3, PD.o_lst4, PD.g_push, PD.w_lnx, PD.w_lct, PD.w_lbk, PD.w_lrt, PD.w_lex, PD.w_lcn, PD.w_lcs, PD.o_eq_s, PD.o_ne_s, PD.o_eq_i, PD.o_ne_i, PD.w_gtp2, PD.w_gtp3, PD.w_gtp4, PD.rg_map, PD.o_lstR0, PD.o_tupR0, PD.o_not_f, PD.o_not_t, PD.o_dec_tt, PD.o_nn, PD.o_ne_b, PD.o_eq_b, PD.o_bne_tf, PD.o_bne_ff]
    have em : D.int (1 + r) = nD (1 + r).toNat := by unfold nD; rw [Int.toNat_of_nonneg (by omega)]
    exact ⟨trivial, c0, w, (1 + r).toNat, by rw [em], q1, q2, q3, by omega, q5, by omega, by omega, d2.src⟩
  clear hs
  rintro ρ M ⟨c0, w, m, rfl, y1, y2, y3, y4, y5, m1, m2, hs⟩

  -- the row
  refine w_cut (fun ρ M => ∃ (row : List (List Nat)), ρ = [sc, some (.ref s), o2, some (yardD c0 w), some (nD m), some (rowD row), o6, o7, o8, o9, o10, o11, o12, o13, o14, o15, o16, o17, o18] ∧ row.length ≤ 30 ∧ (∀ r ∈ row, Req w.length r) ∧ Src M s c) ?_ ?_
  · try simp only [word_snoc, PD.w_ok, PD.w_exc, PD.w_ift, PD.w_iff, PD.w_c, PD.w_getK, PD.w_slt0, PD.w_slts, PD.w_set0, PD.w_sets, PD.w_wipe0, PD.w_wipes, PD.w_var, PD.w_1, PD.w_2, PD.w_nil, PD.w_cons, PD.w_app, PD.w_eif, PD.w_truK, PD.w_and, PD.w_or, PD.w_not, PD.w_call, PD.w_meth, PD.w_nonK, PD.w_make, PD.w_bm, PD.w_sl, PD.w_bNo, PD.w_intK, PD.w_bAt, PD.w_blK, PD.w_chn, PD.w_tb1, PD.w_lc, PD.w_turn, PD.w_yes, PD.w_tv, PD.w_tand, PD.w_tor, PD.w_tnot, PD.w_nm, PD.w_sub, PD.w_gnil, PD.w_gcons, PD.w_knx, PD.w_krt, PD.w_kbk, PD.w_kct, PD.w_kex, PD.w_seq, PD.w_next, PD.w_asg, PD.w_expr, PD.w_ret, PD.w_retN, PD.w_brk, PD.w_cnt, PD.w_if, PD.w_aug, PD.w_fset, PD.w_saug, PD.w_for, PD.w_while, PD.w_ie, PD.w_rt, PD.w_nx, PD.w_ex, PD.w_rg1, PD.w_rg2, PD.w_enu, PD.w_zip2, PD.w_zipT, PD.w_rgl1, PD.o_add_i, PD.o_sub_i, PD.o_lt_i, PD.o_le_i, PD.o_gt_i, PD.o_ge_i, PD.o_is_n, PD.o_is_b, PD.o_isnot_b, PD.o_isnot_n, PD.o_isn_non, PD.o_isn_int, PD.o_isn_tup, PD.o_neg_i, PD.o_tru_b, PD.o_int_i, PD.o_int_b, PD.o_len_t, PD.o_tup_t, PD.o_lst_t, PD.o_max2, PD.o_min2, PD.o_ix_0, PD.o_ix_1, PD.o_ix_2, PD.o_ix_3, PD.it_t, PD.it_r, PD.enu_t, PD.zip_t, PD.o_tup0, PD.o_tup1, PD.o_tup2, PD.o_tup3, PD.o_tup4, PD.o_lst0, PD.o_lst1, PD.o_lst2, PD.o_lst3, PD.o_lst4, PD.g_push, PD.w_lnx, PD.w_lct, PD.w_lbk, PD.w_lrt, PD.w_lex, PD.w_lcn, PD.w_lcs, PD.o_eq_s, PD.o_ne_s, PD.o_eq_i, PD.o_ne_i, PD.w_gtp2, PD.w_gtp3, PD.w_gtp4, PD.rg_map, PD.o_lstR0, PD.o_tupR0, PD.o_not_f, PD.o_not_t, PD.o_dec_tt, PD.o_nn, PD.o_ne_b, PD.o_eq_b, PD.o_bne_tf, PD.o_bne_ff, List.length_map]
    refine W_use (K.rw s c M w.length 30 hs (by omega) (by omega) (by omega) (by omega)) fun d M2 hM => ?_
    obtain ⟨row, rfl, q1, q2, d1⟩ := hM
    try simp only [word_snoc, PD.w_ok, PD.w_exc, PD.w_ift, PD.w_iff, PD.w_c, PD.w_getK, PD.w_slt0, PD.w_slts, PD.w_set0, PD.w_sets, PD.w_wipe0, PD.w_wipes, PD.w_var, PD.w_1, PD.w_2, PD.w_nil, PD.w_cons, PD.w_app, PD.w_eif, PD.w_truK, PD.w_and, PD.w_or, PD.w_not, PD.w_call, PD.w_meth, PD.w_nonK, PD.w_make, PD.w_bm, PD.w_sl, PD.w_bNo, PD.w_intK, PD.w_bAt, PD.w_blK, PD.w_chn, PD.w_tb1, PD.w_lc, PD.w_turn, PD.w_yes, PD.w_tv, PD.w_tand, PD.w_tor, PD.w_tnot, PD.w_nm, PD.w_sub, PD.w_gnil, PD.w_gcons, PD.w_knx, PD.w_krt, PD.w_kbk, PD.w_kct, PD.w_kex, PD.w_seq, PD.w_next, PD.w_asg, PD.w_expr, PD.w_ret, PD.w_retN, PD.w_brk, PD.w_cnt, PD.w_if, PD.w_aug, PD.w_fset, PD.w_saug, PD.w_for, PD.w_while, PD.w_ie, PD.w_rt, PD.w_nx, PD.w_ex, PD.w_rg1, PD.w_rg2, PD.w_enu, PD.w_zip2, PD.w_zipT, PD.w_rgl1, PD.o_add_i, PD.o_sub_i, PD.o_lt_i, PD.o_le_i, PD.o_gt_i, PD.o_ge_i, PD.o_is_n, PD.o_is_b, PD.o_isnot_b, PD.o_isnot_n, PD.o_isn_non, PD.o_isn_int, PD.o_isn_tup, PD.o_neg_i, PD.o_tru_b, PD.o_int_i, PD.o_int_b, PD.o_len_t, PD.o_tup_t, PD.o_lst_t, PD.o_max2, PD.o_min2, PD.o_ix_0, PD.o_ix_1, PD.o_ix_2, PD.o_ix_3, PD.it_t, PD.it_r, PD.enu_t, PD.zip_t, PD.o_tup0, PD.o_tup1, PD.o_tup2, PD.o_tup3, PD.o_tup4, PD.o_lst0, PD.o_lst1, PD.o_lst2, PD.o_lst3, PD.o_lst4, PD.g_push, PD.w_lnx, PD.w_lct, PD.w_lbk, PD.w_lrt, PD.w_lex, PD.w_lcn, PD.w_lcs, PD.o_eq_s, PD.o_ne_s, PD.o_eq_i, PD.o_ne_i, PD.w_gtp2, PD.w_gtp3, PD.w_gtp4, PD.rg_map, PD.o_lstR0, PD.o_tupR0, PD.o_not_f, PD.o_not_t, PD.o_dec_tt, PD.o_nn, PD.o_ne_b, PD.o_eq_b, PD.o_bne_tf, PD.o_bne_ff]
    exact ⟨trivial, row, rfl, by omega, q2, d1.src⟩
  clear hs
  rintro ρ L ⟨row, rfl, r1, r2, hs⟩

  have ft : Fit c0 m w row := ⟨y1, by omega, by omega, by omega, y3, by omega, r2, by omega⟩
  have hrow : ∀ L : LH, Sh L (rowD row) (rowP row) 8 100000 := fun L => (rowSh r2 (by omega) (by omega)).mono (by omega) (by omega)
  have hyard : ∀ L : LH, Sh L (yardD c0 w) (yardP c0 w) 8 100000 := fun L => (yardSh (by omega) (fun x hx => by have := y5 x hx; omega) (by omega)).mono (by omega) (by omega)
  have hk : ∀ L : LH, bReprO [.ref L.len] (L.push (.lst [yardD c0 w, rowD row])) = .ok (.str (PyData.list [yardP c0 w, rowP row]).shown) (L.push (.lst [yardD c0 w, rowD row])) := fun L => repr_l2 (hyard L) (hrow L)
  generalize (PyData.list [yardP c0 w, rowP row]).shown = kept at *
  -- due, kept
  refine w_cut (fun ρ M => ∃ (g : List (Option Nat)), ρ = [sc, some (.ref s), o2, some (yardD c0 w), some (nD m), some (rowD row), some (giftsD g), some (.str kept), o8, o9, o10, o11, o12, o13, o14, o15, o16, o17, o18] ∧ g.length = row.length ∧ AllS (B1 w) (room0 c0 m w) (row.zip g) ∧ Src M s c) ?_ ?_
  · try simp only [word_snoc, PD.w_ok, PD.w_exc, PD.w_ift, PD.w_iff, PD.w_c, PD.w_getK, PD.w_slt0, PD.w_slts, PD.w_set0, PD.w_sets, PD.w_wipe0, PD.w_wipes, PD.w_var, PD.w_1, PD.w_2, PD.w_nil, PD.w_cons, PD.w_app, PD.w_eif, PD.w_truK, PD.w_and, PD.w_or, PD.w_not, PD.w_call, PD.w_meth, PD.w_nonK, PD.w_make, PD.w_bm, PD.w_sl, PD.w_bNo, PD.w_intK, PD.w_bAt, PD.w_blK, PD.w_chn, PD.w_tb1, PD.w_lc, PD.w_turn, PD.w_yes, PD.w_tv, PD.w_tand, PD.w_tor, PD.w_tnot, PD.w_nm, PD.w_sub, PD.w_gnil, PD.w_gcons, PD.w_knx, PD.w_krt, PD.w_kbk, PD.w_kct, PD.w_kex, PD.w_seq, PD.w_next, PD.w_asg, PD.w_expr, PD.w_ret, PD.w_retN, PD.w_brk, PD.w_cnt, PD.w_if, PD.w_aug, PD.w_fset, PD.w_saug, PD.w_for, PD.w_while, PD.w_ie, PD.w_rt, PD.w_nx, PD.w_ex, PD.w_rg1, PD.w_rg2, PD.w_enu, PD.w_zip2, PD.w_zipT, PD.w_rgl1, PD.o_add_i, PD.o_sub_i, PD.o_lt_i, PD.o_le_i, PD.o_gt_i, PD.o_ge_i, PD.o_is_n, PD.o_is_b, PD.o_isnot_b, PD.o_isnot_n, PD.o_isn_non, PD.o_isn_int, PD.o_isn_tup, PD.o_neg_i, PD.o_tru_b, PD.o_int_i, PD.o_int_b, PD.o_len_t, PD.o_tup_t, PD.o_lst_t, PD.o_max2, PD.o_min2, PD.o_ix_0, PD.o_ix_1, PD.o_ix_2, PD.o_ix_3, PD.it_t, PD.it_r, PD.enu_t, PD.zip_t, PD.o_tup0, PD.o_tup1, PD.o_tup2, PD.o_tup3, PD.o_tup4, PD.o_lst0, PD.o_lst1, PD.o_lst2, PD.o_lst3, PD.o_lst4, PD.g_push, PD.w_lnx, PD.w_lct, PD.w_lbk, PD.w_lrt, PD.w_lex, PD.w_lcn, PD.w_lcs, PD.o_eq_s, PD.o_ne_s, PD.o_eq_i, PD.o_ne_i, PD.w_gtp2, PD.w_gtp3, PD.w_gtp4, PD.rg_map, PD.o_lstR0, PD.o_tupR0, PD.o_not_f, PD.o_not_t, PD.o_dec_tt, PD.o_nn, PD.o_ne_b, PD.o_eq_b, PD.o_bne_tf, PD.o_bne_ff]
    refine W_use (K.lf L c0 m w row ft) fun d M2 hM => ?_
    obtain ⟨g, rfl, q1, q2, d1⟩ := hM
    try simp only [word_snoc, PD.w_ok, PD.w_exc, PD.w_ift, PD.w_iff, PD.w_c, PD.w_getK, PD.w_slt0, PD.w_slts, PD.w_set0, PD.w_sets, PD.w_wipe0, PD.w_wipes, PD.w_var, PD.w_1, PD.w_2, PD.w_nil, PD.w_cons, PD.w_app, PD.w_eif, PD.w_truK, PD.w_and, PD.w_or, PD.w_not, PD.w_call, PD.w_meth, PD.w_nonK, PD.w_make, PD.w_bm, PD.w_sl, PD.w_bNo, PD.w_intK, PD.w_bAt, PD.w_blK, PD.w_chn, PD.w_tb1, PD.w_lc, PD.w_turn, PD.w_yes, PD.w_tv, PD.w_tand, PD.w_tor, PD.w_tnot, PD.w_nm, PD.w_sub, PD.w_gnil, PD.w_gcons, PD.w_knx, PD.w_krt, PD.w_kbk, PD.w_kct, PD.w_kex, PD.w_seq, PD.w_next, PD.w_asg, PD.w_expr, PD.w_ret, PD.w_retN, PD.w_brk, PD.w_cnt, PD.w_if, PD.w_aug, PD.w_fset, PD.w_saug, PD.w_for, PD.w_while, PD.w_ie, PD.w_rt, PD.w_nx, PD.w_ex, PD.w_rg1, PD.w_rg2, PD.w_enu, PD.w_zip2, PD.w_zipT, PD.w_rgl1, PD.o_add_i, PD.o_sub_i, PD.o_lt_i, PD.o_le_i, PD.o_gt_i, PD.o_ge_i, PD.o_is_n, PD.o_is_b, PD.o_isnot_b, PD.o_isnot_n, PD.o_isn_non, PD.o_isn_int, PD.o_isn_tup, PD.o_neg_i, PD.o_tru_b, PD.o_int_i, PD.o_int_b, PD.o_len_t, PD.o_tup_t, PD.o_lst_t, PD.o_max2, PD.o_min2, PD.o_ix_0, PD.o_ix_1, PD.o_ix_2, PD.o_ix_3, PD.it_t, PD.it_r, PD.enu_t, PD.zip_t, PD.o_tup0, PD.o_tup1, PD.o_tup2, PD.o_tup3, PD.o_tup4, PD.o_lst0, PD.o_lst1, PD.o_lst2, PD.o_lst3, PD.o_lst4, PD.g_push, PD.w_lnx, PD.w_lct, PD.w_lbk, PD.w_lrt, PD.w_lex, PD.w_lcn, PD.w_lcs, PD.o_eq_s, PD.o_ne_s, PD.o_eq_i, PD.o_ne_i, PD.w_gtp2, PD.w_gtp3, PD.w_gtp4, PD.rg_map, PD.o_lstR0, PD.o_tupR0, PD.o_not_f, PD.o_not_t, PD.o_dec_tt, PD.o_nn, PD.o_ne_b, PD.o_eq_b, PD.o_bne_tf, PD.o_bne_ff, hk]
    exact ⟨trivial, g, rfl, q1, q2, (hs.gr d1).gr (Gr.refl.push _)⟩
  clear hs
  rintro ρ L ⟨g, rfl, g1, g2, hs⟩
  have hgl : ∀ o ∈ g, ∀ a, o = some a → a < 1000 := gifts_lt (w := w) (fun _ _ _ h => h.e.v) r2 (by omega) g1 g2
  have hg : ∀ L : LH, Sh L (giftsD g) (giftsP g) 8 100000 := fun L => (giftsSh hgl (by omega)).mono (by omega) (by omega)
  have hgg : ∀ L : LH, bReprO [.ref L.len] (L.push (.lst [giftsD g, giftsD g])) = .ok (.str (PyData.list [giftsP g, giftsP g]).shown) (L.push (.lst [giftsD g, giftsD g])) := fun L => repr_l2 (hg L) (hg L)
  have hgg2 : ∀ (L : LH) n, L.get n = some (.lst [giftsD g, giftsD g]) → bReprO [.ref n] L = .ok (.str (PyData.list [giftsP g, giftsP g]).shown) L := fun L n h => repr_of2 h (hg L) (hg L)
  generalize (PyData.list [giftsP g, giftsP g]).shown = shg at *
  have hu : ∀ g' : List (Option Nat), g'.length = row.length → AllS (B1 w) (room0 c0 m w) (row.zip g') → g' = g := fun g' h1 h2 => first_uniq h1 g1 h2 g2
  have hE : eagerB w (room0 c0 m w) (row.zip g) = true := eagerB_true (allS_imp (fun _ _ _ h => h.e) g2)
  have hrl0 : (room0 c0 m w).length = w.length := List.length_replicate
  -- the program's first gifts
  refine w_cut (fun ρ M => ρ = [sc, some (.ref s), o2, some (yardD c0 w), some (nD m), some (rowD row), some (giftsD g), some (.str kept), o8, o9, o10, o11, o12, o13, o14, o15, o16, o17, o18] ∧ Src M s c) ?_ ?_
  · try simp only [word_snoc, PD.w_ok, PD.w_exc, PD.w_ift, PD.w_iff, PD.w_c, PD.w_getK, PD.w_slt0, PD.w_slts, PD.w_set0, PD.w_sets, PD.w_wipe0, PD.w_wipes, PD.w_var, PD.w_1, PD.w_2, PD.w_nil, PD.w_cons, PD.w_app, PD.w_eif, PD.w_truK, PD.w_and, PD.w_or, PD.w_not, PD.w_call, PD.w_meth, PD.w_nonK, PD.w_make, PD.w_bm, PD.w_sl, PD.w_bNo, PD.w_intK, PD.w_bAt, PD.w_blK, PD.w_chn, PD.w_tb1, PD.w_lc, PD.w_turn, PD.w_yes, PD.w_tv, PD.w_tand, PD.w_tor, PD.w_tnot, PD.w_nm, PD.w_sub, PD.w_gnil, PD.w_gcons, PD.w_knx, PD.w_krt, PD.w_kbk, PD.w_kct, PD.w_kex, PD.w_seq, PD.w_next, PD.w_asg, PD.w_expr, PD.w_ret, PD.w_retN, PD.w_brk, PD.w_cnt, PD.w_if, PD.w_aug, PD.w_fset, PD.w_saug, PD.w_for, PD.w_while, PD.w_ie, PD.w_rt, PD.w_nx, PD.w_ex, PD.w_rg1, PD.w_rg2, PD.w_enu, PD.w_zip2, PD.w_zipT, PD.w_rgl1, PD.o_add_i, PD.o_sub_i, PD.o_lt_i, PD.o_le_i, PD.o_gt_i, PD.o_ge_i, PD.o_is_n, PD.o_is_b, PD.o_isnot_b, PD.o_isnot_n, PD.o_isn_non, PD.o_isn_int, PD.o_isn_tup, PD.o_neg_i, PD.o_tru_b, PD.o_int_i, PD.o_int_b, PD.o_len_t, PD.o_tup_t, PD.o_lst_t, PD.o_max2, PD.o_min2, PD.o_ix_0, PD.o_ix_1, PD.o_ix_2, PD.o_ix_3, PD.it_t, PD.it_r, PD.enu_t, PD.zip_t, PD.o_tup0, PD.o_tup1, PD.o_tup2, PD.o_tup3, PD.o_tup4, PD.o_lst0, PD.o_lst1, PD.o_lst2, PD.o_lst3, PD.o_lst4, PD.g_push, PD.w_lnx, PD.w_lct, PD.w_lbk, PD.w_lrt, PD.w_lex, PD.w_lcn, PD.w_lcs, PD.o_eq_s, PD.o_ne_s, PD.o_eq_i, PD.o_ne_i, PD.w_gtp2, PD.w_gtp3, PD.w_gtp4, PD.rg_map, PD.o_lstR0, PD.o_tupR0, PD.o_not_f, PD.o_not_t, PD.o_dec_tt, PD.o_nn, PD.o_ne_b, PD.o_eq_b, PD.o_bne_tf, PD.o_bne_ff]
    refine W_use (K.fg L c0 m w row ft) fun d M hM => ?_
    obtain ⟨g', rfl, q1, q2, d1⟩ := hM
    rw [hu g' q1 q2]
    try simp only [word_snoc, PD.w_ok, PD.w_exc, PD.w_ift, PD.w_iff, PD.w_c, PD.w_getK, PD.w_slt0, PD.w_slts, PD.w_set0, PD.w_sets, PD.w_wipe0, PD.w_wipes, PD.w_var, PD.w_1, PD.w_2, PD.w_nil, PD.w_cons, PD.w_app, PD.w_eif, PD.w_truK, PD.w_and, PD.w_or, PD.w_not, PD.w_call, PD.w_meth, PD.w_nonK, PD.w_make, PD.w_bm, PD.w_sl, PD.w_bNo, PD.w_intK, PD.w_bAt, PD.w_blK, PD.w_chn, PD.w_tb1, PD.w_lc, PD.w_turn, PD.w_yes, PD.w_tv, PD.w_tand, PD.w_tor, PD.w_tnot, PD.w_nm, PD.w_sub, PD.w_gnil, PD.w_gcons, PD.w_knx, PD.w_krt, PD.w_kbk, PD.w_kct, PD.w_kex, PD.w_seq, PD.w_next, PD.w_asg, PD.w_expr, PD.w_ret, PD.w_retN, PD.w_brk, PD.w_cnt, PD.w_if, PD.w_aug, PD.w_fset, PD.w_saug, PD.w_for, PD.w_while, PD.w_ie, PD.w_rt, PD.w_nx, PD.w_ex, PD.w_rg1, PD.w_rg2, PD.w_enu, PD.w_zip2, PD.w_zipT, PD.w_rgl1, PD.o_add_i, PD.o_sub_i, PD.o_lt_i, PD.o_le_i, PD.o_gt_i, PD.o_ge_i, PD.o_is_n, PD.o_is_b, PD.o_isnot_b, PD.o_isnot_n, PD.o_isn_non, PD.o_isn_int, PD.o_isn_tup, PD.o_neg_i, PD.o_tru_b, PD.o_int_i, PD.o_int_b, PD.o_len_t, PD.o_tup_t, PD.o_lst_t, PD.o_max2, PD.o_min2, PD.o_ix_0, PD.o_ix_1, PD.o_ix_2, PD.o_ix_3, PD.it_t, PD.it_r, PD.enu_t, PD.zip_t, PD.o_tup0, PD.o_tup1, PD.o_tup2, PD.o_tup3, PD.o_tup4, PD.o_lst0, PD.o_lst1, PD.o_lst2, PD.o_lst3, PD.o_lst4, PD.g_push, PD.w_lnx, PD.w_lct, PD.w_lbk, PD.w_lrt, PD.w_lex, PD.w_lcn, PD.w_lcs, PD.o_eq_s, PD.o_ne_s, PD.o_eq_i, PD.o_ne_i, PD.w_gtp2, PD.w_gtp3, PD.w_gtp4, PD.rg_map, PD.o_lstR0, PD.o_tupR0, PD.o_not_f, PD.o_not_t, PD.o_dec_tt, PD.o_nn, PD.o_ne_b, PD.o_eq_b, PD.o_bne_tf, PD.o_bne_ff]
    refine W_use (K.made M c0 m w row ft) fun d M2 hM => ?_
    obtain ⟨rfl, gv, d2, l2⟩ := hM
    try simp only [word_snoc, PD.w_ok, PD.w_exc, PD.w_ift, PD.w_iff, PD.w_c, PD.w_getK, PD.w_slt0, PD.w_slts, PD.w_set0, PD.w_sets, PD.w_wipe0, PD.w_wipes, PD.w_var, PD.w_1, PD.w_2, PD.w_nil, PD.w_cons, PD.w_app, PD.w_eif, PD.w_truK, PD.w_and, PD.w_or, PD.w_not, PD.w_call, PD.w_meth, PD.w_nonK, PD.w_make, PD.w_bm, PD.w_sl, PD.w_bNo, PD.w_intK, PD.w_bAt, PD.w_blK, PD.w_chn, PD.w_tb1, PD.w_lc, PD.w_turn, PD.w_yes, PD.w_tv, PD.w_tand, PD.w_tor, PD.w_tnot, PD.w_nm, PD.w_sub, PD.w_gnil, PD.w_gcons, PD.w_knx, PD.w_krt, PD.w_kbk, PD.w_kct, PD.w_kex, PD.w_seq, PD.w_next, PD.w_asg, PD.w_expr, PD.w_ret, PD.w_retN, PD.w_brk, PD.w_cnt, PD.w_if, PD.w_aug, PD.w_fset, PD.w_saug, PD.w_for, PD.w_while, PD.w_ie, PD.w_rt, PD.w_nx, PD.w_ex, PD.w_rg1, PD.w_rg2, PD.w_enu, PD.w_zip2, PD.w_zipT, PD.w_rgl1, PD.o_add_i, PD.o_sub_i, PD.o_lt_i, PD.o_le_i, PD.o_gt_i, PD.o_ge_i, PD.o_is_n, PD.o_is_b, PD.o_isnot_b, PD.o_isnot_n, PD.o_isn_non, PD.o_isn_int, PD.o_isn_tup, PD.o_neg_i, PD.o_tru_b, PD.o_int_i, PD.o_int_b, PD.o_len_t, PD.o_tup_t, PD.o_lst_t, PD.o_max2, PD.o_min2, PD.o_ix_0, PD.o_ix_1, PD.o_ix_2, PD.o_ix_3, PD.it_t, PD.it_r, PD.enu_t, PD.zip_t, PD.o_tup0, PD.o_tup1, PD.o_tup2, PD.o_tup3, PD.o_tup4, PD.o_lst0, PD.o_lst1, PD.o_lst2, PD.o_lst3, PD.o_lst4, PD.g_push, PD.w_lnx, PD.w_lct, PD.w_lbk, PD.w_lrt, PD.w_lex, PD.w_lcn, PD.w_lcs, PD.o_eq_s, PD.o_ne_s, PD.o_eq_i, PD.o_ne_i, PD.w_gtp2, PD.w_gtp3, PD.w_gtp4, PD.rg_map, PD.o_lstR0, PD.o_tupR0, PD.o_not_f, PD.o_not_t, PD.o_dec_tt, PD.o_nn, PD.o_ne_b, PD.o_eq_b, PD.o_bne_tf, PD.o_bne_ff]
    refine W_use (K.rn _ _ M2 c0 w _ row gv r2 (by omega) hrl0 (by omega)) fun d M3 hM => ?_
    obtain ⟨g'', rfl, q3, q4, gv2, d3⟩ := hM
    rw [hu g'' q3 q4]
    try simp only [word_snoc, PD.w_ok, PD.w_exc, PD.w_ift, PD.w_iff, PD.w_c, PD.w_getK, PD.w_slt0, PD.w_slts, PD.w_set0, PD.w_sets, PD.w_wipe0, PD.w_wipes, PD.w_var, PD.w_1, PD.w_2, PD.w_nil, PD.w_cons, PD.w_app, PD.w_eif, PD.w_truK, PD.w_and, PD.w_or, PD.w_not, PD.w_call, PD.w_meth, PD.w_nonK, PD.w_make, PD.w_bm, PD.w_sl, PD.w_bNo, PD.w_intK, PD.w_bAt, PD.w_blK, PD.w_chn, PD.w_tb1, PD.w_lc, PD.w_turn, PD.w_yes, PD.w_tv, PD.w_tand, PD.w_tor, PD.w_tnot, PD.w_nm, PD.w_sub, PD.w_gnil, PD.w_gcons, PD.w_knx, PD.w_krt, PD.w_kbk, PD.w_kct, PD.w_kex, PD.w_seq, PD.w_next, PD.w_asg, PD.w_expr, PD.w_ret, PD.w_retN, PD.w_brk, PD.w_cnt, PD.w_if, PD.w_aug, PD.w_fset, PD.w_saug, PD.w_for, PD.w_while, PD.w_ie, PD.w_rt, PD.w_nx, PD.w_ex, PD.w_rg1, PD.w_rg2, PD.w_enu, PD.w_zip2, PD.w_zipT, PD.w_rgl1, PD.o_add_i, PD.o_sub_i, PD.o_lt_i, PD.o_le_i, PD.o_gt_i, PD.o_ge_i, PD.o_is_n, PD.o_is_b, PD.o_isnot_b, PD.o_isnot_n, PD.o_isn_non, PD.o_isn_int, PD.o_isn_tup, PD.o_neg_i, PD.o_tru_b, PD.o_int_i, PD.o_int_b, PD.o_len_t, PD.o_tup_t, PD.o_lst_t, PD.o_max2, PD.o_min2, PD.o_ix_0, PD.o_ix_1, PD.o_ix_2, PD.o_ix_3, PD.it_t, PD.it_r, PD.enu_t, PD.zip_t, PD.o_tup0, PD.o_tup1, PD.o_tup2, PD.o_tup3, PD.o_tup4, PD.o_lst0, PD.o_lst1, PD.o_lst2, PD.o_lst3, PD.o_lst4, PD.g_push, PD.w_lnx, PD.w_lct, PD.w_lbk, PD.w_lrt, PD.w_lex, PD.w_lcn, PD.w_lcs, PD.o_eq_s, PD.o_ne_s, PD.o_eq_i, PD.o_ne_i, PD.w_gtp2, PD.w_gtp3, PD.w_gtp4, PD.rg_map, PD.o_lstR0, PD.o_tupR0, PD.o_not_f, PD.o_not_t, PD.o_dec_tt, PD.o_nn, PD.o_ne_b, PD.o_eq_b, PD.o_bne_tf, PD.o_bne_ff, hgg]
    have d4 : Gr [] L M3 := d1.trans (d2.new d3 (by intro n hn; rw [List.mem_singleton.mp hn]; omega))
    have d5 := (d4.push (.lst [giftsD g, giftsD g])).push (.lst [giftsD g, giftsD g])
    generalize ((M3.push (.lst [giftsD g, giftsD g])).push (.lst [giftsD g, giftsD g])) = M4 at *
    try simp only [decide_true, word_snoc, PD.w_ok, PD.w_exc, PD.w_ift, PD.w_iff, PD.w_c, PD.w_getK, PD.w_slt0, PD.w_slts, PD.w_set0, PD.w_sets, PD.w_wipe0, PD.w_wipes, PD.w_var, PD.w_1, PD.w_2, PD.w_nil, PD.w_cons, PD.w_app, PD.w_eif, PD.w_truK, PD.w_and, PD.w_or, PD.w_not, PD.w_call, PD.w_meth, PD.w_nonK, PD.w_make, PD.w_bm, PD.w_sl, PD.w_bNo, PD.w_intK, PD.w_bAt, PD.w_blK, PD.w_chn, PD.w_tb1, PD.w_lc, PD.w_turn, PD.w_yes, PD.w_tv, PD.w_tand, PD.w_tor, PD.w_tnot, PD.w_nm, PD.w_sub, PD.w_gnil, PD.w_gcons, PD.w_knx, PD.w_krt, PD.w_kbk, PD.w_kct, PD.w_kex, PD.w_seq, PD.w_next, PD.w_asg, PD.w_expr, PD.w_ret, PD.w_retN, PD.w_brk, PD.w_cnt, PD.w_if, PD.w_aug, PD.w_fset, PD.w_saug, PD.w_for, PD.w_while, PD.w_ie, PD.w_rt, PD.w_nx, PD.w_ex, PD.w_rg1, PD.w_rg2, PD.w_enu, PD.w_zip2, PD.w_zipT, PD.w_rgl1, PD.o_add_i, PD.o_sub_i, PD.o_lt_i, PD.o_le_i, PD.o_gt_i, PD.o_ge_i, PD.o_is_n, PD.o_is_b, PD.o_isnot_b, PD.o_isnot_n, PD.o_isn_non, PD.o_isn_int, PD.o_isn_tup, PD.o_neg_i, PD.o_tru_b, PD.o_int_i, PD.o_int_b, PD.o_len_t, PD.o_tup_t, PD.o_lst_t, PD.o_max2, PD.o_min2, PD.o_ix_0, PD.o_ix_1, PD.o_ix_2, PD.o_ix_3, PD.it_t, PD.it_r, PD.enu_t, PD.zip_t, PD.o_tup0, PD.o_tup1, PD.o_tup2, PD.o_tup3, PD.o_tup4, PD.o_lst0, PD.o_lst1, PD.o_lst2, PD.o_lst3, PD.o_lst4, PD.g_push, PD.w_lnx, PD.w_lct, PD.w_lbk, PD.w_lrt, PD.w_lex, PD.w_lcn, PD.w_lcs, PD.o_eq_s, PD.o_ne_s, PD.o_eq_i, PD.o_ne_i, PD.w_gtp2, PD.w_gtp3, PD.w_gtp4, PD.rg_map, PD.o_lstR0, PD.o_tupR0, PD.o_not_f, PD.o_not_t, PD.o_dec_tt, PD.o_nn, PD.o_ne_b, PD.o_eq_b, PD.o_bne_tf, PD.o_bne_ff]
    refine W_use (K.ie M4 c0 m w row g ft g1 (VS.of (allS_imp (fun _ _ _ h => h.e.v) g2))) fun d M5 hM => ?_
    obtain ⟨rfl, d6⟩ := hM
    rw [hE]
    try simp only [decide_true, word_snoc, PD.w_ok, PD.w_exc, PD.w_ift, PD.w_iff, PD.w_c, PD.w_getK, PD.w_slt0, PD.w_slts, PD.w_set0, PD.w_sets, PD.w_wipe0, PD.w_wipes, PD.w_var, PD.w_1, PD.w_2, PD.w_nil, PD.w_cons, PD.w_app, PD.w_eif, PD.w_truK, PD.w_and, PD.w_or, PD.w_not, PD.w_call, PD.w_meth, PD.w_nonK, PD.w_make, PD.w_bm, PD.w_sl, PD.w_bNo, PD.w_intK, PD.w_bAt, PD.w_blK, PD.w_chn, PD.w_tb1, PD.w_lc, PD.w_turn, PD.w_yes, PD.w_tv, PD.w_tand, PD.w_tor, PD.w_tnot, PD.w_nm, PD.w_sub, PD.w_gnil, PD.w_gcons, PD.w_knx, PD.w_krt, PD.w_kbk, PD.w_kct, PD.w_kex, PD.w_seq, PD.w_next, PD.w_asg, PD.w_expr, PD.w_ret, PD.w_retN, PD.w_brk, PD.w_cnt, PD.w_if, PD.w_aug, PD.w_fset, PD.w_saug, PD.w_for, PD.w_while, PD.w_ie, PD.w_rt, PD.w_nx, PD.w_ex, PD.w_rg1, PD.w_rg2, PD.w_enu, PD.w_zip2, PD.w_zipT, PD.w_rgl1, PD.o_add_i, PD.o_sub_i, PD.o_lt_i, PD.o_le_i, PD.o_gt_i, PD.o_ge_i, PD.o_is_n, PD.o_is_b, PD.o_isnot_b, PD.o_isnot_n, PD.o_isn_non, PD.o_isn_int, PD.o_isn_tup, PD.o_neg_i, PD.o_tru_b, PD.o_int_i, PD.o_int_b, PD.o_len_t, PD.o_tup_t, PD.o_lst_t, PD.o_max2, PD.o_min2, PD.o_ix_0, PD.o_ix_1, PD.o_ix_2, PD.o_ix_3, PD.it_t, PD.it_r, PD.enu_t, PD.zip_t, PD.o_tup0, PD.o_tup1, PD.o_tup2, PD.o_tup3, PD.o_tup4, PD.o_lst0, PD.o_lst1, PD.o_lst2, PD.o_lst3, PD.o_lst4, PD.g_push, PD.w_lnx, PD.w_lct, PD.w_lbk, PD.w_lrt, PD.w_lex, PD.w_lcn, PD.w_lcs, PD.o_eq_s, PD.o_ne_s, PD.o_eq_i, PD.o_ne_i, PD.w_gtp2, PD.w_gtp3, PD.w_gtp4, PD.rg_map, PD.o_lstR0, PD.o_tupR0, PD.o_not_f, PD.o_not_t, PD.o_dec_tt, PD.o_nn, PD.o_ne_b, PD.o_eq_b, PD.o_bne_tf, PD.o_bne_ff]
    exact ⟨trivial, trivial, hs.gr (d5.trans d6)⟩
  clear hs
  rintro ρ L ⟨rfl, hs⟩
  -- two givers
  refine w_cut (fun ρ M => ∃ (k n g1 a1 g2 a2 : Nat), ρ = [sc, some (.ref s), o2, some (yardD c0 w), some (nD m), some (rowD row), some (giftsD g), some (.str kept), some (nD k), some (.ref n), o10, o11, o12, o13, o14, o15, o16, o17, o18] ∧ k ≤ row.length ∧ M.get n = some (.lst [.ref g1, .ref g2]) ∧ Gv cc c0 w g1 a1 (room0 c0 m w) M ∧ Gv cc c0 w g2 a2 (room0 c0 m w) M ∧ g1 < a1 ∧ a1 < g2 ∧ g2 < a2 ∧ a2 < n ∧ s < g1 ∧ c < g1 ∧ Src M s c) ?_ ?_
  · try simp only [word_snoc, PD.w_ok, PD.w_exc, PD.w_ift, PD.w_iff, PD.w_c, PD.w_getK, PD.w_slt0, PD.w_slts, PD.w_set0, PD.w_sets, PD.w_wipe0, PD.w_wipes, PD.w_var, PD.w_1, PD.w_2, PD.w_nil, PD.w_cons, PD.w_app, PD.w_eif, PD.w_truK, PD.w_and, PD.w_or, PD.w_not, PD.w_call, PD.w_meth, PD.w_nonK, PD.w_make, PD.w_bm, PD.w_sl, PD.w_bNo, PD.w_intK, PD.w_bAt, PD.w_blK, PD.w_chn, PD.w_tb1, PD.w_lc, PD.w_turn, PD.w_yes, PD.w_tv, PD.w_tand, PD.w_tor, PD.w_tnot, PD.w_nm, PD.w_sub, PD.w_gnil, PD.w_gcons, PD.w_knx, PD.w_krt, PD.w_kbk, PD.w_kct, PD.w_kex, PD.w_seq, PD.w_next, PD.w_asg, PD.w_expr, PD.w_ret, PD.w_retN, PD.w_brk, PD.w_cnt, PD.w_if, PD.w_aug, PD.w_fset, PD.w_saug, PD.w_for, PD.w_while, PD.w_ie, PD.w_rt, PD.w_nx, PD.w_ex, PD.w_rg1, PD.w_rg2, PD.w_enu, PD.w_zip2, PD.w_zipT, PD.w_rgl1, PD.o_add_i, PD.o_sub_i, PD.o_lt_i, PD.o_le_i, PD.o_gt_i, PD.o_ge_i, PD.o_is_n, PD.o_is_b, PD.o_isnot_b, PD.o_isnot_n, PD.o_isn_non, PD.o_isn_int, PD.o_isn_tup, PD.o_neg_i, PD.o_tru_b, PD.o_int_i, PD.o_int_b, PD.o_len_t, PD.o_tup_t, PD.o_lst_t, PD.o_max2, PD.o_min2, PD.o_ix_0, PD.o_ix_1, PD.o_ix_2, PD.o_ix_3, PD.it_t, PD.it_r, PD.enu_t, PD.zip_t, PD.o_tup0, PD.o_tup1, PD.o_tup2, PD.o_tup3, PD.o_tup4, PD.o_lst0, PD.o_lst1, PD.o_lst2, PD.o_lst3, PD.o_lst4, PD.g_push, PD.w_lnx, PD.w_lct, PD.w_lbk, PD.w_lrt, PD.w_lex, PD.w_lcn, PD.w_lcs, PD.o_eq_s, PD.o_ne_s, PD.o_eq_i, PD.o_ne_i, PD.w_gtp2, PD.w_gtp3, PD.w_gtp4, PD.rg_map, PD.o_lstR0, PD.o_tupR0, PD.o_not_f, PD.o_not_t, PD.o_dec_tt, PD.o_nn, PD.o_ne_b, PD.o_eq_b, PD.o_bne_tf, PD.o_bne_ff, List.length_map]
    refine W_use (K.pk s c L _ hs (by omega)) fun d M hM => ?_
    obtain ⟨r, rfl, q0, q1, d1, l1⟩ := hM
    try simp only [word_snoc, PD.w_ok, PD.w_exc, PD.w_ift, PD.w_iff, PD.w_c, PD.w_getK, PD.w_slt0, PD.w_slts, PD.w_set0, PD.w_sets, PD.w_wipe0, PD.w_wipes, PD.w_var, PD.w_1, PD.w_2, PD.w_nil, PD.w_cons, PD.w_app, PD.w_eif, PD.w_truK, PD.w_and, PD.w_or, PD.w_not, PD.w_call, PD.w_meth, PD.w_nonK, PD.w_make, PD.w_bm, PD.w_sl, PD.w_bNo, PD.w_intK, PD.w_bAt, PD.w_blK, PD.w_chn, PD.w_tb1, PD.w_lc, PD.w_turn, PD.w_yes, PD.w_tv, PD.w_tand, PD.w_tor, PD.w_tnot, PD.w_nm, PD.w_sub, PD.w_gnil, PD.w_gcons, PD.w_knx, PD.w_krt, PD.w_kbk, PD.w_kct, PD.w_kex, PD.w_seq, PD.w_next, PD.w_asg, PD.w_expr, PD.w_ret, PD.w_retN, PD.w_brk, PD.w_cnt, PD.w_if, PD.w_aug, PD.w_fset, PD.w_saug, PD.w_for, PD.w_while, PD.w_ie, PD.w_rt, PD.w_nx, PD.w_ex, PD.w_rg1, PD.w_rg2, PD.w_enu, PD.w_zip2, PD.w_zipT, PD.w_rgl1, PD.o_add_i, PD.o_sub_i, PD.o_lt_i, PD.o_le_i, PD.o_gt_i, PD.o_ge_i, PD.o_is_n, PD.o_is_b, PD.o_isnot_b, PD.o_isnot_n, PD.o_isn_non, PD.o_isn_int, PD.o_isn_tup, PD.o_neg_i, PD.o_tru_b, PD.o_int_i, PD.o_int_b, PD.o_len_t, PD.o_tup_t, PD.o_lst_t, PD.o_max2, PD.o_min2, PD.o_ix_0, PD.o_ix_1, PD.o_ix_2, PD.o_ix_3, PD.it_t, PD.it_r, PD.enu_t, PD.zip_t, PD.o_tup0, PD.o_tup1, PD.o_tup2, PD.o_tup3, PD.o_tup4, PD.o_lst0, PD.o_lst1, PD.o_lst2, PD.o_lst3, PD.o_lst4, PD.g_push, PD.w_lnx, PD.w_lct, PD.w_lbk, PD.w_lrt, PD.w_lex, PD.w_lcn, PD.w_lcs, PD.o_eq_s, PD.o_ne_s, PD.o_eq_i, PD.o_ne_i, PD.w_gtp2, PD.w_gtp3, PD.w_gtp4, PD.rg_map, PD.o_lstR0, PD.o_tupR0, PD.o_not_f, PD.o_not_t, PD.o_dec_tt, PD.o_nn, PD.o_ne_b, PD.o_eq_b, PD.o_bne_tf, PD.o_bne_ff]
    refine W_use (K.made M c0 m w row ft) fun d M2 hM => ?_
    obtain ⟨rfl, v1, d2, l2⟩ := hM
    try simp only [word_snoc, PD.w_ok, PD.w_exc, PD.w_ift, PD.w_iff, PD.w_c, PD.w_getK, PD.w_slt0, PD.w_slts, PD.w_set0, PD.w_sets, PD.w_wipe0, PD.w_wipes, PD.w_var, PD.w_1, PD.w_2, PD.w_nil, PD.w_cons, PD.w_app, PD.w_eif, PD.w_truK, PD.w_and, PD.w_or, PD.w_not, PD.w_call, PD.w_meth, PD.w_nonK, PD.w_make, PD.w_bm, PD.w_sl, PD.w_bNo, PD.w_intK, PD.w_bAt, PD.w_blK, PD.w_chn, PD.w_tb1, PD.w_lc, PD.w_turn, PD.w_yes, PD.w_tv, PD.w_tand, PD.w_tor, PD.w_tnot, PD.w_nm, PD.w_sub, PD.w_gnil, PD.w_gcons, PD.w_knx, PD.w_krt, PD.w_kbk, PD.w_kct, PD.w_kex, PD.w_seq, PD.w_next, PD.w_asg, PD.w_expr, PD.w_ret, PD.w_retN, PD.w_brk, PD.w_cnt, PD.w_if, PD.w_aug, PD.w_fset, PD.w_saug, PD.w_for, PD.w_while, PD.w_ie, PD.w_rt, PD.w_nx, PD.w_ex, PD.w_rg1, PD.w_rg2, PD.w_enu, PD.w_zip2, PD.w_zipT, PD.w_rgl1, PD.o_add_i, PD.o_sub_i, PD.o_lt_i, PD.o_le_i, PD.o_gt_i, PD.o_ge_i, PD.o_is_n, PD.o_is_b, PD.o_isnot_b, PD.o_isnot_n, PD.o_isn_non, PD.o_isn_int, PD.o_isn_tup, PD.o_neg_i, PD.o_tru_b, PD.o_int_i, PD.o_int_b, PD.o_len_t, PD.o_tup_t, PD.o_lst_t, PD.o_max2, PD.o_min2, PD.o_ix_0, PD.o_ix_1, PD.o_ix_2, PD.o_ix_3, PD.it_t, PD.it_r, PD.enu_t, PD.zip_t, PD.o_tup0, PD.o_tup1, PD.o_tup2, PD.o_tup3, PD.o_tup4, PD.o_lst0, PD.o_lst1, PD.o_lst2, PD.o_lst3, PD.o_lst4, PD.g_push, PD.w_lnx, PD.w_lct, PD.w_lbk, PD.w_lrt, PD.w_lex, PD.w_lcn, PD.w_lcs, PD.o_eq_s, PD.o_ne_s, PD.o_eq_i, PD.o_ne_i, PD.w_gtp2, PD.w_gtp3, PD.w_gtp4, PD.rg_map, PD.o_lstR0, PD.o_tupR0, PD.o_not_f, PD.o_not_t, PD.o_dec_tt, PD.o_nn, PD.o_ne_b, PD.o_eq_b, PD.o_bne_tf, PD.o_bne_ff]
    refine W_use (K.made M2 c0 m w row ft) fun d M3 hM => ?_
    obtain ⟨rfl, v2, d3, l3⟩ := hM
    try simp only [word_snoc, PD.w_ok, PD.w_exc, PD.w_ift, PD.w_iff, PD.w_c, PD.w_getK, PD.w_slt0, PD.w_slts, PD.w_set0, PD.w_sets, PD.w_wipe0, PD.w_wipes, PD.w_var, PD.w_1, PD.w_2, PD.w_nil, PD.w_cons, PD.w_app, PD.w_eif, PD.w_truK, PD.w_and, PD.w_or, PD.w_not, PD.w_call, PD.w_meth, PD.w_nonK, PD.w_make, PD.w_bm, PD.w_sl, PD.w_bNo, PD.w_intK, PD.w_bAt, PD.w_blK, PD.w_chn, PD.w_tb1, PD.w_lc, PD.w_turn, PD.w_yes, PD.w_tv, PD.w_tand, PD.w_tor, PD.w_tnot, PD.w_nm, PD.w_sub, PD.w_gnil, PD.w_gcons, PD.w_knx, PD.w_krt, PD.w_kbk, PD.w_kct, PD.w_kex, PD.w_seq, PD.w_next, PD.w_asg, PD.w_expr, PD.w_ret, PD.w_retN, PD.w_brk, PD.w_cnt, PD.w_if, PD.w_aug, PD.w_fset, PD.w_saug, PD.w_for, PD.w_while, PD.w_ie, PD.w_rt, PD.w_nx, PD.w_ex, PD.w_rg1, PD.w_rg2, PD.w_enu, PD.w_zip2, PD.w_zipT, PD.w_rgl1, PD.o_add_i, PD.o_sub_i, PD.o_lt_i, PD.o_le_i, PD.o_gt_i, PD.o_ge_i, PD.o_is_n, PD.o_is_b, PD.o_isnot_b, PD.o_isnot_n, PD.o_isn_non, PD.o_isn_int, PD.o_isn_tup, PD.o_neg_i, PD.o_tru_b, PD.o_int_i, PD.o_int_b, PD.o_len_t, PD.o_tup_t, PD.o_lst_t, PD.o_max2, PD.o_min2, PD.o_ix_0, PD.o_ix_1, PD.o_ix_2, PD.o_ix_3, PD.it_t, PD.it_r, PD.enu_t, PD.zip_t, PD.o_tup0, PD.o_tup1, PD.o_tup2, PD.o_tup3, PD.o_tup4, PD.o_lst0, PD.o_lst1, PD.o_lst2, PD.o_lst3, PD.o_lst4, PD.g_push, PD.w_lnx, PD.w_lct, PD.w_lbk, PD.w_lrt, PD.w_lex, PD.w_lcn, PD.w_lcs, PD.o_eq_s, PD.o_ne_s, PD.o_eq_i, PD.o_ne_i, PD.w_gtp2, PD.w_gtp3, PD.w_gtp4, PD.rg_map, PD.o_lstR0, PD.o_tupR0, PD.o_not_f, PD.o_not_t, PD.o_dec_tt, PD.o_nn, PD.o_ne_b, PD.o_eq_b, PD.o_bne_tf, PD.o_bne_ff]
    have hsl := d1.src.lt
    have er : D.int r = nD r.toNat := by unfold nD; rw [Int.toNat_of_nonneg q0]
    have d4 : Gr [] M3 (M3.push (.lst [.ref M.len, .ref M2.len])) := Gr.refl.push _
    refine ⟨trivial, r.toNat, M3.len, M.len, M.len + 1, M2.len, M2.len + 1, by rw [er], by omega, g_push, ?_, ?_, by omega, by omega, by omega, by omega, by omega, by omega, d1.src.gr ((d2.trans d3).trans d4)⟩
    · exact v1.gr (S := []) (d3.trans d4) (by simp) (by simp)
    · exact v2.gr (S := []) d4 (by simp) (by simp)
  clear hs
  rintro ρ L ⟨k, n, h1, a1, h2, a2, rfl, k1, gn, v1, v2, b1, b2, b3, b4, b5, b6, hs⟩
  have e1 : row.take k ++ row.drop k = row := List.take_append_drop k row
  have tk : (row.take k).length = k := by rw [List.length_take]; omega
  have dk : (row.drop k).length = row.length - k := List.length_drop
  have rt : ∀ r ∈ row.take k, Req w.length r := fun r h => r2 r (List.mem_of_mem_take h)
  have rd : ∀ r ∈ row.drop k, Req w.length r := fun r h => r2 r (List.mem_of_mem_drop h)
  have sl1 : ∀ H : LH, oSl (rowD row) none (some ((k : Nat) : Int)) H = .ok (rowD (row.take k)) H := fun H => by
    rw [sl_toT (by omega), Int.toNat_natCast, ← List.map_take]
  have sl2 : ∀ H : LH, oSl (rowD row) (some ((k : Nat) : Int)) none H = .ok (rowD (row.drop k)) H := fun H => by
    rw [sl_fromT (by omega), Int.toNat_natCast, ← List.map_drop]
  have zz : ∀ p q : List (Option Nat), p.length = k → q.length = row.length - k → AllS (B1 w) (room0 c0 m w) ((row.take k).zip p) → AllS (B1 w) (p.foldl dec1 (room0 c0 m w)) ((row.drop k).zip q) → p ++ q = g := by
    intro p q hp hq h1 h2
    refine hu (p ++ q) (by rw [List.length_append]; omega) ?_
    have : row.zip (p ++ q) = (row.take k).zip p ++ (row.drop k).zip q := by
      conv => lhs; rw [← e1]
      exact List.zip_append (by omega)
    rw [this]
    refine allS_app h1 ?_
    rw [zip_snd (by omega)]; exact h2
  have oad : ∀ (p q : List (Option Nat)) (H : LH), p.length = k → q.length = row.length - k → oAdd (giftsD p) (giftsD q) H = .ok (giftsD (p ++ q)) H := by
    intro p q H hp hq
    rw [o_add_t (by rw [List.length_map, List.length_map]; exact sz_of (by omega)), ← List.map_append]
  -- what the first of the row tells
  refine w_cut (fun ρ M => ∃ (t : Nat) (p1 p2 : List (Option Nat)), ρ = [sc, some (.ref s), o2, some (yardD c0 w), some (nD m), some (rowD row), some (giftsD g), some (.str kept), some (nD k), some (.ref n), some (.ref t), o11, o12, o13, o14, o15, o16, o17, o18] ∧ M.get t = some (.lst [giftsD p1, giftsD p2]) ∧ p1.length = k ∧ p2.length = k ∧ AllS (B1 w) (room0 c0 m w) ((row.take k).zip p1) ∧ AllS (B1 w) (room0 c0 m w) ((row.take k).zip p2) ∧ M.get n = some (.lst [.ref h1, .ref h2]) ∧ Gv cc c0 w h1 a1 (p1.foldl dec1 (room0 c0 m w)) M ∧ Gv cc c0 w h2 a2 (p2.foldl dec1 (room0 c0 m w)) M ∧ n < t ∧ Src M s c) ?_ ?_
  · try simp only [word_snoc, PD.w_ok, PD.w_exc, PD.w_ift, PD.w_iff, PD.w_c, PD.w_getK, PD.w_slt0, PD.w_slts, PD.w_set0, PD.w_sets, PD.w_wipe0, PD.w_wipes, PD.w_var, PD.w_1, PD.w_2, PD.w_nil, PD.w_cons, PD.w_app, PD.w_eif, PD.w_truK, PD.w_and, PD.w_or, PD.w_not, PD.w_call, PD.w_meth, PD.w_nonK, PD.w_make, PD.w_bm, PD.w_sl, PD.w_bNo, PD.w_intK, PD.w_bAt, PD.w_blK, PD.w_chn, PD.w_tb1, PD.w_lc, PD.w_turn, PD.w_yes, PD.w_tv, PD.w_tand, PD.w_tor, PD.w_tnot, PD.w_nm, PD.w_sub, PD.w_gnil, PD.w_gcons, PD.w_knx, PD.w_krt, PD.w_kbk, PD.w_kct, PD.w_kex, PD.w_seq, PD.w_next, PD.w_asg, PD.w_expr, PD.w_ret, PD.w_retN, PD.w_brk, PD.w_cnt, PD.w_if, PD.w_aug, PD.w_fset, PD.w_saug, PD.w_for, PD.w_while, PD.w_ie, PD.w_rt, PD.w_nx, PD.w_ex, PD.w_rg1, PD.w_rg2, PD.w_enu, PD.w_zip2, PD.w_zipT, PD.w_rgl1, PD.o_add_i, PD.o_sub_i, PD.o_lt_i, PD.o_le_i, PD.o_gt_i, PD.o_ge_i, PD.o_is_n, PD.o_is_b, PD.o_isnot_b, PD.o_isnot_n, PD.o_isn_non, PD.o_isn_int, PD.o_isn_tup, PD.o_neg_i, PD.o_tru_b, PD.o_int_i, PD.o_int_b, PD.o_len_t, PD.o_tup_t, PD.o_lst_t, PD.o_max2, PD.o_min2, PD.o_ix_0, PD.o_ix_1, PD.o_ix_2, PD.o_ix_3, PD.it_t, PD.it_r, PD.enu_t, PD.zip_t, PD.o_tup0, PD.o_tup1, PD.o_tup2, PD.o_tup3, PD.o_tup4, PD.o_lst0, PD.o_lst1, PD.o_lst2, PD.o_lst3, PD.o_lst4, PD.g_push, PD.w_lnx, PD.w_lct, PD.w_lbk, PD.w_lrt, PD.w_lex, PD.w_lcn, PD.w_lcs, PD.o_eq_s, PD.o_ne_s, PD.o_eq_i, PD.o_ne_i, PD.w_gtp2, PD.w_gtp3, PD.w_gtp4, PD.rg_map, PD.o_lstR0, PD.o_tupR0, PD.o_not_f, PD.o_not_t, PD.o_dec_tt, PD.o_nn, PD.o_ne_b, PD.o_eq_b, PD.o_bne_tf, PD.o_bne_ff]
    refine ⟨in62_of (by omega) (by omega), ?_⟩
    show WL _ _ _ (.pur [nD 0, nD 1]) _ _ _
    have i0 : oIx (.ref n) (nD 0) L = .ok (.ref h1) L := o_ix_l (n := 0) gn rfl
    refine lc2 ?_
    try simp only [word_snoc, PD.w_ok, PD.w_exc, PD.w_ift, PD.w_iff, PD.w_c, PD.w_getK, PD.w_slt0, PD.w_slts, PD.w_set0, PD.w_sets, PD.w_wipe0, PD.w_wipes, PD.w_var, PD.w_1, PD.w_2, PD.w_nil, PD.w_cons, PD.w_app, PD.w_eif, PD.w_truK, PD.w_and, PD.w_or, PD.w_not, PD.w_call, PD.w_meth, PD.w_nonK, PD.w_make, PD.w_bm, PD.w_sl, PD.w_bNo, PD.w_intK, PD.w_bAt, PD.w_blK, PD.w_chn, PD.w_tb1, PD.w_lc, PD.w_turn, PD.w_yes, PD.w_tv, PD.w_tand, PD.w_tor, PD.w_tnot, PD.w_nm, PD.w_sub, PD.w_gnil, PD.w_gcons, PD.w_knx, PD.w_krt, PD.w_kbk, PD.w_kct, PD.w_kex, PD.w_seq, PD.w_next, PD.w_asg, PD.w_expr, PD.w_ret, PD.w_retN, PD.w_brk, PD.w_cnt, PD.w_if, PD.w_aug, PD.w_fset, PD.w_saug, PD.w_for, PD.w_while, PD.w_ie, PD.w_rt, PD.w_nx, PD.w_ex, PD.w_rg1, PD.w_rg2, PD.w_enu, PD.w_zip2, PD.w_zipT, PD.w_rgl1, PD.o_add_i, PD.o_sub_i, PD.o_lt_i, PD.o_le_i, PD.o_gt_i, PD.o_ge_i, PD.o_is_n, PD.o_is_b, PD.o_isnot_b, PD.o_isnot_n, PD.o_isn_non, PD.o_isn_int, PD.o_isn_tup, PD.o_neg_i, PD.o_tru_b, PD.o_int_i, PD.o_int_b, PD.o_len_t, PD.o_tup_t, PD.o_lst_t, PD.o_max2, PD.o_min2, PD.o_ix_0, PD.o_ix_1, PD.o_ix_2, PD.o_ix_3, PD.it_t, PD.it_r, PD.enu_t, PD.zip_t, PD.o_tup0, PD.o_tup1, PD.o_tup2, PD.o_tup3, PD.o_tup4, PD.o_lst0, PD.o_lst1, PD.o_lst2, PD.o_lst3, PD.o_lst4, PD.g_push, PD.w_lnx, PD.w_lct, PD.w_lbk, PD.w_lrt, PD.w_lex, PD.w_lcn, PD.w_lcs, PD.o_eq_s, PD.o_ne_s, PD.o_eq_i, PD.o_ne_i, PD.w_gtp2, PD.w_gtp3, PD.w_gtp4, PD.rg_map, PD.o_lstR0, PD.o_tupR0, PD.o_not_f, PD.o_not_t, PD.o_dec_tt, PD.o_nn, PD.o_ne_b, PD.o_eq_b, PD.o_bne_tf, PD.o_bne_ff, i0, sl1]
    refine W_use (K.rn h1 a1 L c0 w _ _ v1 rt (by omega) hrl0 (by omega)) fun d M hM => ?_
    obtain ⟨p1, rfl, q1, q2, v1', d1⟩ := hM
    refine ⟨_, rfl, ?_⟩
    have gn' := d1.at gn (by simp; omega)
    have i1 : oIx (.ref n) (nD 1) M = .ok (.ref h2) M := o_ix_l (n := 1) gn' rfl
    try simp only [word_snoc, PD.w_ok, PD.w_exc, PD.w_ift, PD.w_iff, PD.w_c, PD.w_getK, PD.w_slt0, PD.w_slts, PD.w_set0, PD.w_sets, PD.w_wipe0, PD.w_wipes, PD.w_var, PD.w_1, PD.w_2, PD.w_nil, PD.w_cons, PD.w_app, PD.w_eif, PD.w_truK, PD.w_and, PD.w_or, PD.w_not, PD.w_call, PD.w_meth, PD.w_nonK, PD.w_make, PD.w_bm, PD.w_sl, PD.w_bNo, PD.w_intK, PD.w_bAt, PD.w_blK, PD.w_chn, PD.w_tb1, PD.w_lc, PD.w_turn, PD.w_yes, PD.w_tv, PD.w_tand, PD.w_tor, PD.w_tnot, PD.w_nm, PD.w_sub, PD.w_gnil, PD.w_gcons, PD.w_knx, PD.w_krt, PD.w_kbk, PD.w_kct, PD.w_kex, PD.w_seq, PD.w_next, PD.w_asg, PD.w_expr, PD.w_ret, PD.w_retN, PD.w_brk, PD.w_cnt, PD.w_if, PD.w_aug, PD.w_fset, PD.w_saug, PD.w_for, PD.w_while, PD.w_ie, PD.w_rt, PD.w_nx, PD.w_ex, PD.w_rg1, PD.w_rg2, PD.w_enu, PD.w_zip2, PD.w_zipT, PD.w_rgl1, PD.o_add_i, PD.o_sub_i, PD.o_lt_i, PD.o_le_i, PD.o_gt_i, PD.o_ge_i, PD.o_is_n, PD.o_is_b, PD.o_isnot_b, PD.o_isnot_n, PD.o_isn_non, PD.o_isn_int, PD.o_isn_tup, PD.o_neg_i, PD.o_tru_b, PD.o_int_i, PD.o_int_b, PD.o_len_t, PD.o_tup_t, PD.o_lst_t, PD.o_max2, PD.o_min2, PD.o_ix_0, PD.o_ix_1, PD.o_ix_2, PD.o_ix_3, PD.it_t, PD.it_r, PD.enu_t, PD.zip_t, PD.o_tup0, PD.o_tup1, PD.o_tup2, PD.o_tup3, PD.o_tup4, PD.o_lst0, PD.o_lst1, PD.o_lst2, PD.o_lst3, PD.o_lst4, PD.g_push, PD.w_lnx, PD.w_lct, PD.w_lbk, PD.w_lrt, PD.w_lex, PD.w_lcn, PD.w_lcs, PD.o_eq_s, PD.o_ne_s, PD.o_eq_i, PD.o_ne_i, PD.w_gtp2, PD.w_gtp3, PD.w_gtp4, PD.rg_map, PD.o_lstR0, PD.o_tupR0, PD.o_not_f, PD.o_not_t, PD.o_dec_tt, PD.o_nn, PD.o_ne_b, PD.o_eq_b, PD.o_bne_tf, PD.o_bne_ff, i1, sl1]
    refine W_use (K.rn h2 a2 M c0 w _ _ (v2.gr d1 (by simp; omega) (by simp; omega)) rt (by omega) hrl0 (by omega)) fun d M2 hM => ?_
    obtain ⟨p2, rfl, q3, q4, v2', d2⟩ := hM
    refine ⟨_, rfl, ?_⟩
    try simp only [word_snoc, PD.w_ok, PD.w_exc, PD.w_ift, PD.w_iff, PD.w_c, PD.w_getK, PD.w_slt0, PD.w_slts, PD.w_set0, PD.w_sets, PD.w_wipe0, PD.w_wipes, PD.w_var, PD.w_1, PD.w_2, PD.w_nil, PD.w_cons, PD.w_app, PD.w_eif, PD.w_truK, PD.w_and, PD.w_or, PD.w_not, PD.w_call, PD.w_meth, PD.w_nonK, PD.w_make, PD.w_bm, PD.w_sl, PD.w_bNo, PD.w_intK, PD.w_bAt, PD.w_blK, PD.w_chn, PD.w_tb1, PD.w_lc, PD.w_turn, PD.w_yes, PD.w_tv, PD.w_tand, PD.w_tor, PD.w_tnot, PD.w_nm, PD.w_sub, PD.w_gnil, PD.w_gcons, PD.w_knx, PD.w_krt, PD.w_kbk, PD.w_kct, PD.w_kex, PD.w_seq, PD.w_next, PD.w_asg, PD.w_expr, PD.w_ret, PD.w_retN, PD.w_brk, PD.w_cnt, PD.w_if, PD.w_aug, PD.w_fset, PD.w_saug, PD.w_for, PD.w_while, PD.w_ie, PD.w_rt, PD.w_nx, PD.w_ex, PD.w_rg1, PD.w_rg2, PD.w_enu, PD.w_zip2, PD.w_zipT, PD.w_rgl1, PD.o_add_i, PD.o_sub_i, PD.o_lt_i, PD.o_le_i, PD.o_gt_i, PD.o_ge_i, PD.o_is_n, PD.o_is_b, PD.o_isnot_b, PD.o_isnot_n, PD.o_isn_non, PD.o_isn_int, PD.o_isn_tup, PD.o_neg_i, PD.o_tru_b, PD.o_int_i, PD.o_int_b, PD.o_len_t, PD.o_tup_t, PD.o_lst_t, PD.o_max2, PD.o_min2, PD.o_ix_0, PD.o_ix_1, PD.o_ix_2, PD.o_ix_3, PD.it_t, PD.it_r, PD.enu_t, PD.zip_t, PD.o_tup0, PD.o_tup1, PD.o_tup2, PD.o_tup3, PD.o_tup4, PD.o_lst0, PD.o_lst1, PD.o_lst2, PD.o_lst3, PD.o_lst4, PD.g_push, PD.w_lnx, PD.w_lct, PD.w_lbk, PD.w_lrt, PD.w_lex, PD.w_lcn, PD.w_lcs, PD.o_eq_s, PD.o_ne_s, PD.o_eq_i, PD.o_ne_i, PD.w_gtp2, PD.w_gtp3, PD.w_gtp4, PD.rg_map, PD.o_lstR0, PD.o_tupR0, PD.o_not_f, PD.o_not_t, PD.o_dec_tt, PD.o_nn, PD.o_ne_b, PD.o_eq_b, PD.o_bne_tf, PD.o_bne_ff]
    have d3 : Gr [] M2 (M2.push (.lst [giftsD p1, giftsD p2])) := Gr.refl.push _
    refine ⟨trivial, M2.len, p1, p2, rfl, g_push, by omega, by omega, q2, q4, d3.at0 (d2.at gn' (by simp; omega)), ?_, ?_, ?_, ?_⟩
    · exact (v1'.gr d2 (by simp; omega) (by simp; omega)).gr d3 (by simp) (by simp)
    · exact v2'.gr d3 (by simp) (by simp)
    · have := LH.get_lt (d2.at gn' (by simp; omega)); omega
    · exact ((hs.grS d1 (by simp; omega) (by simp; omega)).grS d2 (by simp; omega) (by simp; omega)).gr d3
  clear hs v1 v2 gn
  rintro ρ L ⟨t, p1, p2, rfl, gt, q1, q2, q3, q4, gn, v1, v2, b7, hs⟩
  -- all of it
  refine w_cut (fun ρ M => ∃ t : Nat, ρ = [sc, some (.ref s), o2, some (yardD c0 w), some (nD m), some (rowD row), some (giftsD g), some (.str kept), some (nD k), some (.ref n), some (.ref t), o11, o12, o13, o14, o15, o16, o17, o18] ∧ M.get t = some (.lst [giftsD g, giftsD g]) ∧ Src M s c) ?_ ?_
  · have i1 : oIx (.ref t) (.int 1) L = .ok (giftsD p2) L := o_ix_l (n := 1) gt rfl
    try simp only [word_snoc, PD.w_ok, PD.w_exc, PD.w_ift, PD.w_iff, PD.w_c, PD.w_getK, PD.w_slt0, PD.w_slts, PD.w_set0, PD.w_sets, PD.w_wipe0, PD.w_wipes, PD.w_var, PD.w_1, PD.w_2, PD.w_nil, PD.w_cons, PD.w_app, PD.w_eif, PD.w_truK, PD.w_and, PD.w_or, PD.w_not, PD.w_call, PD.w_meth, PD.w_nonK, PD.w_make, PD.w_bm, PD.w_sl, PD.w_bNo, PD.w_intK, PD.w_bAt, PD.w_blK, PD.w_chn, PD.w_tb1, PD.w_lc, PD.w_turn, PD.w_yes, PD.w_tv, PD.w_tand, PD.w_tor, PD.w_tnot, PD.w_nm, PD.w_sub, PD.w_gnil, PD.w_gcons, PD.w_knx, PD.w_krt, PD.w_kbk, PD.w_kct, PD.w_kex, PD.w_seq, PD.w_next, PD.w_asg, PD.w_expr, PD.w_ret, PD.w_retN, PD.w_brk, PD.w_cnt, PD.w_if, PD.w_aug, PD.w_fset, PD.w_saug, PD.w_for, PD.w_while, PD.w_ie, PD.w_rt, PD.w_nx, PD.w_ex, PD.w_rg1, PD.w_rg2, PD.w_enu, PD.w_zip2, PD.w_zipT, PD.w_rgl1, PD.o_add_i, PD.o_sub_i, PD.o_lt_i, PD.o_le_i, PD.o_gt_i, PD.o_ge_i, PD.o_is_n, PD.o_is_b, PD.o_isnot_b, PD.o_isnot_n, PD.o_isn_non, PD.o_isn_int, PD.o_isn_tup, PD.o_neg_i, PD.o_tru_b, PD.o_int_i, PD.o_int_b, PD.o_len_t, PD.o_tup_t, PD.o_lst_t, PD.o_max2, PD.o_min2, PD.o_ix_0, PD.o_ix_1, PD.o_ix_2, PD.o_ix_3, PD.it_t, PD.it_r, PD.enu_t, PD.zip_t, PD.o_tup0, PD.o_tup1, PD.o_tup2, PD.o_tup3, PD.o_tup4, PD.o_lst0, PD.o_lst1, PD.o_lst2, PD.o_lst3, PD.o_lst4, PD.g_push, PD.w_lnx, PD.w_lct, PD.w_lbk, PD.w_lrt, PD.w_lex, PD.w_lcn, PD.w_lcs, PD.o_eq_s, PD.o_ne_s, PD.o_eq_i, PD.o_ne_i, PD.w_gtp2, PD.w_gtp3, PD.w_gtp4, PD.rg_map, PD.o_lstR0, PD.o_tupR0, PD.o_not_f, PD.o_not_t, PD.o_dec_tt, PD.o_nn, PD.o_ne_b, PD.o_eq_b, PD.o_bne_tf, PD.o_bne_ff, i1, sl2]
    refine lcW (GJ cc c0 w h2 a2 (p2.foldl dec1 (room0 c0 m w)) L) (sz_of (by omega)) (GJ.nil v2) ?_ ?_
    · rintro p r q ys N e hy hJ
      obtain ⟨gs, _, _, _, h3⟩ := hJ.ex
      have gn' := hJ.gr.at gn (by simp; omega)
      have i2 : oIx (.ref n) (.int 1) N = .ok (.ref h2) N := o_ix_l (n := 1) gn' rfl
      try simp only [word_snoc, PD.w_ok, PD.w_exc, PD.w_ift, PD.w_iff, PD.w_c, PD.w_getK, PD.w_slt0, PD.w_slts, PD.w_set0, PD.w_sets, PD.w_wipe0, PD.w_wipes, PD.w_var, PD.w_1, PD.w_2, PD.w_nil, PD.w_cons, PD.w_app, PD.w_eif, PD.w_truK, PD.w_and, PD.w_or, PD.w_not, PD.w_call, PD.w_meth, PD.w_nonK, PD.w_make, PD.w_bm, PD.w_sl, PD.w_bNo, PD.w_intK, PD.w_bAt, PD.w_blK, PD.w_chn, PD.w_tb1, PD.w_lc, PD.w_turn, PD.w_yes, PD.w_tv, PD.w_tand, PD.w_tor, PD.w_tnot, PD.w_nm, PD.w_sub, PD.w_gnil, PD.w_gcons, PD.w_knx, PD.w_krt, PD.w_kbk, PD.w_kct, PD.w_kex, PD.w_seq, PD.w_next, PD.w_asg, PD.w_expr, PD.w_ret, PD.w_retN, PD.w_brk, PD.w_cnt, PD.w_if, PD.w_aug, PD.w_fset, PD.w_saug, PD.w_for, PD.w_while, PD.w_ie, PD.w_rt, PD.w_nx, PD.w_ex, PD.w_rg1, PD.w_rg2, PD.w_enu, PD.w_zip2, PD.w_zipT, PD.w_rgl1, PD.o_add_i, PD.o_sub_i, PD.o_lt_i, PD.o_le_i, PD.o_gt_i, PD.o_ge_i, PD.o_is_n, PD.o_is_b, PD.o_isnot_b, PD.o_isnot_n, PD.o_isn_non, PD.o_isn_int, PD.o_isn_tup, PD.o_neg_i, PD.o_tru_b, PD.o_int_i, PD.o_int_b, PD.o_len_t, PD.o_tup_t, PD.o_lst_t, PD.o_max2, PD.o_min2, PD.o_ix_0, PD.o_ix_1, PD.o_ix_2, PD.o_ix_3, PD.it_t, PD.it_r, PD.enu_t, PD.zip_t, PD.o_tup0, PD.o_tup1, PD.o_tup2, PD.o_tup3, PD.o_tup4, PD.o_lst0, PD.o_lst1, PD.o_lst2, PD.o_lst3, PD.o_lst4, PD.g_push, PD.w_lnx, PD.w_lct, PD.w_lbk, PD.w_lrt, PD.w_lex, PD.w_lcn, PD.w_lcs, PD.o_eq_s, PD.o_ne_s, PD.o_eq_i, PD.o_ne_i, PD.w_gtp2, PD.w_gtp3, PD.w_gtp4, PD.rg_map, PD.o_lstR0, PD.o_tupR0, PD.o_not_f, PD.o_not_t, PD.o_dec_tt, PD.o_nn, PD.o_ne_b, PD.o_eq_b, PD.o_bne_tf, PD.o_bne_ff, i2, methK_of (m := "give") h3.g K.tb rfl]
      exact hJ.step K.gv (rd r (split_mem e)) (by omega) (by rw [decs_len]; exact hrl0)
    · rintro ys N hy ⟨⟨gs, rfl, x1, x2, x3⟩, x4⟩
      have g1 : (N.push (.lst (gs.map giftD))).get N.len = some (.lst (gs.map giftD)) := g_push
      have d1 : Gr [a2] L (N.push (.lst (gs.map giftD))) := x4.push _
      simp only [o_tup_l g1]
      generalize (N.push (.lst (gs.map giftD))) = N1 at *
      try simp only [word_snoc, PD.w_ok, PD.w_exc, PD.w_ift, PD.w_iff, PD.w_c, PD.w_getK, PD.w_slt0, PD.w_slts, PD.w_set0, PD.w_sets, PD.w_wipe0, PD.w_wipes, PD.w_var, PD.w_1, PD.w_2, PD.w_nil, PD.w_cons, PD.w_app, PD.w_eif, PD.w_truK, PD.w_and, PD.w_or, PD.w_not, PD.w_call, PD.w_meth, PD.w_nonK, PD.w_make, PD.w_bm, PD.w_sl, PD.w_bNo, PD.w_intK, PD.w_bAt, PD.w_blK, PD.w_chn, PD.w_tb1, PD.w_lc, PD.w_turn, PD.w_yes, PD.w_tv, PD.w_tand, PD.w_tor, PD.w_tnot, PD.w_nm, PD.w_sub, PD.w_gnil, PD.w_gcons, PD.w_knx, PD.w_krt, PD.w_kbk, PD.w_kct, PD.w_kex, PD.w_seq, PD.w_next, PD.w_asg, PD.w_expr, PD.w_ret, PD.w_retN, PD.w_brk, PD.w_cnt, PD.w_if, PD.w_aug, PD.w_fset, PD.w_saug, PD.w_for, PD.w_while, PD.w_ie, PD.w_rt, PD.w_nx, PD.w_ex, PD.w_rg1, PD.w_rg2, PD.w_enu, PD.w_zip2, PD.w_zipT, PD.w_rgl1, PD.o_add_i, PD.o_sub_i, PD.o_lt_i, PD.o_le_i, PD.o_gt_i, PD.o_ge_i, PD.o_is_n, PD.o_is_b, PD.o_isnot_b, PD.o_isnot_n, PD.o_isn_non, PD.o_isn_int, PD.o_isn_tup, PD.o_neg_i, PD.o_tru_b, PD.o_int_i, PD.o_int_b, PD.o_len_t, PD.o_tup_t, PD.o_lst_t, PD.o_max2, PD.o_min2, PD.o_ix_0, PD.o_ix_1, PD.o_ix_2, PD.o_ix_3, PD.it_t, PD.it_r, PD.enu_t, PD.zip_t, PD.o_tup0, PD.o_tup1, PD.o_tup2, PD.o_tup3, PD.o_tup4, PD.o_lst0, PD.o_lst1, PD.o_lst2, PD.o_lst3, PD.o_lst4, PD.g_push, PD.w_lnx, PD.w_lct, PD.w_lbk, PD.w_lrt, PD.w_lex, PD.w_lcn, PD.w_lcs, PD.o_eq_s, PD.o_ne_s, PD.o_eq_i, PD.o_ne_i, PD.w_gtp2, PD.w_gtp3, PD.w_gtp4, PD.rg_map, PD.o_lstR0, PD.o_tupR0, PD.o_not_f, PD.o_not_t, PD.o_dec_tt, PD.o_nn, PD.o_ne_b, PD.o_eq_b, PD.o_bne_tf, PD.o_bne_ff, oad p2 gs N1 q2 (by omega), zz p2 gs q2 (by omega) q4 x2]
      have gt' := d1.at gt (by simp; omega)
      have gn' := d1.at gn (by simp; omega)
      have i3 : oIx (.ref t) (.int 0) N1 = .ok (giftsD p1) N1 := o_ix_l (n := 0) gt' rfl
      have i4 : oIx (.ref n) (.int 0) N1 = .ok (.ref h1) N1 := o_ix_l (n := 0) gn' rfl
      try simp only [word_snoc, PD.w_ok, PD.w_exc, PD.w_ift, PD.w_iff, PD.w_c, PD.w_getK, PD.w_slt0, PD.w_slts, PD.w_set0, PD.w_sets, PD.w_wipe0, PD.w_wipes, PD.w_var, PD.w_1, PD.w_2, PD.w_nil, PD.w_cons, PD.w_app, PD.w_eif, PD.w_truK, PD.w_and, PD.w_or, PD.w_not, PD.w_call, PD.w_meth, PD.w_nonK, PD.w_make, PD.w_bm, PD.w_sl, PD.w_bNo, PD.w_intK, PD.w_bAt, PD.w_blK, PD.w_chn, PD.w_tb1, PD.w_lc, PD.w_turn, PD.w_yes, PD.w_tv, PD.w_tand, PD.w_tor, PD.w_tnot, PD.w_nm, PD.w_sub, PD.w_gnil, PD.w_gcons, PD.w_knx, PD.w_krt, PD.w_kbk, PD.w_kct, PD.w_kex, PD.w_seq, PD.w_next, PD.w_asg, PD.w_expr, PD.w_ret, PD.w_retN, PD.w_brk, PD.w_cnt, PD.w_if, PD.w_aug, PD.w_fset, PD.w_saug, PD.w_for, PD.w_while, PD.w_ie, PD.w_rt, PD.w_nx, PD.w_ex, PD.w_rg1, PD.w_rg2, PD.w_enu, PD.w_zip2, PD.w_zipT, PD.w_rgl1, PD.o_add_i, PD.o_sub_i, PD.o_lt_i, PD.o_le_i, PD.o_gt_i, PD.o_ge_i, PD.o_is_n, PD.o_is_b, PD.o_isnot_b, PD.o_isnot_n, PD.o_isn_non, PD.o_isn_int, PD.o_isn_tup, PD.o_neg_i, PD.o_tru_b, PD.o_int_i, PD.o_int_b, PD.o_len_t, PD.o_tup_t, PD.o_lst_t, PD.o_max2, PD.o_min2, PD.o_ix_0, PD.o_ix_1, PD.o_ix_2, PD.o_ix_3, PD.it_t, PD.it_r, PD.enu_t, PD.zip_t, PD.o_tup0, PD.o_tup1, PD.o_tup2, PD.o_tup3, PD.o_tup4, PD.o_lst0, PD.o_lst1, PD.o_lst2, PD.o_lst3, PD.o_lst4, PD.g_push, PD.w_lnx, PD.w_lct, PD.w_lbk, PD.w_lrt, PD.w_lex, PD.w_lcn, PD.w_lcs, PD.o_eq_s, PD.o_ne_s, PD.o_eq_i, PD.o_ne_i, PD.w_gtp2, PD.w_gtp3, PD.w_gtp4, PD.rg_map, PD.o_lstR0, PD.o_tupR0, PD.o_not_f, PD.o_not_t, PD.o_dec_tt, PD.o_nn, PD.o_ne_b, PD.o_eq_b, PD.o_bne_tf, PD.o_bne_ff, i3, i4, sl2]
      refine W_use (K.rn h1 a1 N1 c0 w _ _ (v1.gr d1 (by simp; omega) (by simp; omega)) rd (by omega) (by rw [decs_len]; exact hrl0) (by omega)) fun d M hM => ?_
      obtain ⟨p3, rfl, y1, y2, v1', d2⟩ := hM
      try simp only [word_snoc, PD.w_ok, PD.w_exc, PD.w_ift, PD.w_iff, PD.w_c, PD.w_getK, PD.w_slt0, PD.w_slts, PD.w_set0, PD.w_sets, PD.w_wipe0, PD.w_wipes, PD.w_var, PD.w_1, PD.w_2, PD.w_nil, PD.w_cons, PD.w_app, PD.w_eif, PD.w_truK, PD.w_and, PD.w_or, PD.w_not, PD.w_call, PD.w_meth, PD.w_nonK, PD.w_make, PD.w_bm, PD.w_sl, PD.w_bNo, PD.w_intK, PD.w_bAt, PD.w_blK, PD.w_chn, PD.w_tb1, PD.w_lc, PD.w_turn, PD.w_yes, PD.w_tv, PD.w_tand, PD.w_tor, PD.w_tnot, PD.w_nm, PD.w_sub, PD.w_gnil, PD.w_gcons, PD.w_knx, PD.w_krt, PD.w_kbk, PD.w_kct, PD.w_kex, PD.w_seq, PD.w_next, PD.w_asg, PD.w_expr, PD.w_ret, PD.w_retN, PD.w_brk, PD.w_cnt, PD.w_if, PD.w_aug, PD.w_fset, PD.w_saug, PD.w_for, PD.w_while, PD.w_ie, PD.w_rt, PD.w_nx, PD.w_ex, PD.w_rg1, PD.w_rg2, PD.w_enu, PD.w_zip2, PD.w_zipT, PD.w_rgl1, PD.o_add_i, PD.o_sub_i, PD.o_lt_i, PD.o_le_i, PD.o_gt_i, PD.o_ge_i, PD.o_is_n, PD.o_is_b, PD.o_isnot_b, PD.o_isnot_n, PD.o_isn_non, PD.o_isn_int, PD.o_isn_tup, PD.o_neg_i, PD.o_tru_b, PD.o_int_i, PD.o_int_b, PD.o_len_t, PD.o_tup_t, PD.o_lst_t, PD.o_max2, PD.o_min2, PD.o_ix_0, PD.o_ix_1, PD.o_ix_2, PD.o_ix_3, PD.it_t, PD.it_r, PD.enu_t, PD.zip_t, PD.o_tup0, PD.o_tup1, PD.o_tup2, PD.o_tup3, PD.o_tup4, PD.o_lst0, PD.o_lst1, PD.o_lst2, PD.o_lst3, PD.o_lst4, PD.g_push, PD.w_lnx, PD.w_lct, PD.w_lbk, PD.w_lrt, PD.w_lex, PD.w_lcn, PD.w_lcs, PD.o_eq_s, PD.o_ne_s, PD.o_eq_i, PD.o_ne_i, PD.w_gtp2, PD.w_gtp3, PD.w_gtp4, PD.rg_map, PD.o_lstR0, PD.o_tupR0, PD.o_not_f, PD.o_not_t, PD.o_dec_tt, PD.o_nn, PD.o_ne_b, PD.o_eq_b, PD.o_bne_tf, PD.o_bne_ff, oad p1 p3 M q1 (by omega), zz p1 p3 q1 (by omega) q3 y2]
      refine ⟨trivial, _, rfl, g_push, ?_⟩
      exact ((hs.grS d1 (by simp; omega) (by simp; omega)).grS d2 (by simp; omega) (by simp; omega)).gr (Gr.refl.push _)
  clear hs v1 v2 gn gt q3 q4
  rintro ρ L ⟨t, rfl, gt, hs⟩
  have shb : ∀ (b : Bool) (H : LH), bReprO [.bl b] H = .ok (.str (PyData.bool b).shown) H := fun b H => repr_b
  -- the texts
  refine w_cut (fun ρ M => ρ = [sc, some (.ref s), o2, some (yardD c0 w), some (nD m), some (rowD row), some (giftsD g), some (.str kept), some (nD k), some (.ref n), some (.ref t), o11, o12, o13, o14, o15, o16, o17, o18] ∧ Src M s c) ?_ ?_
  · try simp only [word_snoc, PD.w_ok, PD.w_exc, PD.w_ift, PD.w_iff, PD.w_c, PD.w_getK, PD.w_slt0, PD.w_slts, PD.w_set0, PD.w_sets, PD.w_wipe0, PD.w_wipes, PD.w_var, PD.w_1, PD.w_2, PD.w_nil, PD.w_cons, PD.w_app, PD.w_eif, PD.w_truK, PD.w_and, PD.w_or, PD.w_not, PD.w_call, PD.w_meth, PD.w_nonK, PD.w_make, PD.w_bm, PD.w_sl, PD.w_bNo, PD.w_intK, PD.w_bAt, PD.w_blK, PD.w_chn, PD.w_tb1, PD.w_lc, PD.w_turn, PD.w_yes, PD.w_tv, PD.w_tand, PD.w_tor, PD.w_tnot, PD.w_nm, PD.w_sub, PD.w_gnil, PD.w_gcons, PD.w_knx, PD.w_krt, PD.w_kbk, PD.w_kct, PD.w_kex, PD.w_seq, PD.w_next, PD.w_asg, PD.w_expr, PD.w_ret, PD.w_retN, PD.w_brk, PD.w_cnt, PD.w_if, PD.w_aug, PD.w_fset, PD.w_saug, PD.w_for, PD.w_while, PD.w_ie, PD.w_rt, PD.w_nx, PD.w_ex, PD.w_rg1, PD.w_rg2, PD.w_enu, PD.w_zip2, PD.w_zipT, PD.w_rgl1, PD.o_add_i, PD.o_sub_i, PD.o_lt_i, PD.o_le_i, PD.o_gt_i, PD.o_ge_i, PD.o_is_n, PD.o_is_b, PD.o_isnot_b, PD.o_isnot_n, PD.o_isn_non, PD.o_isn_int, PD.o_isn_tup, PD.o_neg_i, PD.o_tru_b, PD.o_int_i, PD.o_int_b, PD.o_len_t, PD.o_tup_t, PD.o_lst_t, PD.o_max2, PD.o_min2, PD.o_ix_0, PD.o_ix_1, PD.o_ix_2, PD.o_ix_3, PD.it_t, PD.it_r, PD.enu_t, PD.zip_t, PD.o_tup0, PD.o_tup1, PD.o_tup2, PD.o_tup3, PD.o_tup4, PD.o_lst0, PD.o_lst1, PD.o_lst2, PD.o_lst3, PD.o_lst4, PD.g_push, PD.w_lnx, PD.w_lct, PD.w_lbk, PD.w_lrt, PD.w_lex, PD.w_lcn, PD.w_lcs, PD.o_eq_s, PD.o_ne_s, PD.o_eq_i, PD.o_ne_i, PD.w_gtp2, PD.w_gtp3, PD.w_gtp4, PD.rg_map, PD.o_lstR0, PD.o_tupR0, PD.o_not_f, PD.o_not_t, PD.o_dec_tt, PD.o_nn, PD.o_ne_b, PD.o_eq_b, PD.o_bne_tf, PD.o_bne_ff, hgg2 L t gt, hgg, decide_true]
    exact ⟨trivial, trivial, hs.gr (Gr.refl.push _)⟩
  clear hs gt
  rintro ρ L ⟨rfl, hs⟩
  -- drawn eager gifts
  refine w_cut (fun ρ M => ∃ e : List (Option Nat), ρ = [sc, some (.ref s), o2, some (yardD c0 w), some (nD m), some (rowD row), some (giftsD g), some (.str kept), some (nD k), some (.ref n), some (.ref t), o11, o12, some (giftsD e), o14, o15, o16, o17, o18] ∧ e.length = row.length ∧ AllS (EG.E1 w) (room0 c0 m w) (row.zip e) ∧ Src M s c) ?_ ?_
  · try simp only [word_snoc, PD.w_ok, PD.w_exc, PD.w_ift, PD.w_iff, PD.w_c, PD.w_getK, PD.w_slt0, PD.w_slts, PD.w_set0, PD.w_sets, PD.w_wipe0, PD.w_wipes, PD.w_var, PD.w_1, PD.w_2, PD.w_nil, PD.w_cons, PD.w_app, PD.w_eif, PD.w_truK, PD.w_and, PD.w_or, PD.w_not, PD.w_call, PD.w_meth, PD.w_nonK, PD.w_make, PD.w_bm, PD.w_sl, PD.w_bNo, PD.w_intK, PD.w_bAt, PD.w_blK, PD.w_chn, PD.w_tb1, PD.w_lc, PD.w_turn, PD.w_yes, PD.w_tv, PD.w_tand, PD.w_tor, PD.w_tnot, PD.w_nm, PD.w_sub, PD.w_gnil, PD.w_gcons, PD.w_knx, PD.w_krt, PD.w_kbk, PD.w_kct, PD.w_kex, PD.w_seq, PD.w_next, PD.w_asg, PD.w_expr, PD.w_ret, PD.w_retN, PD.w_brk, PD.w_cnt, PD.w_if, PD.w_aug, PD.w_fset, PD.w_saug, PD.w_for, PD.w_while, PD.w_ie, PD.w_rt, PD.w_nx, PD.w_ex, PD.w_rg1, PD.w_rg2, PD.w_enu, PD.w_zip2, PD.w_zipT, PD.w_rgl1, PD.o_add_i, PD.o_sub_i, PD.o_lt_i, PD.o_le_i, PD.o_gt_i, PD.o_ge_i, PD.o_is_n, PD.o_is_b, PD.o_isnot_b, PD.o_isnot_n, PD.o_isn_non, PD.o_isn_int, PD.o_isn_tup, PD.o_neg_i, PD.o_tru_b, PD.o_int_i, PD.o_int_b, PD.o_len_t, PD.o_tup_t, PD.o_lst_t, PD.o_max2, PD.o_min2, PD.o_ix_0, PD.o_ix_1, PD.o_ix_2, PD.o_ix_3, PD.it_t, PD.it_r, PD.enu_t, PD.zip_t, PD.o_tup0, PD.o_tup1, PD.o_tup2, PD.o_tup3, PD.o_tup4, PD.o_lst0, PD.o_lst1, PD.o_lst2, PD.o_lst3, PD.o_lst4, PD.g_push, PD.w_lnx, PD.w_lct, PD.w_lbk, PD.w_lrt, PD.w_lex, PD.w_lcn, PD.w_lcs, PD.o_eq_s, PD.o_ne_s, PD.o_eq_i, PD.o_ne_i, PD.w_gtp2, PD.w_gtp3, PD.w_gtp4, PD.rg_map, PD.o_lstR0, PD.o_tupR0, PD.o_not_f, PD.o_not_t, PD.o_dec_tt, PD.o_nn, PD.o_ne_b, PD.o_eq_b, PD.o_bne_tf, PD.o_bne_ff]
    refine W_use (K.eg s c L c0 m w row hs ft) fun d M hM => ?_
    obtain ⟨e, rfl, q1, q2, d1⟩ := hM
    try simp only [word_snoc, PD.w_ok, PD.w_exc, PD.w_ift, PD.w_iff, PD.w_c, PD.w_getK, PD.w_slt0, PD.w_slts, PD.w_set0, PD.w_sets, PD.w_wipe0, PD.w_wipes, PD.w_var, PD.w_1, PD.w_2, PD.w_nil, PD.w_cons, PD.w_app, PD.w_eif, PD.w_truK, PD.w_and, PD.w_or, PD.w_not, PD.w_call, PD.w_meth, PD.w_nonK, PD.w_make, PD.w_bm, PD.w_sl, PD.w_bNo, PD.w_intK, PD.w_bAt, PD.w_blK, PD.w_chn, PD.w_tb1, PD.w_lc, PD.w_turn, PD.w_yes, PD.w_tv, PD.w_tand, PD.w_tor, PD.w_tnot, PD.w_nm, PD.w_sub, PD.w_gnil, PD.w_gcons, PD.w_knx, PD.w_krt, PD.w_kbk, PD.w_kct, PD.w_kex, PD.w_seq, PD.w_next, PD.w_asg, PD.w_expr, PD.w_ret, PD.w_retN, PD.w_brk, PD.w_cnt, PD.w_if, PD.w_aug, PD.w_fset, PD.w_saug, PD.w_for, PD.w_while, PD.w_ie, PD.w_rt, PD.w_nx, PD.w_ex, PD.w_rg1, PD.w_rg2, PD.w_enu, PD.w_zip2, PD.w_zipT, PD.w_rgl1, PD.o_add_i, PD.o_sub_i, PD.o_lt_i, PD.o_le_i, PD.o_gt_i, PD.o_ge_i, PD.o_is_n, PD.o_is_b, PD.o_isnot_b, PD.o_isnot_n, PD.o_isn_non, PD.o_isn_int, PD.o_isn_tup, PD.o_neg_i, PD.o_tru_b, PD.o_int_i, PD.o_int_b, PD.o_len_t, PD.o_tup_t, PD.o_lst_t, PD.o_max2, PD.o_min2, PD.o_ix_0, PD.o_ix_1, PD.o_ix_2, PD.o_ix_3, PD.it_t, PD.it_r, PD.enu_t, PD.zip_t, PD.o_tup0, PD.o_tup1, PD.o_tup2, PD.o_tup3, PD.o_tup4, PD.o_lst0, PD.o_lst1, PD.o_lst2, PD.o_lst3, PD.o_lst4, PD.g_push, PD.w_lnx, PD.w_lct, PD.w_lbk, PD.w_lrt, PD.w_lex, PD.w_lcn, PD.w_lcs, PD.o_eq_s, PD.o_ne_s, PD.o_eq_i, PD.o_ne_i, PD.w_gtp2, PD.w_gtp3, PD.w_gtp4, PD.rg_map, PD.o_lstR0, PD.o_tupR0, PD.o_not_f, PD.o_not_t, PD.o_dec_tt, PD.o_nn, PD.o_ne_b, PD.o_eq_b, PD.o_bne_tf, PD.o_bne_ff]
    exact ⟨trivial, e, rfl, q1, q2, d1.src⟩
  clear hs
  rintro ρ L ⟨e, rfl, x1, x2, hs⟩
  refine w_cut (fun ρ M => ρ = [sc, some (.ref s), o2, some (yardD c0 w), some (nD m), some (rowD row), some (giftsD g), some (.str kept), some (nD k), some (.ref n), some (.ref t), o11, o12, some (giftsD e), o14, o15, o16, o17, o18] ∧ Src M s c) ?_ ?_
  · try simp only [word_snoc, PD.w_ok, PD.w_exc, PD.w_ift, PD.w_iff, PD.w_c, PD.w_getK, PD.w_slt0, PD.w_slts, PD.w_set0, PD.w_sets, PD.w_wipe0, PD.w_wipes, PD.w_var, PD.w_1, PD.w_2, PD.w_nil, PD.w_cons, PD.w_app, PD.w_eif, PD.w_truK, PD.w_and, PD.w_or, PD.w_not, PD.w_call, PD.w_meth, PD.w_nonK, PD.w_make, PD.w_bm, PD.w_sl, PD.w_bNo, PD.w_intK, PD.w_bAt, PD.w_blK, PD.w_chn, PD.w_tb1, PD.w_lc, PD.w_turn, PD.w_yes, PD.w_tv, PD.w_tand, PD.w_tor, PD.w_tnot, PD.w_nm, PD.w_sub, PD.w_gnil, PD.w_gcons, PD.w_knx, PD.w_krt, PD.w_kbk, PD.w_kct, PD.w_kex, PD.w_seq, PD.w_next, PD.w_asg, PD.w_expr, PD.w_ret, PD.w_retN, PD.w_brk, PD.w_cnt, PD.w_if, PD.w_aug, PD.w_fset, PD.w_saug, PD.w_for, PD.w_while, PD.w_ie, PD.w_rt, PD.w_nx, PD.w_ex, PD.w_rg1, PD.w_rg2, PD.w_enu, PD.w_zip2, PD.w_zipT, PD.w_rgl1, PD.o_add_i, PD.o_sub_i, PD.o_lt_i, PD.o_le_i, PD.o_gt_i, PD.o_ge_i, PD.o_is_n, PD.o_is_b, PD.o_isnot_b, PD.o_isnot_n, PD.o_isn_non, PD.o_isn_int, PD.o_isn_tup, PD.o_neg_i, PD.o_tru_b, PD.o_int_i, PD.o_int_b, PD.o_len_t, PD.o_tup_t, PD.o_lst_t, PD.o_max2, PD.o_min2, PD.o_ix_0, PD.o_ix_1, PD.o_ix_2, PD.o_ix_3, PD.it_t, PD.it_r, PD.enu_t, PD.zip_t, PD.o_tup0, PD.o_tup1, PD.o_tup2, PD.o_tup3, PD.o_tup4, PD.o_lst0, PD.o_lst1, PD.o_lst2, PD.o_lst3, PD.o_lst4, PD.g_push, PD.w_lnx, PD.w_lct, PD.w_lbk, PD.w_lrt, PD.w_lex, PD.w_lcn, PD.w_lcs, PD.o_eq_s, PD.o_ne_s, PD.o_eq_i, PD.o_ne_i, PD.w_gtp2, PD.w_gtp3, PD.w_gtp4, PD.rg_map, PD.o_lstR0, PD.o_tupR0, PD.o_not_f, PD.o_not_t, PD.o_dec_tt, PD.o_nn, PD.o_ne_b, PD.o_eq_b, PD.o_bne_tf, PD.o_bne_ff]
    refine W_use (K.ie L c0 m w row e ft x1 (VS.of (allS_imp (fun _ _ _ h => h.v) x2))) fun d M hM => ?_
    obtain ⟨rfl, d1⟩ := hM
    rw [eagerB_true x2]
    try simp only [word_snoc, PD.w_ok, PD.w_exc, PD.w_ift, PD.w_iff, PD.w_c, PD.w_getK, PD.w_slt0, PD.w_slts, PD.w_set0, PD.w_sets, PD.w_wipe0, PD.w_wipes, PD.w_var, PD.w_1, PD.w_2, PD.w_nil, PD.w_cons, PD.w_app, PD.w_eif, PD.w_truK, PD.w_and, PD.w_or, PD.w_not, PD.w_call, PD.w_meth, PD.w_nonK, PD.w_make, PD.w_bm, PD.w_sl, PD.w_bNo, PD.w_intK, PD.w_bAt, PD.w_blK, PD.w_chn, PD.w_tb1, PD.w_lc, PD.w_turn, PD.w_yes, PD.w_tv, PD.w_tand, PD.w_tor, PD.w_tnot, PD.w_nm, PD.w_sub, PD.w_gnil, PD.w_gcons, PD.w_knx, PD.w_krt, PD.w_kbk, PD.w_kct, PD.w_kex, PD.w_seq, PD.w_next, PD.w_asg, PD.w_expr, PD.w_ret, PD.w_retN, PD.w_brk, PD.w_cnt, PD.w_if, PD.w_aug, PD.w_fset, PD.w_saug, PD.w_for, PD.w_while, PD.w_ie, PD.w_rt, PD.w_nx, PD.w_ex, PD.w_rg1, PD.w_rg2, PD.w_enu, PD.w_zip2, PD.w_zipT, PD.w_rgl1, PD.o_add_i, PD.o_sub_i, PD.o_lt_i, PD.o_le_i, PD.o_gt_i, PD.o_ge_i, PD.o_is_n, PD.o_is_b, PD.o_isnot_b, PD.o_isnot_n, PD.o_isn_non, PD.o_isn_int, PD.o_isn_tup, PD.o_neg_i, PD.o_tru_b, PD.o_int_i, PD.o_int_b, PD.o_len_t, PD.o_tup_t, PD.o_lst_t, PD.o_max2, PD.o_min2, PD.o_ix_0, PD.o_ix_1, PD.o_ix_2, PD.o_ix_3, PD.it_t, PD.it_r, PD.enu_t, PD.zip_t, PD.o_tup0, PD.o_tup1, PD.o_tup2, PD.o_tup3, PD.o_tup4, PD.o_lst0, PD.o_lst1, PD.o_lst2, PD.o_lst3, PD.o_lst4, PD.g_push, PD.w_lnx, PD.w_lct, PD.w_lbk, PD.w_lrt, PD.w_lex, PD.w_lcn, PD.w_lcs, PD.o_eq_s, PD.o_ne_s, PD.o_eq_i, PD.o_ne_i, PD.w_gtp2, PD.w_gtp3, PD.w_gtp4, PD.rg_map, PD.o_lstR0, PD.o_tupR0, PD.o_not_f, PD.o_not_t, PD.o_dec_tt, PD.o_nn, PD.o_ne_b, PD.o_eq_b, PD.o_bne_tf, PD.o_bne_ff, hk, decide_true]
    exact ⟨trivial, trivial, hs.gr (d1.push _)⟩
  clear hs
  rintro ρ L ⟨rfl, hs⟩
  -- any gifts
  refine w_cut (fun ρ M => ∃ o14 o15, ρ = [sc, some (.ref s), o2, some (yardD c0 w), some (nD m), some (rowD row), some (giftsD g), some (.str kept), some (nD k), some (.ref n), some (.ref t), o11, o12, some (giftsD e), o14, o15, o16, o17, o18] ∧ Src M s c) ?_ ?_
  · try simp only [word_snoc, PD.w_ok, PD.w_exc, PD.w_ift, PD.w_iff, PD.w_c, PD.w_getK, PD.w_slt0, PD.w_slts, PD.w_set0, PD.w_sets, PD.w_wipe0, PD.w_wipes, PD.w_var, PD.w_1, PD.w_2, PD.w_nil, PD.w_cons, PD.w_app, PD.w_eif, PD.w_truK, PD.w_and, PD.w_or, PD.w_not, PD.w_call, PD.w_meth, PD.w_nonK, PD.w_make, PD.w_bm, PD.w_sl, PD.w_bNo, PD.w_intK, PD.w_bAt, PD.w_blK, PD.w_chn, PD.w_tb1, PD.w_lc, PD.w_turn, PD.w_yes, PD.w_tv, PD.w_tand, PD.w_tor, PD.w_tnot, PD.w_nm, PD.w_sub, PD.w_gnil, PD.w_gcons, PD.w_knx, PD.w_krt, PD.w_kbk, PD.w_kct, PD.w_kex, PD.w_seq, PD.w_next, PD.w_asg, PD.w_expr, PD.w_ret, PD.w_retN, PD.w_brk, PD.w_cnt, PD.w_if, PD.w_aug, PD.w_fset, PD.w_saug, PD.w_for, PD.w_while, PD.w_ie, PD.w_rt, PD.w_nx, PD.w_ex, PD.w_rg1, PD.w_rg2, PD.w_enu, PD.w_zip2, PD.w_zipT, PD.w_rgl1, PD.o_add_i, PD.o_sub_i, PD.o_lt_i, PD.o_le_i, PD.o_gt_i, PD.o_ge_i, PD.o_is_n, PD.o_is_b, PD.o_isnot_b, PD.o_isnot_n, PD.o_isn_non, PD.o_isn_int, PD.o_isn_tup, PD.o_neg_i, PD.o_tru_b, PD.o_int_i, PD.o_int_b, PD.o_len_t, PD.o_tup_t, PD.o_lst_t, PD.o_max2, PD.o_min2, PD.o_ix_0, PD.o_ix_1, PD.o_ix_2, PD.o_ix_3, PD.it_t, PD.it_r, PD.enu_t, PD.zip_t, PD.o_tup0, PD.o_tup1, PD.o_tup2, PD.o_tup3, PD.o_tup4, PD.o_lst0, PD.o_lst1, PD.o_lst2, PD.o_lst3, PD.o_lst4, PD.g_push, PD.w_lnx, PD.w_lct, PD.w_lbk, PD.w_lrt, PD.w_lex, PD.w_lcn, PD.w_lcs, PD.o_eq_s, PD.o_ne_s, PD.o_eq_i, PD.o_ne_i, PD.w_gtp2, PD.w_gtp3, PD.w_gtp4, PD.rg_map, PD.o_lstR0, PD.o_tupR0, PD.o_not_f, PD.o_not_t, PD.o_dec_tt, PD.o_nn, PD.o_ne_b, PD.o_eq_b, PD.o_bne_tf, PD.o_bne_ff]
    refine ⟨in62_of (by omega) (by omega), ?_⟩
    refine forW (fun p ρ M => ∃ o14 o15, ρ = [sc, some (.ref s), o2, some (yardD c0 w), some (nD m), some (rowD row), some (giftsD g), some (.str kept), some (nD k), some (.ref n), some (.ref t), o11, o12, some (giftsD e), o14, o15, o16, o17, o18] ∧ Src M s c) ⟨_, _, rfl, hs⟩ ?_ ?_
    · rintro p a q ρ M _ ⟨o14, o15, rfl, hs⟩
      have b1 : oMul (nD m) (.int c0) M = .ok (.int (m * c0)) M := o_mul_i (.inl (by unfold big64; omega))
      try simp only [word_snoc, PD.w_ok, PD.w_exc, PD.w_ift, PD.w_iff, PD.w_c, PD.w_getK, PD.w_slt0, PD.w_slts, PD.w_set0, PD.w_sets, PD.w_wipe0, PD.w_wipes, PD.w_var, PD.w_1, PD.w_2, PD.w_nil, PD.w_cons, PD.w_app, PD.w_eif, PD.w_truK, PD.w_and, PD.w_or, PD.w_not, PD.w_call, PD.w_meth, PD.w_nonK, PD.w_make, PD.w_bm, PD.w_sl, PD.w_bNo, PD.w_intK, PD.w_bAt, PD.w_blK, PD.w_chn, PD.w_tb1, PD.w_lc, PD.w_turn, PD.w_yes, PD.w_tv, PD.w_tand, PD.w_tor, PD.w_tnot, PD.w_nm, PD.w_sub, PD.w_gnil, PD.w_gcons, PD.w_knx, PD.w_krt, PD.w_kbk, PD.w_kct, PD.w_kex, PD.w_seq, PD.w_next, PD.w_asg, PD.w_expr, PD.w_ret, PD.w_retN, PD.w_brk, PD.w_cnt, PD.w_if, PD.w_aug, PD.w_fset, PD.w_saug, PD.w_for, PD.w_while, PD.w_ie, PD.w_rt, PD.w_nx, PD.w_ex, PD.w_rg1, PD.w_rg2, PD.w_enu, PD.w_zip2, PD.w_zipT, PD.w_rgl1, PD.o_add_i, PD.o_sub_i, PD.o_lt_i, PD.o_le_i, PD.o_gt_i, PD.o_ge_i, PD.o_is_n, PD.o_is_b, PD.o_isnot_b, PD.o_isnot_n, PD.o_isn_non, PD.o_isn_int, PD.o_isn_tup, PD.o_neg_i, PD.o_tru_b, PD.o_int_i, PD.o_int_b, PD.o_len_t, PD.o_tup_t, PD.o_lst_t, PD.o_max2, PD.o_min2, PD.o_ix_0, PD.o_ix_1, PD.o_ix_2, PD.o_ix_3, PD.it_t, PD.it_r, PD.enu_t, PD.zip_t, PD.o_tup0, PD.o_tup1, PD.o_tup2, PD.o_tup3, PD.o_tup4, PD.o_lst0, PD.o_lst1, PD.o_lst2, PD.o_lst3, PD.o_lst4, PD.g_push, PD.w_lnx, PD.w_lct, PD.w_lbk, PD.w_lrt, PD.w_lex, PD.w_lcn, PD.w_lcs, PD.o_eq_s, PD.o_ne_s, PD.o_eq_i, PD.o_ne_i, PD.w_gtp2, PD.w_gtp3, PD.w_gtp4, PD.rg_map, PD.o_lstR0, PD.o_tupR0, PD.o_not_f, PD.o_not_t, PD.o_dec_tt, PD.o_nn, PD.o_ne_b, PD.o_eq_b, PD.o_bne_tf, PD.o_bne_ff, b1, List.length_map]
      refine W_use (K.ag s c M (m * c0) w.length row hs (by omega) r2 (by omega)) fun d M2 hM => ?_
      obtain ⟨f, rfl, q1, q2, d1⟩ := hM
      try simp only [word_snoc, PD.w_ok, PD.w_exc, PD.w_ift, PD.w_iff, PD.w_c, PD.w_getK, PD.w_slt0, PD.w_slts, PD.w_set0, PD.w_sets, PD.w_wipe0, PD.w_wipes, PD.w_var, PD.w_1, PD.w_2, PD.w_nil, PD.w_cons, PD.w_app, PD.w_eif, PD.w_truK, PD.w_and, PD.w_or, PD.w_not, PD.w_call, PD.w_meth, PD.w_nonK, PD.w_make, PD.w_bm, PD.w_sl, PD.w_bNo, PD.w_intK, PD.w_bAt, PD.w_blK, PD.w_chn, PD.w_tb1, PD.w_lc, PD.w_turn, PD.w_yes, PD.w_tv, PD.w_tand, PD.w_tor, PD.w_tnot, PD.w_nm, PD.w_sub, PD.w_gnil, PD.w_gcons, PD.w_knx, PD.w_krt, PD.w_kbk, PD.w_kct, PD.w_kex, PD.w_seq, PD.w_next, PD.w_asg, PD.w_expr, PD.w_ret, PD.w_retN, PD.w_brk, PD.w_cnt, PD.w_if, PD.w_aug, PD.w_fset, PD.w_saug, PD.w_for, PD.w_while, PD.w_ie, PD.w_rt, PD.w_nx, PD.w_ex, PD.w_rg1, PD.w_rg2, PD.w_enu, PD.w_zip2, PD.w_zipT, PD.w_rgl1, PD.o_add_i, PD.o_sub_i, PD.o_lt_i, PD.o_le_i, PD.o_gt_i, PD.o_ge_i, PD.o_is_n, PD.o_is_b, PD.o_isnot_b, PD.o_isnot_n, PD.o_isn_non, PD.o_isn_int, PD.o_isn_tup, PD.o_neg_i, PD.o_tru_b, PD.o_int_i, PD.o_int_b, PD.o_len_t, PD.o_tup_t, PD.o_lst_t, PD.o_max2, PD.o_min2, PD.o_ix_0, PD.o_ix_1, PD.o_ix_2, PD.o_ix_3, PD.it_t, PD.it_r, PD.enu_t, PD.zip_t, PD.o_tup0, PD.o_tup1, PD.o_tup2, PD.o_tup3, PD.o_tup4, PD.o_lst0, PD.o_lst1, PD.o_lst2, PD.o_lst3, PD.o_lst4, PD.g_push, PD.w_lnx, PD.w_lct, PD.w_lbk, PD.w_lrt, PD.w_lex, PD.w_lcn, PD.w_lcs, PD.o_eq_s, PD.o_ne_s, PD.o_eq_i, PD.o_ne_i, PD.w_gtp2, PD.w_gtp3, PD.w_gtp4, PD.rg_map, PD.o_lstR0, PD.o_tupR0, PD.o_not_f, PD.o_not_t, PD.o_dec_tt, PD.o_nn, PD.o_ne_b, PD.o_eq_b, PD.o_bne_tf, PD.o_bne_ff]
      refine W_use (K.ie M2 c0 m w row f ft q1 (VS.of q2)) fun d M3 hM => ?_
      obtain ⟨rfl, d2⟩ := hM
      try simp only [word_snoc, PD.w_ok, PD.w_exc, PD.w_ift, PD.w_iff, PD.w_c, PD.w_getK, PD.w_slt0, PD.w_slts, PD.w_set0, PD.w_sets, PD.w_wipe0, PD.w_wipes, PD.w_var, PD.w_1, PD.w_2, PD.w_nil, PD.w_cons, PD.w_app, PD.w_eif, PD.w_truK, PD.w_and, PD.w_or, PD.w_not, PD.w_call, PD.w_meth, PD.w_nonK, PD.w_make, PD.w_bm, PD.w_sl, PD.w_bNo, PD.w_intK, PD.w_bAt, PD.w_blK, PD.w_chn, PD.w_tb1, PD.w_lc, PD.w_turn, PD.w_yes, PD.w_tv, PD.w_tand, PD.w_tor, PD.w_tnot, PD.w_nm, PD.w_sub, PD.w_gnil, PD.w_gcons, PD.w_knx, PD.w_krt, PD.w_kbk, PD.w_kct, PD.w_kex, PD.w_seq, PD.w_next, PD.w_asg, PD.w_expr, PD.w_ret, PD.w_retN, PD.w_brk, PD.w_cnt, PD.w_if, PD.w_aug, PD.w_fset, PD.w_saug, PD.w_for, PD.w_while, PD.w_ie, PD.w_rt, PD.w_nx, PD.w_ex, PD.w_rg1, PD.w_rg2, PD.w_enu, PD.w_zip2, PD.w_zipT, PD.w_rgl1, PD.o_add_i, PD.o_sub_i, PD.o_lt_i, PD.o_le_i, PD.o_gt_i, PD.o_ge_i, PD.o_is_n, PD.o_is_b, PD.o_isnot_b, PD.o_isnot_n, PD.o_isn_non, PD.o_isn_int, PD.o_isn_tup, PD.o_neg_i, PD.o_tru_b, PD.o_int_i, PD.o_int_b, PD.o_len_t, PD.o_tup_t, PD.o_lst_t, PD.o_max2, PD.o_min2, PD.o_ix_0, PD.o_ix_1, PD.o_ix_2, PD.o_ix_3, PD.it_t, PD.it_r, PD.enu_t, PD.zip_t, PD.o_tup0, PD.o_tup1, PD.o_tup2, PD.o_tup3, PD.o_tup4, PD.o_lst0, PD.o_lst1, PD.o_lst2, PD.o_lst3, PD.o_lst4, PD.g_push, PD.w_lnx, PD.w_lct, PD.w_lbk, PD.w_lrt, PD.w_lex, PD.w_lcn, PD.w_lcs, PD.o_eq_s, PD.o_ne_s, PD.o_eq_i, PD.o_ne_i, PD.w_gtp2, PD.w_gtp3, PD.w_gtp4, PD.rg_map, PD.o_lstR0, PD.o_tupR0, PD.o_not_f, PD.o_not_t, PD.o_dec_tt, PD.o_nn, PD.o_ne_b, PD.o_eq_b, PD.o_bne_tf, PD.o_bne_ff, shb]
      refine W_use (K.lie M3 c0 m w row f ft q1 (VS.of q2)) fun d M4 hM => ?_
      obtain ⟨rfl, d3⟩ := hM
      try simp only [word_snoc, PD.w_ok, PD.w_exc, PD.w_ift, PD.w_iff, PD.w_c, PD.w_getK, PD.w_slt0, PD.w_slts, PD.w_set0, PD.w_sets, PD.w_wipe0, PD.w_wipes, PD.w_var, PD.w_1, PD.w_2, PD.w_nil, PD.w_cons, PD.w_app, PD.w_eif, PD.w_truK, PD.w_and, PD.w_or, PD.w_not, PD.w_call, PD.w_meth, PD.w_nonK, PD.w_make, PD.w_bm, PD.w_sl, PD.w_bNo, PD.w_intK, PD.w_bAt, PD.w_blK, PD.w_chn, PD.w_tb1, PD.w_lc, PD.w_turn, PD.w_yes, PD.w_tv, PD.w_tand, PD.w_tor, PD.w_tnot, PD.w_nm, PD.w_sub, PD.w_gnil, PD.w_gcons, PD.w_knx, PD.w_krt, PD.w_kbk, PD.w_kct, PD.w_kex, PD.w_seq, PD.w_next, PD.w_asg, PD.w_expr, PD.w_ret, PD.w_retN, PD.w_brk, PD.w_cnt, PD.w_if, PD.w_aug, PD.w_fset, PD.w_saug, PD.w_for, PD.w_while, PD.w_ie, PD.w_rt, PD.w_nx, PD.w_ex, PD.w_rg1, PD.w_rg2, PD.w_enu, PD.w_zip2, PD.w_zipT, PD.w_rgl1, PD.o_add_i, PD.o_sub_i, PD.o_lt_i, PD.o_le_i, PD.o_gt_i, PD.o_ge_i, PD.o_is_n, PD.o_is_b, PD.o_isnot_b, PD.o_isnot_n, PD.o_isn_non, PD.o_isn_int, PD.o_isn_tup, PD.o_neg_i, PD.o_tru_b, PD.o_int_i, PD.o_int_b, PD.o_len_t, PD.o_tup_t, PD.o_lst_t, PD.o_max2, PD.o_min2, PD.o_ix_0, PD.o_ix_1, PD.o_ix_2, PD.o_ix_3, PD.it_t, PD.it_r, PD.enu_t, PD.zip_t, PD.o_tup0, PD.o_tup1, PD.o_tup2, PD.o_tup3, PD.o_tup4, PD.o_lst0, PD.o_lst1, PD.o_lst2, PD.o_lst3, PD.o_lst4, PD.g_push, PD.w_lnx, PD.w_lct, PD.w_lbk, PD.w_lrt, PD.w_lex, PD.w_lcn, PD.w_lcs, PD.o_eq_s, PD.o_ne_s, PD.o_eq_i, PD.o_ne_i, PD.w_gtp2, PD.w_gtp3, PD.w_gtp4, PD.rg_map, PD.o_lstR0, PD.o_tupR0, PD.o_not_f, PD.o_not_t, PD.o_dec_tt, PD.o_nn, PD.o_ne_b, PD.o_eq_b, PD.o_bne_tf, PD.o_bne_ff, shb, decide_true]
      exact ⟨_, _, rfl, (d1.src.gr d2).gr d3⟩
    · rintro ρ M ⟨o14, o15, rfl, hs⟩
      exact ⟨rfl, _, _, rfl, hs⟩
  clear hs
  rintro ρ L ⟨o14, o15, rfl, hs⟩
  -- a gift replaced by none
  refine w_cut (fun ρ M => ∃ o11 o16, ρ = [sc, some (.ref s), o2, some (yardD c0 w), some (nD m), some (rowD row), some (giftsD g), some (.str kept), some (nD k), some (.ref n), some (.ref t), o11, o12, some (giftsD e), o14, o15, o16, o17, o18] ∧ Src M s c) ?_ ?_
  · try simp only [word_snoc, PD.w_ok, PD.w_exc, PD.w_ift, PD.w_iff, PD.w_c, PD.w_getK, PD.w_slt0, PD.w_slts, PD.w_set0, PD.w_sets, PD.w_wipe0, PD.w_wipes, PD.w_var, PD.w_1, PD.w_2, PD.w_nil, PD.w_cons, PD.w_app, PD.w_eif, PD.w_truK, PD.w_and, PD.w_or, PD.w_not, PD.w_call, PD.w_meth, PD.w_nonK, PD.w_make, PD.w_bm, PD.w_sl, PD.w_bNo, PD.w_intK, PD.w_bAt, PD.w_blK, PD.w_chn, PD.w_tb1, PD.w_lc, PD.w_turn, PD.w_yes, PD.w_tv, PD.w_tand, PD.w_tor, PD.w_tnot, PD.w_nm, PD.w_sub, PD.w_gnil, PD.w_gcons, PD.w_knx, PD.w_krt, PD.w_kbk, PD.w_kct, PD.w_kex, PD.w_seq, PD.w_next, PD.w_asg, PD.w_expr, PD.w_ret, PD.w_retN, PD.w_brk, PD.w_cnt, PD.w_if, PD.w_aug, PD.w_fset, PD.w_saug, PD.w_for, PD.w_while, PD.w_ie, PD.w_rt, PD.w_nx, PD.w_ex, PD.w_rg1, PD.w_rg2, PD.w_enu, PD.w_zip2, PD.w_zipT, PD.w_rgl1, PD.o_add_i, PD.o_sub_i, PD.o_lt_i, PD.o_le_i, PD.o_gt_i, PD.o_ge_i, PD.o_is_n, PD.o_is_b, PD.o_isnot_b, PD.o_isnot_n, PD.o_isn_non, PD.o_isn_int, PD.o_isn_tup, PD.o_neg_i, PD.o_tru_b, PD.o_int_i, PD.o_int_b, PD.o_len_t, PD.o_tup_t, PD.o_lst_t, PD.o_max2, PD.o_min2, PD.o_ix_0, PD.o_ix_1, PD.o_ix_2, PD.o_ix_3, PD.it_t, PD.it_r, PD.enu_t, PD.zip_t, PD.o_tup0, PD.o_tup1, PD.o_tup2, PD.o_tup3, PD.o_tup4, PD.o_lst0, PD.o_lst1, PD.o_lst2, PD.o_lst3, PD.o_lst4, PD.g_push, PD.w_lnx, PD.w_lct, PD.w_lbk, PD.w_lrt, PD.w_lex, PD.w_lcn, PD.w_lcs, PD.o_eq_s, PD.o_ne_s, PD.o_eq_i, PD.o_ne_i, PD.w_gtp2, PD.w_gtp3, PD.w_gtp4, PD.rg_map, PD.o_lstR0, PD.o_tupR0, PD.o_not_f, PD.o_not_t, PD.o_dec_tt, PD.o_nn, PD.o_ne_b, PD.o_eq_b, PD.o_bne_tf, PD.o_bne_ff, List.length_map]
    refine ifK_of (fun c1 => ?_) fun c1 => ?_
    · have hpos := of_decide_eq_true c1
      refine W_use (K.pk s c L _ hs (by omega)) fun d M hM => ?_
      obtain ⟨r, rfl, q0, q1, d1, l1⟩ := hM
      obtain ⟨j, rfl⟩ : ∃ j : Nat, r = j := ⟨r.toNat, by omega⟩
      have hj : j < row.length := by omega
      have s1 : ∀ H : LH, oSl (giftsD e) none (some ((j : Nat) : Int)) H = .ok (giftsD (e.take j)) H := fun H => by
        rw [sl_toT (by omega), Int.toNat_natCast, ← List.map_take]
      have s2 : ∀ H : LH, oSl (giftsD e) (some ((j : Int) + 1)) none H = .ok (giftsD (e.drop (j + 1))) H := fun H => by
        rw [sl_fromT (by omega), show ((j : Int) + 1).toNat = j + 1 by omega, ← List.map_drop]
      have hlt : (e.take j).length ≤ 30 := by rw [List.length_take]; omega
      have hld : (e.drop (j + 1)).length ≤ 30 := by rw [List.length_drop]; omega
      have s3 : ∀ H : LH, oAdd (giftsD (e.take j)) (.tup [.non]) H = .ok (giftsD (e.take j ++ [none])) H := fun H => by
        rw [o_add_t (by rw [List.length_map]; exact sz_of (by rw [List.length_singleton]; omega))]
        unfold giftsD; rw [List.map_append]; rfl
      have s4 : ∀ H : LH, oAdd (giftsD (e.take j ++ [none])) (giftsD (e.drop (j + 1))) H = .ok (giftsD (e.take j ++ [none] ++ e.drop (j + 1))) H := fun H => by
        rw [o_add_t (by rw [List.length_map, List.length_map, List.length_append]; exact sz_of (by rw [List.length_singleton]; omega)), ← List.map_append]
      have hlen : (e.take j ++ [none] ++ e.drop (j + 1)).length = row.length := by
        rw [List.length_append, List.length_append, List.length_take, List.length_drop, List.length_singleton]; omega
      have hvs : VS w (room0 c0 m w) (row.zip (e.take j ++ [none] ++ e.drop (j + 1))) := by
        have := late_VS j x2
        rwa [List.append_assoc]
      try simp only [word_snoc, PD.w_ok, PD.w_exc, PD.w_ift, PD.w_iff, PD.w_c, PD.w_getK, PD.w_slt0, PD.w_slts, PD.w_set0, PD.w_sets, PD.w_wipe0, PD.w_wipes, PD.w_var, PD.w_1, PD.w_2, PD.w_nil, PD.w_cons, PD.w_app, PD.w_eif, PD.w_truK, PD.w_and, PD.w_or, PD.w_not, PD.w_call, PD.w_meth, PD.w_nonK, PD.w_make, PD.w_bm, PD.w_sl, PD.w_bNo, PD.w_intK, PD.w_bAt, PD.w_blK, PD.w_chn, PD.w_tb1, PD.w_lc, PD.w_turn, PD.w_yes, PD.w_tv, PD.w_tand, PD.w_tor, PD.w_tnot, PD.w_nm, PD.w_sub, PD.w_gnil, PD.w_gcons, PD.w_knx, PD.w_krt, PD.w_kbk, PD.w_kct, PD.w_kex, PD.w_seq, PD.w_next, PD.w_asg, PD.w_expr, PD.w_ret, PD.w_retN, PD.w_brk, PD.w_cnt, PD.w_if, PD.w_aug, PD.w_fset, PD.w_saug, PD.w_for, PD.w_while, PD.w_ie, PD.w_rt, PD.w_nx, PD.w_ex, PD.w_rg1, PD.w_rg2, PD.w_enu, PD.w_zip2, PD.w_zipT, PD.w_rgl1, PD.o_add_i, PD.o_sub_i, PD.o_lt_i, PD.o_le_i, PD.o_gt_i, PD.o_ge_i, PD.o_is_n, PD.o_is_b, PD.o_isnot_b, PD.o_isnot_n, PD.o_isn_non, PD.o_isn_int, PD.o_isn_tup, PD.o_neg_i, PD.o_tru_b, PD.o_int_i, PD.o_int_b, PD.o_len_t, PD.o_tup_t, PD.o_lst_t, PD.o_max2, PD.o_min2, PD.o_ix_0, PD.o_ix_1, PD.o_ix_2, PD.o_ix_3, PD.it_t, PD.it_r, PD.enu_t, PD.zip_t, PD.o_tup0, PD.o_tup1, PD.o_tup2, PD.o_tup3, PD.o_tup4, PD.o_lst0, PD.o_lst1, PD.o_lst2, PD.o_lst3, PD.o_lst4, PD.g_push, PD.w_lnx, PD.w_lct, PD.w_lbk, PD.w_lrt, PD.w_lex, PD.w_lcn, PD.w_lcs, PD.o_eq_s, PD.o_ne_s, PD.o_eq_i, PD.o_ne_i, PD.w_gtp2, PD.w_gtp3, PD.w_gtp4, PD.rg_map, PD.o_lstR0, PD.o_tupR0, PD.o_not_f, PD.o_not_t, PD.o_dec_tt, PD.o_nn, PD.o_ne_b, PD.o_eq_b, PD.o_bne_tf, PD.o_bne_ff, s1, s2, s3, s4]
      generalize e.take j ++ [none] ++ e.drop (j + 1) = f at *
      refine W_use (K.ie M c0 m w row f ft hlen hvs) fun d M3 hM => ?_
      obtain ⟨rfl, d2⟩ := hM
      try simp only [word_snoc, PD.w_ok, PD.w_exc, PD.w_ift, PD.w_iff, PD.w_c, PD.w_getK, PD.w_slt0, PD.w_slts, PD.w_set0, PD.w_sets, PD.w_wipe0, PD.w_wipes, PD.w_var, PD.w_1, PD.w_2, PD.w_nil, PD.w_cons, PD.w_app, PD.w_eif, PD.w_truK, PD.w_and, PD.w_or, PD.w_not, PD.w_call, PD.w_meth, PD.w_nonK, PD.w_make, PD.w_bm, PD.w_sl, PD.w_bNo, PD.w_intK, PD.w_bAt, PD.w_blK, PD.w_chn, PD.w_tb1, PD.w_lc, PD.w_turn, PD.w_yes, PD.w_tv, PD.w_tand, PD.w_tor, PD.w_tnot, PD.w_nm, PD.w_sub, PD.w_gnil, PD.w_gcons, PD.w_knx, PD.w_krt, PD.w_kbk, PD.w_kct, PD.w_kex, PD.w_seq, PD.w_next, PD.w_asg, PD.w_expr, PD.w_ret, PD.w_retN, PD.w_brk, PD.w_cnt, PD.w_if, PD.w_aug, PD.w_fset, PD.w_saug, PD.w_for, PD.w_while, PD.w_ie, PD.w_rt, PD.w_nx, PD.w_ex, PD.w_rg1, PD.w_rg2, PD.w_enu, PD.w_zip2, PD.w_zipT, PD.w_rgl1, PD.o_add_i, PD.o_sub_i, PD.o_lt_i, PD.o_le_i, PD.o_gt_i, PD.o_ge_i, PD.o_is_n, PD.o_is_b, PD.o_isnot_b, PD.o_isnot_n, PD.o_isn_non, PD.o_isn_int, PD.o_isn_tup, PD.o_neg_i, PD.o_tru_b, PD.o_int_i, PD.o_int_b, PD.o_len_t, PD.o_tup_t, PD.o_lst_t, PD.o_max2, PD.o_min2, PD.o_ix_0, PD.o_ix_1, PD.o_ix_2, PD.o_ix_3, PD.it_t, PD.it_r, PD.enu_t, PD.zip_t, PD.o_tup0, PD.o_tup1, PD.o_tup2, PD.o_tup3, PD.o_tup4, PD.o_lst0, PD.o_lst1, PD.o_lst2, PD.o_lst3, PD.o_lst4, PD.g_push, PD.w_lnx, PD.w_lct, PD.w_lbk, PD.w_lrt, PD.w_lex, PD.w_lcn, PD.w_lcs, PD.o_eq_s, PD.o_ne_s, PD.o_eq_i, PD.o_ne_i, PD.w_gtp2, PD.w_gtp3, PD.w_gtp4, PD.rg_map, PD.o_lstR0, PD.o_tupR0, PD.o_not_f, PD.o_not_t, PD.o_dec_tt, PD.o_nn, PD.o_ne_b, PD.o_eq_b, PD.o_bne_tf, PD.o_bne_ff, shb]
      refine W_use (K.lie M3 c0 m w row f ft hlen hvs) fun d M4 hM => ?_
      obtain ⟨rfl, d3⟩ := hM
      try simp only [word_snoc, PD.w_ok, PD.w_exc, PD.w_ift, PD.w_iff, PD.w_c, PD.w_getK, PD.w_slt0, PD.w_slts, PD.w_set0, PD.w_sets, PD.w_wipe0, PD.w_wipes, PD.w_var, PD.w_1, PD.w_2, PD.w_nil, PD.w_cons, PD.w_app, PD.w_eif, PD.w_truK, PD.w_and, PD.w_or, PD.w_not, PD.w_call, PD.w_meth, PD.w_nonK, PD.w_make, PD.w_bm, PD.w_sl, PD.w_bNo, PD.w_intK, PD.w_bAt, PD.w_blK, PD.w_chn, PD.w_tb1, PD.w_lc, PD.w_turn, PD.w_yes, PD.w_tv, PD.w_tand, PD.w_tor, PD.w_tnot, PD.w_nm, PD.w_sub, PD.w_gnil, PD.w_gcons, PD.w_knx, PD.w_krt, PD.w_kbk, PD.w_kct, PD.w_kex, PD.w_seq, PD.w_next, PD.w_asg, PD.w_expr, PD.w_ret, PD.w_retN, PD.w_brk, PD.w_cnt, PD.w_if, PD.w_aug, PD.w_fset, PD.w_saug, PD.w_for, PD.w_while, PD.w_ie, PD.w_rt, PD.w_nx, PD.w_ex, PD.w_rg1, PD.w_rg2, PD.w_enu, PD.w_zip2, PD.w_zipT, PD.w_rgl1, PD.o_add_i, PD.o_sub_i, PD.o_lt_i, PD.o_le_i, PD.o_gt_i, PD.o_ge_i, PD.o_is_n, PD.o_is_b, PD.o_isnot_b, PD.o_isnot_n, PD.o_isn_non, PD.o_isn_int, PD.o_isn_tup, PD.o_neg_i, PD.o_tru_b, PD.o_int_i, PD.o_int_b, PD.o_len_t, PD.o_tup_t, PD.o_lst_t, PD.o_max2, PD.o_min2, PD.o_ix_0, PD.o_ix_1, PD.o_ix_2, PD.o_ix_3, PD.it_t, PD.it_r, PD.enu_t, PD.zip_t, PD.o_tup0, PD.o_tup1, PD.o_tup2, PD.o_tup3, PD.o_tup4, PD.o_lst0, PD.o_lst1, PD.o_lst2, PD.o_lst3, PD.o_lst4, PD.g_push, PD.w_lnx, PD.w_lct, PD.w_lbk, PD.w_lrt, PD.w_lex, PD.w_lcn, PD.w_lcs, PD.o_eq_s, PD.o_ne_s, PD.o_eq_i, PD.o_ne_i, PD.w_gtp2, PD.w_gtp3, PD.w_gtp4, PD.rg_map, PD.o_lstR0, PD.o_tupR0, PD.o_not_f, PD.o_not_t, PD.o_dec_tt, PD.o_nn, PD.o_ne_b, PD.o_eq_b, PD.o_bne_tf, PD.o_bne_ff, shb, decide_true]
      exact ⟨trivial, _, _, rfl, (d1.src.gr d2).gr d3⟩
    · exact ⟨trivial, _, _, rfl, hs⟩
  clear hs
  rintro ρ L ⟨o11, o16, rfl, hs⟩
  -- c
  refine w_cut (fun ρ M => ∃ cn : Nat, ρ = [sc, some (.ref s), o2, some (yardD c0 w), some (nD m), some (rowD row), some (giftsD g), some (.str kept), some (nD k), some (.ref n), some (.ref t), o11, o12, some (giftsD e), o14, o15, o16, some (nD cn), o18] ∧ 1 ≤ cn ∧ cn ≤ 5 ∧ Src M s c) ?_ ?_
  · try simp only [word_snoc, PD.w_ok, PD.w_exc, PD.w_ift, PD.w_iff, PD.w_c, PD.w_getK, PD.w_slt0, PD.w_slts, PD.w_set0, PD.w_sets, PD.w_wipe0, PD.w_wipes, PD.w_var, PD.w_1, PD.w_2, PD.w_nil, PD.w_cons, PD.w_app, PD.w_eif, PD.w_truK, PD.w_and, PD.w_or, PD.w_not, PD.w_call, PD.w_meth, PD.w_nonK, PD.w_make, PD.w_bm, PD.w_sl, PD.w_bNo, PD.w_intK, PD.w_bAt, PD.w_blK, PD.w_chn, PD.w_tb1, PD.w_lc, PD.w_turn, PD.w_yes, PD.w_tv, PD.w_tand, PD.w_tor, PD.w_tnot, PD.w_nm, PD.w_sub, PD.w_gnil, PD.w_gcons, PD.w_knx, PD.w_krt, PD.w_kbk, PD.w_kct, PD.w_kex, PD.w_seq, PD.w_next, PD.w_asg, PD.w_expr, PD.w_ret, PD.w_retN, PD.w_brk, PD.w_cnt, PD.w_if, PD.w_aug, PD.w_fset, PD.w_saug, PD.w_for, PD.w_while, PD.w_ie, PD.w_rt, PD.w_nx, PD.w_ex, PD.w_rg1, PD.w_rg2, PD.w_enu, PD.w_zip2, PD.w_zipT, PD.w_rgl1, PD.o_add_i, PD.o_sub_i, PD.o_lt_i, PD.o_le_i, PD.o_gt_i, PD.o_ge_i, PD.o_is_n, PD.o_is_b, PD.o_isnot_b, PD.o_isnot_n, PD.o_isn_non, PD.o_isn_int, PD.o_isn_tup, PD.o_neg_i, PD.o_tru_b, PD.o_int_i, PD.o_int_b, PD.o_len_t, PD.o_tup_t, PD.o_lst_t, PD.o_max2, PD.o_min2, PD.o_ix_0, PD.o_ix_1, PD.o_ix_2, PD.o_ix_3, PD.it_t, PD.it_r, PD.enu_t, PD.zip_t, PD.o_tup0, PD.o_tup1, PD.o_tup2, PD.o_tup3, PD.o_tup4, PD.o_lst0, PD.o_lst1, PD.o_lst2, PD.o_lst3, PD.o_lst4, PD.g_push, PD.w_lnx, PD.w_lct, PD.w_lbk, PD.w_lrt, PD.w_lex, PD.w_lcn, PD.w_lcs, PD.o_eq_s, PD.o_ne_s, PD.o_eq_i, PD.o_ne_i, PD.w_gtp2, PD.w_gtp3, PD.w_gtp4, PD.rg_map, PD.o_lstR0, PD.o_tupR0, PD.o_not_f, PD.o_not_t, PD.o_dec_tt, PD.o_nn, PD.o_ne_b, PD.o_eq_b, PD.o_bne_tf, PD.o_bne_ff]
    refine W_use (K.pk s c L 5 hs (by omega)) fun d M hM => ?_
    obtain ⟨r, rfl, q0, q1, d1, l1⟩ := hM
    have er : D.int (1 + r) = nD (1 + r).toNat := by unfold nD; rw [Int.toNat_of_nonneg (by omega)]
    try simp only [word_snoc, PD.w_ok, PD.w_exc, PD.w_ift, PD.w_iff, PD.w_c, PD.w_getK, PD.w_slt0, PD.w_slts, PD.w_set0, PD.w_sets, PD.w_wipe0, PD.w_wipes, PD.w_var, PD.w_1, PD.w_2, PD.w_nil, PD.w_cons, PD.w_app, PD.w_eif, PD.w_truK, PD.w_and, PD.w_or, PD.w_not, PD.w_call, PD.w_meth, PD.w_nonK, PD.w_make, PD.w_bm, PD.w_sl, PD.w_bNo, PD.w_intK, PD.w_bAt, PD.w_blK, PD.w_chn, PD.w_tb1, PD.w_lc, PD.w_turn, PD.w_yes, PD.w_tv, PD.w_tand, PD.w_tor, PD.w_tnot, PD.w_nm, PD.w_sub, PD.w_gnil, PD.w_gcons, PD.w_knx, PD.w_krt, PD.w_kbk, PD.w_kct, PD.w_kex, PD.w_seq, PD.w_next, PD.w_asg, PD.w_expr, PD.w_ret, PD.w_retN, PD.w_brk, PD.w_cnt, PD.w_if, PD.w_aug, PD.w_fset, PD.w_saug, PD.w_for, PD.w_while, PD.w_ie, PD.w_rt, PD.w_nx, PD.w_ex, PD.w_rg1, PD.w_rg2, PD.w_enu, PD.w_zip2, PD.w_zipT, PD.w_rgl1, PD.o_add_i, PD.o_sub_i, PD.o_lt_i, PD.o_le_i, PD.o_gt_i, PD.o_ge_i, PD.o_is_n, PD.o_is_b, PD.o_isnot_b, PD.o_isnot_n, PD.o_isn_non, PD.o_isn_int, PD.o_isn_tup, PD.o_neg_i, PD.o_tru_b, PD.o_int_i, PD.o_int_b, PD.o_len_t, PD.o_tup_t, PD.o_lst_t, PD.o_max2, PD.o_min2, PD.o_ix_0, PD.o_ix_1, PD.o_ix_2, PD.o_ix_3, PD.it_t, PD.it_r, PD.enu_t, PD.zip_t, PD.o_tup0, PD.o_tup1, PD.o_tup2, PD.o_tup3, PD.o_tup4, PD.o_lst0, PD.o_lst1, PD.o_lst2, PD.o_lst3, PD.o_lst4, PD.g_push, PD.w_lnx, PD.w_lct, PD.w_lbk, PD.w_lrt, PD.w_lex, PD.w_lcn, PD.w_lcs, PD.o_eq_s, PD.o_ne_s, PD.o_eq_i, PD.o_ne_i, PD.w_gtp2, PD.w_gtp3, PD.w_gtp4, PD.rg_map, PD.o_lstR0, PD.o_tupR0, PD.o_not_f, PD.o_not_t, PD.o_dec_tt, PD.o_nn, PD.o_ne_b, PD.o_eq_b, PD.o_bne_tf, PD.o_bne_ff]
    exact ⟨trivial, (1 + r).toNat, by rw [er], by omega, by omega, d1.src⟩
  clear hs
  rintro ρ L ⟨cn, rfl, n1, n2, hs⟩
  have f1 : (m : Int) + 1 = ((m + 1 : Nat) : Int) := rfl
  -- houses
  refine w_cut (fun ρ M => ρ = [sc, some (.ref s), o2, some (yardD c0 w), some (nD m), some (rowD row), some (giftsD g), some (.str kept), some (nD k), some (.ref n), some (.ref t), o11, o12, some (giftsD e), o14, o15, o16, some (nD cn), some (reqD (List.range (m + 1)))] ∧ Src M s c) ?_ ?_
  · try simp only [word_snoc, PD.w_ok, PD.w_exc, PD.w_ift, PD.w_iff, PD.w_c, PD.w_getK, PD.w_slt0, PD.w_slts, PD.w_set0, PD.w_sets, PD.w_wipe0, PD.w_wipes, PD.w_var, PD.w_1, PD.w_2, PD.w_nil, PD.w_cons, PD.w_app, PD.w_eif, PD.w_truK, PD.w_and, PD.w_or, PD.w_not, PD.w_call, PD.w_meth, PD.w_nonK, PD.w_make, PD.w_bm, PD.w_sl, PD.w_bNo, PD.w_intK, PD.w_bAt, PD.w_blK, PD.w_chn, PD.w_tb1, PD.w_lc, PD.w_turn, PD.w_yes, PD.w_tv, PD.w_tand, PD.w_tor, PD.w_tnot, PD.w_nm, PD.w_sub, PD.w_gnil, PD.w_gcons, PD.w_knx, PD.w_krt, PD.w_kbk, PD.w_kct, PD.w_kex, PD.w_seq, PD.w_next, PD.w_asg, PD.w_expr, PD.w_ret, PD.w_retN, PD.w_brk, PD.w_cnt, PD.w_if, PD.w_aug, PD.w_fset, PD.w_saug, PD.w_for, PD.w_while, PD.w_ie, PD.w_rt, PD.w_nx, PD.w_ex, PD.w_rg1, PD.w_rg2, PD.w_enu, PD.w_zip2, PD.w_zipT, PD.w_rgl1, PD.o_add_i, PD.o_sub_i, PD.o_lt_i, PD.o_le_i, PD.o_gt_i, PD.o_ge_i, PD.o_is_n, PD.o_is_b, PD.o_isnot_b, PD.o_isnot_n, PD.o_isn_non, PD.o_isn_int, PD.o_isn_tup, PD.o_neg_i, PD.o_tru_b, PD.o_int_i, PD.o_int_b, PD.o_len_t, PD.o_tup_t, PD.o_lst_t, PD.o_max2, PD.o_min2, PD.o_ix_0, PD.o_ix_1, PD.o_ix_2, PD.o_ix_3, PD.it_t, PD.it_r, PD.enu_t, PD.zip_t, PD.o_tup0, PD.o_tup1, PD.o_tup2, PD.o_tup3, PD.o_tup4, PD.o_lst0, PD.o_lst1, PD.o_lst2, PD.o_lst3, PD.o_lst4, PD.g_push, PD.w_lnx, PD.w_lct, PD.w_lbk, PD.w_lrt, PD.w_lex, PD.w_lcn, PD.w_lcs, PD.o_eq_s, PD.o_ne_s, PD.o_eq_i, PD.o_ne_i, PD.w_gtp2, PD.w_gtp3, PD.w_gtp4, PD.rg_map, PD.o_lstR0, PD.o_tupR0, PD.o_not_f, PD.o_not_t, PD.o_dec_tt, PD.o_nn, PD.o_ne_b, PD.o_eq_b, PD.o_bne_tf, PD.o_bne_ff, f1]
    refine ⟨rgOk_of (by omega), ?_⟩
    have gq : (L.push (nL (List.range (m + 1)))).get L.len = some (nL (List.range (m + 1))) := g_push
    try simp only [word_snoc, PD.w_ok, PD.w_exc, PD.w_ift, PD.w_iff, PD.w_c, PD.w_getK, PD.w_slt0, PD.w_slts, PD.w_set0, PD.w_sets, PD.w_wipe0, PD.w_wipes, PD.w_var, PD.w_1, PD.w_2, PD.w_nil, PD.w_cons, PD.w_app, PD.w_eif, PD.w_truK, PD.w_and, PD.w_or, PD.w_not, PD.w_call, PD.w_meth, PD.w_nonK, PD.w_make, PD.w_bm, PD.w_sl, PD.w_bNo, PD.w_intK, PD.w_bAt, PD.w_blK, PD.w_chn, PD.w_tb1, PD.w_lc, PD.w_turn, PD.w_yes, PD.w_tv, PD.w_tand, PD.w_tor, PD.w_tnot, PD.w_nm, PD.w_sub, PD.w_gnil, PD.w_gcons, PD.w_knx, PD.w_krt, PD.w_kbk, PD.w_kct, PD.w_kex, PD.w_seq, PD.w_next, PD.w_asg, PD.w_expr, PD.w_ret, PD.w_retN, PD.w_brk, PD.w_cnt, PD.w_if, PD.w_aug, PD.w_fset, PD.w_saug, PD.w_for, PD.w_while, PD.w_ie, PD.w_rt, PD.w_nx, PD.w_ex, PD.w_rg1, PD.w_rg2, PD.w_enu, PD.w_zip2, PD.w_zipT, PD.w_rgl1, PD.o_add_i, PD.o_sub_i, PD.o_lt_i, PD.o_le_i, PD.o_gt_i, PD.o_ge_i, PD.o_is_n, PD.o_is_b, PD.o_isnot_b, PD.o_isnot_n, PD.o_isn_non, PD.o_isn_int, PD.o_isn_tup, PD.o_neg_i, PD.o_tru_b, PD.o_int_i, PD.o_int_b, PD.o_len_t, PD.o_tup_t, PD.o_lst_t, PD.o_max2, PD.o_min2, PD.o_ix_0, PD.o_ix_1, PD.o_ix_2, PD.o_ix_3, PD.it_t, PD.it_r, PD.enu_t, PD.zip_t, PD.o_tup0, PD.o_tup1, PD.o_tup2, PD.o_tup3, PD.o_tup4, PD.o_lst0, PD.o_lst1, PD.o_lst2, PD.o_lst3, PD.o_lst4, PD.g_push, PD.w_lnx, PD.w_lct, PD.w_lbk, PD.w_lrt, PD.w_lex, PD.w_lcn, PD.w_lcs, PD.o_eq_s, PD.o_ne_s, PD.o_eq_i, PD.o_ne_i, PD.w_gtp2, PD.w_gtp3, PD.w_gtp4, PD.rg_map, PD.o_lstR0, PD.o_tupR0, PD.o_not_f, PD.o_not_t, PD.o_dec_tt, PD.o_nn, PD.o_ne_b, PD.o_eq_b, PD.o_bne_tf, PD.o_bne_ff, o_tup_l gq]
    exact ⟨trivial, trivial, hs.gr (Gr.refl.push _)⟩
  clear hs
  rintro ρ L ⟨rfl, hs⟩
  refine w_cut (fun ρ M => ρ = [sc, some (.ref s), o2, some (yardD c0 w), some (nD m), some (rowD row), some (giftsD g), some (.str kept), some (nD k), some (.ref n), some (.ref t), o11, o12, some (giftsD e), o14, o15, o16, some (nD cn), some (reqD (List.range (m + 1)))] ∧ Src M s c) ?_ ?_
  · have q : m * cn ≤ 9 * 9 := Nat.mul_le_mul (by omega) (by omega)
    have q1 : 1 ≤ m * cn := Nat.mul_pos m1 n1
    have t2 : ∀ H : LH, oMul (nD m) (nD cn) H = .ok (nD (m * cn)) H := fun H => by
      rw [o_mul_i (.inl (by unfold big64; omega))]
      unfold nD; rw [Int.natCast_mul]
    have t3 : ∀ H : LH, oMul (.tup [.int 1]) (nD (m + 1)) H = .ok (.tup (List.replicate (m + 1) (.int 1))) H := fun H => mul_t1 (by omega) (by omega)
    have t4 : ∀ H : LH, oMul (.tup [reqD (List.range (m + 1))]) (nD (m * cn)) H = .ok (.tup (List.replicate (m * cn) (reqD (List.range (m + 1))))) H := fun H => mul_t1 q1 (by omega)
    have t5 : ∀ H : LH, oMul (.tup [.tup [.int 0]]) (nD cn) H = .ok (.tup (List.replicate cn (.tup [.int 0]))) H := fun H => mul_t1 n1 (by omega)
    have t6 : ∀ H : LH, oAdd (.tup (List.replicate (m * cn) (reqD (List.range (m + 1))))) (.tup (List.replicate cn (.tup [.int 0]))) H = .ok (.tup (List.replicate (m * cn) (reqD (List.range (m + 1))) ++ List.replicate cn (.tup [.int 0]))) H := fun H => o_add_t (by rw [List.length_replicate, List.length_replicate]; exact sz_of (by omega))
    have t7 : ∀ H : LH, bReprO [bareD m cn] H = .ok (.str (bareP m cn).shown) H := fun H => (bareSh (by omega) (by omega)).repr (by omega) (by omega)
    try simp only [word_snoc, PD.w_ok, PD.w_exc, PD.w_ift, PD.w_iff, PD.w_c, PD.w_getK, PD.w_slt0, PD.w_slts, PD.w_set0, PD.w_sets, PD.w_wipe0, PD.w_wipes, PD.w_var, PD.w_1, PD.w_2, PD.w_nil, PD.w_cons, PD.w_app, PD.w_eif, PD.w_truK, PD.w_and, PD.w_or, PD.w_not, PD.w_call, PD.w_meth, PD.w_nonK, PD.w_make, PD.w_bm, PD.w_sl, PD.w_bNo, PD.w_intK, PD.w_bAt, PD.w_blK, PD.w_chn, PD.w_tb1, PD.w_lc, PD.w_turn, PD.w_yes, PD.w_tv, PD.w_tand, PD.w_tor, PD.w_tnot, PD.w_nm, PD.w_sub, PD.w_gnil, PD.w_gcons, PD.w_knx, PD.w_krt, PD.w_kbk, PD.w_kct, PD.w_kex, PD.w_seq, PD.w_next, PD.w_asg, PD.w_expr, PD.w_ret, PD.w_retN, PD.w_brk, PD.w_cnt, PD.w_if, PD.w_aug, PD.w_fset, PD.w_saug, PD.w_for, PD.w_while, PD.w_ie, PD.w_rt, PD.w_nx, PD.w_ex, PD.w_rg1, PD.w_rg2, PD.w_enu, PD.w_zip2, PD.w_zipT, PD.w_rgl1, PD.o_add_i, PD.o_sub_i, PD.o_lt_i, PD.o_le_i, PD.o_gt_i, PD.o_ge_i, PD.o_is_n, PD.o_is_b, PD.o_isnot_b, PD.o_isnot_n, PD.o_isn_non, PD.o_isn_int, PD.o_isn_tup, PD.o_neg_i, PD.o_tru_b, PD.o_int_i, PD.o_int_b, PD.o_len_t, PD.o_tup_t, PD.o_lst_t, PD.o_max2, PD.o_min2, PD.o_ix_0, PD.o_ix_1, PD.o_ix_2, PD.o_ix_3, PD.it_t, PD.it_r, PD.enu_t, PD.zip_t, PD.o_tup0, PD.o_tup1, PD.o_tup2, PD.o_tup3, PD.o_tup4, PD.o_lst0, PD.o_lst1, PD.o_lst2, PD.o_lst3, PD.o_lst4, PD.g_push, PD.w_lnx, PD.w_lct, PD.w_lbk, PD.w_lrt, PD.w_lex, PD.w_lcn, PD.w_lcs, PD.o_eq_s, PD.o_ne_s, PD.o_eq_i, PD.o_ne_i, PD.w_gtp2, PD.w_gtp3, PD.w_gtp4, PD.rg_map, PD.o_lstR0, PD.o_tupR0, PD.o_not_f, PD.o_not_t, PD.o_dec_tt, PD.o_nn, PD.o_ne_b, PD.o_eq_b, PD.o_bne_tf, PD.o_bne_ff]
    refine W_use (K.br L m cn (by omega) (by omega) (by omega) (by omega)) fun d M hM => ?_
    obtain ⟨rfl, rfl⟩ := hM
    try simp only [word_snoc, PD.w_ok, PD.w_exc, PD.w_ift, PD.w_iff, PD.w_c, PD.w_getK, PD.w_slt0, PD.w_slts, PD.w_set0, PD.w_sets, PD.w_wipe0, PD.w_wipes, PD.w_var, PD.w_1, PD.w_2, PD.w_nil, PD.w_cons, PD.w_app, PD.w_eif, PD.w_truK, PD.w_and, PD.w_or, PD.w_not, PD.w_call, PD.w_meth, PD.w_nonK, PD.w_make, PD.w_bm, PD.w_sl, PD.w_bNo, PD.w_intK, PD.w_bAt, PD.w_blK, PD.w_chn, PD.w_tb1, PD.w_lc, PD.w_turn, PD.w_yes, PD.w_tv, PD.w_tand, PD.w_tor, PD.w_tnot, PD.w_nm, PD.w_sub, PD.w_gnil, PD.w_gcons, PD.w_knx, PD.w_krt, PD.w_kbk, PD.w_kct, PD.w_kex, PD.w_seq, PD.w_next, PD.w_asg, PD.w_expr, PD.w_ret, PD.w_retN, PD.w_brk, PD.w_cnt, PD.w_if, PD.w_aug, PD.w_fset, PD.w_saug, PD.w_for, PD.w_while, PD.w_ie, PD.w_rt, PD.w_nx, PD.w_ex, PD.w_rg1, PD.w_rg2, PD.w_enu, PD.w_zip2, PD.w_zipT, PD.w_rgl1, PD.o_add_i, PD.o_sub_i, PD.o_lt_i, PD.o_le_i, PD.o_gt_i, PD.o_ge_i, PD.o_is_n, PD.o_is_b, PD.o_isnot_b, PD.o_isnot_n, PD.o_isn_non, PD.o_isn_int, PD.o_isn_tup, PD.o_neg_i, PD.o_tru_b, PD.o_int_i, PD.o_int_b, PD.o_len_t, PD.o_tup_t, PD.o_lst_t, PD.o_max2, PD.o_min2, PD.o_ix_0, PD.o_ix_1, PD.o_ix_2, PD.o_ix_3, PD.it_t, PD.it_r, PD.enu_t, PD.zip_t, PD.o_tup0, PD.o_tup1, PD.o_tup2, PD.o_tup3, PD.o_tup4, PD.o_lst0, PD.o_lst1, PD.o_lst2, PD.o_lst3, PD.o_lst4, PD.g_push, PD.w_lnx, PD.w_lct, PD.w_lbk, PD.w_lrt, PD.w_lex, PD.w_lcn, PD.w_lcs, PD.o_eq_s, PD.o_ne_s, PD.o_eq_i, PD.o_ne_i, PD.w_gtp2, PD.w_gtp3, PD.w_gtp4, PD.rg_map, PD.o_lstR0, PD.o_tupR0, PD.o_not_f, PD.o_not_t, PD.o_dec_tt, PD.o_nn, PD.o_ne_b, PD.o_eq_b, PD.o_bne_tf, PD.o_bne_ff, f1, t2, t3, t4, t5, t6, t7]
    rw [show (D.tup [.tup [.int (cn : Int), .tup (List.replicate (m + 1) (.int 1))], .tup (List.replicate (m * cn) (reqD (List.range (m + 1))) ++ List.replicate cn (.tup [.int 0]))]) = bareD m cn from rfl]
    try simp only [word_snoc, PD.w_ok, PD.w_exc, PD.w_ift, PD.w_iff, PD.w_c, PD.w_getK, PD.w_slt0, PD.w_slts, PD.w_set0, PD.w_sets, PD.w_wipe0, PD.w_wipes, PD.w_var, PD.w_1, PD.w_2, PD.w_nil, PD.w_cons, PD.w_app, PD.w_eif, PD.w_truK, PD.w_and, PD.w_or, PD.w_not, PD.w_call, PD.w_meth, PD.w_nonK, PD.w_make, PD.w_bm, PD.w_sl, PD.w_bNo, PD.w_intK, PD.w_bAt, PD.w_blK, PD.w_chn, PD.w_tb1, PD.w_lc, PD.w_turn, PD.w_yes, PD.w_tv, PD.w_tand, PD.w_tor, PD.w_tnot, PD.w_nm, PD.w_sub, PD.w_gnil, PD.w_gcons, PD.w_knx, PD.w_krt, PD.w_kbk, PD.w_kct, PD.w_kex, PD.w_seq, PD.w_next, PD.w_asg, PD.w_expr, PD.w_ret, PD.w_retN, PD.w_brk, PD.w_cnt, PD.w_if, PD.w_aug, PD.w_fset, PD.w_saug, PD.w_for, PD.w_while, PD.w_ie, PD.w_rt, PD.w_nx, PD.w_ex, PD.w_rg1, PD.w_rg2, PD.w_enu, PD.w_zip2, PD.w_zipT, PD.w_rgl1, PD.o_add_i, PD.o_sub_i, PD.o_lt_i, PD.o_le_i, PD.o_gt_i, PD.o_ge_i, PD.o_is_n, PD.o_is_b, PD.o_isnot_b, PD.o_isnot_n, PD.o_isn_non, PD.o_isn_int, PD.o_isn_tup, PD.o_neg_i, PD.o_tru_b, PD.o_int_i, PD.o_int_b, PD.o_len_t, PD.o_tup_t, PD.o_lst_t, PD.o_max2, PD.o_min2, PD.o_ix_0, PD.o_ix_1, PD.o_ix_2, PD.o_ix_3, PD.it_t, PD.it_r, PD.enu_t, PD.zip_t, PD.o_tup0, PD.o_tup1, PD.o_tup2, PD.o_tup3, PD.o_tup4, PD.o_lst0, PD.o_lst1, PD.o_lst2, PD.o_lst3, PD.o_lst4, PD.g_push, PD.w_lnx, PD.w_lct, PD.w_lbk, PD.w_lrt, PD.w_lex, PD.w_lcn, PD.w_lcs, PD.o_eq_s, PD.o_ne_s, PD.o_eq_i, PD.o_ne_i, PD.w_gtp2, PD.w_gtp3, PD.w_gtp4, PD.rg_map, PD.o_lstR0, PD.o_tupR0, PD.o_not_f, PD.o_not_t, PD.o_dec_tt, PD.o_nn, PD.o_ne_b, PD.o_eq_b, PD.o_bne_tf, PD.o_bne_ff, t7, decide_true]
    exact ⟨trivial, trivial, hs⟩
  clear hs
  rintro ρ L ⟨rfl, hs⟩
  rw [w_next]
  exact hS _ _ _ _ _ _ _ _ _ _ _ _ _ _ _ _ _ _ hs
end
end EG
/-! E12: the law k71. -/
namespace EG
open PySem PD
section
variable {F : Nat → Option Fn} {fg br pk ie lie ag eg rn : Nat} {tb : List (Nat × Nat)} {cc ii lf rw yd src ig of mx i : Nat} {cs : List Nat}
theorem kit71 (hc : cs.contains cc = true) (ht : tb.lookup cc = some ig) (h1 : F fg = some (first_gifts_fn tb cc ii)) (h2 : F br = some bare_row_fn) (h3 : F pk = some pickFn) (h4 : F ie = some is_eager_fn) (h5 : F lie = some law_is_eager_fn) (h6 : F ag = some (law_any_gifts_fn pk of)) (h7 : F eg = some (law_eager_fn of)) (h8 : F rn = some (run_fn tb)) (h9 : F ii = some (FirstGiver__init_fn cs)) (h10 : F lf = some law_first_fn) (h11 : F rw = some (law_row_fn pk of mx)) (h12 : F yd = some (law_yard_fn pk)) (h13 : F ig = some (FirstGiver_give_fn cs)) (h14 : F of = some (of_fn pk)) (h15 : F mx = some (mixedFn pk)) :
    From F 3 fun R => Kit R fg br pk ie lie ag eg rn tb cc ii lf rw yd ig := fun n =>
  ⟨(firstsOk hc h1 h9 h13 ht).mono (by omega) n, (bareOk h2).mono (by omega) n, (pickOk h3).mono (by omega) n, (eagOk h4).mono (by omega) n, (lawEagOk h5).mono (by omega) n, anyOk h6 h3 h14 n, eagerOk h7 h3 h14 n, (runOk hc h8 h13 ht).mono (by omega) n, (madeOk hc h9).mono (by omega) n, (firstOk h10).mono (by omega) n, rowOk h11 h3 h14 h15 n, (yardOk h12 h3).mono (by omega) n, (giveOk hc h13).mono (by omega) n, ht⟩
theorem fix_ok : AllS (B1 [2, 5, 5]) (room0 1 1 [2, 5, 5]) ([[0, 1, 2], [0, 1, 2], [0, 1, 2], [1, 2]].zip [some 1, some 2, some 0, none]) :=
  ⟨⟨by decide, by decide⟩, ⟨by decide, by decide⟩, ⟨by decide, by decide⟩, show rooms (dec1 (dec1 (dec1 (room0 1 1 [2, 5, 5]) (some 1)) (some 2)) (some 0)) [1, 2] = [] by decide, trivial⟩
theorem fix_fit : Fit 1 1 [2, 5, 5] [[0, 1, 2], [0, 1, 2], [0, 1, 2], [1, 2]] := ⟨by decide, by decide, by decide, by decide, by decide, by decide, by unfold Req; decide, by decide⟩
theorem law71 (h : F i = some (law_fn fg br pk ie lie ag eg rn tb cc ii lf rw yd src)) (hk : From F 3 fun R => Kit R fg br pk ie lie ag eg rn tb cc ii lf rw yd ig) (hs : F src = some sourceFn) (n : Nat) (ns : List Int) (hl : ns.length ≤ 63) :
    W (PD.runN F (n + 4) i [.rol (ns.map D.int)] LH.nil) (fun d M => d = .bl true) nX := by
  have K := hk n
  have SO := (sourceOk hs).mono (show 1 ≤ 3 by omega) n
  rw [W_runN h rfl]
  unfold law_fn
  show WS _ _ [some (.rol (ns.map D.int)), none, none, none, none, none, none, none, none, none, none, none, none, none, none, none, none, none, none] _ _ _
  generalize PD.runN F (n + 3) = R at *
  refine w_cut (fun ρ M => ∃ s c : Nat, ρ = [some (.rol (ns.map D.int)), some (.ref s), none, none, none, none, none, none, none, none, none, none, none, none, none, none, none, none, none] ∧ Src M s c) ?_ ?_
  · try simp only [word_snoc, PD.w_ok, PD.w_exc, PD.w_ift, PD.w_iff, PD.w_c, PD.w_getK, PD.w_slt0, PD.w_slts, PD.w_set0, PD.w_sets, PD.w_wipe0, PD.w_wipes, PD.w_var, PD.w_1, PD.w_2, PD.w_nil, PD.w_cons, PD.w_app, PD.w_eif, PD.w_truK, PD.w_and, PD.w_or, PD.w_not, PD.w_call, PD.w_meth, PD.w_nonK, PD.w_make, PD.w_bm, PD.w_sl, PD.w_bNo, PD.w_intK, PD.w_bAt, PD.w_blK, PD.w_chn, PD.w_tb1, PD.w_lc, PD.w_turn, PD.w_yes, PD.w_tv, PD.w_tand, PD.w_tor, PD.w_tnot, PD.w_nm, PD.w_sub, PD.w_gnil, PD.w_gcons, PD.w_knx, PD.w_krt, PD.w_kbk, PD.w_kct, PD.w_kex, PD.w_seq, PD.w_next, PD.w_asg, PD.w_expr, PD.w_ret, PD.w_retN, PD.w_brk, PD.w_cnt, PD.w_if, PD.w_aug, PD.w_fset, PD.w_saug, PD.w_for, PD.w_while, PD.w_ie, PD.w_rt, PD.w_nx, PD.w_ex, PD.w_rg1, PD.w_rg2, PD.w_enu, PD.w_zip2, PD.w_zipT, PD.w_rgl1, PD.o_add_i, PD.o_sub_i, PD.o_lt_i, PD.o_le_i, PD.o_gt_i, PD.o_ge_i, PD.o_is_n, PD.o_is_b, PD.o_isnot_b, PD.o_isnot_n, PD.o_isn_non, PD.o_isn_int, PD.o_isn_tup, PD.o_neg_i, PD.o_tru_b, PD.o_int_i, PD.o_int_b, PD.o_len_t, PD.o_tup_t, PD.o_lst_t, PD.o_max2, PD.o_min2, PD.o_ix_0, PD.o_ix_1, PD.o_ix_2, PD.o_ix_3, PD.it_t, PD.it_r, PD.enu_t, PD.zip_t, PD.o_tup0, PD.o_tup1, PD.o_tup2, PD.o_tup3, PD.o_tup4, PD.o_lst0, PD.o_lst1, PD.o_lst2, PD.o_lst3, PD.o_lst4, PD.g_push, PD.w_lnx, PD.w_lct, PD.w_lbk, PD.w_lrt, PD.w_lex, PD.w_lcn, PD.w_lcs, PD.o_eq_s, PD.o_ne_s, PD.o_eq_i, PD.o_ne_i, PD.w_gtp2, PD.w_gtp3, PD.w_gtp4, PD.rg_map, PD.o_lstR0, PD.o_tupR0, PD.o_not_f, PD.o_not_t, PD.o_dec_tt, PD.o_nn, PD.o_ne_b, PD.o_eq_b, PD.o_bne_tf, PD.o_bne_ff]
    refine W_use (SO ns LH.nil (by omega)) fun d M hM => ?_
    obtain ⟨s, c, rfl, _, _, _, h1⟩ := hM
    try simp only [word_snoc, PD.w_ok, PD.w_exc, PD.w_ift, PD.w_iff, PD.w_c, PD.w_getK, PD.w_slt0, PD.w_slts, PD.w_set0, PD.w_sets, PD.w_wipe0, PD.w_wipes, PD.w_var, PD.w_1, PD.w_2, PD.w_nil, PD.w_cons, PD.w_app, PD.w_eif, PD.w_truK, PD.w_and, PD.w_or, PD.w_not, PD.w_call, PD.w_meth, PD.w_nonK, PD.w_make, PD.w_bm, PD.w_sl, PD.w_bNo, PD.w_intK, PD.w_bAt, PD.w_blK, PD.w_chn, PD.w_tb1, PD.w_lc, PD.w_turn, PD.w_yes, PD.w_tv, PD.w_tand, PD.w_tor, PD.w_tnot, PD.w_nm, PD.w_sub, PD.w_gnil, PD.w_gcons, PD.w_knx, PD.w_krt, PD.w_kbk, PD.w_kct, PD.w_kex, PD.w_seq, PD.w_next, PD.w_asg, PD.w_expr, PD.w_ret, PD.w_retN, PD.w_brk, PD.w_cnt, PD.w_if, PD.w_aug, PD.w_fset, PD.w_saug, PD.w_for, PD.w_while, PD.w_ie, PD.w_rt, PD.w_nx, PD.w_ex, PD.w_rg1, PD.w_rg2, PD.w_enu, PD.w_zip2, PD.w_zipT, PD.w_rgl1, PD.o_add_i, PD.o_sub_i, PD.o_lt_i, PD.o_le_i, PD.o_gt_i, PD.o_ge_i, PD.o_is_n, PD.o_is_b, PD.o_isnot_b, PD.o_isnot_n, PD.o_isn_non, PD.o_isn_int, PD.o_isn_tup, PD.o_neg_i, PD.o_tru_b, PD.o_int_i, PD.o_int_b, PD.o_len_t, PD.o_tup_t, PD.o_lst_t, PD.o_max2, PD.o_min2, PD.o_ix_0, PD.o_ix_1, PD.o_ix_2, PD.o_ix_3, PD.it_t, PD.it_r, PD.enu_t, PD.zip_t, PD.o_tup0, PD.o_tup1, PD.o_tup2, PD.o_tup3, PD.o_tup4, PD.o_lst0, PD.o_lst1, PD.o_lst2, PD.o_lst3, PD.o_lst4, PD.g_push, PD.w_lnx, PD.w_lct, PD.w_lbk, PD.w_lrt, PD.w_lex, PD.w_lcn, PD.w_lcs, PD.o_eq_s, PD.o_ne_s, PD.o_eq_i, PD.o_ne_i, PD.w_gtp2, PD.w_gtp3, PD.w_gtp4, PD.rg_map, PD.o_lstR0, PD.o_tupR0, PD.o_not_f, PD.o_not_t, PD.o_dec_tt, PD.o_nn, PD.o_ne_b, PD.o_eq_b, PD.o_bne_tf, PD.o_bne_ff]
    exact ⟨trivial, s, c, rfl, h1⟩
  rintro ρ L ⟨s, c, rfl, hs⟩
  refine w_cut (fun ρ M => ∃ o2 o3 o4 o5 o6 o7 o8 o9 o10 o11 o12 o13 o14 o15 o16 o17 o18, ρ = [some (.rol (ns.map D.int)), some (.ref s), o2, o3, o4, o5, o6, o7, o8, o9, o10, o11, o12, o13, o14, o15, o16, o17, o18] ∧ Src M s c) ?_ ?_
  · rw [w_for, w_rg1, w_c, w_intK]
    refine ⟨in62_of (by omega) (by omega), ?_⟩
    rw [rg_map]
    refine forW (fun p ρ M => ∃ o2 o3 o4 o5 o6 o7 o8 o9 o10 o11 o12 o13 o14 o15 o16 o17 o18, ρ = [some (.rol (ns.map D.int)), some (.ref s), o2, o3, o4, o5, o6, o7, o8, o9, o10, o11, o12, o13, o14, o15, o16, o17, o18] ∧ Src M s c) ⟨_, _, _, _, _, _, _, _, _, _, _, _, _, _, _, _, _, rfl, hs⟩ ?_ ?_
    · rintro p a q ρ M _ ⟨o2, o3, o4, o5, o6, o7, o8, o9, o10, o11, o12, o13, o14, o15, o16, o17, o18, rfl, hs⟩
      rw [w_nm]
      exact lap_ok K hs fun o2 o3 o4 o5 o6 o7 o8 o9 o10 o11 o12 o13 o14 o15 o16 o17 o18 M hs => ⟨_, _, _, _, _, _, _, _, _, _, _, _, _, _, _, _, _, rfl, hs⟩
    · rintro ρ M h
      exact ⟨rfl, h⟩
  rintro ρ L ⟨o2, o3, o4, o5, o6, o7, o8, o9, o10, o11, o12, o13, o14, o15, o16, o17, o18, rfl, hs⟩
  try simp only [word_snoc, PD.w_ok, PD.w_exc, PD.w_ift, PD.w_iff, PD.w_c, PD.w_getK, PD.w_slt0, PD.w_slts, PD.w_set0, PD.w_sets, PD.w_wipe0, PD.w_wipes, PD.w_var, PD.w_1, PD.w_2, PD.w_nil, PD.w_cons, PD.w_app, PD.w_eif, PD.w_truK, PD.w_and, PD.w_or, PD.w_not, PD.w_call, PD.w_meth, PD.w_nonK, PD.w_make, PD.w_bm, PD.w_sl, PD.w_bNo, PD.w_intK, PD.w_bAt, PD.w_blK, PD.w_chn, PD.w_tb1, PD.w_lc, PD.w_turn, PD.w_yes, PD.w_tv, PD.w_tand, PD.w_tor, PD.w_tnot, PD.w_nm, PD.w_sub, PD.w_gnil, PD.w_gcons, PD.w_knx, PD.w_krt, PD.w_kbk, PD.w_kct, PD.w_kex, PD.w_seq, PD.w_next, PD.w_asg, PD.w_expr, PD.w_ret, PD.w_retN, PD.w_brk, PD.w_cnt, PD.w_if, PD.w_aug, PD.w_fset, PD.w_saug, PD.w_for, PD.w_while, PD.w_ie, PD.w_rt, PD.w_nx, PD.w_ex, PD.w_rg1, PD.w_rg2, PD.w_enu, PD.w_zip2, PD.w_zipT, PD.w_rgl1, PD.o_add_i, PD.o_sub_i, PD.o_lt_i, PD.o_le_i, PD.o_gt_i, PD.o_ge_i, PD.o_is_n, PD.o_is_b, PD.o_isnot_b, PD.o_isnot_n, PD.o_isn_non, PD.o_isn_int, PD.o_isn_tup, PD.o_neg_i, PD.o_tru_b, PD.o_int_i, PD.o_int_b, PD.o_len_t, PD.o_tup_t, PD.o_lst_t, PD.o_max2, PD.o_min2, PD.o_ix_0, PD.o_ix_1, PD.o_ix_2, PD.o_ix_3, PD.it_t, PD.it_r, PD.enu_t, PD.zip_t, PD.o_tup0, PD.o_tup1, PD.o_tup2, PD.o_tup3, PD.o_tup4, PD.o_lst0, PD.o_lst1, PD.o_lst2, PD.o_lst3, PD.o_lst4, PD.g_push, PD.w_lnx, PD.w_lct, PD.w_lbk, PD.w_lrt, PD.w_lex, PD.w_lcn, PD.w_lcs, PD.o_eq_s, PD.o_ne_s, PD.o_eq_i, PD.o_ne_i, PD.w_gtp2, PD.w_gtp3, PD.w_gtp4, PD.rg_map, PD.o_lstR0, PD.o_tupR0, PD.o_not_f, PD.o_not_t, PD.o_dec_tt, PD.o_nn, PD.o_ne_b, PD.o_eq_b, PD.o_bne_tf, PD.o_bne_ff]
  refine W_use (K.fg L 1 1 [2, 5, 5] [[0, 1, 2], [0, 1, 2], [0, 1, 2], [1, 2]] fix_fit) fun d M hM => ?_
  obtain ⟨g, rfl, q1, q2, d1⟩ := hM
  have := first_uniq q1 rfl q2 fix_ok
  subst this
  try simp only [word_snoc, PD.w_ok, PD.w_exc, PD.w_ift, PD.w_iff, PD.w_c, PD.w_getK, PD.w_slt0, PD.w_slts, PD.w_set0, PD.w_sets, PD.w_wipe0, PD.w_wipes, PD.w_var, PD.w_1, PD.w_2, PD.w_nil, PD.w_cons, PD.w_app, PD.w_eif, PD.w_truK, PD.w_and, PD.w_or, PD.w_not, PD.w_call, PD.w_meth, PD.w_nonK, PD.w_make, PD.w_bm, PD.w_sl, PD.w_bNo, PD.w_intK, PD.w_bAt, PD.w_blK, PD.w_chn, PD.w_tb1, PD.w_lc, PD.w_turn, PD.w_yes, PD.w_tv, PD.w_tand, PD.w_tor, PD.w_tnot, PD.w_nm, PD.w_sub, PD.w_gnil, PD.w_gcons, PD.w_knx, PD.w_krt, PD.w_kbk, PD.w_kct, PD.w_kex, PD.w_seq, PD.w_next, PD.w_asg, PD.w_expr, PD.w_ret, PD.w_retN, PD.w_brk, PD.w_cnt, PD.w_if, PD.w_aug, PD.w_fset, PD.w_saug, PD.w_for, PD.w_while, PD.w_ie, PD.w_rt, PD.w_nx, PD.w_ex, PD.w_rg1, PD.w_rg2, PD.w_enu, PD.w_zip2, PD.w_zipT, PD.w_rgl1, PD.o_add_i, PD.o_sub_i, PD.o_lt_i, PD.o_le_i, PD.o_gt_i, PD.o_ge_i, PD.o_is_n, PD.o_is_b, PD.o_isnot_b, PD.o_isnot_n, PD.o_isn_non, PD.o_isn_int, PD.o_isn_tup, PD.o_neg_i, PD.o_tru_b, PD.o_int_i, PD.o_int_b, PD.o_len_t, PD.o_tup_t, PD.o_lst_t, PD.o_max2, PD.o_min2, PD.o_ix_0, PD.o_ix_1, PD.o_ix_2, PD.o_ix_3, PD.it_t, PD.it_r, PD.enu_t, PD.zip_t, PD.o_tup0, PD.o_tup1, PD.o_tup2, PD.o_tup3, PD.o_tup4, PD.o_lst0, PD.o_lst1, PD.o_lst2, PD.o_lst3, PD.o_lst4, PD.g_push, PD.w_lnx, PD.w_lct, PD.w_lbk, PD.w_lrt, PD.w_lex, PD.w_lcn, PD.w_lcs, PD.o_eq_s, PD.o_ne_s, PD.o_eq_i, PD.o_ne_i, PD.w_gtp2, PD.w_gtp3, PD.w_gtp4, PD.rg_map, PD.o_lstR0, PD.o_tupR0, PD.o_not_f, PD.o_not_t, PD.o_dec_tt, PD.o_nn, PD.o_ne_b, PD.o_eq_b, PD.o_bne_tf, PD.o_bne_ff]
  have e : oEq (giftsD [some 1, some 2, some 0, none]) (.tup [.int 1, .int 2, .int 0, .non]) M = .ok (.bl true) M := by rfl
  rw [e]
  try simp only [word_snoc, PD.w_ok, PD.w_exc, PD.w_ift, PD.w_iff, PD.w_c, PD.w_getK, PD.w_slt0, PD.w_slts, PD.w_set0, PD.w_sets, PD.w_wipe0, PD.w_wipes, PD.w_var, PD.w_1, PD.w_2, PD.w_nil, PD.w_cons, PD.w_app, PD.w_eif, PD.w_truK, PD.w_and, PD.w_or, PD.w_not, PD.w_call, PD.w_meth, PD.w_nonK, PD.w_make, PD.w_bm, PD.w_sl, PD.w_bNo, PD.w_intK, PD.w_bAt, PD.w_blK, PD.w_chn, PD.w_tb1, PD.w_lc, PD.w_turn, PD.w_yes, PD.w_tv, PD.w_tand, PD.w_tor, PD.w_tnot, PD.w_nm, PD.w_sub, PD.w_gnil, PD.w_gcons, PD.w_knx, PD.w_krt, PD.w_kbk, PD.w_kct, PD.w_kex, PD.w_seq, PD.w_next, PD.w_asg, PD.w_expr, PD.w_ret, PD.w_retN, PD.w_brk, PD.w_cnt, PD.w_if, PD.w_aug, PD.w_fset, PD.w_saug, PD.w_for, PD.w_while, PD.w_ie, PD.w_rt, PD.w_nx, PD.w_ex, PD.w_rg1, PD.w_rg2, PD.w_enu, PD.w_zip2, PD.w_zipT, PD.w_rgl1, PD.o_add_i, PD.o_sub_i, PD.o_lt_i, PD.o_le_i, PD.o_gt_i, PD.o_ge_i, PD.o_is_n, PD.o_is_b, PD.o_isnot_b, PD.o_isnot_n, PD.o_isn_non, PD.o_isn_int, PD.o_isn_tup, PD.o_neg_i, PD.o_tru_b, PD.o_int_i, PD.o_int_b, PD.o_len_t, PD.o_tup_t, PD.o_lst_t, PD.o_max2, PD.o_min2, PD.o_ix_0, PD.o_ix_1, PD.o_ix_2, PD.o_ix_3, PD.it_t, PD.it_r, PD.enu_t, PD.zip_t, PD.o_tup0, PD.o_tup1, PD.o_tup2, PD.o_tup3, PD.o_tup4, PD.o_lst0, PD.o_lst1, PD.o_lst2, PD.o_lst3, PD.o_lst4, PD.g_push, PD.w_lnx, PD.w_lct, PD.w_lbk, PD.w_lrt, PD.w_lex, PD.w_lcn, PD.w_lcs, PD.o_eq_s, PD.o_ne_s, PD.o_eq_i, PD.o_ne_i, PD.w_gtp2, PD.w_gtp3, PD.w_gtp4, PD.rg_map, PD.o_lstR0, PD.o_tupR0, PD.o_not_f, PD.o_not_t, PD.o_dec_tt, PD.o_nn, PD.o_ne_b, PD.o_eq_b, PD.o_bne_tf, PD.o_bne_ff]
end
end EG
namespace K71
open PySem PySem.Spec PyProof.Rows L2 PD
def top (i : Nat) : Stmt := PySem.Challenge.pw_shareforsure_k71_whole_eager_gifts.main.body.getD i (.Pass ⟨0, 0, 0, 0⟩)
def inner (s : Stmt) : List Stmt := match s with
  | .ClassDef _ _ _ b _ _ _ _ _ _ _ => b
  | _ => []
def mem (i j : Nat) : Stmt := (inner (top i)).getD j (.Pass ⟨0, 0, 0, 0⟩)
def df (at_ : Str × Option Str) (name qual : Str) (s : Stmt) (N ps : List Str) : DF := ⟨⟨at_, name, qual, defArgs s, defBody s, defScope s, [], []⟩, N, ps⟩
def xf (cls qual : Str) (s : Stmt) (N ps : List Str) (fld : Str) : XF := ⟨cls, qual, defArgs s, defBody s, defScope s, N, ps, fld⟩
/- 0: law -/
def d0 : DF := df ("law", none) "law" "law" (top 18) ["script", "source", "lap", "yard", "m", "row", "due", "kept", "half", "givers", "told", "k", "request", "some", "turn", "gifts", "late", "c", "houses"] ["script"]
/- 1: _law_source -/
def d1 : DF := df ("_law_source", none) "_law_source" "_law_source" (top 8) ["script", "mixed", "cell"] ["script"]
/- 2: _law_row -/
def d2 : DF := df ("_law_row", none) "_law_row" "_law_row" (top 13) ["source", "many", "top", "way", "found", "lot", "kinds", "lap", "house"] ["source", "many", "top"]
/- 3: _law_eager -/
def d3 : DF := df ("_law_eager", none) "_law_eager" "_law_eager" (top 14) ["source", "yard", "m", "row", "left", "found", "request", "some", "house", "dear", "one"] ["source", "yard", "m", "row"]
/- 4: first_gifts -/
def d4 : DF := df ("first_gifts", none) "first_gifts" "first_gifts" (top 2) ["yard", "m", "row", "giver", "request"] ["yard", "m", "row"]
/- 5: _law_yard -/
def d5 : DF := df ("_law_yard", none) "_law_yard" "_law_yard" (top 12) ["source", "top", "high", "many", "way", "worths", "house"] ["source", "top", "high"]
/- 6: _law_first -/
def d6 : DF := df ("_law_first", none) "_law_first" "_law_first" (top 17) ["yard", "m", "row", "left", "found", "request", "some", "house"] ["yard", "m", "row"]
/- 7: _law_pick -/
def d7 : DF := df ("_law_pick", none) "_law_pick" "_law_pick" (top 9) ["source", "many", "left", "mixed"] ["source", "many"]
/- 8: run -/
def d8 : DF := df ("run", none) "run" "run" (top 6) ["giver", "row", "request"] ["giver", "row"]
/- 9: _law_any_gifts -/
def d9 : DF := df ("_law_any_gifts", none) "_law_any_gifts" "_law_any_gifts" (top 16) ["source", "room", "row", "many", "left", "found", "request", "some", "house", "gift"] ["source", "room", "row", "many"]
/- 10: is_eager -/
def d10 : DF := df ("is_eager", none) "is_eager" "is_eager" (top 3) ["yard", "m", "row", "gifts", "left", "worth", "request", "house", "worths", "other"] ["yard", "m", "row", "gifts"]
/- 11: FirstGiver __init__ -/
def d11 : DF := df ("FirstGiver", some "__init__") "__init__" "FirstGiver.__init__" (mem 1 0) ["self", "yard", "m", "worth"] ["self", "yard", "m"]
/- 12: bare_row -/
def d12 : DF := df ("bare_row", none) "bare_row" "bare_row" (top 4) ["m", "c", "houses"] ["m", "c"]
/- 13: _law_is_eager -/
def d13 : DF := df ("_law_is_eager", none) "_law_is_eager" "_law_is_eager" (top 15) ["yard", "m", "row", "gifts", "left", "request", "gift", "worths", "house"] ["yard", "m", "row", "gifts"]
/- 14: FirstGiver give -/
def d14 : DF := df ("FirstGiver", some "give") "give" "FirstGiver.give" (mem 1 1) ["self", "request", "best", "house"] ["self", "request"]
/- 15: _law_mixed -/
def d15 : DF := df ("_law_mixed", none) "_law_mixed" "_law_mixed" (top 11) ["source", "things", "rest", "lap"] ["source", "things"]
/- 16: _law_of -/
def d16 : DF := df ("_law_of", none) "_law_of" "_law_of" (top 10) ["source", "some"] ["source", "some"]
def tfns : List (Str × Nat) := [("law", 0), ("_law_source", 1), ("_law_row", 2), ("_law_eager", 3), ("first_gifts", 4), ("_law_yard", 5), ("_law_first", 6), ("_law_pick", 7), ("run", 8), ("_law_any_gifts", 9), ("is_eager", 10), ("bare_row", 12), ("_law_is_eager", 13), ("_law_mixed", 15), ("_law_of", 16)]
def tcls : List (Str × (Nat × Nat)) := [("FirstGiver", (0, 11))]
def tmets : List (Str × List (Nat × Nat)) := [("give", [(0, 14)])]
def tflds : List (Str × List Nat) := [("yard", [0]), ("left", [0])]
def tcon : List (Str × D) := []
def tblt : List Str := ["len", "abs", "sorted", "max", "int", "tuple", "list", "range", "zip", "repr"]
def texcs : List (Str × (Nat × (Str × Nat))) := []
def thnds : List (Str × (Nat × List Nat)) := []
def txfl : List (Str × List Nat) := []
def T : Tab := ⟨tfns, tcls, tmets, tflds, tcon, tblt, texcs, thnds, [], txfl⟩
def dfs : List DF := [d0, d1, d2, d3, d4, d5, d6, d7, d8, d9, d10, d11, d12, d13, d14, d15, d16]
def clss : List Str := ["FirstGiver"]
def p : Pg := ⟨T, clss, dfs, []⟩
def F : Nat → Option Fn := p.F
theorem texts : p.texts = true := by decide +kernel
abbrev Rw : PySem.W.OpenRow := PySem.W.OpenLaw.row PySem.Challenge.rw_shareforsure_k71_whole_eager_gifts
abbrev hk : PySem.W.Hook := hookX 6 p PySem.Challenge.rw_shareforsure_k71_whole_eager_gifts.prog
def ob (s : PySem.W.SharedT) : AlX := obsXG 6 p PySem.Challenge.rw_shareforsure_k71_whole_eager_gifts.prog (HandSHeadRun.getT s)
theorem ob_eq (s : PySem.W.SharedT) : ob s = hk.obs s.abs := obsXG_eq (HandSHeadRun.getT_eq s)
def loose : List PySem.Str := ["FirstGiver", "first_gifts", "is_eager", "bare_row", "run", "_law_source", "_law_pick", "_law_of", "_law_mixed", "_law_yard", "_law_row", "_law_eager", "_law_is_eager", "_law_any_gifts", "_law_first"]
theorem run (w : World) : HandSHeadRun.RunEq Rw (PySem.W.view Rw.prog [18]) hk ob 3000 loose w := by
  intro os
  kernel_rfl
end K71
namespace K71
open PySem PySem.Spec PyProof.Rows L2 PD
theorem F_law : p.F 0 = some (EG.law_fn 4 12 7 10 13 9 3 8 [(0, 14)] 0 11 6 2 5 1) := by kernel_rfl
theorem F_law_source : p.F 1 = some (sourceFn) := by kernel_rfl
theorem F_law_row : p.F 2 = some (EG.law_row_fn 7 16 15) := by kernel_rfl
theorem F_law_eager : p.F 3 = some (EG.law_eager_fn 16) := by kernel_rfl
theorem F_first_gifts : p.F 4 = some (EG.first_gifts_fn [(0, 14)] 0 11) := by kernel_rfl
theorem F_law_yard : p.F 5 = some (EG.law_yard_fn 7) := by kernel_rfl
theorem F_law_first : p.F 6 = some (EG.law_first_fn) := by kernel_rfl
theorem F_law_pick : p.F 7 = some (pickFn) := by kernel_rfl
theorem F_run : p.F 8 = some (EG.run_fn [(0, 14)]) := by kernel_rfl
theorem F_law_any_gifts : p.F 9 = some (EG.law_any_gifts_fn 7 16) := by kernel_rfl
theorem F_is_eager : p.F 10 = some (EG.is_eager_fn) := by kernel_rfl
theorem F_FirstGiver__init : p.F 11 = some (EG.FirstGiver__init_fn [0]) := by kernel_rfl
theorem F_bare_row : p.F 12 = some (EG.bare_row_fn) := by kernel_rfl
theorem F_law_is_eager : p.F 13 = some (EG.law_is_eager_fn) := by kernel_rfl
theorem F_FirstGiver_give : p.F 14 = some (EG.FirstGiver_give_fn [0]) := by kernel_rfl
theorem F_law_mixed : p.F 15 = some (mixedFn 7) := by kernel_rfl
theorem F_law_of : p.F 16 = some (PD.of_fn 7) := by kernel_rfl
theorem right : p.Right 0 60 63 := by
  intro ns hl
  have h := EG.law71 F_law (EG.kit71 (cs := [0]) (ig := 14) (of := 16) (mx := 15) rfl rfl F_first_gifts F_bare_row F_law_pick F_is_eager F_law_is_eager F_law_any_gifts F_law_eager F_run F_FirstGiver__init F_law_first F_law_row F_law_yard F_FirstGiver_give F_law_of F_law_mixed) F_law_source 56 ns hl
  obtain ⟨a, L, e, rfl⟩ := W_of h
  exact ⟨L, e⟩
end K71
open PySem PySem.W PySem.Calls PyProof.Rows
theorem PySem.Challenge.cw_shareforsure_k71_whole_eager_gifts_holds : PySem.Challenge.rw_shareforsure_k71_whole_eager_gifts.Holds := by
  w_on; o_law
  refine HandSHeadRun.head_any (r := OpenLaw.row PySem.Challenge.rw_shareforsure_k71_whole_eager_gifts) (q := view (OpenLaw.row PySem.Challenge.rw_shareforsure_k71_whole_eager_gifts).prog [18]) (H := K71.hk) (ob := K71.ob) (M := 3000) (loose := K71.loose) (d := HandSHeadRun.topDef (OpenLaw.row PySem.Challenge.rw_shareforsure_k71_whole_eager_gifts).prog 18) (kwd := []) K71.ob_eq
    (by kernel_rfl) (fun s => by kernel_rfl) K71.run (by kernel_rfl) (by kernel_rfl) (by kernel_rfl) (by rfl) (by first | assumption | decide +kernel) (by decide +kernel) ⟨rfl, rfl, rfl, rfl, rfl, by decide +kernel⟩ ?hw ?hc
  case hw => w_witness2
  case hc =>
    exact PD.Pg.walk (l := PySem.Challenge.rw_shareforsure_k71_whole_eager_gifts) (most := 63) (n := 60) (law := 0) (p := K71.p) (f := K71.d0) (x := "script") rfl (by decide) (by kernel_rfl) ⟨rfl, by decide, by decide⟩ K71.texts rfl (by kernel_rfl) rfl (by kernel_rfl) K71.right
