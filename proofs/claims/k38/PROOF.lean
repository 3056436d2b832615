import PyProof.Rows.All
import Wide.All
import OpenK.AllK
import Wide.FinOn
import PyProof.EqAt
import PyProof.EqKinds
import PyProof.TupleCall
import HandS.ForMost
import HandS.Conv
import HandS.EndTab
import HandS.ExcField
import HandS.ExcInit
import HandS.Flow
import HandS.ForExc
import HandS.IsInst
import HandS.Lambda
import HandS.Rev
import HandS.Star
import HandS.Style
import HandS.TryMany
import HandS.TupAny
import HandS.TupMul
import HandS.Walk
import HandS.Wide
import HandS.Words
import HandS.Zip
import HandS.Zip0
import KE.KExcSuper
import KE.KNestM
import PyProof.ZipIter
import PySem.Challenge.RW_samebyclock_k38_whole_one_for_one_ones_c
set_option Elab.async false
set_option linter.all false
set_option maxRecDepth 100000
section
/-! G0: the tables of code objects that lambdas are made by; a claim's own text writes the list here (none where no lambda is made). -/
namespace G
open PySem
def Tbs : List (Addr × Str) := [(296, (("law" : Str) ++ ".<locals>." ++ "<lambda>" : Str))]
end G

end
section
set_option maxHeartbeats 2000000
/-! GR: rules that the hand layer lacks: enumerate over a tuple, a tuple from behind, an item of a list for xs[i] += e. -/
namespace HT
open PySem PySem.Calls PyProof.Rows
section
variable {prog : Program} {w : World} {A : Around} {E : Value → Shared → Prop} {s : Shared}
theorem adjust_rev (n : Nat) : Builtin.Slice.sliceAdjust none none (-1) (n : Int) = ((n : Int) - 1, -1) := by
  unfold Builtin.Slice.sliceAdjust
  simp
theorem places_rev (n : Nat) : Builtin.Slice.slicePlaces ((n : Int) - 1) (-1) (-1) = n := by
  unfold Builtin.Slice.slicePlaces
  rw [if_neg (by decide)]
  cases n with
  | zero => simp
  | succ k =>
    rw [if_pos (by omega)]
    simp
theorem sliceApplied_rev {sl : Addr} {t : Tok} {n : Nat} {Q : Int × Int × Nat → Shared → Prop} (hs : s.heap.IsSliceOf sl .none .none (.int (-1) t)) (h : Q ((n : Int) - 1, -1, n) s) : wpAny (model prog w) A (Builtin.Slice.sliceApplied (.ref sl) (pure (n : Int))) Q E s := by
  obtain ⟨os, hos, hcs, hds⟩ := id hs
  unfold Builtin.Slice.sliceApplied Builtin.Slice.sliceFields
  refine wpAny_bind (wpAny_bind (wpAny_field hos hds (x := .none) rfl (wpAny_bind (wpAny_field hos hds (x := .none) rfl (wpAny_bind (wpAny_field hos hds (x := .int (-1) t) rfl (wpAny_pure ?_)))))))
  refine wpAny_bind (slicePart_ (.int (-1) t) ?_)
  show wpAny _ _ (if ((-1 : Int) == 0) = true then _ else _) _ _ s
  rw [if_neg (by decide)]
  refine wpAny_bind (slicePart_none (wpAny_bind (slicePart_none (wpAny_bind (wpAny_pure ?_)))))
  show wpAny _ _ (match Builtin.Slice.sliceAdjust none none (-1) (n : Int) with | (lo, hi) => pure (lo, (-1 : Int), Builtin.Slice.slicePlaces lo hi (-1))) _ _ s
  rw [adjust_rev n]
  show wpAny _ _ (pure ((n : Int) - 1, (-1 : Int), Builtin.Slice.slicePlaces ((n : Int) - 1) (-1) (-1))) _ _ s
  rw [places_rev]
  exact wpAny_pure h
theorem pick_rev (xs : Array Value) : ((List.range xs.size).filterMap fun (m : Nat) => xs[(((xs.size : Int) - 1) + (m : Int) * (-1)).toNat]?).toArray = xs.toList.reverse.toArray := by
  congr 1
  have h : ∀ m ∈ List.range xs.size, xs[(((xs.size : Int) - 1) + (m : Int) * (-1)).toNat]? = some (xs.toList.reverse.getD m .none) := by
    intro m hm
    have hm' : m < xs.size := List.mem_range.mp hm
    have e : (((xs.size : Int) - 1) + (m : Int) * (-1)).toNat = xs.size - 1 - m := by omega
    rw [e]
    rw [List.getD_eq_getElem?_getD, List.getElem?_reverse (by simpa using hm')]
    simp [show xs.size - 1 - m < xs.size by omega]
  have key : ∀ (l : List Nat), (∀ m ∈ l, m ∈ List.range xs.size) → (l.filterMap fun (m : Nat) => xs[(((xs.size : Int) - 1) + (m : Int) * (-1)).toNat]?) = l.map fun m => xs.toList.reverse.getD m .none := by
    intro l
    induction l with
    | nil => intro _; rfl
    | cons a l ih =>
      intro hl
      rw [List.filterMap_cons, h a (hl a List.mem_cons_self), List.map_cons, ih fun m hm => hl m (List.mem_cons_of_mem _ hm)]
  rw [key _ fun m hm => hm]
  apply List.ext_getElem
  · simp
  · intro i h1 h2
    simp at h1 h2
    simp [h1]
theorem getItem_tuple_rev {t sl : Addr} {items : Array Value} {u : Tok} {Q : Value → Shared → Prop} (ht : IsTup s.heap t items) (hs : s.heap.IsSliceOf sl .none .none (.int (-1) u))
    (h : Q (.ref s.heap.objs.size) { s with heap := s.heap.push { cls := .type "tuple", data := .seq items.toList.reverse.toArray } })
    (hsz : items.size ≤ sizeLine) : wpAny (model prog w) A (getItem (.ref t) (.ref sl)) Q E s := by
  have htake : sizeOk (.seq items.toList.reverse.toArray) := by
    show items.toList.reverse.toArray.size ≤ sizeLine
    simpa using hsz
  obtain ⟨os, hos, hcs, hds⟩ := id hs
  have hTs : s.TypeIs (.ref sl) "slice" := ⟨os, hos, hcs⟩
  unfold getItem
  try with_reducible refine wpAny_holding ?_
  first | refine wpAny_bind (wpAny_pure ?_) | skip
  refine wpAny_bind (wpAny_sequenceKey ht.typeIs (by decide) ?_)
  refine wpAny_bind (wpAny_callSpecial?_slot (name := Str.ofString "__getitem__") ht.typeIs PyProof.Rows.slot_tuple_getitem
    (wpAny_call_entry PyProof.Rows.slot_tuple_getitem ht.typeIs entry_tuple_getitem ?_ (args_tuple_getitem _ _)))
  show wpAny _ _ (Builtin.Tuple.tupleItemsOf (.ref t) >>= _) _ _ s
  refine wpAny_bind (tupleItemsOf_ ht ?_)
  refine wpAny_bind (wpAny_typeOf hTs ?_)
  rw [if_pos (by decide)]
  refine wpAny_bind (sliceApplied_rev hs ?_)
  have hno : ¬ ((((items.size : Int) - 1) == 0 && (-1 : Int) == 1 && items.size == items.size) = true) := by simp
  show wpAny _ _ (if (((items.size : Int) - 1) == 0 && (-1 : Int) == 1 && items.size == items.size) = true then _ else _) _ _ s
  rw [if_neg hno, pick_rev]
  first
    | exact wpAny_bind (m := Builtin.Tuple.tupleExact _) (wpAny_newObj_type (wpAny_pure ⟨_, rfl, wpAny_pure h⟩) htake)
    | exact wpAny_bind (m := Builtin.Tuple.tupleExact _) (wpAny_newObj_type (wpAny_bind (wpAny_pure (wpAny_pure ⟨_, rfl, wpAny_pure h⟩))) htake)
    | exact wpAny_bind (wpAny_bind (m := Builtin.Tuple.tupleExact _) (wpAny_newObj_type (wpAny_pure (wpAny_pure ⟨_, rfl, wpAny_pure h⟩)) htake))
    | exact wpAny_bind (wpAny_bind (m := Builtin.Tuple.tupleExact _) (wpAny_newObj_type (wpAny_pure ⟨_, rfl, wpAny_pure h⟩) htake))
end
end HT
namespace PySem
open Sem (wp)
open AutoSeq1 (wpAny_loadPart')
theorem meets_enumerate_newT (l : Addr) (items : Array Value) (n : Nat) (dct : Option Addr) (sl : Array (Option Value)) :
    Meets (Builtin.«enumerate.__new__» ⟨[.type "enumerate", .ref l], []⟩) (fun _ R s => s.heap.get? l = some { cls := .type "tuple", dict := dct, data := .seq items n, slots := sl } ∧
      R (.ok (.ret (.ref (s.heap.push { cls := .type "tuple_iterator", data := .fields #[.ref l, .int 0 0] }).objs.size)))
        { s with heap := (s.heap.push { cls := .type "tuple_iterator", data := .fields #[.ref l, .int 0 0] }).push { cls := .type "enumerate", data := .fields #[.none, .bool false, .ref s.heap.objs.size, rawInt 0, .none, .none] } }) :=
  .of_wp fun prog w A R s h => by
    obtain ⟨hp, g, d, tk, os⟩ := s; obtain ⟨hl, h⟩ := h
    have hsub := sub_enumerate
    have hL : Heap.IsTuple (Shared.heap ⟨hp, g, d, tk, os⟩) l items := ⟨_, hl, rfl, n, rfl⟩
    wp_walk using wpAny_loadPart' hl
    refine wpAny_stack_any fun st => wpAny_pure ?_
    split
    · rename_i c _ _ _ _ _
      cases (c == Value.type "enumerate")
      · wp_walk using wpAny_loadPart' hl, wpAny_pyIter_tuple hL
        exact ⟨_, rfl, h⟩
      · wp_walk using wpAny_loadPart' hl, wpAny_pyIter_tuple hL
        exact ⟨_, rfl, h⟩
    · wp_walk using wpAny_loadPart' hl, wpAny_pyIter_tuple hL
      exact ⟨_, rfl, h⟩
section
variable {prog : Program} {w : World} {A : Around} {E : Value → Shared → Prop} {s : Shared}
theorem call_enumerate_tuple {l : Addr} {items : Array Value} {Q : Value → Shared → Prop} (hL : s.heap.IsTuple l items)
    (h : ∀ h', IsEnum h' (s.heap.objs.size + 1) s.heap.objs.size 0 .none → h'.IsTupleIter s.heap.objs.size l 0 → h'.objs.size = s.heap.objs.size + 2 →
      (∀ b o, s.heap.get? b = some o → h'.get? b = some o) → Q (.ref (s.heap.objs.size + 1)) { s with heap := h' }) :
    wpAny (model prog w) A (call (.type "enumerate") [.ref l]) Q E s := by
  obtain ⟨⟨c, dct, dt, sl⟩, hl, hc, n, hd⟩ := hL
  replace hc : c = .type "tuple" := hc
  replace hd : dt = .seq items n := hd
  subst hc hd
  refine callType_new F.called_enumerate (by decide) (F.typeCall_enumerate_1 _) (F.newCall_enumerate_1 _) (fun obj => F.args_object_init_2 obj _) F.entry_enumerate_new
    (meets_enumerate_newT l items n dct sl) ⟨hl, ?_⟩
  have hz : (s.heap.push { cls := .type "tuple_iterator", data := .fields #[.ref l, .int 0 0] }).objs.size = s.heap.objs.size + 1 := Heap.size_push ..
  show _ ∧ _
  rw [hz]
  have he : IsEnum ((s.heap.push { cls := .type "tuple_iterator", data := .fields #[.ref l, .int 0 0] }).push
      { cls := .type "enumerate", data := .fields #[.none, .bool false, .ref s.heap.objs.size, rawInt 0, .none, .none] }) (s.heap.objs.size + 1) s.heap.objs.size 0 .none := by
    have := Heap.get?_push_size (s.heap.push { cls := .type "tuple_iterator", data := .fields #[.ref l, .int 0 0] })
      (o := { cls := .type "enumerate", data := .fields #[.none, .bool false, .ref s.heap.objs.size, rawInt 0, .none, .none] }) rfl
    rw [hz] at this; exact this
  refine ⟨⟨_, he, rfl⟩, h _ he ⟨_, Heap.get?_push_of_some _ (Heap.get?_push_size _ rfl), rfl, rfl⟩ (by rw [Heap.size_push, hz]) fun b o x => Heap.get?_push_of_some _ (Heap.get?_push_of_some _ x)⟩
end
theorem Draws.tuple {prog : Program} {w : World} {A : Around} (hh : A.handled = none) (it l : Addr) (hne : l ≠ it) (items : Array Value) :
    Draws prog w A it [it, l] items.size (fun i v => items[i]? = some v) (fun i h => h.IsTupleIter it l i ∧ h.IsTuple l items) where
  live := fun _ _ st => let ⟨o, ho, _⟩ := st.1; ⟨o, ho⟩
  frame := fun _ _ _ st hk => ⟨st.1.at fun o e => hk it (by simp) o e, let ⟨o, e, r⟩ := st.2; ⟨o, hk l (by simp) o e, r⟩⟩
  item := fun i s Q E hi st hQ => by
    refine RZ.nextOf_tuple_item st.1 st.2 (x := items[i]) (by simp [hi]) fun h' hit' hs' => ?_
    exact hQ _ h' s.toks (by simp [hi]) ⟨hit', let ⟨o, e, r⟩ := st.2; ⟨o, hs'.extBut _ _ hne e, r⟩⟩ hs'
  done := fun s Q E st hE => RZ.nextOf_tuple_end hh st.1 st.2 (by simp) hE
end PySem
namespace L2
open PySem PySem.Spec PyProof.Rows
section
variable {X : Cx}
/-- x[::-1], x a tuple: a new tuple -/
def tRevT (K : PySem.W.Frag) (te : TE) : TE := fun σ H Q => te σ H fun x H1 => ∃ a xs, x = .ref a ∧ SqT K H1 a xs ∧ ∀ p, H1 p = none → Q (.ref p) (upd H1 p (.tup xs.reverse))
/-- x[::-1], x a list or a tuple -/
def tRevU (K : PySem.W.Frag) (te : TE) : TE := fun σ H Q => te σ H fun x H1 => (∃ a xs, x = .ref a ∧ SqL K H1 a xs ∧ ∀ p, H1 p = none → Q (.ref p) (upd H1 p (.lst xs.reverse))) ∨ ∃ a xs, x = .ref a ∧ SqT K H1 a xs ∧ ∀ p, H1 p = none → Q (.ref p) (upd H1 p (.tup xs.reverse))
theorem pe_revU {e : Expr} {te : TE} {k : Nat} {p1 p2 p3 pos : Pos} (he : PE X e te) : PE X (.Subscript e (.Slice none none (some (.UnaryOp .USub (.Constant (.int 1) k p1) p2)) p3) pos) (tRevU X.K te) := by
  refine ⟨fun pins s σ H Q I h => ?_⟩
  refine Subscript_ (thn (he.run pins s σ H _ I h) fun v s1 ⟨x, H1, I1, r1, q1⟩ => ?_)
  have hst : PO X (some (.UnaryOp .USub (.Constant (.int 1) k p1) p2)) (tPart (tUn (rU fun i => .int (-i)) (tC (.int 1)))) := po_some (pe_un un_neg pe_int)
  refine wpAny_Slice (thn (po_none.run pins s1 σ H1 (fun o H2 => o = none ∧ H2 = H1) I1 ⟨rfl, rfl⟩) fun vl s2 ⟨l, H2, I2, pl, el, e2⟩ => ?_)
  subst el e2
  refine thn (po_none.run pins s2 σ H2 (fun o H3 => o = none ∧ H3 = H2) I2 ⟨rfl, rfl⟩) fun vu s3 ⟨u, H3, I3, pu, eu, e3⟩ => ?_
  subst eu e3
  refine thn (hst.run pins s3 σ H3 (fun o H4 => o = some (-1) ∧ H4 = H3) I3 ⟨1, rfl, -1, rfl, rfl, rfl⟩) fun vs s4 ⟨o, H4, I4, ps, eo, e4⟩ => ?_
  subst eo e4
  have I5 : Inv X pins σ H4 { s4 with heap := s4.heap.push { cls := .type "slice", data := .fields #[vl, vu, vs] } } := I4.kept (t' := s4.toks) fun b ob q => Heap.get?_push_of_some _ q
  rcases q1 with ⟨a, xs, ex, hx, q⟩ | ⟨a, xs, ex, hx, q⟩
  · subst ex
    cases r1
    obtain ⟨its, r, ht, hz⟩ := I5.list hx
    have hlen := r.length
    show wpAny (model X.prog X.w) X.A (subscriptTail e (.Slice none none (some (.UnaryOp .USub (.Constant (.int 1) k p1) p2)) p3) (.ref a) (.ref s4.heap.objs.size)) (EP X pins σ Q) X.xe { s4 with heap := s4.heap.push { cls := .type "slice", data := .fields #[vl, vu, vs] } }
    refine tail_any (ops := [.ref a, .ref s4.heap.objs.size]) ht.isList.typeIs (PySem.slot_list_getitem.lookup) ?_ (by with_unfolding_all rfl)
    refine wpAny_getItem_list_slice ht.isList (Heap.IsSliceOf.new _ vl vu vs) pl pu ps (by decide) ?_ (by rw [List.size_toArray]; omega)
    rw [PySem.W.krv_pick]
    refine ⟨.ref _, _, I5.laid (t' := s4.toks) (o := .lst xs.reverse) (fun b ob q => Heap.get?_push_of_some _ q) (Nat.le_refl _) ?_, rfl, q _ (I5.hok.fresh (Nat.le_refl _))⟩
    exact ⟨by rw [List.length_reverse]; exact hz, _, 0, r.reverse, Heap.get?_push_size _ rfl⟩
  · subst ex
    cases r1
    cases pl
    cases pu
    cases ps with
    | int _ tk =>
    obtain ⟨its, r, ht, hz⟩ := I5.tuple hx
    have hlen := r.length
    show wpAny (model X.prog X.w) X.A (subscriptTail e (.Slice none none (some (.UnaryOp .USub (.Constant (.int 1) k p1) p2)) p3) (.ref a) (.ref s4.heap.objs.size)) (EP X pins σ Q) X.xe { s4 with heap := s4.heap.push { cls := .type "slice", data := .fields #[.none, .none, .int (-1) tk] } }
    refine tail_any (ops := [.ref a, .ref s4.heap.objs.size]) ht.typeIs (PyProof.Rows.slot_tuple_getitem.lookup) ?_ (by with_unfolding_all rfl)
    refine HT.getItem_tuple_rev ht (Heap.IsSliceOf.new _ .none .none (.int (-1) tk)) ?_ (by rw [List.size_toArray]; omega)
    refine ⟨.ref _, _, I5.laid (t' := s4.toks) (o := .tup xs.reverse) (fun b ob q => Heap.get?_push_of_some _ q) (Nat.le_refl _) ?_, rfl, q _ (I5.hok.fresh (Nat.le_refl _))⟩
    exact ⟨by rw [List.length_reverse]; exact hz, _, r.reverse, IsTup.new _ _⟩
/-! ### enumerate(tuple) -/
def IteT (K : PySem.W.Frag) (a : Addr) : It :=
  ⟨fun i H => ∃ (xs : List V) (x : V), SqT K H a xs ∧ xs[i]? = some x, fun i H v H' => ∃ T x, v = .ref T ∧ H T = none ∧ H' = upd H T (.tup [.int (i : Nat), x]) ∧ ∀ xs, SqT K H a xs → xs[i]? = some x, fun i H => ∃ xs : List V, SqT K H a xs ∧ xs.length ≤ i⟩
theorem turn_enumT {P : Program} {w : World} {K : PySem.W.Frag} {elts : List Expr} {kk : Nat} {tpos : Pos} (a e it : Addr) :
    Turn P w K (.Tuple elts kk tpos) (IteT K a) [e, it] e (fun i h => (∃ old, IsEnum h e it ((i : Nat) : Int) old) ∧ h.IsTupleIter it a i ∧ e ≠ it ∧ a ≠ e ∧ a ≠ it) where
  mem := by simp
  obj := fun i h st b hb => by
    obtain ⟨⟨old, he⟩, ⟨o, ho, hc, hd⟩, _⟩ := st
    have e' : b = e ∨ b = it := by simpa using hb
    rcases e' with z | z
    · rw [z]; exact ⟨_, he, fun v q => nomatch q⟩
    · rw [z]; exact ⟨o, ho, fun v q => by rw [hd] at q; cases q⟩
  keep := fun i h h' st k => let ⟨⟨old, he⟩, hi, hne⟩ := st; ⟨⟨old, k e (by simp) _ he⟩, hi.at fun o q => k it (by simp) o q, hne⟩
  item := by
    intro X hP hw hK hc i pins s σ H E I hf st hg
    subst hP hw hK
    obtain ⟨⟨old, he⟩, hit, hne, hae, hai⟩ := st
    obtain ⟨xs, x, hq, hx⟩ := hg
    obtain ⟨its, rv, p, hz⟩ := I.tuple hq
    obtain ⟨u, hu, ru⟩ := rv.get hx
    have hel : e < s.heap.objs.size := Heap.lt_size he
    have hil : it < s.heap.objs.size := by obtain ⟨_, q, _⟩ := hit; exact Heap.lt_size q
    have hsz : i < its.toArray.size := by
      rw [List.size_toArray]
      exact (List.getElem?_eq_some_iff.mp hu).1
    refine wpAny_pyNext_enum_itemD (Draws.tuple (A := X.A.in1) (show X.A.in1.handled = none from I.ok.hd hc) it a hai its.toArray) he ⟨hit, p⟩ hsz hne (by simp; exact ⟨hne, fun z => hae z.symm⟩) fun y h' tk hy ho ht' hT hsz' hk => ?_
    have ey : y = u := by
      have h1 : its[i]? = some y := by simpa using hy
      rw [hu] at h1
      exact (Option.some.inj h1).symm
    subst ey
    refine ⟨_, rfl, wpAny_letOwnedTupleGo_enum (s := { s with heap := h', toks := tk + 1 }) ho fun h'' he' sb => ?_⟩
    have hT2 : h''.get? s.heap.objs.size = some { cls := .type "tuple", data := .seq #[.int i tk, y] } := (sb.2 _ (Nat.ne_of_gt hel)).trans hT
    have new : ObjOk X.prog X.w (upd H s.heap.objs.size (.tup [.int (i : Nat), x])) h'' s.heap.objs.size (.tup [.int (i : Nat), x]) :=
      ⟨by show 2 ≤ sizeLine; decide, [.int i tk, y], .cons ⟨_, rfl⟩ (.cons ru .nil), ⟨_, hT2, rfl, _, rfl⟩⟩
    have I1 : Inv X pins σ (upd H s.heap.objs.size (.tup [.int (i : Nat), x])) { s with heap := h'', toks := tk + 1 } :=
      I.turnedNew (ch := [e, it]) (fun b ob hb q => (sb.2 b (fun z => hb (by simp [z]))).trans (hk b ob (fun z => hb (by simp [z])) (fun z => hb (by simp [z])) q)) hf (Nat.le_refl _) new
    refine ⟨.ref s.heap.objs.size, _, I1, rfl, ⟨_, x, rfl, I.hok.fresh (Nat.le_refl _), rfl, fun ys hy => by rw [I.tuple_inj hy hq]; exact hx⟩, ⟨⟨y, ?_⟩, ht'.1.at fun o q => (sb.2 it (Ne.symm hne)).trans q, hne, hae, hai⟩, fun b hb => ?_⟩
    · have e1 : ((i + 1 : Nat) : Int) = (i : Int) + 1 := by omega
      rw [e1]; exact he'
    · have hb' : b < s.heap.objs.size := by
        have e' : b = e ∨ b = it := by simpa using hb
        rcases e' with z | z
        · rw [z]; exact hel
        · rw [z]; exact hil
      rw [upd_ne (Nat.ne_of_lt hb')]
      exact (hf b hb).1
  done := by
    intro X hP hw hK hc i pins s σ H E I hf st hg
    subst hP hw hK
    obtain ⟨⟨old, he⟩, hit, hne, hae, hai⟩ := st
    obtain ⟨xs, hq, hx⟩ := hg
    obtain ⟨its, rv, p, hz⟩ := I.tuple hq
    obtain ⟨f0, f1, f2, f3, f4, f5⟩ := hf it (by simp)
    have hl := rv.length
    have hT : s.TypeIs (.ref e) "enumerate" := ⟨_, he, rfl⟩
    unfold pyNext
    refine wpAny_bind (wpAny_attempt (wpAny_callSpecial?_slot (name := Str.ofString "__next__") hT F.slot_enumerate_next
      (wpAny_call_entry F.slot_enumerate_next hT F.entry_enumerate_next ?_ (F.args_enumerate_next_1 _))))
    show wpAny _ _ (field (.ref e) 2 >>= _) _ _ _
    refine wpAny_bind (wpAny_field he rfl (x := .ref it) rfl ?_)
    refine wpAny_bind (RZ.nextOf_tuple_end (I.ok.hd hc) hit (show s.heap.IsTuple a its.toArray from p) (by simp; omega) fun h' x he' hx' => ?_)
    obtain ⟨o, ho, hc'⟩ := hx'
    refine wpAny_bind (wpAny_isInstance (T := "StopIteration") (b := true) ⟨o, ho, hc'⟩ isSubtype_stop ?_)
    exact wpAny_pure ⟨rfl, I.turned (t' := s.toks) (fun b o hb q => he' b o hb q) f0 f1 f3 f4 f5⟩
  self := fun A i s Q E st h => let ⟨⟨_, he⟩, _⟩ := st; wpAny_pyIter_enum he h
/-- enumerate(x), x a list or a tuple -/
def iEnumU (K : PySem.W.Frag) (ta : TA) : TI := fun σ H R => ta σ H fun vs H1 => ∃ a xs, vs = [.ref a] ∧ ((SqL K H1 a xs ∧ R (Ite K a) H1) ∨ (SqT K H1 a xs ∧ R (IteT K a) H1))
theorem pi_enumU {e : Expr} {ta : TA} {p pos tpos : Pos} {elts : List Expr} {kk : Nat} (hg : Gl X "enumerate") (hm : X.mg "enumerate" = none) (ha : PA X [e] ta) (hs : starEach [e] X.env = [(false, eval e X.env)] := by rfl) :
    PI X (.Tuple elts kk tpos) (.Call (.Name "enumerate" p) [e] [] pos) (iEnumU X.K ta) := by
  refine ⟨fun pins s σ H R I h => ?_⟩
  refine Call_ (ld_blt I hg hm boot_enumerate (PyProof.Rows.callWith_type1 (thn (ha.run pos pins s σ H _ I h) fun us s1 ⟨vs, H1, I1, r1, q1⟩ => ?_) hs rfl))
  obtain ⟨a, xs, ex, hq⟩ := q1
  subst ex
  cases r1 with
  | cons r rr =>
    cases rr
    cases r
    have fr : ∀ b ∈ [s1.heap.objs.size + 1, s1.heap.objs.size], FpOk X pins H1 b := fun b hb => by
      have e' : b = s1.heap.objs.size + 1 ∨ b = s1.heap.objs.size := by simpa using hb
      have hle : s1.heap.objs.size ≤ b := by
        rcases e' with z | z
        · rw [z]; exact Nat.le_add_right _ _
        · rw [z]; exact Nat.le_refl _
      exact I1.fpOk hle (I1.hok.fresh hle)
    rcases hq with ⟨hq, q⟩ | ⟨hq, q⟩
    · obtain ⟨its, rv, p', hz⟩ := I1.list hq
      refine call_enumerate_list p'.isList fun h' he hit hsz hk => wpAny_pyIter_enum he ?_
      have I2 : Inv X pins σ H1 { s1 with heap := h' } := I1.kept (t' := s1.toks) hk
      exact ⟨s1.heap.objs.size + 1, [s1.heap.objs.size + 1, s1.heap.objs.size], _, _, H1, rfl, I2, turn_enum a (s1.heap.objs.size + 1) s1.heap.objs.size, ⟨⟨.none, he⟩, hit, Nat.succ_ne_self _⟩, fr, q⟩
    · obtain ⟨its, rv, p', hz⟩ := I1.tuple hq
      have hal : a < s1.heap.objs.size := p'.lt
      refine call_enumerate_tuple p' fun h' he hit hsz hk => wpAny_pyIter_enum he ?_
      have I2 : Inv X pins σ H1 { s1 with heap := h' } := I1.kept (t' := s1.toks) hk
      exact ⟨s1.heap.objs.size + 1, [s1.heap.objs.size + 1, s1.heap.objs.size], _, _, H1, rfl, I2, turn_enumT a (s1.heap.objs.size + 1) s1.heap.objs.size, ⟨⟨.none, he⟩, hit, Nat.succ_ne_self _, Nat.ne_of_lt (Nat.lt_succ_of_lt hal), Nat.ne_of_lt hal⟩, fr, q⟩
end
/-- o[i] of a list, read -/
def gL (K : PySem.W.Frag) : V → V → Hp → VK → Prop := rIxL K
theorem pget_list {X : Cx} : PGet X (gL X.K) := by
  intro pins s σ H x y v u Q I rx ry h
  obtain ⟨p, xs, i, z, rfl, rfl, hq, he, q⟩ := h
  cases rx
  obtain ⟨t, rfl⟩ := ry
  obtain ⟨its, r, pl, hz⟩ := I.list hq
  obtain ⟨j, h1, h2, h3, h4, h5⟩ := atI_get he
  obtain ⟨w, ew, rw'⟩ := r.get h2
  have hl := r.length
  have hn := line63
  have fin : EP X pins σ Q w s := ⟨z, H, I, rw', q⟩
  by_cases h0 : 0 ≤ i
  · have hj : i.toNat = j := by
      rw [seqIndex_of h0 h5] at h1
      exact Option.some.inj h1
    exact wpAny_getItem_list pl.isList h0 (by omega) (by rw [hj]; simpa using ew) fin
  · have hj : (i + (its.toArray.size : Int)).toNat = j := by
      rw [seqIndex_neg (by omega) h4] at h1
      rw [List.size_toArray, ← hl]
      exact Option.some.inj h1
    exact wpAny_getItem_list_neg pl.isList (by omega) (by rw [List.size_toArray] <;> omega) (by omega) (by rw [hj]; simpa using ew) fin
section
variable {K : PySem.W.Frag} {a : Addr} {xs : List V}
theorem walk_enumT : Walk (IteT K a) xs.length (fun H => SqT K H a xs) (YPair (fun i => some (.int (i : Nat))) (fun i => xs[i]?)) := by
  refine ⟨fun i _ hi q => ⟨xs, xs[i], q, by simp [hi]⟩, fun _ q => ⟨xs, q, Nat.le_refl _⟩, fun i H v H' _ q y => ?_⟩
  obtain ⟨T, x, h1, h2, h3, h4⟩ := y
  exact ⟨T, .int (i : Nat), x, h1, h2, h3, rfl, h4 xs q⟩
end
end L2

end
section
set_option maxHeartbeats 2000000
/-! GS: zip over two sources, each a list or a tuple. -/
namespace ZK
open PySem
open PySem.Sem (wp)
def cn (k : Bool) : String := if k then "tuple" else "list"
def Sq (k : Bool) (h : Heap) (a : Addr) (xs : Array Value) : Prop := match k with
  | true => h.IsTuple a xs
  | false => h.IsList a xs
def Wk (k : Bool) (h : Heap) (it l : Addr) (i : Nat) : Prop := match k with
  | true => h.IsTupleIter it l i
  | false => h.IsListIter it l i
def itObj (k : Bool) (l : Addr) : Obj := { cls := .type (if k then "tuple_iterator" else "list_iterator"), data := .fields #[.ref l, .int 0 0] }
theorem Sq.far {k : Bool} {h h' : Heap} {a c : Addr} {xs : Array Value} (q : Sq k h a xs) (e : Heap.ExtBut c h h') (n : a ≠ c) : Sq k h' a xs := by
  cases k
  · exact Heap.IsList.extBut q e n
  · exact Heap.IsTuple.extBut q e n
theorem Wk.far {k : Bool} {h h' : Heap} {a l c : Addr} {i : Nat} (q : Wk k h a l i) (e : Heap.ExtBut c h h') (n : a ≠ c) : Wk k h' a l i := by
  cases k
  · exact Heap.IsListIter.extBut q e n
  · exact Heap.IsTupleIter.extBut q e n
theorem Wk.keep {k : Bool} {h h' : Heap} {a l : Addr} {i : Nat} (q : Wk k h a l i) (e : ∀ o, h.get? a = some o → h'.get? a = some o) : Wk k h' a l i := by
  cases k
  · exact Heap.IsListIter.at q e
  · exact Heap.IsTupleIter.at q e
theorem Wk.obj {k : Bool} {h : Heap} {a l : Addr} {i : Nat} (q : Wk k h a l i) : ∃ o, h.get? a = some o ∧ o.data = .fields #[.ref l, .int i 0] := by
  cases k
  · obtain ⟨o, e, _, d⟩ := q; exact ⟨o, e, d⟩
  · obtain ⟨o, e, _, d⟩ := q; exact ⟨o, e, d⟩
theorem Wk.lt {k : Bool} {h : Heap} {a l : Addr} {i : Nat} (q : Wk k h a l i) : a < h.objs.size := by
  obtain ⟨o, e, _⟩ := q.obj; exact Heap.lt_size e
theorem Sq.lt {k : Bool} {h : Heap} {a : Addr} {xs : Array Value} (q : Sq k h a xs) : a < h.objs.size := by
  cases k
  · obtain ⟨o, e, _⟩ := q; exact Heap.lt_size e
  · obtain ⟨o, e, _⟩ := q; exact Heap.lt_size e
section
variable {prog : Program} {w : World} {A : Around} {E : Value → Shared → Prop} {s : Shared}
theorem next_item {k : Bool} {it l : Addr} {i : Nat} {xs : Array Value} {x : Value} {Q : Value → Shared → Prop} (a : Wk k s.heap it l i) (b : Sq k s.heap l xs) (c : xs[i]? = some x)
    (d : ∀ g, Wk k g it l (i + 1) → Heap.SameBut it s.heap g → Q x { s with heap := g }) : wpAny (model prog w) A (Builtin.SmallTypes.nextOf (.ref it)) Q E s := by
  cases k
  · exact wpAny_nextOf_list_item a b c d
  · exact RZ.nextOf_tuple_item a b c d
theorem next_end {k : Bool} {it l : Addr} {i : Nat} {xs : Array Value} {Q : Value → Shared → Prop} (n : A.handled = none) (a : Wk k s.heap it l i) (b : Sq k s.heap l xs) (c : xs[i]? = none)
    (d : ∀ g e, Heap.ExtBut it s.heap g → (∃ o, g.get? e = some o ∧ o.cls = .type "StopIteration") → E (.ref e) { s with heap := g }) : wpAny (model prog w) A (Builtin.SmallTypes.nextOf (.ref it)) Q E s := by
  cases k
  · exact wpAny_nextOf_list_end n a b c d
  · exact RZ.nextOf_tuple_end n a b c d
theorem iter_of {k : Bool} {l : Addr} {xs : Array Value} {Q : Value → Shared → Prop} (b : Sq k s.heap l xs) (d : Q (.ref s.heap.objs.size) { s with heap := s.heap.push (itObj k l) }) : wpAny (model prog w) A (pyIter (.ref l)) Q E s := by
  cases k
  · exact wpAny_pyIter_list b d
  · exact wpAny_pyIter_tuple b d
/-- one turn of a zip -/
theorem zip_item {k1 k2 : Bool} {zz ti ro j1 j2 p1 p2 : Addr} {n1 n2 : Nat} {us vs : Array Value} {u v a0 b0 : Value} {Q : Value → Shared → Prop} (D : ZipApart zz ti ro j1 j2 p1 p2)
    (gz : IsZip s.heap zz ti ro .none) (gI : IsPair s.heap ti (.ref j1) (.ref j2)) (gO : IsPair s.heap ro a0 b0) (w1 : Wk k1 s.heap j1 p1 n1) (w2 : Wk k2 s.heap j2 p2 n2) (q1 : Sq k1 s.heap p1 us) (q2 : Sq k2 s.heap p2 vs)
    (gu : us[n1]? = some u) (gv : vs[n2]? = some v)
    (fin : ∀ g, IsZip g zz ti ro (rawInt s.heap.objs.size) → IsPair g ro u v → Wk k1 g j1 p1 (n1 + 1) → Wk k2 g j2 p2 (n2 + 1) → IsPair g s.heap.objs.size u v → g.objs.size = s.heap.objs.size + 1 →
      (∀ c o, c ≠ zz → c ≠ ro → c ≠ j1 → c ≠ j2 → s.heap.get? c = some o → g.get? c = some o) → Q (.ref s.heap.objs.size) { s with heap := g }) :
    wpAny (model prog w) A (Builtin.«zip.__next__» ⟨[.ref zz], []⟩) (fun r s' => ∃ v, r = .done (.ret v) ∧ Q v s') E s := by
  show wpAny _ _ (field (.ref zz) 2 >>= _) _ _ _
  refine wpAny_bind (wpAny_field gz rfl (x := .bool false) rfl ?_)
  show wpAny _ _ (field (.ref zz) 3 >>= _) _ _ _
  refine wpAny_bind (wpAny_field gz rfl (x := .ref ti) rfl ?_)
  refine wpAny_bind (wpAny_seqItems gI rfl ?_)
  show wpAny _ _ (Builtin.SmallTypes.ownedTupleIsFree (.ref zz) >>= _) _ _ _
  refine wpAny_bind (by
    unfold Builtin.SmallTypes.ownedTupleIsFree; refine wpAny_bind (wpAny_field gz rfl (x := .none) rfl (wpAny_pure ?_))
    simp only [if_true]; refine wpAny_bind (wpAny_rule ?_)
    refine wpAny_bind (wpAny_field gz rfl (x := .ref ro) rfl ?_)
    refine wpAny_bind (wpAny_setField_rec gz (by simp) fun g₁ gz₁ e₁ => ?_)
    replace gz₁ : IsZip g₁ zz ti ro .ellipsis := gz₁
    refine wpAny_bind (by
      simp only [List.zipIdx_cons, List.zipIdx_nil, List.forIn_cons, List.forIn_nil]; refine wpAny_bind (wpAny_bind (wpAny_onRaise (?_ : wpAny _ _ (Builtin.SmallTypes.nextOf (.ref j1) >>= _) _ _ _)))
      refine wpAny_bind (next_item (w1.far e₁.extBut D.i1z) (q1.far e₁.extBut D.l1z) gu fun g₂ w1₂ e₂ => wpAny_pure ?_)
      have gO₂ : IsPair g₂ ro a0 b0 := e₂.extBut _ _ D.TOi1 (e₁.extBut _ _ D.TOz gO)
      refine wpAny_bind (wpAny_seqItems gO₂ rfl ?_)
      refine wpAny_bind (wpAny_updateSeq_pair gO₂ fun g₃ gO₃ e₃ => ?_)
      replace gO₃ : IsPair g₃ ro u b0 := gO₃
      refine wpAny_bind (wpAny_letGo (wpAny_pure ?_)); refine wpAny_bind (wpAny_bind (wpAny_onRaise (?_ : wpAny _ _ (Builtin.SmallTypes.nextOf (.ref j2) >>= _) _ _ _)))
      refine wpAny_bind (next_item (((w2.far e₁.extBut D.i2z).far e₂.extBut D.i12.symm).far e₃.extBut D.TOi2.symm) (((q2.far e₁.extBut D.l2z).far e₂.extBut D.l2i1).far e₃.extBut D.l2TO) gv fun g₄ w2₄ e₄ => wpAny_pure ?_)
      have gO₄ : IsPair g₄ ro u b0 := e₄.extBut _ _ D.TOi2 gO₃
      refine wpAny_bind (wpAny_seqItems gO₄ rfl ?_)
      refine wpAny_bind (wpAny_updateSeq_pair gO₄ fun g₅ gO₅ e₅ => ?_)
      replace gO₅ : IsPair g₅ ro u v := gO₅
      refine wpAny_bind (wpAny_letGo (wpAny_pure (wpAny_pure ?_))); refine wpAny_bind (wpAny_seqItems gO₅ rfl ?_)
      refine wpAny_bind (wpAny_newTuple (?_)); have sz : g₅.objs.size = s.heap.objs.size := by rw [e₅.1, e₄.1, e₃.1, e₂.1, e₁.1]
      have gz₅ : IsZip g₅ zz ti ro .ellipsis := e₅.extBut _ _ D.TOz.symm (e₄.extBut _ _ D.i2z.symm (e₃.extBut _ _ D.TOz.symm (e₂.extBut _ _ D.i1z.symm gz₁)))
      have all₅ : ∀ c o, c ≠ zz → c ≠ ro → c ≠ j1 → c ≠ j2 → s.heap.get? c = some o → g₅.get? c = some o := fun c o c1 c2 c3 c4 e =>
        e₅.extBut _ _ c2 (e₄.extBut _ _ c4 (e₃.extBut _ _ c2 (e₂.extBut _ _ c3 (e₁.extBut _ _ c1 e))))
      have w1₅ : Wk k1 g₅ j1 p1 (n1 + 1) := ((w1₂.far e₃.extBut D.TOi1.symm).far e₄.extBut D.i12).far e₅.extBut D.TOi1.symm
      have w2₅ : Wk k2 g₅ j2 p2 (n2 + 1) := w2₄.far e₅.extBut D.TOi2.symm
      have zlt : zz < g₅.objs.size := Heap.lt_size gz₅
      show wpAny _ _ (Builtin.SmallTypes.ownedTupleHandOut (.ref zz) (.ref g₅.objs.size) >>= _) _ _ _
      refine wpAny_bind (by
        unfold Builtin.SmallTypes.ownedTupleHandOut; have gz₆ : IsZip (g₅.push { cls := .type "tuple", data := .seq #[u, v] }) zz ti ro .ellipsis := Heap.get?_push_of_some _ gz₅
        refine wpAny_bind (wpAny_setField_rec gz₆ (by simp) fun g₇ gz₇ e₇ => ?_)
        replace gz₇ : IsZip g₇ zz ti ro (rawInt g₅.objs.size) := gz₇
        refine wpAny_setField_rec gz₇ (by simp) fun g₈ gz₈ e₈ => ?_
        replace gz₈ : IsZip g₈ zz ti ro (rawInt g₅.objs.size) := gz₈
        have up : ∀ c o, c ≠ zz → g₅.get? c = some o → g₈.get? c = some o := fun c o c1 e => e₈.extBut _ _ c1 (e₇.extBut _ _ c1 (Heap.get?_push_of_some _ e))
        have new₈ : IsPair g₈ g₅.objs.size u v := e₈.extBut _ _ (Nat.ne_of_gt zlt) (e₇.extBut _ _ (Nat.ne_of_gt zlt) (Heap.get?_push_size _ rfl))
        have sz8 : g₈.objs.size = g₅.objs.size + 1 := by rw [e₈.1, e₇.1, Heap.size_push]
        rw [sz] at gz₈ new₈ sz8
        refine wpAny_pure ⟨_, rfl, ?_⟩; show Q (.ref g₅.objs.size) _
        rw [sz]; exact fin g₈ gz₈ (up _ _ D.TOz gO₅) (w1₅.keep fun o e => up _ o D.i1z e) (w2₅.keep fun o e => up _ o D.i2z e) new₈ sz8 fun c o c1 c2 c3 c4 e => up c o c1 (all₅ c o c1 c2 c3 c4 e))))
/-- a zip at its end -/
theorem zip_stop {k1 k2 : Bool} {zz ti ro j1 j2 p1 p2 : Addr} {n1 n2 : Nat} {us vs : Array Value} {a0 b0 : Value} {Q : Fin → Shared → Prop} (hd : A.handled = none) (D : ZipApart zz ti ro j1 j2 p1 p2)
    (gz : IsZip s.heap zz ti ro .none) (gI : IsPair s.heap ti (.ref j1) (.ref j2)) (gO : IsPair s.heap ro a0 b0) (w1 : Wk k1 s.heap j1 p1 n1) (w2 : Wk k2 s.heap j2 p2 n2) (q1 : Sq k1 s.heap p1 us) (q2 : Sq k2 s.heap p2 vs)
    (over : us[n1]? = none ∨ vs[n2]? = none)
    (fin : ∀ g e, (∀ c o, c ≠ zz → c ≠ ro → c ≠ j1 → c ≠ j2 → s.heap.get? c = some o → g.get? c = some o) → (∃ o, g.get? e = some o ∧ o.cls = .type "StopIteration") → E (.ref e) { s with heap := g }) :
    wpAny (model prog w) A (Builtin.«zip.__next__» ⟨[.ref zz], []⟩) Q E s := by
  show wpAny _ _ (field (.ref zz) 2 >>= _) _ _ _
  refine wpAny_bind (wpAny_field gz rfl (x := .bool false) rfl ?_)
  show wpAny _ _ (field (.ref zz) 3 >>= _) _ _ _
  refine wpAny_bind (wpAny_field gz rfl (x := .ref ti) rfl ?_)
  refine wpAny_bind (wpAny_seqItems gI rfl ?_)
  show wpAny _ _ (Builtin.SmallTypes.ownedTupleIsFree (.ref zz) >>= _) _ _ _
  refine wpAny_bind (by
    unfold Builtin.SmallTypes.ownedTupleIsFree; refine wpAny_bind (wpAny_field gz rfl (x := .none) rfl (wpAny_pure ?_))
    simp only [if_true]; refine wpAny_bind (wpAny_rule ?_)
    refine wpAny_bind (wpAny_field gz rfl (x := .ref ro) rfl ?_)
    refine wpAny_bind (wpAny_setField_rec gz (by simp) fun g₁ gz₁ e₁ => ?_)
    replace gz₁ : IsZip g₁ zz ti ro .ellipsis := gz₁
    refine wpAny_bind (by
      simp only [List.zipIdx_cons, List.zipIdx_nil, List.forIn_cons, List.forIn_nil]; refine wpAny_bind (wpAny_bind (wpAny_onRaise (?_ : wpAny _ _ (Builtin.SmallTypes.nextOf (.ref j1) >>= _) _ _ _)))
      cases hu : us[n1]? with
      | none =>
        refine wpAny_bind (next_end hd (w1.far e₁.extBut D.i1z) (q1.far e₁.extBut D.l1z) hu fun g₂ e e₂ he => ?_)
        obtain ⟨oe, hoe, hce⟩ := he
        have gz₂ : IsZip g₂ zz ti ro .ellipsis := e₂ _ _ D.i1z.symm gz₁
        have ne : e ≠ zz := fun x => by subst x; rw [gz₂] at hoe; cases hoe; simp at hce
        refine wpAny_setField_rec gz₂ (by simp) fun g₃ _ e₃ => fin g₃ e (fun c o c1 _ c3 _ x => e₃.extBut _ _ c1 (e₂ _ _ c3 (e₁.extBut _ _ c1 x))) ⟨oe, e₃.extBut _ _ ne hoe, hce⟩
      | some u =>
        have hv : vs[n2]? = none := by
          rcases over with h | h
          · rw [hu] at h; cases h
          · exact h
        refine wpAny_bind (next_item (w1.far e₁.extBut D.i1z) (q1.far e₁.extBut D.l1z) hu fun g₂ w1₂ e₂ => wpAny_pure ?_)
        have gO₂ : IsPair g₂ ro a0 b0 := e₂.extBut _ _ D.TOi1 (e₁.extBut _ _ D.TOz gO)
        refine wpAny_bind (wpAny_seqItems gO₂ rfl ?_)
        refine wpAny_bind (wpAny_updateSeq_pair gO₂ fun g₃ gO₃ e₃ => ?_)
        refine wpAny_bind (wpAny_letGo (wpAny_pure ?_)); refine wpAny_bind (wpAny_bind (wpAny_onRaise (?_ : wpAny _ _ (Builtin.SmallTypes.nextOf (.ref j2) >>= _) _ _ _)))
        refine wpAny_bind (next_end hd (((w2.far e₁.extBut D.i2z).far e₂.extBut D.i12.symm).far e₃.extBut D.TOi2.symm) (((q2.far e₁.extBut D.l2z).far e₂.extBut D.l2i1).far e₃.extBut D.l2TO) hv fun g₄ e e₄ he => ?_)
        obtain ⟨oe, hoe, hce⟩ := he
        have gz₄ : IsZip g₄ zz ti ro .ellipsis := e₄ _ _ D.i2z.symm (e₃.extBut _ _ D.TOz.symm (e₂.extBut _ _ D.i1z.symm gz₁))
        have ne : e ≠ zz := fun x => by subst x; rw [gz₄] at hoe; cases hoe; simp at hce
        refine wpAny_setField_rec gz₄ (by simp) fun g₅ _ e₅ => fin g₅ e (fun c o c1 c2 c3 c4 x => e₅.extBut _ _ c1 (e₄ _ _ c4 (e₃.extBut _ _ c2 (e₂.extBut _ _ c3 (e₁.extBut _ _ c1 x))))) ⟨oe, e₅.extBut _ _ ne hoe, hce⟩))
theorem step_item {k1 k2 : Bool} {zz ti ro j1 j2 p1 p2 : Addr} {n1 n2 : Nat} {us vs : Array Value} {u v a0 b0 : Value} {Q : Option Value → Shared → Prop} (D : ZipApart zz ti ro j1 j2 p1 p2)
    (gz : IsZip s.heap zz ti ro .none) (gI : IsPair s.heap ti (.ref j1) (.ref j2)) (gO : IsPair s.heap ro a0 b0) (w1 : Wk k1 s.heap j1 p1 n1) (w2 : Wk k2 s.heap j2 p2 n2) (q1 : Sq k1 s.heap p1 us) (q2 : Sq k2 s.heap p2 vs)
    (gu : us[n1]? = some u) (gv : vs[n2]? = some v)
    (fin : ∀ g, IsZip g zz ti ro (rawInt s.heap.objs.size) → IsPair g ro u v → Wk k1 g j1 p1 (n1 + 1) → Wk k2 g j2 p2 (n2 + 1) → IsPair g s.heap.objs.size u v → g.objs.size = s.heap.objs.size + 1 →
      (∀ c o, c ≠ zz → c ≠ ro → c ≠ j1 → c ≠ j2 → s.heap.get? c = some o → g.get? c = some o) → Q (some (.ref s.heap.objs.size)) { s with heap := g }) : wpAny (model prog w) A (pyNext (.ref zz)) Q E s := by
  have ty : s.TypeIs (.ref zz) "zip" := ⟨_, gz, rfl⟩
  exact wpAny_bind (wpAny_attempt (wpAny_callSpecial?_slot (name := Str.ofString "__next__") ty F.slot_zip_next (wpAny_call_entry F.slot_zip_next ty F.entry_zip_next
    (zip_item D gz gI gO w1 w2 q1 q2 gu gv fun g a1 a2 a3 a4 a5 a6 a7 => wpAny_pure (fin g a1 a2 a3 a4 a5 a6 a7)) (F.args_zip_next_1 _))))
theorem step_stop {k1 k2 : Bool} {zz ti ro j1 j2 p1 p2 : Addr} {n1 n2 : Nat} {us vs : Array Value} {a0 b0 : Value} {Q : Option Value → Shared → Prop} (hd : A.handled = none) (D : ZipApart zz ti ro j1 j2 p1 p2)
    (gz : IsZip s.heap zz ti ro .none) (gI : IsPair s.heap ti (.ref j1) (.ref j2)) (gO : IsPair s.heap ro a0 b0) (w1 : Wk k1 s.heap j1 p1 n1) (w2 : Wk k2 s.heap j2 p2 n2) (q1 : Sq k1 s.heap p1 us) (q2 : Sq k2 s.heap p2 vs)
    (over : us[n1]? = none ∨ vs[n2]? = none)
    (fin : ∀ g, (∀ c o, c ≠ zz → c ≠ ro → c ≠ j1 → c ≠ j2 → s.heap.get? c = some o → g.get? c = some o) → Q none { s with heap := g }) : wpAny (model prog w) A (pyNext (.ref zz)) Q E s := by
  have ty : s.TypeIs (.ref zz) "zip" := ⟨_, gz, rfl⟩
  refine wpAny_bind (wpAny_attempt (wpAny_callSpecial?_slot (name := Str.ofString "__next__") ty F.slot_zip_next (wpAny_call_entry F.slot_zip_next ty F.entry_zip_next
    (zip_stop hd D gz gI gO w1 w2 q1 q2 over fun g e kept he => ?_) (F.args_zip_next_1 _))))
  obtain ⟨o, ho, hc⟩ := he
  exact wpAny_bind (wpAny_isInstance (T := "StopIteration") (b := true) ⟨o, ho, hc⟩ isSubtype_stop (wpAny_pure (fin _ kept)))
end
def z1 (k1 : Bool) (h : Heap) (l1 : Addr) : Heap := h.push (itObj k1 l1)
def z2 (k1 k2 : Bool) (h : Heap) (l1 l2 : Addr) : Heap := (z1 k1 h l1).push (itObj k2 l2)
def z3 (k1 k2 : Bool) (h : Heap) (l1 l2 : Addr) : Heap := (z2 k1 k2 h l1 l2).push { cls := .type "tuple", data := .seq #[.ref h.objs.size, .ref (z1 k1 h l1).objs.size] }
def z4 (k1 k2 : Bool) (h : Heap) (l1 l2 : Addr) : Heap := (z3 k1 k2 h l1 l2).push { cls := .type "tuple", data := .seq #[.none, .none] }
def z5 (k1 k2 : Bool) (h : Heap) (l1 l2 : Addr) : Heap := (z4 k1 k2 h l1 l2).push { cls := .type "zip", data := .fields #[.none, .bool false, .bool false, .ref (z2 k1 k2 h l1 l2).objs.size, .ref (z3 k1 k2 h l1 l2).objs.size] }
theorem meets_new (k1 k2 : Bool) (l1 l2 : Addr) (us vs : Array Value) : Meets (Builtin.«zip.__new__» ⟨[.type "zip", .ref l1, .ref l2], []⟩) (fun _ R s => Sq k1 s.heap l1 us ∧ Sq k2 s.heap l2 vs ∧
      R (.ok (.ret (.ref (z4 k1 k2 s.heap l1 l2).objs.size))) { s with heap := z5 k1 k2 s.heap l1 l2 }) :=
  .of_wp fun prog w A R s h => by
    obtain ⟨hp, gg, dd, tk, os⟩ := s; obtain ⟨b1, b2, h⟩ := h
    have sub := sub_zip
    cases k1 <;> cases k2
    · have B1 : Heap.IsList (Shared.heap ⟨hp, gg, dd, tk, os⟩) l1 us := b1
      have B2 : Heap.IsList (Shared.heap ⟨hp.push { cls := .type "list_iterator", data := .fields #[.ref l1, .int 0 0] }, gg, dd, tk, os⟩) l2 vs := Heap.IsList.push b2 _
      wp_walk using wpAny_pyIter_list B1, wpAny_pyIter_list B2
      exact ⟨_, rfl, h⟩
    · have B1 : Heap.IsList (Shared.heap ⟨hp, gg, dd, tk, os⟩) l1 us := b1
      have B2 : Heap.IsTuple (Shared.heap ⟨hp.push { cls := .type "list_iterator", data := .fields #[.ref l1, .int 0 0] }, gg, dd, tk, os⟩) l2 vs := Heap.IsTuple.push b2 _
      wp_walk using wpAny_pyIter_list B1, wpAny_pyIter_tuple B2
      exact ⟨_, rfl, h⟩
    · have B1 : Heap.IsTuple (Shared.heap ⟨hp, gg, dd, tk, os⟩) l1 us := b1
      have B2 : Heap.IsList (Shared.heap ⟨hp.push { cls := .type "tuple_iterator", data := .fields #[.ref l1, .int 0 0] }, gg, dd, tk, os⟩) l2 vs := Heap.IsList.push b2 _
      wp_walk using wpAny_pyIter_tuple B1, wpAny_pyIter_list B2
      exact ⟨_, rfl, h⟩
    · have B1 : Heap.IsTuple (Shared.heap ⟨hp, gg, dd, tk, os⟩) l1 us := b1
      have B2 : Heap.IsTuple (Shared.heap ⟨hp.push { cls := .type "tuple_iterator", data := .fields #[.ref l1, .int 0 0] }, gg, dd, tk, os⟩) l2 vs := Heap.IsTuple.push b2 _
      wp_walk using wpAny_pyIter_tuple B1, wpAny_pyIter_tuple B2
      exact ⟨_, rfl, h⟩
section
variable {prog : Program} {w : World} {A : Around} {E : Value → Shared → Prop} {s : Shared}
theorem call_new {k1 k2 : Bool} {l1 l2 : Addr} {us vs : Array Value} {Q : Value → Shared → Prop} (b1 : Sq k1 s.heap l1 us) (b2 : Sq k2 s.heap l2 vs)
    (fin : ∀ g, IsZip g (s.heap.objs.size + 4) (s.heap.objs.size + 2) (s.heap.objs.size + 3) .none → IsPair g (s.heap.objs.size + 2) (.ref s.heap.objs.size) (.ref (s.heap.objs.size + 1)) → IsPair g (s.heap.objs.size + 3) .none .none →
      Wk k1 g s.heap.objs.size l1 0 → Wk k2 g (s.heap.objs.size + 1) l2 0 → g.objs.size = s.heap.objs.size + 5 → (∀ c o, s.heap.get? c = some o → g.get? c = some o) → Q (.ref (s.heap.objs.size + 4)) { s with heap := g }) :
    wpAny (model prog w) A (call (.type "zip") [.ref l1, .ref l2]) Q E s := by
  refine callType_new F.called_zip (by decide) (F.typeCall_zip_2 _ _) (F.newCall_zip_2 _ _) (fun obj => F.args_object_init_3 obj _ _) F.entry_zip_new (meets_new k1 k2 l1 l2 us vs) ⟨b1, b2, ?_⟩
  have s1 : (z1 k1 s.heap l1).objs.size = s.heap.objs.size + 1 := Heap.size_push ..
  have s2 : (z2 k1 k2 s.heap l1 l2).objs.size = s.heap.objs.size + 2 := by unfold z2; rw [Heap.size_push, s1]
  have s3 : (z3 k1 k2 s.heap l1 l2).objs.size = s.heap.objs.size + 3 := by unfold z3; rw [Heap.size_push, s2]
  have s4 : (z4 k1 k2 s.heap l1 l2).objs.size = s.heap.objs.size + 4 := by unfold z4; rw [Heap.size_push, s3]
  have s5 : (z5 k1 k2 s.heap l1 l2).objs.size = s.heap.objs.size + 5 := by unfold z5; rw [Heap.size_push, s4]
  have f5 : (z5 k1 k2 s.heap l1 l2).get? (z4 k1 k2 s.heap l1 l2).objs.size = some _ := Heap.get?_push_size _ rfl
  have f4 : (z5 k1 k2 s.heap l1 l2).get? (z3 k1 k2 s.heap l1 l2).objs.size = some _ := Heap.get?_push_of_some _ (Heap.get?_push_size _ rfl)
  have f3 : (z5 k1 k2 s.heap l1 l2).get? (z2 k1 k2 s.heap l1 l2).objs.size = some _ := Heap.get?_push_of_some _ (Heap.get?_push_of_some _ (Heap.get?_push_size _ rfl))
  have f2 : (z5 k1 k2 s.heap l1 l2).get? (z1 k1 s.heap l1).objs.size = some (itObj k2 l2) := Heap.get?_push_of_some _ (Heap.get?_push_of_some _ (Heap.get?_push_of_some _ (Heap.get?_push_size _ rfl)))
  have f1 : (z5 k1 k2 s.heap l1 l2).get? s.heap.objs.size = some (itObj k1 l1) := Heap.get?_push_of_some _ (Heap.get?_push_of_some _ (Heap.get?_push_of_some _ (Heap.get?_push_of_some _ (Heap.get?_push_size _ rfl))))
  show _ ∧ _
  rw [s2, s3, s4] at f5
  rw [s1, s2] at f3
  rw [s3] at f4
  rw [s1] at f2
  rw [s4]
  have x1 : Wk k1 (z5 k1 k2 s.heap l1 l2) s.heap.objs.size l1 0 := by
    cases k1
    · exact ⟨_, f1, rfl, rfl⟩
    · exact ⟨_, f1, rfl, rfl⟩
  have x2 : Wk k2 (z5 k1 k2 s.heap l1 l2) (s.heap.objs.size + 1) l2 0 := by
    cases k2
    · exact ⟨_, f2, rfl, rfl⟩
    · exact ⟨_, f2, rfl, rfl⟩
  exact ⟨⟨_, f5, rfl⟩, fin _ f5 f3 f4 x1 x2 s5 fun c o x => Heap.get?_push_of_some _ (Heap.get?_push_of_some _ (Heap.get?_push_of_some _ (Heap.get?_push_of_some _ (Heap.get?_push_of_some _ x))))⟩
end
end ZK

end
section
set_option maxHeartbeats 2000000
/-! GT: zip over lists and tuples mixed, as a rule and as a reading. -/
namespace ZK
open PySem PySem.Spec PyProof.Rows L2
def SqV (k : Bool) (K : PySem.W.Frag) (H : Hp) (a : Addr) (xs : List V) : Prop := match k with
  | true => SqT K H a xs
  | false => SqL K H a xs
theorem SqV.here {k : Bool} {X : Cx} {pins : List (Addr × Obj)} {σ : L2.St} {H : Hp} {s : Shared} {a : Addr} {xs : List V} (I : Inv X pins σ H s) (q : SqV k X.K H a xs) : ∃ its, Vals xs its ∧ Sq k s.heap a its.toArray := by
  cases k
  · obtain ⟨its, rv, p, _⟩ := I.list q; exact ⟨its, rv, p.isList⟩
  · obtain ⟨its, rv, p, _⟩ := I.tuple q; exact ⟨its, rv, p⟩
theorem SqV.one {k : Bool} {X : Cx} {pins : List (Addr × Obj)} {σ : L2.St} {H : Hp} {s : Shared} {a : Addr} {xs ys : List V} (I : Inv X pins σ H s) (q : SqV k X.K H a xs) (q2 : SqV k X.K H a ys) : xs = ys := by
  cases k
  · exact I.list_inj q q2
  · exact I.tuple_inj q q2
/-- the sources at a and b as they stand at each turn -/
def ItzK (k1 k2 : Bool) (K : PySem.W.Frag) (a b : Addr) : It :=
  ⟨fun i H => ∃ xs ys x y, SqV k1 K H a xs ∧ SqV k2 K H b ys ∧ xs[i]? = some x ∧ ys[i]? = some y,
    fun i H v H' => ∃ T x y, v = .ref T ∧ H T = none ∧ H' = upd H T (.tup [x, y]) ∧ (∀ xs, SqV k1 K H a xs → xs[i]? = some x) ∧ ∀ ys, SqV k2 K H b ys → ys[i]? = some y,
    fun i H => ∃ xs ys, SqV k1 K H a xs ∧ SqV k2 K H b ys ∧ (xs.length ≤ i ∨ ys.length ≤ i)⟩
theorem five {zz ti ro j1 j2 c : Addr} (h : c ∈ [zz, ti, ro, j1, j2]) : c = zz ∨ c = ti ∨ c = ro ∨ c = j1 ∨ c = j2 := by simpa using h
theorem turnK {k1 k2 : Bool} {P : Program} {w : World} {K : PySem.W.Frag} {elts : List Expr} {kk : Nat} {tpos : Pos} {a b zz ti ro j1 j2 : Addr} (D : ZipApart zz ti ro j1 j2 a b) :
    Turn P w K (.Tuple elts kk tpos) (ItzK k1 k2 K a b) [zz, ti, ro, j1, j2] zz (fun i h => IsZip h zz ti ro .none ∧ IsPair h ti (.ref j1) (.ref j2) ∧ (∃ x y, IsPair h ro x y) ∧ Wk k1 h j1 a i ∧ Wk k2 h j2 b i) where
  mem := by simp
  obj := fun i h st c hc => by
    obtain ⟨gz, gI, ⟨x, y, gO⟩, w1, w2⟩ := st
    obtain ⟨o1, e1, d1⟩ := w1.obj
    obtain ⟨o2, e2, d2⟩ := w2.obj
    rcases five hc with q | q | q | q | q
    · exact q ▸ ⟨_, gz, fun v q => nomatch q⟩
    · exact q ▸ ⟨_, gI, fun v q => nomatch q⟩
    · exact q ▸ ⟨_, gO, fun v q => nomatch q⟩
    · exact q ▸ ⟨o1, e1, fun v q => by rw [d1] at q; cases q⟩
    · exact q ▸ ⟨o2, e2, fun v q => by rw [d2] at q; cases q⟩
  keep := fun i h h' st k => by
    obtain ⟨gz, gI, ⟨x, y, gO⟩, w1, w2⟩ := st
    exact ⟨k zz (by simp) _ gz, k ti (by simp) _ gI, ⟨x, y, k ro (by simp) _ gO⟩, w1.keep fun o q => k j1 (by simp) o q, w2.keep fun o q => k j2 (by simp) o q⟩
  item := by
    intro X hP hw hK hc i pins s σ H E I hf st hg
    subst hP hw hK
    obtain ⟨gz, gI, ⟨x0, y0, gO⟩, w1, w2⟩ := st
    obtain ⟨xs, ys, x, y, hqx, hqy, hx, hy⟩ := hg
    obtain ⟨us, rv, q1⟩ := hqx.here I
    obtain ⟨vs, rv2, q2⟩ := hqy.here I
    obtain ⟨u, hu, ru⟩ := rv.get hx
    obtain ⟨v, hv, rw2⟩ := rv2.get hy
    have zl : zz < s.heap.objs.size := Heap.lt_size gz
    refine step_item D gz gI gO w1 w2 q1 q2 (u := u) (v := v) (by simpa using hu) (by simpa using hv) fun g gz' gO' w1' w2' gT hsz kept => ?_
    refine ⟨_, rfl, wpAny_letOwnedTupleGo_zip (s := { s with heap := g }) gz' fun g2 gz2 sb => ?_⟩
    have gT2 : g2.get? s.heap.objs.size = some { cls := .type "tuple", data := .seq #[u, v] } := (sb.2 _ (Nat.ne_of_gt zl)).trans gT
    have new : ObjOk X.prog X.w (upd H s.heap.objs.size (.tup [x, y])) g2 s.heap.objs.size (.tup [x, y]) := ⟨by show 2 ≤ sizeLine; decide, [u, v], .cons ru (.cons rw2 .nil), ⟨_, gT2, rfl, _, rfl⟩⟩
    have notIn : ∀ {c}, c ∉ [zz, ti, ro, j1, j2] → c ≠ zz ∧ c ≠ ti ∧ c ≠ ro ∧ c ≠ j1 ∧ c ≠ j2 := fun {c} hb => by simpa using hb
    have I1 : Inv X pins σ (upd H s.heap.objs.size (.tup [x, y])) { s with heap := g2 } := I.turnedNew (t' := s.toks) (ch := [zz, ti, ro, j1, j2]) (fun c o hb q =>
      (sb.2 c (notIn hb).1).trans (kept c o (notIn hb).1 (notIn hb).2.2.1 (notIn hb).2.2.2.1 (notIn hb).2.2.2.2 q)) hf (Nat.le_refl _) new
    refine ⟨.ref s.heap.objs.size, _, I1, rfl, ⟨_, x, y, rfl, I.hok.fresh (Nat.le_refl _), rfl, fun l hl => by rw [SqV.one I hl hqx]; exact hx, fun l hl => by rw [SqV.one I hl hqy]; exact hy⟩,
      ⟨gz2, (sb.2 _ D.TIz).trans (kept _ _ D.TIz D.TITO D.TIi1 D.TIi2 gI), ⟨u, v, (sb.2 _ D.TOz).trans gO'⟩, w1'.keep fun o q => (sb.2 _ D.i1z).trans q, w2'.keep fun o q => (sb.2 _ D.i2z).trans q⟩, fun c hcm => ?_⟩
    have hlt : c < s.heap.objs.size := by
      rcases five hcm with q | q | q | q | q
      · exact q ▸ zl
      · exact q ▸ Heap.lt_size gI
      · exact q ▸ Heap.lt_size gO
      · exact q ▸ w1.lt
      · exact q ▸ w2.lt
    show (upd H s.heap.objs.size (.tup [x, y])) c = none
    rw [upd_ne (Nat.ne_of_lt hlt)]; exact (hf c hcm).1
  done := by
    intro X hP hw hK hc i pins s σ H E I hf st hg
    subst hP hw hK
    obtain ⟨gz, gI, ⟨x0, y0, gO⟩, w1, w2⟩ := st
    obtain ⟨xs, ys, hqx, hqy, hend⟩ := hg
    obtain ⟨us, rv, q1⟩ := hqx.here I
    obtain ⟨vs, rv2, q2⟩ := hqy.here I
    have l1 := rv.length
    have l2 := rv2.length
    have over : us.toArray[i]? = none ∨ vs.toArray[i]? = none := by
      rcases hend with q | q
      · left; simp; omega
      · right; simp; omega
    have notIn : ∀ {c}, c ∉ [zz, ti, ro, j1, j2] → c ≠ zz ∧ c ≠ ti ∧ c ≠ ro ∧ c ≠ j1 ∧ c ≠ j2 := fun {c} hb => by simpa using hb
    exact step_stop (I.ok.hd hc) D gz gI gO w1 w2 q1 q2 over fun g kept => ⟨rfl, I.turnedL (t' := s.toks) (ch := [zz, ti, ro, j1, j2]) (fun c o hb q => kept c o (notIn hb).1 (notIn hb).2.2.1 (notIn hb).2.2.2.1 (notIn hb).2.2.2.2 q) hf⟩
  self := fun A i s Q E st h => wpAny_pyIter_zip st.1 h
def iZipK (K : PySem.W.Frag) (ta : TA) : TI := fun σ H R => ta σ H fun vs H1 => ∃ k1 k2 a b xs ys, vs = [.ref a, .ref b] ∧ SqV k1 K H1 a xs ∧ SqV k2 K H1 b ys ∧ R (ItzK k1 k2 K a b) H1
theorem pi_zipK {X : Cx} {e e2 : Expr} {ta : TA} {p pos tpos : Pos} {elts : List Expr} {kk : Nat} (hg : Gl X "zip") (hm : X.mg "zip" = none) (ha : PA X [e, e2] ta)
    (hs : starEach [e, e2] X.env = (false, eval e X.env) :: starEach [e2] X.env) (hpl : (backTo pos (starEach [e2] X.env)).any (·.1) = false) : PI X (.Tuple elts kk tpos) (.Call (.Name "zip" p) [e, e2] [] pos) (iZipK X.K ta) := by
  refine ⟨fun pins s σ H R I h => Call_ (ld_blt I hg hm PyProof.Rows.boot_zip (PyProof.Rows.callWith_type1 (thn (ha.run pos pins s σ H _ I h) fun us s1 ⟨vs, H1, I1, r1, q1⟩ => ?_) hs hpl))⟩
  obtain ⟨k1, k2, a, b, xs, ys, rfl, hqx, hqy, q⟩ := q1
  obtain ⟨u1, u2, rfl, r, r'⟩ : ∃ u1 u2, us = [u1, u2] ∧ RelV (.ref a) u1 ∧ RelV (.ref b) u2 := by
    cases r1 with
    | cons r rr =>
      cases rr with
      | cons r' rr => cases rr; exact ⟨_, _, rfl, r, r'⟩
  cases r
  cases r'
  obtain ⟨us, rv, b1⟩ := hqx.here I1
  obtain ⟨vs, rv2, b2⟩ := hqy.here I1
  have fresh : ∀ c, c ∈ [s1.heap.objs.size + 4, s1.heap.objs.size + 2, s1.heap.objs.size + 3, s1.heap.objs.size, s1.heap.objs.size + 1] → FpOk X pins H1 c := fun c hcm => by
    have hle : s1.heap.objs.size ≤ c := by
      rcases five hcm with z | z | z | z | z <;> rw [z]
      all_goals first | exact Nat.le_add_right _ _ | exact Nat.le_refl _
    exact I1.fpOk hle (I1.hok.fresh hle)
  refine call_new b1 b2 fun g gz gI gO w1 w2 hsz hk => wpAny_pyIter_zip gz ?_
  have I2 : Inv X pins σ H1 { s1 with heap := g } := I1.kept (t' := s1.toks) hk
  exact ⟨s1.heap.objs.size + 4, [s1.heap.objs.size + 4, s1.heap.objs.size + 2, s1.heap.objs.size + 3, s1.heap.objs.size, s1.heap.objs.size + 1], _, _, H1, rfl, I2, turnK (PySem.W.ktu_apart s1.heap.objs.size a b b1.lt b2.lt), ⟨gz, gI, ⟨_, _, gO⟩, w1, w2⟩, fresh, q⟩
end ZK

end
section
set_option maxHeartbeats 2000000
/-! GU: a tuple taken no times, or once. -/
namespace G
open PySem PySem.Spec PyProof.Rows L2
theorem tmul0 (a : Addr) (ys : Array Value) (m : Nat) (e : Option Addr) (w : Array (Option Value)) (u : Tok) (hy : ys.isEmpty = false) :
    Meets (Builtin.«tuple.__mul__» ⟨[.ref a, .int 0 u], []⟩) (fun _ R z => z.heap.get? a = some { cls := .type "tuple", dict := e, data := .seq ys m, slots := w } ∧
      R (.ok (.ret (Value.ref z.heap.objs.size))) { z with heap := z.heap.push { cls := Value.type "tuple", data := Data.seq #[] }, toks := z.toks }) :=
  .of_wp fun prog w A R z h => by
    obtain ⟨hp, g, d, tk, os⟩ := z
    obtain ⟨ha, h⟩ := h
    have i1 := AutoSeq1.idx_int
    have c1 : (ys.isEmpty || (0 : Int) == 1) = false := by rw [hy]; rfl
    have c2 : (decide ((0 : Int) ≤ 0) || ys.isEmpty) = true := rfl
    wp_walk using wpAny_loadPart' ha
    repeat (first
      | (refine wpAny_ite_false (by decide) ?_; wp_walk using wpAny_loadPart' ha)
      | (refine wpAny_ite_false (decide_eq_false (by rw [c1]; exact Bool.false_ne_true)) ?_; wp_walk using wpAny_loadPart' ha)
      | (refine wpAny_ite_true (decide_eq_true (by rw [c2])) ?_; wp_walk using wpAny_loadPart' ha))
    exact ⟨_, rfl, h⟩
theorem tmul1 (a : Addr) (ys : Array Value) (m : Nat) (e : Option Addr) (w : Array (Option Value)) (u : Tok) :
    Meets (Builtin.«tuple.__mul__» ⟨[.ref a, .int 1 u], []⟩) (fun _ R z => z.heap.get? a = some { cls := .type "tuple", dict := e, data := .seq ys m, slots := w } ∧
      R (.ok (.ret (Value.ref a))) z) :=
  .of_wp fun prog w A R z h => by
    obtain ⟨hp, g, d, tk, os⟩ := z
    obtain ⟨ha, h⟩ := h
    have i1 := AutoSeq1.idx_int
    have c1 : (ys.isEmpty || (1 : Int) == 1) = true := by cases ys.isEmpty <;> rfl
    wp_walk using wpAny_loadPart' ha
    repeat (first
      | (refine wpAny_ite_false (by decide) ?_; wp_walk using wpAny_loadPart' ha)
      | (refine wpAny_ite_true (decide_eq_true (by rw [c1])) ?_; wp_walk using wpAny_loadPart' ha))
    exact ⟨_, rfl, h⟩
def rTm0 (K : PySem.W.Frag) : R2 := fun x y H Q => ∃ a xs, x = .ref a ∧ y = .int 0 ∧ SqT K H a xs ∧ xs ≠ [] ∧ ∀ p, H p = none → Q (.ref p) (upd H p (.tup []))
def rTm1 (K : PySem.W.Frag) : R2 := fun x y H Q => ∃ a xs, x = .ref a ∧ y = .int 1 ∧ SqT K H a xs ∧ Q x H
section
variable {X : Cx}
theorem op_tm0 : OpR X (binaryOp .Mult) (rTm0 X.K) := by
  intro pins z σ H x y v w Q I rx ry h
  obtain ⟨a, xs, rfl, rfl, hT, hne, q⟩ := h
  cases rx
  obtain ⟨u, rfl⟩ := ry
  obtain ⟨ys, r, ⟨⟨c, e, dat, sw⟩, ho, hc, m, hd⟩, _⟩ := I.tuple hT
  simp only at hc hd
  subst hc hd
  have hy : ys.toArray.isEmpty = false := by
    cases ys with
    | nil => exact absurd (List.eq_nil_of_length_eq_zero r.length) hne
    | cons _ _ => rfl
  refine wpAny_binaryOp_repeat_ref (T := "tuple") (U := "int") (by decide) ⟨_, ho, rfl⟩ (fun z' => typeIs_int z' 0 u) noFill_tuple_mul F.fills_int_mul F.slot_int_rmul repeat_tuple F.slot_int_index.lookup
    (call_meets F.slot_int_rmul (typeIs_int z 0 u) F.entry_int_rmul (F.args_int_rmul_2 _ _) (int_rmul_tuple 0 u a ys.toArray m e sw)
      ⟨ho, rfl, ⟨_, ho, rfl⟩, call_meets F.slot_tuple_mul ⟨_, ho, rfl⟩ F.entry_tuple_mul (F.args_tuple_mul_2 _ _) (tmul0 a ys.toArray m e sw u hy) ⟨ho, ?_⟩⟩)
  refine ⟨.ref z.heap.objs.size, _, I.laid (t' := z.toks) (o := .tup []) (fun b ob g => Heap.get?_push_of_some _ g) (Nat.le_refl _) ?_, rfl, q _ (I.hok.fresh (Nat.le_refl _))⟩
  exact ⟨Nat.zero_le _, _, .nil, IsTup.new _ _⟩
theorem op_tm1 : OpR X (binaryOp .Mult) (rTm1 X.K) := by
  intro pins z σ H x y v w Q I rx ry h
  obtain ⟨a, xs, rfl, rfl, hT, q⟩ := h
  cases rx
  obtain ⟨u, rfl⟩ := ry
  obtain ⟨ys, r, ⟨⟨c, e, dat, sw⟩, ho, hc, m, hd⟩, _⟩ := I.tuple hT
  simp only at hc hd
  subst hc hd
  refine wpAny_binaryOp_repeat_ref (T := "tuple") (U := "int") (by decide) ⟨_, ho, rfl⟩ (fun z' => typeIs_int z' 1 u) noFill_tuple_mul F.fills_int_mul F.slot_int_rmul repeat_tuple F.slot_int_index.lookup
    (call_meets F.slot_int_rmul (typeIs_int z 1 u) F.entry_int_rmul (F.args_int_rmul_2 _ _) (int_rmul_tuple 1 u a ys.toArray m e sw)
      ⟨ho, rfl, ⟨_, ho, rfl⟩, call_meets F.slot_tuple_mul ⟨_, ho, rfl⟩ F.entry_tuple_mul (F.args_tuple_mul_2 _ _) (tmul1 a ys.toArray m e sw u) ⟨ho, ?_⟩⟩)
  exact ⟨.ref a, H, I, rfl, q⟩
end
end G

end
section
set_option maxHeartbeats 2000000
/-! GA: a layer over the hand layer. Values are plain data (trees); a def's own lists are owned places of a small store; the heap is hidden in a world. -/
namespace G
open PySem L2
/-- a value: plain data, an owned list (its place), the law's source of draws, the law's script, any other value as it is -/
inductive DV where
  | d (x : PyData)
  | o (k : Nat)
  | deal
  | scr (ns : List Int)
  | raw (v : V)
/-- an owned list: its items; whether it may still change -/
structure Own where
  xs : List PyData
  live : Bool
/-- the slots and the owned lists -/
structure S where
  s : List (Option DV)
  m : List Own
def Ext (H H' : Hp) : Prop := ∀ a o, H a = some o → H' a = some o
theorem Ext.refl (H : Hp) : Ext H H := fun _ _ h => h
theorem Ext.trans {H H1 H2 : Hp} (a : Ext H H1) (b : Ext H1 H2) : Ext H H2 := fun x o h => b x o (a x o h)
theorem Ext.new {H : Hp} {p : Addr} {o : HO} (h : H p = none) : Ext H (upd H p o) := fun a u e => by
  rw [upd_ne (ne_of_none e h)]
  exact e
theorem Ext.back {H H' : Hp} {p : Addr} (e : Ext H H') (h : H' p = none) : H p = none := by
  cases h1 : H p with
  | none => rfl
  | some o => rw [e p o h1] at h; cases h
theorem ext_rd {H H' : Hp} {a : Addr} {u : HO} (e : Ext H H') (h : Rd H a u) : Rd H' a u := by
  rcases h with h | ⟨o, h⟩
  · exact Or.inl (e a _ h)
  · exact Or.inr ⟨o, e a _ h⟩
theorem ext_l {K : PySem.W.Frag} {H H' : Hp} {a : Addr} {xs : List V} (e : Ext H H') (h : SqL K H a xs) : SqL K H' a xs := by
  rcases h with h | h
  · exact Or.inl (ext_rd e h)
  · exact Or.inr h
theorem ext_t {K : PySem.W.Frag} {H H' : Hp} {a : Addr} {xs : List V} (e : Ext H H') (h : SqT K H a xs) : SqT K H' a xs := by
  rcases h with h | h
  · exact Or.inl (ext_rd e h)
  · exact Or.inr h
mutual
/-- plain data as it lies in the heap; its lists are tracked -/
inductive Dq (K : PySem.W.Frag) (H : Hp) : V → PyData → Prop
  | non : Dq K H .non .none
  | bl (b : Bool) : Dq K H (.bl b) (.bool b)
  | int (i : Int) : Dq K H (.int i) (.int i)
  | str (x : Str) : Dq K H (.str x) (.str x)
  | lst {a : Addr} {xs : List V} {ds : List PyData} : H a = some (.lst xs) → DqA K H xs ds → Dq K H (.ref a) (.list ds)
  | tup {a : Addr} {xs : List V} {ds : List PyData} : SqT K H a xs → DqA K H xs ds → Dq K H (.ref a) (.tuple ds)
  | dic {a : Addr} : H a = some (.dK []) → Dq K H (.ref a) (.dict [])
inductive DqA (K : PySem.W.Frag) (H : Hp) : List V → List PyData → Prop
  | nil : DqA K H [] []
  | cons {v : V} {vs : List V} {d : PyData} {ds : List PyData} : Dq K H v d → DqA K H vs ds → DqA K H (v :: vs) (d :: ds)
end
mutual
theorem dq_dp {K : PySem.W.Frag} {D : Hp} : ∀ (x : PyData) (v : V), x.canLay0 = true → Dq K D v x → Dp K D v x
  | .none, _, _, h => by cases h; exact .non
  | .bool b, _, _, h => by cases h; exact .bl b
  | .int i, _, _, h => by cases h; exact .int i
  | .str s, _, _, h => by cases h; exact .str s
  | .list ds, _, l, h => by
    cases h with
    | lst s a => exact .lst (SqL.of s) (dqa_dp ds _ (by simpa [PyData.canLay0] using l) a)
  | .tuple ds, _, l, h => by
    cases h with
    | tup s a => exact .tup s (dqa_dp ds _ (by simpa [PyData.canLay0] using l) a)
  | .dict _, _, l, _ => by simp [PyData.canLay0] at l
theorem dqa_dp {K : PySem.W.Frag} {D : Hp} : ∀ (xs : List PyData) (vs : List V), PyData.canLayAll0 xs = true → DqA K D vs xs → DpAll K D vs xs
  | [], _, _, h => by cases h; exact .nil
  | x :: xs, _, l, h => by
    have l2 : x.canLay0 = true ∧ PyData.canLayAll0 xs = true := by simpa [PyData.canLayAll0] using l
    cases h with
    | cons a b => exact .cons (dq_dp x _ l2.1 a) (dqa_dp xs _ l2.2 b)
end
theorem lay_of {x : PyData} (h : SeqAt.shaped x = true) : x.canLay0 = true := by
  unfold SeqAt.shaped at h
  simp only [Bool.and_eq_true] at h
  exact h.1
mutual
theorem dq_up {K : PySem.W.Frag} {D D' : Hp} (e : Ext D D') : ∀ (x : PyData) (v : V), Dq K D v x → Dq K D' v x
  | .none, _, h => by cases h; exact .non
  | .bool b, _, h => by cases h; exact .bl b
  | .int i, _, h => by cases h; exact .int i
  | .str s, _, h => by cases h; exact .str s
  | .list ds, _, h => by
    cases h with
    | lst s a => exact .lst (e _ _ s) (dqa_up e ds _ a)
  | .tuple ds, _, h => by
    cases h with
    | tup s a => exact .tup (ext_t e s) (dqa_up e ds _ a)
  | .dict _, _, h => by
    cases h with
    | dic q => exact .dic (e _ _ q)
theorem dqa_up {K : PySem.W.Frag} {D D' : Hp} (e : Ext D D') : ∀ (xs : List PyData) (vs : List V), DqA K D vs xs → DqA K D' vs xs
  | [], _, h => by cases h; exact .nil
  | x :: xs, _, h => by
    cases h with
    | cons a b => exact .cons (dq_up e x _ a) (dqa_up e xs _ b)
end
theorem dqa_len {K : PySem.W.Frag} {D : Hp} : ∀ {xs : List PyData} {vs : List V}, DqA K D vs xs → vs.length = xs.length
  | [], _, h => by cases h; rfl
  | x :: xs, _, h => by
    cases h with
    | cons a b => simp [dqa_len b]
theorem dqa_app {K : PySem.W.Frag} {D : Hp} : ∀ {xs ys : List PyData} {vs us : List V}, DqA K D vs xs → DqA K D us ys → DqA K D (vs ++ us) (xs ++ ys)
  | [], _, _, _, h, h' => by cases h; exact h'
  | x :: xs, _, _, _, h, h' => by
    cases h with
    | cons a b => exact .cons a (dqa_app b h')
theorem dqa_get {K : PySem.W.Frag} {D : Hp} : ∀ {xs : List PyData} {vs : List V} {i : Nat} {x : PyData}, DqA K D vs xs → xs[i]? = some x → ∃ v, vs[i]? = some v ∧ Dq K D v x
  | [], _, _, _, h, e => by simp at e
  | y :: xs, _, 0, x, h, e => by
    cases h with
    | cons a b =>
      simp at e; subst e
      exact ⟨_, rfl, a⟩
  | y :: xs, _, i + 1, x, h, e => by
    cases h with
    | cons a b =>
      obtain ⟨v, h1, h2⟩ := dqa_get (i := i) (x := x) b (by simpa using e)
      exact ⟨v, by simpa using h1, h2⟩
theorem dqa_getV {K : PySem.W.Frag} {D : Hp} : ∀ {xs : List PyData} {vs : List V} {i : Nat} {v : V}, DqA K D vs xs → vs[i]? = some v → ∃ x, xs[i]? = some x ∧ Dq K D v x
  | _, [], _, _, h, e => by simp at e
  | _, u :: vs, 0, v, h, e => by
    cases h with
    | cons a b =>
      simp at e; subst e
      exact ⟨_, rfl, a⟩
  | _, u :: vs, i + 1, v, h, e => by
    cases h with
    | cons a b =>
      obtain ⟨x, h1, h2⟩ := dqa_getV (i := i) (v := v) b (by simpa using e)
      exact ⟨x, by simpa using h1, h2⟩
theorem dqa_take {K : PySem.W.Frag} {D : Hp} : ∀ (n : Nat) {xs : List PyData} {vs : List V}, DqA K D vs xs → DqA K D (vs.take n) (xs.take n)
  | 0, _, _, _ => by simp; exact .nil
  | n + 1, _, _, h => by
    cases h with
    | nil => simp; exact .nil
    | cons a b => exact .cons a (dqa_take n b)
theorem dqa_drop {K : PySem.W.Frag} {D : Hp} : ∀ (n : Nat) {xs : List PyData} {vs : List V}, DqA K D vs xs → DqA K D (vs.drop n) (xs.drop n)
  | 0, _, _, h => by simpa using h
  | n + 1, _, _, h => by
    cases h with
    | nil => simp; exact .nil
    | cons a b => exact dqa_drop n b
theorem dqa_set {K : PySem.W.Frag} {D : Hp} {v : V} {x : PyData} (hv : Dq K D v x) : ∀ (i : Nat) {xs : List PyData} {vs : List V}, DqA K D vs xs → DqA K D (vs.set i v) (xs.set i x)
  | _, _, _, .nil => .nil
  | 0, _, _, .cons a b => .cons hv b
  | i + 1, _, _, .cons a b => .cons a (dqa_set hv i b)
theorem dqa_rev {K : PySem.W.Frag} {D : Hp} : ∀ {xs : List PyData} {vs : List V}, DqA K D vs xs → DqA K D vs.reverse xs.reverse
  | _, _, .nil => .nil
  | _, _, .cons a b => by
    rw [List.reverse_cons, List.reverse_cons]
    exact dqa_app (dqa_rev b) (.cons a .nil)
theorem dqa_rep {K : PySem.W.Frag} {D : Hp} {v : V} {x : PyData} (hv : Dq K D v x) : ∀ n, DqA K D (List.replicate n v) (List.replicate n x)
  | 0 => .nil
  | n + 1 => .cons hv (dqa_rep hv n)

/-! ### worlds -/
/-- a source of draws: a list of great numbers at b and a small number; it stands apart from the other ones -/
def DealAt (da : List (Addr × Addr)) (H : Hp) (a b : Addr) : Prop := (a ≠ b ∧ ∀ a' b', (a', b') ∈ da → (a' = a ∧ b' = b) ∨ (a' ≠ a ∧ a' ≠ b ∧ b' ≠ a ∧ b' ≠ b)) ∧
  ∃ (n : Int) (gs : List Int), H a = some (.lst [.ref b, .int n]) ∧ H b = some (.lst (gs.map V.int)) ∧ 0 ≤ n ∧ n < 2147483647 ∧ (∀ g ∈ gs, 0 ≤ g) ∧ gs.length ≤ 1000
/-- D: what never changes; F: what the callers hold; r: where the owned lists are; da: where the sources of draws are -/
structure Wd where
  D : Hp
  F : Hp
  r : List Addr
  da : List (Addr × Addr)
structure Le (w w' : Wd) : Prop where
  D : Ext w.D w'.D
  F : Ext w.F w'.F
  r : ∀ (k : Nat) (a : Addr), w.r[k]? = some a → w'.r[k]? = some a
  da : ∀ p, p ∈ w.da → p ∈ w'.da
theorem Le.refl (w : Wd) : Le w w := ⟨Ext.refl _, Ext.refl _, fun _ _ h => h, fun _ h => h⟩
theorem Le.trans {a b c : Wd} (x : Le a b) (y : Le b c) : Le a c := ⟨x.D.trans y.D, x.F.trans y.F, fun k a h => y.r k a (x.r k a h), fun p h => y.da p (x.da p h)⟩
/-- as Le, the owned lists left out -/
structure LeR (w w' : Wd) : Prop where
  D : Ext w.D w'.D
  F : Ext w.F w'.F
  da : ∀ p, p ∈ w.da → p ∈ w'.da
theorem Le.R {w w' : Wd} (l : Le w w') : LeR w w' := ⟨l.D, l.F, l.da⟩
theorem LeR.trans {a b c : Wd} (x : LeR a b) (y : LeR b c) : LeR a c := ⟨x.D.trans y.D, x.F.trans y.F, fun p h => y.da p (x.da p h)⟩
def RepV (K : PySem.W.Frag) (w : Wd) (v : V) : DV → Prop
  | .d x => Dq K w.D v x
  | .o k => ∃ a, w.r[k]? = some a ∧ v = .ref a
  | .deal => ∃ a b, (a, b) ∈ w.da ∧ v = .ref a
  | .scr ns => ∃ a, v = .ref a ∧ SqL K w.D a (ns.map V.int)
  | .raw u => v = u
theorem RepV.up {K : PySem.W.Frag} {w w' : Wd} {v : V} {x : DV} (h : RepV K w v x) (l : Le w w') : RepV K w' v x := by
  cases x with
  | d x => exact dq_up l.D x v h
  | o k => obtain ⟨a, h1, h2⟩ := h; exact ⟨a, l.r k a h1, h2⟩
  | deal => obtain ⟨a, b, h1, h2⟩ := h; exact ⟨a, b, l.da _ h1, h2⟩
  | scr ns => obtain ⟨a, h1, h2⟩ := h; exact ⟨a, h1, ext_l l.D h2⟩
  | raw u => exact h
/-- the tables of code objects stand; neither D nor F holds a table -/
structure TabG (D F H : Hp) : Prop where
  tab : LamX.Tabs Tbs H
  dt : ∀ a ps, D a ≠ some (.tbl ps)
  ft : ∀ a ps, F a ≠ some (.tbl ps)
/-- tables stay where all but lists stays -/
theorem tabs_kept {T : List (Addr × Str)} {H H' : Hp} (t : LamX.Tabs T H) (k : ∀ b o, H b = some o → (∀ vs, o ≠ .lst vs) → H' b = some o) : LamX.Tabs T H' := fun p hp => by
  obtain ⟨ps, h1, h2, h3⟩ := t p hp
  refine ⟨ps, k _ _ h1 (fun vs e => by cases e), h2, fun pos cv hc => ?_⟩
  obtain ⟨c, e1, e2⟩ := h3 pos cv hc
  exact ⟨c, e1, k _ _ e2 (fun vs e => by unfold LamX.CodeO at e; cases e)⟩
theorem tabs_new {T : List (Addr × Str)} {H : Hp} {p : Addr} {o : HO} (t : LamX.Tabs T H) (h : H p = none) : LamX.Tabs T (upd H p o) := tabs_kept t fun b u e _ => by rw [upd_ne (ne_of_none e h)]; exact e
theorem tabs_put {T : List (Addr × Str)} {H : Hp} {p : Addr} {us : List V} {o : HO} (t : LamX.Tabs T H) (h : H p = some (.lst us)) : LamX.Tabs T (upd H p o) := tabs_kept t fun b u e n => by
  rw [upd_ne (fun z => by rw [z, h] at e; cases e; exact n us rfl)]; exact e
theorem nt_upd {D : Hp} {p : Addr} {o : HO} (ho : ∀ ps, o ≠ .tbl ps) (h : ∀ a ps, D a ≠ some (.tbl ps)) : ∀ a ps, upd D p o a ≠ some (.tbl ps) := fun a ps e => by
  by_cases ha : a = p
  · subst ha; rw [upd_same] at e; cases e; exact ho ps rfl
  · rw [upd_ne ha] at e; exact h a ps e
structure RepH (K : PySem.W.Frag) (w : Wd) (m : List Own) (H : Hp) : Prop where
  ed : Ext w.D H
  ef : Ext w.F H
  df : ∀ a o, w.F a = some o → w.D a = none
  len : w.r.length = m.length
  own : ∀ (k : Nat) (a : Addr) (ow : Own), w.r[k]? = some a → m[k]? = some ow → ∃ vs, H a = some (.lst vs) ∧ DqA K w.D vs ow.xs ∧ w.F a = none ∧ (ow.live = true → w.D a = none) ∧ (ow.live = false → w.D a = some (.lst vs))
  nd : w.r.Nodup
  deal : ∀ a b, (a, b) ∈ w.da → DealAt w.da H a b ∧ w.D a = none ∧ w.D b = none ∧ w.F a = none ∧ w.F b = none ∧ a ∉ w.r ∧ b ∉ w.r
  tb : TabG w.D w.F H
def RepO (K : PySem.W.Frag) (w : Wd) : Option V → Option DV → Prop
  | none, none => True
  | some v, some x => RepV K w v x
  | _, _ => False
theorem RepO.up {K : PySem.W.Frag} {w w' : Wd} {v : Option V} {x : Option DV} (h : RepO K w v x) (l : Le w w') : RepO K w' v x := by
  cases v <;> cases x <;> first | exact h | exact RepV.up h l
abbrev RepL (K : PySem.W.Frag) (w : Wd) : List (Option V) → List (Option DV) → Prop := Paired (RepO K w)
theorem RepL.up {K : PySem.W.Frag} {w w' : Wd} (l : Le w w') {σ : List (Option V)} {s : List (Option DV)} (h : RepL K w σ s) : RepL K w' σ s := Paired.mapP h fun _ _ r => r.up l
theorem RepL.get {K : PySem.W.Frag} {w : Wd} : ∀ {σ : List (Option V)} {s : List (Option DV)} {i : Nat} {x : DV}, RepL K w σ s → s[i]? = some (some x) → ∃ v, σ[i]? = some (some v) ∧ RepV K w v x
  | _, _, _, _, .nil, e => by simp at e
  | _, _, 0, x, .cons (a := v) r _, e => by
    simp at e; subst e
    cases v with
    | none => exact r.elim
    | some v => exact ⟨v, rfl, r⟩
  | _, _, i + 1, x, .cons _ t, e => by
    obtain ⟨v, h1, h2⟩ := RepL.get (i := i) (x := x) t (by simpa using e)
    exact ⟨v, by simpa using h1, h2⟩
theorem RepL.set {K : PySem.W.Frag} {w : Wd} {v : Option V} {x : Option DV} (r : RepO K w v x) : ∀ {σ : List (Option V)} {s : List (Option DV)} (i : Nat), RepL K w σ s → RepL K w (σ.set i v) (s.set i x)
  | _, _, _, .nil => .nil
  | _, _, 0, .cons _ t => .cons r t
  | _, _, i + 1, .cons q t => .cons q (RepL.set r i t)
structure RepS (K : PySem.W.Frag) (w : Wd) (st : S) (σ : St) (H : Hp) : Prop where
  h : RepH K w st.m H
  l : RepL K w σ st.s
abbrev RepA (K : PySem.W.Frag) (w : Wd) : List V → List DV → Prop := Paired (RepV K w)
theorem RepA.up {K : PySem.W.Frag} {w w' : Wd} (l : Le w w') {vs : List V} {ds : List DV} (h : RepA K w vs ds) : RepA K w' vs ds := Paired.mapP h fun _ _ r => r.up l

/-! ### readings -/
/-- the class of the program that a name stands for -/
def IsCls (K : PySem.W.Frag) (n : String) (C : Addr) : Prop := PySem.W.nsIn K mainGlobals (Str.ofString n) = some (some (.ref C))
abbrev EX := String → Option PyData → S → Prop
abbrev KD := DV → S → Prop
abbrev TE2 := EX → S → KD → Prop
abbrev TT2 := EX → S → (Bool → S → Prop) → Prop
abbrev TA2 := EX → S → (List DV → S → Prop) → Prop
structure Ends2 where
  nx : S → Prop
  rt : DV → Prop
  bk : S → Prop := fun _ => False
  ct : S → Prop := fun _ => False
abbrev TS2 := EX → Ends2 → S → Prop
/-- what is wanted of an exception -/
structure Link (K : PySem.W.Frag) (w : Wd) (W : WX) (ex : EX) : Prop where
  at_ : ∀ w' st' σ' H' d v n C x, IsCls K n C → Le w w' → RepS K w' st' σ' H' → H' d = some (.xd [("at", v)]) → Dq K w'.D v x → ex n (some x) st' → W (.ref C) (some d) σ' H'
  no : ∀ w' st' σ' H' n C, IsCls K n C → Le w w' → RepS K w' st' σ' H' → ex n none st' → W (.ref C) none σ' H'
theorem Link.up {K : PySem.W.Frag} {w w' : Wd} {W : WX} {ex : EX} (k : Link K w W ex) (l : Le w w') : Link K w' W ex :=
  ⟨fun w2 st' σ' H' d v n C x hc l2 => k.at_ w2 st' σ' H' d v n C x hc (l.trans l2), fun w2 st' σ' H' n C hc l2 => k.no w2 st' σ' H' n C hc (l.trans l2)⟩
def low (K : PySem.W.Frag) (W : WX) (t : TE2) : TE := fun σ H Q => ∃ w st ex, RepS K w st σ H ∧ Link K w W ex ∧ t ex st fun x st' => ∀ w' H' v, Le w w' → RepS K w' st' σ H' → RepV K w' v x → Q v H'
def lowT (K : PySem.W.Frag) (W : WX) (t : TT2) : TT := fun σ H Q => ∃ w st ex, RepS K w st σ H ∧ Link K w W ex ∧ t ex st fun b st' => ∀ w' H', Le w w' → RepS K w' st' σ H' → Q b H'
def lowA (K : PySem.W.Frag) (W : WX) (t : TA2) : TA := fun σ H Q => ∃ w st ex, RepS K w st σ H ∧ Link K w W ex ∧ t ex st fun xs st' => ∀ w' H' vs, Le w w' → RepS K w' st' σ H' → RepA K w' vs xs → Q vs H'
structure LinkE (K : PySem.W.Frag) (w : Wd) (D2 : Ends2) (D : Ends) : Prop where
  nx : ∀ w' st' σ' H', Le w w' → RepS K w' st' σ' H' → D2.nx st' → D.nx σ' H'
  rt : ∀ w' m' H' v x, LeR w w' → RepH K w' m' H' → RepV K w' v x → (∀ k, x ≠ .o k) → D2.rt x → D.rt v H'
  bk : ∀ w' st' σ' H', Le w w' → RepS K w' st' σ' H' → D2.bk st' → D.bk σ' H'
  ct : ∀ w' st' σ' H', Le w w' → RepS K w' st' σ' H' → D2.ct st' → D.ct σ' H'
theorem LinkE.up {K : PySem.W.Frag} {w w' : Wd} {D2 : Ends2} {D : Ends} (k : LinkE K w D2 D) (l : Le w w') : LinkE K w' D2 D :=
  ⟨fun w2 st' σ' H' l2 => k.nx w2 st' σ' H' (l.trans l2), fun w2 m' H' v x l2 => k.rt w2 m' H' v x (l.R.trans l2), fun w2 st' σ' H' l2 => k.bk w2 st' σ' H' (l.trans l2), fun w2 st' σ' H' l2 => k.ct w2 st' σ' H' (l.trans l2)⟩
def lowS (K : PySem.W.Frag) (W : WX) (t : TS2) : TS := fun D σ H => ∃ w st ex D2, RepS K w st σ H ∧ Link K w W ex ∧ LinkE K w D2 D ∧ t ex D2 st
def MonoE (t : TE2) : Prop := ∀ ex st Q Q', (∀ x s, Q x s → Q' x s) → t ex st Q → t ex st Q'
def MonoT (t : TT2) : Prop := ∀ ex st (Q Q' : Bool → S → Prop), (∀ x s, Q x s → Q' x s) → t ex st Q → t ex st Q'
def MonoA (t : TA2) : Prop := ∀ ex st (Q Q' : List DV → S → Prop), (∀ x s, Q x s → Q' x s) → t ex st Q → t ex st Q'
structure PE2 (X : Cx) (W : WX) (e : Expr) (t : TE2) : Prop where
  pe : PE X e (low X.K W t)
  mono : MonoE t
structure PT2 (X : Cx) (W : WX) (e : Expr) (t : TT2) : Prop where
  pt : PT X e (lowT X.K W t)
  mono : MonoT t
structure PA2 (X : Cx) (W : WX) (es : List Expr) (t : TA2) : Prop where
  pa : PA X es (lowA X.K W t)
  mono : MonoA t
structure PS2 (X : Cx) (W : WX) (st : Stmt) (t : TS2) : Prop where
  ps : PS X st (lowS X.K W t)
structure PSs2 (X : Cx) (W : WX) (st : List Stmt) (t : TS2) : Prop where
  ps : PSs X st (lowS X.K W t)
theorem peImp {X : Cx} {e : Expr} {t t' : TE} (h : PE X e t) (i : ∀ σ H Q, t' σ H Q → t σ H Q) : PE X e t' := ⟨fun pins s σ H Q I q => h.run pins s σ H Q I (i σ H Q q)⟩
theorem ptImp {X : Cx} {e : Expr} {t t' : TT} (h : PT X e t) (i : ∀ σ H Q, t' σ H Q → t σ H Q) : PT X e t' := ⟨fun pins s σ H Q I q => h.run pins s σ H Q I (i σ H Q q)⟩
theorem paImp {X : Cx} {e : List Expr} {t t' : TA} (h : PA X e t) (i : ∀ σ H Q, t' σ H Q → t σ H Q) : PA X e t' := ⟨fun pos pins s σ H Q I q => h.run pos pins s σ H Q I (i σ H Q q)⟩
theorem psImp {X : Cx} {e : Stmt} {t t' : TS} (h : PS X e t) (i : ∀ D σ H, t' D σ H → t D σ H) : PS X e t' := ⟨fun pins s σ H D I q => h.run pins s σ H D I (i D σ H q)⟩
theorem pssImp {X : Cx} {e : List Stmt} {t t' : TS} (h : PSs X e t) (i : ∀ D σ H, t' D σ H → t D σ H) : PSs X e t' := ⟨fun pins s σ H D I q => h.run pins s σ H D I (i D σ H q)⟩
/-- from a part's reading, the rest upon it -/
theorem low_of {K : PySem.W.Frag} {W : WX} {t : TE2} (hm : MonoE t) {w : Wd} {st : S} {ex : EX} {σ : St} {H : Hp} {Q : VK} {R : KD} (r : RepS K w st σ H) (l : Link K w W ex) (h : t ex st R)
    (q : ∀ x st' w' H' v, R x st' → Le w w' → RepS K w' st' σ H' → Link K w' W ex → RepV K w' v x → Q v H') : low K W t σ H Q :=
  ⟨w, st, ex, r, l, hm ex st _ _ (fun x st' hR w' H' v le rs rv => q x st' w' H' v hR le rs (l.up le) rv) h⟩
theorem lowT_of {K : PySem.W.Frag} {W : WX} {t : TT2} (hm : MonoT t) {w : Wd} {st : S} {ex : EX} {σ : St} {H : Hp} {Q : Bool → Hp → Prop} {R : Bool → S → Prop} (r : RepS K w st σ H) (l : Link K w W ex) (h : t ex st R)
    (q : ∀ x st' w' H', R x st' → Le w w' → RepS K w' st' σ H' → Link K w' W ex → Q x H') : lowT K W t σ H Q :=
  ⟨w, st, ex, r, l, hm ex st _ _ (fun x st' hR w' H' le rs => q x st' w' H' hR le rs (l.up le)) h⟩
theorem lowA_of {K : PySem.W.Frag} {W : WX} {t : TA2} (hm : MonoA t) {w : Wd} {st : S} {ex : EX} {σ : St} {H : Hp} {Q : List V → Hp → Prop} {R : List DV → S → Prop} (r : RepS K w st σ H) (l : Link K w W ex) (h : t ex st R)
    (q : ∀ x st' w' H' v, R x st' → Le w w' → RepS K w' st' σ H' → Link K w' W ex → RepA K w' v x → Q v H') : lowA K W t σ H Q :=
  ⟨w, st, ex, r, l, hm ex st _ _ (fun x st' hR w' H' v le rs rv => q x st' w' H' v hR le rs (l.up le) rv) h⟩
theorem lowS_of {K : PySem.W.Frag} {W : WX} {t : TS2} {w : Wd} {st : S} {ex : EX} {σ : St} {H : Hp} {D : Ends} {D2 : Ends2} (r : RepS K w st σ H) (l : Link K w W ex) (le : LinkE K w D2 D) (h : t ex D2 st) : lowS K W t D σ H := ⟨w, st, ex, D2, r, l, le, h⟩
end G

end
section
set_option maxHeartbeats 2000000
/-! GB: what steps do to worlds; expressions: names, constants, operators, displays. -/
namespace G
open PySem L2
section
variable {K : PySem.W.Frag} {w : Wd} {st : S} {σ : St} {H : Hp} {m : List Own} {p : Addr}
/-! ### the store -/
def S.new (st : S) (xs : List PyData) : S := ⟨st.s, st.m ++ [⟨xs, true⟩]⟩
def S.put (st : S) (k : Nat) (xs : List PyData) : S := ⟨st.s, st.m.set k ⟨xs, true⟩⟩
def S.frz (st : S) (k : Nat) (xs : List PyData) : S := ⟨st.s, st.m.set k ⟨xs, false⟩⟩
def S.set (st : S) (i : Nat) (x : DV) : S := ⟨st.s.set i (some x), st.m⟩
def S.unset (st : S) (i : Nat) : S := ⟨st.s.set i none, st.m⟩
theorem RepH.freeD (R : RepH K w m H) (h : H p = none) : w.D p = none := Ext.back R.ed h
theorem RepH.freeF (R : RepH K w m H) (h : H p = none) : w.F p = none := Ext.back R.ef h
theorem RepH.freeR (R : RepH K w m H) (h : H p = none) : p ∉ w.r := fun hp => by
  obtain ⟨k, hk⟩ := List.getElem?_of_mem hp
  have hl : k < m.length := by
    rw [← R.len]
    exact (List.getElem?_eq_some_iff.mp hk).1
  obtain ⟨vs, e, _⟩ := R.own k p m[k] hk (List.getElem?_eq_getElem hl)
  rw [h] at e; cases e
theorem RepH.freeA (R : RepH K w m H) (h : H p = none) {a b : Addr} (e : (a, b) ∈ w.da) : p ≠ a ∧ p ≠ b := by
  obtain ⟨⟨_, n, gs, h1, h2, _⟩, _⟩ := R.deal a b e
  exact ⟨fun z => (by rw [← z, h] at h1; cases h1), fun z => (by rw [← z, h] at h2; cases h2)⟩
/-- a new object that never changes -/
theorem RepH.fix (R : RepH K w m H) (h : H p = none) (o : HO) (ho : ∀ ps, o ≠ .tbl ps := by intro ps e; cases e) : RepH K { w with D := upd w.D p o } m (upd H p o) ∧ Le w { w with D := upd w.D p o } := by
  have hD := R.freeD h
  have hF := R.freeF h
  have hR := R.freeR h
  refine ⟨⟨fun a u e => ?_, fun a u e => ?_, fun a u e => ?_, R.len, fun k a ow h1 h2 => ?_, R.nd, fun a b e => ?_, ⟨tabs_new R.tb.tab h, nt_upd ho R.tb.dt, R.tb.ft⟩⟩, ⟨Ext.new hD, Ext.refl _, fun _ _ h => h, fun _ h => h⟩⟩
  · by_cases ha : a = p
    · subst ha
      have e' : upd w.D a o a = some u := e
      rw [upd_same] at e' ⊢; exact e'
    · have e' : upd w.D p o a = some u := e
      rw [upd_ne ha] at e' ⊢
      exact R.ed a u e'
  · have ha : a ≠ p := fun z => by
      have e' : w.F a = some u := e
      rw [z, hF] at e'; cases e'
    rw [upd_ne ha]
    exact R.ef a u e
  · have ha : a ≠ p := fun z => by
      have e' : w.F a = some u := e
      rw [z, hF] at e'; cases e'
    show upd w.D p o a = none
    rw [upd_ne ha]
    exact R.df a u e
  · have ha : a ≠ p := fun z => hR (z ▸ List.mem_of_getElem? h1)
    obtain ⟨vs, e1, e2, e3, e4, e5⟩ := R.own k a ow h1 h2
    refine ⟨vs, by rw [upd_ne ha]; exact e1, dqa_up (Ext.new hD) _ _ e2, e3, fun l => ?_, fun l => ?_⟩
    · show upd w.D p o a = none
      rw [upd_ne ha]; exact e4 l
    · show upd w.D p o a = _
      rw [upd_ne ha]; exact e5 l
  · obtain ⟨⟨ne, n, gs, h1, h2, h3⟩, x1, x2, x3⟩ := R.deal a b e
    obtain ⟨n1, n2⟩ := R.freeA h e
    refine ⟨⟨ne, n, gs, by rw [upd_ne n1.symm]; exact h1, by rw [upd_ne n2.symm]; exact h2, h3⟩, ?_, ?_, x3⟩
    · show upd w.D p o a = none
      rw [upd_ne n1.symm]; exact x1
    · show upd w.D p o b = none
      rw [upd_ne n2.symm]; exact x2
/-- a new list of the def's own -/
theorem RepH.newL (R : RepH K w m H) (h : H p = none) {vs : List V} {xs : List PyData} (hx : DqA K w.D vs xs) :
    RepH K { w with r := w.r ++ [p] } (m ++ [⟨xs, true⟩]) (upd H p (.lst vs)) ∧ Le w { w with r := w.r ++ [p] } ∧ (w.r ++ [p])[m.length]? = some p := by
  have hD := R.freeD h
  have hF := R.freeF h
  have hR := R.freeR h
  have hl : w.r.length = m.length := R.len
  refine ⟨⟨fun a u e => ?_, fun a u e => ?_, R.df, by simp [hl], fun k a ow h1 h2 => ?_, ?_, fun a b e => ?_, ⟨tabs_new R.tb.tab h, R.tb.dt, R.tb.ft⟩⟩, ⟨Ext.refl _, Ext.refl _, fun k a h => ?_, fun _ h => h⟩, ?_⟩
  · have ha : a ≠ p := fun z => by
      have e' : w.D a = some u := e
      rw [z, hD] at e'; cases e'
    rw [upd_ne ha]; exact R.ed a u e
  · have ha : a ≠ p := fun z => by
      have e' : w.F a = some u := e
      rw [z, hF] at e'; cases e'
    rw [upd_ne ha]; exact R.ef a u e
  · by_cases hk : k < m.length
    · rw [List.getElem?_append_left (by omega)] at h1 h2
      have ha : a ≠ p := fun z => hR (z ▸ List.mem_of_getElem? h1)
      obtain ⟨us, e1, e2⟩ := R.own k a ow h1 h2
      exact ⟨us, by rw [upd_ne ha]; exact e1, e2⟩
    · rw [List.getElem?_append_right (by omega)] at h1 h2
      have hk2 : k - m.length = 0 := by
        cases q : k - m.length with
        | zero => rfl
        | succ j => rw [q] at h2; simp at h2
      rw [hk2] at h2
      rw [hl, hk2] at h1
      have ea : p = a := by simpa using h1
      have eo : (⟨xs, true⟩ : Own) = ow := by simpa using h2
      subst ea; subst eo
      exact ⟨vs, upd_same, hx, hF, fun _ => hD, fun z => by cases z⟩
  · exact List.nodup_append.mpr ⟨R.nd, by simp, fun a ha b hb => by
      have : b = p := by simpa using hb
      subst this
      exact fun z => hR (z ▸ ha)⟩
  · obtain ⟨⟨ne, n, gs, h1, h2, h3⟩, x1, x2, x3, x4, x5, x6⟩ := R.deal a b e
    obtain ⟨n1, n2⟩ := R.freeA h e
    refine ⟨⟨ne, n, gs, by rw [upd_ne n1.symm]; exact h1, by rw [upd_ne n2.symm]; exact h2, h3⟩, x1, x2, x3, x4, ?_, ?_⟩
    · simp only [List.mem_append, List.mem_singleton, not_or]
      exact ⟨x5, n1.symm⟩
    · simp only [List.mem_append, List.mem_singleton, not_or]
      exact ⟨x6, n2.symm⟩
  · rw [List.getElem?_append_left (List.getElem?_eq_some_iff.mp h).1]
    exact h
  · rw [List.getElem?_append_right (by omega), hl]
    simp
/-- an owned list that may still change is changed -/
theorem RepH.mutL (R : RepH K w m H) {k : Nat} {a : Addr} {ow : Own} (h1 : w.r[k]? = some a) (h2 : m[k]? = some ow) (hl : ow.live = true) {vs : List V} {xs : List PyData} (hx : DqA K w.D vs xs) :
    RepH K w (m.set k ⟨xs, true⟩) (upd H a (.lst vs)) := by
  obtain ⟨us, e1, e2, e3, e4, e5⟩ := R.own k a ow h1 h2
  have hD := e4 hl
  have hk : k < m.length := (List.getElem?_eq_some_iff.mp h2).1
  refine ⟨fun b u e => ?_, fun b u e => ?_, R.df, by simp [R.len], fun j b ob g1 g2 => ?_, R.nd, fun b c e => ?_, ⟨tabs_put R.tb.tab e1, R.tb.dt, R.tb.ft⟩⟩
  · have hb : b ≠ a := fun z => by rw [z, hD] at e; cases e
    rw [upd_ne hb]; exact R.ed b u e
  · have hb : b ≠ a := fun z => by rw [z, e3] at e; cases e
    rw [upd_ne hb]; exact R.ef b u e
  · by_cases hj : j = k
    · subst hj
      rw [h1] at g1
      cases g1
      rw [List.getElem?_set_self hk] at g2
      cases g2
      exact ⟨vs, upd_same, hx, e3, fun _ => hD, fun z => by cases z⟩
    · rw [List.getElem?_set_ne (Ne.symm hj)] at g2
      obtain ⟨ws, f1, f2⟩ := R.own j b ob g1 g2
      have hb : b ≠ a := fun z => by
        subst z
        have l1 := (List.getElem?_eq_some_iff.mp g1)
        have l2 := (List.getElem?_eq_some_iff.mp h1)
        obtain ⟨q1, q2⟩ := l1
        obtain ⟨q3, q4⟩ := l2
        exact hj ((List.getElem_inj R.nd).mp (q2.trans q4.symm))
      exact ⟨ws, by rw [upd_ne hb]; exact f1, f2⟩
  · obtain ⟨⟨ne, n, gs, g1, g2, g3⟩, x1, x2, x3, x4, x5, x6⟩ := R.deal b c e
    have n1 : b ≠ a := fun z => x5 (z ▸ List.mem_of_getElem? h1)
    have n2 : c ≠ a := fun z => x6 (z ▸ List.mem_of_getElem? h1)
    exact ⟨⟨ne, n, gs, by rw [upd_ne n1]; exact g1, by rw [upd_ne n2]; exact g2, g3⟩, x1, x2, x3, x4, x5, x6⟩
/-- an owned list changes no more -/
theorem RepH.frzL (R : RepH K w m H) {k : Nat} {a : Addr} {ow : Own} (h1 : w.r[k]? = some a) (h2 : m[k]? = some ow) :
    ∃ w', Le w w' ∧ RepH K w' (m.set k ⟨ow.xs, false⟩) H ∧ Dq K w'.D (.ref a) (.list ow.xs) := by
  obtain ⟨us, e1, e2, e3, e4, e5⟩ := R.own k a ow h1 h2
  have hk : k < m.length := (List.getElem?_eq_some_iff.mp h2).1
  cases hl : ow.live with
  | false =>
    refine ⟨w, Le.refl w, ?_, .lst (e5 hl) e2⟩
    have : m.set k ⟨ow.xs, false⟩ = m := by
      apply List.ext_getElem?
      intro i
      by_cases hi : i = k
      · subst hi
        rw [List.getElem?_set_self hk, h2]
        cases ow; cases hl; rfl
      · rw [List.getElem?_set_ne (Ne.symm hi)]
    rw [this]; exact R
  | true =>
    have hD := e4 hl
    have le : Ext w.D (upd w.D a (.lst us)) := Ext.new hD
    refine ⟨{ w with D := upd w.D a (.lst us) }, ⟨le, Ext.refl _, fun _ _ h => h, fun _ h => h⟩, ⟨fun b u e => ?_, R.ef, fun b u e => ?_, by simp [R.len], fun j b ob g1 g2 => ?_, R.nd, fun b c e => ?_, ⟨R.tb.tab, nt_upd (by intro ps e; cases e) R.tb.dt, R.tb.ft⟩⟩, .lst upd_same (dqa_up le _ _ e2)⟩
    · by_cases hb : b = a
      · subst hb
        have e' : upd w.D b (.lst us) b = some u := e
        rw [upd_same] at e'; cases e'; exact e1
      · have e' : upd w.D a (.lst us) b = some u := e
        rw [upd_ne hb] at e'; exact R.ed b u e'
    · have hb : b ≠ a := fun z => by
        have e' : w.F b = some u := e
        rw [z, e3] at e'; cases e'
      show upd w.D a (.lst us) b = none
      rw [upd_ne hb]; exact R.df b u e
    · by_cases hj : j = k
      · subst hj
        rw [show w.r[j]? = some b from g1] at h1
        cases h1
        rw [List.getElem?_set_self hk] at g2
        cases g2
        exact ⟨us, e1, dqa_up le _ _ e2, e3, (fun z => by cases z), fun _ => upd_same⟩
      · rw [List.getElem?_set_ne (Ne.symm hj)] at g2
        obtain ⟨ws, f1, f2, f3, f4, f5⟩ := R.own j b ob g1 g2
        have hb : b ≠ a := fun z => by
          subst z
          obtain ⟨q1, q2⟩ := (List.getElem?_eq_some_iff.mp (show w.r[j]? = some b from g1))
          obtain ⟨q3, q4⟩ := (List.getElem?_eq_some_iff.mp h1)
          exact hj ((List.getElem_inj R.nd).mp (q2.trans q4.symm))
        refine ⟨ws, f1, dqa_up le _ _ f2, f3, fun l => ?_, fun l => ?_⟩
        · show upd w.D a (.lst us) b = none
          rw [upd_ne hb]; exact f4 l
        · show upd w.D a (.lst us) b = _
          rw [upd_ne hb]; exact f5 l
    · obtain ⟨g, x1, x2, x3, x4, x5, x6⟩ := R.deal b c e
      have n1 : b ≠ a := fun z => x5 (z ▸ List.mem_of_getElem? h1)
      have n2 : c ≠ a := fun z => x6 (z ▸ List.mem_of_getElem? h1)
      refine ⟨g, ?_, ?_, x3, x4, x5, x6⟩
      · show upd w.D a (.lst us) b = none
        rw [upd_ne n1]; exact x1
      · show upd w.D a (.lst us) c = none
        rw [upd_ne n2]; exact x2
/-! ### reading a value -/
def rd (st : S) : DV → Option PyData
  | .d x => some x
  | .o k => (st.m[k]?).map fun ow => .list ow.xs
  | _ => none
theorem rd_dq (R : RepS K w st σ H) {v : V} {x : DV} {y : PyData} (r : RepV K w v x) (h : rd st x = some y) : Dq K H v y := by
  cases x with
  | d x => cases h; exact dq_up R.h.ed _ _ r
  | o k =>
    obtain ⟨a, h1, rfl⟩ := r
    simp only [rd, Option.map_eq_some_iff] at h
    obtain ⟨ow, h2, rfl⟩ := h
    obtain ⟨vs, e1, e2, _⟩ := R.h.own k a ow h1 h2
    exact .lst e1 (dqa_up R.h.ed _ _ e2)
  | deal => cases h
  | scr ns => cases h
  | raw u => cases h
theorem rd_list (R : RepS K w st σ H) {v : V} {x : DV} {xs : List PyData} (r : RepV K w v x) (h : rd st x = some (.list xs)) : ∃ a vs, v = .ref a ∧ H a = some (.lst vs) ∧ DqA K w.D vs xs := by
  cases x with
  | d x =>
    cases h
    cases r with
    | lst s b => exact ⟨_, _, rfl, R.h.ed _ _ s, b⟩
  | o k =>
    obtain ⟨a, h1, rfl⟩ := r
    simp only [rd, Option.map_eq_some_iff] at h
    obtain ⟨ow, h2, e⟩ := h
    cases e
    obtain ⟨vs, e1, e2, _⟩ := R.h.own k a ow h1 h2
    exact ⟨a, vs, rfl, e1, e2⟩
  | deal => cases h
  | scr ns => cases h
  | raw u => cases h
theorem rd_tup (R : RepS K w st σ H) {v : V} {x : DV} {xs : List PyData} (r : RepV K w v x) (h : rd st x = some (.tuple xs)) : ∃ a vs, v = .ref a ∧ SqT K H a vs ∧ SqT K w.D a vs ∧ DqA K w.D vs xs := by
  cases x with
  | d x =>
    cases h
    cases r with
    | tup s b => exact ⟨_, _, rfl, ext_t R.h.ed s, s, b⟩
  | o k =>
    simp only [rd, Option.map_eq_some_iff] at h
    obtain ⟨ow, h2, e⟩ := h
    cases e
  | deal => cases h
  | scr ns => cases h
  | raw u => cases h
theorem rd_int (R : RepS K w st σ H) {v : V} {x : DV} {i : Int} (r : RepV K w v x) (h : rd st x = some (.int i)) : v = .int i := by
  have := rd_dq R r h
  cases this; rfl
theorem rd_bool (R : RepS K w st σ H) {v : V} {x : DV} {i : Bool} (r : RepV K w v x) (h : rd st x = some (.bool i)) : v = .bl i := by
  have := rd_dq R r h
  cases this; rfl
theorem rd_str (R : RepS K w st σ H) {v : V} {x : DV} {i : Str} (r : RepV K w v x) (h : rd st x = some (.str i)) : v = .str i := by
  have := rd_dq R r h
  cases this; rfl
/-- what is wanted behind an expression -/
abbrev Fin (K : PySem.W.Frag) (w : Wd) (σ : St) (Q : VK) : KD := fun z st' => ∀ w' H' v, Le w w' → RepS K w' st' σ H' → RepV K w' v z → Q v H'
theorem fin_d {Q : VK} (R : RepS K w st σ H) {v : V} {z : PyData} (hv : Dq K w.D v z) (q : Fin K w σ Q (.d z) st) : Q v H := q w H v (Le.refl w) R hv
/-- a new tuple -/
theorem fin_tup {Q : VK} (R : RepS K w st σ H) {vs : List V} {zs : List PyData} (hv : DqA K w.D vs zs) (q : Fin K w σ Q (.d (.tuple zs)) st) (hp : H p = none) : Q (.ref p) (upd H p (.tup vs)) := by
  obtain ⟨R', l⟩ := R.h.fix hp (.tup vs)
  exact q _ _ _ l ⟨R', R.l.up l⟩ (.tup (SqT.of upd_same) (dqa_up l.D _ _ hv))
/-- a new list -/
theorem fin_lst {Q : VK} (R : RepS K w st σ H) {vs : List V} {zs : List PyData} (hv : DqA K w.D vs zs) (q : Fin K w σ Q (.o st.m.length) (st.new zs)) (hp : H p = none) : Q (.ref p) (upd H p (.lst vs)) := by
  obtain ⟨R', l, e⟩ := R.h.newL hp hv
  exact q _ _ _ l ⟨R', R.l.up l⟩ ⟨p, e, rfl⟩
end

/-! ### closing: an owned list that is handed on changes no more -/
def Closed (x : DV) : Prop := ∀ k, x ≠ .o k
def asC (x : DV) (st : S) (Q : DV → S → Prop) : Prop :=
  match x with
  | .o k => match st.m[k]? with
    | some ow => Q (.d (.list ow.xs)) (st.frz k ow.xs)
    | none => False
  | x => Q x st
def asD (x : DV) (st : S) (Q : PyData → S → Prop) : Prop :=
  match x with
  | .o k => match st.m[k]? with
    | some ow => Q (.list ow.xs) (st.frz k ow.xs)
    | none => False
  | .d x => Q x st
  | _ => False
def asCs : List DV → S → (List DV → S → Prop) → Prop
  | [], st, Q => Q [] st
  | x :: xs, st, Q => asC x st fun y st1 => asCs xs st1 fun ys st2 => Q (y :: ys) st2
def asDs : List DV → S → (List PyData → S → Prop) → Prop
  | [], st, Q => Q [] st
  | x :: xs, st, Q => asD x st fun y st1 => asDs xs st1 fun ys st2 => Q (y :: ys) st2
theorem asC_mono {x : DV} {st : S} {Q Q' : DV → S → Prop} (h : ∀ x s, Q x s → Q' x s) (q : asC x st Q) : asC x st Q' := by
  cases x with
  | o k =>
    simp only [asC] at q ⊢
    cases e : st.m[k]? with
    | none => rw [e] at q; exact q.elim
    | some ow => rw [e] at q; exact h _ _ q
  | d x => exact h _ _ q
  | deal => exact h _ _ q
  | scr ns => exact h _ _ q
  | raw u => exact h _ _ q
theorem asD_mono {x : DV} {st : S} {Q Q' : PyData → S → Prop} (h : ∀ x s, Q x s → Q' x s) (q : asD x st Q) : asD x st Q' := by
  cases x with
  | o k =>
    simp only [asD] at q ⊢
    cases e : st.m[k]? with
    | none => rw [e] at q; exact q.elim
    | some ow => rw [e] at q; exact h _ _ q
  | d x => exact h _ _ q
  | deal => exact q.elim
  | scr ns => exact q.elim
  | raw u => exact q.elim
theorem asCs_mono : ∀ {xs : List DV} {st : S} {Q Q' : List DV → S → Prop}, (∀ x s, Q x s → Q' x s) → asCs xs st Q → asCs xs st Q'
  | [], _, _, _, h, q => h _ _ q
  | x :: xs, _, _, _, h, q => asC_mono (fun y s q => asCs_mono (fun ys s q => h _ _ q) q) q
theorem asDs_mono : ∀ {xs : List DV} {st : S} {Q Q' : List PyData → S → Prop}, (∀ x s, Q x s → Q' x s) → asDs xs st Q → asDs xs st Q'
  | [], _, _, _, h, q => h _ _ q
  | x :: xs, _, _, _, h, q => asD_mono (fun y s q => asDs_mono (fun ys s q => h _ _ q) q) q
section
variable {K : PySem.W.Frag} {w : Wd} {st : S} {σ : St} {H : Hp}
theorem frz_s (st : S) (k : Nat) (xs : List PyData) : (st.frz k xs).s = st.s := rfl
theorem asC_ok {x : DV} {v : V} {Q : DV → S → Prop} (R : RepS K w st σ H) (r : RepV K w v x) (q : asC x st Q) : ∃ w' st' y, Le w w' ∧ RepS K w' st' σ H ∧ RepV K w' v y ∧ Closed y ∧ Q y st' ∧ st'.s = st.s := by
  cases x with
  | o k =>
    obtain ⟨a, h1, rfl⟩ := r
    simp only [asC] at q
    cases e : st.m[k]? with
    | none => rw [e] at q; exact q.elim
    | some ow =>
      rw [e] at q
      obtain ⟨w', l, R', d⟩ := R.h.frzL h1 e
      exact ⟨w', st.frz k ow.xs, .d (.list ow.xs), l, ⟨R', R.l.up l⟩, d, (fun k => by intro z; cases z), q, rfl⟩
  | d x => exact ⟨w, st, _, Le.refl w, R, r, (fun k => by intro z; cases z), q, rfl⟩
  | deal => exact ⟨w, st, _, Le.refl w, R, r, (fun k => by intro z; cases z), q, rfl⟩
  | scr ns => exact ⟨w, st, _, Le.refl w, R, r, (fun k => by intro z; cases z), q, rfl⟩
  | raw u => exact ⟨w, st, _, Le.refl w, R, r, (fun k => by intro z; cases z), q, rfl⟩
theorem asD_ok {x : DV} {v : V} {Q : PyData → S → Prop} (R : RepS K w st σ H) (r : RepV K w v x) (q : asD x st Q) : ∃ w' st' y, Le w w' ∧ RepS K w' st' σ H ∧ Dq K w'.D v y ∧ Q y st' ∧ st'.s = st.s := by
  cases x with
  | o k =>
    obtain ⟨a, h1, rfl⟩ := r
    simp only [asD] at q
    cases e : st.m[k]? with
    | none => rw [e] at q; exact q.elim
    | some ow =>
      rw [e] at q
      obtain ⟨w', l, R', d⟩ := R.h.frzL h1 e
      exact ⟨w', st.frz k ow.xs, .list ow.xs, l, ⟨R', R.l.up l⟩, d, q, rfl⟩
  | d x => exact ⟨w, st, _, Le.refl w, R, r, q, rfl⟩
  | deal => exact q.elim
  | scr ns => exact q.elim
  | raw u => exact q.elim
theorem asCs_ok : ∀ {xs : List DV} {vs : List V} {w : Wd} {st : S} {Q : List DV → S → Prop}, RepS K w st σ H → RepA K w vs xs → asCs xs st Q → ∃ w' st' ys, Le w w' ∧ RepS K w' st' σ H ∧ RepA K w' vs ys ∧ (∀ y ∈ ys, Closed y) ∧ Q ys st' ∧ st'.s = st.s
  | _, _, w, st, _, R, .nil, q => ⟨w, st, [], Le.refl w, R, .nil, (fun y h => by cases h), q, rfl⟩
  | _, _, w, st, _, R, .cons r t, q => by
    obtain ⟨w1, st1, y, l1, R1, r1, c1, q1, e1⟩ := asC_ok R r q
    obtain ⟨w2, st2, ys, l2, R2, r2, c2, q2, e2⟩ := asCs_ok R1 (RepA.up l1 t) q1
    exact ⟨w2, st2, y :: ys, l1.trans l2, R2, .cons (r1.up l2) r2, fun z hz => by
      rcases List.mem_cons.mp hz with h | h
      · rw [h]; exact c1
      · exact c2 z h, q2, e2.trans e1⟩
theorem asDs_ok : ∀ {xs : List DV} {vs : List V} {w : Wd} {st : S} {Q : List PyData → S → Prop}, RepS K w st σ H → RepA K w vs xs → asDs xs st Q → ∃ w' st' ys, Le w w' ∧ RepS K w' st' σ H ∧ DqA K w'.D vs ys ∧ Q ys st' ∧ st'.s = st.s
  | _, _, w, st, _, R, .nil, q => ⟨w, st, [], Le.refl w, R, .nil, q, rfl⟩
  | _, _, w, st, _, R, .cons r t, q => by
    obtain ⟨w1, st1, y, l1, R1, r1, q1, e1⟩ := asD_ok R r q
    obtain ⟨w2, st2, ys, l2, R2, r2, q2, e2⟩ := asDs_ok R1 (RepA.up l1 t) q1
    exact ⟨w2, st2, y :: ys, l1.trans l2, R2, .cons (dq_up l2.D _ _ r1) r2, q2, e2.trans e1⟩
end

/-! ### expressions -/
def t2Var (i : Nat) : TE2 := fun _ st Q => match st.s[i]? with
  | some (some x) => Q x st
  | _ => False
def t2C (x : PyData) : TE2 := fun _ st Q => Q (.d x) st
def t2Raw (v : V) : TE2 := fun _ st Q => Q (.raw v) st
section
variable {X : Cx} {W : WX} {a b e : Expr} {ta tb te : TE2} {pos : Pos}
theorem mono_var {i : Nat} : MonoE (t2Var i) := fun ex st Q Q' h q => by
  simp only [t2Var] at q ⊢
  cases e : st.s[i]? with
  | none => rw [e] at q; exact q.elim
  | some o =>
    rw [e] at q
    cases o with
    | none => exact q.elim
    | some x => exact h _ _ q
theorem pe2_var {i : Nat} (h : PE X e (tVar i)) : PE2 X W e (t2Var i) := by
  refine ⟨peImp h fun σ H Q q => ?_, mono_var⟩
  obtain ⟨w, st, ex, R, l, q⟩ := q
  simp only [t2Var] at q
  cases e : st.s[i]? with
  | none => rw [e] at q; exact q.elim
  | some o =>
    rw [e] at q
    cases o with
    | none => exact q.elim
    | some x =>
      obtain ⟨v, h1, h2⟩ := R.l.get e
      exact ⟨v, h1, q w H v (Le.refl w) R h2⟩
theorem p2v (i : Nat) {x : Str} {pos : Pos} (hN : X.N[i]? = some x := by rfl) (hv : Vis X.env.scope x := by first | exact Or.inl rfl | exact Or.inr (Or.inl rfl) | exact Or.inr (Or.inr rfl)) (hd : (x == ("__debug__" : Str)) = false := by decide)
    (hcd : (x == ("__classdict__" : Str)) = false := by decide) : PE2 X W (.Name x pos) (t2Var i) := pe2_var (pe_var hN hv hd hcd)
theorem pe2_c {v : V} {x : PyData} (h : PE X e (tC v)) (hd : ∀ D, Dq X.K D v x) : PE2 X W e (t2C x) := by
  refine ⟨peImp h fun σ H Q q => ?_, fun ex st Q Q' h q => h _ _ q⟩
  obtain ⟨w, st, ex, R, l, q⟩ := q
  exact fin_d R (hd _) q
theorem pe2_raw {v : V} (h : PE X e (tC v)) : PE2 X W e (t2Raw v) := by
  refine ⟨peImp h fun σ H Q q => ?_, fun ex st Q Q' h q => h _ _ q⟩
  obtain ⟨w, st, ex, R, l, q⟩ := q
  exact q w H v (Le.refl w) R rfl
theorem p2int {i j pos} : PE2 X W (.Constant (.int i) j pos) (t2C (.int i)) := pe2_c pe_int fun _ => .int i
theorem p2bl {b j pos} : PE2 X W (.Constant (.bool b) j pos) (t2C (.bool b)) := pe2_c pe_bl fun _ => .bl b
theorem p2non {j pos} : PE2 X W (.Constant .none j pos) (t2C .none) := pe2_c pe_non fun _ => .non
theorem p2str {x j pos} : PE2 X W (.Constant (.str x) j pos) (t2C (.str x)) := pe2_c pe_str fun _ => .str x
/-- a module's int -/
theorem p2gint {x : Str} {i : Int} {t : Tok} {pos : Pos} (hm : X.mg x = some (.int i t)) (hg : Gl X x := by rfl) (hd : (x == ("__debug__" : Str)) = false := by decide) : PE2 X W (.Name x pos) (t2C (.int i)) := pe2_c (pe_glob hg hm (v := .int i) ⟨t, rfl⟩ hd) fun _ => .int i

/-! ### operators -/
abbrev R22 := DV → DV → S → KD → Prop
abbrev R21 := DV → S → KD → Prop
def Mono22 (r : R22) : Prop := ∀ x y st Q Q', (∀ z s, Q z s → Q' z s) → r x y st Q → r x y st Q'
def Mono21 (r : R21) : Prop := ∀ x st Q Q', (∀ z s, Q z s → Q' z s) → r x st Q → r x st Q'
structure OpR2 (X : Cx) (f : Value → Value → Sem Value) (r : R22) : Prop where
  op : ∀ w st σ H x y dx dy Q, RepS X.K w st σ H → RepV X.K w x dx → RepV X.K w y dy → r dx dy st (Fin X.K w σ Q) → ∃ r' : R2, OpR X f r' ∧ r' x y H Q
  mono : Mono22 r
structure UnR2 (X : Cx) (f : Value → Sem Value) (r : R21) : Prop where
  op : ∀ w st σ H x dx Q, RepS X.K w st σ H → RepV X.K w x dx → r dx st (Fin X.K w σ Q) → ∃ r' : V → Hp → VK → Prop, UnR X f r' ∧ r' x H Q
  mono : Mono21 r
theorem op_any {f : Value → Value → Sem Value} : OpR X f (fun x y H Q => ∃ r : R2, OpR X f r ∧ r x y H Q) := fun pins s σ H x y v u Q I rx ry ⟨r, h, q⟩ => h pins s σ H x y v u Q I rx ry q
theorem un_any {f : Value → Sem Value} : UnR X f (fun x H Q => ∃ r : V → Hp → VK → Prop, UnR X f r ∧ r x H Q) := fun pins s σ H x v Q I rx ⟨r, h, q⟩ => h pins s σ H x v Q I rx q
def t2Op (r : R22) (ta tb : TE2) : TE2 := fun ex st Q => ta ex st fun x st1 => tb ex st1 fun y st2 => r x y st2 Q
def t2Un (r : R21) (ta : TE2) : TE2 := fun ex st Q => ta ex st fun x st1 => r x st1 Q
theorem mono_op {r : R22} (hr : Mono22 r) (ha : MonoE ta) (hb : MonoE tb) : MonoE (t2Op r ta tb) := fun ex st Q Q' h q => ha ex st _ _ (fun x st1 q1 => hb ex st1 _ _ (fun y st2 q2 => hr x y st2 _ _ h q2) q1) q
theorem fin_up {K : PySem.W.Frag} {w w' : Wd} {σ : St} {Q : VK} (l : Le w w') (z : DV) (s : S) (f : Fin K w σ Q z s) : Fin K w' σ Q z s := fun w2 H' v l2 => f w2 H' v (l.trans l2)
theorem low_op {K : PySem.W.Frag} {r : R22} {r' : R2} (ha : MonoE ta) (hb : MonoE tb) (hm : Mono22 r)
    (hr : ∀ w st σ H x y dx dy Q, RepS K w st σ H → RepV K w x dx → RepV K w y dy → r dx dy st (Fin K w σ Q) → r' x y H Q) {σ : St} {H : Hp} {Q : VK} (q : low K W (t2Op r ta tb) σ H Q) : tOp r' (low K W ta) (low K W tb) σ H Q := by
  obtain ⟨w, st, ex, R, l, q⟩ := q
  refine low_of ha R l q fun x st1 w1 H1 v1 q1 l1 R1 k1 rv1 => ?_
  refine low_of hb R1 k1 q1 fun y st2 w2 H2 v2 q2 l2 R2 k2 rv2 => ?_
  exact hr w2 st2 σ H2 v1 v2 x y Q R2 (rv1.up l2) rv2 (hm x y st2 _ _ (fin_up (l1.trans l2)) q2)
theorem low_un {K : PySem.W.Frag} {r : R21} {r' : V → Hp → VK → Prop} (ha : MonoE ta) (hm : Mono21 r)
    (hr : ∀ w st σ H x dx Q, RepS K w st σ H → RepV K w x dx → r dx st (Fin K w σ Q) → r' x H Q) {σ : St} {H : Hp} {Q : VK} (q : low K W (t2Un r ta) σ H Q) : tUn r' (low K W ta) σ H Q := by
  obtain ⟨w, st, ex, R, l, q⟩ := q
  refine low_of ha R l q fun x st1 w1 H1 v1 q1 l1 R1 k1 rv1 => ?_
  exact hr w1 st1 σ H1 v1 x Q R1 rv1 (hm x st1 _ _ (fin_up l1) q1)
theorem mono_un {r : R21} (hr : Mono21 r) (ha : MonoE ta) : MonoE (t2Un r ta) := fun ex st Q Q' h q => ha ex st _ _ (fun x st1 q1 => hr x st1 _ _ h q1) q
theorem p2op {op : Operator} {r : R22} (ho : OpR2 X (binaryOp op) r) (ha : PE2 X W a ta) (hb : PE2 X W b tb) : PE2 X W (.BinOp a op b pos) (t2Op r ta tb) :=
  ⟨peImp (pe_op op_any ha.pe hb.pe) fun _ _ _ q => low_op ha.mono hb.mono ho.mono ho.op q, mono_op ho.mono ha.mono hb.mono⟩
theorem p2un {op : UnaryOp} {r : R21} (ho : UnR2 X (unaryOp op) r) (ha : PE2 X W a ta) : PE2 X W (.UnaryOp op a pos) (t2Un r ta) :=
  ⟨peImp (pe_un un_any ha.pe) fun _ _ _ q => low_un ha.mono ho.mono ho.op q, mono_un ho.mono ha.mono⟩
theorem p2cmp {op : CmpOp} {r : R22} (ho : OpR2 X (compareOp op) r) (ha : PE2 X W a ta) (hb : PE2 X W b tb) (hm : behindInMarks op b = false := by first | exact nomark _ | rfl) : PE2 X W (.Compare a [op] [b] pos) (t2Op r ta tb) :=
  ⟨peImp (pe_cmpR op_any ha.pe hb.pe hm) fun _ _ _ q => low_op ha.mono hb.mono ho.mono ho.op q, mono_op ho.mono ha.mono hb.mono⟩
end

/-! ### the operators' meanings -/
section
variable {X : Cx}
/-- two ints, under a condition -/
def q2I (C : Int → Int → Prop) (g : Int → Int → PyData) : R22 := fun x y st Q => match rd st x, rd st y with
  | some (.int i), some (.int j) => C i j ∧ Q (.d (g i j)) st
  | _, _ => False
def q2I0 (g : Int → Int → PyData) : R22 := fun x y st Q => match rd st x, rd st y with
  | some (.int i), some (.int j) => Q (.d (g i j)) st
  | _, _ => False
/-- the value of plain scalar data -/
def sv : PyData → V
  | .bool b => .bl b
  | .int i => .int i
  | .str s => .str s
  | _ => .non
theorem op2I {f : Value → Value → Sem Value} {C : Int → Int → Prop} {g : Int → Int → PyData} {gv : Int → Int → V} (h : OpR X f (rI C gv)) (hg : ∀ i j D, Dq X.K D (gv i j) (g i j)) : OpR2 X f (q2I C g) := by
  refine ⟨fun w st σ H x y dx dy Q R rx ry q => ?_, fun x y st Q Q' h q => ?_⟩
  · simp only [q2I] at q
    split at q
    · rename_i i j e1 e2
      exact ⟨_, h, i, j, rd_int R rx e1, rd_int R ry e2, q.1, fin_d R (hg i j _) q.2⟩
    · exact q.elim
  · simp only [q2I] at q ⊢
    split at q
    · exact ⟨q.1, h _ _ q.2⟩
    · exact q.elim
theorem op2I0 {f : Value → Value → Sem Value} {g : Int → Int → PyData} {gv : Int → Int → V} (h : OpR X f (rI0 gv)) (hg : ∀ i j D, Dq X.K D (gv i j) (g i j)) : OpR2 X f (q2I0 g) := by
  refine ⟨fun w st σ H x y dx dy Q R rx ry q => ?_, fun x y st Q Q' h q => ?_⟩
  · simp only [q2I0] at q
    split at q
    · rename_i i j e1 e2
      exact ⟨_, h, i, j, rd_int R rx e1, rd_int R ry e2, fin_d R (hg i j _) q⟩
    · exact q.elim
  · simp only [q2I0] at q ⊢
    split at q
    · exact h _ _ q
    · exact q.elim
theorem o2sub : OpR2 X (binaryOp .Sub) (q2I0 fun i j => .int (i - j)) := op2I0 op_sub fun _ _ _ => .int _
theorem o2fdiv : OpR2 X (binaryOp .FloorDiv) (q2I CDivW fun i j => .int (i / j)) := op2I op_fdivW fun _ _ _ => .int _
theorem o2mod : OpR2 X (binaryOp .Mod) (q2I (fun _ j => 0 < j) fun i j => .int (i % j)) := op2I op_mod fun _ _ _ => .int _
theorem o2pow : OpR2 X (binaryOp .Pow) (q2I CPow fun i j => .int (i ^ j.toNat)) := op2I op_pow fun _ _ _ => .int _
theorem o2shl : OpR2 X (binaryOp .LShift) (q2I CPow fun i j => .int (i * 2 ^ j.toNat)) := op2I op_shl fun _ _ _ => .int _
theorem o2shr : OpR2 X (binaryOp .RShift) (q2I (fun _ j => 0 ≤ j) fun i j => .int (i / 2 ^ j.toNat)) := op2I op_shr fun _ _ _ => .int _
theorem o2and : OpR2 X (binaryOp .BitAnd) (q2I0 fun i j => .int (Builtin.bitAnd i j)) := op2I0 op_and fun _ _ _ => .int _
theorem o2lt : OpR2 X (compareOp .Lt) (q2I0 fun i j => .bool (decide (i < j))) := op2I0 op_lt fun _ _ _ => .bl _
theorem o2le : OpR2 X (compareOp .LtE) (q2I0 fun i j => .bool (decide (i ≤ j))) := op2I0 op_le fun _ _ _ => .bl _
theorem o2gt : OpR2 X (compareOp .Gt) (q2I0 fun i j => .bool (decide (j < i))) := op2I0 op_gt fun _ _ _ => .bl _
theorem o2ge : OpR2 X (compareOp .GtE) (q2I0 fun i j => .bool (decide (j ≤ i))) := op2I0 op_ge fun _ _ _ => .bl _
/-- + -/
def q2Add : R22 := fun x y st Q => match rd st x, rd st y with
  | some (.int i), some (.int j) => Q (.d (.int (i + j))) st
  | some (.str i), some (.str j) => i.length + j.length ≤ sizeLine ∧ Q (.d (.str (i ++ j))) st
  | some (.tuple xs), some (.tuple ys) => xs.length + ys.length ≤ sizeLine ∧ Q (.d (.tuple (xs ++ ys))) st
  | some (.list xs), some (.list ys) => xs.length + ys.length ≤ sizeLine ∧ Q (.o st.m.length) (st.new (xs ++ ys))
  | _, _ => False
theorem o2add : OpR2 X (binaryOp .Add) q2Add := by
  refine ⟨fun w st σ H x y dx dy Q R rx ry q => ?_, fun x y st Q Q' h q => ?_⟩
  · simp only [q2Add] at q
    split at q
    · rename_i i j e1 e2
      exact ⟨_, op_add, i, j, rd_int R rx e1, rd_int R ry e2, fin_d R (.int _) q⟩
    · rename_i i j e1 e2
      exact ⟨_, op_add_str, i, j, rd_str R rx e1, rd_str R ry e2, q.1, fin_d R (.str _) q.2⟩
    · rename_i xs ys e1 e2
      obtain ⟨a, vs, rfl, h1, h1', h2⟩ := rd_tup R rx e1
      obtain ⟨b, us, rfl, g1, g1', g2⟩ := rd_tup R ry e2
      refine ⟨_, op_catA, a, b, vs, us, rfl, rfl, h1, g1, by rw [dqa_len h2, dqa_len g2]; exact q.1, fun e => ?_, fun _ e => ?_, fun _ _ p hp => fin_tup R (dqa_app h2 g2) q.2 hp⟩
      · subst e
        have e0 : xs = [] := by cases h2; rfl
        subst e0
        exact fin_d R (.tup g1' (by simpa using g2)) q.2
      · subst e
        have e0 : ys = [] := by cases g2; rfl
        subst e0
        exact fin_d R (.tup h1' (by simpa using h2)) q.2
    · rename_i xs ys e1 e2
      obtain ⟨a, vs, rfl, h1, h2⟩ := rd_list R rx e1
      obtain ⟨b, us, rfl, g1, g2⟩ := rd_list R ry e2
      exact ⟨_, op_cat, a, b, vs, us, rfl, rfl, h1, g1, by rw [dqa_len h2, dqa_len g2]; exact q.1, fun p hp => fin_lst R (dqa_app h2 g2) q.2 hp⟩
    · exact q.elim
  · simp only [q2Add] at q ⊢
    split at q
    · exact h _ _ q
    · exact ⟨q.1, h _ _ q.2⟩
    · exact ⟨q.1, h _ _ q.2⟩
    · exact ⟨q.1, h _ _ q.2⟩
    · exact q.elim
theorem dqa_flat {K : PySem.W.Frag} {D : Hp} {vs : List V} {xs : List PyData} (h : DqA K D vs xs) : ∀ n, DqA K D (List.replicate n vs).flatten (List.replicate n xs).flatten
  | 0 => .nil
  | n + 1 => dqa_app h (dqa_flat h n)
/-- * -/
def q2Mul : R22 := fun x y st Q => match rd st x, rd st y with
  | some (.int i), some (.int j) => CMulW i j ∧ Q (.d (.int (i * j))) st
  | some (.list xs), some (.int n) => (-(2 ^ 63) ≤ n ∧ n < 2 ^ 63 ∧ xs.length * n.toNat ≤ sizeLine) ∧ Q (.o st.m.length) (st.new (List.replicate n.toNat xs).flatten)
  | some (.tuple xs), some (.int n) => (xs ≠ [] ∧ 0 ≤ n ∧ n ≤ 1000 ∧ xs.length ≤ 1000) ∧ Q (.d (.tuple (List.replicate n.toNat xs).flatten)) st
  | _, _ => False
theorem o2mul : OpR2 X (binaryOp .Mult) q2Mul := by
  refine ⟨fun w st σ H x y dx dy Q R rx ry q => ?_, fun x y st Q Q' h q => ?_⟩
  · simp only [q2Mul] at q
    split at q
    · rename_i i j e1 e2
      exact ⟨_, op_mulW, i, j, rd_int R rx e1, rd_int R ry e2, q.1, fin_d R (.int _) q.2⟩
    · rename_i xs n e1 e2
      obtain ⟨a, vs, rfl, h1, h2⟩ := rd_list R rx e1
      exact ⟨_, op_rep, a, n, vs, rfl, rd_int R ry e2, h1, q.1.1, q.1.2.1, by rw [dqa_len h2]; exact q.1.2.2, fun p hp => fin_lst R (dqa_flat h2 _) q.2 hp⟩
    · rename_i xs n e1 e2
      obtain ⟨a, vs, rfl, h1, hv, h2⟩ := rd_tup R rx e1
      have ne : vs ≠ [] := fun e => q.1.1 (by subst e; cases h2; rfl)
      by_cases z0 : n = 0
      · subst z0
        exact ⟨_, op_tm0, a, vs, rfl, rd_int R ry e2, h1, ne, fun p hp => fin_tup R .nil q.2 hp⟩
      by_cases z1 : n = 1
      · subst z1
        have e : (List.replicate (1 : Int).toNat xs).flatten = xs := by simp
        exact ⟨_, op_tm1, a, vs, rfl, rd_int R ry e2, h1, fin_d R (by rw [e]; exact .tup hv h2) q.2⟩
      exact ⟨_, op_repT, a, n, vs, rfl, rd_int R ry e2, h1, ne, by omega, q.1.2.2.1, by rw [dqa_len h2]; exact q.1.2.2.2, fun p hp => fin_tup R (dqa_flat h2 _) q.2 hp⟩
    · exact q.elim
  · simp only [q2Mul] at q ⊢
    split at q
    · exact ⟨q.1, h _ _ q.2⟩
    · exact ⟨q.1, h _ _ q.2⟩
    · exact ⟨q.1, h _ _ q.2⟩
    · exact q.elim
/-- whether two plain scalars may be compared at once -/
def scl : PyData → Bool
  | .none => true
  | .bool _ => true
  | .int _ => true
  | .str _ => true
  | _ => false
def q2Eq (neg : Bool) : R22 := fun x y st Q => match rd st x, rd st y with
  | some (.int i), some (.int j) => Q (.d (.bool (neg ^^ decide (i = j)))) st
  | some a, some b => (SeqAt.shaped a = true ∧ SeqAt.shaped b = true) ∧ Q (.d (.bool (neg ^^ PyData.eqv a b))) st
  | _, _ => False
theorem q2Eq_mono {neg : Bool} : Mono22 (q2Eq neg) := fun x y st Q Q' h q => by
  simp only [q2Eq] at q ⊢
  split at q
  · exact h _ _ q
  · exact ⟨q.1, h _ _ q.2⟩
  · exact q.elim
theorem o2eq (hu : X.A.units + 64 < cLine) : OpR2 X (compareOp .Eq) (q2Eq false) := by
  refine ⟨fun w st σ H x y dx dy Q R rx ry q => ?_, q2Eq_mono⟩
  simp only [q2Eq] at q
  split at q
  · rename_i i j e1 e2
    refine ⟨_, op_eq, ?_⟩
    rw [rd_int R rx e1, rd_int R ry e2]
    refine ⟨rfl, fin_d R (.bl _) ?_⟩
    have : decide (V.int i = V.int j) = (false ^^ decide (i = j)) := by simp
    rw [this]; exact q
  · rename_i a b _ e1 e2
    refine ⟨_, op_eqD hu, a, b, dq_dp _ _ (lay_of q.1.1) (rd_dq R rx e1), dq_dp _ _ (lay_of q.1.2) (rd_dq R ry e2), q.1.1, q.1.2, fin_d R (.bl _) ?_⟩
    have : PyData.eqv a b = (false ^^ PyData.eqv a b) := by simp
    rw [this]; exact q.2
  · exact q.elim
theorem o2ne (hu : X.A.units + 64 < cLine) : OpR2 X (compareOp .NotEq) (q2Eq true) := by
  refine ⟨fun w st σ H x y dx dy Q R rx ry q => ?_, q2Eq_mono⟩
  simp only [q2Eq] at q
  split at q
  · rename_i i j e1 e2
    refine ⟨_, op_ne, ?_⟩
    rw [rd_int R rx e1, rd_int R ry e2]
    refine ⟨rfl, fin_d R (.bl _) ?_⟩
    have : (!decide (V.int i = V.int j)) = (true ^^ decide (i = j)) := by simp
    rw [this]; exact q
  · rename_i a b _ e1 e2
    refine ⟨_, op_neD hu, a, b, dq_dp _ _ (lay_of q.1.1) (rd_dq R rx e1), dq_dp _ _ (lay_of q.1.2) (rd_dq R ry e2), q.1.1, q.1.2, fin_d R (.bl _) ?_⟩
    have : (!PyData.eqv a b) = (true ^^ PyData.eqv a b) := by simp
    rw [this]; exact q.2
  · exact q.elim
/-- {} -/
theorem p2dic {pos : Pos} : PE2 X W (.Dict [] [] pos) (t2C (.dict [])) := by
  refine ⟨peImp pe_dnewK fun σ H Q q => ?_, fun ex st Q Q' h q => h _ _ q⟩
  obtain ⟨w, st, ex, R, l, q⟩ := q
  intro p hp
  obtain ⟨R', l'⟩ := R.h.fix hp (.dK [])
  exact q _ _ _ l' ⟨R', R.l.up l'⟩ (.dic upd_same)
/-- is None -/
def isNone (st : S) : DV → Bool
  | .d .none => true
  | .raw v => decide (v = .non)
  | _ => false
theorem isNone_ok {w : Wd} {st : S} {σ : St} {H : Hp} {v : V} {x : DV} (R : RepS X.K w st σ H) (r : RepV X.K w v x) : decide (v = .non) = isNone st x := by
  cases x with
  | d x => cases x <;> cases r <;> simp [isNone]
  | o k => obtain ⟨a, _, rfl⟩ := r; simp [isNone]
  | deal => obtain ⟨a, b, _, rfl⟩ := r; simp [isNone]
  | scr ns => obtain ⟨a, rfl, _⟩ := r; simp [isNone]
  | raw u => cases r; rfl
def q2Is (neg : Bool) : R22 := fun x y st Q => match y with
  | .d .none => Q (.d (.bool (neg ^^ isNone st x))) st
  | _ => False
theorem q2Is_mono {neg : Bool} : Mono22 (q2Is neg) := fun x y st Q Q' h q => by
  unfold q2Is at q ⊢
  split at q
  · exact h _ _ q
  · exact q.elim
theorem o2isN : OpR2 X (compareOp .Is) (q2Is false) := by
  refine ⟨fun w st σ H x y dx dy Q R rx ry q => ?_, q2Is_mono⟩
  unfold q2Is at q
  split at q
  · cases ry
    refine ⟨_, op_isN, rfl, fin_d R (.bl _) ?_⟩
    rw [isNone_ok R rx]; simpa using q
  · exact q.elim
theorem o2notN : OpR2 X (compareOp .IsNot) (q2Is true) := by
  refine ⟨fun w st σ H x y dx dy Q R rx ry q => ?_, q2Is_mono⟩
  unfold q2Is at q
  split at q
  · cases ry
    refine ⟨_, op_notN, rfl, fin_d R (.bl _) ?_⟩
    rw [isNone_ok R rx]; simpa using q
  · exact q.elim
def q1Neg : R21 := fun x st Q => match rd st x with
  | some (.int i) => Q (.d (.int (-i))) st
  | _ => False
theorem u2neg : UnR2 X (unaryOp .USub) q1Neg := by
  refine ⟨fun w st σ H x dx Q R rx q => ?_, fun x st Q Q' h q => ?_⟩
  · simp only [q1Neg] at q
    split at q
    · rename_i i e1
      exact ⟨_, un_neg, i, rd_int R rx e1, fin_d R (.int _) q⟩
    · exact q.elim
  · simp only [q1Neg] at q ⊢
    split at q
    · exact h _ _ q
    · exact q.elim
end
end G

end
section
set_option maxHeartbeats 2000000
/-! GC: arguments, displays, built-in functions, methods, subscripts, tests. -/
namespace G
open PySem L2
section
variable {X : Cx} {W : WX} {a b c e o : Expr} {es : List Expr} {ta tb te : TE2} {tl : TA2} {pos : Pos}
/-! ### arguments -/
def t2Nil : TA2 := fun _ st Q => Q [] st
def t2Cons (te : TE2) (t : TA2) : TA2 := fun ex st Q => te ex st fun x st1 => t ex st1 fun xs st2 => Q (x :: xs) st2
theorem p2nil : PA2 X W [] t2Nil := by
  refine ⟨paImp pa_nil fun σ H Q q => ?_, fun ex st Q Q' h q => h _ _ q⟩
  obtain ⟨w, st, ex, R, l, q⟩ := q
  exact q w H [] (Le.refl w) R .nil
theorem mono_cons (ha : MonoE te) (hb : MonoA tl) : MonoA (t2Cons te tl) := fun ex st Q Q' h q => ha ex st _ _ (fun x st1 q1 => hb ex st1 _ _ (fun y st2 q2 => h _ _ q2) q1) q
theorem p2cons (he : PE2 X W e te) (hr : PA2 X W es tl) (hs : starEach (e :: es) X.env = (false, eval e X.env) :: starEach es X.env := by rfl) : PA2 X W (e :: es) (t2Cons te tl) := by
  refine ⟨paImp (pa_cons he.pe hr.pa hs) fun σ H Q q => ?_, mono_cons he.mono hr.mono⟩
  obtain ⟨w, st, ex, R, l, q⟩ := q
  refine low_of he.mono R l q fun x st1 w1 H1 v1 q1 l1 R1 k1 rv1 => ?_
  refine lowA_of hr.mono R1 k1 q1 fun xs st2 w2 H2 vs q2 l2 R2 k2 rv2 => ?_
  exact q2 w2 H2 (v1 :: vs) (l1.trans l2) R2 (.cons (rv1.up l2) rv2)

/-! ### displays -/
def t2Tup (tl : TA2) : TE2 := fun ex st Q => tl ex st fun xs st1 => asDs xs st1 fun ys st2 => ys.length ≤ sizeLine ∧ Q (.d (.tuple ys)) st2
def t2Lst (tl : TA2) : TE2 := fun ex st Q => tl ex st fun xs st1 => asDs xs st1 fun ys st2 => ys.length ≤ sizeLine ∧ Q (.o st2.m.length) (st2.new ys)
theorem p2tup (h : PA2 X W es tl) {x1 : Nat} : PE2 X W (.Tuple es x1 pos) (t2Tup tl) := by
  refine ⟨peImp (pe_tup h.pa) fun σ H Q q => ?_, fun ex st Q Q' hh q => h.mono ex st _ _ (fun xs st1 q1 => asDs_mono (fun ys st2 q2 => ⟨q2.1, hh _ _ q2.2⟩) q1) q⟩
  obtain ⟨w, st, ex, R, l, q⟩ := q
  refine lowA_of h.mono R l q fun xs st1 w1 H1 vs q1 l1 R1 k1 rv1 => ?_
  obtain ⟨w2, st2, ys, l2, R2, d2, q2, _⟩ := asDs_ok R1 rv1 q1
  refine ⟨by rw [dqa_len d2]; exact q2.1, fun p hp => fin_tup R2 d2 (fin_up (l1.trans l2) _ _ q2.2) hp⟩
theorem p2lst (h : PA2 X W es tl) : PE2 X W (.List es pos) (t2Lst tl) := by
  refine ⟨peImp (pe_lst h.pa) fun σ H Q q => ?_, fun ex st Q Q' hh q => h.mono ex st _ _ (fun xs st1 q1 => asDs_mono (fun ys st2 q2 => ⟨q2.1, hh _ _ q2.2⟩) q1) q⟩
  obtain ⟨w, st, ex, R, l, q⟩ := q
  refine lowA_of h.mono R l q fun xs st1 w1 H1 vs q1 l1 R1 k1 rv1 => ?_
  obtain ⟨w2, st2, ys, l2, R2, d2, q2, _⟩ := asDs_ok R1 rv1 q1
  refine ⟨by rw [dqa_len d2]; exact q2.1, fun p hp => fin_lst R2 d2 (fin_up (l1.trans l2) _ _ q2.2) hp⟩

/-! ### built-in functions and types -/
abbrev RC2 := List DV → S → KD → Prop
def MonoC (r : RC2) : Prop := ∀ xs st Q Q', (∀ z s, Q z s → Q' z s) → r xs st Q → r xs st Q'
structure CallR2 (X : Cx) (f : Value) (r : RC2) : Prop where
  op : ∀ w st σ H vs xs Q, RepS X.K w st σ H → RepA X.K w vs xs → r xs st (Fin X.K w σ Q) → ∃ r' : List V → Hp → VK → Prop, CallR X f r' ∧ r' vs H Q
  mono : MonoC r
theorem call_any {f : Value} : CallR X f (fun x H Q => ∃ r : List V → Hp → VK → Prop, CallR X f r ∧ r x H Q) := fun pins s σ H x v Q I rx ⟨r, h, q⟩ => h pins s σ H x v Q I rx q
def t2CB (r : RC2) (tl : TA2) : TE2 := fun ex st Q => tl ex st fun xs st1 => r xs st1 Q
theorem low_cb {r : RC2} (hl : MonoA tl) {f : Value} (hc : CallR2 X f r) {σ : St} {H : Hp} {Q : VK} (q : low X.K W (t2CB r tl) σ H Q) : tCB (fun x H Q => ∃ r : List V → Hp → VK → Prop, CallR X f r ∧ r x H Q) (lowA X.K W tl) σ H Q := by
  obtain ⟨w, st, ex, R, l, q⟩ := q
  refine lowA_of hl R l q fun xs st1 w1 H1 vs q1 l1 R1 k1 rv1 => ?_
  exact hc.op w1 st1 σ H1 vs xs Q R1 rv1 (hc.mono xs st1 _ _ (fin_up l1) q1)
theorem mono_cb {r : RC2} (hl : MonoA tl) (hr : MonoC r) : MonoE (t2CB r tl) := fun ex st Q Q' h q => hl ex st _ _ (fun xs st1 q1 => hr xs st1 _ _ h q1) q
theorem p2callB {r : RC2} {id : String} {x : Str} {p : Pos} (hc : CallR2 X (.builtin id) r) (hm : X.mg x = none) (ha : PA2 X W (e :: es) tl) (hv : bootBuiltins x = some (.builtin id) := by decide +kernel) (hg : Gl X x := by rfl)
    (hn : x ≠ "__name__" := by decide) (hdb : (x == ("__debug__" : Str)) = false := by decide)
    (he : starEach (e :: es) X.env = (false, eval e X.env) :: starEach es X.env := by rfl) (hpl : (backTo pos (starEach es X.env)).any (·.1) = false := by rfl) : PE2 X W (.Call (.Name x p) (e :: es) [] pos) (t2CB r tl) :=
  ⟨peImp (pe_callB call_any hg hm hv ha.pa hn hdb he hpl) fun _ _ _ q => low_cb ha.mono hc q, mono_cb ha.mono hc.mono⟩
theorem p2callT {r : RC2} {T : String} {x : Str} {p : Pos} (hc : CallR2 X (.type T) r) (hm : X.mg x = none) (ha : PA2 X W (e :: es) tl) (hv : bootBuiltins x = some (.type T) := by decide +kernel) (hg : Gl X x := by rfl)
    (hn : x ≠ "__name__" := by decide) (hdb : (x == ("__debug__" : Str)) = false := by decide)
    (he : starEach (e :: es) X.env = (false, eval e X.env) :: starEach es X.env := by rfl) (hpl : (backTo pos (starEach es X.env)).any (·.1) = false := by rfl) : PE2 X W (.Call (.Name x p) (e :: es) [] pos) (t2CB r tl) :=
  ⟨peImp (pe_callTy call_any hg hm hv ha.pa hn hdb he hpl) fun _ _ _ q => low_cb ha.mono hc q, mono_cb ha.mono hc.mono⟩
/-- len -/
def c2Len : RC2 := fun xs st Q => match xs with
  | [x] => match rd st x with
    | some (.list ys) => Q (.d (.int ys.length)) st
    | some (.tuple ys) => Q (.d (.int ys.length)) st
    | _ => False
  | _ => False
theorem b2len : CallR2 X (.builtin "len") c2Len := by
  refine ⟨fun w st σ H vs xs Q R ra q => ?_, fun xs st Q Q' h q => ?_⟩
  · unfold c2Len at q
    split at q
    · rename_i x
      cases ra with
      | cons r t =>
      cases t
      split at q
      · rename_i ys e1
        obtain ⟨a, us, rfl, h1, h2⟩ := rd_list R r e1
        refine ⟨_, call_len_seq, a, us, rfl, .inl (SqL.of h1), fin_d R (.int _) ?_⟩
        rw [dqa_len h2]; exact q
      · rename_i ys e1
        obtain ⟨a, us, rfl, h1, _, h2⟩ := rd_tup R r e1
        refine ⟨_, call_len_seq, a, us, rfl, .inr h1, fin_d R (.int _) ?_⟩
        rw [dqa_len h2]; exact q
      · exact q.elim
    · exact q.elim
  · unfold c2Len at q ⊢
    split at q
    · split at q
      · exact h _ _ q
      · exact h _ _ q
      · exact q.elim
    · exact q.elim
/-- int of an int or a bool -/
def c2Int : RC2 := fun xs st Q => match xs with
  | [x] => match rd st x with
    | some (.int i) => Q (.d (.int i)) st
    | some (.bool k) => Q (.d (.int (if k then 1 else 0))) st
    | _ => False
  | _ => False
theorem b2int : CallR2 X (.type "int") c2Int := by
  refine ⟨fun w st σ H vs xs Q R ra q => ?_, fun xs st Q Q' h q => ?_⟩
  · unfold c2Int at q
    split at q
    · rename_i x
      cases ra with
      | cons r t =>
      cases t
      split at q
      · rename_i i e1
        exact ⟨_, call_int1, .inl ⟨i, by rw [rd_int R r e1], fin_d R (.int _) q⟩⟩
      · rename_i i e1
        exact ⟨_, call_int1, .inr ⟨i, by rw [rd_bool R r e1], fin_d R (.int _) q⟩⟩
      · exact q.elim
    · exact q.elim
  · unfold c2Int at q ⊢
    split at q
    · split at q
      · exact h _ _ q
      · exact h _ _ q
      · exact q.elim
    · exact q.elim
def c2Abs : RC2 := fun xs st Q => match xs with
  | [x] => match rd st x with
    | some (.int i) => Q (.d (.int (if i < 0 then -i else i))) st
    | _ => False
  | _ => False
theorem b2abs : CallR2 X (.builtin "abs") c2Abs := by
  refine ⟨fun w st σ H vs xs Q R ra q => ?_, fun xs st Q Q' h q => ?_⟩
  · unfold c2Abs at q
    split at q
    · rename_i x
      cases ra with
      | cons r t =>
      cases t
      split at q
      · rename_i i e1
        exact ⟨_, call_abs, i, by rw [rd_int R r e1], fin_d R (.int _) q⟩
      · exact q.elim
    · exact q.elim
  · unfold c2Abs at q ⊢
    split at q
    · split at q
      · exact h _ _ q
      · exact q.elim
    · exact q.elim
/-- max, min of two ints -/
def c2Two (g : Int → Int → Int) : RC2 := fun xs st Q => match xs with
  | [x, y] => match rd st x, rd st y with
    | some (.int i), some (.int j) => Q (.d (.int (g i j))) st
    | _, _ => False
  | _ => False
theorem c2Two_mono {g : Int → Int → Int} : MonoC (c2Two g) := fun xs st Q Q' h q => by
  unfold c2Two at q ⊢
  split at q
  · split at q
    · exact h _ _ q
    · exact q.elim
  · exact q.elim
theorem b2max (hc : X.calm = true := by rfl) : CallR2 X (.builtin "max") (c2Two fun i j => if j > i then j else i) := by
  refine ⟨fun w st σ H vs xs Q R ra q => ?_, c2Two_mono⟩
  unfold c2Two at q
  split at q
  · rename_i x y
    cases ra with
    | cons r t =>
    cases t with
    | cons r2 t =>
    cases t
    split at q
    · rename_i i j e1 e2
      exact ⟨_, call_max2 hc, i, j, by rw [rd_int R r e1, rd_int R r2 e2], fin_d R (.int _) q⟩
    · exact q.elim
  · exact q.elim
theorem b2min (hc : X.calm = true := by rfl) : CallR2 X (.builtin "min") (c2Two fun i j => if j < i then j else i) := by
  refine ⟨fun w st σ H vs xs Q R ra q => ?_, c2Two_mono⟩
  unfold c2Two at q
  split at q
  · rename_i x y
    cases ra with
    | cons r t =>
    cases t with
    | cons r2 t =>
    cases t
    split at q
    · rename_i i j e1 e2
      exact ⟨_, call_min2 hc, i, j, by rw [rd_int R r e1, rd_int R r2 e2], fin_d R (.int _) q⟩
    · exact q.elim
  · exact q.elim
/-- list(x), x a list or a tuple -/
def seqOf : PyData → Option (List PyData)
  | .list ys => some ys
  | .tuple ys => some ys
  | _ => none
def c2List : RC2 := fun xs st Q => match xs with
  | [x] => match rd st x with
    | some (.list ys) => Q (.o st.m.length) (st.new ys)
    | some (.tuple ys) => Q (.o st.m.length) (st.new ys)
    | _ => False
  | _ => False
theorem b2list : CallR2 X (.type "list") c2List := by
  refine ⟨fun w st σ H vs xs Q R ra q => ?_, fun xs st Q Q' h q => ?_⟩
  · unfold c2List at q
    split at q
    · rename_i x
      cases ra with
      | cons r t =>
      cases t
      split at q
      · rename_i ys e1
        obtain ⟨a, us, rfl, h1, h2⟩ := rd_list R r e1
        exact ⟨_, call_list_of, a, us, rfl, .inl (SqL.of h1), fun l hl => fin_lst R h2 q hl⟩
      · rename_i ys e1
        obtain ⟨a, us, rfl, h1, _, h2⟩ := rd_tup R r e1
        exact ⟨_, call_list_of, a, us, rfl, .inr h1, fun l hl => fin_lst R h2 q hl⟩
      · exact q.elim
    · exact q.elim
  · unfold c2List at q ⊢
    split at q
    · split at q
      · exact h _ _ q
      · exact h _ _ q
      · exact q.elim
    · exact q.elim
/-- tuple(x) -/
def c2Tuple : RC2 := fun xs st Q => match xs with
  | [x] => match rd st x with
    | some (.list ys) => Q (.d (.tuple ys)) st
    | some (.tuple ys) => Q (.d (.tuple ys)) st
    | _ => False
  | _ => False
theorem b2tuple : CallR2 X (.type "tuple") c2Tuple := by
  refine ⟨fun w st σ H vs xs Q R ra q => ?_, fun xs st Q Q' h q => ?_⟩
  · unfold c2Tuple at q
    split at q
    · rename_i x
      cases ra with
      | cons r t =>
      cases t
      split at q
      · rename_i ys e1
        obtain ⟨a, us, rfl, h1, h2⟩ := rd_list R r e1
        exact ⟨_, call_tuple_of, a, us, rfl, .inl ⟨SqL.of h1, fun l hl => fin_tup R h2 q hl⟩⟩
      · rename_i ys e1
        obtain ⟨a, us, rfl, h1, h1', h2⟩ := rd_tup R r e1
        exact ⟨_, call_tuple_of, a, us, rfl, .inr ⟨h1, fin_d R (.tup h1' h2) q⟩⟩
      · exact q.elim
    · exact q.elim
  · unfold c2Tuple at q ⊢
    split at q
    · split at q
      · exact h _ _ q
      · exact h _ _ q
      · exact q.elim
    · exact q.elim
/-- all, any of bools -/
def bools : List PyData → Option (List Bool)
  | [] => some []
  | .bool b :: r => (bools r).map (b :: ·)
  | _ => none
theorem bools_ok {K : PySem.W.Frag} {D : Hp} : ∀ {xs : List PyData} {vs : List V} {bs : List Bool}, DqA K D vs xs → bools xs = some bs → vs = bs.map V.bl
  | [], _, _, h, e => by cases h; cases e; rfl
  | x :: xs, _, _, h, e => by
    cases h with
    | cons a b =>
      cases x with
      | bool k =>
        cases a
        simp only [bools, Option.map_eq_some_iff] at e
        obtain ⟨r, e1, rfl⟩ := e
        rw [bools_ok b e1]; rfl
      | _ => cases e
def c2All (any : Bool) : RC2 := fun xs st Q => match xs with
  | [x] => match rd st x with
    | some (.list ys) => match bools ys with
      | some bs => Q (.d (.bool (if any then bs.any id else bs.all id))) st
      | none => False
    | _ => False
  | _ => False
theorem c2All_mono {any : Bool} : MonoC (c2All any) := fun xs st Q Q' h q => by
  unfold c2All at q ⊢
  split at q
  · split at q
    · split at q
      · exact h _ _ q
      · exact q.elim
    · exact q.elim
  · exact q.elim
theorem b2all (hc : X.calm = true := by rfl) : CallR2 X (.builtin "all") (c2All false) := by
  refine ⟨fun w st σ H vs xs Q R ra q => ?_, c2All_mono⟩
  unfold c2All at q
  split at q
  · rename_i x
    cases ra with
    | cons r t =>
    cases t
    split at q
    · rename_i ys e1
      obtain ⟨a, us, rfl, h1, h2⟩ := rd_list R r e1
      split at q
      · rename_i bs e2
        refine ⟨_, cr_all hc, a, bs, rfl, ?_, fin_d R (.bl _) q⟩
        rw [← bools_ok h2 e2]; exact SqL.of h1
      · exact q.elim
    · exact q.elim
  · exact q.elim
theorem b2any (hc : X.calm = true := by rfl) : CallR2 X (.builtin "any") (c2All true) := by
  refine ⟨fun w st σ H vs xs Q R ra q => ?_, c2All_mono⟩
  unfold c2All at q
  split at q
  · rename_i x
    cases ra with
    | cons r t =>
    cases t
    split at q
    · rename_i ys e1
      obtain ⟨a, us, rfl, h1, h2⟩ := rd_list R r e1
      split at q
      · rename_i bs e2
        refine ⟨_, cr_any hc, a, bs, rfl, ?_, fin_d R (.bl _) q⟩
        rw [← bools_ok h2 e2]; exact SqL.of h1
      · exact q.elim
    · exact q.elim
  · exact q.elim
/-- sum of ints -/
def intsOf : List PyData → Option (List Int)
  | [] => some []
  | .int b :: r => (intsOf r).map (b :: ·)
  | _ => none
theorem ints_ok {K : PySem.W.Frag} {D : Hp} : ∀ {xs : List PyData} {vs : List V} {bs : List Int}, DqA K D vs xs → intsOf xs = some bs → vs = bs.map V.int
  | [], _, _, h, e => by cases h; cases e; rfl
  | x :: xs, _, _, h, e => by
    cases h with
    | cons a b =>
      cases x with
      | int k =>
        cases a
        simp only [intsOf, Option.map_eq_some_iff] at e
        obtain ⟨r, e1, rfl⟩ := e
        rw [ints_ok b e1]; rfl
      | _ => cases e
theorem intsOf_map : ∀ ns : List Int, intsOf (ns.map PyData.int) = some ns
  | [] => rfl
  | n :: ns => by simp [intsOf, intsOf_map ns]
def c2Sum : RC2 := fun xs st Q => match xs with
  | [x] => match rd st x with
    | some (.list ys) => match intsOf ys with
      | some bs => Q (.d (.int bs.sum)) st
      | none => False
    | _ => False
  | _ => False
theorem b2sum (hc : X.calm = true := by rfl) : CallR2 X (.builtin "sum") c2Sum := by
  refine ⟨fun w st σ H vs xs Q R ra q => ?_, fun xs st Q Q' h q => ?_⟩
  · unfold c2Sum at q
    split at q
    · rename_i x
      cases ra with
      | cons r t =>
      cases t
      split at q
      · rename_i ys e1
        obtain ⟨a, us, rfl, h1, h2⟩ := rd_list R r e1
        split at q
        · rename_i bs e2
          refine ⟨_, cr_sum hc, a, bs, rfl, ?_, fin_d R (.int _) q⟩
          rw [← ints_ok h2 e2]; exact SqL.of h1
        · exact q.elim
      · exact q.elim
    · exact q.elim
  · unfold c2Sum at q ⊢
    split at q
    · split at q
      · split at q
        · exact h _ _ q
        · exact q.elim
      · exact q.elim
    · exact q.elim
/-! ### isinstance -/
def tyName : PyData → String
  | .none => "NoneType"
  | .bool _ => "bool"
  | .int _ => "int"
  | .str _ => "str"
  | .list _ => "list"
  | .tuple _ => "tuple"
  | .dict _ => "dict"
/-- whether plain data is an instance of a built-in type -/
def isTy (x : PyData) (T : String) : Bool := match T with
  | "int" => match x with | .int _ => true | .bool _ => true | _ => false
  | "bool" => match x with | .bool _ => true | _ => false
  | "str" => match x with | .str _ => true | _ => false
  | "list" => match x with | .list _ => true | _ => false
  | "tuple" => match x with | .tuple _ => true | _ => false
  | _ => false
def okTy (T : String) : Bool := match T with
  | "int" => true
  | "bool" => true
  | "str" => true
  | "list" => true
  | "tuple" => true
  | _ => false
theorem isTy_kit (x : PyData) (T : String) (h : okTy T = true) : kitB (tyName x) T = some (isTy x T) := by
  unfold okTy at h
  split at h
  all_goals first
    | (cases h; done)
    | (cases x <;> (simp only [tyName, isTy]; decide +kernel))
theorem tyx_of {K : PySem.W.Frag} {H : Hp} {v : V} {x : PyData} (h : Dq K H v x) : TyX K H v (.type (tyName x)) := by
  cases h with
  | non => exact .base .non
  | bl b => exact .base (.bl b)
  | int i => exact .base (.int i)
  | str s => exact .base (.str s)
  | lst s d => exact .base (.lst s)
  | tup s d =>
    rcases s with (s | ⟨o, s⟩) | ⟨o, its, n, h1, h2, _⟩
    · exact .base (.tup s)
    · exact .fTuple s
    · exact .kTuple h1 h2
  | dic q => exact .base (.dK q)
/-- what isinstance's second argument names -/
def tyNames : DV → Option (List String)
  | .raw (.ty T) => if okTy T = true then some [T] else none
  | _ => none
def c2Isi : RC2 := fun xs st Q => match xs with
  | [x, .raw (.ty T)] => match rd st x with
    | some y => okTy T = true ∧ Q (.d (.bool (isTy y T))) st
    | none => False
  | _ => False
theorem b2isi : CallR2 X (.builtin "isinstance") c2Isi := by
  refine ⟨fun w st σ H vs xs Q R ra q => ?_, fun xs st Q Q' h q => ?_⟩
  · unfold c2Isi at q
    split at q
    · rename_i x T
      cases ra with
      | cons r t =>
      cases t with
      | cons r2 t =>
      cases t
      cases r2
      split at q
      · rename_i y e1
        have d := rd_dq R r e1
        exact ⟨_, call_isi, _, _, _, _, _, rfl, .ty T, tyx_of d, kit_ty (isTy_kit y T q.1), fin_d R (.bl _) q.2⟩
      · exact q.elim
    · exact q.elim
  · unfold c2Isi at q ⊢
    split at q
    · split at q
      · exact ⟨q.1, h _ _ q.2⟩
      · exact q.elim
    · exact q.elim
/-- a built-in type by its name -/
theorem p2ty {x : Str} {T : String} {p : Pos} (hm : X.mg x = none) (hv : bootBuiltins x = some (.type T) := by decide +kernel) (hg : Gl X x := by rfl) (hn : x ≠ "__name__" := by decide) (hd : (x == ("__debug__" : Str)) = false := by decide) :
    PE2 X W (.Name x p) (t2Raw (.ty T)) := pe2_raw (pe_bltn hg hm hv (v := .ty T) rfl hn hd)
/-- isinstance(x, (T, U)), both built-in types -/
def t2Isi2 (te : TE2) (T U : String) : TE2 := fun ex st Q => te ex st fun x st1 => match rd st1 x with
  | some y => (okTy T = true ∧ okTy U = true) ∧ Q (.d (.bool (isTy y T || isTy y U))) st1
  | none => False
theorem p2isi2 {x y : Str} {T U : String} {p p1 p2 p3 : Pos} {k3 : Nat} (ml : X.mg "isinstance" = none) (hm : X.mg x = none) (hm2 : X.mg y = none) (he : PE2 X W e te)
    (hv : bootBuiltins x = some (.type T) := by decide +kernel) (hg : Gl X x := by rfl) (hv2 : bootBuiltins y = some (.type U) := by decide +kernel) (hg2 : Gl X y := by rfl)
    (hn : x ≠ "__name__" := by decide) (hd : (x == ("__debug__" : Str)) = false := by decide) (hn2 : y ≠ "__name__" := by decide) (hd2 : (y == ("__debug__" : Str)) = false := by decide)
    (hgi : Gl X "isinstance" := by rfl)
    (hs1 : starEach [.Name x p1, .Name y p2] X.env = (false, eval (.Name x p1) X.env) :: starEach [.Name y p2] X.env := by rfl) (hs2 : starEach [.Name y p2] X.env = (false, eval (.Name y p2) X.env) :: starEach [] X.env := by rfl)
    (hs3 : starEach [.Tuple [.Name x p1, .Name y p2] k3 p3] X.env = (false, eval (.Tuple [.Name x p1, .Name y p2] k3 p3) X.env) :: starEach [] X.env := by rfl)
    (hst : starEach (e :: [.Tuple [.Name x p1, .Name y p2] k3 p3]) X.env = (false, eval e X.env) :: starEach [.Tuple [.Name x p1, .Name y p2] k3 p3] X.env := by rfl)
    (hpl : (backTo pos (starEach [.Tuple [.Name x p1, .Name y p2] k3 p3] X.env)).any (·.1) = false := by rfl) :
    PE2 X W (.Call (.Name "isinstance" p) [e, .Tuple [.Name x p1, .Name y p2] k3 p3] [] pos) (t2Isi2 te T U) := by
  refine ⟨peImp (pe_callB call_isiT hgi ml (by decide +kernel) (pa_cons he.pe (pa_cons (pe_tup (pa_cons (pe_bltn hg hm hv (v := .ty T) rfl hn hd) (pa_cons (pe_bltn hg2 hm2 hv2 (v := .ty U) rfl hn2 hd2) pa_nil hs2) hs1)) pa_nil hs3) hst) (by decide) (by decide) hst hpl) fun σ H Q q => ?_, fun ex st Q Q' h q => ?_⟩
  · obtain ⟨w, st, ex, R, l, q⟩ := q
    refine low_of he.mono R l q fun x st1 w1 H1 v1 q1 l1 R1 k1 rv1 => ?_
    split at q1
    · rename_i y e1
      refine ⟨by show 2 ≤ sizeLine; decide, fun p hp => ?_⟩
      obtain ⟨R', l'⟩ := R1.h.fix hp (.tup [.ty T, .ty U])
      have d := rd_dq R1 rv1 e1
      have d' : Dq X.K (upd H1 p (.tup [.ty T, .ty U])) v1 y := dq_up (Ext.new hp) _ _ d
      refine ⟨v1, p, [.ty T, .ty U], _, [.type T, .type U], (isTy y T || isTy y U), rfl, upd_same, .cons (.ty T) (.cons (.ty U) .nil), tyx_of d', ?_, ?_⟩
      · have a1 := kit_ty (K := X.K) (isTy_kit y T q1.1.1)
        have a2 := kit_ty (K := X.K) (isTy_kit y U q1.1.2)
        refine kitAny_cons a1 (fun z => ?_) (fun z => by rw [z]; rfl)
        refine kitAny_cons a2 (fun z2 => ?_) (fun z2 => by rw [z2]; simp)
        rw [z, z2]; rfl
      · exact q1.2 _ _ _ (l1.trans l') ⟨R', R1.l.up l'⟩ (.bl _)
    · exact q1.elim
  · refine he.mono ex st _ _ (fun x st1 q1 => ?_) q
    split at q1
    · exact ⟨q1.1, h _ _ q1.2⟩
    · exact q1.elim

/-! ### methods -/
def setLast (xs : List PyData) : List PyData := xs.dropLast
/-- xs.append(e): the receiver an owned list that may change -/
def t2App (to te : TE2) : TE2 := fun ex st Q => to ex st fun x st1 => match x with
  | .o k => te ex st1 fun y st2 => asD y st2 fun z st3 => match st3.m[k]? with
    | some ow => (ow.live = true ∧ ow.xs.length < sizeLine) ∧ Q (.d .none) (st3.put k (ow.xs ++ [z]))
    | none => False
  | _ => False
theorem p2app {to : TE2} {apos : Pos} (ho : PE2 X W o to) (he : PE2 X W e te)
    (hbase : attributeBase o "append" X.env (eval o X.env) = eval o X.env := by rfl)
    (hs1 : starEach [e] X.env = (false, eval e X.env) :: starEach [] X.env := by rfl)
    (hfew : ((backTo pos (starEach [e] X.env)).all (fun x => !x.1) && (backToKw pos (keywordEach [] X.env)).all (fun x => x.1.isSome)
      && decide ([e].length + ([] : List Keyword).length + (if ([] : List Keyword).isEmpty then 0 else 1) < 30)) = true := by rfl)
    (hline : (apos.endLine == pos.line) = true := by rfl) (hplain : (backTo pos (starEach [] X.env)).any (·.1) = false := by rfl) : PE2 X W (.Call (.Attribute o "append" apos) [e] [] pos) (t2App to te) := by
  refine ⟨peImp (pe_bm PySem.F.plainAttrs_list PySem.F.slot_list_append PySem.F.type_list_append mt_append ho.pe (pa_cons he.pe pa_nil hs1) hbase hfew hline hs1 hplain) fun σ H Q q => ?_, fun ex st Q Q' h q => ?_⟩
  · obtain ⟨w, st, ex, R, l, q⟩ := q
    refine low_of ho.mono R l q fun x st1 w1 H1 v1 q1 l1 R1 k1 rv1 => ?_
    split at q1
    · rename_i k
      obtain ⟨a, ha, rfl⟩ := rv1
      have hk : k < st1.m.length := by rw [← R1.h.len]; exact (List.getElem?_eq_some_iff.mp ha).1
      obtain ⟨us, e1, _⟩ := R1.h.own k a st1.m[k] ha (List.getElem?_eq_getElem hk)
      refine ⟨.inl ⟨rfl, us, SqL.of e1⟩, ?_⟩
      refine low_of he.mono R1 k1 q1 fun y st2 w2 H2 v2 q2 l2 R2 k2 rv2 => ?_
      obtain ⟨w3, st3, z, l3, R3, dz, q3, _⟩ := asD_ok R2 rv2 q2
      split at q3
      · rename_i ow e3
        have ha3 := l3.r k a (l2.r k a ha)
        obtain ⟨vs, f1, f2, _⟩ := R3.h.own k a ow ha3 e3
        refine ⟨a, vs, v2, rfl, rfl, f1, by rw [dqa_len f2]; exact q3.1.2, ?_⟩
        refine q3.2 w3 _ .non ((l1.trans l2).trans l3) ⟨?_, R3.l⟩ .non
        exact R3.h.mutL ha3 e3 q3.1.1 (dqa_app f2 (.cons dz .nil))
      · exact q3.elim
    · exact q1.elim
  · refine ho.mono ex st _ _ (fun x st1 q1 => ?_) q
    split at q1
    · refine he.mono ex st1 _ _ (fun y st2 q2 => asD_mono (fun z st3 q3 => ?_) q2) q1
      split at q3
      · exact ⟨q3.1, h _ _ q3.2⟩
      · exact q3.elim
    · exact q1.elim
/-- xs.pop() -/
def t2Pop (to : TE2) : TE2 := fun ex st Q => to ex st fun x st1 => match x with
  | .o k => match st1.m[k]? with
    | some ow => match ow.xs[ow.xs.length - 1]? with
      | some y => ow.live = true ∧ Q (.d y) (st1.put k ow.xs.dropLast)
      | none => False
    | none => False
  | _ => False
theorem dqa_dropLast {K : PySem.W.Frag} {D : Hp} {xs : List PyData} {vs : List V} (h : DqA K D vs xs) : DqA K D vs.dropLast xs.dropLast := by
  rw [List.dropLast_eq_take, List.dropLast_eq_take, dqa_len h]
  exact dqa_take _ h
theorem p2pop {to : TE2} {apos : Pos} (ho : PE2 X W o to) (hbase : attributeBase o "pop" X.env (eval o X.env) = eval o X.env := by rfl) (hline : (apos.endLine == pos.line) = true := by rfl) : PE2 X W (.Call (.Attribute o "pop" apos) [] [] pos) (t2Pop to) := by
  refine ⟨peImp (pe_bm0 PySem.F.plainAttrs_list PySem.F.slot_list_pop PySem.F.type_list_pop mt_pop ho.pe hbase hline) fun σ H Q q => ?_, fun ex st Q Q' h q => ?_⟩
  · obtain ⟨w, st, ex, R, l, q⟩ := q
    refine low_of ho.mono R l q fun x st1 w1 H1 v1 q1 l1 R1 k1 rv1 => ?_
    split at q1
    · rename_i k
      obtain ⟨a, ha, rfl⟩ := rv1
      split at q1
      · rename_i ow e3
        obtain ⟨vs, f1, f2, _⟩ := R1.h.own k a ow ha e3
        split at q1
        · rename_i y e4
          obtain ⟨v, g1, g2⟩ := dqa_get f2 e4
          refine ⟨.inl ⟨rfl, vs, SqL.of f1⟩, a, vs, v, rfl, rfl, f1, by rw [dqa_len f2]; exact g1, ?_⟩
          exact q1.2 w1 _ v l1 ⟨R1.h.mutL ha e3 q1.1 (dqa_dropLast f2), R1.l⟩ g2
        · exact q1.elim
      · exact q1.elim
    · exact q1.elim
  · refine ho.mono ex st _ _ (fun x st1 q1 => ?_) q
    split at q1
    · split at q1
      · split at q1
        · exact ⟨q1.1, h _ _ q1.2⟩
        · exact q1.elim
      · exact q1.elim
    · exact q1.elim

/-! ### subscripts -/
def q2Ix : R22 := fun x y st Q => match rd st x, rd st y with
  | some (.list xs), some (.int i) => match atI xs i with
    | some z => Q (.d z) st
    | none => False
  | some (.tuple xs), some (.int i) => match atI xs i with
    | some z => Q (.d z) st
    | none => False
  | _, _ => False
theorem dqa_at {K : PySem.W.Frag} {D : Hp} {xs : List PyData} {vs : List V} {i : Int} {x : PyData} (h : DqA K D vs xs) (e : atI xs i = some x) : ∃ v, atI vs i = some v ∧ Dq K D v x := by
  unfold atI at e ⊢
  rw [dqa_len h]
  cases hj : ixN xs.length i with
  | none => rw [hj] at e; cases e
  | some j =>
    rw [hj] at e
    obtain ⟨v, h1, h2⟩ := dqa_get h e
    exact ⟨v, h1, h2⟩
theorem q2Ix_mono : Mono22 q2Ix := fun x y st Q Q' h q => by
  unfold q2Ix at q ⊢
  split at q
  · split at q
    · exact h _ _ q
    · exact q.elim
  · split at q
    · exact h _ _ q
    · exact q.elim
  · exact q.elim
theorem p2ix (ha : PE2 X W a ta) (hb : PE2 X W b tb) (hs : PlainIx b := by exact fun _ _ => rfl) : PE2 X W (.Subscript a b pos) (t2Op q2Ix ta tb) := by
  refine ⟨peImp (pe_ix ix_seq ha.pe hb.pe hs) fun _ _ _ q => low_op ha.mono hb.mono q2Ix_mono (fun w st σ H x y dx dy Q R rx ry q => ?_) q, mono_op q2Ix_mono ha.mono hb.mono⟩
  unfold q2Ix at q
  split at q
  · rename_i xs i e1 e2
    obtain ⟨p, vs, rfl, h1, h2⟩ := rd_list R rx e1
    split at q
    · rename_i z e3
      obtain ⟨v, g1, g2⟩ := dqa_at h2 e3
      exact .inl ⟨p, vs, i, v, rfl, rd_int R ry e2, SqL.of h1, g1, fin_d R g2 q⟩
    · exact q.elim
  · rename_i xs i e1 e2
    obtain ⟨p, vs, rfl, h1, _, h2⟩ := rd_tup R rx e1
    split at q
    · rename_i z e3
      obtain ⟨v, g1, g2⟩ := dqa_at h2 e3
      exact .inr (.inl ⟨p, vs, i, v, rfl, rd_int R ry e2, h1, g1, fin_d R g2 q⟩)
    · exact q.elim
  · exact q.elim
/-- the items of xs[lo:hi] -/
def cut {α : Type} (xs : List α) (lo hi : Option Int) : List α := (xs.drop (HT.sIx xs.length 0 lo)).take (HT.sIx xs.length xs.length hi - HT.sIx xs.length 0 lo)
theorem dqa_cut {K : PySem.W.Frag} {D : Hp} {xs : List PyData} {vs : List V} (h : DqA K D vs xs) (lo hi : Option Int) : DqA K D (cutV vs lo hi) (cut xs lo hi) := by
  unfold cutV cut
  rw [dqa_len h]
  exact dqa_take _ (dqa_drop _ h)
theorem cut_map {α β : Type} (f : α → β) (xs : List α) (lo hi : Option Int) : (cut xs lo hi).map f = cut (xs.map f) lo hi := by
  unfold cut
  rw [List.map_take, List.map_drop, List.length_map]
abbrev TO2 := EX → S → (Option Int → S → Prop) → Prop
def t2NoP : TO2 := fun _ st Q => Q none st
def t2Part (te : TE2) : TO2 := fun ex st Q => te ex st fun x st1 => match rd st1 x with
  | some (.int i) => Q (some i) st1
  | _ => False
def MonoO (t : TO2) : Prop := ∀ ex st (Q Q' : Option Int → S → Prop), (∀ x s, Q x s → Q' x s) → t ex st Q → t ex st Q'
def lowO (K : PySem.W.Frag) (W : WX) (t : TO2) : TO := fun σ H Q => ∃ w st ex, RepS K w st σ H ∧ Link K w W ex ∧ t ex st fun b st' => ∀ w' H', Le w w' → RepS K w' st' σ H' → Q b H'
structure PO2 (X : Cx) (W : WX) (e : Option Expr) (t : TO2) : Prop where
  po : PO X e (lowO X.K W t)
  mono : MonoO t
theorem p2noP : PO2 X W none t2NoP := by
  refine ⟨⟨fun pins s σ H Q I q => po_none.run pins s σ H Q I ?_⟩, fun ex st Q Q' h q => h _ _ q⟩
  obtain ⟨w, st, ex, R, l, q⟩ := q
  exact q w H (Le.refl w) R
theorem p2part (he : PE2 X W e te) : PO2 X W (some e) (t2Part te) := by
  refine ⟨⟨fun pins s σ H Q I q => (po_some he.pe).run pins s σ H Q I ?_⟩, fun ex st Q Q' h q => he.mono ex st _ _ (fun x st1 q1 => ?_) q⟩
  · obtain ⟨w, st, ex, R, l, q⟩ := q
    refine low_of he.mono R l q fun x st1 w1 H1 v1 q1 l1 R1 k1 rv1 => ?_
    split at q1
    · rename_i i e1
      exact ⟨i, rd_int R1 rv1 e1, q1 w1 H1 l1 R1⟩
    · exact q1.elim
  · split at q1
    · exact h _ _ q1
    · exact q1.elim
theorem lowO_of {K : PySem.W.Frag} {t : TO2} (hm : MonoO t) {w : Wd} {st : S} {ex : EX} {σ : St} {H : Hp} {Q : Option Int → Hp → Prop} {R : Option Int → S → Prop} (r : RepS K w st σ H) (l : Link K w W ex) (h : t ex st R)
    (q : ∀ x st' w' H', R x st' → Le w w' → RepS K w' st' σ H' → Link K w' W ex → Q x H') : lowO K W t σ H Q :=
  ⟨w, st, ex, r, l, hm ex st _ _ (fun x st' hR w' H' le rs => q x st' w' H' hR le rs (l.up le)) h⟩
/-- x[lo:hi], a list, a tuple or the script -/
def q2Sl : DV → Option Int → Option Int → S → KD → Prop := fun x lo hi st Q => match x with
  | .scr ns => Q (.o st.m.length) (st.new (cut (ns.map PyData.int) lo hi))
  | x => match rd st x with
    | some (.list xs) => Q (.o st.m.length) (st.new (cut xs lo hi))
    | some (.tuple xs) => Q (.d (.tuple (cut xs lo hi))) st
    | _ => False
def t2Sl (te : TE2) (tl th : TO2) : TE2 := fun ex st Q => te ex st fun x st1 => tl ex st1 fun l st2 => th ex st2 fun u st3 => q2Sl x l u st3 Q
theorem cut_whole {α : Type} {xs : List α} {lo hi : Option Int} (h : HT.sIx xs.length 0 lo = 0 ∧ HT.sIx xs.length xs.length hi = xs.length) : cut xs lo hi = xs := by
  unfold cut
  rw [h.1, h.2]
  simp
theorem q2Sl_mono {x : DV} {lo hi : Option Int} {st : S} {Q Q' : KD} (h : ∀ z s, Q z s → Q' z s) (q : q2Sl x lo hi st Q) : q2Sl x lo hi st Q' := by
  unfold q2Sl at q ⊢
  split at q
  · exact h _ _ q
  · split at q
    · exact h _ _ q
    · exact h _ _ q
    · exact q.elim
theorem dqa_int {K : PySem.W.Frag} {D : Hp} : ∀ ns : List Int, DqA K D (ns.map V.int) (ns.map PyData.int)
  | [] => .nil
  | n :: ns => .cons (.int n) (dqa_int ns)
theorem p2slice {lo hi : Option Expr} {tl' th' : TO2} {p2 : Pos} (he : PE2 X W e te) (hl : PO2 X W lo tl') (hu : PO2 X W hi th') : PE2 X W (.Subscript e (.Slice lo hi none p2) pos) (t2Sl te tl' th') := by
  refine ⟨peImp (pe_slice (SlR.or sl_list sl_tupA) he.pe hl.po hu.po) fun σ H Q q => ?_, fun ex st Q Q' h q => ?_⟩
  · obtain ⟨w, st, ex, R, l, q⟩ := q
    refine low_of he.mono R l q fun x st1 w1 H1 v1 q1 l1 R1 k1 rv1 => ?_
    refine lowO_of hl.mono R1 k1 q1 fun lo st2 w2 H2 q2 l2 R2 k2 => ?_
    refine lowO_of hu.mono R2 k2 q2 fun hi st3 w3 H3 q3 l3 R3 k3 => ?_
    have rv3 := rv1.up (l2.trans l3)
    have l03 := (l1.trans l2).trans l3
    unfold q2Sl at q3
    split at q3
    · rename_i ns
      obtain ⟨a, rfl, hs⟩ := rv3
      have := fun p hp => fin_lst (p := p) R3 (dqa_cut (K := X.K) (D := w3.D) (dqa_int ns) lo hi) (fin_up l03 _ _ q3) hp
      exact .inl ⟨a, ns.map V.int, rfl, ext_l R3.h.ed hs, this⟩
    · rename_i x hx
      split at q3
      · rename_i xs e1
        obtain ⟨a, vs, rfl, h1, h2⟩ := rd_list R3 rv3 e1
        exact .inl ⟨a, vs, rfl, SqL.of h1, fun p hp => fin_lst R3 (dqa_cut h2 lo hi) (fin_up l03 _ _ q3) hp⟩
      · rename_i xs e1
        obtain ⟨a, vs, rfl, h1, h1', h2⟩ := rd_tup R3 rv3 e1
        refine .inr ⟨a, vs, rfl, h1, fun z => ?_, fun z p hp => fin_tup R3 (dqa_cut h2 lo hi) (fin_up l03 _ _ q3) hp⟩
        rw [dqa_len h2] at z
        rw [cut_whole z] at q3
        exact fin_d R3 (.tup h1' h2) (fin_up l03 _ _ q3)
      · exact q3.elim
  · exact he.mono ex st _ _ (fun x st1 q1 => hl.mono ex st1 _ _ (fun l st2 q2 => hu.mono ex st2 _ _ (fun u st3 q3 => q2Sl_mono h q3) q2) q1) q
/-- x[::-1] -/
def q2Rev : R21 := fun x st Q => match rd st x with
  | some (.list xs) => Q (.o st.m.length) (st.new xs.reverse)
  | some (.tuple xs) => Q (.d (.tuple xs.reverse)) st
  | _ => False
theorem q2Rev_mono : Mono21 q2Rev := fun x st Q Q' h q => by
  unfold q2Rev at q ⊢
  split at q
  · exact h _ _ q
  · exact h _ _ q
  · exact q.elim
theorem p2rev {k : Nat} {p1 p2 p3 : Pos} (he : PE2 X W e te) : PE2 X W (.Subscript e (.Slice none none (some (.UnaryOp .USub (.Constant (.int 1) k p1) p2)) p3) pos) (t2Un q2Rev te) := by
  refine ⟨peImp (pe_revU he.pe) fun σ H Q q => ?_, mono_un q2Rev_mono he.mono⟩
  obtain ⟨w, st, ex, R, l, q⟩ := q
  refine low_of he.mono R l q fun x st1 w1 H1 v1 q1 l1 R1 k1 rv1 => ?_
  unfold q2Rev at q1
  split at q1
  · rename_i xs e1
    obtain ⟨a, vs, rfl, h1, h2⟩ := rd_list R1 rv1 e1
    exact .inl ⟨a, vs, rfl, SqL.of h1, fun p hp => fin_lst R1 (dqa_rev h2) (fin_up l1 _ _ q1) hp⟩
  · rename_i xs e1
    obtain ⟨a, vs, rfl, h1, _, h2⟩ := rd_tup R1 rv1 e1
    exact .inr ⟨a, vs, rfl, h1, fun p hp => fin_tup R1 (dqa_rev h2) (fin_up l1 _ _ q1) hp⟩
  · exact q1.elim

/-! ### tests, and, or, not, if -/
/-- the truth of a value -/
def truth : PyData → Option Bool
  | .none => some false
  | .bool b => some b
  | .int i => some (i != 0)
  | .list xs => some (!xs.isEmpty)
  | .tuple xs => some (!xs.isEmpty)
  | _ => none
def t2T (te : TE2) : TT2 := fun ex st Q => te ex st fun x st1 => match rd st1 x with
  | some (.bool b) => Q b st1
  | some y => match truth y with
    | some b => Q b st1
    | none => False
  | none => False
theorem isEmpty_dqa {K : PySem.W.Frag} {D : Hp} {xs : List PyData} {vs : List V} (h : DqA K D vs xs) : vs.isEmpty = xs.isEmpty := by
  cases h <;> rfl
theorem mono_t (ha : MonoE te) : MonoT (t2T te) := fun ex st Q Q' h q => ha ex st _ _ (fun x st1 q1 => by
  split at q1
  · exact h _ _ q1
  · split at q1
    · exact h _ _ q1
    · exact q1.elim
  · exact q1.elim) q
theorem p2t (ha : PE2 X W a te) (he : ∀ whole, isTrue a X.env whole = (do let v ← whole; standAt a.pos; holding [v] (truthy v)) := by intro _; rfl) : PT2 X W a (t2T te) := by
  refine ⟨ptImp (pt_truth ha.pe he) fun σ H Q q => ?_, mono_t ha.mono⟩
  obtain ⟨w, st, ex, R, l, q⟩ := q
  refine low_of ha.mono R l q fun x st1 w1 H1 v1 q1 l1 R1 k1 rv1 => ?_
  split at q1
  · rename_i b e1
    rw [rd_bool R1 rv1 e1]
    exact ⟨b, rfl, q1 w1 H1 l1 R1⟩
  · rename_i y hne e1
    split at q1
    · rename_i b e2
      have d := rd_dq R1 rv1 e1
      refine ⟨b, ?_, q1 w1 H1 l1 R1⟩
      cases d with
      | non => cases e2; rfl
      | bl k => cases e2; rfl
      | int i => cases e2; rfl
      | str s => cases e2
      | lst s d => cases e2; exact .inl ⟨_, SqL.of s, by rw [isEmpty_dqa d]⟩
      | tup s d => cases e2; exact .inr (.inl ⟨_, s, by rw [isEmpty_dqa d]⟩)
      | dic q => cases e2
    · exact q1.elim
  · exact q1.elim
/-- a bool as a test -/
def t2B (te : TE2) : TT2 := fun ex st Q => te ex st fun x st1 => match rd st1 x with
  | some (.bool b) => Q b st1
  | _ => False
theorem mono_b (ha : MonoE te) : MonoT (t2B te) := fun ex st Q Q' h q => ha ex st _ _ (fun x st1 q1 => by
  split at q1
  · exact h _ _ q1
  · exact q1.elim) q
theorem low_b {K : PySem.W.Frag} (ha : MonoE te) {σ : St} {H : Hp} {Q : Bool → Hp → Prop} (q : lowT K W (t2B te) σ H Q) : low K W te σ H (fun v H' => ∃ k, v = .bl k ∧ Q k H') := by
  obtain ⟨w, st, ex, R, l, q⟩ := q
  refine low_of ha R l q fun x st1 w1 H1 v1 q1 l1 R1 k1 rv1 => ?_
  split at q1
  · rename_i b e1
    exact ⟨b, rd_bool R1 rv1 e1, q1 w1 H1 l1 R1⟩
  · exact q1.elim
/-- a comparison as a test -/
theorem p2tc {op : CmpOp} {r : R22} (ho : OpR2 X (compareOp op) r) (ha : PE2 X W a ta) (hb : PE2 X W b tb) (hm : behindInMarks op b = false := by first | exact nomark _ | rfl) : PT2 X W (.Compare a [op] [b] pos) (t2B (t2Op r ta tb)) :=
  ⟨ptImp (pt_cmpR op_any ha.pe hb.pe hm) fun _ _ _ q => low_op ha.mono hb.mono ho.mono ho.op (low_b (mono_op ho.mono ha.mono hb.mono) q), mono_b (mono_op ho.mono ha.mono hb.mono)⟩
variable {tc : TT2} {tA tB' : TT2} {rest : List Expr}
structure PW2 (X : Cx) (W : WX) (e : Expr) (t : TT2) : Prop where
  pw : PW X e (lowT X.K W t)
  mono : MonoT t
theorem PW2.pt {e : Expr} {t : TT2} (h : PW2 X W e t) : PT2 X W e t := ⟨h.pw.pt, h.mono⟩
def t2And (t u : TT2) : TT2 := fun ex st Q => t ex st fun c st1 => if c = true then u ex st1 Q else Q false st1
def t2Or (t u : TT2) : TT2 := fun ex st Q => t ex st fun c st1 => if c = true then Q true st1 else u ex st1 Q
def t2Not (t : TT2) : TT2 := fun ex st Q => t ex st fun c st1 => Q (!c) st1
theorem mono_and (h1 : MonoT tA) (h2 : MonoT tB') : MonoT (t2And tA tB') := fun ex st Q Q' h q => h1 ex st _ _ (fun c st1 q1 => by
  cases c with
  | true => exact h2 ex st1 _ _ h q1
  | false => exact h _ _ q1) q
theorem mono_or (h1 : MonoT tA) (h2 : MonoT tB') : MonoT (t2Or tA tB') := fun ex st Q Q' h q => h1 ex st _ _ (fun c st1 q1 => by
  cases c with
  | false => exact h2 ex st1 _ _ h q1
  | true => exact h _ _ q1) q
theorem mono_not (h1 : MonoT tA) : MonoT (t2Not tA) := fun ex st Q Q' h q => h1 ex st _ _ (fun c st1 q1 => h _ _ q1) q
theorem pwImp {e : Expr} {t t' : TT} (h : PW X e t) (i : ∀ σ H Q, t' σ H Q → t σ H Q) : PW X e t' := ⟨fun wh pins s σ H Q I q => h.run wh pins s σ H Q I (i σ H Q q)⟩
theorem p2and1 (ha : PT2 X W a tA) : PW2 X W (.BoolOp .And [a] pos) tA := ⟨pw_and1 ha.pt, ha.mono⟩
theorem p2or1 (ha : PT2 X W a tA) : PW2 X W (.BoolOp .Or [a] pos) tA := ⟨pw_or1 ha.pt, ha.mono⟩
theorem p2and (ha : PT2 X W a tA) (hb : PW2 X W (.BoolOp .And (b :: rest) pos) tB') : PW2 X W (.BoolOp .And (a :: b :: rest) pos) (t2And tA tB') := by
  refine ⟨pwImp (pw_and ha.pt hb.pw) fun σ H Q q => ?_, mono_and ha.mono hb.mono⟩
  obtain ⟨w, st, ex, R, l, q⟩ := q
  refine lowT_of ha.mono R l q fun c st1 w1 H1 q1 l1 R1 k1 => ?_
  cases c with
  | true =>
    show lowT X.K W tB' σ H1 Q
    exact lowT_of hb.mono R1 k1 q1 fun x st2 w2 H2 q2 l2 R2 k2 => q2 w2 H2 (l1.trans l2) R2
  | false => exact q1 w1 H1 l1 R1
theorem p2or (ha : PT2 X W a tA) (hb : PW2 X W (.BoolOp .Or (b :: rest) pos) tB') : PW2 X W (.BoolOp .Or (a :: b :: rest) pos) (t2Or tA tB') := by
  refine ⟨pwImp (pw_or ha.pt hb.pw) fun σ H Q q => ?_, mono_or ha.mono hb.mono⟩
  obtain ⟨w, st, ex, R, l, q⟩ := q
  refine lowT_of ha.mono R l q fun c st1 w1 H1 q1 l1 R1 k1 => ?_
  cases c with
  | false =>
    show lowT X.K W tB' σ H1 Q
    exact lowT_of hb.mono R1 k1 q1 fun x st2 w2 H2 q2 l2 R2 k2 => q2 w2 H2 (l1.trans l2) R2
  | true => exact q1 w1 H1 l1 R1
theorem p2not (ha : PT2 X W a tA) : PT2 X W (.UnaryOp .Not a pos) (t2Not tA) := by
  refine ⟨ptImp (pt_not ha.pt) fun σ H Q q => ?_, mono_not ha.mono⟩
  obtain ⟨w, st, ex, R, l, q⟩ := q
  exact lowT_of ha.mono R l q fun c st1 w1 H1 q1 l1 R1 k1 => q1 w1 H1 l1 R1
/-- .. as values (bools) -/
def t2AndV (ta tb : TE2) : TE2 := fun ex st Q => ta ex st fun x st1 => match rd st1 x with
  | some (.bool c) => if c = true then tb ex st1 Q else Q (.d (.bool false)) st1
  | _ => False
def t2OrV (ta tb : TE2) : TE2 := fun ex st Q => ta ex st fun x st1 => match rd st1 x with
  | some (.bool c) => if c = true then Q (.d (.bool true)) st1 else tb ex st1 Q
  | _ => False
def t2NotV (ta : TE2) : TE2 := fun ex st Q => ta ex st fun x st1 => match rd st1 x with
  | some (.bool c) => Q (.d (.bool (!c))) st1
  | _ => False
theorem mono_andV (h1 : MonoE ta) (h2 : MonoE tb) : MonoE (t2AndV ta tb) := fun ex st Q Q' h q => h1 ex st _ _ (fun x st1 q1 => by
  split at q1
  · rename_i c _
    cases c with
    | true => exact h2 ex st1 _ _ h q1
    | false => exact h _ _ q1
  · exact q1.elim) q
theorem mono_orV (h1 : MonoE ta) (h2 : MonoE tb) : MonoE (t2OrV ta tb) := fun ex st Q Q' h q => h1 ex st _ _ (fun x st1 q1 => by
  split at q1
  · rename_i c _
    cases c with
    | false => exact h2 ex st1 _ _ h q1
    | true => exact h _ _ q1
  · exact q1.elim) q
theorem p2one {op} (h : PE2 X W a ta) : PE2 X W (.BoolOp op [a] pos) ta := ⟨pe_one h.pe, h.mono⟩
theorem p2andV (ha : PE2 X W a ta) (hb : PE2 X W (.BoolOp .And (b :: rest) pos) tb) : PE2 X W (.BoolOp .And (a :: b :: rest) pos) (t2AndV ta tb) := by
  refine ⟨peImp (pe_and ha.pe hb.pe) fun σ H Q q => ?_, mono_andV ha.mono hb.mono⟩
  obtain ⟨w, st, ex, R, l, q⟩ := q
  refine low_of ha.mono R l q fun x st1 w1 H1 v1 q1 l1 R1 k1 rv1 => ?_
  split at q1
  · rename_i c e1
    refine ⟨c, rd_bool R1 rv1 e1, ?_⟩
    cases c with
    | true =>
      show low X.K W tb σ H1 Q
      exact low_of hb.mono R1 k1 q1 fun x st2 w2 H2 v2 q2 l2 R2 k2 rv2 => q2 w2 H2 v2 (l1.trans l2) R2 rv2
    | false => exact q1 w1 H1 _ l1 R1 (.bl false)
  · exact q1.elim
theorem p2orV (ha : PE2 X W a ta) (hb : PE2 X W (.BoolOp .Or (b :: rest) pos) tb) : PE2 X W (.BoolOp .Or (a :: b :: rest) pos) (t2OrV ta tb) := by
  refine ⟨peImp (pe_or ha.pe hb.pe) fun σ H Q q => ?_, mono_orV ha.mono hb.mono⟩
  obtain ⟨w, st, ex, R, l, q⟩ := q
  refine low_of ha.mono R l q fun x st1 w1 H1 v1 q1 l1 R1 k1 rv1 => ?_
  split at q1
  · rename_i c e1
    refine ⟨c, rd_bool R1 rv1 e1, ?_⟩
    cases c with
    | false =>
      show low X.K W tb σ H1 Q
      exact low_of hb.mono R1 k1 q1 fun x st2 w2 H2 v2 q2 l2 R2 k2 rv2 => q2 w2 H2 v2 (l1.trans l2) R2 rv2
    | true => exact q1 w1 H1 _ l1 R1 (.bl true)
  · exact q1.elim
theorem p2notV (ha : PE2 X W a ta) : PE2 X W (.UnaryOp .Not a pos) (t2NotV ta) := by
  refine ⟨peImp (pe_not ha.pe) fun σ H Q q => ?_, fun ex st Q Q' h q => ha.mono ex st _ _ (fun x st1 q1 => ?_) q⟩
  · obtain ⟨w, st, ex, R, l, q⟩ := q
    refine low_of ha.mono R l q fun x st1 w1 H1 v1 q1 l1 R1 k1 rv1 => ?_
    split at q1
    · rename_i c e1
      exact ⟨c, rd_bool R1 rv1 e1, q1 w1 H1 _ l1 R1 (.bl _)⟩
    · exact q1.elim
  · split at q1
    · exact h _ _ q1
    · exact q1.elim
def t2If (tc : TT2) (ta tb : TE2) : TE2 := fun ex st Q => tc ex st fun c st1 => if c = true then ta ex st1 Q else tb ex st1 Q
theorem p2if (hc : PT2 X W c tc) (ha : PE2 X W a ta) (hb : PE2 X W b tb) : PE2 X W (.IfExp c a b pos) (t2If tc ta tb) := by
  refine ⟨peImp (pe_ifExp hc.pt ha.pe hb.pe) fun σ H Q q => ?_, fun ex st Q Q' h q => hc.mono ex st _ _ (fun x st1 q1 => ?_) q⟩
  · obtain ⟨w, st, ex, R, l, q⟩ := q
    refine lowT_of hc.mono R l q fun x st1 w1 H1 q1 l1 R1 k1 => ?_
    cases x with
    | true =>
      show low X.K W ta σ H1 Q
      exact low_of ha.mono R1 k1 q1 fun x st2 w2 H2 v2 q2 l2 R2 k2 rv2 => q2 w2 H2 v2 (l1.trans l2) R2 rv2
    | false =>
      show low X.K W tb σ H1 Q
      exact low_of hb.mono R1 k1 q1 fun x st2 w2 H2 v2 q2 l2 R2 k2 rv2 => q2 w2 H2 v2 (l1.trans l2) R2 rv2
  · cases x with
    | true => exact ha.mono ex st1 _ _ h q1
    | false => exact hb.mono ex st1 _ _ h q1
end
end G

end
section
set_option maxHeartbeats 2000000
/-! GD: chains, statements, targets, loops, comprehensions. -/
namespace G
open PySem L2
section
variable {X : Cx} {W : WX} {a b c e o : Expr} {es : List Expr} {ta tb tc' te : TE2} {tl : TA2} {tc : TT2} {pos : Pos} {t u : TS2} {stm : Stmt} {rest body : List Stmt}
/-! ### chains -/
def t2Chain (r r' : R22) (ta tb tc : TE2) : TE2 := fun ex st Q => ta ex st fun x st1 => tb ex st1 fun y st2 => r x y st2 fun z st3 => match rd st3 z with
  | some (.bool k) => if k = true then tc ex st3 fun w st4 => r' y w st4 Q else Q (.d (.bool false)) st3
  | _ => False
theorem mono_chain {r r' : R22} (hr : Mono22 r) (hr' : Mono22 r') (ha : MonoE ta) (hb : MonoE tb) (hc : MonoE tc') : MonoE (t2Chain r r' ta tb tc') := fun ex st Q Q' h q =>
  ha ex st _ _ (fun x st1 q1 => hb ex st1 _ _ (fun y st2 q2 => hr x y st2 _ _ (fun z st3 q3 => by
    split at q3
    · rename_i k _
      cases k with
      | true => exact hc ex st3 _ _ (fun w st4 q4 => hr' y w st4 _ _ h q4) q3
      | false => exact h _ _ q3
    · exact q3.elim) q2) q1) q
theorem low_chain {r r' : R22} {f f' : Value → Value → Sem Value} (ho : OpR2 X f r) (ho' : OpR2 X f' r') (ha : MonoE ta) (hb : MonoE tb) (hc : MonoE tc') {σ : St} {H : Hp} {Q : VK} (q : low X.K W (t2Chain r r' ta tb tc') σ H Q) :
    tChain (fun x y H Q => ∃ r : R2, OpR X f r ∧ r x y H Q) (fun x y H Q => ∃ r : R2, OpR X f' r ∧ r x y H Q) (low X.K W ta) (low X.K W tb) (low X.K W tc') σ H Q := by
  obtain ⟨w, st, ex, R, l, q⟩ := q
  refine low_of ha R l q fun x st1 w1 H1 v1 q1 l1 R1 k1 rv1 => ?_
  refine low_of hb R1 k1 q1 fun y st2 w2 H2 v2 q2 l2 R2 k2 rv2 => ?_
  refine ho.op w2 st2 σ H2 v1 v2 x y _ R2 (rv1.up l2) rv2 (ho.mono x y st2 _ _ (fun z st3 q3 => ?_) q2)
  intro w3 H3 v3 l3 R3 rv3
  split at q3
  · rename_i k e1
    refine ⟨k, rd_bool R3 rv3 e1, ?_⟩
    cases k with
    | true =>
      show low X.K W tc' σ H3 _
      refine low_of hc R3 (k2.up l3) q3 fun z st4 w4 H4 v4 q4 l4 R4 k4 rv4 => ?_
      exact ho'.op w4 st4 σ H4 v2 v4 y z Q R4 (rv2.up (l3.trans l4)) rv4 (ho'.mono y z st4 _ _ (fin_up (((l1.trans l2).trans l3).trans l4)) q4)
    | false => exact q3 w3 H3 _ ((l1.trans l2).trans l3) R3 (.bl false)
  · exact q3.elim
theorem p2chain {op op' : CmpOp} {r r' : R22} (ho : OpR2 X (compareOp op) r) (ho' : OpR2 X (compareOp op') r') (ha : PE2 X W a ta) (hb : PE2 X W b tb) (hc : PE2 X W c tc') (hm : lastMarks [op, op'] [b, c] = false := by with_unfolding_all rfl) :
    PE2 X W (.Compare a [op, op'] [b, c] pos) (t2Chain r r' ta tb tc') :=
  ⟨peImp (pe_chain op_any op_any ha.pe hb.pe hc.pe hm) fun _ _ _ q => low_chain ho ho' ha.mono hb.mono hc.mono q, mono_chain ho.mono ho'.mono ha.mono hb.mono hc.mono⟩
theorem p2tchain {op op' : CmpOp} {r r' : R22} (ho : OpR2 X (compareOp op) r) (ho' : OpR2 X (compareOp op') r') (ha : PE2 X W a ta) (hb : PE2 X W b tb) (hc : PE2 X W c tc') (hm : lastMarks [op, op'] [b, c] = false := by with_unfolding_all rfl) :
    PT2 X W (.Compare a [op, op'] [b, c] pos) (t2B (t2Chain r r' ta tb tc')) :=
  ⟨ptImp (pt_chain op_any op_any ha.pe hb.pe hc.pe hm) fun _ _ _ q => low_chain ho ho' ha.mono hb.mono hc.mono (low_b (mono_chain ho.mono ho'.mono ha.mono hb.mono hc.mono) q), mono_b (mono_chain ho.mono ho'.mono ha.mono hb.mono hc.mono)⟩

/-! ### statements -/
def s2Next : TS2 := fun _ D st => D.nx st
def s2Seq (t u : TS2) : TS2 := fun ex D st => t ex { D with nx := u ex D } st
theorem p2ss_nil : PSs2 X W [] s2Next := ⟨pssImp pss_nil fun D σ H q => by
  obtain ⟨w, st, ex, D2, R, l, le, q⟩ := q
  exact le.nx w st σ H (Le.refl w) R q⟩
theorem p2ss_one (h : PS2 X W stm t) : PSs2 X W [stm] t := ⟨pss_one h.ps⟩
theorem p2ss_cons (h : PS2 X W stm t) (hr : PSs2 X W rest u) : PSs2 X W (stm :: rest) (s2Seq t u) := ⟨pssImp (pss_cons h.ps hr.ps) fun D σ H q => by
  obtain ⟨w, st, ex, D2, R, l, le, q⟩ := q
  exact lowS_of R l (D2 := { D2 with nx := u ex D2 }) ⟨fun w' st' σ' H' l' R' q' => lowS_of R' (l.up l') (le.up l') q', le.rt, le.bk, le.ct⟩ q⟩
def s2Never : TS2 := fun _ _ _ => False
theorem p2s_never : PS2 X W stm s2Never := ⟨psImp ps_never fun D σ H q => by
  obtain ⟨w, st, ex, D2, R, l, le, q⟩ := q
  exact q⟩
def s2Break : TS2 := fun _ D st => D.bk st
def s2Cont : TS2 := fun _ D st => D.ct st
theorem p2s_break : PS2 X W (.Break pos) s2Break := ⟨psImp ps_break fun D σ H q => by
  obtain ⟨w, st, ex, D2, R, l, le, q⟩ := q
  exact le.bk w st σ H (Le.refl w) R q⟩
theorem p2s_continue : PS2 X W (.Continue pos) s2Cont := ⟨psImp ps_continue fun D σ H q => by
  obtain ⟨w, st, ex, D2, R, l, le, q⟩ := q
  exact le.ct w st σ H (Le.refl w) R q⟩
theorem p2s_pass : PS2 X W (.Pass pos) s2Next := ⟨psImp ps_pass fun D σ H q => by
  obtain ⟨w, st, ex, D2, R, l, le, q⟩ := q
  exact le.nx w st σ H (Le.refl w) R q⟩
def s2Drop (te : TE2) : TS2 := fun ex D st => te ex st fun _ st1 => D.nx st1
theorem p2s_expr (he : PE2 X W e te) (hs : swapsWith e none pos.line X.env = pure false := by rfl) : PS2 X W (.Expr e pos) (s2Drop te) := ⟨psImp (ps_expr he.pe hs) fun D σ H q => by
  obtain ⟨w, st, ex, D2, R, l, le, q⟩ := q
  exact low_of he.mono R l q fun x st1 w1 H1 v1 q1 l1 R1 k1 rv1 => le.nx w1 st1 σ H1 l1 R1 q1⟩
def s2Ret (te : TE2) : TS2 := fun ex D st => te ex st fun x st1 => asC x st1 fun y _ => D.rt y
theorem p2s_ret (he : PE2 X W e te) : PS2 X W (.Return (some e) pos) (s2Ret te) := ⟨psImp (ps_ret he.pe) fun D σ H q => by
  obtain ⟨w, st, ex, D2, R, l, le, q⟩ := q
  refine low_of he.mono R l q fun x st1 w1 H1 v1 q1 l1 R1 k1 rv1 => ?_
  obtain ⟨w2, st2, y, l2, R2, r2, c2, q2, _⟩ := asC_ok R1 rv1 q1
  exact le.rt w2 st2.m H1 v1 y (l1.trans l2).R R2.h r2 c2 q2⟩
def s2RetN : TS2 := fun _ D _ => D.rt (.d .none)
theorem p2s_retN : PS2 X W (.Return none pos) s2RetN := ⟨psImp ps_retN fun D σ H q => by
  obtain ⟨w, st, ex, D2, R, l, le, q⟩ := q
  exact le.rt w st.m H .non (.d .none) (Le.refl w).R R.h (Dq.non : RepV X.K w .non (.d .none)) (fun k => by intro z; cases z) q⟩
def s2If (tc : TT2) (t u : TS2) : TS2 := fun ex D st => tc ex st fun b st1 => if b = true then t ex D st1 else u ex D st1
theorem p2s_if {as bs : List Stmt} (hc : PT2 X W c tc) (ha : PSs2 X W as t) (hb : PSs2 X W bs u) : PS2 X W (.If c as bs pos) (s2If tc t u) := ⟨psImp (ps_if hc.pt ha.ps hb.ps) fun D σ H q => by
  obtain ⟨w, st, ex, D2, R, l, le, q⟩ := q
  refine lowT_of hc.mono R l q fun b st1 w1 H1 q1 l1 R1 k1 => ?_
  cases b with
  | true => exact lowS_of R1 k1 (le.up l1) q1
  | false => exact lowS_of R1 k1 (le.up l1) q1⟩

/-! ### targets -/
abbrev TG2 := EX → DV → S → (S → Prop) → Prop
abbrev TGs2 := EX → List PyData → S → (S → Prop) → Prop
def MonoG (g : TG2) : Prop := ∀ ex x st (R R' : S → Prop), (∀ s, R s → R' s) → g ex x st R → g ex x st R'
def MonoGs (g : TGs2) : Prop := ∀ ex x st (R R' : S → Prop), (∀ s, R s → R' s) → g ex x st R → g ex x st R'
def lowG (K : PySem.W.Frag) (W : WX) (g : TG2) : TG := fun v σ H Q => ∃ w st ex x, RepS K w st σ H ∧ Link K w W ex ∧ RepV K w v x ∧ g ex x st fun st' => ∀ w' σ' H', Le w w' → RepS K w' st' σ' H' → Q σ' H'
def lowGs (K : PySem.W.Frag) (W : WX) (g : TGs2) : TGs := fun vs σ H Q => ∃ w st ex xs, RepS K w st σ H ∧ Link K w W ex ∧ DqA K w.D vs xs ∧ g ex xs st fun st' => ∀ w' σ' H', Le w w' → RepS K w' st' σ' H' → Q σ' H'
structure PG2 (X : Cx) (W : WX) (e : Expr) (g : TG2) : Prop where
  pg : PG X e (lowG X.K W g)
  mono : MonoG g
structure PGs2 (X : Cx) (W : WX) (e : List Expr) (g : TGs2) : Prop where
  pg : PGs X e (lowGs X.K W g)
  mono : MonoGs g
theorem pgImp {e : Expr} {t t' : TG} (h : PG X e t) (i : ∀ v σ H Q, t' v σ H Q → t v σ H Q) : PG X e t' := ⟨fun pins s σ H v u Q I r q => h.run pins s σ H v u Q I r (i v σ H Q q)⟩
theorem pgsImp {e : List Expr} {t t' : TGs} (h : PGs X e t) (i : ∀ v σ H Q, t' v σ H Q → t v σ H Q) : PGs X e t' := ⟨fun pins s σ H v u Q I r q => h.run pins s σ H v u Q I r (i v σ H Q q)⟩
def g2Name (i : Nat) : TG2 := fun _ x st R => R (st.set i x)
theorem p2g_name {i : Nat} {x : Str} {pos : Pos} (hN : X.N.Nodup) (hi : X.N[i]? = some x := by rfl) (hx : Loc X.env.scope x := by first | exact Or.inl rfl | exact Or.inr rfl) (hf : X.fn x = true ∨ X.env.scope.names.lookup x = some .local := by first | exact .inl rfl | exact .inr rfl | assumption) : PG2 X W (.Name x pos) (g2Name i) := by
  refine ⟨pgImp (pg_name hN hi hx hf) fun v σ H Q q => ?_, fun ex x st R R' h q => h _ q⟩
  obtain ⟨w, st, ex, x, R, l, rv, q⟩ := q
  exact q w _ H (Le.refl w) ⟨R.h, RepL.set (v := some v) (x := some x) rv i R.l⟩
def g2Nil : TGs2 := fun _ xs st R => match xs with
  | [] => R st
  | _ => False
def g2Cons (g : TG2) (gs : TGs2) : TGs2 := fun ex xs st R => match xs with
  | x :: xs => g ex (.d x) st fun st1 => gs ex xs st1 R
  | _ => False
theorem p2gs_nil : PGs2 X W [] g2Nil := by
  refine ⟨pgsImp pgs_nil fun vs σ H Q q => ?_, fun ex xs st R R' h q => ?_⟩
  · obtain ⟨w, st, ex, xs, R, l, rv, q⟩ := q
    unfold g2Nil at q
    split at q
    · cases rv
      exact ⟨rfl, q w σ H (Le.refl w) R⟩
    · exact q.elim
  · unfold g2Nil at q ⊢
    split at q
    · exact h _ q
    · exact q.elim
theorem p2gs_cons {g : TG2} {gs : TGs2} (h1 : PG2 X W e g) (h2 : PGs2 X W es gs) (hs : (assignEach (e :: es) X.env).map (·.2) = assign e X.env :: (assignEach es X.env).map (·.2) := by rfl) : PGs2 X W (e :: es) (g2Cons g gs) := by
  refine ⟨pgsImp (pgs_cons h1.pg h2.pg hs) fun vs σ H Q q => ?_, fun ex xs st R R' h q => ?_⟩
  · obtain ⟨w, st, ex, xs, R, l, rv, q⟩ := q
    unfold g2Cons at q
    split at q
    · rename_i x xs
      cases rv with
      | cons d ds =>
      refine ⟨_, _, rfl, w, st, ex, .d x, R, l, d, h1.mono ex _ st _ _ (fun st1 q1 w1 σ1 H1 l1 R1 => ?_) q⟩
      exact ⟨w1, st1, ex, xs, R1, l.up l1, dqa_up l1.D _ _ ds, h2.mono ex _ st1 _ _ (fun st2 q2 w2 σ2 H2 l2 R2 => q2 w2 σ2 H2 (l1.trans l2) R2) q1⟩
    · exact q.elim
  · unfold g2Cons at q ⊢
    split at q
    · exact h1.mono ex _ st _ _ (fun st1 q1 => h2.mono ex _ st1 _ _ h q1) q
    · exact q.elim
def g2Tup (n : Nat) (gs : TGs2) : TG2 := fun ex x st R => match rd st x with
  | some (.tuple ys) => ys.length = n ∧ gs ex ys st R
  | _ => False
theorem p2g_tup {k : Nat} {gs : TGs2} {n : Nat} (h : PGs2 X W es gs) (hn : (assignEach es X.env).length = n := by rfl) (hst : (assignEach es X.env).findIdx? (·.1) = none := by rfl) (hc : X.calm = true := by rfl) : PG2 X W (.Tuple es k pos) (g2Tup n gs) := by
  refine ⟨pgImp (pg_tup hc h.pg hn hst) fun v σ H Q q => ?_, fun ex x st R R' hh q => ?_⟩
  · obtain ⟨w, st, ex, x, R, l, rv, q⟩ := q
    unfold g2Tup at q
    split at q
    · rename_i ys e1
      obtain ⟨a, vs, rfl, h1, _, h2⟩ := rd_tup R rv e1
      exact ⟨a, vs, rfl, h1, (dqa_len h2).trans q.1, w, st, ex, ys, R, l, h2, q.2⟩
    · exact q.elim
  · unfold g2Tup at q ⊢
    split at q
    · exact ⟨q.1, h.mono ex _ st _ _ hh q.2⟩
    · exact q.elim
/-- xs[i] = e, xs an owned list -/
def g2Sub (to ti : TE2) : TG2 := fun ex x st R => to ex st fun o st1 => ti ex st1 fun i st2 => match o, rd st2 i with
  | .o k, some (.int n) => asD x st2 fun y st3 => match st3.m[k]? with
    | some ow => match ixN ow.xs.length n with
      | some j => ow.live = true ∧ R (st3.put k (ow.xs.set j y))
      | none => False
    | none => False
  | _, _ => False
theorem p2g_sub {to ti : TE2} {i : Expr} (ho : PE2 X W o to) (hi : PE2 X W i ti)
    (ha : ∀ v, assign (.Subscript o i pos) X.env v = (do
      let ov ← holding [v] (eval o X.env)
      let iv ← holding [v, ov] (eval i X.env)
      standAt pos
      holding [v, ov, iv] (setItem ov iv v)
      release [v, ov, iv] []) := by intro _; rfl) : PG2 X W (.Subscript o i pos) (g2Sub to ti) := by
  refine ⟨pgImp (pg_sub ho.pe hi.pe set_list ha) fun v σ H Q q => ?_, fun ex x st R R' hh q => ?_⟩
  · obtain ⟨w, st, ex, x, R, l, rv, q⟩ := q
    refine low_of ho.mono R l q fun o st1 w1 H1 v1 q1 l1 R1 k1 rv1 => ?_
    refine low_of hi.mono R1 k1 q1 fun i st2 w2 H2 v2 q2 l2 R2 k2 rv2 => ?_
    split at q2
    · rename_i k n e1
      obtain ⟨w3, st3, y, l3, R3, dy, q3, _⟩ := asD_ok R2 (rv.up (l1.trans l2)) q2
      obtain ⟨a, ha, rfl⟩ := rv1
      split at q3
      · rename_i ow e3
        split at q3
        · rename_i j e4
          have ha3 := l3.r k a (l2.r k a ha)
          obtain ⟨vs, f1, f2, _⟩ := R3.h.own k a ow ha3 e3
          refine ⟨a, vs, n, j, rfl, rd_int R2 rv2 e1, f1, by rw [dqa_len f2]; exact e4, ?_⟩
          exact q3.2 w3 σ _ ((l1.trans l2).trans l3) ⟨R3.h.mutL ha3 e3 q3.1 (dqa_set dy j f2), R3.l⟩
        · exact q3.elim
      · exact q3.elim
    · exact q2.elim
  · refine ho.mono ex st _ _ (fun o st1 q1 => hi.mono ex st1 _ _ (fun i st2 q2 => ?_) q1) q
    split at q2
    · refine asD_mono (fun y st3 q3 => ?_) q2
      split at q3
      · split at q3
        · exact ⟨q3.1, hh _ q3.2⟩
        · exact q3.elim
      · exact q3.elim
    · exact q2.elim
def s2Asg (te : TE2) (g : TG2) : TS2 := fun ex D st => te ex st fun x st1 => g ex x st1 D.nx
theorem low_asg {g : TG2} (he : MonoE te) (hg : MonoG g) {D : Ends} {σ : St} {H : Hp} (q : lowS X.K W (s2Asg te g) D σ H) : tAsg (low X.K W te) (lowG X.K W g) D σ H := by
  obtain ⟨w, st, ex, D2, R, l, le, q⟩ := q
  refine low_of he R l q fun x st1 w1 H1 v1 q1 l1 R1 k1 rv1 => ?_
  exact ⟨w1, st1, ex, x, R1, k1, rv1, hg ex x st1 _ _ (fun st2 q2 w2 σ2 H2 l2 R2 => le.nx w2 st2 σ2 H2 (l1.trans l2) R2 q2) q1⟩
/-- x = e -/
theorem p2s_set {i : Nat} {x : Str} {pos' : Pos} (hN : X.N.Nodup) (he : PE2 X W e te) (hi : X.N[i]? = some x := by rfl) (hx : Loc X.env.scope x := by first | exact Or.inl rfl | exact Or.inr rfl) (hs : swapsWith e (some (.Name x pos')) pos.line X.env = pure false := by rfl)
    (hf : X.fn x = true ∨ X.env.scope.names.lookup x = some .local := by first | exact .inl rfl | exact .inr rfl | assumption) : PS2 X W (.Assign [.Name x pos'] e pos) (s2Asg te (g2Name i)) := by
  refine ⟨psImp (ps_set hN hi hx he.pe hs hf) fun D σ H q => ?_⟩
  obtain ⟨w, st, ex, D2, R, l, le, q⟩ := q
  refine low_of he.mono R l q fun x st1 w1 H1 v1 q1 l1 R1 k1 rv1 => ?_
  exact le.nx w1 (st1.set i x) _ H1 l1 ⟨R1.h, RepL.set (v := some v1) (x := some x) rv1 i R1.l⟩ q1
theorem p2s_asg {tg : Expr} {g : TG2} (he : PE2 X W e te) (hg : PG2 X W tg g) (hs : swapsWithSole [tg] e pos.line X.env = pure false := by rfl) (hw : swappedStores [tg] e X.env = pure none := by rfl)
    (h1 : (assignEach [tg] X.env).map (·.2) = [assign tg X.env] := by rfl) : PS2 X W (.Assign [tg] e pos) (s2Asg te g) := ⟨psImp (ps_asg he.pe hg.pg hs hw h1) fun _ _ _ q => low_asg he.mono hg.mono q⟩
/-- x, y = e, f -/
def s2Par (i j : Nat) (ta tb : TE2) : TS2 := fun ex D st => ta ex st fun x st1 => tb ex st1 fun y st2 => D.nx ((st2.set i x).set j y)
theorem p2s_par {i j : Nat} {x y : Str} {px py pt : Pos} {kt k2 pt2} (hN : X.N.Nodup) (ha : PE2 X W a ta) (hb : PE2 X W b tb) (hc : X.calm = true := by rfl) (hi : X.N[i]? = some x := by rfl) (hj : X.N[j]? = some y := by rfl) (hij : i ≠ j := by decide)
    (hx : X.env.scope.names.lookup x = some .local := by rfl) (hy : X.env.scope.names.lookup y = some .local := by rfl)
    (hs1 : starEach [a, b] X.env = (false, eval a X.env) :: starEach [b] X.env := by rfl) (hs2 : starEach [b] X.env = (false, eval b X.env) :: starEach [] X.env := by rfl)
    (hw : swappedStores [.Tuple [.Name x px, .Name y py] kt pt] (.Tuple [a, b] k2 pt2) X.env = pure (some [x, y]) := by rfl)
    (hs : swapsWithSole [.Tuple [.Name x px, .Name y py] kt pt] (.Tuple [a, b] k2 pt2) pos.line X.env = pure false := by rfl) : PS2 X W (.Assign [.Tuple [.Name x px, .Name y py] kt pt] (.Tuple [a, b] k2 pt2) pos) (s2Par i j ta tb) := by
  refine ⟨psImp (ps_par hc hN hi hj hij hx hy (pa_cons ha.pe (pa_cons hb.pe pa_nil hs2) hs1) hw hs) fun D σ H q => ?_⟩
  obtain ⟨w, st, ex, D2, R, l, le, q⟩ := q
  refine low_of ha.mono R l q fun x st1 w1 H1 v1 q1 l1 R1 k1 rv1 => ?_
  refine low_of hb.mono R1 k1 q1 fun y st2 w2 H2 v2 q2 l2 R2 k2 rv2 => ?_
  refine ⟨v1, v2, rfl, ?_⟩
  exact le.nx w2 ((st2.set i x).set j y) _ H2 (l1.trans l2) ⟨R2.h, RepL.set (v := some v2) (x := some y) rv2 j (RepL.set (v := some v1) (x := some x) (rv1.up l2) i R2.l)⟩ q2
def s2Par3 (i j k : Nat) (ta tb tc : TE2) : TS2 := fun ex D st => ta ex st fun x st1 => tb ex st1 fun y st2 => tc ex st2 fun z st3 => D.nx (((st3.set i x).set j y).set k z)
theorem p2s_par3 {i j k : Nat} {x y z : Str} {px py pz pt : Pos} {kt k2 pt2} (hN : X.N.Nodup) (ha : PE2 X W a ta) (hb : PE2 X W b tb) (hcc : PE2 X W c tc') (hc : X.calm = true := by rfl) (hi : X.N[i]? = some x := by rfl) (hj : X.N[j]? = some y := by rfl) (hk : X.N[k]? = some z := by rfl)
    (hij : i ≠ j := by decide) (hik : i ≠ k := by decide) (hjk : j ≠ k := by decide)
    (hx : X.env.scope.names.lookup x = some .local := by rfl) (hy : X.env.scope.names.lookup y = some .local := by rfl) (hz : X.env.scope.names.lookup z = some .local := by rfl)
    (hs1 : starEach [a, b, c] X.env = (false, eval a X.env) :: starEach [b, c] X.env := by rfl) (hs2 : starEach [b, c] X.env = (false, eval b X.env) :: starEach [c] X.env := by rfl) (hs3 : starEach [c] X.env = (false, eval c X.env) :: starEach [] X.env := by rfl)
    (hw : swappedStores [.Tuple [.Name x px, .Name y py, .Name z pz] kt pt] (.Tuple [a, b, c] k2 pt2) X.env = pure (some [x, y, z]) := by rfl)
    (hs : swapsWithSole [.Tuple [.Name x px, .Name y py, .Name z pz] kt pt] (.Tuple [a, b, c] k2 pt2) pos.line X.env = pure false := by rfl) : PS2 X W (.Assign [.Tuple [.Name x px, .Name y py, .Name z pz] kt pt] (.Tuple [a, b, c] k2 pt2) pos) (s2Par3 i j k ta tb tc') := by
  refine ⟨psImp (ps_par3 hc hN hi hj hk hij hik hjk hx hy hz (pa_cons ha.pe (pa_cons hb.pe (pa_cons hcc.pe pa_nil hs3) hs2) hs1) hw hs) fun D σ H q => ?_⟩
  obtain ⟨w, st, ex, D2, R, l, le, q⟩ := q
  refine low_of ha.mono R l q fun x st1 w1 H1 v1 q1 l1 R1 k1 rv1 => ?_
  refine low_of hb.mono R1 k1 q1 fun y st2 w2 H2 v2 q2 l2 R2 k2 rv2 => ?_
  refine low_of hcc.mono R2 k2 q2 fun z st3 w3 H3 v3 q3 l3 R3 k3 rv3 => ?_
  refine ⟨v1, v2, v3, rfl, ?_⟩
  exact le.nx w3 (((st3.set i x).set j y).set k z) _ H3 ((l1.trans l2).trans l3) ⟨R3.h, RepL.set (v := some v3) (x := some z) rv3 k (RepL.set (v := some v2) (x := some y) (rv2.up l3) j (RepL.set (v := some v1) (x := some x) (rv1.up (l2.trans l3)) i R3.l))⟩ q3
/-- x += e, x -= e (ints) -/
def s2Aug (i : Nat) (f : Int → Int → Int) (te : TE2) : TS2 := fun ex D st => match st.s[i]? with
  | some (some x) => te ex st fun y st1 => match rd st1 x, rd st1 y with
    | some (.int m), some (.int n) => D.nx (st1.set i (.d (.int (f m n))))
    | _, _ => False
  | _ => False
theorem p2s_aug {i : Nat} {x : Str} {op : Operator} {f : Int → Int → Int} {pos' : Pos} (hN : X.N.Nodup) (ho : PIp X op (ipI f)) (he : PE2 X W e te) (hi : X.N[i]? = some x := by rfl) (hx : Loc X.env.scope x := by first | exact Or.inl rfl | exact Or.inr rfl)
    (hf : X.fn x = true ∨ X.env.scope.names.lookup x = some .local := by first | exact .inl rfl | exact .inr rfl | assumption) : PS2 X W (.AugAssign (.Name x pos') op e pos) (s2Aug i f te) := by
  refine ⟨psImp (ps_aug hN hi hx he.pe ho hf) fun D σ H q => ?_⟩
  obtain ⟨w, st, ex, D2, R, l, le, q⟩ := q
  unfold s2Aug at q
  split at q
  · rename_i x e1
    obtain ⟨v, h1, h2⟩ := R.l.get e1
    refine ⟨v, h1, low_of he.mono R l q fun y st1 w1 H1 v1 q1 l1 R1 k1 rv1 => ?_⟩
    split at q1
    · rename_i m n e2 e3
      refine ⟨m, n, rd_int R1 (h2.up l1) e2, rd_int R1 rv1 e3, ?_⟩
      exact le.nx w1 (st1.set i (.d (.int (f m n)))) _ H1 l1 ⟨R1.h, RepL.set (v := some (.int (f m n))) (x := some (.d (.int (f m n)))) (Dq.int _) i R1.l⟩ q1
    · exact q1.elim
  · exact q.elim
/-- xs[i] += e -/
def s2AugS (f : Int → Int → Int) (to ti te : TE2) : TS2 := fun ex D st => to ex st fun o st1 => ti ex st1 fun i st2 => match o, rd st2 i with
  | .o k, some (.int n) => match st2.m[k]? with
    | some ow => match atI ow.xs n with
      | some (.int m) => te ex st2 fun y st3 => match rd st3 y, st3.m[k]? with
        | some (.int n'), some ow' => match ixN ow'.xs.length n with
          | some j => ow'.live = true ∧ D.nx (st3.put k (ow'.xs.set j (.int (f m n'))))
          | none => False
        | _, _ => False
      | _ => False
    | none => False
  | _, _ => False
theorem p2s_augS {to ti : TE2} {i : Expr} {op : Operator} {f : Int → Int → Int} {tpos : Pos} (hp : PIp X op (ipI f)) (ho : PE2 X W o to) (hi : PE2 X W i ti) (he : PE2 X W e te)
    (ha : ∀ ov iv new, augStore i ov iv new = (do holding [new, ov, iv] (setItem ov iv new); release [new, ov, iv] []; pure .next) := by intros; rfl) : PS2 X W (.AugAssign (.Subscript o i tpos) op e pos) (s2AugS f to ti te) := by
  refine ⟨psImp (ps_augS ho.pe hi.pe pget_list he.pe hp set_list ha) fun D σ H q => ?_⟩
  obtain ⟨w, st, ex, D2, R, l, le, q⟩ := q
  refine low_of ho.mono R l q fun o st1 w1 H1 v1 q1 l1 R1 k1 rv1 => ?_
  refine low_of hi.mono R1 k1 q1 fun i st2 w2 H2 v2 q2 l2 R2 k2 rv2 => ?_
  split at q2
  · rename_i k n e1
    obtain ⟨a, ha, rfl⟩ := rv1
    have ha2 := l2.r k a ha
    split at q2
    · rename_i ow e2
      obtain ⟨vs, f1, f2, _⟩ := R2.h.own k a ow ha2 e2
      split at q2
      · rename_i m e3
        obtain ⟨v, g1, g2⟩ := dqa_at f2 e3
        refine ⟨a, vs, n, v, rfl, rd_int R2 rv2 e1, SqL.of f1, g1, ?_⟩
        refine low_of he.mono R2 k2 q2 fun y st3 w3 H3 v3 q3 l3 R3 k3 rv3 => ?_
        split at q3
        · rename_i n' ow' e4 e5
          split at q3
          · rename_i j e6
            cases g2
            have ha3 := l3.r k a ha2
            obtain ⟨us, h1, h2, _⟩ := R3.h.own k a ow' ha3 e5
            refine ⟨m, n', rfl, rd_int R3 rv3 e4, a, us, n, j, rfl, rd_int R2 rv2 e1, h1, by rw [dqa_len h2]; exact e6, ?_⟩
            exact le.nx w3 (st3.put k (ow'.xs.set j (.int (f m n')))) σ _ ((l1.trans l2).trans l3) ⟨R3.h.mutL ha3 e5 q3.1 (dqa_set (.int _) j h2), R3.l⟩ q3.2
          · exact q3.elim
        · exact q3.elim
      · exact q2.elim
    · exact q2.elim
  · exact q2.elim

/-! ### what is walked -/
abbrev TI2 := EX → S → (List PyData → S → Prop) → Prop
def MonoI (t : TI2) : Prop := ∀ ex st (Q Q' : List PyData → S → Prop), (∀ x s, Q x s → Q' x s) → t ex st Q → t ex st Q'
/-- the walk gives these things, as long as what doesn't change stands -/
def Yld (K : PySem.W.Frag) (w : Wd) (J : It) (items : List PyData) : Prop := ∃ (G : Hp → Prop) (Y : Nat → Hp → V → Hp → Prop), Walk J items.length G Y ∧ (∀ H, Ext w.D H → G H) ∧
  ∀ i H x H', Y i H x H' → ∃ z, items[i]? = some z ∧ ((H' = H ∧ Dq K w.D x z) ∨ ∃ T vs zs, x = .ref T ∧ H T = none ∧ H' = upd H T (.tup vs) ∧ z = .tuple zs ∧ DqA K w.D vs zs)
def lowI (K : PySem.W.Frag) (W : WX) (t : TI2) : TI := fun σ H R => ∃ w st ex, RepS K w st σ H ∧ Link K w W ex ∧ t ex st fun items st' => ∀ w' H' J, Le w w' → RepS K w' st' σ H' → Yld K w' J items → R J H'
structure PI2 (X : Cx) (W : WX) (tg e : Expr) (t : TI2) : Prop where
  pi : PI X tg e (lowI X.K W t)
  mono : MonoI t
theorem piImp {tg e : Expr} {t t' : TI} (h : PI X tg e t) (i : ∀ σ H R, t' σ H R → t σ H R) : PI X tg e t' := ⟨fun pins s σ H R I q => h.run pins s σ H R I (i σ H R q)⟩
theorem yld_list {K : PySem.W.Frag} {w : Wd} {a : Addr} {vs : List V} {xs : List PyData} (h : w.D a = some (.lst vs)) (d : DqA K w.D vs xs) : Yld K w (Itl K a) xs := by
  refine ⟨fun H => SqL K H a vs, YAt vs, ?_, fun H e => SqL.of (e _ _ h), fun i H x H' y => ?_⟩
  · rw [← dqa_len d]; exact walk_list
  · obtain ⟨z, h1, h2⟩ := dqa_getV d y.2
    exact ⟨z, h1, .inl ⟨y.1, h2⟩⟩
theorem yld_tup {K : PySem.W.Frag} {w : Wd} {a : Addr} {vs : List V} {xs : List PyData} (h : SqT K w.D a vs) (d : DqA K w.D vs xs) : Yld K w (Itt K a) xs := by
  refine ⟨fun H => SqT K H a vs, YAt vs, ?_, fun H e => ext_t e h, fun i H x H' y => ?_⟩
  · rw [← dqa_len d]; exact walk_tup
  · obtain ⟨z, h1, h2⟩ := dqa_getV d y.2
    exact ⟨z, h1, .inl ⟨y.1, h2⟩⟩
def iSeqU (K : PySem.W.Frag) (te : TE) : TI := fun σ H R => te σ H fun x H1 => ∃ a, x = .ref a ∧ (((∃ xs, SqL K H1 a xs) ∧ R (Itl K a) H1) ∨ ((∃ xs, SqT K H1 a xs) ∧ R (Itt K a) H1))
theorem pi_seqU {tg l : Expr} {tl : TE} (hl : PE X l tl) : PI X tg l (iSeqU X.K tl) := by
  refine ⟨fun pins s σ H R I h => ?_⟩
  refine thn (hl.run pins s σ H _ I h) fun v s1 ⟨x, H1, I1, r1, q1⟩ => ?_
  obtain ⟨a, e, q⟩ := q1
  subst e
  cases r1
  have fr : ∀ b ∈ [s1.heap.objs.size], FpOk X pins H1 b := fun b hb => by
    have e : b = s1.heap.objs.size := by simpa using hb
    subst e
    exact I1.fpOk (Nat.le_refl _) (I1.hok.fresh (Nat.le_refl _))
  rcases q with ⟨⟨xs, hq⟩, q⟩ | ⟨⟨xs, hq⟩, q⟩
  · obtain ⟨its, rv, p, hz⟩ := I1.list hq
    exact PySem.wpAny_pyIter_list p.isList ⟨s1.heap.objs.size, [s1.heap.objs.size], _, _, H1, rfl, I1.kept (t' := s1.toks) fun b o e => Heap.get?_push_of_some _ e, turn_list a _, ⟨_, Heap.get?_push_size _ rfl, rfl, rfl⟩, fr, q⟩
  · obtain ⟨its, rv, p, hz⟩ := I1.tuple hq
    exact PySem.wpAny_pyIter_tuple (show s1.heap.IsTuple a its.toArray from p) ⟨s1.heap.objs.size, [s1.heap.objs.size], _, _, H1, rfl, I1.kept (t' := s1.toks) fun b o e => Heap.get?_push_of_some _ e, turn_tuple a _, ⟨_, Heap.get?_push_size _ rfl, rfl, rfl⟩, fr, q⟩
/-- the items of a list or a tuple -/
def seqK (y : PyData) (st : S) (Q : List PyData → S → Prop) : Prop := match y with
  | .list xs => Q xs st
  | .tuple xs => Q xs st
  | _ => False
theorem seqK_mono {y : PyData} {st : S} {Q Q' : List PyData → S → Prop} (h : ∀ x s, Q x s → Q' x s) (q : seqK y st Q) : seqK y st Q' := by
  unfold seqK at q ⊢
  split at q
  · exact h _ _ q
  · exact h _ _ q
  · exact q.elim
def i2Seq (te : TE2) : TI2 := fun ex st Q => te ex st fun x st1 => asD x st1 fun y st2 => seqK y st2 Q
theorem p2i_seq {tg : Expr} (he : PE2 X W e te) : PI2 X W tg e (i2Seq te) := by
  refine ⟨piImp (pi_seqU he.pe) fun σ H Q q => ?_, fun ex st Q Q' h q => he.mono ex st _ _ (fun x st1 q1 => asD_mono (fun y st2 q2 => seqK_mono h q2) q1) q⟩
  obtain ⟨w, st, ex, R, l, q⟩ := q
  refine low_of he.mono R l q fun x st1 w1 H1 v1 q1 l1 R1 k1 rv1 => ?_
  obtain ⟨w2, st2, y, l2, R2, d2, q2, _⟩ := asD_ok R1 rv1 q1
  unfold seqK at q2
  split at q2
  · rename_i xs
    cases d2 with
    | lst h d => exact ⟨_, rfl, .inl ⟨⟨_, SqL.of (R2.h.ed _ _ h)⟩, q2 w2 H1 _ (l1.trans l2) R2 (yld_list h d)⟩⟩
  · rename_i xs
    cases d2 with
    | tup h d => exact ⟨_, rfl, .inr ⟨⟨_, ext_t R2.h.ed h⟩, q2 w2 H1 _ (l1.trans l2) R2 (yld_tup h d)⟩⟩
  · exact q2.elim
/-- ints as things -/
def rangeD (lo : Int) (n : Nat) : List PyData := (List.range n).map fun (i : Nat) => .int (lo + (i : Int))
def i2Rng1 (te : TE2) : TI2 := fun ex st Q => te ex st fun x st1 => match rd st1 x with
  | some (.int j) => (-(2 ^ 62) ≤ j ∧ j < 2 ^ 62) ∧ Q (rangeD 0 j.toNat) st1
  | _ => False
theorem yld_range {K : PySem.W.Frag} {w : Wd} {lo : Int} {n : Nat} : Yld K w (Itr lo n) (rangeD lo n) := by
  refine ⟨fun _ => True, fun i H x H' => i < n ∧ H' = H ∧ x = .int (lo + i), ?_, fun _ _ => trivial, fun i H x H' y => ?_⟩
  · have e : (rangeD lo n).length = n := by simp [rangeD]
    rw [e]
    exact ⟨fun _ _ hi _ => hi, fun _ _ => Nat.le_refl _, fun i H x H' hi _ y => ⟨hi, y⟩⟩
  · refine ⟨.int (lo + i), by simp [rangeD, y.1], .inl ⟨y.2.1, ?_⟩⟩
    rw [y.2.2]; exact .int _
theorem p2i_rng1 {tg : Expr} {p : Pos} (hm : X.mg "range" = none) (he : PE2 X W e te) (hg : Gl X "range" := by rfl) (hs : starEach [e] X.env = [(false, eval e X.env)] := by rfl) (hs1 : starEach [e] X.env = (false, eval e X.env) :: starEach [] X.env := by rfl) : PI2 X W tg (.Call (.Name "range" p) [e] [] pos) (i2Rng1 te) := by
  refine ⟨piImp (pi_range1 hg hm (pa_cons he.pe pa_nil hs1) hs) fun σ H Q q => ?_, fun ex st Q Q' h q => he.mono ex st _ _ (fun x st1 q1 => ?_) q⟩
  · obtain ⟨w, st, ex, R, l, q⟩ := q
    refine low_of he.mono R l q fun x st1 w1 H1 v1 q1 l1 R1 k1 rv1 => ?_
    split at q1
    · rename_i j e1
      exact ⟨j, by rw [rd_int R1 rv1 e1], q1.1.1, q1.1.2, q1.2 w1 H1 _ l1 R1 yld_range⟩
    · exact q1.elim
  · split at q1
    · exact ⟨q1.1, h _ _ q1.2⟩
    · exact q1.elim
def i2Rng2 (ta tb : TE2) : TI2 := fun ex st Q => ta ex st fun x st1 => tb ex st1 fun y st2 => match rd st2 x, rd st2 y with
  | some (.int i), some (.int j) => (-(2 ^ 62) ≤ i ∧ i < 2 ^ 62 ∧ -(2 ^ 62) ≤ j ∧ j < 2 ^ 62) ∧ Q (rangeD i (j - i).toNat) st2
  | _, _ => False
theorem p2i_rng2 {tg : Expr} {p : Pos} (hm : X.mg "range" = none) (ha : PE2 X W a ta) (hb : PE2 X W b tb) (hg : Gl X "range" := by rfl) (hs : starEach [a, b] X.env = [(false, eval a X.env), (false, eval b X.env)] := by rfl) (hs2 : starEach [b] X.env = [(false, eval b X.env)] := by rfl)
    (hs3 : starEach [a, b] X.env = (false, eval a X.env) :: starEach [b] X.env := by rfl) (hs4 : starEach [b] X.env = (false, eval b X.env) :: starEach [] X.env := by rfl) : PI2 X W tg (.Call (.Name "range" p) [a, b] [] pos) (i2Rng2 ta tb) := by
  refine ⟨piImp (pi_range2 hg hm (pa_cons ha.pe (pa_cons hb.pe pa_nil hs4) hs3) hs hs2) fun σ H Q q => ?_, fun ex st Q Q' h q => ha.mono ex st _ _ (fun x st1 q1 => hb.mono ex st1 _ _ (fun y st2 q2 => ?_) q1) q⟩
  · obtain ⟨w, st, ex, R, l, q⟩ := q
    refine low_of ha.mono R l q fun x st1 w1 H1 v1 q1 l1 R1 k1 rv1 => ?_
    refine low_of hb.mono R1 k1 q1 fun y st2 w2 H2 v2 q2 l2 R2 k2 rv2 => ?_
    split at q2
    · rename_i i j e1 e2
      exact ⟨i, j, by rw [rd_int R2 (rv1.up l2) e1, rd_int R2 rv2 e2], q2.1, q2.2 w2 H2 _ (l1.trans l2) R2 yld_range⟩
    · exact q2.elim
  · split at q2
    · exact ⟨q2.1, h _ _ q2.2⟩
    · exact q2.elim
/-- range(a, b, -1) -/
def downD (hi : Int) (n : Nat) : List PyData := (List.range n).map fun (i : Nat) => .int (hi - (i : Int))
def i2Down (ta tb : TE2) : TI2 := fun ex st Q => ta ex st fun x st1 => tb ex st1 fun y st2 => match rd st2 x, rd st2 y with
  | some (.int i), some (.int j) => (-(2 ^ 62) ≤ i ∧ i < 2 ^ 62 ∧ -(2 ^ 62) ≤ j ∧ j < 2 ^ 62) ∧ Q (downD i (i - j).toNat) st2
  | _, _ => False
theorem yld_down {K : PySem.W.Frag} {w : Wd} {lo : Int} {n : Nat} : Yld K w (Itc lo (-1) n) (downD lo n) := by
  refine ⟨fun _ => True, fun i H x H' => i < n ∧ H' = H ∧ x = .int (lo - i), ?_, fun _ _ => trivial, fun i H x H' y => ?_⟩
  · have e : (downD lo n).length = n := by simp [downD]
    rw [e]
    refine ⟨fun _ _ hi _ => hi, fun _ _ => Nat.le_refl _, fun i H x H' hi _ y => ⟨hi, y.1, ?_⟩⟩
    rw [y.2]; congr 1; omega
  · refine ⟨.int (lo - i), by simp [downD, y.1], .inl ⟨y.2.1, ?_⟩⟩
    rw [y.2.2]; exact .int _
theorem p2i_down {tg : Expr} {p p1 p2 : Pos} {k : Nat} (hm : X.mg "range" = none) (ha : PE2 X W a ta) (hb : PE2 X W b tb) (hg : Gl X "range" := by rfl)
    (hs : starEach [a, b, .UnaryOp .USub (.Constant (.int 1) k p1) p2] X.env = (false, eval a X.env) :: starEach [b, .UnaryOp .USub (.Constant (.int 1) k p1) p2] X.env := by rfl)
    (hpl : (backTo pos (starEach [b, .UnaryOp .USub (.Constant (.int 1) k p1) p2] X.env)).any (·.1) = false := by rfl)
    (hs4 : starEach [b, .UnaryOp .USub (.Constant (.int 1) k p1) p2] X.env = (false, eval b X.env) :: starEach [.UnaryOp .USub (.Constant (.int 1) k p1) p2] X.env := by rfl)
    (hs5 : starEach [.UnaryOp .USub (.Constant (.int 1) k p1) p2] X.env = (false, eval (.UnaryOp .USub (.Constant (.int 1) k p1) p2) X.env) :: starEach [] X.env := by rfl) :
    PI2 X W tg (.Call (.Name "range" p) [a, b, .UnaryOp .USub (.Constant (.int 1) k p1) p2] [] pos) (i2Down ta tb) := by
  refine ⟨piImp (pi_range3 hg hm (pa_cons ha.pe (pa_cons hb.pe (pa_cons (pe_un un_neg pe_int) pa_nil hs5) hs4) hs) hs hpl) fun σ H Q q => ?_, fun ex st Q Q' h q => ha.mono ex st _ _ (fun x st1 q1 => hb.mono ex st1 _ _ (fun y st2 q2 => ?_) q1) q⟩
  · obtain ⟨w, st, ex, R, l, q⟩ := q
    refine low_of ha.mono R l q fun x st1 w1 H1 v1 q1 l1 R1 k1 rv1 => ?_
    refine low_of hb.mono R1 k1 q1 fun y st2 w2 H2 v2 q2 l2 R2 k2 rv2 => ?_
    split at q2
    · rename_i i j e1 e2
      obtain ⟨b1, b2, b3, b4⟩ := q2.1
      refine ⟨1, rfl, i, j, -1, _, ?_, RgC.neg b1 b2 b3 b4, q2.2 w2 H2 _ (l1.trans l2) R2 yld_down⟩
      rw [rd_int R2 (rv1.up l2) e1, rd_int R2 rv2 e2]
    · exact q2.elim
  · split at q2
    · exact ⟨q2.1, h _ _ q2.2⟩
    · exact q2.elim
/-- enumerate(x) -/
def enumD (xs : List PyData) : List PyData := xs.mapIdx fun i x => .tuple [.int (i : Int), x]
def i2Enum (te : TE2) : TI2 := fun ex st Q => te ex st fun x st1 => asD x st1 fun y st2 => seqK y st2 fun xs st3 => Q (enumD xs) st3
theorem enumD_get {xs : List PyData} {i : Nat} {z : PyData} (h : xs[i]? = some z) : (enumD xs)[i]? = some (.tuple [.int (i : Int), z]) := by
  unfold enumD
  rw [List.getElem?_mapIdx, h]; rfl
theorem yld_enum {K : PySem.W.Frag} {w : Wd} {a : Addr} {vs : List V} {xs : List PyData} (h : w.D a = some (.lst vs)) (d : DqA K w.D vs xs) : Yld K w (Ite K a) (enumD xs) := by
  refine ⟨fun H => SqL K H a vs, YPair (fun i => some (.int (i : Nat))) (fun i => vs[i]?), ?_, fun H e => SqL.of (e _ _ h), fun i H x H' y => ?_⟩
  · have e : (enumD xs).length = vs.length := by simp [enumD, dqa_len d]
    rw [e]; exact walk_enum
  · obtain ⟨T, x1, y1, e1, e2, e3, e4, e5⟩ := y
    cases e4
    obtain ⟨z, h1, h2⟩ := dqa_getV d e5
    exact ⟨_, enumD_get h1, .inr ⟨T, _, _, e1, e2, e3, rfl, .cons (.int _) (.cons h2 .nil)⟩⟩
theorem yld_enumT {K : PySem.W.Frag} {w : Wd} {a : Addr} {vs : List V} {xs : List PyData} (h : SqT K w.D a vs) (d : DqA K w.D vs xs) : Yld K w (IteT K a) (enumD xs) := by
  refine ⟨fun H => SqT K H a vs, YPair (fun i => some (.int (i : Nat))) (fun i => vs[i]?), ?_, fun H e => ext_t e h, fun i H x H' y => ?_⟩
  · have e : (enumD xs).length = vs.length := by simp [enumD, dqa_len d]
    rw [e]; exact walk_enumT
  · obtain ⟨T, x1, y1, e1, e2, e3, e4, e5⟩ := y
    cases e4
    obtain ⟨z, h1, h2⟩ := dqa_getV d e5
    exact ⟨_, enumD_get h1, .inr ⟨T, _, _, e1, e2, e3, rfl, .cons (.int _) (.cons h2 .nil)⟩⟩
theorem p2i_enum {elts : List Expr} {kk : Nat} {tpos p : Pos} (hm : X.mg "enumerate" = none) (he : PE2 X W e te) (hg : Gl X "enumerate" := by rfl) (hs : starEach [e] X.env = [(false, eval e X.env)] := by rfl) (hs1 : starEach [e] X.env = (false, eval e X.env) :: starEach [] X.env := by rfl) :
    PI2 X W (.Tuple elts kk tpos) (.Call (.Name "enumerate" p) [e] [] pos) (i2Enum te) := by
  refine ⟨piImp (pi_enumU hg hm (pa_cons he.pe pa_nil hs1) hs) fun σ H Q q => ?_, fun ex st Q Q' h q => he.mono ex st _ _ (fun x st1 q1 => asD_mono (fun y st2 q2 => seqK_mono (fun _ _ => h _ _) q2) q1) q⟩
  obtain ⟨w, st, ex, R, l, q⟩ := q
  refine low_of he.mono R l q fun x st1 w1 H1 v1 q1 l1 R1 k1 rv1 => ?_
  obtain ⟨w2, st2, y, l2, R2, d2, q2, _⟩ := asD_ok R1 rv1 q1
  unfold seqK at q2
  split at q2
  · rename_i xs
    cases d2 with
    | lst h d => exact ⟨_, _, rfl, .inl ⟨SqL.of (R2.h.ed _ _ h), q2 w2 H1 _ (l1.trans l2) R2 (yld_enum h d)⟩⟩
  · rename_i xs
    cases d2 with
    | tup h d => exact ⟨_, _, rfl, .inr ⟨ext_t R2.h.ed h, q2 w2 H1 _ (l1.trans l2) R2 (yld_enumT h d)⟩⟩
  · exact q2.elim
/-- reversed(x) -/
def i2Rev (te : TE2) : TI2 := fun ex st Q => te ex st fun x st1 => asD x st1 fun y st2 => seqK y st2 fun xs st3 => Q xs.reverse st3
theorem rev_get {α : Type} {xs : List α} {i : Nat} {z : α} (hi : i < xs.length) (h : xs[xs.length - 1 - i]? = some z) : xs.reverse[i]? = some z := by
  rw [List.getElem?_reverse hi]; exact h
theorem yld_rev {K : PySem.W.Frag} {w : Wd} {a : Addr} {vs : List V} {xs : List PyData} (h : w.D a = some (.lst vs)) (d : DqA K w.D vs xs) : Yld K w (Itv K a vs.length) xs.reverse := by
  refine ⟨fun H => SqL K H a vs, fun i H x H' => i < vs.length ∧ H' = H ∧ vs[vs.length - 1 - i]? = some x, ?_, fun H e => SqL.of (e _ _ h), fun i H x H' y => ?_⟩
  · have e : xs.reverse.length = vs.length := by simp [dqa_len d]
    rw [e]
    exact ⟨walk_rev.goes, walk_rev.stops, fun i H x H' hi g y => ⟨hi, walk_rev.yields i H x H' hi g y⟩⟩
  · obtain ⟨hi, e1, e2⟩ := y
    obtain ⟨z, h1, h2⟩ := dqa_getV d e2
    rw [dqa_len d] at h1 hi
    exact ⟨z, rev_get hi h1, .inl ⟨e1, h2⟩⟩
theorem yld_revT {K : PySem.W.Frag} {w : Wd} {a : Addr} {vs : List V} {xs : List PyData} (h : SqT K w.D a vs) (d : DqA K w.D vs xs) : Yld K w (RT.ItvT K a vs.length) xs.reverse := by
  refine ⟨fun H => SqT K H a vs, fun i H x H' => i < vs.length ∧ H' = H ∧ vs[vs.length - 1 - i]? = some x, ?_, fun H e => ext_t e h, fun i H x H' y => ?_⟩
  · have e : xs.reverse.length = vs.length := by simp [dqa_len d]
    rw [e]
    exact ⟨fun i _ hi q => ⟨hi, vs, vs[vs.length - 1 - i]'(by omega), q, by simp [show vs.length - 1 - i < vs.length by omega]⟩, fun _ _ => Nat.le_refl _, fun _ _ _ _ hi q y => ⟨hi, y.1, y.2 vs q⟩⟩
  · obtain ⟨hi, e1, e2⟩ := y
    obtain ⟨z, h1, h2⟩ := dqa_getV d e2
    rw [dqa_len d] at h1 hi
    exact ⟨z, rev_get hi h1, .inl ⟨e1, h2⟩⟩
theorem p2i_rev {tg : Expr} {p : Pos} (hm : X.mg "reversed" = none) (he : PE2 X W e te) (hg : Gl X "reversed" := by rfl) (hs1 : starEach [e] X.env = (false, eval e X.env) :: starEach [] X.env := by rfl) :
    PI2 X W tg (.Call (.Name "reversed" p) [e] [] pos) (i2Rev te) := by
  refine ⟨piImp (RT.pi_revA hg hm he.pe hs1) fun σ H Q q => ?_, fun ex st Q Q' h q => he.mono ex st _ _ (fun x st1 q1 => asD_mono (fun y st2 q2 => seqK_mono (fun _ _ => h _ _) q2) q1) q⟩
  obtain ⟨w, st, ex, R, l, q⟩ := q
  refine low_of he.mono R l q fun x st1 w1 H1 v1 q1 l1 R1 k1 rv1 => ?_
  obtain ⟨w2, st2, y, l2, R2, d2, q2, _⟩ := asD_ok R1 rv1 q1
  unfold seqK at q2
  split at q2
  · rename_i xs
    cases d2 with
    | lst h d => exact ⟨_, _, rfl, .inl ⟨SqL.of (R2.h.ed _ _ h), q2 w2 H1 _ (l1.trans l2) R2 (yld_rev h d)⟩⟩
  · rename_i xs
    cases d2 with
    | tup h d => exact ⟨_, _, rfl, .inr ⟨ext_t R2.h.ed h, q2 w2 H1 _ (l1.trans l2) R2 (yld_revT h d)⟩⟩
  · exact q2.elim
/-- zip(x, y) of two lists or of two tuples -/
def zipD (xs ys : List PyData) : List PyData := List.zipWith (fun x y => .tuple [x, y]) xs ys
def zipK (y z : PyData) (st : S) (Q : List PyData → S → Prop) : Prop := match y, z with
  | .list xs, .list ys => Q (zipD xs ys) st
  | .tuple xs, .tuple ys => Q (zipD xs ys) st
  | .list xs, .tuple ys => Q (zipD xs ys) st
  | .tuple xs, .list ys => Q (zipD xs ys) st
  | _, _ => False
theorem zipK_mono {y z : PyData} {st : S} {Q Q' : List PyData → S → Prop} (h : ∀ x s, Q x s → Q' x s) (q : zipK y z st Q) : zipK y z st Q' := by
  unfold zipK at q ⊢
  split at q
  · exact h _ _ q
  · exact h _ _ q
  · exact h _ _ q
  · exact h _ _ q
  · exact q.elim
def i2Zip (ta tb : TE2) : TI2 := fun ex st Q => ta ex st fun x st1 => tb ex st1 fun y st2 => asD x st2 fun x' st3 => asD y st3 fun y' st4 => zipK x' y' st4 Q
theorem zipD_get {xs ys : List PyData} {i : Nat} {x y : PyData} (h : xs[i]? = some x) (h' : ys[i]? = some y) : (zipD xs ys)[i]? = some (.tuple [x, y]) := by
  unfold zipD
  rw [List.getElem?_zipWith, h, h']
theorem sqv_up {k : Bool} {K : PySem.W.Frag} {H H' : Hp} {a : Addr} {xs : List V} (e : Ext H H') (h : ZK.SqV k K H a xs) : ZK.SqV k K H' a xs := by
  cases k
  · exact ext_l e h
  · exact ext_t e h
theorem walk_zipK {k1 k2 : Bool} {K : PySem.W.Frag} {a b : Addr} {xs ys : List V} {n : Nat} (hn : n = min xs.length ys.length) : Walk (ZK.ItzK k1 k2 K a b) n (fun H => ZK.SqV k1 K H a xs ∧ ZK.SqV k2 K H b ys) (YPair (fun i => xs[i]?) (fun i => ys[i]?)) := by
  subst hn
  refine ⟨fun i _ hi q => ?_, fun _ q => ⟨xs, ys, q.1, q.2, by omega⟩, fun i H v H' _ q y => ?_⟩
  · have h1 : i < xs.length := by omega
    have h2 : i < ys.length := by omega
    exact ⟨xs, ys, xs[i], ys[i], q.1, q.2, by simp [h1], by simp [h2]⟩
  · obtain ⟨T, x, z, h1, h2, h3, h4, h5⟩ := y
    exact ⟨T, x, z, h1, h2, h3, h4 xs q.1, h5 ys q.2⟩
theorem yld_zipK {k1 k2 : Bool} {K : PySem.W.Frag} {w : Wd} {a b : Addr} {vs us : List V} {xs ys : List PyData} (h : ZK.SqV k1 K w.D a vs) (d : DqA K w.D vs xs) (h' : ZK.SqV k2 K w.D b us) (d' : DqA K w.D us ys) : Yld K w (ZK.ItzK k1 k2 K a b) (zipD xs ys) := by
  refine ⟨fun H => ZK.SqV k1 K H a vs ∧ ZK.SqV k2 K H b us, YPair (fun i => vs[i]?) (fun i => us[i]?), ?_, fun H e => ⟨sqv_up e h, sqv_up e h'⟩, fun i H x H' y => ?_⟩
  · have e : (zipD xs ys).length = min vs.length us.length := by simp [zipD, dqa_len d, dqa_len d']
    exact walk_zipK e
  · obtain ⟨T, x1, y1, e1, e2, e3, e4, e5⟩ := y
    obtain ⟨z, h1, h2⟩ := dqa_getV d e4
    obtain ⟨z', h1', h2'⟩ := dqa_getV d' e5
    exact ⟨_, zipD_get h1 h1', .inr ⟨T, _, _, e1, e2, e3, rfl, .cons h2 (.cons h2' .nil)⟩⟩
theorem p2i_zip {elts : List Expr} {kk : Nat} {tpos p : Pos} (hm : X.mg "zip" = none) (ha : PE2 X W a ta) (hb : PE2 X W b tb) (hg : Gl X "zip" := by rfl) (hs : starEach [a, b] X.env = (false, eval a X.env) :: starEach [b] X.env := by rfl) (hpl : (backTo pos (starEach [b] X.env)).any (·.1) = false := by rfl) (hs4 : starEach [b] X.env = (false, eval b X.env) :: starEach [] X.env := by rfl) :
    PI2 X W (.Tuple elts kk tpos) (.Call (.Name "zip" p) [a, b] [] pos) (i2Zip ta tb) := by
  refine ⟨piImp (ZK.pi_zipK hg hm (pa_cons ha.pe (pa_cons hb.pe pa_nil hs4) hs) hs hpl) fun σ H Q q => ?_, fun ex st Q Q' h q => ha.mono ex st _ _ (fun x st1 q1 => hb.mono ex st1 _ _ (fun y st2 q2 => asD_mono (fun x' st3 q3 => asD_mono (fun y' st4 q4 => zipK_mono h q4) q3) q2) q1) q⟩
  obtain ⟨w, st, ex, R, l, q⟩ := q
  refine low_of ha.mono R l q fun x st1 w1 H1 v1 q1 l1 R1 k1 rv1 => ?_
  refine low_of hb.mono R1 k1 q1 fun y st2 w2 H2 v2 q2 l2 R2 k2 rv2 => ?_
  obtain ⟨w3, st3, x', l3, R3, d3, q3, _⟩ := asD_ok R2 (rv1.up l2) q2
  obtain ⟨w4, st4, y', l4, R4, d4, q4, _⟩ := asD_ok R3 (rv2.up l3) q3
  have d3' := dq_up l4.D _ _ d3
  have l04 := ((l1.trans l2).trans l3).trans l4
  have put : ∀ {k1 k2 : Bool} {a b : Addr} {vs us : List V} {xs ys : List PyData}, ZK.SqV k1 X.K w4.D a vs → DqA X.K w4.D vs xs → ZK.SqV k2 X.K w4.D b us → DqA X.K w4.D us ys → (∀ w' H' J, Le w w' → RepS X.K w' st4 σ H' → Yld X.K w' J (zipD xs ys) → Q J H') →
      ∃ k1 k2 a' b' xs ys, [V.ref a, V.ref b] = [.ref a', .ref b'] ∧ ZK.SqV k1 X.K H2 a' xs ∧ ZK.SqV k2 X.K H2 b' ys ∧ Q (ZK.ItzK k1 k2 X.K a' b') H2 :=
    fun {k1 k2 a b vs us xs ys} h d h' d' f => ⟨k1, k2, a, b, vs, us, rfl, sqv_up R4.h.ed h, sqv_up R4.h.ed h', f w4 H2 _ l04 R4 (yld_zipK h d h' d')⟩
  unfold zipK at q4
  split at q4
  · cases d3' with
    | lst h d =>
    cases d4 with
    | lst h' d' => exact put (k1 := false) (k2 := false) (SqL.of h) d (SqL.of h') d' q4
  · cases d3' with
    | tup h d =>
    cases d4 with
    | tup h' d' => exact put (k1 := true) (k2 := true) h d h' d' q4
  · cases d3' with
    | lst h d =>
    cases d4 with
    | tup h' d' => exact put (k1 := false) (k2 := true) (SqL.of h) d h' d' q4
  · cases d3' with
    | tup h d =>
    cases d4 with
    | lst h' d' => exact put (k1 := true) (k2 := false) h d (SqL.of h') d' q4
  · exact q4.elim

/-! ### loops -/
/-- a thing that is walked comes into the world -/
theorem yld_in {K : PySem.W.Frag} {w : Wd} {st : S} {σ : St} {H H' : Hp} {x : V} {z : PyData} {wi : Wd} (l : Le w wi) (R : RepS K wi st σ H)
    (h : (H' = H ∧ Dq K w.D x z) ∨ ∃ T vs zs, x = .ref T ∧ H T = none ∧ H' = upd H T (.tup vs) ∧ z = .tuple zs ∧ DqA K w.D vs zs) : ∃ w', Le wi w' ∧ RepS K w' st σ H' ∧ RepV K w' x (.d z) := by
  rcases h with ⟨rfl, d⟩ | ⟨T, vs, zs, rfl, hT, rfl, rfl, d⟩
  · exact ⟨wi, Le.refl wi, R, dq_up l.D _ _ d⟩
  · obtain ⟨R', l'⟩ := R.h.fix hT (.tup vs)
    exact ⟨_, l', ⟨R', R.l.up l'⟩, .tup (SqT.of upd_same) (dqa_up (l.trans l').D _ _ d)⟩
def s2For (ti : TI2) (g : TG2) (tb : TS2) : TS2 := fun ex D st => ti ex st fun items st1 => ∃ I : Nat → S → Prop, I 0 st1 ∧
  (∀ i x st', items[i]? = some x → I i st' → g ex (.d x) st' fun st2 => tb ex { nx := I (i + 1), rt := D.rt, bk := D.nx, ct := I (i + 1) } st2) ∧ ∀ st', I items.length st' → D.nx st'
theorem p2s_for {tg iter : Expr} {ti : TI2} {g : TG2} (hi : PI2 X W tg iter ti) (hg : PG2 X W tg g) (hb : PSs2 X W body t) (hp : PassesOwn (model X.prog X.w) X.A X.env X.xe) (hc : X.calm = true := by rfl)
    (hs : ∀ x, foldedSetIterable iter X.env x = pure x := by intro _; rfl) : PS2 X W (.For tg iter body [] pos) (s2For ti g t) := by
  refine ⟨psImp (ps_for hp hc hi.pi hg.pg hb.ps hs) fun D σ H q => ?_⟩
  obtain ⟨w, st, ex, D2, R, l, le, q⟩ := q
  refine ⟨w, st, ex, R, l, hi.mono ex st _ _ (fun items st1 q1 w1 H1 J l1 R1 y => ?_) q⟩
  obtain ⟨I, i0, turn, done⟩ := q1
  obtain ⟨G, Y, wk, hG, hY⟩ := y
  refine for_it wk (fun i σ' H' => ∃ wi sti, Le w1 wi ∧ RepS X.K wi sti σ' H' ∧ I i sti) ⟨w1, st1, Le.refl w1, R1, i0⟩ (fun i σ' H' _ ⟨wi, sti, li, Ri, _⟩ => hG H' (Ext.trans li.D Ri.h.ed)) (fun i x σ' H' H'' hi' ⟨wi, sti, li, Ri, ii⟩ yy => ?_) (fun σ' H' ⟨wi, sti, li, Ri, ii⟩ => le.nx wi sti σ' H' (l1.trans li) Ri (done sti ii))
  obtain ⟨z, hz, hx⟩ := hY i H' x H'' yy
  obtain ⟨w2, l2, R2, rv2⟩ := yld_in li Ri hx
  refine ⟨w2, sti, ex, .d z, R2, l.up ((l1.trans li).trans l2), rv2, hg.mono ex _ sti _ _ (fun st2 q2 w3 σ3 H3 l3 R3 => ?_) (turn i z sti hz ii)⟩
  refine lowS_of R3 (l.up (((l1.trans li).trans l2).trans l3)) ⟨fun w4 st4 σ4 H4 l4 R4 q4 => ?_, fun w4 m4 H4 v x l4 R4 r4 c4 q4 => ?_, fun w4 st4 σ4 H4 l4 R4 q4 => ?_, fun w4 st4 σ4 H4 l4 R4 q4 => ?_⟩ q2
  · exact ⟨w4, st4, ((li.trans l2).trans l3).trans l4, R4, q4⟩
  · exact le.rt w4 m4 H4 v x ((((l1.trans li).trans l2).trans l3).R.trans l4) R4 r4 c4 q4
  · exact le.nx w4 st4 σ4 H4 ((((l1.trans li).trans l2).trans l3).trans l4) R4 q4
  · exact ⟨w4, st4, ((li.trans l2).trans l3).trans l4, R4, q4⟩
def s2While (tc : TT2) (tb : TS2) : TS2 := fun ex D st => ∃ I : Nat → S → Prop, (∃ m, I m st) ∧ ∀ m st', I m st' → tc ex st' fun b st1 => if b = true then tb ex { nx := fun s => ∃ m', m' < m ∧ I m' s, rt := D.rt, bk := D.nx, ct := fun s => ∃ m', m' < m ∧ I m' s } st1 else D.nx st1
theorem p2s_while (hc : PT2 X W c tc) (hb : PSs2 X W body t) (hp : PassesOwn (model X.prog X.w) X.A X.env X.xe) : PS2 X W (.While c body [] pos) (s2While tc t) := by
  refine ⟨psImp (ps_while hp hc.pt hb.ps) fun D σ H q => ?_⟩
  obtain ⟨w, st, ex, D2, R, l, le, I, ⟨m0, i0⟩, turn⟩ := q
  refine ⟨fun m σ' H' => ∃ wi sti, Le w wi ∧ RepS X.K wi sti σ' H' ∧ I m sti, ⟨m0, w, st, Le.refl w, R, i0⟩, fun m σ' H' ⟨wi, sti, li, Ri, ii⟩ => ?_⟩
  refine lowT_of hc.mono Ri (l.up li) (turn m sti ii) fun b st1 w1 H1 q1 l1 R1 k1 => ?_
  cases b with
  | true =>
    rw [if_pos rfl] at q1 ⊢
    refine ⟨fun σ2 H2 => ∃ m', m' < m ∧ ∃ wi sti, Le w wi ∧ RepS X.K wi sti σ2 H2 ∧ I m' sti, fun _ _ n => n, ?_⟩
    refine lowS_of R1 k1 ⟨fun w4 st4 σ4 H4 l4 R4 q4 => ?_, fun w4 m4 H4 v x l4 R4 r4 c4 q4 => ?_, fun w4 st4 σ4 H4 l4 R4 q4 => ?_, fun w4 st4 σ4 H4 l4 R4 q4 => ?_⟩ q1
    · obtain ⟨m', hm, i'⟩ := q4
      exact ⟨m', hm, w4, st4, (li.trans l1).trans l4, R4, i'⟩
    · exact le.rt w4 m4 H4 v x ((li.trans l1).R.trans l4) R4 r4 c4 q4
    · exact le.nx w4 st4 σ4 H4 ((li.trans l1).trans l4) R4 q4
    · obtain ⟨m', hm, i'⟩ := q4
      exact ⟨m', hm, w4, st4, (li.trans l1).trans l4, R4, i'⟩
  | false =>
    rw [if_neg Bool.false_ne_true] at q1 ⊢
    exact le.nx w1 st1 _ H1 (li.trans l1) R1 q1
end
end G

end
section
set_option maxHeartbeats 2000000
/-! GE: calls of the program's own defs, comprehensions, defs by their readings. -/
namespace G
open PySem L2
/-! ### what a def is worth -/
abbrev EXF := String → Option PyData → Prop
abbrev Sp2 := EXF → List DV → (DV → Prop) → Prop
def MonoSp (sp : Sp2) : Prop := ∀ ex ds Q Q', (∀ z, Q z → Q' z) → sp ex ds Q → sp ex ds Q'
structure LinkX (K : PySem.W.Frag) (w : Wd) (E : XK) (exf : EXF) : Prop where
  at_ : ∀ w' m' H' d v n C x, IsCls K n C → LeR w w' → RepH K w' m' H' → H' d = some (.xd [("at", v)]) → Dq K w'.D v x → exf n (some x) → E (.ref C) (some d) H'
  no : ∀ w' m' H' n C, IsCls K n C → LeR w w' → RepH K w' m' H' → exf n none → E (.ref C) none H'
def lowSp (K : PySem.W.Frag) (sp : Sp2) : Sp := fun vs H Q E => ∃ w ds exf Q2, RepH K w [] H ∧ RepA K w vs ds ∧ (∀ x ∈ ds, Closed x) ∧ sp exf ds Q2 ∧
  (∀ w' m' H' v x, LeR w w' → RepH K w' m' H' → RepV K w' v x → Closed x → Q2 x → Q v H') ∧ LinkX K w E exf
mutual
/-- no list within -/
def lfree : PyData → Bool
  | .tuple xs => lfreeA xs
  | .list _ => false
  | .dict _ => false
  | _ => true
def lfreeA : List PyData → Bool
  | [] => true
  | x :: xs => lfree x && lfreeA xs
end
def lfreeV : DV → Bool
  | .d x => lfree x
  | .o _ => false
  | .scr _ => false
  | _ => true
theorem lfreeA_ints : ∀ ns : List Int, lfreeA (ns.map PyData.int) = true
  | [] => rfl
  | n :: ns => by simp [lfreeA, lfree, lfreeA_ints ns]
mutual
theorem dq_lf {K : PySem.W.Frag} {D D' : Hp} (h : ∀ a o, D a = some o → (∀ vs, o ≠ .lst vs) → D' a = some o) : ∀ (x : PyData) (v : V), lfree x = true → Dq K D v x → Dq K D' v x
  | .none, _, _, q => by cases q; exact .non
  | .bool b, _, _, q => by cases q; exact .bl b
  | .int i, _, _, q => by cases q; exact .int i
  | .str s, _, _, q => by cases q; exact .str s
  | .list ds, _, l, q => by cases l
  | .dict ds, _, l, q => by cases l
  | .tuple ds, _, l, q => by
    cases q with
    | tup s a =>
      refine .tup ?_ (dqa_lf h ds _ l a)
      rcases s with (s | ⟨o, s⟩) | s
      · exact .inl (.inl (h _ _ s fun vs z => by cases z))
      · exact .inl (.inr ⟨o, h _ _ s fun vs z => by cases z⟩)
      · exact .inr s
theorem dqa_lf {K : PySem.W.Frag} {D D' : Hp} (h : ∀ a o, D a = some o → (∀ vs, o ≠ .lst vs) → D' a = some o) : ∀ (xs : List PyData) (vs : List V), lfreeA xs = true → DqA K D vs xs → DqA K D' vs xs
  | [], _, _, q => by cases q; exact .nil
  | x :: xs, _, l, q => by
    cases q with
    | cons a b =>
      simp only [lfreeA, Bool.and_eq_true] at l
      exact .cons (dq_lf h x _ l.1 a) (dqa_lf h xs _ l.2 b)
end
/-- what stands beside D and the sources of draws -/
def frameF (H D : Hp) (da : List (Addr × Addr)) : Hp := fun a => match D a with
  | some _ => none
  | none => if ∃ p ∈ da, a = p.1 ∨ a = p.2 then none else match H a with
    | some (.tbl _) => none
    | u => u
theorem frameF_some {H D : Hp} {da : List (Addr × Addr)} {a : Addr} {o : HO} (h1 : D a = none) (h2 : ∀ x y, (x, y) ∈ da → a ≠ x ∧ a ≠ y) (h : H a = some o) (ho : ∀ ps, o ≠ .tbl ps) : frameF H D da a = some o := by
  unfold frameF
  rw [h1]
  simp only
  rw [if_neg (fun ⟨p, hp, z⟩ => z.elim (h2 p.1 p.2 hp).1 (h2 p.1 p.2 hp).2), h]
  cases o <;> first | rfl | exact absurd rfl (ho _)
theorem frameF_of {H D : Hp} {da : List (Addr × Addr)} {a : Addr} {o : HO} (h : frameF H D da a = some o) : D a = none ∧ H a = some o ∧ ∀ x y, (x, y) ∈ da → a ≠ x ∧ a ≠ y := by
  unfold frameF at h
  cases e : D a with
  | some u => rw [e] at h; cases h
  | none =>
    rw [e] at h
    simp only at h
    by_cases z : ∃ p ∈ da, a = p.1 ∨ a = p.2
    · rw [if_pos z] at h; cases h
    · rw [if_neg z] at h
      have h' : H a = some o := by
        split at h
        · cases h
        · exact h
      exact ⟨rfl, h', fun x y q => ⟨fun t => z ⟨(x, y), q, .inl t⟩, fun t => z ⟨(x, y), q, .inr t⟩⟩⟩
theorem frameF_nt {H D : Hp} {da : List (Addr × Addr)} : ∀ a ps, frameF H D da a ≠ some (.tbl ps) := fun a ps e => by
  have h := (frameF_of e).2.1
  have h0 := (frameF_of e).1
  unfold frameF at e
  rw [h0] at e
  simp only at e
  split at e
  · cases e
  · rw [h] at e; cases e
section
variable {K : PySem.W.Frag} {w : Wd} {m : List Own} {H : Hp}
/-- the callee's world -/
def callee (w : Wd) (H : Hp) : Wd := ⟨w.D, frameF H w.D w.da, [], w.da⟩
theorem callee_ok (R : RepH K w m H) : RepH K (callee w H) [] H := by
  refine ⟨R.ed, fun a o e => (frameF_of e).2.1, fun a o e => (frameF_of e).1, rfl, fun k a ow h1 h2 => by simp at h2, List.nodup_nil, fun a b e => ?_, ⟨R.tb.tab, R.tb.dt, frameF_nt⟩⟩
  obtain ⟨g, x1, x2, x3, x4, x5, x6⟩ := R.deal a b e
  refine ⟨g, x1, x2, ?_, ?_, by simp [callee], by simp [callee]⟩
  · show frameF H w.D w.da a = none
    cases q : frameF H w.D w.da a with
    | none => rfl
    | some o => exact ((frameF_of q).2.2 a b e).1 rfl |>.elim
  · show frameF H w.D w.da b = none
    cases q : frameF H w.D w.da b with
    | none => rfl
    | some o => exact ((frameF_of q).2.2 a b e).2 rfl |>.elim
/-- an owned list stands behind the call -/
theorem own_kept (R : RepH K w m H) {w' : Wd} {m' : List Own} {H' : Hp} (l : LeR (callee w H) w') (R' : RepH K w' m' H') {a : Addr} {o : HO} (ha : a ∈ w.r) (h : H a = some o) : H' a = some o ∧ (w.D a = none → w'.F a = some o ∧ w'.D a = none) := by
  cases e : w.D a with
  | some u =>
    have h1 : w'.D a = some u := l.D a u e
    have h2 := R.ed a u e
    rw [h] at h2; cases h2
    exact ⟨R'.ed a o h1, fun z => by cases z⟩
  | none =>
    have f : (callee w H).F a = some o := frameF_some e (fun x y q => by
      obtain ⟨_, _, _, _, _, x5, x6⟩ := R.deal x y q
      exact ⟨fun z => x5 (z ▸ ha), fun z => x6 (z ▸ ha)⟩) h (by
        obtain ⟨k, hk⟩ := List.getElem?_of_mem ha
        have hl : k < m.length := by rw [← R.len]; exact (List.getElem?_eq_some_iff.mp hk).1
        obtain ⟨vs, e1, _⟩ := R.own k a m[k] hk (List.getElem?_eq_getElem hl)
        rw [h] at e1; cases e1
        intro ps e; cases e)
    have f' := l.F a o f
    exact ⟨R'.ef a o f', fun _ => ⟨f', R'.df a o f'⟩⟩
theorem frame_kept (R : RepH K w m H) {w' : Wd} (l : LeR (callee w H) w') {a : Addr} {o : HO} (h : w.F a = some o) : w'.F a = some o := by
  refine l.F a o (frameF_some (R.df a o h) (fun x y q => ?_) (R.ef a o h) (fun ps e => R.tb.ft a ps (by rw [h, e])))
  obtain ⟨_, _, _, x3, x4, _⟩ := R.deal x y q
  exact ⟨fun z => (by rw [z, x3] at h; cases h), fun z => (by rw [z, x4] at h; cases h)⟩
/-- the source of draws behind the call -/
theorem deal_after (R : RepH K w m H) {w' : Wd} {m' : List Own} {H' : Hp} (l : LeR (callee w H) w') (R' : RepH K w' m' H') {a b : Addr} (e : (a, b) ∈ w'.da) : w.F a = none ∧ w.F b = none ∧ a ∉ w.r ∧ b ∉ w.r := by
  obtain ⟨g, x1, x2, x3, x4, x5, x6⟩ := R'.deal a b e
  have nF : ∀ c, w'.F c = none → w.F c = none := fun c hc => by
    cases q : w.F c with
    | none => rfl
    | some o => rw [frame_kept R l q] at hc; cases hc
  have nr : ∀ c, w'.F c = none → w'.D c = none → c ∉ w.r := fun c hc hd hm => by
    obtain ⟨k, hk⟩ := List.getElem?_of_mem hm
    have hl : k < m.length := by rw [← R.len]; exact (List.getElem?_eq_some_iff.mp hk).1
    obtain ⟨vs, e1, _⟩ := R.own k c m[k] hk (List.getElem?_eq_getElem hl)
    cases q : w.D c with
    | some u =>
      have := l.D c u q
      rw [hd] at this; cases this
    | none =>
      have := ((own_kept R l R' hm e1).2 q).1
      rw [hc] at this; cases this
  exact ⟨nF a x3, nF b x4, nr a x3 x1, nr b x4 x2⟩
/-- behind a call, the arguments frozen -/
theorem after_all (R : RepH K w m H) {w' : Wd} {m' : List Own} {H' : Hp} (l : LeR (callee w H) w') (R' : RepH K w' m' H') : RepH K ⟨w'.D, w.F, w.r, w'.da⟩ m H' ∧ Le w ⟨w'.D, w.F, w.r, w'.da⟩ := by
  refine ⟨⟨R'.ed, fun a o e => R'.ef a o (frame_kept R l e), fun a o e => R'.df a o (frame_kept R l e), R.len, fun k a ow h1 h2 => ?_, R.nd, fun a b e => ?_, ⟨R'.tb.tab, R'.tb.dt, R.tb.ft⟩⟩, ⟨l.D, Ext.refl _, fun _ _ h => h, l.da⟩⟩
  · obtain ⟨vs, e1, e2, e3, e4, e5⟩ := R.own k a ow h1 h2
    obtain ⟨k1, k2⟩ := own_kept R l R' (List.mem_of_getElem? h1) e1
    exact ⟨vs, k1, dqa_up l.D _ _ e2, e3, fun z => (k2 (e4 z)).2, fun z => l.D _ _ (e5 z)⟩
  · obtain ⟨g, x1, x2, _⟩ := R'.deal a b e
    obtain ⟨y1, y2, y3, y4⟩ := deal_after R l R' e
    exact ⟨g, x1, x2, y1, y2, y3, y4⟩
open Classical in
/-- D without the owned lists that may change -/
noncomputable def lessD (w : Wd) (m : List Own) (D' : Hp) : Hp := fun a => if ∃ (k : Nat) (ow : Own), w.r[k]? = some a ∧ m[k]? = some ow ∧ ow.live = true then none else D' a
theorem lessD_of {m : List Own} {D' : Hp} {a : Addr} {o : HO} (h : lessD w m D' a = some o) : D' a = some o := by
  unfold lessD at h
  split at h
  · cases h
  · exact h
theorem lessD_some {m : List Own} {D' : Hp} {a : Addr} {o : HO} (h : D' a = some o) (n : ¬ ∃ (k : Nat) (ow : Own), w.r[k]? = some a ∧ m[k]? = some ow ∧ ow.live = true) : lessD w m D' a = some o := by
  unfold lessD
  rw [if_neg n]; exact h
theorem lessD_none {m : List Own} {D' : Hp} {a : Addr} (h : D' a = none) : lessD w m D' a = none := by
  unfold lessD
  split
  · rfl
  · exact h
/-- behind a call whose answer has no list within: the arguments as they were (w, m ahead of the freezing; w2, m2 behind it) -/
theorem after_less (R : RepH K w m H) {w2 : Wd} {m2 : List Own} (le : Le w w2) (R2 : RepH K w2 m2 H) {w' : Wd} {m' : List Own} {H' : Hp} (l : LeR (callee w2 H) w') (R' : RepH K w' m' H') :
    RepH K ⟨lessD w m w'.D, w.F, w.r, w'.da⟩ m H' ∧ Le w ⟨lessD w m w'.D, w.F, w.r, w'.da⟩ := by
  have ex : Ext w.D (lessD w m w'.D) := fun a o e => lessD_some (l.D a o (le.D a o e)) (fun ⟨k, ow, h1, h2, h3⟩ => by
    obtain ⟨vs, _, _, _, e4, _⟩ := R.own k a ow h1 h2
    rw [e4 h3] at e; cases e)
  have mem2 : ∀ {k : Nat} {a : Addr}, w.r[k]? = some a → a ∈ w2.r := fun h => List.mem_of_getElem? (le.r _ _ h)
  refine ⟨⟨fun a o e => R'.ed a o (lessD_of e), fun a o e => R'.ef a o (frame_kept R2 l (le.F a o e)), fun a o e => lessD_none (R'.df a o (frame_kept R2 l (le.F a o e))), R.len, fun k a ow h1 h2 => ?_, R.nd, fun a b e => ?_, ⟨R'.tb.tab, fun a ps e => R'.tb.dt a ps (lessD_of e), R.tb.ft⟩⟩, ⟨ex, Ext.refl _, fun _ _ h => h, fun p h => l.da p (le.da p h)⟩⟩
  · obtain ⟨vs, e1, e2, e3, e4, e5⟩ := R.own k a ow h1 h2
    obtain ⟨k1, k2⟩ := own_kept R2 l R' (mem2 h1) e1
    refine ⟨vs, k1, dqa_up ex _ _ e2, e3, fun z => ?_, fun z => ex _ _ (e5 z)⟩
    show lessD w m w'.D a = none
    unfold lessD
    rw [if_pos ⟨k, ow, h1, h2, z⟩]
  · obtain ⟨g, x1, x2, _⟩ := R'.deal a b e
    obtain ⟨y1, y2, y3, y4⟩ := deal_after R2 l R' e
    have nF : ∀ c, w2.F c = none → w.F c = none := fun c hc => by
      cases q : w.F c with
      | none => rfl
      | some o => rw [le.F c o q] at hc; cases hc
    have nr : ∀ c, c ∉ w2.r → c ∉ w.r := fun c hc hm => by
      obtain ⟨k, hk⟩ := List.getElem?_of_mem hm
      exact hc (mem2 hk)
    exact ⟨g, lessD_none x1, lessD_none x2, nF a y1, nF b y2, nr a y3, nr b y4⟩
theorem repV_less (R : RepH K w m H) {w2 : Wd} {m2 : List Own} (le : Le w w2) (R2 : RepH K w2 m2 H) {w' : Wd} {m' : List Own} {H' : Hp} (l : LeR (callee w2 H) w') (R' : RepH K w' m' H') {v : V} {z : DV} (lf : lfreeV z = true) (h : RepV K w' v z) : RepV K ⟨lessD w m w'.D, w.F, w.r, w'.da⟩ v z := by
  cases z with
  | d x =>
    refine dq_lf (fun a o e n => lessD_some e fun ⟨k, ow, h1, h2, h3⟩ => ?_) x v lf h
    obtain ⟨vs, e1, _⟩ := R.own k a ow h1 h2
    have q := (own_kept R2 l R' (List.mem_of_getElem? (le.r _ _ h1)) e1).1
    have q2 := R'.ed a o e
    rw [q] at q2
    exact n vs (Option.some.inj q2).symm
  | o k => cases lf
  | deal => exact h
  | scr ns => cases lf
  | raw u => exact h
end
/-! ### a call -/
def t2Call (sp : Sp2) (tl : TA2) : TE2 := fun ex st Q => tl ex st fun xs st1 => asCs xs st1 fun ys st2 => sp (fun C x => ex C x st2) ys fun z => Q z (if lfreeV z = true then st1 else st2)
theorem mono_call {sp : Sp2} {tl : TA2} (hs : MonoSp sp) (hl : MonoA tl) : MonoE (t2Call sp tl) := fun ex st Q Q' h q => hl ex st _ _ (fun xs st1 q1 => asCs_mono (fun ys st2 q2 => hs _ _ _ _ (fun z q3 => h _ _ q3) q2) q1) q
theorem call_core {K : PySem.W.Frag} {W : WX} {sp : Sp2} {w w1 : Wd} {st1 : S} {σ : St} {H : Hp} {ex : EX} {vs : List V} {xs : List DV} {Q : VK} (l1 : Le w w1) (R1 : RepS K w1 st1 σ H) (k1 : Link K w1 W ex) (rv : RepA K w1 vs xs)
    (q : asCs xs st1 fun ys st2 => sp (fun C x => ex C x st2) ys fun z => Fin K w σ Q z (if lfreeV z = true then st1 else st2)) : lowSp K sp vs H Q (WE W σ) := by
  obtain ⟨w2, st2, ys, l2, R2, rv2, c2, q2, es⟩ := asCs_ok R1 rv q
  have rvc : RepA K (callee w2 H) vs ys := by
    clear q2 rv
    induction rv2 with
    | nil => exact .nil
    | @cons a b as bs r t ih =>
      refine .cons ?_ (ih fun y hy => c2 y (List.mem_cons_of_mem _ hy))
      cases b with
      | o k => exact (c2 _ List.mem_cons_self k rfl).elim
      | d x => exact r
      | deal => exact r
      | scr ns => exact r
      | raw u => exact r
  refine ⟨callee w2 H, ys, _, _, callee_ok R2.h, rvc, c2, q2, fun w' m' H' v z l R' rz cz qz => ?_, ⟨fun w' m' H' d v n C x hn l R' hd dx hx => ?_, fun w' m' H' n C hn l R' hx => ?_⟩⟩
  · by_cases lf : lfreeV z = true
    · rw [if_pos lf] at qz
      obtain ⟨Rn, ln⟩ := after_less R1.h l2 R2.h l R'
      exact qz _ H' v (l1.trans ln) ⟨Rn, R1.l.up ln⟩ (repV_less R1.h l2 R2.h l R' lf rz)
    · rw [if_neg lf] at qz
      obtain ⟨Rn, ln⟩ := after_all R2.h l R'
      refine qz _ H' v ((l1.trans l2).trans ln) ⟨Rn, R2.l.up ln⟩ ?_
      cases z with
      | o k => exact (cz k rfl).elim
      | d x => exact rz
      | deal => exact rz
      | scr ns => exact rz
      | raw u => exact rz
  · obtain ⟨Rn, ln⟩ := after_all R2.h l R'
    exact (k1.up l2).at_ _ st2 σ H' d v n C x hn ln ⟨Rn, R2.l.up ln⟩ hd dx hx
  · obtain ⟨Rn, ln⟩ := after_all R2.h l R'
    exact (k1.up l2).no _ st2 σ H' n C hn ln ⟨Rn, R2.l.up ln⟩ hx
section
variable {X : Cx} {W : WX} {e : Expr} {es : List Expr} {tl : TA2} {pos p : Pos} {x : Str} {f : Addr} {k : Nat} {sp : Sp2}
/-- a def that keeps this promise, by positional arguments -/
abbrev FnG (P : Program) (w : World) (K : PySem.W.Frag) (mg : Str → Option Value) (base : Heap) (k : Nat) (f : Addr) (sp : Sp2) : Prop := FnR P w K mg base (L2.CX P w) k f (lowSp K sp)
theorem run_fnG {pins : List (Addr × Obj)} {σ : St} {H : Hp} {s : Shared} {Q : VK} {us : List Value} {vs : List V} (F : FnG X.prog X.w X.K X.mg X.base k f sp) (hr : Room k X.A) (tk : Takes X W)
    (I : Inv X pins σ H s) (r : Vals vs us) (h : lowSp X.K sp vs H Q (WE W σ)) : wpAny (model X.prog X.w) X.A (call (.ref f) us) (EP X pins σ Q) X.xe s := by
  refine wpAny_call (codeAny_mono (F X.A X.stack s H us vs Q (WE W σ) hr I.env0 r h) fun r s' hq => ?_)
  cases r with
  | error e => exact passAt tk σ pins H s e s' I hq
  | ok fl =>
    cases fl with
    | ret u => exact I.after hq
    | next => exact False.elim hq
    | brk => exact False.elim hq
    | cont => exact False.elim hq
theorem p2call (F : FnG X.prog X.w X.K X.mg X.base k f sp) (hs : MonoSp sp) (hr : Room k X.A) (tk : Takes X W) (hm : X.mg x = some (.ref f)) (hk : PySem.W.keepIn X.K (.ref f) = true) (ha : PA2 X W (e :: es) tl) (hg : Gl X x := by rfl)
    (hdb : (x == ("__debug__" : Str)) = false := by decide) (he : starEach (e :: es) X.env = (false, eval e X.env) :: starEach es X.env := by rfl) (hpl : (backTo pos (starEach es X.env)).any (·.1) = false := by rfl) :
    PE2 X W (.Call (.Name x p) (e :: es) [] pos) (t2Call sp tl) := by
  have hp : PE X (.Call (.Name x p) (e :: es) [] pos) (tCallS (lowSp X.K sp) (WE W) (lowA X.K W tl)) := by
    refine ⟨fun pins s σ H Q I h => ?_⟩
    refine wpAny_Call_Name_kw (ld_glob I hg hm ?_ hdb)
    refine PySem.W.callWith_K (h₀ := X.base) I.ok.mod.kin hk (thn (ha.pa.run pos pins s σ H _ I h) fun us s1 ⟨vs, H1, I1, r, q⟩ => ⟨I1.kIn, ?_⟩) he hpl
    exact run_fnG F hr tk I1 r q
  refine ⟨peImp hp fun σ H Q q => ?_, mono_call hs ha.mono⟩
  obtain ⟨w, st, ex, R, l, q⟩ := q
  refine lowA_of ha.mono R l q fun xs st1 w1 H1 vs q1 l1 R1 k1 rv1 => ?_
  exact call_core l1 R1 k1 rv1 q1
end

/-! ### comprehensions -/
def ex0 : EX := fun _ _ _ => False
theorem link0 {K : PySem.W.Frag} {w : Wd} {W : WX} : Link K w W ex0 := ⟨fun _ _ _ _ _ _ _ _ _ _ _ _ _ _ z => z.elim, fun _ _ _ _ _ _ _ _ _ z => z.elim⟩
abbrev W0 : WX := fun _ _ _ _ => False
/-- a fresh object beside the world: into the frame -/
theorem RepH.addF {K : PySem.W.Frag} {w : Wd} {m : List Own} {H : Hp} {p : Addr} (R : RepH K w m H) (h : H p = none) (o : HO) (ho : ∀ ps, o ≠ .tbl ps := by intro ps e; cases e) : RepH K { w with F := upd w.F p o } m (upd H p o) := by
  have hD := R.freeD h
  have hF := R.freeF h
  have hR := R.freeR h
  refine ⟨fun a u e => ?_, fun a u e => ?_, fun a u e => ?_, R.len, fun k a ow h1 h2 => ?_, R.nd, fun a b e => ?_, ⟨tabs_new R.tb.tab h, R.tb.dt, nt_upd ho R.tb.ft⟩⟩
  · have ha : a ≠ p := fun z => by
      have e' : w.D a = some u := e
      rw [z, hD] at e'; cases e'
    rw [upd_ne ha]; exact R.ed a u e
  · have e' : upd w.F p o a = some u := e
    by_cases ha : a = p
    · subst ha; rw [upd_same] at e' ⊢; exact e'
    · rw [upd_ne ha] at e' ⊢; exact R.ef a u e'
  · have e' : upd w.F p o a = some u := e
    by_cases ha : a = p
    · subst ha; exact hD
    · rw [upd_ne ha] at e'; exact R.df a u e'
  · have ha : a ≠ p := fun z => hR (z ▸ List.mem_of_getElem? h1)
    obtain ⟨vs, e1, e2, e3, e4⟩ := R.own k a ow h1 h2
    refine ⟨vs, by rw [upd_ne ha]; exact e1, e2, ?_, e4⟩
    show upd w.F p o a = none
    rw [upd_ne ha]; exact e3
  · obtain ⟨⟨ne, n, gs, h1, h2, h3⟩, x1, x2, x3, x4, x5⟩ := R.deal a b e
    obtain ⟨n1, n2⟩ := R.freeA h e
    refine ⟨⟨ne, n, gs, by rw [upd_ne n1.symm]; exact h1, by rw [upd_ne n2.symm]; exact h2, h3⟩, x1, x2, ?_, ?_, x5⟩
    · show upd w.F p o a = none
      rw [upd_ne n1.symm]; exact x3
    · show upd w.F p o b = none
      rw [upd_ne n2.symm]; exact x4
/-- a turn of a comprehension: the new list is at p, with the items accV; F as at the start, the owned lists as at the start -/
structure LcAt (K : PySem.W.Frag) (w1 : Wd) (st1 : S) (σ : St) (p : Addr) (acc : List PyData) (H : Hp) (Dd : Hp) (da : List (Addr × Addr)) (accV : List V) : Prop where
  R : RepS K ⟨Dd, upd w1.F p (.lst accV), w1.r, da⟩ st1 σ H
  D : Ext w1.D Dd
  da : ∀ q, q ∈ w1.da → q ∈ da
  acc : DqA K Dd accV acc
theorem lc_next {K : PySem.W.Frag} {w1 : Wd} {st1 : S} {σ σ2 : St} {p : Addr} {acc acc' : List PyData} {accV accV' : List V} {H H4 : Hp} {Dd : Hp} {da : List (Addr × Addr)} {w5 : Wd} {st5 : S} (hF : w1.F p = none) (A : LcAt K w1 st1 σ p acc H Dd da accV)
    (l : Le ⟨Dd, upd w1.F p (.lst accV), w1.r, da⟩ w5) (R5 : RepS K w5 st5 σ2 H4) (ht : st5.m.take st1.m.length = st1.m) (d : DqA K w5.D accV' acc') : LcAt K w1 st1 σ p acc' (upd H4 p (.lst accV')) w5.D w5.da accV' := by
  have fp : w5.F p = some (.lst accV) := l.F p _ (by show upd w1.F p (.lst accV) p = _; exact upd_same)
  have dp : w5.D p = none := R5.h.df p _ fp
  have lr : ∀ k a, w1.r[k]? = some a → w5.r[k]? = some a := fun k a h => l.r k a h
  have f1 : ∀ a o, w1.F a = some o → w5.F a = some o := fun a o h => l.F a o (by
    have ha : a ≠ p := fun z => by rw [z, hF] at h; cases h
    show upd w1.F p (.lst accV) a = some o
    rw [upd_ne ha]; exact h)
  have e : Ext w1.D w5.D := A.D.trans l.D
  have eda : ∀ q, q ∈ w1.da → q ∈ w5.da := fun q h => l.da q (A.da q h)
  have nF : ∀ c, w5.F c = none → upd w1.F p (.lst accV') c = none := fun c hc => by
    have hcp : c ≠ p := fun z => by rw [z, fp] at hc; cases hc
    rw [upd_ne hcp]
    cases q : w1.F c with
    | none => rfl
    | some o => rw [f1 c o q] at hc; cases hc
  refine ⟨⟨⟨fun a o h => ?_, fun a o h => ?_, fun a o h => ?_, A.R.h.len, fun k a ow h1 h2 => ?_, A.R.h.nd, fun a b h => ?_, ⟨tabs_put R5.h.tb.tab (R5.h.ef p _ fp), R5.h.tb.dt, nt_upd (by intro ps e; cases e) (fun a ps e => A.R.h.tb.ft a ps (by
    show upd w1.F p (.lst accV) a = _
    rw [upd_ne (fun z => by rw [z, hF] at e; cases e)]; exact e))⟩⟩, ?_⟩, e, eda, d⟩
  · have ha : a ≠ p := fun z => by
      have h' : w5.D a = some o := h
      rw [z, dp] at h'; cases h'
    rw [upd_ne ha]; exact R5.h.ed a o h
  · have h' : upd w1.F p (.lst accV') a = some o := h
    by_cases ha : a = p
    · subst ha; rw [upd_same] at h' ⊢; exact h'
    · rw [upd_ne ha] at h' ⊢
      exact R5.h.ef a o (f1 a o h')
  · have h' : upd w1.F p (.lst accV') a = some o := h
    by_cases ha : a = p
    · subst ha; exact dp
    · rw [upd_ne ha] at h'
      exact R5.h.df a o (f1 a o h')
  · have hk : k < st1.m.length := (List.getElem?_eq_some_iff.mp h2).1
    have h2' : st5.m[k]? = some ow := by
      rw [← ht, List.getElem?_take_of_lt hk] at h2
      exact h2
    obtain ⟨vs, e1, e2, e3, e4, e5⟩ := R5.h.own k a ow (lr k a h1) h2'
    have ha : a ≠ p := fun z => by rw [z, fp] at e3; cases e3
    exact ⟨vs, by rw [upd_ne ha]; exact e1, e2, nF a e3, e4, e5⟩
  · obtain ⟨⟨ne, n, gs, h1, h2, h3⟩, x1, x2, x3, x4, x5, x6⟩ := R5.h.deal a b h
    have na : a ≠ p := fun z => by rw [z, fp] at x3; cases x3
    have nb : b ≠ p := fun z => by rw [z, fp] at x4; cases x4
    have nr : ∀ c, c ∉ w5.r → c ∉ w1.r := fun c hc hm => by
      obtain ⟨k, hk⟩ := List.getElem?_of_mem hm
      exact hc (List.mem_of_getElem? (lr k c hk))
    exact ⟨⟨ne, n, gs, by rw [upd_ne na]; exact h1, by rw [upd_ne nb]; exact h2, h3⟩, x1, x2, nF a x3, nF b x4, nr a x5, nr b x6⟩
  · exact Paired.mapP A.R.l fun v x r => by
      cases v <;> cases x <;> try exact r
      rename_i v x
      cases x with
      | d x => exact dq_up l.D x v r
      | o k => exact r
      | deal => obtain ⟨a, b, h1, h2⟩ := r; exact ⟨a, b, l.da _ h1, h2⟩
      | scr ns => obtain ⟨a, h1, h2⟩ := r; exact ⟨a, h1, ext_l l.D h2⟩
      | raw u => exact r
theorem lc_start {K : PySem.W.Frag} {w1 : Wd} {st1 : S} {σ : St} {p : Addr} {H : Hp} (R : RepS K w1 st1 σ H) (hp : H p = none) : LcAt K w1 st1 σ p [] (upd H p (.lst [])) w1.D w1.da [] := by
  have R' := R.h.addF hp (.lst [])
  have l : Le w1 { w1 with F := upd w1.F p (.lst []) } := ⟨Ext.refl _, Ext.new (R.h.freeF hp), fun _ _ h => h, fun _ h => h⟩
  exact ⟨⟨R', R.l.up l⟩, Ext.refl _, fun _ h => h, .nil⟩
theorem lc_end {K : PySem.W.Frag} {w w1 : Wd} {st1 : S} {σ : St} {p : Addr} {acc : List PyData} {accV : List V} {H Dd : Hp} {da : List (Addr × Addr)} {Q : VK} (hF : w1.F p = none) (l1 : Le w w1) (A : LcAt K w1 st1 σ p acc H Dd da accV) (q : Fin K w σ Q (.o st1.m.length) (st1.new acc)) : Q (.ref p) H := by
  have hp : H p = some (.lst accV) := A.R.h.ef p _ (by show upd w1.F p (.lst accV) p = _; exact upd_same)
  have dp : Dd p = none := A.R.h.df p (.lst accV) (by show upd w1.F p (.lst accV) p = _; exact upd_same)
  have hr : p ∉ w1.r := fun hm => by
    obtain ⟨k, hk⟩ := List.getElem?_of_mem hm
    have hl : k < st1.m.length := by rw [← A.R.h.len]; exact (List.getElem?_eq_some_iff.mp hk).1
    obtain ⟨vs, _, _, e3, _⟩ := A.R.h.own k p st1.m[k] hk (List.getElem?_eq_getElem hl)
    have e3' : upd w1.F p (.lst accV) p = none := e3
    rw [upd_same] at e3'; cases e3'
  have hl : w1.r.length = st1.m.length := A.R.h.len
  have up : ∀ c, upd w1.F p (.lst accV) c = none → c ≠ p ∧ w1.F c = none := fun c hc => by
    have hcp : c ≠ p := fun z => by rw [z, upd_same] at hc; cases hc
    rw [upd_ne hcp] at hc
    exact ⟨hcp, hc⟩
  have R2 : RepH K ⟨Dd, w1.F, w1.r ++ [p], da⟩ (st1.m ++ [⟨acc, true⟩]) H := by
    refine ⟨A.R.h.ed, fun a o h => A.R.h.ef a o ?_, fun a o h => A.R.h.df a o ?_, by simp [hl], fun k a ow h1 h2 => ?_, ?_, fun a b h => ?_, ⟨A.R.h.tb.tab, A.R.h.tb.dt, fun a ps e => A.R.h.tb.ft a ps (by
      show upd w1.F p (.lst accV) a = _
      rw [upd_ne (fun z => by rw [z] at e; exact absurd (hF.symm.trans e) (by simp))]; exact e)⟩⟩
    · have ha : a ≠ p := fun z => by
        have h' : w1.F a = some o := h
        rw [z, hF] at h'; cases h'
      show upd w1.F p (.lst accV) a = some o
      rw [upd_ne ha]; exact h
    · have ha : a ≠ p := fun z => by
        have h' : w1.F a = some o := h
        rw [z, hF] at h'; cases h'
      show upd w1.F p (.lst accV) a = some o
      rw [upd_ne ha]; exact h
    · have h1' : (w1.r ++ [p])[k]? = some a := h1
      by_cases hk : k < st1.m.length
      · rw [List.getElem?_append_left (by omega)] at h1' h2
        obtain ⟨vs, e1, e2, e3, e4⟩ := A.R.h.own k a ow h1' h2
        exact ⟨vs, e1, e2, (up a e3).2, e4⟩
      · rw [List.getElem?_append_right (by omega)] at h1' h2
        have hk2 : k - st1.m.length = 0 := by
          cases q : k - st1.m.length with
          | zero => rfl
          | succ j => rw [q] at h2; simp at h2
        rw [hk2] at h2
        rw [hl, hk2] at h1'
        have ea : p = a := by simpa using h1'
        have eo : (⟨acc, true⟩ : Own) = ow := by simpa using h2
        subst ea; subst eo
        exact ⟨accV, hp, A.acc, hF, fun _ => dp, fun z => by cases z⟩
    · exact List.nodup_append.mpr ⟨A.R.h.nd, by simp, fun a ha b hb => by
        have : b = p := by simpa using hb
        subst this
        exact fun z => hr (z ▸ ha)⟩
    · obtain ⟨g, x1, x2, x3, x4, x5, x6⟩ := A.R.h.deal a b h
      obtain ⟨na, fa⟩ := up a x3
      obtain ⟨nb, fb⟩ := up b x4
      refine ⟨g, x1, x2, fa, fb, ?_, ?_⟩
      · simp only [List.mem_append, List.mem_singleton, not_or]
        exact ⟨x5, na⟩
      · simp only [List.mem_append, List.mem_singleton, not_or]
        exact ⟨x6, nb⟩
  have le : Le w1 ⟨Dd, w1.F, w1.r ++ [p], da⟩ := ⟨A.D, Ext.refl _, fun k a h => by
    show (w1.r ++ [p])[k]? = some a
    rw [List.getElem?_append_left (List.getElem?_eq_some_iff.mp h).1]; exact h, A.da⟩
  refine q ⟨Dd, w1.F, w1.r ++ [p], da⟩ H (.ref p) (l1.trans le) ⟨R2, ?_⟩ ⟨p, ?_, rfl⟩
  · exact Paired.mapP A.R.l fun v x r => by
      cases v <;> cases x <;> try exact r
      rename_i v x
      cases x with
      | d x => exact r
      | o k =>
        obtain ⟨a, h1, h2⟩ := r
        refine ⟨a, ?_, h2⟩
        show (w1.r ++ [p])[k]? = some a
        rw [List.getElem?_append_left (List.getElem?_eq_some_iff.mp h1).1]; exact h1
      | deal => exact r
      | scr ns => exact r
      | raw u => exact r
  · show (w1.r ++ [p])[st1.m.length]? = some p
    rw [List.getElem?_append_right (by omega), hl]
    simp
structure PTs2 (X : Cx) (W : WX) (ifs : List Expr) (t : TT2) : Prop where
  pt : PTs X ifs (lowT X.K W t)
  mono : MonoT t
def t2Yes : TT2 := fun _ st Q => Q true st
theorem p2ts_nil {X : Cx} {W : WX} : PTs2 X W [] t2Yes := by
  refine ⟨⟨fun pins s σ H Q I q => pts_nil.run pins s σ H Q I ?_⟩, fun ex st Q Q' h q => h _ _ q⟩
  obtain ⟨w, st, ex, R, l, q⟩ := q
  exact q w H (Le.refl w) R
theorem p2ts_one {X : Cx} {W : WX} {c : Expr} {t : TT2} (h : PT2 X W c t) : PTs2 X W [c] t := ⟨pts_one h.pt, h.mono⟩
/-- [te for (slot i) in ti if tt] -/
def lcK (items : List PyData) (st1 : S) (bind : PyData → (S → Prop) → Prop) (tt : TT2) (te : TE2) (Q : KD) : Prop := ∃ I : Nat → List PyData → Prop, I 0 [] ∧
  (∀ k x acc, items[k]? = some x → I k acc → bind x fun st2 => tt ex0 st2 fun b st3 => if b = true then te ex0 st3 fun z st4 => asD z st4 fun y st5 => (st5.m.take st1.m.length = st1.m ∧ acc.length < sizeLine) ∧ I (k + 1) (acc ++ [y]) else st3.m.take st1.m.length = st1.m ∧ I (k + 1) acc) ∧
  ∀ acc, I items.length acc → Q (.o st1.m.length) (st1.new acc)
def bind1 (i : Nat) (st : S) : PyData → (S → Prop) → Prop := fun x R => R ⟨st.s.set i (some (.d x)), st.m⟩
def bind2 (i j : Nat) (st : S) : PyData → (S → Prop) → Prop := fun x R => match x with
  | .tuple [a, b] => R ⟨(st.s.set i (some (.d a))).set j (some (.d b)), st.m⟩
  | _ => False
def bind3 (i j k : Nat) (st : S) : PyData → (S → Prop) → Prop := fun x R => match x with
  | .tuple [a, b, c] => R ⟨((st.s.set i (some (.d a))).set j (some (.d b))).set k (some (.d c)), st.m⟩
  | _ => False
def t2Lc1 (ti : TI2) (i : Nat) (tt : TT2) (te : TE2) : TE2 := fun ex st Q => ti ex st fun items st1 => lcK items st1 (bind1 i st1) tt te Q
def t2Lc2 (ti : TI2) (i j : Nat) (tt : TT2) (te : TE2) : TE2 := fun ex st Q => ti ex st fun items st1 => lcK items st1 (bind2 i j st1) tt te Q
theorem lcK_mono {items : List PyData} {st1 : S} {bind : PyData → (S → Prop) → Prop} {tt : TT2} {te : TE2} {Q Q' : KD} (h : ∀ x s, Q x s → Q' x s) (q : lcK items st1 bind tt te Q) : lcK items st1 bind tt te Q' := by
  obtain ⟨I, i0, turn, done⟩ := q
  exact ⟨I, i0, turn, fun acc ii => h _ _ (done acc ii)⟩
theorem lc_any {K : PySem.W.Frag} {w w1 : Wd} {st1 : S} {σ : St} {H1 : Hp} {J : It} {items : List PyData} {bind : PyData → (S → Prop) → Prop} {tt : TT2} {te : TE2} {Q : VK} {g : TG} {vs : List Nat} (mt : MonoT tt) (me : MonoE te)
    (hg : ∀ (wi : Wd) (x : V) (z : PyData) (H : Hp) (R : S → Prop) (Kn : St → Hp → Prop), RepS K wi st1 σ H → RepV K wi x (.d z) → bind z R → (∀ σ2 st2, RepS K wi st2 σ2 H → R st2 → wipe σ2 vs = wipe σ vs → Kn σ2 H) → g x (wipe σ vs) H Kn)
    (l1 : Le w w1) (R1 : RepS K w1 st1 σ H1) (y : Yld K w1 J items) (q : lcK items st1 bind tt te (Fin K w σ Q)) :
    ∀ D, H1 D = none → ∃ W : Nat → Nat → Hp → Prop, (∃ m, W 0 m (upd H1 D (.lst []))) ∧ ∀ i m H, W i m H →
      (J.stop i H ∧ Q (.ref D) H) ∨ (J.go i H ∧ ∃ Nx : Hp → Prop, (∀ H', Nx H' → ∃ m', m' < m ∧ W (i + 1) m' H') ∧ ∀ x H', J.yld i H x H' → g x (wipe σ vs) H' fun σ2 H2 => wipe σ2 vs = wipe σ vs ∧ lowT K W0 tt σ2 H2 fun b H3 =>
        if b = true then low K W0 te σ2 H3 fun y H4 => ∃ acc, H4 D = some (.lst acc) ∧ acc.length < sizeLine ∧ Nx (upd H4 D (.lst (acc ++ [y]))) else Nx H3) := by
  intro D hD
  obtain ⟨I, i0, turn, done⟩ := q
  obtain ⟨G', Y, wk, hG, hY⟩ := y
  have hF := R1.h.freeF hD
  refine lc_it (Qd := fun H => Q (.ref D) H) wk (fun i H => ∃ Dd da acc accV, LcAt K w1 st1 σ D acc H Dd da accV ∧ I i acc) ⟨_, _, [], [], lc_start R1 hD, i0⟩ (fun i H _ ⟨Dd, da, acc, accV, A, _⟩ => hG H (Ext.trans A.D A.R.h.ed)) (fun i x H H' hi ⟨Dd, da, acc, accV, A, ii⟩ yy => ?_) (fun H ⟨Dd, da, acc, accV, A, ii⟩ => lc_end hF l1 A (done acc ii))
  obtain ⟨z, hz, hx⟩ := hY i H x H' yy
  have l0 : Le w1 ⟨Dd, upd w1.F D (.lst accV), w1.r, da⟩ := ⟨A.D, Ext.new hF, fun _ _ h => h, A.da⟩
  obtain ⟨w2, l2, R2, rv2⟩ := yld_in l0 A.R hx
  refine hg w2 x z H' _ _ R2 rv2 (turn i z acc hz ii) fun σ2 st2 R2' q2 hw => ⟨hw, ?_⟩
  refine lowT_of mt R2' link0 q2 fun b st3 w3 H3 q3 l3 R3 k3 => ?_
  cases b with
  | true =>
    rw [if_pos rfl] at q3 ⊢
    refine low_of me R3 k3 q3 fun z4 st4 w4 H4 v4 q4 l4 R4 k4 rv4 => ?_
    obtain ⟨w5, st5, y5, l5, R5, d5, q5, _⟩ := asD_ok R4 rv4 q4
    have l25 := ((l2.trans l3).trans l4).trans l5
    have hp : H4 D = some (.lst accV) := R5.h.ef D _ (l25.F D _ (by show upd w1.F D (.lst accV) D = _; exact upd_same))
    refine ⟨accV, hp, by rw [dqa_len A.acc]; exact q5.1.2, w5.D, w5.da, acc ++ [y5], accV ++ [v4], ?_, q5.2⟩
    exact lc_next hF A l25 R5 q5.1.1 (dqa_app (dqa_up l25.D _ _ A.acc) (.cons d5 .nil))
  | false =>
    rw [if_neg Bool.false_ne_true] at q3 ⊢
    have l23 := l2.trans l3
    have hp : H3 D = some (.lst accV) := R3.h.ef D _ (l23.F D _ (by show upd w1.F D (.lst accV) D = _; exact upd_same))
    have A' := lc_next hF A l23 R3 q3.1 (dqa_up l23.D _ _ A.acc)
    have e : upd H3 D (.lst accV) = H3 := by
      funext b
      by_cases hb : b = D
      · subst hb; rw [upd_same, hp]
      · rw [upd_ne hb]
    rw [e] at A'
    exact ⟨_, _, acc, accV, A', q3.2⟩
theorem wipe1 (σ : St) (i : Nat) (v : V) : wipe ((wipe σ [i]).set i (some v)) [i] = wipe σ [i] := by
  simp [wipe]
theorem set_none_set (l : List (Option V)) (i j : Nat) (a b : Option V) : ((((l.set j none).set i none).set i a).set j b).set j none = ((l.set j none).set i a).set j none := by
  simp
theorem wipe2 (σ : St) (i j : Nat) (v u : V) : wipe (((wipe σ [i, j]).set i (some v)).set j (some u)) [i, j] = wipe σ [i, j] := by
  simp only [wipe]
  apply List.ext_getElem?
  intro n
  simp only [List.getElem?_set, List.length_set]
  split
  · rfl
  · split
    · rfl
    · rfl
theorem wset1 (σ : St) (i : Nat) (v : V) : (wipe σ [i]).set i (some v) = σ.set i (some v) := by
  simp [wipe]
theorem wset2 (σ : St) (i j : Nat) (v u : V) : ((wipe σ [i, j]).set i (some v)).set j (some u) = (σ.set i (some v)).set j (some u) := by
  simp only [wipe]
  apply List.ext_getElem?
  intro n
  simp only [List.getElem?_set, List.length_set]
  split
  · rfl
  · split
    · rfl
    · rfl
section
variable {X : Cx} {W : WX} {elt tg iter : Expr} {ifs : List Expr} {scope : Scope} {pos : Pos} {ti : TI2} {tt : TT2} {te : TE2}
theorem g1_ok {K : PySem.W.Frag} {st1 : S} {σ : St} {i : Nat} (wi : Wd) (x : V) (z : PyData) (H : Hp) (R : S → Prop) (Kn : St → Hp → Prop) (Rs : RepS K wi st1 σ H) (rv : RepV K wi x (.d z)) (hb : bind1 i st1 z R)
    (hk : ∀ σ2 st2, RepS K wi st2 σ2 H → R st2 → wipe σ2 [i] = wipe σ [i] → Kn σ2 H) : gName i x (wipe σ [i]) H Kn := by
  refine hk _ ⟨st1.s.set i (some (.d z)), st1.m⟩ ⟨Rs.h, ?_⟩ hb (wipe1 σ i x)
  rw [wset1]
  exact RepL.set (v := some x) (x := some (.d z)) rv i Rs.l
theorem g2_ok {K : PySem.W.Frag} {st1 : S} {σ : St} {i j : Nat} (wi : Wd) (x : V) (z : PyData) (H : Hp) (R : S → Prop) (Kn : St → Hp → Prop) (Rs : RepS K wi st1 σ H) (rv : RepV K wi x (.d z)) (hb : bind2 i j st1 z R)
    (hk : ∀ σ2 st2, RepS K wi st2 σ2 H → R st2 → wipe σ2 [i, j] = wipe σ [i, j] → Kn σ2 H) : gTup K 2 (gCons (gName i) (gCons (gName j) gNil)) x (wipe σ [i, j]) H Kn := by
  unfold bind2 at hb
  split at hb
  · rename_i a b
    obtain ⟨p, vs, rfl, h1, _, h2⟩ := rd_tup Rs rv rfl
    cases h2 with
    | cons d1 h2 =>
    cases h2 with
    | cons d2 h2 =>
    cases h2
    refine ⟨p, _, rfl, h1, rfl, _, _, rfl, ?_⟩
    refine ⟨_, _, rfl, rfl, ?_⟩
    refine hk _ ⟨(st1.s.set i (some (.d a))).set j (some (.d b)), st1.m⟩ ⟨Rs.h, ?_⟩ hb (wipe2 σ i j _ _)
    rw [wset2]
    exact RepL.set (v := some _) (x := some (.d b)) d2 j (RepL.set (v := some _) (x := some (.d a)) d1 i Rs.l)
  · exact hb.elim
/-- one name as the target -/
theorem p2lc1 {i : Nat} {y : Str} {py : Pos} (hN : X.N.Nodup) (hi : PI2 X W (.Name y py) iter ti) (ok : blkC X.N X.env.scope scope [(y, i)] = true)
    (ht : ∀ (s : Shared) (H : Hp) (C : Addr) (cl : List (Str × Addr)) (fp : List Addr), PTs2 (X.blk s H scope (compEnvC scope cl C X.env) fp) W0 ifs tt) (he : ∀ (s : Shared) (H : Hp) (C : Addr) (cl : List (Str × Addr)) (fp : List Addr), PE2 (X.blk s H scope (compEnvC scope cl C X.env) fp) W0 elt te)
    (hc : X.calm = true := by rfl) (hg : ∀ (s : Shared) (H : Hp) (C : Addr) (cl : List (Str × Addr)) (fp : List Addr), PG (X.blk s H scope (compEnvC scope cl C X.env) fp) (.Name y py) (gName i) := by first | exact fun _ _ _ _ _ => pg_name (by assumption) rfl (Or.inl rfl) | exact fun _ _ _ _ _ => pg_name (by assumption) rfl (Or.inr rfl) (Or.inl rfl)) (hs : ∀ x, foldedSetIterable iter X.env x = pure x := by intro _; rfl) :
    PE2 X W (.ListComp elt [⟨.Name y py, iter, ifs, 0⟩] scope pos) (t2Lc1 ti i tt te) := by
  refine ⟨peImp (pe_lc (own := [(y, i)]) (g := gName i) (tt := lowT X.K W0 tt) (te := low X.K W0 te) hc hN hi.pi (blkOk_by ok) hg (fun s H C cl fp => (ht s H C cl fp).pt) (fun s H C cl fp => (he s H C cl fp).pe) hs) fun σ H Q q => ?_, fun ex st Q Q' h q => hi.mono ex st _ _ (fun items st1 q1 => lcK_mono h q1) q⟩
  obtain ⟨w, st, ex, R, l, q⟩ := q
  refine ⟨w, st, ex, R, l, hi.mono ex st _ _ (fun items st1 q1 w1 H1 J l1 R1 yy => ?_) q⟩
  exact lc_any (vs := [i]) (ht X.s_0 X.H_0 0 [] []).mono (he X.s_0 X.H_0 0 [] []).mono (fun wi x z H R Kn => g1_ok wi x z H R Kn) l1 R1 yy q1
/-- a pair of names as the target -/
theorem p2lc2 {i j : Nat} {y z : Str} {py pz pt : Pos} {kk : Nat} (hN : X.N.Nodup) (hi : PI2 X W (.Tuple [.Name y py, .Name z pz] kk pt) iter ti) (ok : blkC X.N X.env.scope scope [(y, i), (z, j)] = true)
    (ht : ∀ (s : Shared) (H : Hp) (C : Addr) (cl : List (Str × Addr)) (fp : List Addr), PTs2 (X.blk s H scope (compEnvC scope cl C X.env) fp) W0 ifs tt) (he : ∀ (s : Shared) (H : Hp) (C : Addr) (cl : List (Str × Addr)) (fp : List Addr), PE2 (X.blk s H scope (compEnvC scope cl C X.env) fp) W0 elt te)
    (hc : X.calm = true := by rfl) (hg : ∀ (s : Shared) (H : Hp) (C : Addr) (cl : List (Str × Addr)) (fp : List Addr), PG (X.blk s H scope (compEnvC scope cl C X.env) fp) (.Tuple [.Name y py, .Name z pz] kk pt) (gTup X.K 2 (gCons (gName i) (gCons (gName j) gNil))) := by exact fun _ _ _ _ _ => pg_tup rfl (pgs_cons (pg_name (by assumption) rfl (Or.inl rfl)) (pgs_cons (pg_name (by assumption) rfl (Or.inl rfl)) pgs_nil))) (hs : ∀ x, foldedSetIterable iter X.env x = pure x := by intro _; rfl) :
    PE2 X W (.ListComp elt [⟨.Tuple [.Name y py, .Name z pz] kk pt, iter, ifs, 0⟩] scope pos) (t2Lc2 ti i j tt te) := by
  refine ⟨peImp (pe_lc (own := [(y, i), (z, j)]) (tt := lowT X.K W0 tt) (te := low X.K W0 te) hc hN hi.pi (blkOk_by ok) hg (fun s H C cl fp => (ht s H C cl fp).pt) (fun s H C cl fp => (he s H C cl fp).pe) hs) fun σ H Q q => ?_, fun ex st Q Q' h q => hi.mono ex st _ _ (fun items st1 q1 => lcK_mono h q1) q⟩
  obtain ⟨w, st, ex, R, l, q⟩ := q
  refine ⟨w, st, ex, R, l, hi.mono ex st _ _ (fun items st1 q1 w1 H1 J l1 R1 yy => ?_) q⟩
  exact lc_any (vs := [i, j]) (ht X.s_0 X.H_0 0 [] []).mono (he X.s_0 X.H_0 0 [] []).mono (fun wi x z H R Kn => g2_ok wi x z H R Kn) l1 R1 yy q1
/-- y = [..] -/
theorem p2setLc1 {l i : Nat} {nm y : Str} {pn py : Pos} {spos : Pos} (hN : X.N.Nodup) (hi : PI2 X W (.Name y py) iter ti) (ok : blkC X.N X.env.scope scope [(y, i)] = true)
    (ht : ∀ (s : Shared) (H : Hp) (C : Addr) (cl : List (Str × Addr)) (fp : List Addr), PTs2 (X.blk s H scope (compEnvC scope cl C X.env) fp) W0 ifs tt) (he : ∀ (s : Shared) (H : Hp) (C : Addr) (cl : List (Str × Addr)) (fp : List Addr), PE2 (X.blk s H scope (compEnvC scope cl C X.env) fp) W0 elt te)
    (hsw : swapsWith (.ListComp elt [⟨.Name y py, iter, ifs, 0⟩] scope pos) (some (.Name nm pn)) spos.line X.env = pure true)
    (hc : X.calm = true := by rfl) (hl : X.N[l]? = some nm := by rfl) (hll : X.env.scope.names.lookup nm = some .local := by rfl)
    (hg : ∀ (s : Shared) (H : Hp) (C : Addr) (cl : List (Str × Addr)) (fp : List Addr), PG (X.blk s H scope (compEnvC scope cl C X.env) fp) (.Name y py) (gName i) := by first | exact fun _ _ _ _ _ => pg_name (by assumption) rfl (Or.inl rfl) | exact fun _ _ _ _ _ => pg_name (by assumption) rfl (Or.inr rfl) (Or.inl rfl)) (hs : ∀ x, foldedSetIterable iter X.env x = pure x := by intro _; rfl) :
    PS2 X W (.Assign [.Name nm pn] (.ListComp elt [⟨.Name y py, iter, ifs, 0⟩] scope pos) spos) (s2Asg (t2Lc1 ti i tt te) (g2Name l)) := by
  refine ⟨psImp (ps_setLc (i := l) (own := [(y, i)]) (g := gName i) (tt := lowT X.K W0 tt) (te := low X.K W0 te) hc hN hl hll hsw hi.pi (blkOk_by ok) hg (fun s H C cl fp => (ht s H C cl fp).pt) (fun s H C cl fp => (he s H C cl fp).pe) hs) fun D σ H q => ?_⟩
  obtain ⟨w, st, ex, D2, R, k, le, q⟩ := q
  refine ⟨w, st, ex, R, k, hi.mono ex st _ _ (fun items st1 q1 w1 H1 J l1 R1 yy => ?_) q⟩
  refine lc_any (w := w) (vs := [i]) (Q := fun v H' => D.nx (σ.set l (some v)) H') (ht X.s_0 X.H_0 0 [] []).mono (he X.s_0 X.H_0 0 [] []).mono (fun wi x z H R Kn => g1_ok wi x z H R Kn) l1 R1 yy (lcK_mono (fun x st2 q2 w2 H2 v2 l2 R2 rv2 => ?_) q1)
  exact le.nx w2 (st2.set l x) _ H2 l2 ⟨R2.h, RepL.set (v := some v2) (x := some x) rv2 l R2.l⟩ q2
theorem p2setLc2 {l i j : Nat} {nm y z : Str} {pn py pz pt : Pos} {kk : Nat} {spos : Pos} (hN : X.N.Nodup) (hi : PI2 X W (.Tuple [.Name y py, .Name z pz] kk pt) iter ti) (ok : blkC X.N X.env.scope scope [(y, i), (z, j)] = true)
    (ht : ∀ (s : Shared) (H : Hp) (C : Addr) (cl : List (Str × Addr)) (fp : List Addr), PTs2 (X.blk s H scope (compEnvC scope cl C X.env) fp) W0 ifs tt) (he : ∀ (s : Shared) (H : Hp) (C : Addr) (cl : List (Str × Addr)) (fp : List Addr), PE2 (X.blk s H scope (compEnvC scope cl C X.env) fp) W0 elt te)
    (hsw : swapsWith (.ListComp elt [⟨.Tuple [.Name y py, .Name z pz] kk pt, iter, ifs, 0⟩] scope pos) (some (.Name nm pn)) spos.line X.env = pure true)
    (hc : X.calm = true := by rfl) (hl : X.N[l]? = some nm := by rfl) (hll : X.env.scope.names.lookup nm = some .local := by rfl)
    (hg : ∀ (s : Shared) (H : Hp) (C : Addr) (cl : List (Str × Addr)) (fp : List Addr), PG (X.blk s H scope (compEnvC scope cl C X.env) fp) (.Tuple [.Name y py, .Name z pz] kk pt) (gTup X.K 2 (gCons (gName i) (gCons (gName j) gNil))) := by exact fun _ _ _ _ _ => pg_tup rfl (pgs_cons (pg_name (by assumption) rfl (Or.inl rfl)) (pgs_cons (pg_name (by assumption) rfl (Or.inl rfl)) pgs_nil))) (hs : ∀ x, foldedSetIterable iter X.env x = pure x := by intro _; rfl) :
    PS2 X W (.Assign [.Name nm pn] (.ListComp elt [⟨.Tuple [.Name y py, .Name z pz] kk pt, iter, ifs, 0⟩] scope pos) spos) (s2Asg (t2Lc2 ti i j tt te) (g2Name l)) := by
  refine ⟨psImp (ps_setLc (i := l) (own := [(y, i), (z, j)]) (tt := lowT X.K W0 tt) (te := low X.K W0 te) hc hN hl hll hsw hi.pi (blkOk_by ok) hg (fun s H C cl fp => (ht s H C cl fp).pt) (fun s H C cl fp => (he s H C cl fp).pe) hs) fun D σ H q => ?_⟩
  obtain ⟨w, st, ex, D2, R, k, le, q⟩ := q
  refine ⟨w, st, ex, R, k, hi.mono ex st _ _ (fun items st1 q1 w1 H1 J l1 R1 yy => ?_) q⟩
  refine lc_any (w := w) (vs := [i, j]) (Q := fun v H' => D.nx (σ.set l (some v)) H') (ht X.s_0 X.H_0 0 [] []).mono (he X.s_0 X.H_0 0 [] []).mono (fun wi x z H R Kn => g2_ok wi x z H R Kn) l1 R1 yy (lcK_mono (fun x st2 q2 w2 H2 v2 l2 R2 rv2 => ?_) q1)
  exact le.nx w2 (st2.set l x) _ H2 l2 ⟨R2.h, RepL.set (v := some v2) (x := some x) rv2 l R2.l⟩ q2
end
/-! ### defs -/
def start2 (N : List Str) (ds : List DV) : List (Option DV) := ds.map some ++ List.replicate (N.length - ds.length) none
theorem start_rep {K : PySem.W.Frag} {w : Wd} {N : List Str} {vs : List V} {ds : List DV} (r : RepA K w vs ds) : RepL K w (L2.start N vs) (start2 N ds) := by
  unfold L2.start start2
  have hl := Paired.length r
  rw [hl]
  have h1 : ∀ {vs : List V} {ds : List DV}, RepA K w vs ds → ∀ {a : List (Option V)} {b : List (Option DV)}, RepL K w a b → RepL K w (vs.map some ++ a) (ds.map some ++ b) := by
    intro vs ds r
    induction r with
    | nil => intro a b h; exact h
    | cons q t ih => intro a b h; exact .cons q (ih h)
  refine h1 r ?_
  generalize N.length - ds.length = n
  induction n with
  | zero => exact .nil
  | succ n ih => exact .cons trivial ih
/-- what a body is to do -/
def Does (N : List Str) (t : TS2) (sp : Sp2) : Prop := ∀ exf ds Q, sp exf ds Q → t (fun C x _ => exf C x) { nx := fun _ => Q (.d .none), rt := Q } ⟨start2 N ds, []⟩
theorem low_start {K : PySem.W.Frag} {N : List Str} {t : TS2} {sp : Sp2} (h : Does N t sp) {vs : List V} {H : Hp} {Q : VK} {E : XK} (q : lowSp K sp vs H Q E) : lowS K (fun cls d _ H => E cls d H) t { nx := fun _ H' => Q .non H', rt := Q } (L2.start N vs) H := by
  obtain ⟨w, ds, exf, Q2, R, rv, cl, q, fin, lk⟩ := q
  refine lowS_of (w := w) (st := ⟨start2 N ds, []⟩) ⟨R, start_rep rv⟩ ⟨fun w' st' σ' H' d v n C x hn l R' hd dx hx => lk.at_ w' st'.m H' d v n C x hn l.R R'.h hd dx hx, fun w' st' σ' H' n C hn l R' hx => lk.no w' st'.m H' n C hn l.R R'.h hx⟩
    ⟨fun w' st' σ' H' l R' q' => fin w' st'.m H' .non (.d .none) l.R R'.h Dq.non (fun k => by intro z; cases z) q', fun w' m' H' v x l R' r c q' => fin w' m' H' v x l R' r c q', fun w' st' σ' H' l R' q' => False.elim q', fun w' st' σ' H' l R' q' => False.elim q'⟩ (h exf ds Q2 q)
section
variable {P : Program} {w : World} {K : PySem.W.Frag} {mg : Str → Option Value} {base : Heap}
/-- a def, from its body's term and its reading -/
theorem fn2 {x qual : Str} {st : Stmt} {f : Addr} {fd : FuncData} {N ps : List Str} {k : Nat} {sp : Sp2} {t : TS2} (F : Fun K x qual st f fd) (Sc : FnScope N ps (defScope st)) (len : ∀ exf ds Q, sp exf ds Q → ds.length = ps.length)
    (body : ∀ (cdv : Value) (A : Around) (outer : List Env) (s : Shared) (H : Hp) (E : XK), Room k (A.deeper (PyProof.Rows.envOfC qual (defScope st) s.heap.objs.size f cdv)) →
      Takes (cxOf (L2.CX P w) P w K mg base N qual (defScope st) f cdv A outer s H E) (fun cls d _ H => E cls d H) →
      PassesOwn (model P w) (cxOf (L2.CX P w) P w K mg base N qual (defScope st) f cdv A outer s H E).A (cxOf (L2.CX P w) P w K mg base N qual (defScope st) f cdv A outer s H E).env (cxOf (L2.CX P w) P w K mg base N qual (defScope st) f cdv A outer s H E).xe →
      PSs2 (cxOf (L2.CX P w) P w K mg base N qual (defScope st) f cdv A outer s H E) (fun cls d _ H => E cls d H) (defBody st) t)
    (pure2 : Does N t sp) : FnOk P w K mg base (L2.CX P w) (k + 1) f fd ps (lowSp K sp) := by
  refine F.okX Sc (fun vs H Q E h => ?_) (fun cdv A outer s H vs Q E hr h => ?_)
  · obtain ⟨w, ds, exf, Q2, R, rv, cl, q, _⟩ := h
    rw [Paired.length rv]; exact len _ _ _ q
  · exact ⟨_, (body cdv A outer s H E hr (takes_of rfl rfl rfl rfl) (passes_of rfl)).ps, low_start pure2 h⟩
theorem fnG_of {f : Addr} {fd : FuncData} {ps : List Str} {k : Nat} {sp : Sp2} (F : FnOk P w K mg base (L2.CX P w) k f fd ps (lowSp K sp)) (hb : Binds K fd ps []) : FnG P w K mg base k f sp := by
  have h := F.raw hb .nil
  exact h.imp fun vs H Q E q => by rw [List.append_nil]; exact q
end
end G

end
section
set_option maxHeartbeats 2000000
/-! GF: calls by keywords, defs with a star, the law's script, its source of draws, its end. -/
namespace G
open PySem L2
/-! ### facts of data -/
theorem depthA_ints : ∀ ns : List Int, PyData.depthAll (ns.map PyData.int) = 0
  | [] => rfl
  | n :: ns => by simp [PyData.depthAll, PyData.depth, depthA_ints ns]
theorem layA_ints : ∀ ns : List Int, PyData.canLayAll0 (ns.map PyData.int) = true
  | [] => rfl
  | n :: ns => by simp [PyData.canLayAll0, PyData.canLay0, layA_ints ns]
theorem shaped_lints (ns : List Int) : SeqAt.shaped (.list (ns.map PyData.int)) = true := by
  simp [SeqAt.shaped, PyData.canLay0, PyData.depth, layA_ints, depthA_ints]
theorem shaped_tints (ns : List Int) : SeqAt.shaped (.tuple (ns.map PyData.int)) = true := by
  simp [SeqAt.shaped, PyData.canLay0, PyData.depth, layA_ints, depthA_ints]
theorem shaped_lnil : SeqAt.shaped (.list []) = true := by decide
theorem shaped_tnil : SeqAt.shaped (.tuple []) = true := by decide
theorem eqvA_ints : ∀ ns ms : List Int, PyData.eqvAll (ns.map PyData.int) (ms.map PyData.int) = decide (ns = ms)
  | [], [] => by simp [PyData.eqvAll]
  | [], m :: ms => by simp [PyData.eqvAll]
  | n :: ns, [] => by simp [PyData.eqvAll]
  | n :: ns, m :: ms => by
    simp only [List.map_cons, PyData.eqvAll, PyData.eqv, eqvA_ints ns ms, List.cons.injEq]
    rw [Bool.decide_and]
    congr 1
theorem eqv_lints (ns ms : List Int) : PyData.eqv (.list (ns.map PyData.int)) (.list (ms.map PyData.int)) = decide (ns = ms) := by simp only [PyData.eqv, eqvA_ints]
theorem eqv_tints (ns ms : List Int) : PyData.eqv (.tuple (ns.map PyData.int)) (.tuple (ms.map PyData.int)) = decide (ns = ms) := by simp only [PyData.eqv, eqvA_ints]
theorem eqv_lnil (xs : List PyData) : PyData.eqv (.list xs) (.list []) = xs.isEmpty := by cases xs <;> simp [PyData.eqv, PyData.eqvAll]
theorem eqv_tnil (xs : List PyData) : PyData.eqv (.tuple xs) (.tuple []) = xs.isEmpty := by cases xs <;> simp [PyData.eqv, PyData.eqvAll]

/-! ### calls by keywords -/
def gP {α : Type} (p : List Nat) (xs : List α) : List α := p.filterMap fun i => xs[i]?
theorem gP_rep {α β : Type} {F : α → β → Prop} {xs : List α} {ys : List β} (h : Paired F xs ys) : ∀ p : List Nat, Paired F (gP p xs) (gP p ys)
  | [] => .nil
  | i :: p => by
    have key : ∀ {xs : List α} {ys : List β} (i : Nat), Paired F xs ys → (xs[i]? = none ∧ ys[i]? = none) ∨ ∃ a b, xs[i]? = some a ∧ ys[i]? = some b ∧ F a b := by
      intro xs ys i h
      induction h generalizing i with
      | nil => exact .inl ⟨by simp, by simp⟩
      | cons r t ih =>
        cases i with
        | zero => exact .inr ⟨_, _, rfl, rfl, r⟩
        | succ i => simpa using ih i
    unfold gP
    rcases key i h with ⟨e1, e2⟩ | ⟨a, b, e1, e2, r⟩
    · rw [List.filterMap_cons, List.filterMap_cons, e1, e2]; exact gP_rep h p
    · rw [List.filterMap_cons, List.filterMap_cons, e1, e2]; exact .cons r (gP_rep h p)
theorem gP_mem {α : Type} {p : List Nat} {xs : List α} {x : α} (h : x ∈ gP p xs) : x ∈ xs := by
  unfold gP at h
  obtain ⟨i, _, e⟩ := List.mem_filterMap.mp h
  exact List.mem_of_getElem? e
/-- n values by place, then keywords ks: p puts them in the order of the parameters -/
structure KB (K : PySem.W.Frag) (fd : FuncData) (ps ks : List Str) (n : Nat) (p : List Nat) : Prop where
  to : ∀ (s : Shared) (us ws : List Value), us.length = n → ws.length = ks.length → BindsTo s fd ⟨us, ks.zip ws⟩ (ps.zip (gP p (us ++ ws)))
theorem kb_of {K : PySem.W.Frag} {x qual : Str} {st : Stmt} {f : Addr} {fd : FuncData} {ps ks : List Str} {n : Nat} {p : List Nat} (F : Fun K x qual st f fd)
    (h : ∀ (kV doc pm : Value) (an : Option Addr) (cdv ct : Value) (us ws : List Value), us.length = n → ws.length = ks.length → bindArgs (PySem.W.fnOf x qual (defArgs st) (defBody st) (defScope st) .none kV doc pm an cdv ct) ⟨us, ks.zip ws⟩ = pure (ps.zip (gP p (us ++ ws)))) : KB K fd ps ks n p := by
  obtain ⟨oc, od, kV, doc, pm, an, cdv, ct, osl, rfl, lk, hcd⟩ := F.ex
  exact ⟨fun s us ws h1 h2 => .of_eq (h kV doc pm an cdv ct us ws h1 h2)⟩
structure PK2 (X : Cx) (W : WX) (kws : List Keyword) (t : TA2) : Prop where
  pk : PK X kws (lowA X.K W t)
  mono : MonoA t
section
variable {X : Cx} {W : WX} {e : Expr} {es : List Expr} {te : TE2} {tl tk' : TA2} {pos p0 : Pos} {x : Str} {f : Addr} {k : Nat} {sp : Sp2} {kws : List Keyword} {fd : FuncData} {ps ks : List Str} {n : Nat} {p : List Nat}
theorem p2knil : PK2 X W [] t2Nil := by
  refine ⟨⟨fun pos pins s σ H Q I q => pk_nil.run pos pins s σ H Q I ?_⟩, fun ex st Q Q' h q => h _ _ q⟩
  obtain ⟨w, st, ex, R, l, q⟩ := q
  exact q w H [] (Le.refl w) R .nil
theorem p2kcons {nm : Option Str} {kpos : Pos} (he : PE2 X W e te) (hr : PK2 X W kws tl) : PK2 X W (⟨nm, e, kpos⟩ :: kws) (t2Cons te tl) := by
  refine ⟨⟨fun pos pins s σ H Q I q => (pk_cons he.pe hr.pk).run pos pins s σ H Q I ?_⟩, mono_cons he.mono hr.mono⟩
  obtain ⟨w, st, ex, R, l, q⟩ := q
  refine low_of he.mono R l q fun x st1 w1 H1 v1 q1 l1 R1 k1 rv1 => ?_
  refine lowA_of hr.mono R1 k1 q1 fun xs st2 w2 H2 vs q2 l2 R2 k2 rv2 => ?_
  exact q2 w2 H2 (v1 :: vs) (l1.trans l2) R2 (.cons (rv1.up l2) rv2)
def t2CallK (sp : Sp2) (p : List Nat) (n m : Nat) (tl tk : TA2) : TE2 := fun ex st Q => tl ex st fun xs st1 => tk ex st1 fun zs st2 => (xs.length = n ∧ zs.length = m) ∧ asCs (gP p (xs ++ zs)) st2 fun ys st3 => sp (fun C x => ex C x st3) ys fun z => Q z (if lfreeV z = true then st2 else st3)
theorem mono_callK {m : Nat} (hs : MonoSp sp) (hl : MonoA tl) (hk : MonoA tk') : MonoE (t2CallK sp p n m tl tk') := fun ex st Q Q' h q =>
  hl ex st _ _ (fun xs st1 q1 => hk ex st1 _ _ (fun zs st2 q2 => ⟨q2.1, asCs_mono (fun ys st3 q3 => hs _ _ _ _ (fun z q4 => h _ _ q4) q3) q2.2⟩) q1) q
theorem run_kb {pins : List (Addr × Obj)} {σ : St} {H : Hp} {s : Shared} {Q : VK} {us ws : List Value} {vs zs : List V} (F : FnOk X.prog X.w X.K X.mg X.base (L2.CX X.prog X.w) k f fd ps (lowSp X.K sp)) (hb : KB X.K fd ps ks n p) (hr : Room k X.A) (tk : Takes X W)
    (I : Inv X pins σ H s) (r : Vals vs us) (rz : Vals zs ws) (h1 : us.length = n) (h2 : ws.length = ks.length) (h : lowSp X.K sp (gP p (vs ++ zs)) H Q (WE W σ)) : wpAny (model X.prog X.w) X.A (call (.ref f) us (ks.zip ws)) (EP X pins σ Q) X.xe s := by
  have r2 : Vals (gP p (vs ++ zs)) (gP p (us ++ ws)) := gP_rep (r.append rz) p
  refine wpAny_call (codeAny_mono (F.run X.A X.stack s H ⟨us, ks.zip ws⟩ (gP p (us ++ ws)) (gP p (vs ++ zs)) Q (WE W σ) hr I.env0 (hb.to s us ws h1 h2) r2 h) fun r s' hq => ?_)
  cases r with
  | error e => exact passAt tk σ pins H s e s' I hq
  | ok fl =>
    cases fl with
    | ret u => exact I.after hq
    | next => exact False.elim hq
    | brk => exact False.elim hq
    | cont => exact False.elim hq
theorem low_callK {σ : St} {H : Hp} {Q : VK} (hl : MonoA tl) (hk : MonoA tk') {m : Nat} (q : low X.K W (t2CallK sp p n m tl tk') σ H Q) :
    lowA X.K W tl σ H fun vs H1 => lowA X.K W tk' σ H1 fun zs H2 => (vs.length = n ∧ zs.length = m) ∧ lowSp X.K sp (gP p (vs ++ zs)) H2 Q (WE W σ) := by
  obtain ⟨w, st, ex, R, l, q⟩ := q
  refine lowA_of hl R l q fun xs st1 w1 H1 vs q1 l1 R1 k1 rv1 => ?_
  refine lowA_of hk R1 k1 q1 fun zs st2 w2 H2 us q2 l2 R2 k2 rv2 => ?_
  refine ⟨⟨by rw [Paired.length rv1]; exact q2.1.1, by rw [Paired.length rv2]; exact q2.1.2⟩, ?_⟩
  have app : ∀ {vs us : List V} {xs zs : List DV}, RepA X.K w2 vs xs → RepA X.K w2 us zs → RepA X.K w2 (vs ++ us) (xs ++ zs) := by
    intro vs us xs zs a b
    induction a with
    | nil => exact b
    | cons r t ih => exact .cons r ih
  exact call_core (l1.trans l2) R2 k2 (gP_rep (app (RepA.up l2 rv1) rv2) p) q2.2
theorem p2callK (F : FnOk X.prog X.w X.K X.mg X.base (L2.CX X.prog X.w) k f fd ps (lowSp X.K sp)) (hb : KB X.K fd ps ks n p) (hs : MonoSp sp) (hr : Room k X.A) (tk : Takes X W) (hm : X.mg x = some (.ref f)) (hk : PySem.W.keepIn X.K (.ref f) = true)
    (ha : PA2 X W (e :: es) tl) (hkw : PK2 X W kws tk') (hg : Gl X x := by rfl)
    (hall : (backToKw pos (keywordEach kws X.env)).all (·.1.isSome) = true := by rfl) (hks : (backToKw pos (keywordEach kws X.env)).filterMap (·.1) = ks := by rfl)
    (hdb : (x == ("__debug__" : Str)) = false := by decide) (he : starEach (e :: es) X.env = (false, eval e X.env) :: starEach es X.env := by rfl)
    (hpl : ((backTo pos (starEach (e :: es) X.env)).any (·.1) || (backToKw pos (keywordEach kws X.env)).any (·.1.isNone)) = false := by rfl) :
    PE2 X W (.Call (.Name x p0) (e :: es) kws pos) (t2CallK sp p n ks.length tl tk') := by
  have hp : PE X (.Call (.Name x p0) (e :: es) kws pos) (fun σ H Q => lowA X.K W tl σ H fun vs H1 => lowA X.K W tk' σ H1 fun zs H2 => (vs.length = n ∧ zs.length = ks.length) ∧ lowSp X.K sp (gP p (vs ++ zs)) H2 Q (WE W σ)) := by
    refine ⟨fun pins s σ H Q I h => ?_⟩
    refine wpAny_Call_Name_kw (ld_glob I hg hm ?_ hdb)
    refine PySem.W.callWith_KW (h₀ := X.base) I.ok.mod.kin hk hall (thn (ha.pa.run pos pins s σ H _ I h) fun us s1 ⟨vs, H1, I1, r, q⟩ => ?_) hpl he
    refine thn (hkw.pk.run pos pins s1 σ H1 _ I1 q) fun ws s2 ⟨zs, H2, I2, rz, q2⟩ => ⟨I2.kIn, ?_⟩
    rw [hks]
    exact run_kb (us := us) F hb hr tk I2 r rz (by rw [← r.length]; exact q2.1.1) (by rw [← rz.length]; exact q2.1.2) q2.2
  exact ⟨peImp hp fun σ H Q q => low_callK ha.mono hkw.mono q, mono_callK hs ha.mono hkw.mono⟩
theorem p2callK0 (F : FnOk X.prog X.w X.K X.mg X.base (L2.CX X.prog X.w) k f fd ps (lowSp X.K sp)) (hb : KB X.K fd ps ks 0 p) (hs : MonoSp sp) (hr : Room k X.A) (tk : Takes X W) (hm : X.mg x = some (.ref f)) (hk : PySem.W.keepIn X.K (.ref f) = true)
    (hkw : PK2 X W kws tk') (hg : Gl X x := by rfl)
    (hall : (backToKw pos (keywordEach kws X.env)).all (·.1.isSome) = true := by rfl) (hks : (backToKw pos (keywordEach kws X.env)).filterMap (·.1) = ks := by rfl)
    (hdb : (x == ("__debug__" : Str)) = false := by decide)
    (hpl : ((backTo pos (starEach [] X.env)).any (·.1) || (backToKw pos (keywordEach kws X.env)).any (·.1.isNone)) = false := by rfl) :
    PE2 X W (.Call (.Name x p0) [] kws pos) (t2CallK sp p 0 ks.length t2Nil tk') := by
  have hp : PE X (.Call (.Name x p0) [] kws pos) (fun σ H Q => lowA X.K W tk' σ H fun zs H2 => (zs.length = ks.length) ∧ lowSp X.K sp (gP p ([] ++ zs)) H2 Q (WE W σ)) := by
    refine ⟨fun pins s σ H Q I h => ?_⟩
    refine wpAny_Call_Name_kw (ld_glob I hg hm ?_ hdb)
    refine PySem.W.callWith_KW0 (h₀ := X.base) I.ok.mod.kin hk hall ?_ hpl
    refine thn (hkw.pk.run pos pins s σ H _ I h) fun ws s2 ⟨zs, H2, I2, rz, q2⟩ => ⟨I2.kIn, ?_⟩
    rw [hks]
    exact run_kb F hb hr tk I2 .nil rz rfl (by rw [← rz.length]; exact q2.1) q2.2
  refine ⟨peImp hp fun σ H Q q => ?_, mono_callK hs (fun ex st Q Q' h q => h _ _ q) hkw.mono⟩
  obtain ⟨w, st, ex, R, l, q⟩ := q
  refine lowA_of hkw.mono R l q fun zs st2 w2 H2 us q2 l2 R2 k2 rv2 => ?_
  exact ⟨by rw [Paired.length rv2]; exact q2.1.2, call_core l2 R2 k2 (gP_rep rv2 p) q2.2⟩
end
/-! ### def f(*v) -/
def spStar (sp : Sp2) : Sp2 := fun exf ds Q => ∃ ys, ds = ys.map DV.d ∧ ys.length ≤ sizeLine ∧ sp exf [.d (.tuple ys)] Q
theorem mono_star {sp : Sp2} (h : MonoSp sp) : MonoSp (spStar sp) := fun exf ds Q Q' hq ⟨ys, e, l, q⟩ => ⟨ys, e, l, h _ _ _ _ hq q⟩
section
variable {P : Program} {w : World} {K : PySem.W.Frag} {mg : Str → Option Value} {base : Heap}
theorem fnStar {x qual : Str} {st : Stmt} {f : Addr} {fd : FuncData} {N : List Str} {pv : Str} {k : Nat} {sp : Sp2} {t : TS2} (F : Fun K x qual st f fd) (Sc : FnScope N [pv] (defScope st))
    (hb : ∀ (kV doc pm : Value) (an : Option Addr) (cdv ct : Value) (us : List Value), bindArgs (PySem.W.fnOf x qual (defArgs st) (defBody st) (defScope st) .none kV doc pm an cdv ct) ⟨us, []⟩ = (newTuple us >>= fun t => pure [(pv, t)]))
    (body : ∀ (cdv : Value) (A : Around) (outer : List Env) (s : Shared) (H : Hp) (E : XK), Room k (A.deeper (PyProof.Rows.envOfC qual (defScope st) s.heap.objs.size f cdv)) →
      Takes (cxOf (L2.CX P w) P w K mg base N qual (defScope st) f cdv A outer s H E) (fun cls d _ H => E cls d H) →
      PassesOwn (model P w) (cxOf (L2.CX P w) P w K mg base N qual (defScope st) f cdv A outer s H E).A (cxOf (L2.CX P w) P w K mg base N qual (defScope st) f cdv A outer s H E).env (cxOf (L2.CX P w) P w K mg base N qual (defScope st) f cdv A outer s H E).xe →
      PSs2 (cxOf (L2.CX P w) P w K mg base N qual (defScope st) f cdv A outer s H E) (fun cls d _ H => E cls d H) (defBody st) t)
    (pure2 : Does N t sp) : FnG P w K mg base (k + 1) f (spStar sp) := by
  obtain ⟨oc, od, kV, doc, pm, an, cdv, ct, osl, rfl, lk, hcd⟩ := F.ex
  have h := StX.fn_star (sp := lowSp K sp) (ps := []) (pv := pv) (CX := L2.CX P w) (base := base) (mg := mg) (k := k) lk hcd Sc StX.cxUp (fun us rest hl => by
      have e : us = [] := List.eq_nil_of_length_eq_zero hl
      subst e
      exact hb kV doc pm an cdv ct rest) (fun A outer s H vs Q E hr h => ⟨_, (body cdv A outer s H E hr (takes_of rfl rfl rfl rfl) (passes_of rfl)).ps, low_start pure2 h⟩)
  refine h.imp fun vs H Q E q => ?_
  obtain ⟨w0, ds, exf, Q2, R, rv, cl, ⟨ys, ed, hz, q⟩, fin, lk2⟩ := q
  subst ed
  have dq : ∀ {vs : List V} {ys : List PyData}, RepA K w0 vs (ys.map DV.d) → DqA K w0.D vs ys := by
    intro vs ys
    induction ys generalizing vs with
    | nil => intro r; cases r; exact .nil
    | cons y ys ih =>
      intro r
      cases r with
      | cons a b => exact .cons a (ih b)
  have d := dq rv
  refine ⟨[], vs, rfl, rfl, by rw [dqa_len d]; exact hz, fun p hp => ?_⟩
  obtain ⟨R', l⟩ := R.fix hp (.tup vs)
  exact ⟨_, [.d (.tuple ys)], exf, Q2, R', .cons (.tup (SqT.of upd_same) (dqa_up l.D _ _ d)) .nil, (fun z hz => by
      have e : z = .d (.tuple ys) := by simpa using hz
      subst e
      intro k z; cases z), q, fun w' m' H' v x l' => fin w' m' H' v x (l.R.trans l'),
    ⟨fun w' m' H' d v n C x hn l' => lk2.at_ w' m' H' d v n C x hn (l.R.trans l'), fun w' m' H' n C hn l' => lk2.no w' m' H' n C hn (l.R.trans l')⟩⟩
end

/-! ### the source of draws -/
/-- [gs, n], a new source -/
def s2RetDeal (ta tb : TE2) : TS2 := fun ex D st => ta ex st fun x st1 => tb ex st1 fun y st2 => match x, rd st2 y with
  | .o k, some (.int n) => match st2.m[k]? with
    | some ow => (ow.live = true ∧ 0 ≤ n ∧ n < 2147483647 ∧ ∃ gs : List Int, ow.xs = gs.map PyData.int ∧ (∀ g ∈ gs, 0 ≤ g) ∧ gs.length ≤ 1000) ∧ D.rt .deal
    | none => False
  | _, _ => False
theorem p2s_retDeal {X : Cx} {W : WX} {a b : Expr} {ta tb : TE2} {pos pos2 : Pos} (ha : PE2 X W a ta) (hb : PE2 X W b tb) (hs1 : starEach [a, b] X.env = (false, eval a X.env) :: starEach [b] X.env := by rfl) (hs2 : starEach [b] X.env = (false, eval b X.env) :: starEach [] X.env := by rfl) :
    PS2 X W (.Return (some (.List [a, b] pos2)) pos) (s2RetDeal ta tb) := by
  refine ⟨psImp (ps_ret (pe_lst (pa_cons ha.pe (pa_cons hb.pe pa_nil hs2) hs1))) fun D σ H q => ?_⟩
  obtain ⟨w, st, ex, D2, R, l, le, q⟩ := q
  refine low_of ha.mono R l q fun x st1 w1 H1 v1 q1 l1 R1 k1 rv1 => ?_
  refine low_of hb.mono R1 k1 q1 fun y st2 w2 H2 v2 q2 l2 R2 k2 rv2 => ?_
  split at q2
  · rename_i k n e1
    split at q2
    · rename_i ow e2
      obtain ⟨⟨hlive, h0, h1, gs, eg, g0, gl⟩, q3⟩ := q2
      obtain ⟨c, hc, rfl⟩ := rv1.up l2
      obtain ⟨vs, f1, f2, f3, f4, f5⟩ := R2.h.own k c ow hc e2
      refine ⟨by show 2 ≤ sizeLine; decide, fun p hp => ?_⟩
      have hpc : c ≠ p := fun z => by rw [z, hp] at f1; cases f1
      have ev : vs = gs.map V.int := ints_ok f2 (by rw [eg]; exact intsOf_map gs)
      subst ev
      rw [rd_int R2 rv2 e1]
      have up : upd H2 p (.lst [V.ref c, V.int n]) c = some (.lst (gs.map V.int)) := by rw [upd_ne hpc]; exact f1
      have hD := R2.h.freeD hp
      have hF := R2.h.freeF hp
      refine le.rt ⟨w2.D, w2.F, [], (p, c) :: w2.da⟩ [] _ (.ref p) .deal ⟨(l1.trans l2).D, (l1.trans l2).F, fun q hq => List.mem_cons_of_mem _ ((l1.trans l2).da q hq)⟩ ?_ ⟨p, c, List.mem_cons_self, rfl⟩ (fun k => by intro z; cases z) q3
      refine ⟨fun a u e => ?_, fun a u e => ?_, R2.h.df, rfl, fun k a ow h1 h2 => by simp at h2, List.nodup_nil, fun a b e => ?_, ⟨tabs_new R2.h.tb.tab hp, R2.h.tb.dt, R2.h.tb.ft⟩⟩
      · have ha : a ≠ p := fun z => by
          have e' : w2.D a = some u := e
          rw [z, hD] at e'; cases e'
        rw [upd_ne ha]; exact R2.h.ed a u e
      · have ha : a ≠ p := fun z => by
          have e' : w2.F a = some u := e
          rw [z, hF] at e'; cases e'
        rw [upd_ne ha]; exact R2.h.ef a u e
      · have old : ∀ a' b', (a', b') ∈ w2.da → a' ≠ p ∧ a' ≠ c ∧ b' ≠ p ∧ b' ≠ c := fun a' b' h => by
          obtain ⟨n1, n2⟩ := R2.h.freeA hp h
          obtain ⟨_, _, _, _, _, x5, x6⟩ := R2.h.deal a' b' h
          exact ⟨n1.symm, fun z => x5 (z ▸ List.mem_of_getElem? hc), n2.symm, fun z => x6 (z ▸ List.mem_of_getElem? hc)⟩
        rcases List.mem_cons.mp e with e | e
        · cases e
          refine ⟨⟨⟨hpc.symm, fun a' b' h => ?_⟩, n, gs, upd_same, up, h0, h1, g0, gl⟩, hD, f4 hlive, hF, f3, by simp, by simp⟩
          rcases List.mem_cons.mp h with h | h
          · cases h; exact .inl ⟨rfl, rfl⟩
          · exact .inr (old a' b' h)
        · obtain ⟨⟨⟨ne, nn⟩, n', gs', h1', h2', h3'⟩, x1, x2, x3, x4, _⟩ := R2.h.deal a b e
          obtain ⟨o1, o2, o3, o4⟩ := old a b e
          refine ⟨⟨⟨ne, fun a' b' h => ?_⟩, n', gs', by rw [upd_ne o1]; exact h1', by rw [upd_ne o3]; exact h2', h3'⟩, x1, x2, x3, x4, by simp, by simp⟩
          rcases List.mem_cons.mp h with h | h
          · cases h; exact .inr ⟨o1.symm, o3.symm, o2.symm, o4.symm⟩
          · exact nn a' b' h
    · exact q2.elim
  · exact q2.elim
/-- _law_any(deal, bound): some number below the bound -/
def spAny : Sp2 := fun _ ds Q => ∃ m : Int, ds = [.deal, .d (.int m)] ∧ 0 < m ∧ m.natAbs < 2 ^ 8000 ∧ ∀ r : Int, 0 ≤ r → r < m → Q (.d (.int r))
theorem mono_any : MonoSp spAny := fun _ _ _ _ h ⟨m, e, h1, h2, q⟩ => ⟨m, e, h1, h2, fun r a b => h _ (q r a b)⟩
/-- the source after a draw: other numbers at a and b, all else as it was -/
theorem deal_turn {K : PySem.W.Frag} {w : Wd} {m : List Own} {H H' : Hp} {a b : Addr} (R : RepH K w m H) (e : (a, b) ∈ w.da) (k : ∀ c o, c ≠ a → c ≠ b → H c = some o → H' c = some o) {n : Int} {gs : List Int} (h1 : H' a = some (.lst [.ref b, .int n])) (h2 : H' b = some (.lst (gs.map V.int)))
    (h3 : 0 ≤ n) (h4 : n < 2147483647) (h5 : ∀ g ∈ gs, 0 ≤ g) (h6 : gs.length ≤ 1000) : RepH K w m H' := by
  obtain ⟨⟨⟨ne, nn⟩, n0, gs0, ha0, hb0, _⟩, x1, x2, x3, x4, x5, x6⟩ := R.deal a b e
  refine ⟨fun c o h => ?_, fun c o h => ?_, R.df, R.len, fun j c ow g1 g2 => ?_, R.nd, fun c d h => ?_, ⟨tabs_kept R.tb.tab (fun c o q nl => k c o (fun z => by rw [z, ha0] at q; cases q; exact nl _ rfl) (fun z => by rw [z, hb0] at q; cases q; exact nl _ rfl) q), R.tb.dt, R.tb.ft⟩⟩
  · exact k c o (fun z => by rw [z, x1] at h; cases h) (fun z => by rw [z, x2] at h; cases h) (R.ed c o h)
  · exact k c o (fun z => by rw [z, x3] at h; cases h) (fun z => by rw [z, x4] at h; cases h) (R.ef c o h)
  · have mc := List.mem_of_getElem? g1
    obtain ⟨vs, e1, e2⟩ := R.own j c ow g1 g2
    exact ⟨vs, k c _ (fun z => x5 (z ▸ mc)) (fun z => x6 (z ▸ mc)) e1, e2⟩
  · obtain ⟨⟨⟨ne', nn'⟩, n', gs', q1, q2, q3⟩, y⟩ := R.deal c d h
    rcases nn' a b e with ⟨ea, eb⟩ | ⟨o1, o2, o3, o4⟩
    · subst ea; subst eb
      exact ⟨⟨⟨ne', nn'⟩, n, gs, h1, h2, h3, h4, h5, h6⟩, y⟩
    · exact ⟨⟨⟨ne', nn'⟩, n', gs', k c _ o1.symm o3.symm q1, k d _ o2.symm o4.symm q2, q3⟩, y⟩
/-! ### _law_any -/
abbrev rInt1 : List V → Hp → VK → Prop := fun xs H Q => (∃ i, xs = [.int i] ∧ Q (.int i) H) ∨ ∃ k, xs = [.bl k] ∧ Q (.int (if k then 1 else 0)) H
abbrev tD0 (K : PySem.W.Frag) : TE := tOp (rIxL K) (tVar 0) (tC (.int 0))
abbrev tD1 (K : PySem.W.Frag) : TE := tOp (rIxL K) (tVar 0) (tC (.int 1))
abbrev rModZ : R2 := rI (fun _ j => 0 < j) fun i j => .int (i % j)
abbrev tNE (K : PySem.W.Frag) : TT := tTest (tOp (rNeD K) (tD0 K) (tLst tNil))
def t_any (K : PySem.W.Frag) : TS :=
  tSeq (tWhile (tAnd (tNE K) (tTest (tOp rEq (tOp (rIxL K) (tD0 K) (tUn (rU fun i => .int (-i)) (tC (.int 1)))) (tC (.int 0))))) (tDrop (tBM0 K "list" rPop (tD0 K))))
  (tSeq (tIfS (tNE K) (tSeq (tAsg (tCB rInt1 (tCons (tBM0 K "list" rPop (tD0 K)) tNil)) (gName 2)) (tSeq (tDrop (tBM K "list" rAppend (tD0 K) (tCons (tOp (rI CDivW fun i j => .int (i / j)) (tVar 2) (tVar 1)) tNil)))
      (tRet (tOp rModZ (tVar 2) (tVar 1))))) tNext)
  (tSeq (tAsg (tOp rModZ (tCB rInt1 (tCons (tOp (rI0 fun i j => .int (i + j)) (tOp (rI CMulW fun i j => .int (i * j)) (tD1 K) (tC (.int 40693))) (tC (.int 71))) tNil)) (tC (.int 2147483647))) (gSub (tVar 0) (tC (.int 1)) rSetL))
    (tRet (tOp rModZ (tCB rInt1 (tCons (tOp (rI CDivW fun i j => .int (i / j)) (tD1 K) (tC (.int 64))) tNil)) (tVar 1)))))
/-- the source as it stands within a draw -/
structure StA (H : Hp) (a b : Addr) (n : Int) (gs : List Int) (H' : Hp) : Prop where
  k : ∀ c o, c ≠ a → c ≠ b → H c = some o → H' c = some o
  a : H' a = some (.lst [.ref b, .int n])
  b : H' b = some (.lst (gs.map V.int))
  g : ∀ g ∈ gs, 0 ≤ g
  l : gs.length ≤ 1000
theorem StA.new {H : Hp} {a b p : Addr} {n : Int} {gs : List Int} {H' : Hp} {o : HO} (s : StA H a b n gs H') (hp : H' p = none) : StA H a b n gs (upd H' p o) := by
  have na : a ≠ p := fun z => by have := s.a; rw [z, hp] at this; cases this
  have nb : b ≠ p := fun z => by have := s.b; rw [z, hp] at this; cases this
  refine ⟨fun c u h1 h2 h => ?_, by rw [upd_ne na]; exact s.a, by rw [upd_ne nb]; exact s.b, s.g, s.l⟩
  have e := s.k c u h1 h2 h
  have nc : c ≠ p := fun z => by rw [z, hp] at e; cases e
  rw [upd_ne nc]; exact e
theorem StA.setB {H : Hp} {a b : Addr} {n : Int} {gs gs' : List Int} {H' : Hp} (s : StA H a b n gs H') (ne : a ≠ b) (g : ∀ g ∈ gs', 0 ≤ g) (l : gs'.length ≤ 1000) : StA H a b n gs' (upd H' b (.lst (gs'.map V.int))) :=
  ⟨fun c u h1 h2 h => by rw [upd_ne h2]; exact s.k c u h1 h2 h, by rw [upd_ne ne]; exact s.a, upd_same, g, l⟩
theorem StA.setA {H : Hp} {a b : Addr} {n n' : Int} {gs : List Int} {H' : Hp} (s : StA H a b n gs H') (ne : a ≠ b) : StA H a b n' gs (upd H' a (.lst [.ref b, .int n'])) :=
  ⟨fun c u h1 h2 h => by rw [upd_ne h1]; exact s.k c u h1 h2 h, upd_same, by rw [upd_ne ne.symm]; exact s.b, s.g, s.l⟩
theorem dp_ints {K : PySem.W.Frag} {H : Hp} : ∀ ns : List Int, DpAll K H (ns.map V.int) (ns.map PyData.int)
  | [] => .nil
  | n :: ns => .cons (.int n) (dp_ints ns)
/-- deal[0] -/
theorem d0_ok {K : PySem.W.Frag} {H H' : Hp} {a b : Addr} {n : Int} {gs : List Int} {σ : St} {Q : VK} (s : StA H a b n gs H') (h0 : σ[0]? = some (some (.ref a))) (q : Q (.ref b) H') : tD0 K σ H' Q :=
  ⟨.ref a, h0, a, _, 0, .ref b, rfl, rfl, SqL.of s.a, rfl, q⟩
theorem d1_ok {K : PySem.W.Frag} {H H' : Hp} {a b : Addr} {n : Int} {gs : List Int} {σ : St} {Q : VK} (s : StA H a b n gs H') (h0 : σ[0]? = some (some (.ref a))) (q : Q (.int n) H') : tD1 K σ H' Q :=
  ⟨.ref a, h0, a, _, 1, .int n, rfl, rfl, SqL.of s.a, rfl, q⟩
theorem ne_ok {K : PySem.W.Frag} {H H' : Hp} {a b : Addr} {n : Int} {gs : List Int} {σ : St} {Q : Bool → Hp → Prop} (s : StA H a b n gs H') (h0 : σ[0]? = some (some (.ref a))) (q : ∀ H2, StA H a b n gs H2 → Q (!gs.isEmpty) H2) : tNE K σ H' Q := by
  refine d0_ok s h0 ⟨Nat.zero_le _, fun p hp => ?_⟩
  have s2 := s.new (o := .lst []) hp
  refine ⟨.list (gs.map PyData.int), .list [], .lst (SqL.of s2.b) (dp_ints gs), .lst (SqL.of upd_same) .nil, shaped_lints gs, shaped_lnil, ?_⟩
  rw [eqv_lnil]
  refine ⟨_, rfl, ?_⟩
  have e : (gs.map PyData.int).isEmpty = gs.isEmpty := by cases gs <;> rfl
  rw [e]
  exact q _ s2
theorem pop_ok {K : PySem.W.Frag} {H H' : Hp} {a b : Addr} {n : Int} {gs : List Int} {σ : St} {Q : VK} {g : Int} (s : StA H a b n gs H') (ne : a ≠ b) (h0 : σ[0]? = some (some (.ref a))) (hg : gs[gs.length - 1]? = some g) (q : ∀ H2, StA H a b n gs.dropLast H2 → Q (.int g) H2) : tBM0 K "list" rPop (tD0 K) σ H' Q := by
  refine d0_ok s h0 ⟨.inl ⟨rfl, _, SqL.of s.b⟩, b, gs.map V.int, .int g, rfl, rfl, s.b, ?_, ?_⟩
  · rw [List.length_map, List.getElem?_map, hg]; rfl
  · rw [← List.map_dropLast]
    exact q _ (s.setB ne (fun x hx => s.g x ((List.dropLast_sublist gs).subset hx)) (by rw [List.length_dropLast]; have := s.l; omega))
theorem pure_any {K : PySem.W.Frag} {vs : List V} {H : Hp} {Q : VK} {E : XK} (h : lowSp K spAny vs H Q E) : t_any K { nx := fun _ H' => Q .non H', rt := Q } (L2.start ["deal", "bound", "rest"] vs) H := by
  obtain ⟨w, ds, exf, Q2, R, rv, cl, ⟨m, e, hm, hmb, q⟩, fin, lk⟩ := h
  subst e
  cases rv with
  | cons r1 t =>
  cases t with
  | cons r2 t =>
  cases t
  obtain ⟨a, b, hda, rfl⟩ := r1
  cases r2
  obtain ⟨⟨⟨ne, nn⟩, n, gs, ha, hb, h0, h1, hg, hl⟩, _⟩ := R.deal a b hda
  have answer : ∀ (H' : Hp) (n' : Int) (gs' : List Int) (r : Int), StA H a b n' gs' H' → 0 ≤ n' → n' < 2147483647 → 0 ≤ r → r < m → Q (.int r) H' := fun H' n' gs' r s z0 z1 r0 r1 =>
    fin w [] H' (.int r) (.d (.int r)) (Le.refl w).R (deal_turn R hda s.k s.a s.b z0 z1 s.g s.l) (.int r) (fun k => by intro z; cases z) (q r r0 r1)
  have hdiv : ∀ x : Int, CDivW x m := fun x => wide_div hm hmb (by decide) (by decide)
  refine ⟨fun k σ H' => σ = [some (.ref a), some (.int m), none] ∧ ∃ gs' : List Int, k = gs'.length ∧ StA H a b n gs' H', ⟨gs.length, rfl, gs, rfl, fun _ _ _ _ h => h, ha, hb, hg, hl⟩, fun k σ H' hW => ?_⟩
  obtain ⟨rfl, gs', rfl, s⟩ := hW
  -- behind the loop
  have rest : ∀ H2 gs2, StA H a b n gs2 H2 → (tSeq (tIfS (tNE K) (tSeq (tAsg (tCB rInt1 (tCons (tBM0 K "list" rPop (tD0 K)) tNil)) (gName 2)) (tSeq (tDrop (tBM K "list" rAppend (tD0 K) (tCons (tOp (rI CDivW fun i j => .int (i / j)) (tVar 2) (tVar 1)) tNil)))
      (tRet (tOp rModZ (tVar 2) (tVar 1))))) tNext)
    (tSeq (tAsg (tOp rModZ (tCB rInt1 (tCons (tOp (rI0 fun i j => .int (i + j)) (tOp (rI CMulW fun i j => .int (i * j)) (tD1 K) (tC (.int 40693))) (tC (.int 71))) tNil)) (tC (.int 2147483647))) (gSub (tVar 0) (tC (.int 1)) rSetL))
    (tRet (tOp rModZ (tCB rInt1 (tCons (tOp (rI CDivW fun i j => .int (i / j)) (tD1 K) (tC (.int 64))) tNil)) (tVar 1))))) { nx := fun _ H' => Q .non H', rt := Q } [some (.ref a), some (.int m), none] H2 := by
    intro H2 gs2 s2
    refine ne_ok s2 rfl fun H3 s3 => ?_
    cases gs2 with
    | nil =>
      show (if (false = true) then _ else _)
      rw [if_neg Bool.false_ne_true]
      refine d1_ok s3 rfl ?_
      refine ⟨n, 40693, rfl, rfl, wide_mul (a := 31) (b := 20) (by omega) (by decide) (by decide) (by decide) (by decide), _, 71, rfl, rfl, .inl ⟨_, rfl, _, 2147483647, rfl, rfl, (by show (0 : Int) < 2147483647; decide), ?_⟩⟩
      have z0 : 0 ≤ (n * 40693 + 71) % 2147483647 := Int.emod_nonneg _ (by decide)
      have z1 : (n * 40693 + 71) % 2147483647 < 2147483647 := Int.emod_lt_of_pos _ (by decide)
      refine ⟨.ref a, rfl, a, _, 1, 1, rfl, rfl, s3.a, rfl, ?_⟩
      have s4 := s3.setA (n' := (n * 40693 + 71) % 2147483647) ne
      refine d1_ok s4 rfl ?_
      refine ⟨_, 64, rfl, rfl, wide_div (b := 7) (by decide) (by decide) (by decide) (by decide), .inl ⟨_, rfl, .int m, rfl, _, m, rfl, rfl, hm, ?_⟩⟩
      exact answer _ _ _ _ s4 z0 z1 (Int.emod_nonneg _ (by omega)) (Int.emod_lt_of_pos _ hm)
    | cons g0 gr =>
      show (if (true = true) then _ else _)
      rw [if_pos rfl]
      obtain ⟨g, hg'⟩ : ∃ g, (g0 :: gr)[(g0 :: gr).length - 1]? = some g := ⟨(g0 :: gr)[(g0 :: gr).length - 1]'(by simp), List.getElem?_eq_getElem _⟩
      have hgn : 0 ≤ g := s3.g g (List.mem_of_getElem? hg')
      refine pop_ok s3 ne rfl hg' fun H4 s4 => .inl ⟨g, rfl, ?_⟩
      refine d0_ok s4 rfl ⟨.inl ⟨rfl, _, SqL.of s4.b⟩, ?_⟩
      refine ⟨.int g, rfl, .int m, rfl, g, m, rfl, rfl, hdiv g, b, _, .int (g / m), rfl, rfl, s4.b, ?_, ?_⟩
      · rw [List.length_map]; exact small1000 s4.l
      · refine ⟨.int g, rfl, .int m, rfl, g, m, rfl, rfl, hm, ?_⟩
        have e : ((g0 :: gr).dropLast.map V.int ++ [V.int (g / m)]) = (((g0 :: gr).dropLast ++ [g / m]).map V.int) := by simp
        rw [e]
        have s5 := s4.setB (gs' := (g0 :: gr).dropLast ++ [g / m]) ne (fun x hx => by
          rcases List.mem_append.mp hx with h | h
          · exact s4.g x h
          · have : x = g / m := by simpa using h
            subst this
            exact Int.ediv_nonneg hgn (by omega)) (by
          have := s3.l
          simp only [List.length_append, List.length_dropLast, List.length_cons, List.length_nil] at this ⊢
          omega)
        exact answer _ _ _ _ s5 h0 h1 (Int.emod_nonneg _ (by omega)) (Int.emod_lt_of_pos _ hm)
  refine ne_ok s rfl fun H2 s2 => ?_
  cases gs' with
  | nil =>
    show (if (false = true) then _ else _)
    rw [if_neg Bool.false_ne_true]
    show (if (false = true) then _ else _)
    rw [if_neg Bool.false_ne_true]
    exact rest H2 [] s2
  | cons g0 gr =>
    show (if (true = true) then _ else _)
    rw [if_pos rfl]
    obtain ⟨g, hg'⟩ : ∃ g, (g0 :: gr)[(g0 :: gr).length - 1]? = some g := ⟨(g0 :: gr)[(g0 :: gr).length - 1]'(by simp), List.getElem?_eq_getElem _⟩
    refine d0_ok s2 rfl ?_
    refine ⟨1, rfl, b, _, -1, .int g, rfl, rfl, SqL.of s2.b, ?_, ?_⟩
    · unfold atI
      have e : ixN ((g0 :: gr).map V.int).length (-1) = some ((g0 :: gr).length - 1) := by
        unfold ixN
        rw [if_neg (by decide), if_pos (by simp only [List.length_map, List.length_cons]; omega), List.length_map]
        congr 1
        simp only [List.length_cons]; omega
      rw [e]
      show ((g0 :: gr).map V.int)[(g0 :: gr).length - 1]? = some (.int g)
      rw [List.getElem?_map, hg']; rfl
    · refine ⟨rfl, _, rfl, ?_⟩
      by_cases z : (V.int g) = V.int 0
      · rw [decide_eq_true z]
        show (if (true = true) then _ else _)
        rw [if_pos rfl]
        refine ⟨fun σ' H' => ∃ m', m' < (g0 :: gr).length ∧ (σ' = [some (.ref a), some (.int m), none] ∧ ∃ gs' : List Int, m' = gs'.length ∧ StA H a b n gs' H'), fun _ _ h => h, ?_⟩
        refine pop_ok s2 ne rfl hg' fun H3 s3 => ?_
        exact ⟨_, by rw [List.length_dropLast, List.length_cons]; omega, rfl, _, rfl, s3⟩
      · rw [decide_eq_false z]
        show (if (false = true) then _ else _)
        rw [if_neg Bool.false_ne_true]
        exact rest H2 (g0 :: gr) s2
end G

end
section
set_option maxHeartbeats 2000000
/-! GH: defs as facts of the program; the law's end. -/
namespace G
open PySem L2
/-- the def that the module's name x holds keeps this promise -/
structure Ca (P : Program) (w : World) (K : PySem.W.Frag) (mg : Str → Option Value) (base : Heap) (x : Str) (k : Nat) (sp : Sp2) : Prop where
  ex : ∃ f, FnG P w K mg base k f sp ∧ mg x = some (.ref f) ∧ PySem.W.keepIn K (.ref f) = true ∧ MonoSp sp
structure CaK (P : Program) (w : World) (K : PySem.W.Frag) (mg : Str → Option Value) (base : Heap) (x : Str) (k : Nat) (sp : Sp2) (ps ks : List Str) (n : Nat) (p : List Nat) : Prop where
  ex : ∃ f fd, FnOk P w K mg base (L2.CX P w) k f fd ps (lowSp K sp) ∧ KB K fd ps ks n p ∧ mg x = some (.ref f) ∧ PySem.W.keepIn K (.ref f) = true ∧ MonoSp sp
section
variable {X : Cx} {W : WX} {e : Expr} {es : List Expr} {tl tk' : TA2} {pos p0 : Pos} {x : Str} {j k : Nat} {sp : Sp2} {kws : List Keyword} {ps ks : List Str} {n : Nat} {p : List Nat}
theorem p2callC (c : Ca X.prog X.w X.K X.mg X.base x k sp) (hr : Room k X.A) (tk : Takes X W) (ha : PA2 X W (e :: es) tl) (hg : Gl X x := by rfl)
    (hdb : (x == ("__debug__" : Str)) = false := by decide) (he : starEach (e :: es) X.env = (false, eval e X.env) :: starEach es X.env := by rfl) (hpl : (backTo pos (starEach es X.env)).any (·.1) = false := by rfl) :
    PE2 X W (.Call (.Name x p0) (e :: es) [] pos) (t2Call sp tl) := by
  obtain ⟨f, F, hm, hk, hs⟩ := c.ex
  exact p2call F hs hr tk hm hk ha hg hdb he hpl
theorem p2callKC (c : CaK X.prog X.w X.K X.mg X.base x k sp ps ks n p) (hr : Room k X.A) (tk : Takes X W) (ha : PA2 X W (e :: es) tl) (hkw : PK2 X W kws tk') (hg : Gl X x := by rfl)
    (hall : (backToKw pos (keywordEach kws X.env)).all (·.1.isSome) = true := by rfl) (hks : (backToKw pos (keywordEach kws X.env)).filterMap (·.1) = ks := by rfl)
    (hdb : (x == ("__debug__" : Str)) = false := by decide) (he : starEach (e :: es) X.env = (false, eval e X.env) :: starEach es X.env := by rfl)
    (hpl : ((backTo pos (starEach (e :: es) X.env)).any (·.1) || (backToKw pos (keywordEach kws X.env)).any (·.1.isNone)) = false := by rfl) :
    PE2 X W (.Call (.Name x p0) (e :: es) kws pos) (t2CallK sp p n ks.length tl tk') := by
  obtain ⟨f, fd, F, hb, hm, hk, hs⟩ := c.ex
  exact p2callK F hb hs hr tk hm hk ha hkw hg hall hks hdb he hpl
theorem p2callK0C (c : CaK X.prog X.w X.K X.mg X.base x k sp ps ks 0 p) (hr : Room k X.A) (tk : Takes X W) (hkw : PK2 X W kws tk') (hg : Gl X x := by rfl)
    (hall : (backToKw pos (keywordEach kws X.env)).all (·.1.isSome) = true := by rfl) (hks : (backToKw pos (keywordEach kws X.env)).filterMap (·.1) = ks := by rfl)
    (hdb : (x == ("__debug__" : Str)) = false := by decide)
    (hpl : ((backTo pos (starEach [] X.env)).any (·.1) || (backToKw pos (keywordEach kws X.env)).any (·.1.isNone)) = false := by rfl) :
    PE2 X W (.Call (.Name x p0) [] kws pos) (t2CallK sp p 0 ks.length t2Nil tk') := by
  obtain ⟨f, fd, F, hb, hm, hk, hs⟩ := c.ex
  exact p2callK0 F hb hs hr tk hm hk hkw hg hall hks hdb hpl
end
/-- the law is True -/
def spLaw : Sp2 := fun _ ds Q => ∃ ns : List Int, ds = [.scr ns] ∧ ns.length ≤ 63 ∧ Q (.d (.bool true))
/-- a heap without its tables -/
def noTb (H : Hp) : Hp := fun a => match H a with
  | some (.tbl _) => none
  | u => u
theorem noTb_of {H : Hp} {a : Addr} {o : HO} (e : noTb H a = some o) : H a = some o := by
  unfold noTb at e
  split at e
  · cases e
  · exact e
theorem noTb_to {H : Hp} {a : Addr} {o : HO} (e : H a = some o) (n : ∀ ps, o ≠ .tbl ps) : noTb H a = some o := by
  unfold noTb
  rw [e]
  cases o <;> first | rfl | exact absurd rfl (n _)
theorem noTb_nt {H : Hp} : ∀ a ps, noTb H a ≠ some (.tbl ps) := fun a ps e => by
  have h := noTb_of e
  unfold noTb at e
  rw [h] at e; cases e
theorem noTb_l {K : PySem.W.Frag} {H : Hp} {a : Addr} {xs : List V} (h : SqL K H a xs) : SqL K (noTb H) a xs := by
  rcases h with h | h
  · rcases h with h | ⟨o, h⟩
    · exact .inl (.inl (noTb_to h fun ps e => by cases e))
    · exact .inl (.inr ⟨o, noTb_to h fun ps e => by cases e⟩)
  · exact .inr h
theorem law_sp {K : PySem.W.Frag} {H : Hp} {a : Addr} {ns : List Int} (hT : LamX.Tabs Tbs H) (hS : SqL K H a (ns.map V.int)) (hl : ns.length ≤ 63) : lowSp K spLaw [.ref a] H (fun v _ => v = .bl true) fun _ _ _ => False := by
  refine ⟨⟨noTb H, fun _ => none, [], []⟩, [.scr ns], fun _ _ => False, fun z => z = .d (.bool true), ?_, .cons ⟨a, rfl, noTb_l hS⟩ .nil, fun x hx => ?_, ⟨ns, rfl, hl, rfl⟩, fun w' m' H' v x l R r c q => ?_, ⟨fun _ _ _ _ _ _ _ _ _ _ _ _ _ z => z.elim, fun _ _ _ _ _ _ _ _ z => z.elim⟩⟩
  · exact ⟨fun _ _ h => noTb_of h, (fun _ _ h => by cases h), (fun _ _ h => by cases h), rfl, (fun k a ow h1 h2 => by simp at h2), List.nodup_nil, (fun a b e => by simp at e), ⟨hT, noTb_nt, fun a ps e => by cases e⟩⟩
  · have e : x = .scr ns := by simpa using hx
    subst e
    intro k z; cases z
  · subst q
    cases r; rfl
end G

end
section
set_option maxHeartbeats 2000000
/-! GI: is True, is False; in over plain data; a call that is never reached; evaluation of readings. -/
namespace G
open PySem L2
section
variable {X : Cx} {W : WX} {e : Expr}
theorem relV_bool {x : V} {v : Value} {b : Bool} (r : RelV x v) : (v == Value.bool b) = decide (x = .bl b) := by
  cases x with
  | non => cases r; simp
  | bl c => cases r; by_cases h : c = b <;> simp [h]
  | int _ => obtain ⟨t, rfl⟩ := r; simp
  | str _ => obtain ⟨t, rfl⟩ := r; simp
  | byt _ => obtain ⟨t, rfl⟩ := r; simp
  | flt _ => obtain ⟨t, rfl⟩ := r; simp
  | ref _ => cases r; simp
  | ty _ => cases r; simp
theorem op_isBG : OpR X (compareOp .Is) (fun x y H Q => ∃ b, y = .bl b ∧ Q (.bl (decide (x = .bl b))) H) := by
  intro pins s σ H x y v u Q I rx ry h
  obtain ⟨b, rfl, q⟩ := h
  cases ry
  have g : EP X pins σ Q (Value.bool (v == Value.bool b)) s := ⟨.bl _, H, I, (by rw [relV_bool rx]; rfl), q⟩
  cases x with
  | non => cases rx; exact PySem.wpAny_pure g
  | bl c => cases rx; exact PySem.wpAny_pure g
  | int _ => obtain ⟨t, rfl⟩ := rx; exact PySem.wpAny_pure g
  | str _ => obtain ⟨t, rfl⟩ := rx; exact PySem.wpAny_pure g
  | byt _ => obtain ⟨t, rfl⟩ := rx; exact PySem.wpAny_pure g
  | flt _ => obtain ⟨t, rfl⟩ := rx; exact PySem.wpAny_pure g
  | ref _ => cases rx; exact PySem.wpAny_pure g
  | ty _ => cases rx; exact PySem.wpAny_pure g
theorem op_notBG : OpR X (compareOp .IsNot) (fun x y H Q => ∃ b, y = .bl b ∧ Q (.bl (!decide (x = .bl b))) H) := by
  intro pins s σ H x y v u Q I rx ry h
  obtain ⟨b, rfl, q⟩ := h
  cases ry
  have g : EP X pins σ Q (Value.bool (!(v == Value.bool b))) s := ⟨.bl _, H, I, (by rw [relV_bool rx]; rfl), q⟩
  cases x with
  | non => cases rx; exact PySem.wpAny_pure g
  | bl c => cases rx; exact PySem.wpAny_pure g
  | int _ => obtain ⟨t, rfl⟩ := rx; exact PySem.wpAny_pure g
  | str _ => obtain ⟨t, rfl⟩ := rx; exact PySem.wpAny_pure g
  | byt _ => obtain ⟨t, rfl⟩ := rx; exact PySem.wpAny_pure g
  | flt _ => obtain ⟨t, rfl⟩ := rx; exact PySem.wpAny_pure g
  | ref _ => cases rx; exact PySem.wpAny_pure g
  | ty _ => cases rx; exact PySem.wpAny_pure g
/-- is this bool -/
def isBool (b : Bool) : DV → Bool
  | .d (.bool c) => decide (c = b)
  | .raw v => decide (v = .bl b)
  | _ => false
theorem isBool_ok {w : Wd} {v : V} {x : DV} {b : Bool} (r : RepV X.K w v x) : decide (v = .bl b) = isBool b x := by
  cases x with
  | d x => cases x <;> cases r <;> simp [isBool]
  | o k => obtain ⟨a, _, rfl⟩ := r; simp [isBool]
  | deal => obtain ⟨a, b, _, rfl⟩ := r; simp [isBool]
  | scr ns => obtain ⟨a, rfl, _⟩ := r; simp [isBool]
  | raw u => cases r; rfl
def q2IsB (neg : Bool) : R22 := fun x y st Q => match y with
  | .d (.bool b) => Q (.d (.bool (neg ^^ isBool b x))) st
  | _ => False
theorem q2IsB_mono {neg : Bool} : Mono22 (q2IsB neg) := fun x y st Q Q' h q => by
  unfold q2IsB at q ⊢
  split at q
  · exact h _ _ q
  · exact q.elim
theorem o2isB : OpR2 X (compareOp .Is) (q2IsB false) := by
  refine ⟨fun w st σ H x y dx dy Q R rx ry q => ?_, q2IsB_mono⟩
  unfold q2IsB at q
  split at q
  · cases ry
    refine ⟨_, op_isBG, _, rfl, fin_d R (.bl _) ?_⟩
    rw [isBool_ok rx]; simpa using q
  · exact q.elim
theorem o2notB : OpR2 X (compareOp .IsNot) (q2IsB true) := by
  refine ⟨fun w st σ H x y dx dy Q R rx ry q => ?_, q2IsB_mono⟩
  unfold q2IsB at q
  split at q
  · cases ry
    refine ⟨_, op_notBG, _, rfl, fin_d R (.bl _) ?_⟩
    rw [isBool_ok rx]; simpa using q
  · exact q.elim
/-- a call that is never reached -/
def t2Never : TE2 := fun _ _ _ => False
theorem p2never : PE2 X W e t2Never := by
  refine ⟨⟨fun pins s σ H Q I q => ?_⟩, fun ex st Q Q' h q => q⟩
  obtain ⟨w, st, ex, R, l, q⟩ := q
  exact q.elim
end
/-! ### reckoning with readings -/
theorem rd_d (st : S) (x : PyData) : rd st (.d x) = some x := rfl
theorem seq_i {t u : TS2} {ex : EX} {D : Ends2} {st : S} (h : t ex { D with nx := u ex D } st) : s2Seq t u ex D st := h
theorem if_i {tc : TT2} {t u : TS2} {ex : EX} {D : Ends2} {st : S} (h : tc ex st fun b st1 => if b = true then t ex D st1 else u ex D st1) : s2If tc t u ex D st := h
theorem get_at {α : Type} {xs : List α} {i : Nat} (h : i < xs.length) : xs[i]? = some xs[i] := List.getElem?_eq_getElem h
/-- a turn by turn for: what stands behind i items is I i -/
theorem for_i {ti : TI2} {g : TG2} {tb : TS2} {ex : EX} {D : Ends2} {st : S} (h : ti ex st fun items st1 => ∃ I : Nat → S → Prop, I 0 st1 ∧
  (∀ i x st', items[i]? = some x → I i st' → g ex (.d x) st' fun st2 => tb ex { nx := I (i + 1), rt := D.rt, bk := D.nx, ct := I (i + 1) } st2) ∧ ∀ st', I items.length st' → D.nx st') : s2For ti g tb ex D st := h
/-- a comprehension without a test whose items are reckoned purely: f of each -/
theorem lc_map {items : List PyData} {st1 : S} {bind : PyData → (S → Prop) → Prop} {te : TE2} {Q : KD} (f : PyData → PyData) (hz : items.length < sizeLine)
    (h : ∀ x, x ∈ items → bind x fun st2 => te ex0 st2 fun z st4 => asD z st4 fun y st5 => st5.m.take st1.m.length = st1.m ∧ y = f x) (q : Q (.o st1.m.length) (st1.new (items.map f))) (hb : ∀ x (R R' : S → Prop), (∀ s, R s → R' s) → bind x R → bind x R') (hm : MonoE te) : lcK items st1 bind t2Yes te Q := by
  refine ⟨fun k acc => acc = (items.take k).map f, rfl, fun k x acc hx e => ?_, fun acc e => ?_⟩
  · subst e
    refine hb x _ _ (fun st2 h2 => ?_) (h x (List.mem_of_getElem? hx))
    refine (fun h => h) (?_ : te ex0 st2 fun z st4 => asD z st4 fun y st5 => (st5.m.take st1.m.length = st1.m ∧ ((items.take k).map f).length < sizeLine) ∧ ((items.take k).map f) ++ [y] = (items.take (k + 1)).map f)
    refine hm ex0 st2 _ _ (fun z st4 h4 => asD_mono (fun y st5 h5 => ⟨⟨h5.1, ?_⟩, ?_⟩) h4) h2
    · rw [List.length_map, List.length_take]; omega
    · rw [h5.2, List.take_add_one, hx]; simp
  · subst e
    rw [List.take_length]; exact q
theorem bind1_mono {i : Nat} {st : S} (x : PyData) (R R' : S → Prop) (h : ∀ s, R s → R' s) (q : bind1 i st x R) : bind1 i st x R' := h _ q
theorem bind2_mono {i j : Nat} {st : S} (x : PyData) (R R' : S → Prop) (h : ∀ s, R s → R' s) (q : bind2 i j st x R) : bind2 i j st x R' := by
  unfold bind2 at q ⊢
  split at q
  · exact h _ q
  · exact q.elim
/-- a comprehension [x for x in items if p x] -/
theorem lc_filter {items : List PyData} {st1 : S} {bind : PyData → (S → Prop) → Prop} {tt : TT2} {te : TE2} {Q : KD} (p : PyData → Bool) (f : PyData → PyData) (hz : items.length < sizeLine)
    (h : ∀ x, x ∈ items → bind x fun st2 => tt ex0 st2 fun b st3 => b = p x ∧ (p x = true → te ex0 st3 fun z st4 => asD z st4 fun y st5 => st5.m.take st1.m.length = st1.m ∧ y = f x) ∧ (p x = false → st3.m.take st1.m.length = st1.m)) (q : Q (.o st1.m.length) (st1.new ((items.filter p).map f)))
    (hb : ∀ x (R R' : S → Prop), (∀ s, R s → R' s) → bind x R → bind x R') (ht : MonoT tt) (hm : MonoE te) : lcK items st1 bind tt te Q := by
  refine ⟨fun k acc => acc = ((items.take k).filter p).map f, rfl, fun k x acc hx e => ?_, fun acc e => ?_⟩
  · subst e
    have hl : (((items.take k).filter p).map f).length < sizeLine := by
      rw [List.length_map]
      refine Nat.lt_of_le_of_lt (List.length_filter_le _ _) ?_
      rw [List.length_take]; omega
    have tk : items.take (k + 1) = items.take k ++ [x] := by rw [List.take_add_one, hx]; rfl
    refine hb x _ _ (fun st2 h2 => ht ex0 st2 _ _ (fun b st3 h3 => ?_) h2) (h x (List.mem_of_getElem? hx))
    obtain ⟨rfl, h4, h5⟩ := h3
    cases hp : p x with
    | true =>
      rw [if_pos rfl]
      refine hm ex0 st3 _ _ (fun z st4 h6 => asD_mono (fun y st5 h7 => ⟨⟨h7.1, hl⟩, ?_⟩) h6) (h4 hp)
      show ((items.take k).filter p).map f ++ [y] = ((items.take (k + 1)).filter p).map f
      rw [h7.2, tk, List.filter_append, List.map_append]
      simp [hp]
    | false =>
      rw [if_neg Bool.false_ne_true]
      refine ⟨h5 hp, ?_⟩
      show ((items.take k).filter p).map f = ((items.take (k + 1)).filter p).map f
      rw [tk, List.filter_append]
      simp [hp]
  · subst e
    rw [List.take_length]; exact q
end G

end
section
set_option maxHeartbeats 2000000
/-! GJ: an expression whose own lists are forgotten; steps through readings. -/
namespace G
open PySem L2
/-- te's answer is closed; what lists it made besides are forgotten -/
def scK (st0 : S) (x : DV) (st1 : S) (Q : KD) : Prop := st1.s = st0.s ∧ asC x st1 fun y st2 => st2.m.take st0.m.length = st0.m ∧ Q y st0
def t2Sc (te : TE2) : TE2 := fun ex st Q => te ex st fun x st1 => scK st x st1 Q
theorem scK_mono {st0 st1 : S} {x : DV} {Q Q' : KD} (h : ∀ x s, Q x s → Q' x s) (q : scK st0 x st1 Q) : scK st0 x st1 Q' := ⟨q.1, asC_mono (fun _ _ q => ⟨q.1, h _ _ q.2⟩) q.2⟩
/-- a world whose later lists are forgotten -/
def Wd.cut (w : Wd) (n : Nat) : Wd := ⟨w.D, w.F, w.r.take n, w.da⟩
theorem le_cut {w w2 : Wd} {n : Nat} (l : Le w w2) (h : w.r.length ≤ n) : Le w (w2.cut n) := ⟨l.D, l.F, fun k a e => by
  have hk : k < w.r.length := (List.getElem?_eq_some_iff.mp e).1
  show (w2.r.take n)[k]? = some a
  rw [List.getElem?_take, if_pos (by omega)]; exact l.r k a e, l.da⟩
theorem repH_cut {K : PySem.W.Frag} {w : Wd} {m m0 : List Own} {H : Hp} (R : RepH K w m H) (hm : m.take m0.length = m0) : RepH K (w.cut m0.length) m0 H := by
  have hlen : m0.length ≤ m.length := by
    have := congrArg List.length hm
    rw [List.length_take] at this; omega
  have hsub : ∀ {α : Type} (xs : List α) (n k : Nat), k < n → (xs.take n)[k]? = xs[k]? := fun xs n k h => by rw [List.getElem?_take, if_pos h]
  refine ⟨R.ed, R.ef, R.df, ?_, fun k a ow h1 h2 => ?_, ?_, fun a b hd => ?_, R.tb⟩
  · show (w.r.take m0.length).length = _
    rw [List.length_take, R.len]; omega
  · have h1' : (w.r.take m0.length)[k]? = some a := h1
    rw [List.getElem?_take] at h1'
    split at h1'
    · rename_i hk
      rw [← hm, hsub _ _ _ hk] at h2
      exact R.own k a ow h1' h2
    · cases h1'
  · exact R.nd.sublist (List.take_sublist _ _)
  · obtain ⟨d1, d2, d3, d4, d5, d6, d7⟩ := R.deal a b hd
    exact ⟨d1, d2, d3, d4, d5, fun h => d6 (List.mem_of_mem_take h), fun h => d7 (List.mem_of_mem_take h)⟩
theorem repV_cut {K : PySem.W.Frag} {w : Wd} {n : Nat} {v : V} {y : DV} (r : RepV K w v y) (h : ∀ k, y = .o k → k < n) : RepV K (w.cut n) v y := by
  cases y with
  | d x => exact r
  | o k =>
    obtain ⟨a, h1, h2⟩ := r
    refine ⟨a, ?_, h2⟩
    show (w.r.take n)[k]? = some a
    rw [List.getElem?_take, if_pos (h k rfl)]; exact h1
  | deal => exact r
  | scr ns => exact r
  | raw u => exact r
theorem repL_cut {K : PySem.W.Frag} {w : Wd} {n : Nat} : ∀ {σ : List (Option V)} {s : List (Option DV)}, RepL K w σ s → (∀ (j k : Nat), s[j]? = some (some (.o k)) → k < n) → RepL K (w.cut n) σ s
  | _, _, .nil, _ => .nil
  | _, _, .cons (a := v) (b := x) r t, h => .cons (by
      cases v <;> cases x <;> first | exact r | exact repV_cut r (fun k e => h 0 k (by rw [e]; rfl))) (repL_cut t fun j k e => h (j + 1) k e)
theorem p2sc {X : Cx} {W : WX} {e : Expr} {te : TE2} (he : PE2 X W e te) : PE2 X W e (t2Sc te) := by
  refine ⟨peImp he.pe fun σ H Q q => ?_, fun ex st Q Q' h q => he.mono ex st _ _ (fun x st1 q1 => scK_mono h q1) q⟩
  obtain ⟨w, st, ex, R, l, q⟩ := q
  refine low_of he.mono R l q fun x st1 w1 H1 v q1 l1 R1 k1 rv => ?_
  obtain ⟨w2, st2, y, l2, R2, rv2, cl, ⟨hm, q2⟩, _⟩ := asC_ok R1 rv q1.2
  have l3 : Le w (w2.cut st.m.length) := le_cut (l1.trans l2) (Nat.le_of_eq R.h.len)
  exact q2 _ _ _ l3 ⟨repH_cut R2.h hm, RepL.up l3 R.l⟩ (repV_cut rv2 fun k e => absurd e (cl k))
/-- x = te, its lists forgotten -/
theorem p2s_sc {X : Cx} {W : WX} {s : Stmt} {te : TE2} {i : Nat} (hm : MonoE te) (h : PS2 X W s (s2Asg te (g2Name i))) : PS2 X W s (s2Asg (t2Sc te) (g2Name i)) := by
  refine ⟨psImp h.ps fun D σ H q => ?_⟩
  obtain ⟨w, st, ex, D2, R, l, le, q⟩ := q
  refine ⟨w, st, ex, ⟨fun st' => ∀ w' σ' H', Le w w' → RepS X.K w' st' σ' H' → D.nx σ' H', D2.rt, D2.bk, D2.ct⟩, R, l, ⟨fun w' st' σ' H' l2 R2 f => f w' σ' H' l2 R2, le.rt, le.bk, le.ct⟩, ?_⟩
  refine hm ex st _ _ (fun x st1 q1 w' σ' H' l1 R1 => ?_) q
  obtain ⟨hs, q1⟩ := q1
  have hn : ∀ (j k : Nat), st.s[j]? = some (some (.o k)) → k < st.m.length := fun j k e => by
    obtain ⟨v, _, a, h1, _⟩ := RepL.get R.l e
    rw [← R.h.len]; exact (List.getElem?_eq_some_iff.mp h1).1
  -- a state whose place i holds x alone
  have R1' : RepL X.K w' σ' (st.s.set i (some x)) := by
    have := R1.l
    rw [show (st1.set i x).s = st1.s.set i (some x) from rfl, hs] at this
    exact this
  by_cases hi : i < st.s.length
  · have hx : ∃ v, σ'[i]? = some (some v) ∧ RepV X.K w' v x := RepL.get R1' (by rw [List.getElem?_set_self hi])
    obtain ⟨v, hv, rv⟩ := hx
    obtain ⟨w2, m2, y, l2, RH, rv2, cl, hm2, q2⟩ : ∃ w2 m2 y, Le w' w2 ∧ RepH X.K w2 m2 H' ∧ RepV X.K w2 v y ∧ Closed y ∧ m2.take st.m.length = st.m ∧ g2Name i ex y st D2.nx := by
      have RS : RepS X.K w' ⟨[], st1.m⟩ [] H' := ⟨R1.h, .nil⟩
      have q1' : asC x ⟨[], st1.m⟩ fun y st2 => st2.m.take st.m.length = st.m ∧ g2Name i ex y st D2.nx := by
        unfold asC at q1 ⊢
        split at q1
        · rename_i k
          show match (⟨[], st1.m⟩ : S).m[k]? with | some ow => _ | none => _
          cases e : st1.m[k]? with
          | none => rw [e] at q1; exact q1.elim
          | some ow => rw [e] at q1; simp only [e]; exact q1
        · rename_i hx
          cases x with
          | o k => exact absurd rfl (hx k)
          | _ => exact q1
      obtain ⟨w2, st2, y, l2, R2, rv2, cl, ⟨hm, q2⟩, _⟩ := asC_ok RS rv q1'
      exact ⟨w2, st2.m, y, l2, R2.h, rv2, cl, hm, q2⟩
    have l3 : Le w (w2.cut st.m.length) := le_cut (l1.trans l2) (Nat.le_of_eq R.h.len)
    have hset : (σ'.set i (some v)) = σ' := by
      apply List.ext_getElem?; intro j
      by_cases e : i = j
      · subst e
        have hlt : i < σ'.length := (List.getElem?_eq_some_iff.mp hv).1
        rw [List.getElem?_set_self hlt, hv]
      · rw [List.getElem?_set_ne e]
    refine le.nx (w2.cut st.m.length) (st.set i y) σ' H' l3 ⟨repH_cut RH hm2, ?_⟩ q2
    have R3 : RepL X.K w2 σ' (st.s.set i (some y)) := by
      have := RepL.set (v := some v) (x := some y) rv2 i (RepL.up l2 R1')
      rw [hset, List.set_set] at this
      exact this
    refine repL_cut R3 fun j k e => ?_
    rw [show (st.set i y).s = st.s.set i (some y) from rfl, List.getElem?_set] at e
    split at e
    · first
        | (cases e; exact absurd rfl (cl k))
        | (split at e
           · cases e; exact absurd rfl (cl k)
           · cases e)
    · exact hn j k e
  · have hs' : st.s.set i (some x) = st.s := List.set_eq_of_length_le (by omega)
    obtain ⟨w2, m2, l2, RH, hm2, y, q2⟩ : ∃ w2 m2, Le w' w2 ∧ RepH X.K w2 m2 H' ∧ m2.take st.m.length = st.m ∧ ∃ y, g2Name i ex y st D2.nx := by
      unfold asC at q1
      cases x with
      | o k =>
        simp only at q1
        cases e : st1.m[k]? with
        | none => rw [e] at q1; exact q1.elim
        | some ow =>
          have hk : k < w'.r.length := by rw [R1.h.len]; exact (List.getElem?_eq_some_iff.mp e).1
          rw [e] at q1
          have RS : RepS X.K w' ⟨[], st1.m⟩ [] H' := ⟨R1.h, .nil⟩
          have q1' : asC (.o k) ⟨[], st1.m⟩ fun y st2 => st2.m.take st.m.length = st.m ∧ g2Name i ex y st D2.nx := by
            simp only [asC, e]; exact q1
          obtain ⟨w2, st2, y, l2, R2, rv2, cl, ⟨hm, q2⟩, _⟩ := asC_ok (x := .o k) (v := .ref (w'.r[k])) RS ⟨_, List.getElem?_eq_getElem hk, rfl⟩ q1'
          exact ⟨w2, st2.m, l2, R2.h, hm, y, q2⟩
      | d z => exact ⟨w', st1.m, Le.refl _, R1.h, q1.1, _, q1.2⟩
      | deal => exact ⟨w', st1.m, Le.refl _, R1.h, q1.1, _, q1.2⟩
      | scr ns => exact ⟨w', st1.m, Le.refl _, R1.h, q1.1, _, q1.2⟩
      | raw u => exact ⟨w', st1.m, Le.refl _, R1.h, q1.1, _, q1.2⟩
    have l3 : Le w (w2.cut st.m.length) := le_cut (l1.trans l2) (Nat.le_of_eq R.h.len)
    have hy : (st.set i y) = st := by
      show (⟨st.s.set i (some y), st.m⟩ : S) = st
      rw [List.set_eq_of_length_le (by omega)]
    refine le.nx (w2.cut st.m.length) (st.set i y) σ' H' l3 ?_ q2
    rw [hy]
    refine ⟨repH_cut RH hm2, ?_⟩
    rw [hs'] at R1'
    exact repL_cut (RepL.up l2 R1') hn
section
variable {ex : EX} {st : S} {Q : KD} {s : List (Option DV)} {m : List Own} {n : S → Prop} {r : DV → Prop} {b c : S → Prop} {x y : DV}
theorem k_sc {te : TE2} (h : te ex st fun x st1 => scK st x st1 Q) : t2Sc te ex st Q := h
theorem sc_new {xs : List PyData} (h : Q (.d (.list xs)) st) : scK st (.o st.m.length) (st.new xs) Q := by
  refine ⟨rfl, ?_⟩
  unfold asC
  have e : (st.new xs).m[st.m.length]? = some ⟨xs, true⟩ := by simp [S.new]
  simp only [e]
  refine ⟨?_, h⟩
  simp [S.frz, S.new]
theorem sc_d {x : PyData} (h : Q (.d x) st) : scK st (.d x) st Q := ⟨rfl, List.take_length, h⟩
theorem sc_deal (h : Q .deal st) : scK st .deal st Q := ⟨rfl, List.take_length, h⟩
theorem sc_raw {v : V} (h : Q (.raw v) st) : scK st (.raw v) st Q := ⟨rfl, List.take_length, h⟩
/-! statements -/
theorem k_seq {t u : TS2} (h : t ex ⟨u ex ⟨n, r, b, c⟩, r, b, c⟩ st) : s2Seq t u ex ⟨n, r, b, c⟩ st := h
theorem k_next (h : n st) : s2Next ex ⟨n, r, b, c⟩ st := h
theorem k_break (h : b st) : s2Break ex ⟨n, r, b, c⟩ st := h
theorem k_cont (h : c st) : s2Cont ex ⟨n, r, b, c⟩ st := h
theorem k_drop {te : TE2} (h : te ex st fun _ st1 => n st1) : s2Drop te ex ⟨n, r, b, c⟩ st := h
theorem k_ret {te : TE2} (h : te ex st fun x st1 => asC x st1 fun y _ => r y) : s2Ret te ex ⟨n, r, b, c⟩ st := h
theorem k_retN (h : r (.d .none)) : s2RetN ex ⟨n, r, b, c⟩ st := h
theorem k_if {tc : TT2} {t u : TS2} (h : tc ex st fun k st1 => if k = true then t ex ⟨n, r, b, c⟩ st1 else u ex ⟨n, r, b, c⟩ st1) : s2If tc t u ex ⟨n, r, b, c⟩ st := h
theorem k_asg {te : TE2} {g : TG2} (h : te ex st fun x st1 => g ex x st1 n) : s2Asg te g ex ⟨n, r, b, c⟩ st := h
theorem k_par {i j : Nat} {ta tb : TE2} (h : ta ex st fun x st1 => tb ex st1 fun y st2 => g2Name i ex x st2 fun st3 => g2Name j ex y st3 n) : s2Par i j ta tb ex ⟨n, r, b, c⟩ st := h
theorem k_par3 {i j k : Nat} {ta tb tc : TE2} (h : ta ex st fun x st1 => tb ex st1 fun y st2 => tc ex st2 fun z st3 => g2Name i ex x st3 fun st4 => g2Name j ex y st4 fun st5 => g2Name k ex z st5 n) : s2Par3 i j k ta tb tc ex ⟨n, r, b, c⟩ st := h
/-! continuations -/
def tK (x : DV) (st1 : S) (Q : Bool → S → Prop) : Prop := match rd st1 x with
  | some (.bool b) => Q b st1
  | some y => match truth y with
    | some b => Q b st1
    | none => False
  | none => False
def bK (x : DV) (st1 : S) (Q : Bool → S → Prop) : Prop := match rd st1 x with
  | some (.bool b) => Q b st1
  | _ => False
def partK (x : DV) (st1 : S) (Q : Option Int → S → Prop) : Prop := match rd st1 x with
  | some (.int i) => Q (some i) st1
  | _ => False
def andK (tb : TE2) (ex : EX) (x : DV) (st1 : S) (Q : KD) : Prop := match rd st1 x with
  | some (.bool c) => if c = true then tb ex st1 Q else Q (.d (.bool false)) st1
  | _ => False
def orK (tb : TE2) (ex : EX) (x : DV) (st1 : S) (Q : KD) : Prop := match rd st1 x with
  | some (.bool c) => if c = true then Q (.d (.bool true)) st1 else tb ex st1 Q
  | _ => False
def notK (x : DV) (st1 : S) (Q : KD) : Prop := match rd st1 x with
  | some (.bool c) => Q (.d (.bool (!c))) st1
  | _ => False
def isK (T U : String) (x : DV) (st1 : S) (Q : KD) : Prop := match rd st1 x with
  | some y => (okTy T = true ∧ okTy U = true) ∧ Q (.d (.bool (isTy y T || isTy y U))) st1
  | none => False
def appK2 (k : Nat) (z : PyData) (st3 : S) (Q : KD) : Prop := match st3.m[k]? with
  | some ow => (ow.live = true ∧ ow.xs.length < sizeLine) ∧ Q (.d .none) (st3.put k (ow.xs ++ [z]))
  | none => False
def appK (te : TE2) (ex : EX) (x : DV) (st1 : S) (Q : KD) : Prop := match x with
  | .o k => te ex st1 fun y st2 => asD y st2 fun z st3 => appK2 k z st3 Q
  | _ => False
def popK (x : DV) (st1 : S) (Q : KD) : Prop := match x with
  | .o k => match st1.m[k]? with
    | some ow => match ow.xs[ow.xs.length - 1]? with
      | some y => ow.live = true ∧ Q (.d y) (st1.put k ow.xs.dropLast)
      | none => False
    | none => False
  | _ => False
def rng1K (x : DV) (st1 : S) (Q : List PyData → S → Prop) : Prop := match rd st1 x with
  | some (.int j) => (-(2 ^ 62) ≤ j ∧ j < 2 ^ 62) ∧ Q (rangeD 0 j.toNat) st1
  | _ => False
def rng2K (x y : DV) (st2 : S) (Q : List PyData → S → Prop) : Prop := match rd st2 x, rd st2 y with
  | some (.int i), some (.int j) => (-(2 ^ 62) ≤ i ∧ i < 2 ^ 62 ∧ -(2 ^ 62) ≤ j ∧ j < 2 ^ 62) ∧ Q (rangeD i (j - i).toNat) st2
  | _, _ => False
def downK (x y : DV) (st2 : S) (Q : List PyData → S → Prop) : Prop := match rd st2 x, rd st2 y with
  | some (.int i), some (.int j) => (-(2 ^ 62) ≤ i ∧ i < 2 ^ 62 ∧ -(2 ^ 62) ≤ j ∧ j < 2 ^ 62) ∧ Q (downD i (i - j).toNat) st2
  | _, _ => False
def augK (i : Nat) (f : Int → Int → Int) (x y : DV) (st1 : S) (R : S → Prop) : Prop := match rd st1 x, rd st1 y with
  | some (.int m), some (.int n) => R (st1.set i (.d (.int (f m n))))
  | _, _ => False
theorem k_aug {i : Nat} {f : Int → Int → Int} {te : TE2} (h1 : st.s[i]? = some (some x)) (h : te ex st fun y st1 => augK i f x y st1 n) : s2Aug i f te ex ⟨n, r, b, c⟩ st := by
  unfold s2Aug
  rw [h1]
  exact h
theorem k_augK {i : Nat} {f : Int → Int → Int} {p q : Int} {s' : List (Option DV)} {R : S → Prop} (h1 : s.set i (some (.d (.int (f p q)))) = s') (h : R ⟨s', m⟩) : augK i f (.d (.int p)) (.d (.int q)) ⟨s, m⟩ R := by subst h1; exact h
theorem k_t {te : TE2} {Q : Bool → S → Prop} (h : te ex st fun x st1 => tK x st1 Q) : t2T te ex st Q := h
theorem k_tK {k : Bool} {Q : Bool → S → Prop} (h : Q k st) : tK (.d (.bool k)) st Q := h
theorem k_b {te : TE2} {Q : Bool → S → Prop} (h : te ex st fun x st1 => bK x st1 Q) : t2B te ex st Q := h
theorem k_bK {k : Bool} {Q : Bool → S → Prop} (h : Q k st) : bK (.d (.bool k)) st Q := h
theorem k_part {te : TE2} {Q : Option Int → S → Prop} (h : te ex st fun x st1 => partK x st1 Q) : t2Part te ex st Q := h
theorem k_partK {k : Int} {Q : Option Int → S → Prop} (h : Q (some k) st) : partK (.d (.int k)) st Q := h
theorem k_andV {ta tb : TE2} (h : ta ex st fun x st1 => andK tb ex x st1 Q) : t2AndV ta tb ex st Q := h
theorem k_andK {k : Bool} {tb : TE2} (h : if k = true then tb ex st Q else Q (.d (.bool false)) st) : andK tb ex (.d (.bool k)) st Q := h
theorem k_orV {ta tb : TE2} (h : ta ex st fun x st1 => orK tb ex x st1 Q) : t2OrV ta tb ex st Q := h
theorem k_orK {k : Bool} {tb : TE2} (h : if k = true then Q (.d (.bool true)) st else tb ex st Q) : orK tb ex (.d (.bool k)) st Q := h
theorem k_notV {ta : TE2} (h : ta ex st fun x st1 => notK x st1 Q) : t2NotV ta ex st Q := h
theorem k_notK {k : Bool} (h : Q (.d (.bool (!k))) st) : notK (.d (.bool k)) st Q := h
theorem k_isT {te : TE2} {T U : String} (h : te ex st fun x st1 => isK T U x st1 Q) : t2Isi2 te T U ex st Q := h
theorem k_isK {T U : String} {y : PyData} (h1 : rd st x = some y) (h2 : okTy T = true ∧ okTy U = true) (h : Q (.d (.bool (isTy y T || isTy y U))) st) : isK T U x st Q := by
  simp only [isK, h1]; exact ⟨h2, h⟩
theorem k_isi {T : String} {y : PyData} (h1 : rd st x = some y) (h2 : okTy T = true) (h : Q (.d (.bool (isTy y T))) st) : c2Isi [x, .raw (.ty T)] st Q := by
  simp only [c2Isi, h1, tyNames, h2, ↓reduceIte, List.any_cons, List.any_nil, Bool.or_false]; exact ⟨trivial, h⟩
theorem k_app {to te : TE2} (h : to ex st fun x st1 => appK te ex x st1 Q) : t2App to te ex st Q := h
theorem k_appK {te : TE2} {k : Nat} (h : te ex st fun y st2 => asD y st2 fun z st3 => appK2 k z st3 Q) : appK te ex (.o k) st Q := h
theorem k_appK2 {k : Nat} {z : PyData} {xs : List PyData} {m' : List Own} (h1 : m[k]? = some ⟨xs, true⟩) (h2 : m.set k ⟨xs ++ [z], true⟩ = m') (h : Q (.d .none) ⟨s, m'⟩) (hz : xs.length < sizeLine) : appK2 k z ⟨s, m⟩ Q := by
  subst h2; simp only [appK2, h1]; exact ⟨⟨trivial, hz⟩, h⟩
theorem k_pop {to : TE2} (h : to ex st fun x st1 => popK x st1 Q) : t2Pop to ex st Q := h
theorem k_popK {k : Nat} {xs zs : List PyData} {z : PyData} {m' : List Own} (h1 : m[k]? = some ⟨xs, true⟩) (h3 : xs = zs ++ [z]) (h2 : m.set k ⟨zs, true⟩ = m') (h : Q (.d z) ⟨s, m'⟩) : popK (.o k) ⟨s, m⟩ Q := by
  subst h2; subst h3
  have e2 : (zs ++ [z])[(zs ++ [z]).length - 1]? = some z := by simp
  have e3 : (zs ++ [z]).dropLast = zs := by simp
  simp only [popK, h1, e2, e3]; exact ⟨trivial, h⟩
theorem k_rng1 {te : TE2} {Q : List PyData → S → Prop} (h : te ex st fun x st1 => rng1K x st1 Q) : i2Rng1 te ex st Q := h
theorem k_rng1K {j : Int} {Q : List PyData → S → Prop} (h : Q (rangeD 0 j.toNat) st) (hz : -(2 ^ 62) ≤ j ∧ j < 2 ^ 62) : rng1K (.d (.int j)) st Q := ⟨hz, h⟩
theorem k_rng2 {ta tb : TE2} {Q : List PyData → S → Prop} (h : ta ex st fun x st1 => tb ex st1 fun y st2 => rng2K x y st2 Q) : i2Rng2 ta tb ex st Q := h
theorem k_rng2K {i j : Int} {Q : List PyData → S → Prop} (h : Q (rangeD i (j - i).toNat) st) (hz : -(2 ^ 62) ≤ i ∧ i < 2 ^ 62 ∧ -(2 ^ 62) ≤ j ∧ j < 2 ^ 62) : rng2K (.d (.int i)) (.d (.int j)) st Q := ⟨hz, h⟩
theorem k_down {ta tb : TE2} {Q : List PyData → S → Prop} (h : ta ex st fun x st1 => tb ex st1 fun y st2 => downK x y st2 Q) : i2Down ta tb ex st Q := h
theorem k_downK {i j : Int} {Q : List PyData → S → Prop} (h : Q (downD i (i - j).toNat) st) (hz : -(2 ^ 62) ≤ i ∧ i < 2 ^ 62 ∧ -(2 ^ 62) ≤ j ∧ j < 2 ^ 62) : downK (.d (.int i)) (.d (.int j)) st Q := ⟨hz, h⟩
/-! names -/
theorem k_var {i : Nat} (h1 : st.s[i]? = some (some x)) (h : Q x st) : t2Var i ex st Q := by
  unfold t2Var; rw [h1]; exact h
theorem k_name {i : Nat} {R : S → Prop} {s' : List (Option DV)} (h1 : s.set i (some x) = s') (h : R ⟨s', m⟩) : g2Name i ex x ⟨s, m⟩ R := by subst h1; exact h
theorem k_gtup {n : Nat} {gs : TGs2} {ys : List PyData} {R : S → Prop} (h1 : ys.length = n) (h : gs ex ys st R) : g2Tup n gs ex (.d (.tuple ys)) st R := ⟨h1, h⟩
theorem k_gcons {g : TG2} {gs : TGs2} {x : PyData} {xs : List PyData} {R : S → Prop} (h : g ex (.d x) st fun st1 => gs ex xs st1 R) : g2Cons g gs ex (x :: xs) st R := h
theorem k_gnil {R : S → Prop} (h : R st) : g2Nil ex [] st R := h
/-! values -/
theorem k_c {x : PyData} (h : Q (.d x) st) : t2C x ex st Q := h
theorem k_raw {v : V} (h : Q (.raw v) st) : t2Raw v ex st Q := h
theorem k_op {f : R22} {ta tb : TE2} (h : ta ex st fun x st1 => tb ex st1 fun y st2 => f x y st2 Q) : t2Op f ta tb ex st Q := h
theorem k_un {f : R21} {ta : TE2} (h : ta ex st fun x st1 => f x st1 Q) : t2Un f ta ex st Q := h
theorem k_nil {Q : List DV → S → Prop} (h : Q [] st) : t2Nil ex st Q := h
theorem k_cons {te : TE2} {t : TA2} {Q : List DV → S → Prop} (h : te ex st fun x st1 => t ex st1 fun xs st2 => Q (x :: xs) st2) : t2Cons te t ex st Q := h
theorem k_tup {tl : TA2} (h : tl ex st fun xs st1 => asDs xs st1 fun ys st2 => ys.length ≤ sizeLine ∧ Q (.d (.tuple ys)) st2) : t2Tup tl ex st Q := h
theorem k_lst {tl : TA2} (h : tl ex st fun xs st1 => asDs xs st1 fun ys st2 => ys.length ≤ sizeLine ∧ Q (.o st2.m.length) (st2.new ys)) : t2Lst tl ex st Q := h
theorem k_and_size {xs : List PyData} {P : Prop} (h : P) (h1 : xs.length ≤ sizeLine := by first | decide +kernel | simp [sizeLine]) : xs.length ≤ sizeLine ∧ P := ⟨h1, h⟩
theorem k_cb {f : RC2} {tl : TA2} (h : tl ex st fun xs st1 => f xs st1 Q) : t2CB f tl ex st Q := h
theorem k_asDs0 {Q : List PyData → S → Prop} (h : Q [] st) : asDs [] st Q := h
theorem k_asDs {x : PyData} {xs : List DV} {Q : List PyData → S → Prop} (h : asDs xs st fun ys st2 => Q (x :: ys) st2) : asDs (.d x :: xs) st Q := h
theorem k_asD {x : PyData} {Q : PyData → S → Prop} (h : Q x st) : asD (.d x) st Q := h
theorem k_asDo {k : Nat} {ow : Own} {m' : List Own} {Q : PyData → S → Prop} (h1 : m[k]? = some ow) (h2 : m.set k ⟨ow.xs, false⟩ = m') (h : Q (.list ow.xs) ⟨s, m'⟩) : asD (.o k) ⟨s, m⟩ Q := by
  subst h2; simp only [asD, h1]; exact h
theorem k_asC {x : PyData} (h : Q (.d x) st) : asC (.d x) st Q := h
theorem k_asCdeal (h : Q .deal st) : asC .deal st Q := h
theorem k_asCo {k : Nat} {ow : Own} {m' : List Own} (h1 : m[k]? = some ow) (h2 : m.set k ⟨ow.xs, false⟩ = m') (h : Q (.d (.list ow.xs)) ⟨s, m'⟩) : asC (.o k) ⟨s, m⟩ Q := by
  subst h2; simp only [asC, h1]; exact h
/-- a list made and kept -/
theorem k_new {k : Nat} {xs : List PyData} {R : DV → S → Prop} (h : R (.o m.length) ⟨s, m ++ [⟨xs, true⟩]⟩) : R (.o m.length) (S.new ⟨s, m⟩ xs) := h
/-! operations -/
theorem k_i {C : Int → Int → Prop} {g : Int → Int → PyData} {i j : Int} (h : Q (.d (g i j)) st) (hc : C i j) : q2I C g (.d (.int i)) (.d (.int j)) st Q := ⟨hc, h⟩
theorem k_i0 {g : Int → Int → PyData} {i j : Int} (h : Q (.d (g i j)) st) : q2I0 g (.d (.int i)) (.d (.int j)) st Q := h
theorem k_add {i j : Int} (h : Q (.d (.int (i + j))) st) : q2Add (.d (.int i)) (.d (.int j)) st Q := h
theorem k_addT {i j : List PyData} (h : Q (.d (.tuple (i ++ j))) st) (hz : i.length + j.length ≤ sizeLine) : q2Add (.d (.tuple i)) (.d (.tuple j)) st Q := ⟨hz, h⟩
theorem k_addL {i j : List PyData} (hx : rd st x = some (.list i)) (hy : rd st y = some (.list j)) (h : Q (.o st.m.length) (st.new (i ++ j))) (hz : i.length + j.length ≤ sizeLine) : q2Add x y st Q := by
  unfold q2Add; rw [hx, hy]; exact ⟨hz, h⟩
theorem k_mul {i j : Int} (h : Q (.d (.int (i * j))) st) (hc : CMulW i j) : q2Mul (.d (.int i)) (.d (.int j)) st Q := ⟨hc, h⟩
theorem k_mulL {i : List PyData} {n : Int} (hx : rd st x = some (.list i)) (h : Q (.o st.m.length) (st.new (List.replicate n.toNat i).flatten)) (hz : -(2 ^ 63) ≤ n ∧ n < 2 ^ 63 ∧ i.length * n.toNat ≤ sizeLine) : q2Mul x (.d (.int n)) st Q := by
  unfold q2Mul; rw [hx]; exact ⟨hz, h⟩
theorem k_mulT {i : List PyData} {n : Int} (h : Q (.d (.tuple (List.replicate n.toNat i).flatten)) st) (hz : i ≠ [] ∧ 0 ≤ n ∧ n ≤ 1000 ∧ i.length ≤ 1000) : q2Mul (.d (.tuple i)) (.d (.int n)) st Q := ⟨hz, h⟩
theorem k_eq {neg : Bool} {i j : Int} (h : Q (.d (.bool (neg ^^ decide (i = j)))) st) : q2Eq neg (.d (.int i)) (.d (.int j)) st Q := h
theorem k_eqD {neg : Bool} {p q : PyData} (hx : rd st x = some p) (hy : rd st y = some q) (h : Q (.d (.bool (neg ^^ PyData.eqv p q))) st) (hp : SeqAt.shaped p = true ∧ SeqAt.shaped q = true) : q2Eq neg x y st Q := by
  unfold q2Eq; rw [hx, hy]
  cases p <;> cases q <;> first
    | exact ⟨hp, h⟩
    | (simp only [PyData.eqv] at h; exact h)
theorem k_is {neg : Bool} (h : Q (.d (.bool (neg ^^ isNone st x))) st) : q2Is neg x (.d .none) st Q := h
theorem k_isB {neg : Bool} {k : Bool} (h : Q (.d (.bool (neg ^^ isBool k x))) st) : q2IsB neg x (.d (.bool k)) st Q := h
theorem k_neg {i : Int} (h : Q (.d (.int (-i))) st) : q1Neg (.d (.int i)) st Q := h
theorem k_len {ys : List PyData} (hx : rd st x = some (.list ys) ∨ rd st x = some (.tuple ys)) (h : Q (.d (.int ys.length)) st) : c2Len [x] st Q := by
  rcases hx with hx | hx <;> simp only [c2Len, hx] <;> exact h
theorem k_int {i : Int} (h : Q (.d (.int i)) st) : c2Int [.d (.int i)] st Q := h
theorem k_abs {i : Int} (h : Q (.d (.int (if i < 0 then -i else i))) st) : c2Abs [.d (.int i)] st Q := h
theorem k_two {g : Int → Int → Int} {i j : Int} (h : Q (.d (.int (g i j))) st) : c2Two g [.d (.int i), .d (.int j)] st Q := h
theorem k_list {ys : List PyData} (hx : rd st x = some (.list ys) ∨ rd st x = some (.tuple ys)) (h : Q (.o st.m.length) (st.new ys)) : c2List [x] st Q := by
  rcases hx with hx | hx <;> simp only [c2List, hx] <;> exact h
theorem k_tuple {ys : List PyData} (hx : rd st x = some (.list ys) ∨ rd st x = some (.tuple ys)) (h : Q (.d (.tuple ys)) st) : c2Tuple [x] st Q := by
  rcases hx with hx | hx <;> simp only [c2Tuple, hx] <;> exact h
theorem k_ix {ys : List PyData} {i : Int} {z : PyData} (hx : rd st x = some (.list ys) ∨ rd st x = some (.tuple ys)) (hz : atI ys i = some z) (h : Q (.d z) st) : q2Ix x (.d (.int i)) st Q := by
  unfold q2Ix
  rcases hx with hx | hx <;> rw [hx] <;> simp only [rd, hz] <;> exact h
theorem k_sl {te : TE2} {tl th : TO2} (h : te ex st fun x st1 => tl ex st1 fun l st2 => th ex st2 fun u st3 => q2Sl x l u st3 Q) : t2Sl te tl th ex st Q := h
theorem k_nop {Q : Option Int → S → Prop} (h : Q none st) : t2NoP ex st Q := h
theorem k_slS {ns : List Int} {l u : Option Int} (h : Q (.o st.m.length) (st.new (cut (ns.map PyData.int) l u))) : q2Sl (.scr ns) l u st Q := h
theorem k_slT {xs : List PyData} {l u : Option Int} (h : Q (.d (.tuple (cut xs l u))) st) : q2Sl (.d (.tuple xs)) l u st Q := h
theorem k_slD {xs : List PyData} {l u : Option Int} (h : Q (.o st.m.length) (st.new (cut xs l u))) : q2Sl (.d (.list xs)) l u st Q := h
theorem k_slO {k : Nat} {ow : Own} {l u : Option Int} (h1 : st.m[k]? = some ow) (h : Q (.o st.m.length) (st.new (cut ow.xs l u))) : q2Sl (.o k) l u st Q := by
  unfold q2Sl; simp only [rd, h1, Option.map_some]; exact h
theorem k_revT {xs : List PyData} (h : Q (.d (.tuple xs.reverse)) st) : q2Rev (.d (.tuple xs)) st Q := h
theorem k_revL {xs : List PyData} (hx : rd st x = some (.list xs)) (h : Q (.o st.m.length) (st.new xs.reverse)) : q2Rev x st Q := by
  unfold q2Rev; rw [hx]; exact h
theorem k_put {k : Nat} {xs : List PyData} {m' : List Own} {R : DV → S → Prop} (h1 : m.set k ⟨xs, true⟩ = m') (h : R x ⟨s, m'⟩) : R x (S.put ⟨s, m⟩ k xs) := by subst h1; exact h
/-! tests -/
theorem k_and {t u : TT2} {Q : Bool → S → Prop} (h : t ex st fun c st1 => if c = true then u ex st1 Q else Q false st1) : t2And t u ex st Q := h
theorem k_or {t u : TT2} {Q : Bool → S → Prop} (h : t ex st fun c st1 => if c = true then Q true st1 else u ex st1 Q) : t2Or t u ex st Q := h
theorem k_not {t : TT2} {Q : Bool → S → Prop} (h : t ex st fun c st1 => Q (!c) st1) : t2Not t ex st Q := h
theorem k_tif {tc : TT2} {ta tb : TE2} (h : tc ex st fun c st1 => if c = true then ta ex st1 Q else tb ex st1 Q) : t2If tc ta tb ex st Q := h
theorem k_yes {Q : Bool → S → Prop} (h : Q true st) : t2Yes ex st Q := h
/-- branches -/
theorem k_it {A B : Prop} (h : A) : if true = true then A else B := h
theorem k_if_ {A B : Prop} (h : B) : if false = true then A else B := h
theorem k_dec {p : Prop} [Decidable p] {A B : Prop} (h : p → A) (h' : ¬p → B) : if decide p = true then A else B := by
  by_cases e : p
  · rw [if_pos (by simpa using e)]; exact h e
  · rw [if_neg (by simpa using e)]; exact h' e
theorem k_decf {p : Prop} [Decidable p] {A B : Prop} (h : p → A) (h' : ¬p → B) : if (false ^^ decide p) = true then A else B := by
  by_cases e : p
  · rw [if_pos (by simpa using e)]; exact h e
  · rw [if_neg (by simpa using e)]; exact h' e
theorem k_dect {p : Prop} [Decidable p] {A B : Prop} (h : p → B) (h' : ¬p → A) : if (true ^^ decide p) = true then A else B := by
  by_cases e : p
  · rw [if_neg (by simpa using e)]; exact h e
  · rw [if_pos (by simpa using e)]; exact h' e
theorem k_bool {b : Bool} {A B : Prop} (h : b = true → A) (h' : b = false → B) : if b = true then A else B := by
  cases b
  · exact h' rfl
  · exact h rfl
theorem k_nbool {b : Bool} {A B : Prop} (h : b = false → A) (h' : b = true → B) : if (!b) = true then A else B := by
  cases b
  · exact h rfl
  · exact h' rfl
/-! calls -/
def opn : DV → Bool
  | .o _ => false
  | _ => true
theorem asC_opn {x : DV} {st : S} {Q : KD} (h : opn x = true) (q : Q x st) : asC x st Q := by
  cases x <;> first | exact q | cases h
def callF (sp : Sp2) (ex : EX) (Q : KD) (xs : List DV) (st1 : S) : Prop := asCs xs st1 fun ys st2 => sp (fun C x => ex C x st2) ys fun z => Q z (if lfreeV z = true then st1 else st2)
theorem k_call {sp : Sp2} {tl : TA2} (h : tl ex st fun xs st1 => callF sp ex Q xs st1) : t2Call sp tl ex st Q := h
theorem k_callK {sp : Sp2} {p : List Nat} {n m : Nat} {tl tk : TA2} (h : tl ex st fun xs st1 => tk ex st1 fun zs st2 => (xs.length = n ∧ zs.length = m) ∧ callF sp ex Q (gP p (xs ++ zs)) st2) : t2CallK sp p n m tl tk ex st Q := h
theorem asCs_opn {xs : List DV} {st : S} {Q : List DV → S → Prop} (h : ∀ x ∈ xs, opn x = true) (q : Q xs st) : asCs xs st Q := by
  induction xs generalizing Q with
  | nil => exact q
  | cons x xs ih =>
    refine asC_opn (h x (List.mem_cons_self ..)) ?_
    exact ih (fun y hy => h y (List.mem_cons_of_mem _ hy)) q
theorem k_calln {sp : Sp2} {xs : List DV} (hc : xs.all opn = true) (h : sp (fun C x => ex C x st) xs fun z => Q z st) : callF sp ex Q xs st := by
  refine asCs_opn (fun x hx => List.all_eq_true.mp hc x hx) ?_
  simp only [ite_self]; exact h
/-! walks -/
theorem k_iSeq {te : TE2} {Q : List PyData → S → Prop} (h : te ex st fun x st1 => asD x st1 fun y st2 => seqK y st2 Q) : i2Seq te ex st Q := h
theorem k_iRev {te : TE2} {Q : List PyData → S → Prop} (h : te ex st fun x st1 => asD x st1 fun y st2 => seqK y st2 fun xs st3 => Q xs.reverse st3) : i2Rev te ex st Q := h
theorem k_iEnum {te : TE2} {Q : List PyData → S → Prop} (h : te ex st fun x st1 => asD x st1 fun y st2 => seqK y st2 fun xs st3 => Q (enumD xs) st3) : i2Enum te ex st Q := h
theorem k_seqL {xs : List PyData} {Q : List PyData → S → Prop} (h : Q xs st) : seqK (.list xs) st Q := h
theorem k_seqT {xs : List PyData} {Q : List PyData → S → Prop} (h : Q xs st) : seqK (.tuple xs) st Q := h
theorem k_zip {ta tb : TE2} {Q : List PyData → S → Prop} (h : ta ex st fun x st1 => tb ex st1 fun y st2 => asD x st2 fun x' st3 => asD y st3 fun y' st4 => zipK x' y' st4 Q) : i2Zip ta tb ex st Q := h
theorem k_zipL {xs ys : List PyData} {Q : List PyData → S → Prop} (h : Q (zipD xs ys) st) : zipK (.list xs) (.list ys) st Q := h
theorem k_zipT {xs ys : List PyData} {Q : List PyData → S → Prop} (h : Q (zipD xs ys) st) : zipK (.tuple xs) (.tuple ys) st Q := h
theorem k_zipLT {xs ys : List PyData} {Q : List PyData → S → Prop} (h : Q (zipD xs ys) st) : zipK (.list xs) (.tuple ys) st Q := h
theorem k_zipTL {xs ys : List PyData} {Q : List PyData → S → Prop} (h : Q (zipD xs ys) st) : zipK (.tuple xs) (.list ys) st Q := h
theorem k_lc1 {ti : TI2} {i : Nat} {tt : TT2} {te : TE2} (h : ti ex st fun items st1 => lcK items st1 (bind1 i st1) tt te Q) : t2Lc1 ti i tt te ex st Q := h
theorem k_lc2 {ti : TI2} {i j : Nat} {tt : TT2} {te : TE2} (h : ti ex st fun items st1 => lcK items st1 (bind2 i j st1) tt te Q) : t2Lc2 ti i j tt te ex st Q := h
/-- a comprehension scoped: its outcome as plain data -/
theorem get_last {α : Type} {m : List α} {a : α} : (m ++ [a])[m.length]? = some a := by simp
theorem set_last {α : Type} {m : List α} {a b : α} : (m ++ [a]).set m.length b = m ++ [b] := by simp
end
end G
namespace G
open PySem L2
theorem does_i {N : List Str} {t : TS2} {sp : Sp2} (h : ∀ exf ds Q, sp exf ds Q → t (fun C x _ => exf C x) ⟨fun _ => Q (.d .none), Q, fun _ => False, fun _ => False⟩ ⟨start2 N ds, []⟩) : Does N t sp := h
theorem start_at {t : TS2} {ex : EX} {D : Ends2} {s s' : List (Option DV)} {m : List Own} (h : s = s') (q : t ex D ⟨s', m⟩) : t ex D ⟨s, m⟩ := h ▸ q
end G

end
section
set_option maxHeartbeats 2000000
/-! GK: assigned comprehensions whose lists are forgotten. -/
namespace G
open PySem L2
section
variable {X : Cx} {W : WX} {elt tg iter : Expr} {ifs : List Expr} {scope : Scope} {pos : Pos} {ti : TI2} {tt : TT2} {te : TE2}
theorem okB {N : List Str} {sc scope : Scope} {own : List (Str × Nat)} (h : blkC N sc scope own = true) : blkC N sc scope own = true := h
theorem mono_lcs1 {i : Nat} (h : MonoI ti) : MonoE (t2Lc1 ti i tt te) := fun ex st Q Q2 hq q => h ex st _ _ (fun items st1 q1 => lcK_mono hq q1) q
theorem mono_lcs2 {i j : Nat} (h : MonoI ti) : MonoE (t2Lc2 ti i j tt te) := fun ex st Q Q2 hq q => h ex st _ _ (fun items st1 q1 => lcK_mono hq q1) q
theorem p2setSc1 {l i : Nat} {nm y : Str} {pn py : Pos} {spos : Pos} (hN : X.N.Nodup) (hi : PI2 X W (.Name y py) iter ti) (ok : blkC X.N X.env.scope scope [(y, i)] = true)
    (ht : ∀ (s : Shared) (H : Hp) (C : Addr) (cl : List (Str × Addr)) (fp : List Addr), PTs2 (X.blk s H scope (compEnvC scope cl C X.env) fp) W0 ifs tt) (he : ∀ (s : Shared) (H : Hp) (C : Addr) (cl : List (Str × Addr)) (fp : List Addr), PE2 (X.blk s H scope (compEnvC scope cl C X.env) fp) W0 elt te)
    (hsw : swapsWith (.ListComp elt [⟨.Name y py, iter, ifs, 0⟩] scope pos) (some (.Name nm pn)) spos.line X.env = pure true)
    (hc : X.calm = true := by rfl) (hl : X.N[l]? = some nm := by rfl) (hll : X.env.scope.names.lookup nm = some .local := by rfl)
    (hg : ∀ (s : Shared) (H : Hp) (C : Addr) (cl : List (Str × Addr)) (fp : List Addr), PG (X.blk s H scope (compEnvC scope cl C X.env) fp) (.Name y py) (gName i) := by first | exact fun _ _ _ _ _ => pg_name (by assumption) rfl (Or.inl rfl) | exact fun _ _ _ _ _ => pg_name (by assumption) rfl (Or.inr rfl) (Or.inl rfl)) (hs : ∀ x, foldedSetIterable iter X.env x = pure x := by intro _; rfl) :
    PS2 X W (.Assign [.Name nm pn] (.ListComp elt [⟨.Name y py, iter, ifs, 0⟩] scope pos) spos) (s2Asg (t2Sc (t2Lc1 ti i tt te)) (g2Name l)) := p2s_sc (mono_lcs1 hi.mono) (p2setLc1 hN hi ok ht he hsw hc hl hll hg hs)
theorem p2setSc2 {l i j : Nat} {nm y z : Str} {pn py pz pt : Pos} {kk : Nat} {spos : Pos} (hN : X.N.Nodup) (hi : PI2 X W (.Tuple [.Name y py, .Name z pz] kk pt) iter ti) (ok : blkC X.N X.env.scope scope [(y, i), (z, j)] = true)
    (ht : ∀ (s : Shared) (H : Hp) (C : Addr) (cl : List (Str × Addr)) (fp : List Addr), PTs2 (X.blk s H scope (compEnvC scope cl C X.env) fp) W0 ifs tt) (he : ∀ (s : Shared) (H : Hp) (C : Addr) (cl : List (Str × Addr)) (fp : List Addr), PE2 (X.blk s H scope (compEnvC scope cl C X.env) fp) W0 elt te)
    (hsw : swapsWith (.ListComp elt [⟨.Tuple [.Name y py, .Name z pz] kk pt, iter, ifs, 0⟩] scope pos) (some (.Name nm pn)) spos.line X.env = pure true)
    (hc : X.calm = true := by rfl) (hl : X.N[l]? = some nm := by rfl) (hll : X.env.scope.names.lookup nm = some .local := by rfl)
    (hg : ∀ (s : Shared) (H : Hp) (C : Addr) (cl : List (Str × Addr)) (fp : List Addr), PG (X.blk s H scope (compEnvC scope cl C X.env) fp) (.Tuple [.Name y py, .Name z pz] kk pt) (gTup X.K 2 (gCons (gName i) (gCons (gName j) gNil))) := by exact fun _ _ _ _ _ => pg_tup rfl (pgs_cons (pg_name (by assumption) rfl (Or.inl rfl)) (pgs_cons (pg_name (by assumption) rfl (Or.inl rfl)) pgs_nil))) (hs : ∀ x, foldedSetIterable iter X.env x = pure x := by intro _; rfl) :
    PS2 X W (.Assign [.Name nm pn] (.ListComp elt [⟨.Tuple [.Name y py, .Name z pz] kk pt, iter, ifs, 0⟩] scope pos) spos) (s2Asg (t2Sc (t2Lc2 ti i j tt te)) (g2Name l)) := p2s_sc (mono_lcs2 hi.mono) (p2setLc2 hN hi ok ht he hsw hc hl hll hg hs)
end
end G

end
section
set_option maxHeartbeats 2000000
/-! GL: steps over rows of integers, loops. -/
namespace G
open PySem L2
theorem ixN_at {n j : Nat} (hj : j < n) : ixN n (j : Int) = some j := by
  unfold ixN; rw [if_pos (by omega), if_pos (by omega), Int.toNat_natCast]
theorem sz {n : Nat} (h : n ≤ 16777216) : n ≤ sizeLine := h
theorem szl {n : Nat} (h : n < 16777216) : n < sizeLine := h
/-- integers as data -/
abbrev tI (xs : List Int) : PyData := .tuple (xs.map PyData.int)
abbrev lI (xs : List Int) : PyData := .list (xs.map PyData.int)
theorem atI_map {α β : Type} (f : α → β) (xs : List α) (i : Int) : atI (xs.map f) i = (atI xs i).map f := by
  unfold atI
  rw [List.length_map]
  cases ixN xs.length i with
  | none => rfl
  | some j => simp
theorem atI_at {α : Type} {xs : List α} {i : Int} {j : Nat} (h : i = j) (hj : j < xs.length) : atI xs i = some xs[j] := by
  subst h; exact atI_nat (List.getElem?_eq_getElem hj)
theorem atI_end {α : Type} {xs : List α} (h : xs ≠ []) : atI xs (-1) = some (xs.getLast h) := by
  have := atI_last xs.dropLast (xs.getLast h)
  rw [List.dropLast_concat_getLast] at this; exact this
section
variable {ex : EX} {st : S} {Q : KD} {s : List (Option DV)} {m : List Own} {n : S → Prop} {r : DV → Prop} {b c : S → Prop} {x y : DV}
theorem k_ixI {ys : List Int} {i z : Int} (hx : rd st x = some (lI ys) ∨ rd st x = some (tI ys)) (hz : atI ys i = some z) (h : Q (.d (.int z)) st) : q2Ix x (.d (.int i)) st Q :=
  k_ix hx (by rw [atI_map, hz]; rfl) h
theorem k_ixD {ys : List PyData} {i : Int} {z : PyData} (hx : rd st x = some (.list ys) ∨ rd st x = some (.tuple ys)) (hz : atI ys i = some z) (h : Q (.d z) st) : q2Ix x (.d (.int i)) st Q := k_ix hx hz h
def augS3 (f : Int → Int → Int) (k : Nat) (n m : Int) (y : DV) (st3 : S) (R : S → Prop) : Prop := match rd st3 y, st3.m[k]? with
  | some (.int n'), some ow' => match ixN ow'.xs.length n with
    | some j => ow'.live = true ∧ R (st3.put k (ow'.xs.set j (.int (f m n'))))
    | none => False
  | _, _ => False
def augS2 (f : Int → Int → Int) (te : TE2) (ex : EX) (o i : DV) (st2 : S) (R : S → Prop) : Prop := match o, rd st2 i with
  | .o k, some (.int n) => match st2.m[k]? with
    | some ow => match atI ow.xs n with
      | some (.int m) => te ex st2 fun y st3 => augS3 f k n m y st3 R
      | _ => False
    | none => False
  | _, _ => False
theorem k_augS {f : Int → Int → Int} {to ti te : TE2} (h : to ex st fun o st1 => ti ex st1 fun i st2 => augS2 f te ex o i st2 n) : s2AugS f to ti te ex ⟨n, r, b, c⟩ st := h
theorem k_augS2 {f : Int → Int → Int} {te : TE2} {k : Nat} {i : Int} {j : Nat} {xs : List Int} {R : S → Prop} (hm : m[k]? = some ⟨xs.map PyData.int, true⟩) (hi : i = j) (hj : j < xs.length) (h : te ex ⟨s, m⟩ fun y st3 => augS3 f k i xs[j] y st3 R) : augS2 f te ex (.o k) (.d (.int i)) ⟨s, m⟩ R := by
  subst hi
  have ha : atI (xs.map PyData.int) (j : Int) = some (.int xs[j]) := by rw [atI_map, atI_at rfl hj]; rfl
  simp only [augS2, rd, hm, ha]
  exact h
theorem k_augS3 {f : Int → Int → Int} {k : Nat} {i w v : Int} {j : Nat} {xs : List Int} {m' : List Own} {R : S → Prop} (hm : m[k]? = some ⟨xs.map PyData.int, true⟩) (hi : i = j) (hj : j < xs.length) (h1 : m.set k ⟨(xs.set j (f v w)).map PyData.int, true⟩ = m') (h : R ⟨s, m'⟩) : augS3 f k i v (.d (.int w)) ⟨s, m⟩ R := by
  subst hi; subst h1
  have hx : ixN (xs.map PyData.int).length (j : Int) = some j := ixN_at (by rw [List.length_map]; exact hj)
  simp only [augS3, rd, hm, hx]
  refine ⟨trivial, ?_⟩
  simpa only [List.map_set, S.put] using h
theorem k_newName {i k : Nat} {xs : List PyData} {s' : List (Option DV)} {m' : List Own} {R : S → Prop} (hk : m.length = k) (h1 : s.set i (some (.o k)) = s') (hm : m ++ [⟨xs, true⟩] = m') (h : R ⟨s', m'⟩) : g2Name i ex (.o m.length) (S.new ⟨s, m⟩ xs) R := by
  subst hk; subst h1; subst hm; exact h
theorem k_newN {i : Nat} {xs : List PyData} {m' : List Own} {R : S → Prop} (hm : m ++ [⟨xs, true⟩] = m') (h : g2Name i ex x ⟨s, m'⟩ R) : g2Name i ex x (S.new ⟨s, m⟩ xs) R := by subst hm; exact h
theorem k_for {ti : TI2} {g : TG2} {tb : TS2} (h : ti ex st fun items st1 => ∃ I : Nat → S → Prop, I 0 st1 ∧ (∀ i x st', items[i]? = some x → I i st' → g ex (.d x) st' fun st2 => tb ex ⟨I (i + 1), r, n, I (i + 1)⟩ st2) ∧ ∀ st', I items.length st' → n st') : s2For ti g tb ex ⟨n, r, b, c⟩ st := h
theorem k_ex3 {w : Int} {P : Int → S → Prop} (h : P w st) : ∃ v, DV.d (.int w) = .d (.int v) ∧ st = st ∧ P v st := ⟨w, rfl, rfl, h⟩
theorem while_i {tc : TT2} {tb : TS2} (I : Nat → S → Prop) (m0 : Nat) (h0 : I m0 st) (h : ∀ m st', I m st' → tc ex st' fun k st1 => if k = true then tb ex ⟨fun s => ∃ m', m' < m ∧ I m' s, r, n, fun s => ∃ m', m' < m ∧ I m' s⟩ st1 else n st1) : s2While tc tb ex ⟨n, r, b, c⟩ st := ⟨I, ⟨m0, h0⟩, h⟩
/-- for: what stands behind k items is I k -/
theorem for_ii {items : List PyData} {g : TG2} {tb : TS2} (I : Nat → S → Prop) (h0 : I 0 st) (h : ∀ i x st', items[i]? = some x → I i st' → g ex (.d x) st' fun st2 => tb ex ⟨I (i + 1), r, n, I (i + 1)⟩ st2) (h1 : ∀ st', I items.length st' → n st') :
    ∃ I : Nat → S → Prop, I 0 st ∧ (∀ i x st', items[i]? = some x → I i st' → g ex (.d x) st' fun st2 => tb ex ⟨I (i + 1), r, n, I (i + 1)⟩ st2) ∧ ∀ st', I items.length st' → n st' := ⟨I, h0, h, h1⟩
end
section
variable {st : S} {Q : KD}
theorem k_bind1 {i : Nat} {s s' : List (Option DV)} {m : List Own} {x : PyData} {R : S → Prop} (h1 : s.set i (some (.d x)) = s') (h : R ⟨s', m⟩) : bind1 i ⟨s, m⟩ x R := by subst h1; exact h
theorem k_bind2 {i j : Nat} {s s' : List (Option DV)} {m : List Own} {x y : PyData} {R : S → Prop} (h1 : (s.set i (some (.d x))).set j (some (.d y)) = s') (h : R ⟨s', m⟩) : bind2 i j ⟨s, m⟩ (.tuple [x, y]) R := by subst h1; exact h
/-- comprehensions without a test -/
def lcD (st1 : S) (items : List PyData) (f : PyData → PyData) (k : Nat) (y : PyData) (st5 : S) : Prop := (st5.m.take st1.m.length = st1.m ∧ ((items.take k).map f).length < sizeLine) ∧ ((items.take k).map f) ++ [y] = (items.take (k + 1)).map f
theorem lc_fin {st1 st5 : S} {items : List PyData} {f : PyData → PyData} {k : Nat} {x y : PyData} (hx : items[k]? = some x) (hz : items.length < 16777216) (hy : y = f x) (hm : st5.m = st1.m) : lcD st1 items f k y st5 := by
  refine ⟨⟨by rw [hm, List.take_length], ?_⟩, ?_⟩
  · refine szl ?_
    rw [List.length_map, List.length_take]; omega
  · rw [hy, List.take_add_one, hx]; simp
theorem lc_m {items : List PyData} {st1 : S} {bind : PyData → (S → Prop) → Prop} {te : TE2} (f : PyData → PyData) (h : ∀ k x, items[k]? = some x → bind x fun st2 => te ex0 st2 fun z st4 => asD z st4 fun y st5 => lcD st1 items f k y st5) (hb : ∀ x (R R' : S → Prop), (∀ s, R s → R' s) → bind x R → bind x R') (q : Q (.o st1.m.length) (st1.new (items.map f))) : lcK items st1 bind t2Yes te Q := by
  refine ⟨fun k acc => acc = (items.take k).map f, rfl, fun k x acc hx e => ?_, fun acc e => ?_⟩
  · subst e
    exact hb x _ _ (fun st2 h2 => h2) (h k x hx)
  · subst e
    rw [List.take_length]; exact q
/-- comprehensions with a test -/
def lcY (st1 : S) (items : List PyData) (p : PyData → Bool) (f : PyData → PyData) (k : Nat) (y : PyData) (st5 : S) : Prop := (st5.m.take st1.m.length = st1.m ∧ (((items.take k).filter p).map f).length < sizeLine) ∧ (((items.take k).filter p).map f) ++ [y] = ((items.take (k + 1)).filter p).map f
def lcN (st1 : S) (items : List PyData) (p : PyData → Bool) (f : PyData → PyData) (k : Nat) (st3 : S) : Prop := st3.m.take st1.m.length = st1.m ∧ ((items.take k).filter p).map f = ((items.take (k + 1)).filter p).map f
theorem lc_y {st1 st5 : S} {items : List PyData} {p : PyData → Bool} {f : PyData → PyData} {k : Nat} {x y : PyData} (hx : items[k]? = some x) (hz : items.length < 16777216) (hp : p x = true) (hy : y = f x) (hm : st5.m = st1.m) : lcY st1 items p f k y st5 := by
  refine ⟨⟨by rw [hm, List.take_length], ?_⟩, ?_⟩
  · refine szl ?_
    rw [List.length_map]
    have := List.length_filter_le p (items.take k)
    rw [List.length_take] at this; omega
  · rw [hy, List.take_add_one, hx]; simp [hp]
theorem lc_n {st1 st5 : S} {items : List PyData} {p : PyData → Bool} {f : PyData → PyData} {k : Nat} {x : PyData} (hx : items[k]? = some x) (hp : p x = false) (hm : st5.m = st1.m) : lcN st1 items p f k st5 := by
  refine ⟨by rw [hm, List.take_length], ?_⟩
  rw [List.take_add_one, hx]; simp [hp]
theorem lc_f {items : List PyData} {st1 : S} {bind : PyData → (S → Prop) → Prop} {tt : TT2} {te : TE2} (p : PyData → Bool) (f : PyData → PyData)
    (h : ∀ k x, items[k]? = some x → bind x fun st2 => tt ex0 st2 fun b st3 => if b = true then te ex0 st3 fun z st4 => asD z st4 fun y st5 => lcY st1 items p f k y st5 else lcN st1 items p f k st3) (hb : ∀ x (R R' : S → Prop), (∀ s, R s → R' s) → bind x R → bind x R') (q : Q (.o st1.m.length) (st1.new ((items.filter p).map f))) : lcK items st1 bind tt te Q := by
  refine ⟨fun k acc => acc = ((items.take k).filter p).map f, rfl, fun k x acc hx e => ?_, fun acc e => ?_⟩
  · subst e
    exact hb x _ _ (fun st2 h2 => h2) (h k x hx)
  · subst e
    rw [List.take_length]; exact q
theorem k_all {any : Bool} {ys : List PyData} {bs : List Bool} {x : DV} (hx : rd st x = some (.list ys)) (hb : bools ys = some bs) (h : Q (.d (.bool (if any then bs.any id else bs.all id))) st) : c2All any [x] st Q := by
  simp only [c2All, hx, hb]; exact h
theorem k_sum {ys : List PyData} {bs : List Int} {x : DV} (hx : rd st x = some (.list ys)) (hb : intsOf ys = some bs) (h : Q (.d (.int bs.sum)) st) : c2Sum [x] st Q := by
  simp only [c2Sum, hx, hb]; exact h
end
theorem k_callo {ex : EX} {Q : KD} {sp : Sp2} {s : List (Option DV)} {m : List Own} {k : Nat} {xs : List PyData} (hm : m[k]? = some ⟨xs, true⟩) (h : sp (fun C x => ex C x ⟨s, m.set k ⟨xs, false⟩⟩) [.d (.list xs)] fun z => Q z (if lfreeV z = true then ⟨s, m⟩ else ⟨s, m.set k ⟨xs, false⟩⟩)) : callF sp ex Q [.o k] ⟨s, m⟩ := by
  unfold callF asCs asCs asC
  simp only [hm, S.frz]
  exact h
theorem lfree_ints (zs : List Int) : lfreeV (.d (tI zs)) = true := by
  simp only [lfreeV, lfree]
  induction zs with
  | nil => rfl
  | cons z zs ih => simp only [List.map_cons, lfreeA, lfree, Bool.true_and]; exact ih
theorem zeros (n : Nat) : (List.replicate n [PyData.int 0]).flatten = (List.replicate n (0 : Int)).map PyData.int := by
  induction n with
  | zero => rfl
  | succ n ih => simp only [List.replicate_succ, List.flatten_cons, List.map_cons, ih]; rfl
/-- a value read as a row of integers -/
def rowOf (y : PyData) (xs : List Int) : Prop := y = tI xs ∨ y = lI xs
theorem rowOf_rd {y : PyData} {xs : List Int} (h : rowOf y xs) (st : S) : rd st (.d y) = some (lI xs) ∨ rd st (.d y) = some (tI xs) := by
  rcases h with rfl | rfl
  · exact .inr rfl
  · exact .inl rfl
theorem seqK_row {y : PyData} {xs : List Int} {st : S} {Q : List PyData → S → Prop} (h : rowOf y xs) (q : Q (xs.map PyData.int) st) : seqK y st Q := by
  rcases h with rfl | rfl <;> exact q
theorem seqK_map {y : PyData} {xs : List Int} {st : S} {Q : List PyData → S → Prop} (h : rowOf y xs) (q : Q (xs.map PyData.int) st) : seqK y st Q := seqK_row h q
theorem get_last1 {α : Type} {m : List α} {a b : α} : (b :: (m ++ [a]))[m.length + 1]? = some a := by simp
theorem set_last1 {α : Type} {m : List α} {a b c : α} : (b :: (m ++ [a])).set (m.length + 1) c = b :: (m ++ [c]) := by simp
theorem rd_last {s : List (Option DV)} {m : List Own} {xs : List PyData} {b : Bool} : rd ⟨s, m ++ [⟨xs, b⟩]⟩ (.o m.length) = some (.list xs) := by simp [rd]
theorem rd_last1 {s : List (Option DV)} {m : List Own} {a : Own} {xs : List PyData} {b : Bool} : rd ⟨s, a :: (m ++ [⟨xs, b⟩])⟩ (.o (m.length + 1)) = some (.list xs) := by simp [rd]
section
variable {ex : EX} {s : List (Option DV)} {m : List Own} {st : S} {n : S → Prop} {r : DV → Prop} {b c : S → Prop}
def gsubK (o i x : DV) (st2 : S) (R : S → Prop) : Prop := match o, rd st2 i with
  | .o k, some (.int n) => asD x st2 fun y st3 => match st3.m[k]? with
    | some ow => match ixN ow.xs.length n with
      | some j => ow.live = true ∧ R (st3.put k (ow.xs.set j y))
      | none => False
    | none => False
  | _, _ => False
theorem k_gsub {to ti : TE2} {x : DV} {R : S → Prop} (h : to ex st fun o st1 => ti ex st1 fun i st2 => gsubK o i x st2 R) : g2Sub to ti ex x st R := h
theorem k_gsubK {k : Nat} {i v : Int} {j : Nat} {xs : List Int} {m' : List Own} {R : S → Prop} (hm : m[k]? = some ⟨xs.map PyData.int, true⟩) (hi : i = j) (hj : j < xs.length) (h1 : m.set k ⟨(xs.set j v).map PyData.int, true⟩ = m') (h : R ⟨s, m'⟩) : gsubK (.o k) (.d (.int i)) (.d (.int v)) ⟨s, m⟩ R := by
  subst hi; subst h1
  have hx : ixN (xs.map PyData.int).length (j : Int) = some j := ixN_at (by rw [List.length_map]; exact hj)
  simp only [gsubK, rd, asD, hm, hx]
  refine ⟨trivial, ?_⟩
  simpa only [List.map_set, S.put] using h
def retDK (x y : DV) (st2 : S) (r : DV → Prop) : Prop := match x, rd st2 y with
  | .o k, some (.int n) => match st2.m[k]? with
    | some ow => (ow.live = true ∧ 0 ≤ n ∧ n < 2147483647 ∧ ∃ gs : List Int, ow.xs = gs.map PyData.int ∧ (∀ g ∈ gs, 0 ≤ g) ∧ gs.length ≤ 1000) ∧ r .deal
    | none => False
  | _, _ => False
theorem k_retD {ta tb : TE2} (h : ta ex st fun x st1 => tb ex st1 fun y st2 => retDK x y st2 r) : s2RetDeal ta tb ex ⟨n, r, b, c⟩ st := h
theorem k_retDK {k : Int} {gs : List Int} {xs : List PyData} (hx : xs = gs.map PyData.int) (h1 : 0 ≤ k) (h2 : k < 2147483647) (h3 : ∀ g ∈ gs, 0 ≤ g) (h4 : gs.length ≤ 1000) (h : r .deal) : retDK (.o m.length) (.d (.int k)) (S.new ⟨s, m⟩ xs) r := by
  have e : (S.new ⟨s, m⟩ xs).m[m.length]? = some ⟨xs, true⟩ := by simp [S.new]
  simp only [retDK, rd, e]
  exact ⟨⟨trivial, h1, h2, gs, hx, h3, h4⟩, h⟩
theorem k_no {p : Bool} {A B : Prop} (h : p = false) (q : B) : if p = true then A else B := by subst h; exact q
theorem k_so {p : Bool} {A B : Prop} (h : p = true) (q : A) : if p = true then A else B := by subst h; exact q
end
theorem shaped_str {s : Str} (h : PyData.strOk s = true) : SeqAt.shaped (.str s) = true := by simp [SeqAt.shaped, PyData.canLay0, PyData.depth, h]
theorem shaped_bool (b : Bool) : SeqAt.shaped (.bool b) = true := by cases b <;> rfl
theorem shaped_none : SeqAt.shaped .none = true := rfl
theorem shaped_int (i : Int) : SeqAt.shaped (.int i) = true := by simp [SeqAt.shaped, PyData.canLay0, PyData.depth]
theorem k_eqB {neg a b : Bool} {st : S} {Q : KD} (h : Q (.d (.bool (neg ^^ decide (a = b)))) st) : q2Eq neg (.d (.bool a)) (.d (.bool b)) st Q :=
  k_eqD rfl rfl (by simp only [PyData.eqv, ← Bool.beq_eq_decide_eq] at h ⊢; exact h) ⟨shaped_bool _, shaped_bool _⟩
def chK (r2 : R22) (tc : TE2) (ex : EX) (y z : DV) (st3 : S) (Q : KD) : Prop := match rd st3 z with
  | some (.bool k) => if k = true then tc ex st3 fun w st4 => r2 y w st4 Q else Q (.d (.bool false)) st3
  | _ => False
theorem k_chain {r1 r2 : R22} {ta tb tc : TE2} {ex : EX} {st : S} {Q : KD} (h : ta ex st fun x st1 => tb ex st1 fun y st2 => r1 x y st2 fun z st3 => chK r2 tc ex y z st3 Q) : t2Chain r1 r2 ta tb tc ex st Q := h
theorem k_chK {r2 : R22} {tc : TE2} {ex : EX} {y : DV} {k : Bool} {st : S} {Q : KD} (h : if k = true then tc ex st fun w st4 => r2 y w st4 Q else Q (.d (.bool false)) st) : chK r2 tc ex y (.d (.bool k)) st Q := h
theorem cut_take {α : Type} (xs : List α) (j : Nat) : cut xs none (some (j : Int)) = xs.take j := by
  unfold cut
  rw [HT.sIx_none, HT.sIx_nat]
  simp only [Nat.sub_zero, List.drop_zero]
  rw [List.take_eq_take_iff]; simp
theorem cut_drop {α : Type} (xs : List α) (j : Nat) : cut xs (some (j : Int)) none = xs.drop j := by
  unfold cut
  rw [HT.sIx_none, HT.sIx_nat]
  rw [List.take_of_length_le (by rw [List.length_drop]; omega)]
  by_cases h : j ≤ xs.length
  · rw [Nat.min_eq_left h]
  · rw [Nat.min_eq_right (by omega), List.drop_length, List.drop_eq_nil_of_le (by omega)]
theorem zip_int {xs ys : List Int} {i : Nat} {z : PyData} (h : (zipD (xs.map PyData.int) (ys.map PyData.int))[i]? = some z) : ∃ a b, z = .tuple [.int a, .int b] := by
  unfold zipD at h
  rw [List.getElem?_zipWith, List.getElem?_map, List.getElem?_map] at h
  cases e : xs[i]? <;> cases e2 : ys[i]? <;> rw [e, e2] at h <;> cases h
  exact ⟨_, _, rfl⟩
theorem zip_len {xs : List Int} {ys : List PyData} : (zipD (xs.map PyData.int) ys).length = min (xs.map PyData.int).length ys.length := by simp [zipD]
section
variable {ex : EX} {st : S} {n : S → Prop} {r : DV → Prop} {b c : S → Prop} {p : Prop} [Decidable p] {A B : Prop}
/-- both branches go on alike: what stands behind is shown once -/
theorem k_decj (h2 : B) (h1 : p → B → A) : if decide p = true then A else B := by
  by_cases e : p
  · rw [if_pos (by simpa using e)]; exact h1 e h2
  · rw [if_neg (by simpa using e)]; exact h2
theorem k_decg {α : Type} (f : α → S) (v0 : α) (h2 : ∀ v, n (f v)) (h1 : p → (∀ v, n (f v)) → A) : if decide p = true then A else s2Next ex ⟨n, r, b, c⟩ (f v0) := by
  by_cases e : p
  · rw [if_pos (by simpa using e)]; exact h1 e h2
  · rw [if_neg (by simpa using e)]; exact h2 v0
theorem k_merge {i j : Nat} {u v : Int} {Q : KD} (h1 : st.s[i]? = some (some (.d (.int u)))) (h2 : st.s[j]? = some (some (.d (.int v)))) (h : Q (.d (.int (if p then u else v))) st) : if decide p = true then t2Var i ex st Q else t2Var j ex st Q := by
  by_cases e : p
  · rw [if_pos (by simpa using e)]; rw [if_pos e] at h; exact k_var h1 h
  · rw [if_neg (by simpa using e)]; rw [if_neg e] at h; exact k_var h2 h
end
theorem enum_len (xs : List PyData) : (enumD xs).length = xs.length := by simp [enumD]
theorem enum_get {xs : List PyData} {i : Nat} {x : PyData} (h : (enumD xs)[i]? = some x) : ∃ y, xs[i]? = some y ∧ x = .tuple [.int (i : Int), y] := by
  unfold enumD at h
  rw [List.getElem?_mapIdx] at h
  cases e : xs[i]? with
  | none => rw [e] at h; cases h
  | some y => rw [e] at h; exact ⟨y, rfl, by cases h; rfl⟩
theorem int_get {xs : List Int} {i : Nat} {x : PyData} (h : (xs.map PyData.int)[i]? = some x) : ∃ h : i < xs.length, x = .int xs[i] := by
  rw [List.getElem?_map] at h
  cases e : xs[i]? with
  | none => rw [e] at h; cases h
  | some y =>
    rw [e] at h; cases h
    obtain ⟨hi, hy⟩ := List.getElem?_eq_some_iff.mp e
    exact ⟨hi, by rw [hy]⟩
theorem enum_int {xs : List Int} {i : Nat} {x : PyData} (h : (enumD (xs.map PyData.int))[i]? = some x) : ∃ h : i < xs.length, x = .tuple [.int (i : Int), .int xs[i]] := by
  obtain ⟨y, h1, rfl⟩ := enum_get h
  obtain ⟨hi, rfl⟩ := int_get h1
  exact ⟨hi, rfl⟩
theorem range_len (lo : Int) (n : Nat) : (rangeD lo n).length = n := by simp [rangeD]
theorem range_get {lo : Int} {n i : Nat} {x : PyData} (h : (rangeD lo n)[i]? = some x) : i < n ∧ x = .int (lo + (i : Int)) := by
  unfold rangeD at h
  rw [List.getElem?_map] at h
  by_cases hi : i < n
  · rw [List.getElem?_range hi] at h; cases h; exact ⟨hi, rfl⟩
  · rw [List.getElem?_eq_none (by simpa using hi)] at h; cases h
theorem down_len (lo : Int) (n : Nat) : (downD lo n).length = n := by simp [downD]
theorem down_get {lo : Int} {n i : Nat} {x : PyData} (h : (downD lo n)[i]? = some x) : i < n ∧ x = .int (lo - (i : Int)) := by
  unfold downD at h
  rw [List.getElem?_map] at h
  by_cases hi : i < n
  · rw [List.getElem?_range hi] at h; cases h; exact ⟨hi, rfl⟩
  · rw [List.getElem?_eq_none (by simpa using hi)] at h; cases h
theorem rev_int {xs : List Int} {i : Nat} {x : PyData} (h : (xs.map PyData.int).reverse[i]? = some x) : ∃ h : i < xs.length, x = .int (xs[xs.length - 1 - i]) := by
  rw [← List.map_reverse] at h
  obtain ⟨hi, rfl⟩ := int_get h
  rw [List.length_reverse] at hi
  exact ⟨hi, by rw [List.getElem_reverse]⟩
theorem cmul {a b : Int} {p q : Nat} (ha : a.natAbs < 2 ^ p) (hb : b.natAbs < 2 ^ q) (h : p + q < 1000000) : CMulW a b := by
  unfold CMulW
  have : ∀ {n k : Nat}, n < 2 ^ k → n.log2 ≤ k := fun {n k} h => by
    by_cases e : n = 0
    · subst e; exact Nat.zero_le _
    · exact Nat.le_of_lt ((Nat.log2_lt e).mpr h)
  have h1 := this ha
  have h2 := this hb
  omega
theorem cut_pre {α : Type} (xs : List α) {j : Nat} (h : j ≤ xs.length) : cut xs none (some (j : Int)) = xs.take j := by
  unfold cut
  rw [HT.sIx_none, HT.sIx_nat, Nat.min_eq_left h]; simp
theorem cut_from {α : Type} (xs : List α) {j : Nat} (h : j ≤ xs.length) : cut xs (some (j : Int)) none = xs.drop j := by
  unfold cut
  rw [HT.sIx_none, HT.sIx_nat, Nat.min_eq_left h]
  exact List.take_of_length_le (by rw [List.length_drop]; omega)
theorem cut_last {α : Type} (xs : List α) : cut xs none (some (-1)) = xs.dropLast := by
  unfold cut
  rw [HT.sIx_none]
  have : HT.sIx xs.length xs.length (some (-1)) = xs.length - 1 := by
    show (if (-1 : Int) < 0 then ((-1 : Int) + (xs.length : Int)).toNat else min (-1 : Int).toNat xs.length) = _
    rw [if_pos (by omega)]; omega
  rw [this, List.drop_zero, Nat.sub_zero]; exact List.dropLast_eq_take.symm
end G

end
section
set_option maxHeartbeats 2000000
/-! GV: or over values that are no bools; a comprehension over a list of the def's own. -/
namespace G
open PySem L2
/-- x or y, x a bool, an integer or None -/
def orAK (tb : TE2) (ex : EX) (x : DV) (st1 : S) (Q : KD) : Prop := match rd st1 x with
  | some (.bool c) => if c = true then Q (.d (.bool true)) st1 else tb ex st1 Q
  | some (.int i) => if i = 0 then tb ex st1 Q else Q (.d (.int i)) st1
  | some .none => tb ex st1 Q
  | _ => False
def t2OrA (ta tb : TE2) : TE2 := fun ex st Q => ta ex st fun x st1 => orAK tb ex x st1 Q
def scF (st0 : S) (x : DV) (st1 : S) (Q : KD) : Prop := st1.s = st0.s ∧ asC x st1 fun y st2 => st0.m.length ≤ st2.m.length ∧ Q y ⟨st0.s, st2.m.take st0.m.length⟩
def t2ScF (te : TE2) : TE2 := fun ex st Q => te ex st fun x st1 => scF st x st1 Q
section
variable {X : Cx} {W : WX} {a b e : Expr} {rest : List Expr} {pos : Pos} {ta tb te : TE2}
theorem p2orA (ha : PE2 X W a ta) (hb : PE2 X W (.BoolOp .Or (b :: rest) pos) tb) : PE2 X W (.BoolOp .Or (a :: b :: rest) pos) (t2OrA ta tb) := by
  refine ⟨peImp (pe_orT ha.pe hb.pe) fun σ H Q q => ?_, fun ex st Q Q' h q => ha.mono ex st _ _ (fun x st1 q1 => ?_) q⟩
  · obtain ⟨w, st, ex, R, l, q⟩ := q
    refine low_of ha.mono R l q fun x st1 w1 H1 v1 q1 l1 R1 k1 rv1 => ?_
    have go : ∀ {st1 : S}, RepS X.K w1 st1 σ H1 → tb ex st1 (fun x st' => ∀ w' H' v, Le w w' → RepS X.K w' st' σ H' → RepV X.K w' v x → Q v H') → low X.K W tb σ H1 Q := fun {st1} R1 q1 =>
      low_of hb.mono R1 k1 q1 fun x st2 w2 H2 v2 q2 l2 R2 k2 rv2 => q2 w2 H2 v2 (l1.trans l2) R2 rv2
    unfold orAK at q1
    split at q1
    · rename_i c e1
      rw [rd_bool R1 rv1 e1]
      refine ⟨c, rfl, ?_⟩
      cases c with
      | false => exact go R1 q1
      | true => exact q1 w1 H1 _ l1 R1 (.bl true)
    · rename_i i e1
      rw [rd_int R1 rv1 e1]
      refine ⟨i != 0, rfl, ?_⟩
      by_cases h0 : i = 0
      · rw [if_pos h0] at q1
        rw [if_neg (by simp [h0])]
        exact go R1 q1
      · rw [if_neg h0] at q1
        rw [if_pos (by simp [h0])]
        exact q1 w1 H1 _ l1 R1 (.int i)
    · rename_i e1
      have d := rd_dq R1 rv1 e1
      cases d
      refine ⟨false, rfl, ?_⟩
      exact go R1 q1
    · exact q1.elim
  · unfold orAK at q1 ⊢
    split at q1
    · rename_i c _
      cases c with
      | false => exact hb.mono ex st1 _ _ h q1
      | true => exact h _ _ q1
    · split at q1
      · rename_i h0
        rw [if_pos h0]; exact hb.mono ex st1 _ _ h q1
      · rename_i h0
        rw [if_neg h0]; exact h _ _ q1
    · exact hb.mono ex st1 _ _ h q1
    · exact q1.elim
theorem p2scF (he : PE2 X W e te) : PE2 X W e (t2ScF te) := by
  refine ⟨peImp he.pe fun σ H Q q => ?_, fun ex st Q Q' h q => he.mono ex st _ _ (fun x st1 q1 => ⟨q1.1, asC_mono (fun _ _ q => ⟨q.1, h _ _ q.2⟩) q1.2⟩) q⟩
  obtain ⟨w, st, ex, R, l, q⟩ := q
  refine low_of he.mono R l q fun x st1 w1 H1 v q1 l1 R1 k1 rv => ?_
  obtain ⟨w2, st2, y, l2, R2, rv2, cl, ⟨hm, q2⟩, _⟩ := asC_ok R1 rv q1.2
  have e1 : (st2.m.take st.m.length).length = st.m.length := by rw [List.length_take]; omega
  have l3 : Le w (w2.cut st.m.length) := le_cut (l1.trans l2) (Nat.le_of_eq R.h.len)
  have RH : RepH X.K (w2.cut st.m.length) (st2.m.take st.m.length) H1 := by
    have := repH_cut (m0 := st2.m.take st.m.length) R2.h (by rw [e1])
    rwa [e1] at this
  exact q2 _ _ _ l3 ⟨RH, RepL.up l3 R.l⟩ (repV_cut rv2 fun k e => absurd e (cl k))
end
section
variable {ex : EX} {st : S} {Q : KD}
theorem k_orA {ta tb : TE2} (h : ta ex st fun x st1 => orAK tb ex x st1 Q) : t2OrA ta tb ex st Q := h
theorem k_scF {te : TE2} (h : te ex st fun x st1 => scF st x st1 Q) : t2ScF te ex st Q := h
theorem sc_newF {s : List (Option DV)} {m m2 : List Own} {xs : List PyData} (hl : m2.length = m.length) (h : Q (.d (.list xs)) ⟨s, m2⟩) : scF ⟨s, m⟩ (.o m2.length) (S.new ⟨s, m2⟩ xs) Q := by
  refine ⟨rfl, ?_⟩
  unfold asC
  have e : (S.new ⟨s, m2⟩ xs).m[m2.length]? = some ⟨xs, true⟩ := by simp [S.new]
  simp only [e]
  refine ⟨by simp [S.frz, S.new]; omega, ?_⟩
  have : ((S.frz (S.new ⟨s, m2⟩ xs) m2.length xs).m.take m.length) = m2 := by
    simp [S.frz, S.new, ← hl]
  rw [this]
  exact h
end
end G

end
section
set_option maxHeartbeats 4000000
/-! GX: an own exception whose __init__ says super().__init__(at) and stores at. -/
namespace G
open PySem PySem.Spec PyProof.Rows L2
/-- the context of the body of __init__ -/
def inX (CX : CXT) (P : Program) (w : World) (K : PySem.W.Frag) (mg : Str → Option Value) (base : Heap) (qual : Str) (scope : Scope) (f : Addr) (cd : Value) (cc : Addr) (A : Around) (outer : List Env) (s : Shared) (H : Hp) (E : XK) : Cx where
  prog := P
  w := w
  K := K
  mg := mg
  base := base
  A := A.deeper (PySem.W.ksEnv qual scope s.heap.objs.size f cd cc)
  N := ["self", "at"]
  s_0 := s
  H_0 := H
  env := PySem.W.ksEnv qual scope s.heap.objs.size f cd cc
  outer := outer
  stack := PySem.W.ksEnv qual scope s.heap.objs.size f cd cc :: outer
  ex := []
  calm := true
  fn := fun _ => false
  pn := []
  xe := fun e s' => wpAny (model P w) (A.deeper (PySem.W.ksEnv qual scope s.heap.objs.size f cd cc)) (leaving (PySem.W.ksEnv qual scope s.heap.objs.size f cd cc) e) (fun _ s'' => CX outer H s E e s'') (fun e' s'' => CX outer H s E e' s'') s'
/-- what is known of the scope -/
structure InS (scope : Scope) : Prop where
  kind : scope.kind = .function
  co : scope.isCoroutine = false
  gen : scope.isGenerator = false
  sup : scope.names.lookup ("super" : Str) = some .globalImplicit
  cls : scope.names.lookup ("__class__" : Str) = some .free
  self : scope.names.lookup ("self" : Str) = some .local
  at_ : scope.names.lookup ("at" : Str) = some .local
  only : ∀ y ∈ scope.names, y.2 ≠ .cell ∧ (y.2 = .free → y.1 = "__class__")
section
variable {CX : CXT} {P : Program} {w : World} {K : PySem.W.Frag} {mg : Str → Option Value} {base : Heap} {qual : Str} {scope : Scope} {f cc : Addr} {cd : Value} {A : Around} {outer : List Env} {s : Shared} {H : Hp} {E : XK}
theorem in_start {C : Addr} {cl : Value} {cld : Option Addr} {csl : Array (Option Value)} {u0 u1 : Value} {v0 v1 : V} {h₁ : Heap} {tk : Nat} (S : InS scope) (hr : A.handled = none) (e0 : Env0 P w K mg base A outer s H) (hcell : K.lookup cc = some ⟨cl, cld, .cell (some (.ref C)), csl⟩)
    (r0 : RelV v0 u0) (r1 : RelV v1 u1) (hns : h₁.Ns s.heap.objs.size fun y => ([("self", u0), ("at", u1)] : List (Str × Value)).reverse.lookup y) (kp : ∀ b o, s.heap.get? b = some o → h₁.get? b = some o) :
    Inv (inX CX P w K mg base qual scope f cd cc A outer s H E) [] [some v0, some v1] H { s with heap := h₁, toks := tk } := by
  have noA : ∀ b : Addr, b ∉ (inX CX P w K mg base qual scope f cd cc A outer s H E).ex := fun b z => absurd (show b ∈ ([] : List Addr) from z) (by simp)
  have hcb := e0.mod.kin _ _ hcell
  have hcs := e0.bs _ _ hcb
  have one : ∀ {x : Str} {c : Addr}, (inX CX P w K mg base qual scope f cd cc A outer s H E).env.cells.lookup x = some c → x = "__class__" ∧ c = cc := fun {x c} h => by
    have h : ([("__class__", cc)] : List (Str × Addr)).lookup x = some c := h
    rw [List.lookup] at h
    split at h
    · rename_i e
      cases h
      exact ⟨beq_iff_eq.mp e, rfl⟩
    · cases h
  refine ⟨⟨e0.mod, S.kind, rfl, rfl, Nat.le_refl _, fun y z c h1 h2 => ?_, fun y hy => ?_, fun y c h _ => ?_, fun _ => hr, Around.frames_deeper e0.frames, .inr ⟨rfl, rfl⟩, fun b z => absurd z (noA b), e0.bs, e0.bsz, fun b _ _ => noA b, fun b z => absurd z (noA b), e0.funs, e0.frf⟩,
    rfl, e0.bare, Un.kept kp, ⟨_, hns, fun i y v h1 h2 h3 => ?_⟩, fun y c h => ?_, e0.hok.fresh (Nat.le_refl _), fun y c h => ?_, fun p hp => absurd (show p ∈ ([] : List (Addr × Obj)) from hp) (by simp), e0.hok.kept kp, rfl⟩
  · rw [(one h1).1, (one h2).1]
  · have hy : scope.names.lookup y = some .cell ∨ scope.names.lookup y = some .free := hy
    rcases hy with hy | hy
    · exact absurd rfl (S.only _ (PySem.mem_of_lookup hy)).1
    · have e := (S.only _ (PySem.mem_of_lookup hy)).2 rfl
      subst e
      exact ⟨cc, by show ([("__class__", cc)] : List (Str × Addr)).lookup _ = _; rw [List.lookup]; simp⟩
  · have h : false = true := h
    cases h
  · have h1 : (["self", "at"] : List Str)[i]? = some y := h1
    match i with
    | 0 =>
      cases h1; cases h2
      exact ⟨u0, r0, .inl ⟨S.self, by first | rfl | kernel_rfl⟩⟩
    | 1 =>
      cases h1; cases h2
      exact ⟨u1, r1, .inl ⟨S.at_, by first | rfl | kernel_rfl⟩⟩
    | i + 2 => simp at h1
  · obtain ⟨rfl, rfl⟩ := one h
    exact ⟨_, _, kp _ _ hcs.1, rfl⟩
  · obtain ⟨rfl, rfl⟩ := one h
    exact hcs.2
/-- all that is known of a class and its __init__ -/
structure InK (P : Program) (K : PySem.W.Frag) (C fI cc cda : Addr) (name qual : Str) (params : Arguments) (body : List Stmt) (scope : Scope) (dV kV doc pm ct : Value) (an : Option Addr) : Prop where
  fn : ∃ oc od osl, K.lookup fI = some ⟨oc, od, .func (PySem.W.ksFn name qual params body scope dV kV doc pm an (.ref cda) ct cc), osl⟩
  cd : PySem.W.codeIn K (.ref cda) qual = true
  code : ∃ ccl cdd vs ccs file tf, K.lookup cda = some ⟨ccl, cdd, .fields vs, ccs⟩ ∧ vs[2]? = some (.str file tf) ∧ ((P.main.file : Str) == file) = true
  cell : ∃ cl cld csl, K.lookup cc = some ⟨cl, cld, .cell (some (.ref C)), csl⟩
  sub : PySem.W.mroIn K C (.ref C) = some true
  sup : PySem.W.nsIn K mainGlobals "super" = some none
  top : (P.main.scope.names.lookup ("super" : Str)).isSome = false
  ini : PySem.W.ks_superIn K C C "__init__" = some (some (.builtin "ValueError.__init__"))
  ve : PySem.W.subIn K (.ref C) (.type "ValueError") = some true
  opq : PySem.W.nsIn K PySem.cStatics "thirdparty.any" = some none
  no : PySem.W.findIn K (.ref C) "at" = some none
  oex : OexC K C
variable {C fI cda : Addr} {name : Str} {params : Arguments} {body : List Stmt} {dV kV doc pm ct : Value} {an : Option Addr} {p0 p1 p2 p3 p4 p5 p6 p7 p8 p9 : Pos}
theorem in_super {whole : Sem Value} {a : Addr} {Q : Value → Shared → Prop} {E0 : Value → Shared → Prop} {s1 : Shared} {σ : L2.St} {H1 : Hp} (S : InS scope) (F : InK P K C fI cc cda name qual params body scope dV kV doc pm ct an)
    (hp : (params.posonlyargs ++ params.args).head?.map (·.arg) = some ("self" : Str))
    (J : Inv (inX CX P w K mg base qual scope fI (.ref cda) cc A outer s H E) [] σ H1 s1) (hself : ∃ m, s1.heap.Ns s.heap.objs.size m ∧ m "self" = some (.ref a)) (ha : H1 a = some (exo a C none))
    (h : ∀ so s2, Inv (inX CX P w K mg base qual scope fI (.ref cda) cc A outer s H E) [] σ H1 s2 → s2.heap.get? so = some (PySem.W.ks_superObj C a C) → Q (.ref so) s2) :
    _root_.PySem.wpAt (model P w) (inX CX P w K mg base qual scope fI (.ref cda) cc A outer s H E).A (.func body (PySem.W.ksEnv qual scope s.heap.objs.size fI (.ref cda) cc)) (attributeBase (.Call (.Name "super" p0) [] [] p1) "__init__" (PySem.W.ksEnv qual scope s.heap.objs.size fI (.ref cda) cc) whole) Q E0 s1 := by
  obtain ⟨oc, od, osl, hf⟩ := F.fn
  obtain ⟨ccl, cdd, vs, ccs, file, tf, hcode, hvs, hfile⟩ := F.code
  obtain ⟨cl, cld, csl, hcell⟩ := F.cell
  obtain ⟨nm, q, N, bs, bm, sn, sub, ab, col, dd, k0, k1, k2, k3, k5, hC, hbm⟩ := F.oex.cls
  obtain ⟨t1, ho⟩ := exo_at J.hok ha
  obtain ⟨m, hm, hms⟩ := hself
  have KX : K.In s1.heap := J.kIn
  obtain ⟨ar, har, hargs⟩ : ∃ ar : Arg, (params.posonlyargs ++ params.args).head? = some ar ∧ ar.arg = "self" := by
    cases e : (params.posonlyargs ++ params.args).head? with
    | none => rw [e] at hp; cases hp
    | some ar => rw [e] at hp; exact ⟨ar, rfl, by simpa using hp⟩
  obtain ⟨mb, hb1, hb2⟩ := J.mod.blt
  refine PySem.ks_wpAt_super_base (env := PySem.W.ksEnv qual scope s.heap.objs.size fI (.ref cda) cc) S.sup S.cls (by decide +kernel) rfl (KX _ _ hf) rfl har rfl (KX _ _ hcode) rfl hvs hfile F.top ?_
  refine PySem.W.ks_loadName_global S.kind S.sup (Calls.loadGlobal_builtin (env := PySem.W.ksEnv qual scope s.heap.objs.size fI (.ref cda) cc) (J.mod.glob.keeps J.bk) (PySem.W.mg_none_of J.mod.kin J.mod.glob F.sup) (hb1.keeps J.bk) ((hb2 _ (by decide)).trans (by decide +kernel)) ⟨rfl, ?_⟩)
  refine wpAny_loadName_free S.kind S.cls rfl ⟨_, KX _ _ hcell, rfl⟩ ?_
  rw [hargs]
  refine wpAny_loadName_local S.kind S.self hm hms ?_
  obtain ⟨hh, g, d, t, os⟩ := s1
  refine PySem.ks_wpAny_isType_cls (KX _ _ hC) rfl ⟨rfl, ?_⟩
  exact PySem.ks_wpAny_call_super (KX _ _ hC) rfl ho rfl (fun c e => by cases e) (PySem.W.looks_mroIn KX F.sub) fun h' e k => h _ _ (J.kept k) e
/-- super().__init__(at) -/
theorem in_call (hline : (p2.endLine == p4.line) = true) {a : Addr} {v : V} {Q : Flow → Shared → Prop} {E0 : Value → Shared → Prop} {s1 : Shared} {H1 : Hp} (S : InS scope) (F : InK P K C fI cc cda name qual params body scope dV kV doc pm ct an)
    (hp : (params.posonlyargs ++ params.args).head?.map (·.arg) = some ("self" : Str))
    (J : Inv (inX CX P w K mg base qual scope fI (.ref cda) cc A outer s H E) [] [some (.ref a), some v] H1 s1) (hself : ∃ m, s1.heap.Ns s.heap.objs.size m ∧ m "self" = some (.ref a)) (ha : H1 a = some (exo a C none))
    (h : ∀ s2, Inv (inX CX P w K mg base qual scope fI (.ref cda) cc A outer s H E) [] [some (.ref a), some v] H1 s2 → Q .next s2) (hE : (inX CX P w K mg base qual scope fI (.ref cda) cc A outer s H E).xe = E0) :
    _root_.PySem.wpAt (model P w) (inX CX P w K mg base qual scope fI (.ref cda) cc A outer s H E).A (.func body (PySem.W.ksEnv qual scope s.heap.objs.size fI (.ref cda) cc)) (exec (.Expr (.Call (.Attribute (.Call (.Name "super" p0) [] [] p1) "__init__" p2) [.Name "at" p3] [] p4) p5) (PySem.W.ksEnv qual scope s.heap.objs.size fI (.ref cda) cc)) Q E0 s1 := by
  refine PySem.ks_wpAt_Expr_any (PySem.ks_wpAt_MethodCall (pl := (do return (← importBound (.Call (.Name "super" p0) [] [] p1) (PySem.W.ksEnv qual scope s.heap.objs.size fI (.ref cda) cc)).getD true)) (in_super S F hp J hself ha fun so s2 J2 hso => ?_) ?he) (by unfold interactive; simp [S.kind, PySem.W.ksEnv, PySem.W.envX])
  case he =>
    rw [arm_eval_Call]
    have hpos : methodCallPos true (.Call (.Name "super" p0) [] [] p1) (PySem.W.ksEnv qual scope s.heap.objs.size fI (.ref cda) cc) p2 p4 = pure p4 := by unfold methodCallPos; simp [hline]
    have hf : methodCallForm (([.Name "at" p3] : List Expr).length + ([] : List Keyword).length) (backTo p4 (starEach [.Name "at" p3] (PySem.W.ksEnv qual scope s.heap.objs.size fI (.ref cda) cc))) (backToKw p4 (keywordEach [] (PySem.W.ksEnv qual scope s.heap.objs.size fI (.ref cda) cc))) = true := rfl
    unfold methodCall
    rw [hf]
    simp only [hpos, pure_bind]
    rfl
  · obtain ⟨nm, q, N, bs, bm, sn, sub, ab, col, dd, k0, k1, k2, k3, k5, hC, hbm⟩ := F.oex.cls
    have hcl : PySem.W.clsIn K C = some { name := nm, bases := bs, mro := .ref C :: bm, ns := N, qualname := q, hasDict := true, slotNames := sn, subclasses := sub, abstract := ab, collection := col, hasDel := false } := by unfold PySem.W.clsIn; rw [hC] <;> rfl
    obtain ⟨t1, ho⟩ := exo_at J2.hok ha
    have KX : K.In s2.heap := J2.kIn
    have IA : PySem.W.InstAt s2.heap a { cls := .ref C, dict := none, data := .fields #[.ref t1, .none, .none, .none, .bool false, .none] } C none := ⟨ho, rfl, rfl, trivial⟩
    have hne := PySem.W.ks_ne KX IA hcl
    have hm := F.ini
    unfold PySem.W.ks_superIn at hm
    rw [hcl] at hm
    obtain ⟨hh, g, d, t, os⟩ := s2
    refine PySem.W.kxs_getMethod PySem.W.kxs_ValueError hso (PySem.W.looks_opaque KX F.opq) (l₀ := .ref C :: bm) (fun A Q E s k q => wpAny_bind ((PySem.W.looks_clsIn KX hcl) A _ E s k (wpAny_pure q))) rfl KX hm (IA.type.andThen (PySem.W.looks_subIn KX F.ve)) hne (by decide +kernel) ?_
    have J3 : Inv (inX CX P w K mg base qual scope fI (.ref cda) cc A outer s H E) [] [some (.ref a), some v] H1 ⟨hh.push (PySem.W.kxs_mw "ValueError.__init__" a), g, d, t + 1, os⟩ := J2.kept fun b o e => Heap.get?_push_of_some _ e
    have hmw : (hh.push (PySem.W.kxs_mw "ValueError.__init__" a)).get? hh.objs.size = some (PySem.W.kxs_mw "ValueError.__init__" a) := Heap.get?_push_at rfl rfl
    have hfree : H1 hh.objs.size = none := J2.hok.fresh (Nat.le_refl _)
    refine PySem.W.kxs_callWith (i := "ValueError.__init__") (x := a) rfl (Calls.evalArgs_plain ?_)
    have J3p := J3.pins_of (pins' := [(hh.objs.size, PySem.W.kxs_mw "ValueError.__init__" a)]) fun p hp => by
      have e : p = (hh.objs.size, PySem.W.kxs_mw "ValueError.__init__" a) := by simpa using hp
      subst e
      exact ⟨hmw, hfree, fun e => Nat.lt_irrefl _ (by have := J2.lt; rw [← e] at this; exact this), J2.nofs (Nat.le_refl _), fun v e => by cases e⟩
    have pat : PE (inX CX P w K mg base qual scope fI (.ref cda) cc A outer s H E) (.Name "at" p3) (tVar 1) := pe_var rfl (.inl S.at_)
    have hargs := (pa_cons pat pa_nil).run p4 _ _ _ H1 (fun vs H2 => vs = [v] ∧ H2 = H1) J3p ⟨v, rfl, rfl, rfl⟩
    refine wpAny_mono hargs (fun us s3 hh3 => ?_) (fun e s' x => by rw [← hE]; exact x)
    obtain ⟨vs, H2, J4, rv, e1, e2⟩ := hh3
    subst e1
    rw [e2] at J4
    have hu := (J4.pin (hh.objs.size, PySem.W.kxs_mw "ValueError.__init__" a) (by simp)).1
    obtain ⟨hp3, g3, d3, t3, os3⟩ := s3
    refine ⟨hu, ?_⟩
    obtain ⟨t4, ho4⟩ := exo_at J4.hok ha
    have KX3 : K.In hp3 := J4.kIn
    have hlen : us.length ≤ sizeLine := by
      have := rv.length
      rw [← this]
      show 1 ≤ sizeLine
      rw [sizeLine_eq]; decide
    have FB := PySem.F.excBase_ValueError
    refine wpAny_call (codeAny_of_tree ?_)
    show wpAny _ _ (callAny (.ref hh.objs.size) ⟨us, []⟩) _ _ _
    simp only [callAny]
    refine wpAny_bind (wpAny_load hu ?_)
    simp only [PySem.W.kxs_mw, show (Value.type "method-wrapper" == Value.type "method" || Value.type "method-wrapper" == Value.type "builtin_function_or_method" || Value.type "method-wrapper" == Value.type "method-wrapper") = true by decide, if_true]
    refine PySem.W.KFB.if_so (by decide) ?_
    refine wpAny_bind (PySem.W.check_bound_init FB.toExcCallFacts (KX3 _ _ hC) ho4 rfl ?_)
    refine wpAny_bind (wpAny_pure (wpAny_pure ?_))
    refine ⟨plainId_quiet FB.init.plain _, codeAny_builtin FB.initEntry ?_⟩
    refine PySem.W.exc_init_tree (cls := .ref C) (t0 := t4) (dv := none) (c2 := .none) (c3 := .none) (b4 := .bool false) ho4 hlen fun h' k hx _ => ?_
    have J5 := J4.write (t' := t3) (x := a) (e := a) (o := exo a C none) (by rw [ha]; exact True.intro) (.inl rfl) k ⟨_, hx⟩ (exo_ok hx)
    have eu : upd H1 a (exo a C none) = H1 := by
      funext b
      by_cases hb : b = a
      · rw [hb, upd_same, ha]
      · rw [upd_ne hb]
    rw [eu] at J5
    exact h _ (J5.pins_of (pins' := []) (by simp))
/-- what __init__ does: the exception gets a dict that holds at -/
def spIn (C : Addr) : Sp := fun vs H Q _ => ∃ (a : Addr) (v : V), vs = [.ref a, v] ∧ H a = some (exo a C none) ∧ ∀ dx, H dx = none → dx ≠ a → Q .non (upd (upd H dx (exd dx [("at", v)])) a (exo a C (some dx)))
theorem init_ok (S : InS scope) (F : InK P K C fI cc cda name qual params body scope dV kV doc pm ct an) (hp : (params.posonlyargs ++ params.args).head?.map (·.arg) = some ("self" : Str)) (hline : (p2.endLine == p4.line) = true)
    (hbody : body = [.Expr (.Call (.Attribute (.Call (.Name "super" p0) [] [] p1) "__init__" p2) [.Name "at" p3] [] p4) p5, .Assign [.Attribute (.Name "self" p6) "at" p7] (.Name "at" p8) p9]) :
    FnOk P w K mg base CX 1 fI (PySem.W.ksFn name qual params body scope dV kV doc pm an (.ref cda) ct cc) ["self", "at"] (spIn C) := by
  refine ⟨fun vs H Q E h => by obtain ⟨a, v, rfl, _⟩ := h; rfl, fun A outer s H args us vs Q E hr e0 hb rv h => ?_⟩
  obtain ⟨a, v, rfl, ha, h⟩ := h
  cases rv with
  | cons r0 rv =>
  cases rv with
  | cons r1 rv =>
  cases rv
  rename_i u0 u1
  have KX : K.In s.heap := e0.mod.kin.keeps fun b o e => (e0.bs b o e).1
  have lim : s.heap.NoLimit := e0.mod.nolimit.keeps fun b o e => (e0.bs b o e).1
  obtain ⟨oc, od, osl, hf⟩ := F.fn
  obtain ⟨cl, cld, csl, hcell⟩ := F.cell
  refine PySem.ks_codeAny_call_defAt (binds := [("self", u0), ("at", u1)]) hr.depth (KX _ _ hf) rfl lim (PySem.W.codeRec_of KX F.cd) rfl hb (fun y hy => (S.only y hy).1) (fun y hy => ?_) (fun h₁ hns kp => ?_) S.co S.gen S.kind
  · rcases List.mem_cons.mp hy with rfl | hy
    · exact S.self
    · have e : y = (("at" : Str), u1) := by simpa using hy
      subst e; exact S.at_
  have J := in_start (CX := CX) (P := P) (w := w) (qual := qual) (f := fI) (cd := .ref cda) (E := E) (tk := s.toks + 2) S hr.hd e0 hcell r0 r1 hns kp
  have hself : u0 = .ref a := r0
  subst hself
  subst hbody
  refine PySem.ks_wpAt_execs_cons ?_
  refine in_call (CX := CX) (E := E) hline S F hp J ⟨_, hns, by first | rfl | kernel_rfl⟩ ha (fun s2 J2 => ?_) rfl
  have hst := (pss_one (ps_ost (X := inX CX P w K mg base qual scope fI (.ref cda) cc A outer s H E) (f := "at") (p' := p7) (pos := p9) (pe_var (i := 0) (x := "self") (pos := p6) rfl (.inl S.self)) (pe_var (i := 1) (x := "at") (pos := p8) rfl (.inl S.at_)))).run [] s2 _ H { nx := fun _ H' => Q .non H', rt := fun _ _ => False } J2
    ⟨v, rfl, .ref a, rfl, a, C, rfl, F.oex, F.no, .inl ⟨ha, fun dx h1 h2 => h dx h1 h2⟩⟩
  refine wpAt_of_wpAny (wpAny_mono hst (fun fl s3 hs => ?_) fun e s3 x => x)
  cases fl with
  | next =>
    obtain ⟨σ', H', J3, q⟩ := hs
    exact ⟨.non, H', J3.os, J3.bare, J3.base, J3.hok, rfl, q⟩
  | brk =>
    obtain ⟨_, _, _, q⟩ := hs
    exact False.elim q
  | cont =>
    obtain ⟨_, _, _, q⟩ := hs
    exact False.elim q
  | ret u =>
    obtain ⟨_, _, _, _, _, q⟩ := hs
    exact False.elim q
end
end G

end
section
set_option maxHeartbeats 4000000
/-! GY: raise of an own exception that holds at. -/
namespace G
open PySem PySem.Spec PyProof.Rows L2
/-- an own exception class of the program, with all that raising it asks -/
def Rz (P : Program) (w : World) (K : PySem.W.Frag) (mg : Str → Option Value) (base : Heap) (n : String) : Prop := ∃ (C fI : Addr) (fd : FuncData), IsCls K n C ∧ mg (Str.ofString n) = some (.ref C) ∧ OexC K C ∧
  PySem.W.findIn K (.ref C) "__init__" = some (some (.ref fI)) ∧ PySem.W.typeIn K (.ref fI) = some (.type "function") ∧ FnOk P w K mg base (L2.CX P w) 1 fI fd ["self", "at"] (spIn C) ∧ Binds K fd ["self", "at"] []
def s2Raise (n : String) (tl : TA2) : TS2 := fun ex _ st => tl ex st fun xs st1 => match xs with
  | [x] => asD x st1 fun y st2 => ex n (some y) st2
  | _ => False
section
variable {X : Cx} {W : WX} {e : Expr} {es : List Expr} {tl : TA2} {n : String} {p pos pos' : Pos}
theorem p2s_raise (z : Rz X.prog X.w X.K X.mg X.base n) (hr : Room 2 X.A) (tk : Takes X W) (ha : PA2 X W (e :: es) tl) (hg : Gl X (Str.ofString n) := by rfl) (hc : X.calm = true := by rfl) (hdb : (Str.ofString n == ("__debug__" : Str)) = false := by decide)
    (hst : starEach (e :: es) X.env = (false, eval e X.env) :: starEach es X.env := by rfl) (hpl : (backTo pos (starEach es X.env)).any (·.1) = false := by rfl) :
    PS2 X W (.Raise (some (.Call (.Name (Str.ofString n) p) (e :: es) [] pos)) none pos') (s2Raise n tl) := by
  obtain ⟨C, fI, fd, h1, h2, h3, h4, h5, h6, h7⟩ := z
  refine ⟨psImp (ps_raise hc tk (pmk_oex (CX := L2.CX X.prog X.w) (k := 1) (sp := spIn C) (ds := []) (dvs := []) h3 h4 h5 h6 hr h7 .nil (passes_call tk fun _ _ _ _ h => h.elim) hg h2 ha.pa hdb hst hpl)) fun D σ H q => ?_⟩
  obtain ⟨w, st, ex, D2, R, l, le, q⟩ := q
  refine lowA_of ha.mono R l q fun xs st1 w1 H1 vs q1 l1 R1 k1 rv => ?_
  split at q1
  · cases rv with
    | cons r rv =>
    cases rv
    rename_i x v
    obtain ⟨w2, st2, y, l2, R2, dq, q2, _⟩ := asD_ok R1 r q1
    refine ⟨by simp, fun a ha0 => ⟨a, v, rfl, upd_same, fun dx g1 g2 => ⟨rfl, dx, [("at", v)], upd_same, by rw [upd_ne g2, upd_same], by rw [upd_ne g2] at g1; exact g1, ?_⟩⟩⟩
    rw [upd_ne g2] at g1
    have eH : upd (del (upd (upd (upd H1 a (exo a C none)) dx (exd dx [("at", v)])) a (exo a C (some dx))) a) dx (.xd [("at", v)]) = upd H1 dx (.xd [("at", v)]) := by
      funext b
      by_cases hb : b = dx
      · rw [hb, upd_same, upd_same]
      · rw [upd_ne hb, upd_ne hb]
        by_cases hb2 : b = a
        · rw [hb2, del_same, ha0]
        · rw [del_ne hb2, upd_ne hb2, upd_ne hb, upd_ne hb2]
    rw [eH]
    obtain ⟨R3, l3⟩ := R2.h.fix g1 (.xd [("at", v)])
    exact (k1.up l2).at_ _ st2 σ _ dx v n C y h1 l3 ⟨R3, R2.l.up l3⟩ upd_same (dq_up l3.D _ _ dq) q2
  · exact q1.elim
end
end G

end
section
set_option maxHeartbeats 4000000
/-! GZ: try with several clauses, each with a name or without. -/
namespace G
open PySem PySem.Spec PyProof.Rows L2
/-- the ends of a suite whose exception's name is unbound behind it -/
def unD (i : Nat) (D : Ends) : Ends := { nx := fun τ Hb => D.nx (τ.set i none) Hb, rt := D.rt, bk := fun τ Hb => D.bk (τ.set i none) Hb, ct := fun τ Hb => D.ct (τ.set i none) Hb }
abbrev Cl := Value × Option Nat × (Addr → Value → Option Addr → TS)
def wCl (K : PySem.W.Frag) (Wo : WX) (D : Ends) : List Cl → WX
  | [] => Wo
  | (c, oi, ts) :: r => fun ec dd τ Hb => ∃ b, PySem.W.exmOne K ec c = some b ∧ (b = true → ∀ ad, Hb ad = none → (match oi with
      | some i => ts ad ec dd (unD i D) (τ.set i (some (.ref ad))) Hb
      | none => ts ad ec dd D τ Hb)) ∧ (b = false → wCl K Wo D r ec dd τ Hb)
inductive ClOk (X : Cx) : List ExceptHandler → List Cl → Prop
  | nil : ClOk X [] []
  | as_ {x nm : Str} {c : Value} {i : Nat} {ts : Addr → Value → Option Addr → TS} {b₀ : Stmt} {su : List Stmt} {np pos' : Pos} {hds : List ExceptHandler} {l : List Cl} (hc : Names X x c) (hi : X.N[i]? = some nm) (hln : X.env.kindOf nm = some .local)
      (hsu : ∀ (ad : Addr) (ob : Obj) (ec : Value) (dd : Option Addr) (pn : List (Addr × Obj)), Zc ec dd ob → (∃ fs, ob.data = .fields fs) → PSs (X.suite ad ((ad, ob) :: pn)) (b₀ :: su) (ts ad ec dd)) (r : ClOk X hds l) :
      ClOk X (.ExceptHandler (some (.Name x np)) (some nm) (b₀ :: su) pos' :: hds) ((c, some i, ts) :: l)
  | no_ {x : Str} {c : Value} {ts : Addr → Value → Option Addr → TS} {b₀ : Stmt} {su : List Stmt} {np pos' : Pos} {hds : List ExceptHandler} {l : List Cl} (hc : Names X x c)
      (hsu : ∀ (ad : Addr) (ob : Obj) (ec : Value) (dd : Option Addr) (pn : List (Addr × Obj)), Zc ec dd ob → (∃ fs, ob.data = .fields fs) → PSs (X.suite ad ((ad, ob) :: pn)) (b₀ :: su) (ts ad ec dd)) (r : ClOk X hds l) :
      ClOk X (.ExceptHandler (some (.Name x np)) none (b₀ :: su) pos' :: hds) ((c, none, ts) :: l)
section
variable {X : Cx} {body : List Stmt} {h₀ : ExceptHandler} {hds : List ExceptHandler} {l : List Cl} {pos : Pos} {tb : WX → TS} {Wo : WX}
theorem ps_try_cl (hs : X.stack = X.env :: X.outer) (hf : X.env.frame = some X.env.locals) (hN : X.N.Nodup) (tk : Takes X Wo)
    (hb : ∀ (W : WX) (pn : List (Addr × Obj)) (xe : Value → Shared → Prop), Takes (X.tr pn xe) W → PassesOwn (model X.prog X.w) X.A X.env xe → PSs (X.tr pn xe) body (tb W)) (hh : ClOk X (h₀ :: hds) l) :
    PS X (.Try body (h₀ :: hds) [] [] pos) (fun D τ Hb => tb (wCl X.K Wo D l) D τ Hb) := by
  refine ⟨fun pins z τ Hb D I q0 => ?_⟩
  have ok := I.ok
  have frs0 : X.A.frames = some (X.env :: X.outer) := by rw [ok.frames, hs]
  refine wpAny_Try_except ?_
  refine wpAny_mono ((hb (wCl X.K Wo D l) (X.pn ++ pins) (fun u z1 => wpAny (model X.prog X.w) X.A (noteFrame u X.env) (fun _ z2 => wpAny (model X.prog X.w) X.A (setFlight u none) (fun _ z3 =>
    wpAny (model X.prog X.w) X.A (handleBy u X.env (h₀ :: hds)) (SP X pins D) X.xe z3) X.xe z2) X.xe z1) (fun u z' xx => ?_) PassesOwn.looking).run [] z τ Hb D (I.toTry _) q0) (fun fl z1 hfl => ?_) (fun u z1 hx => hx)
  · -- caught
    obtain ⟨ad, B, zI, pins', τ', Hc, ec, dd, rfl, J', nb, up, sky, na, os, ag, wl⟩ := xx
    have J : Inv X pins τ' Hc zI := J'.ofTry ok
    have sk2 : Sky B (X.env :: X.outer) ad (Zc ec dd) X.env.locals z'.heap := by rw [← hs]; exact sky
    show wpAny _ X.A (noteFrame (.ref ad) X.env) _ _ _
    refine Sky.land Zc.steady frs0 hf sk2 fun g3 land3 up3 => ?_
    have J3 : Inv X pins τ' Hc { z' with heap := g3 } := J.landed nb land3.1 (up.trans up3) os ag
    obtain ⟨ob3, fs3, hob3, hz3, hfd3⟩ := land3.there
    have apart : ∀ {g : Heap} {o : Obj} {fs : Array Value}, g.FunFrames B (X.env :: X.outer) → g.get? ad = some o → o.data = .fields fs → ad ∉ frs (X.env :: X.outer) := fun {g o fs} ff eo ed hm => by
      obtain ⟨_, o2, e2, bad⟩ := ff.mem hm
      rw [eo] at e2
      cases e2
      exact bad _ ed
    have nfr := apart land3.2.2.1 hob3 hfd3
    have nL : ad ≠ X.env.locals := fun e => nfr (List.mem_filterMap.mpr ⟨X.env, List.mem_cons_self, by rw [hf, e]⟩)
    have nF : ad ∉ X.fs := fun hm => by
      obtain ⟨en, hen, hq⟩ := List.mem_filterMap.mp hm
      exact nfr (List.mem_filterMap.mpr ⟨en, List.mem_cons_of_mem _ hen, hq⟩)
    have S3 := J3.suite hob3 hfd3 na nL nF
    have LT : PySem.W.Looks (model X.prog X.w) g3 (typeOf (.ref ad)) ec := fun A Q E z k q => wpAny_typeOf_ref (k _ _ hob3) (by rw [hz3.1]; exact q)
    -- the clause's class is named
    have test : ∀ {x : Str} {c : Value} {np : Pos} {Q E : Value → Shared → Prop}, Names X x c → Q c { z' with heap := g3 } → wpAny (model X.prog X.w) (X.A.mark (some (.ref ad))) (eval (.Name x np) X.env) Q E { z' with heap := g3 } := fun {x c np Q E} hc q => by
      obtain ⟨g1, g2, g4 | ⟨g4, g5, g6⟩⟩ := hc
      · exact ld_glob (X := X.suite ad ((ad, ob3) :: (X.pn ++ pins))) S3 g1 g4 q g2
      · exact ld_blt (X := X.suite ad ((ad, ob3) :: (X.pn ++ pins))) S3 g1 g4 g5 q g6 g2
    have go : ∀ {hds2 : List ExceptHandler} {l2 : List Cl}, ClOk X hds2 l2 → wCl X.K Wo D l2 ec dd τ' Hc → wpAny (model X.prog X.w) X.A (handleBy (.ref ad) X.env hds2) (SP X pins D) X.xe { z' with heap := g3 } := by
      intro hds2 l2 hk
      induction hk with
      | nil =>
        intro wl
        refine wpAny_handleBy_nil ?_
        obtain ⟨_, _, _, ob, fs, T, oT, ts', e1, _, e3, e4, _⟩ := id land3
        unfold PySem.passOn
        refine wpAny_bind (wpAny_field e1 e3 e4 ?_)
        rw [if_neg (show ¬((Value.ref T == Value.none) = true) from by simp)]
        have on : wpAny (model X.prog X.w) X.A (setFlight (.ref ad) X.env.frame) (fun _ z4 => wpAny (model X.prog X.w) X.A (throw (.ref ad) : Sem Flow) (SP X pins D) X.xe z4) X.xe { z' with heap := g3 } := by
          rw [hf]
          refine HandSPX.setFlight_upZ land3 fun g4 hg4 up4 => wpAny_throw (tk _ _ ?_)
          exact ⟨ad, B, zI, pins, τ', Hc, ec, dd, rfl, J, nb, (up.trans up3).trans up4, .inr (.inr (by rw [hs]; exact hg4)), na, os, ag, wl⟩
        first
          | exact wpAny_bind (wpAny_pure (wpAny_bind on))
          | exact wpAny_bind on
      | @as_ x nm c i ts b₀ su np pos' hds3 l3 hc hi hln hsu r ih =>
        intro wl
        obtain ⟨b, hb1, yes, no⟩ := wl
        have LM := PySem.W.exm_one (M := model X.prog X.w) (J3.kIn) LT hb1
        refine wpAny_handleBy_cons (codeAny_handlers_test ?_) (by intro q; cases q)
        refine test hc (LM.here ?_)
        cases b with
        | true =>
          refine codeAny_handlers_suite_as ?_
          refine HandSPX.lands_againZ land3 fun g4 land4 up4 => ?_
          have J4 : Inv X pins τ' Hc { z' with heap := g4 } := J.landed nb land4.1 ((up.trans up3).trans up4) os ag
          obtain ⟨ob4, fs4, hob4, hz4, hfd4⟩ := land4.there
          have S4 := J4.suite hob4 hfd4 na nL nF
          refine store_ok (X := X.suite ad ((ad, ob4) :: (X.pn ++ pins))) (v := .ref ad) S4 hN hi (.inl hln) rfl (fun z5 S5 => ?_) (.inr hln)
          refine wpAny_mono ((hsu ad ob4 ec dd (X.pn ++ pins) hz4 ⟨_, hfd4⟩).run [] z5 _ Hc _ S5 (yes rfl ad na)) (fun fl z6 hfl => ?_) (fun _ _ e => False.elim e)
          have fin : ∀ {τ6 : L2.St} {H6 : Hp} {Q : Shared → Prop}, Inv (X.suite ad ((ad, ob4) :: (X.pn ++ pins))) [] τ6 H6 z6 → (∀ z7, Inv X pins (τ6.set i none) H6 z7 → Q z7) →
              wpAny (model X.prog X.w) X.A (do bindName X.env nm .none; unbindBehindTheSuite X.env nm pos') (fun _ z7 => Q z7) X.xe z6 := fun {τ6 H6 Q} S6 hq => gone_ok (S6.unsuite ok) hN hi hln hq
          cases fl with
          | next =>
            obtain ⟨τ6, H6, S6, q6⟩ := hfl
            exact fin S6 fun z7 J7 => ⟨_, _, J7, q6⟩
          | brk =>
            obtain ⟨τ6, H6, S6, q6⟩ := hfl
            exact fin S6 fun z7 J7 => ⟨_, _, J7, q6⟩
          | cont =>
            obtain ⟨τ6, H6, S6, q6⟩ := hfl
            exact fin S6 fun z7 J7 => ⟨_, _, J7, q6⟩
          | ret u =>
            obtain ⟨v6, τ6, H6, S6, r6, q6⟩ := hfl
            exact fin S6 fun z7 J7 => ⟨_, _, _, J7, r6, q6⟩
        | false =>
          show wpAny _ X.A (handleBy (.ref ad) X.env hds3) _ _ _
          exact ih (no rfl)
      | @no_ x c ts b₀ su np pos' hds3 l3 hc hsu r ih =>
        intro wl
        obtain ⟨b, hb1, yes, no⟩ := wl
        have LM := PySem.W.exm_one (M := model X.prog X.w) (J3.kIn) LT hb1
        refine wpAny_handleBy_cons (codeAny_handlers_test ?_) (by intro q; cases q)
        refine test hc (LM.here ?_)
        cases b with
        | true =>
          refine codeAny_handlers_suite ?_
          refine HandSPX.lands_againZ land3 fun g4 land4 up4 => ?_
          have J4 : Inv X pins τ' Hc { z' with heap := g4 } := J.landed nb land4.1 ((up.trans up3).trans up4) os ag
          obtain ⟨ob4, fs4, hob4, hz4, hfd4⟩ := land4.there
          have S4 := J4.suite hob4 hfd4 na nL nF
          refine wpAny_mono ((hsu ad ob4 ec dd (X.pn ++ pins) hz4 ⟨_, hfd4⟩).run [] _ _ Hc _ S4 (yes rfl ad na)) (fun fl z6 hfl => ?_) (fun _ _ e => False.elim e)
          cases fl with
          | next =>
            obtain ⟨τ6, H6, S6, q6⟩ := hfl
            exact ⟨_, _, S6.unsuite ok, q6⟩
          | brk =>
            obtain ⟨τ6, H6, S6, q6⟩ := hfl
            exact ⟨_, _, S6.unsuite ok, q6⟩
          | cont =>
            obtain ⟨τ6, H6, S6, q6⟩ := hfl
            exact ⟨_, _, S6.unsuite ok, q6⟩
          | ret u =>
            obtain ⟨v6, τ6, H6, S6, r6, q6⟩ := hfl
            exact ⟨_, _, _, S6.unsuite ok, r6, q6⟩
        | false =>
          show wpAny _ X.A (handleBy (.ref ad) X.env hds3) _ _ _
          exact ih (no rfl)
    exact go hh wl
  · cases fl with
    | next =>
      obtain ⟨τ', Hc, J', q⟩ := hfl
      exact wpAny_execs_nil ⟨τ', Hc, J'.ofTry ok, q⟩
    | brk =>
      obtain ⟨τ', Hc, J', q⟩ := hfl
      exact ⟨τ', Hc, J'.ofTry ok, q⟩
    | cont =>
      obtain ⟨τ', Hc, J', q⟩ := hfl
      exact ⟨τ', Hc, J'.ofTry ok, q⟩
    | ret u =>
      obtain ⟨v, τ', Hc, J', r, q⟩ := hfl
      exact ⟨v, τ', Hc, J'.ofTry ok, r, q⟩
end
end G

end
section
set_option maxHeartbeats 4000000
/-! GW: try, read over plain data: each clause answers with data at once. -/
namespace G
open PySem PySem.Spec PyProof.Rows L2
/-- what a clause answers of what the exception holds -/
abbrev An := Option PyData → Option PyData
/-- ('tag', wrong.at) -/
def anTag (tag : Str) : An := fun o => o.map fun y => .tuple [.str tag, y]
/-- a constant -/
def anC (z : PyData) : An := fun _ => some z
def exTry (kn : List String) (hs : List (String × Nat × An)) (D : Ends2) (ex : EX) : EX := fun n x st => n ∈ kn ∧ match hs with
  | [] => ex n x st
  | (h, i, a) :: r => if n = h then i ≤ st.s.length ∧ (match a x with | some y => D.rt (.d y) | none => False) else exTry kn r D ex n x st
def s2Try (kn : List String) (hs : List (String × Nat × An)) (tb : TS2) : TS2 := fun ex D st => tb (exTry kn hs D ex) D st
theorem isCls_one {K : PySem.W.Frag} {n : String} {C C' : Addr} (h : IsCls K n C) (h' : IsCls K n C') : C = C' := by
  unfold IsCls at h h'
  rw [h] at h'
  cases h'; rfl
/-- the clause (h, a) is met by c, oi, ts -/
structure ClIs (K : PySem.W.Frag) (kn : List String) (h : String) (j : Nat) (a : An) (cl : Cl) : Prop where
  cls : ∃ Ch, cl.1 = .ref Ch ∧ IsCls K h Ch ∧ ∀ n ∈ kn, ∀ C, IsCls K n C → PySem.W.exmOne K (.ref C) (.ref Ch) = some (decide (n = h))
  say : ∀ (C : Addr) (D : Ends) (D2 : Ends2) (w : Wd) (st : S) (τ : L2.St) (Hb : Hp) (d : Addr) (v : V) (x y : PyData), IsCls K h C → j ≤ τ.length → RepS K w st τ Hb → LinkE K w D2 D → Hb d = some (.xd [("at", v)]) → Dq K w.D v x → a (some x) = some y → D2.rt (.d y) → ∀ ad, Hb ad = none → (match cl.2.1 with
      | some i => cl.2.2 ad (.ref C) (some d) (unD i D) (τ.set i (some (.ref ad))) Hb
      | none => cl.2.2 ad (.ref C) (some d) D τ Hb)
  say0 : ∀ (C : Addr) (D : Ends) (D2 : Ends2) (w : Wd) (st : S) (τ : L2.St) (Hb : Hp) (y : PyData), IsCls K h C → j ≤ τ.length → RepS K w st τ Hb → LinkE K w D2 D → a none = some y → D2.rt (.d y) → ∀ ad, Hb ad = none → (match cl.2.1 with
      | some i => cl.2.2 ad (.ref C) none (unD i D) (τ.set i (some (.ref ad))) Hb
      | none => cl.2.2 ad (.ref C) none D τ Hb)
inductive ClsAre (K : PySem.W.Frag) (kn : List String) : List (String × Nat × An) → List Cl → Prop
  | nil : ClsAre K kn [] []
  | cons {h : String} {j : Nat} {a : An} {cl : Cl} {hs : List (String × Nat × An)} {l : List Cl} (c : ClIs K kn h j a cl) (r : ClsAre K kn hs l) : ClsAre K kn ((h, j, a) :: hs) (cl :: l)
section
variable {X : Cx} {body : List Stmt} {h₀ : ExceptHandler} {hds : List ExceptHandler} {l : List Cl} {pos : Pos} {tb : TS2} {Wo : WX} {kn : List String} {hs : List (String × Nat × An)}
theorem link_try {K : PySem.W.Frag} {w : Wd} {ex : EX} {D : Ends} {D2 : Ends2} (k : Link K w Wo ex) (le : LinkE K w D2 D) (c : ClsAre K kn hs l) : Link K w (wCl K Wo D l) (exTry kn hs D2 ex) := by
  induction c with
  | nil => exact ⟨fun w' st' σ' H' d v n C x hn l R hd dx hx => k.at_ w' st' σ' H' d v n C x hn l R hd dx (by unfold exTry at hx; exact hx.2), fun w' st' σ' H' n C hn l R hx => k.no w' st' σ' H' n C hn l R (by unfold exTry at hx; exact hx.2)⟩
  | @cons h j a cl hs l c r ih =>
    obtain ⟨cc, oi, ts⟩ := cl
    obtain ⟨Ch, e1, e2, e3⟩ := c.cls
    simp only at e1
    subst e1
    refine ⟨fun w' st' σ' H' d v n C x hn l R hd dx hx => ?_, fun w' st' σ' H' n C hn l R hx => ?_⟩
    · unfold exTry at hx
      obtain ⟨hk, hx⟩ := hx
      refine ⟨_, e3 n hk C hn, fun hb ad ha => ?_, fun hb => ?_⟩
      · have e := of_decide_eq_true hb
        subst e
        simp only [if_true] at hx
        obtain ⟨hj, hx⟩ := hx
        have hj2 : j ≤ σ'.length := by rw [Paired.length R.l]; exact hj
        split at hx
        · rename_i y ey
          exact c.say C D D2 w' st' σ' H' d v x y hn hj2 R (le.up l) hd dx ey hx ad ha
        · exact hx.elim
      · have e := of_decide_eq_false hb
        simp only [if_neg e] at hx
        exact ih.at_ w' st' σ' H' d v n C x hn l R hd dx hx
    · unfold exTry at hx
      obtain ⟨hk, hx⟩ := hx
      refine ⟨_, e3 n hk C hn, fun hb ad ha => ?_, fun hb => ?_⟩
      · have e := of_decide_eq_true hb
        subst e
        simp only [if_true] at hx
        obtain ⟨hj, hx⟩ := hx
        have hj2 : j ≤ σ'.length := by rw [Paired.length R.l]; exact hj
        split at hx
        · rename_i y ey
          exact c.say0 C D D2 w' st' σ' H' y hn hj2 R (le.up l) ey hx ad ha
        · exact hx.elim
      · have e := of_decide_eq_false hb
        simp only [if_neg e] at hx
        exact ih.no w' st' σ' H' n C hn l R hx
theorem p2s_try (ha : ClsAre X.K kn hs l) (hh : ClOk X (h₀ :: hds) l) (hN : X.N.Nodup) (tk : Takes X Wo) (hb : ∀ (W : WX) (pn : List (Addr × Obj)) (xe : Value → Shared → Prop), Takes (X.tr pn xe) W → PassesOwn (model X.prog X.w) X.A X.env xe → PSs2 (X.tr pn xe) W body tb)
    (hst : X.stack = X.env :: X.outer := by rfl) (hf : X.env.frame = some X.env.locals := by rfl) : PS2 X Wo (.Try body (h₀ :: hds) [] [] pos) (s2Try kn hs tb) := by
  refine ⟨psImp (ps_try_cl (tb := fun W => lowS X.K W tb) hst hf hN tk (fun W pn xe t p => (hb W pn xe t p).ps) hh) fun D σ H q => ?_⟩
  obtain ⟨w, st, ex, D2, R, k, le, q⟩ := q
  exact ⟨w, st, _, D2, R, link_try k le ha, le, q⟩
/-- the clauses of the text are those of the reading -/
def ClEx (X : Cx) (kn : List String) (hds : List ExceptHandler) (hs : List (String × Nat × An)) : Prop := ∃ l, ClOk X hds l ∧ ClsAre X.K kn hs l
theorem p2s_tryC (c : ClEx X kn (h₀ :: hds) hs) (hN : X.N.Nodup) (tk : Takes X Wo) (hb : ∀ (W : WX) (pn : List (Addr × Obj)) (xe : Value → Shared → Prop), Takes (X.tr pn xe) W → PassesOwn (model X.prog X.w) X.A X.env xe → PSs2 (X.tr pn xe) W body tb)
    (hst : X.stack = X.env :: X.outer := by rfl) (hf : X.env.frame = some X.env.locals := by rfl) : PS2 X Wo (.Try body (h₀ :: hds) [] [] pos) (s2Try kn hs tb) := by
  obtain ⟨l, c1, c2⟩ := c
  exact p2s_try c2 c1 hN tk hb hst hf
theorem clNil : ClEx X kn [] [] := ⟨[], .nil, .nil⟩
/-- a class that a clause names -/
def Hz (K : PySem.W.Frag) (mg : Str → Option Value) (h : String) : Prop := ∃ Ch, IsCls K h Ch ∧ mg (Str.ofString h) = some (.ref Ch) ∧ XfC K Ch ∧ PySem.W.findIn K (.ref Ch) "at" = some none
def Xm (K : PySem.W.Frag) (kn : List String) (h : String) : Prop := ∀ n ∈ kn, ∀ C Ch, IsCls K n C → IsCls K h Ch → PySem.W.exmOne K (.ref C) (.ref Ch) = some (decide (n = h))
theorem cl_tag {h : String} {nm tag : Str} {i : Nat} {np vp ap tp rp cp pos' : Pos} {j1 k1 : Nat} (z : Hz X.K X.mg h) (xm : Xm X.K kn h) (r : ClEx X kn hds hs) (hi : X.N[i]? = some nm := by rfl) (hln : X.env.kindOf nm = some .local := by rfl) (hg : Gl X (Str.ofString h) := by rfl)
    (hdb : (Str.ofString h == ("__debug__" : Str)) = false := by decide) (hd1 : (nm == ("__debug__" : Str)) = false := by decide) (hd2 : (nm == ("__classdict__" : Str)) = false := by decide) (hab : attributeBase (.Name nm vp) "at" X.env (eval (.Name nm vp) X.env) = eval (.Name nm vp) X.env := by rfl) :
    ClEx X kn (.ExceptHandler (some (.Name (Str.ofString h) np)) (some nm) [.Return (some (.Tuple [.Constant (.str tag) j1 cp, .Attribute (.Name nm vp) "at" ap] k1 tp)) rp] pos' :: hds) ((h, i + 1, anTag tag) :: hs) := by
  obtain ⟨Ch, h1, h2, h3, h4⟩ := z
  obtain ⟨l, c1, c2⟩ := r
  refine ⟨_, .as_ (c := .ref Ch) (i := i) (ts := fun ad ec dd => tRet (tTup (tCons (tC (.str tag)) (tCons (tXf ad ec dd Ch "at" (tVar i)) tNil)))) ⟨hg, hdb, .inl h2⟩ hi hln (fun ad ob ec dd pn hz hfs => ?_) c1, .cons ⟨⟨Ch, rfl, h1, fun n hn C hC => xm n hn C Ch hC h1⟩, ?_, ?_⟩ c2⟩
  · exact pss_one (ps_ret (pe_tup (pa_cons pe_str (pa_cons (pe_xf h3 h4 hz hfs (pe_var (X := X.suite ad ((ad, ob) :: pn)) hi (.inl hln) hd1 hd2) hab) pa_nil))))
  · intro C D D2 w st τ Hb d v x y hC hj R le hd dx ey q ad ha
    have e := isCls_one hC h1
    subst e
    cases ey
    refine ⟨.ref ad, by rw [List.getElem?_set_self (by omega)], rfl, rfl, d, [("at", v)], v, rfl, hd, by rfl, ?_⟩
    refine ⟨by simp [sizeLine], fun p hp => ?_⟩
    obtain ⟨R', l'⟩ := R.h.fix hp (.tup [.str tag, v])
    exact le.rt _ _ _ (.ref p) (.d (.tuple [.str tag, x])) l'.R R' (.tup (SqT.of upd_same) (.cons (.str tag) (.cons (dq_up l'.D _ _ dx) .nil))) (fun k e => by cases e) q
  · intro C D D2 w st τ Hb y hC hj R le ey
    cases ey
theorem cl_none {h : String} {np rp cp pos' : Pos} {j1 : Nat} (z : Hz X.K X.mg h) (xm : Xm X.K kn h) (r : ClEx X kn hds hs) (hg : Gl X (Str.ofString h) := by rfl) (hdb : (Str.ofString h == ("__debug__" : Str)) = false := by decide) :
    ClEx X kn (.ExceptHandler (some (.Name (Str.ofString h) np)) none [.Return (some (.Constant .none j1 cp)) rp] pos' :: hds) ((h, 0, anC .none) :: hs) := by
  obtain ⟨Ch, h1, h2, h3, h4⟩ := z
  obtain ⟨l, c1, c2⟩ := r
  refine ⟨_, .no_ (c := .ref Ch) (ts := fun ad ec dd => tRet (tC .non)) ⟨hg, hdb, .inl h2⟩ (fun ad ob ec dd pn hz hfs => ?_) c1, .cons ⟨⟨Ch, rfl, h1, fun n hn C hC => xm n hn C Ch hC h1⟩, ?_, ?_⟩ c2⟩
  · exact pss_one (ps_ret pe_non)
  · intro C D D2 w st τ Hb d v x y hC hj R le hd dx ey q ad ha
    cases ey
    exact le.rt w _ Hb .non (.d .none) (Le.refl w).R R.h Dq.non (fun k e => by cases e) q
  · intro C D D2 w st τ Hb y hC hj R le ey q ad ha
    cases ey
    exact le.rt w _ Hb .non (.d .none) (Le.refl w).R R.h Dq.non (fun k e => by cases e) q
end
end G

end
section
set_option maxHeartbeats 4000000
/-! GQ: what a class of the text gives: raising it, catching it. -/
namespace G
open PySem PySem.Spec PyProof.Rows L2
/-- the __init__ of a class of the text -/
def clsInit (st : Stmt) : Stmt := match st with
  | .ClassDef _ _ _ body _ _ _ _ _ _ _ => body.getD 0 st
  | _ => st
section
variable {P : Program} {w : World} {K : PySem.W.Frag} {mg : Str → Option Value} {base : Heap} {n : String} {st : Stmt} {C fI cc cda : Addr} {qual : Str} {kV doc pm ct : Value} {an : Option Addr} {p0 p1 p2 p3 p4 p5 p6 p7 p8 p9 : Pos}
def inSB (sc : Scope) : Bool := (match sc.kind with | .function => true | _ => false) && !sc.isCoroutine && !sc.isGenerator && decide (sc.names.lookup ("super" : Str) = some .globalImplicit) && decide (sc.names.lookup ("__class__" : Str) = some .free) && decide (sc.names.lookup ("self" : Str) = some .local) && decide (sc.names.lookup ("at" : Str) = some .local) &&
  sc.names.all fun y => !decide (y.2 = .cell) && (!decide (y.2 = .free) || decide (y.1 = ("__class__" : Str)))
theorem inS_by {sc : Scope} (h : inSB sc = true) : InS sc := by
  unfold inSB at h
  simp only [Bool.and_eq_true, Bool.not_eq_true', decide_eq_true_eq, List.all_eq_true, Bool.or_eq_true, decide_eq_false_iff_not] at h
  obtain ⟨⟨⟨⟨⟨⟨⟨h1, h2⟩, h3⟩, h4⟩, h5⟩, h6⟩, h7⟩, h8⟩ := h
  refine ⟨?_, h2, h3, h4, h5, h6, h7, fun y hy => ⟨(h8 y hy).1, fun e => ?_⟩⟩
  · split at h1
    · assumption
    · cases h1
  · rcases (h8 y hy).2 with g | g
    · exact absurd e g
    · exact g
theorem rz_mk (iC : IsCls K n C) (mC : mg (Str.ofString n) = some (.ref C)) (ini : PySem.W.findIn K (.ref C) "__init__" = some (some (.ref fI))) (tI : PySem.W.typeIn K (.ref fI) = some (.type "function"))
    (F : InK P K C fI cc cda "__init__" qual (defArgs (clsInit st)) (defBody (clsInit st)) (defScope (clsInit st)) .none kV doc pm ct an) (S : inSB (defScope (clsInit st)) = true)
    (hbody : defBody (clsInit st) = [.Expr (.Call (.Attribute (.Call (.Name "super" p0) [] [] p1) "__init__" p2) [.Name "at" p3] [] p4) p5, .Assign [.Attribute (.Name "self" p6) "at" p7] (.Name "at" p8) p9]) (hline : (p2.endLine == p4.line) = true)
    (hp : ((defArgs (clsInit st)).posonlyargs ++ (defArgs (clsInit st)).args).head?.map (·.arg) = some ("self" : Str))
    (hb : Binds K (PySem.W.ksFn "__init__" qual (defArgs (clsInit st)) (defBody (clsInit st)) (defScope (clsInit st)) .none kV doc pm an (.ref cda) ct cc) ["self", "at"] []) : Rz P w K mg base n :=
  ⟨C, fI, _, iC, mC, F.oex, ini, tI, init_ok (inS_by S) F hp hline hbody, hb⟩
theorem hz_mk {K : PySem.W.Frag} {mg : Str → Option Value} {h : String} {Ch : Addr} (iC : IsCls K h Ch) (mC : mg (Str.ofString h) = some (.ref Ch)) (x : xfB K Ch = true) (no : PySem.W.findIn K (.ref Ch) "at" = some none) : Hz K mg h := ⟨Ch, iC, mC, xfB_ok x, no⟩
theorem xm_nil {h : String} : Xm K [] h := fun _ hn => by cases hn
theorem xm_cons {kn : List String} {h : String} {C Ch : Addr} (iC : IsCls K n C) (iH : IsCls K h Ch) (e : PySem.W.exmOne K (.ref C) (.ref Ch) = some (decide (n = h))) (r : Xm K kn h) : Xm K (n :: kn) h := fun m hm C' Ch' h1 h2 => by
  rcases List.mem_cons.mp hm with rfl | hm
  · rw [isCls_one h1 iC, isCls_one h2 iH]; exact e
  · exact r m hm C' Ch' h1 h2
theorem oex_mk {nm q : Str} {N : Addr} {bs bm : List Value} {sn : List Str} {sub : List Value} {ab : Bool} {col : Option Bool} {dd : Option Addr} {k0 k1 k2 k3 k5 : Option Value} (hC : K.lookup C = some (excClassObj nm q C N bs bm true sn sub ab col dd k0 k1 k2 k3 k5 "ValueError.__new__")) (hbm : PySem.HandSPX.refsVE bm = true)
    (sa : PySem.W.findIn K (.ref C) "__setattr__" = some (some (.builtin "object.__setattr__"))) (exC : PySem.W.subIn K (.ref C) (.type "BaseException") = some true) (tyC : PySem.W.typeIn K (.ref C) = some (.type "type")) (kC : PySem.W.keepIn K (.ref C) = true) : OexC K C :=
  ⟨⟨nm, q, N, bs, bm, sn, sub, ab, col, dd, k0, k1, k2, k3, k5, hC, hbm⟩, sa, exC, tyC, kC⟩
end
end G

end
section
set_option maxHeartbeats 4000000
/-! GO: a name set to a comprehension over a list of the def's own. -/
namespace G
open PySem L2
/-- x = te, its lists forgotten, the others as they have become -/
theorem p2s_scF {X : Cx} {W : WX} {s : Stmt} {te : TE2} {i : Nat} (hm : MonoE te) (h : PS2 X W s (s2Asg te (g2Name i))) : PS2 X W s (s2Asg (t2ScF te) (g2Name i)) := by
  refine ⟨psImp h.ps fun D σ H q => ?_⟩
  obtain ⟨w, st, ex, D2, R, l, le, q⟩ := q
  refine ⟨w, st, ex, ⟨fun st' => ∀ w' σ' H', Le w w' → RepS X.K w' st' σ' H' → D.nx σ' H', D2.rt, D2.bk, D2.ct⟩, R, l, ⟨fun w' st' σ' H' l2 R2 f => f w' σ' H' l2 R2, le.rt, le.bk, le.ct⟩, ?_⟩
  refine hm ex st _ _ (fun x st1 q1 w' σ' H' l1 R1 => ?_) q
  obtain ⟨hs, q1⟩ := q1
  have hn : ∀ (j k : Nat), st.s[j]? = some (some (.o k)) → k < st.m.length := fun j k e => by
    obtain ⟨v, _, a, h1, _⟩ := RepL.get R.l e
    rw [← R.h.len]; exact (List.getElem?_eq_some_iff.mp h1).1
  -- a state whose place i holds x alone
  have R1' : RepL X.K w' σ' (st.s.set i (some x)) := by
    have := R1.l
    rw [show (st1.set i x).s = st1.s.set i (some x) from rfl, hs] at this
    exact this
  by_cases hi : i < st.s.length
  · have hx : ∃ v, σ'[i]? = some (some v) ∧ RepV X.K w' v x := RepL.get R1' (by rw [List.getElem?_set_self hi])
    obtain ⟨v, hv, rv⟩ := hx
    obtain ⟨w2, m2, y, l2, RH, rv2, cl, hm2, q2⟩ : ∃ w2 m2 y, Le w' w2 ∧ RepH X.K w2 m2 H' ∧ RepV X.K w2 v y ∧ Closed y ∧ st.m.length ≤ m2.length ∧ g2Name i ex y ⟨st.s, m2.take st.m.length⟩ D2.nx := by
      have RS : RepS X.K w' ⟨[], st1.m⟩ [] H' := ⟨R1.h, .nil⟩
      have q1' : asC x ⟨[], st1.m⟩ fun y st2 => st.m.length ≤ st2.m.length ∧ g2Name i ex y ⟨st.s, st2.m.take st.m.length⟩ D2.nx := by
        unfold asC at q1 ⊢
        split at q1
        · rename_i k
          show match (⟨[], st1.m⟩ : S).m[k]? with | some ow => _ | none => _
          cases e : st1.m[k]? with
          | none => rw [e] at q1; exact q1.elim
          | some ow => rw [e] at q1; simp only [e]; exact q1
        · rename_i hx
          cases x with
          | o k => exact absurd rfl (hx k)
          | _ => exact q1
      obtain ⟨w2, st2, y, l2, R2, rv2, cl, ⟨hm, q2⟩, _⟩ := asC_ok RS rv q1'
      exact ⟨w2, st2.m, y, l2, R2.h, rv2, cl, hm, q2⟩
    have l3 : Le w (w2.cut st.m.length) := le_cut (l1.trans l2) (Nat.le_of_eq R.h.len)
    have hset : (σ'.set i (some v)) = σ' := by
      apply List.ext_getElem?; intro j
      by_cases e : i = j
      · subst e
        have hlt : i < σ'.length := (List.getElem?_eq_some_iff.mp hv).1
        rw [List.getElem?_set_self hlt, hv]
      · rw [List.getElem?_set_ne e]
    have e1 : (m2.take st.m.length).length = st.m.length := by rw [List.length_take]; omega
    have RC : RepH X.K (w2.cut st.m.length) (m2.take st.m.length) H' := by
      have := repH_cut (m0 := m2.take st.m.length) RH (by rw [e1])
      rwa [e1] at this
    refine le.nx (w2.cut st.m.length) ((⟨st.s, m2.take st.m.length⟩ : S).set i y) σ' H' l3 ⟨RC, ?_⟩ q2
    have R3 : RepL X.K w2 σ' (st.s.set i (some y)) := by
      have := RepL.set (v := some v) (x := some y) rv2 i (RepL.up l2 R1')
      rw [hset, List.set_set] at this
      exact this
    refine repL_cut R3 fun j k e => ?_
    rw [show ((⟨st.s, m2.take st.m.length⟩ : S).set i y).s = st.s.set i (some y) from rfl, List.getElem?_set] at e
    split at e
    · first
        | (cases e; exact absurd rfl (cl k))
        | (split at e
           · cases e; exact absurd rfl (cl k)
           · cases e)
    · exact hn j k e
  · have hs' : st.s.set i (some x) = st.s := List.set_eq_of_length_le (by omega)
    obtain ⟨w2, m2, l2, RH, hm2, y, q2⟩ : ∃ w2 m2, Le w' w2 ∧ RepH X.K w2 m2 H' ∧ st.m.length ≤ m2.length ∧ ∃ y, g2Name i ex y ⟨st.s, m2.take st.m.length⟩ D2.nx := by
      unfold asC at q1
      cases x with
      | o k =>
        simp only at q1
        cases e : st1.m[k]? with
        | none => rw [e] at q1; exact q1.elim
        | some ow =>
          have hk : k < w'.r.length := by rw [R1.h.len]; exact (List.getElem?_eq_some_iff.mp e).1
          rw [e] at q1
          have RS : RepS X.K w' ⟨[], st1.m⟩ [] H' := ⟨R1.h, .nil⟩
          have q1' : asC (.o k) ⟨[], st1.m⟩ fun y st2 => st.m.length ≤ st2.m.length ∧ g2Name i ex y ⟨st.s, st2.m.take st.m.length⟩ D2.nx := by
            simp only [asC, e]; exact q1
          obtain ⟨w2, st2, y, l2, R2, rv2, cl, ⟨hm, q2⟩, _⟩ := asC_ok (x := .o k) (v := .ref (w'.r[k])) RS ⟨_, List.getElem?_eq_getElem hk, rfl⟩ q1'
          exact ⟨w2, st2.m, l2, R2.h, hm, y, q2⟩
      | d z => exact ⟨w', st1.m, Le.refl _, R1.h, q1.1, _, q1.2⟩
      | deal => exact ⟨w', st1.m, Le.refl _, R1.h, q1.1, _, q1.2⟩
      | scr ns => exact ⟨w', st1.m, Le.refl _, R1.h, q1.1, _, q1.2⟩
      | raw u => exact ⟨w', st1.m, Le.refl _, R1.h, q1.1, _, q1.2⟩
    have l3 : Le w (w2.cut st.m.length) := le_cut (l1.trans l2) (Nat.le_of_eq R.h.len)
    have hy : ((⟨st.s, m2.take st.m.length⟩ : S).set i y) = ⟨st.s, m2.take st.m.length⟩ := by
      show (⟨st.s.set i (some y), m2.take st.m.length⟩ : S) = _
      rw [List.set_eq_of_length_le (by omega)]
    have e1 : (m2.take st.m.length).length = st.m.length := by rw [List.length_take]; omega
    have RC : RepH X.K (w2.cut st.m.length) (m2.take st.m.length) H' := by
      have := repH_cut (m0 := m2.take st.m.length) RH (by rw [e1])
      rwa [e1] at this
    refine le.nx (w2.cut st.m.length) ((⟨st.s, m2.take st.m.length⟩ : S).set i y) σ' H' l3 ?_ q2
    rw [hy]
    refine ⟨RC, ?_⟩
    rw [hs'] at R1'
    exact repL_cut (RepL.up l2 R1') hn
section
variable {X : Cx} {W : WX} {elt tg iter : Expr} {ifs : List Expr} {scope : Scope} {pos : Pos} {ti : TI2} {tt : TT2} {te : TE2}
theorem p2setScF1 {l i : Nat} {nm y : Str} {pn py : Pos} {spos : Pos} (hN : X.N.Nodup) (hi : PI2 X W (.Name y py) iter ti) (ok : blkC X.N X.env.scope scope [(y, i)] = true)
    (ht : ∀ (s : Shared) (H : Hp) (C : Addr) (cl : List (Str × Addr)) (fp : List Addr), PTs2 (X.blk s H scope (compEnvC scope cl C X.env) fp) W0 ifs tt) (he : ∀ (s : Shared) (H : Hp) (C : Addr) (cl : List (Str × Addr)) (fp : List Addr), PE2 (X.blk s H scope (compEnvC scope cl C X.env) fp) W0 elt te)
    (hsw : swapsWith (.ListComp elt [⟨.Name y py, iter, ifs, 0⟩] scope pos) (some (.Name nm pn)) spos.line X.env = pure true)
    (hc : X.calm = true := by rfl) (hl : X.N[l]? = some nm := by rfl) (hll : X.env.scope.names.lookup nm = some .local := by rfl)
    (hg : ∀ (s : Shared) (H : Hp) (C : Addr) (cl : List (Str × Addr)) (fp : List Addr), PG (X.blk s H scope (compEnvC scope cl C X.env) fp) (.Name y py) (gName i) := by first | exact fun _ _ _ _ _ => pg_name (by assumption) rfl (Or.inl rfl) | exact fun _ _ _ _ _ => pg_name (by assumption) rfl (Or.inr rfl) (Or.inl rfl)) (hs : ∀ x, foldedSetIterable iter X.env x = pure x := by intro _; rfl) :
    PS2 X W (.Assign [.Name nm pn] (.ListComp elt [⟨.Name y py, iter, ifs, 0⟩] scope pos) spos) (s2Asg (t2ScF (t2Lc1 ti i tt te)) (g2Name l)) := p2s_scF (mono_lcs1 hi.mono) (p2setLc1 hN hi ok ht he hsw hc hl hll hg hs)
end
end G

end
section
set_option maxHeartbeats 4000000
/-! GM: a def that hears a lambda: try: return ('told', work()) / except C as wrong: return ('tag', wrong.at). -/
namespace G
open PySem PySem.Spec PyProof.Rows L2
/-- the suite of a clause: ('tag', wrong.at) -/
def hdTs (Ch : Addr) (i : Nat) (tag : Str) : Addr → Value → Option Addr → TS := fun ad ec dd => tRet (tTup (tCons (tC (.str tag)) (tCons (tXf ad ec dd Ch "at" (tVar i)) tNil)))
/-- the clauses of a def that hears -/
inductive HdOk (K : PySem.W.Frag) (mg : Str → Option Value) (Ng : List Str) (sg : Scope) (kn : List String) (i : Nat) : List ExceptHandler → List (String × Str) → List Cl → Prop
  | nil : HdOk K mg Ng sg kn i [] [] []
  | cons {h : String} {nm tag : Str} {Ch : Addr} {np vp ap tp rp cp pos' : Pos} {j1 k1 : Nat} {hds : List ExceptHandler} {hs : List (String × Str)} {l : List Cl} (h1 : IsCls K h Ch) (h2 : mg (Str.ofString h) = some (.ref Ch)) (h3 : XfC K Ch) (h4 : PySem.W.findIn K (.ref Ch) "at" = some none)
      (xm : ∀ n ∈ kn, ∀ C, IsCls K n C → PySem.W.exmOne K (.ref C) (.ref Ch) = some (decide (n = h))) (hi : Ng[i]? = some nm) (hln : sg.names.lookup nm = some .local) (hg : sg.names.lookup (Str.ofString h) = some .globalImplicit)
      (hdb : (Str.ofString h == ("__debug__" : Str)) = false) (hd1 : (nm == ("__debug__" : Str)) = false) (hd2 : (nm == ("__classdict__" : Str)) = false) (r : HdOk K mg Ng sg kn i hds hs l) :
      HdOk K mg Ng sg kn i (.ExceptHandler (some (.Name (Str.ofString h) np)) (some nm) [.Return (some (.Tuple [.Constant (.str tag) j1 cp, .Attribute (.Name nm vp) "at" ap] k1 tp)) rp] pos' :: hds) ((h, tag) :: hs) ((.ref Ch, some i, hdTs Ch i tag) :: l)
section
variable {K : PySem.W.Frag} {mg : Str → Option Value} {Ng : List Str} {sg : Scope} {kn : List String} {i : Nat} {hds : List ExceptHandler} {hs : List (String × Str)} {l : List Cl}
theorem clOk_of {P : Program} {w : World} {base : Heap} {x : Str} {g : Addr} {cdg : Value} {A : Around} {stk : List Env} {s : Shared} {H : Hp} (h : HdOk K mg Ng sg kn i hds hs l) : ClOk (cxOf C8.CX0 P w K mg base Ng x sg g cdg A stk s H C8.E0).nox hds l := by
  induction h with
  | nil => exact .nil
  | @cons h nm tag Ch np vp ap tp rp cp pos' j1 k1 hds hs l h1 h2 h3 h4 xm hi hln hg hdb hd1 hd2 r ih =>
    refine .as_ (c := .ref Ch) (i := i) ⟨hg, hdb, .inl h2⟩ hi hln (fun ad ob ec dd pn hz hfs => ?_) ih
    exact pss_one (ps_ret (pe_tup (pa_cons pe_str (pa_cons (pe_xf h3 h4 hz hfs (pe_var (X := Cx.suite _ ad ((ad, ob) :: pn)) hi (.inl hln) hd1 hd2) rfl) pa_nil))))
theorem wcl_of (h : HdOk K mg Ng sg kn i hds hs l) {n : String} {C d : Addr} {v : V} {τ : L2.St} {H' : Hp} {D : Ends} {tag : Str} (hn : n ∈ kn) (hC : IsCls K n C) (hi : i < τ.length) (hd : H' d = some (.xd [("at", v)])) (e : hs.lookup n = some tag)
    (q : ∀ p, H' p = none → D.rt (.ref p) (upd H' p (.tup [.str tag, v]))) : wCl K (fun _ _ _ _ => False) D l (.ref C) (some d) τ H' := by
  induction h with
  | nil => cases e
  | @cons h nm tag2 Ch np vp ap tp rp cp pos' j1 k1 hds hs l h1 h2 h3 h4 xm _ _ _ _ _ _ r ih =>
    refine ⟨_, xm n hn C hC, fun hb ad ha => ?_, fun hb => ?_⟩
    · have e0 := of_decide_eq_true hb
      subst e0
      have eC := isCls_one hC h1
      subst eC
      have et : tag2 = tag := by simpa using e
      subst et
      refine ⟨.ref ad, by rw [List.getElem?_set_self (by omega)], rfl, rfl, d, [("at", v)], v, rfl, hd, by rfl, ?_⟩
      exact ⟨by simp [sizeLine], q⟩
    · have e0 := of_decide_eq_false hb
      refine ih ?_
      rw [List.lookup_cons] at e
      have : (n == h) = false := by simpa using e0
      rw [this] at e
      exact e
theorem wcl_rt (h : HdOk K mg Ng sg kn i hds hs l) {D D' : Ends} (e : D.rt = D'.rt) {Wo : WX} {cls : Value} {d : Option Addr} {τ : L2.St} {H' : Hp} (q : wCl K Wo D l cls d τ H') : wCl K Wo D' l cls d τ H' := by
  induction h with
  | nil => exact q
  | cons h1 h2 h3 h4 xm _ _ _ _ _ _ r ih =>
    obtain ⟨b, hb, yes, no⟩ := q
    refine ⟨b, hb, fun z ad ha => ?_, fun z => ih (no z)⟩
    have q2 := yes z ad ha
    unfold hdTs at q2 ⊢
    unfold tRet at q2 ⊢
    unfold unD at q2 ⊢
    simp only at q2 ⊢
    rw [← e]; exact q2
end
/-- what a def that hears makes of the lambda -/
def TTh (K : PySem.W.Frag) (nN : Nat) (l : List Cl) (told : Str) : (XK → Hp → VK → Prop) → Hp → VK → Prop := fun tl H Q =>
  (∀ E H (Q Q' : VK), (∀ v H, Q v H → Q' v H) → tl E H Q → tl E H Q') ∧
  tl (fun cls d H' => ∀ τ : L2.St, τ.length = nN → wCl K (fun _ _ _ _ => False) { nx := fun _ H' => Q .non H', rt := Q } l cls d τ H') H (fun v H1 => ∀ p, H1 p = none → Q (.ref p) (upd H1 p (.tup [.str told, v])))
section
variable {X : Cx} {Ng : List Str} {x a q told : Str} {sg : Scope} {g : Addr} {cdg : Value} {kn : List String} {i : Nat} {h0 : ExceptHandler} {hds : List ExceptHandler} {hs : List (String × Str)} {l : List Cl} {p1 p2 p3 p4 p5 p6 p7 p8 p9 : Pos} {j k : Nat}
theorem heard_gives (hk : HdOk X.K X.mg Ng sg kn i (h0 :: hds) hs l) (hN : Ng.Nodup) (hs0 : ∀ f : Addr, (L2.start Ng [V.ref f])[0]? = some (some (V.ref f))) :
    LamX.GivesTo X Ng x sg g cdg [.Try [.Return (some (.Tuple [.Constant (.str told) j p4, .Call (.Name a p1) [] [] p2] k p5)) p3] (h0 :: hds) [] [] p8] a q (TTh X.K Ng.length l told) := by
  intro f c' s H Q tl act hc h
  obtain ⟨hm, h⟩ := h
  refine ⟨_, pss_one (ps_try_cl (X := (cxOf C8.CX0 X.prog X.w X.K X.mg X.base Ng x sg g cdg X.A X.stack s H C8.E0).nox) (Wo := fun _ _ _ _ => False)
      (tb := fun W D σ H => ∃ Ech : XK, (∀ cls d σ' H', Ech cls d H' → σ'.length = Ng.length → W cls d σ' H') ∧ σ[0]? = some (some (.ref f)) ∧ H c' = some (LamX.CodeO c' q) ∧ tl Ech H (fun v H1 => ∀ p, H1 p = none → D.rt (.ref p) (upd H1 p (.tup [.str told, v]))))
      rfl rfl hN LamX.takes0 (fun W pn xe tk _ => ?_) (clOk_of hk)), ?_⟩
  · refine ⟨fun pins s' σ H' D I h' => ?_⟩
    obtain ⟨Ech, hW, h1, h2, h3⟩ := h'
    have tk2 : Takes ((cxOf C8.CX0 X.prog X.w X.K X.mg X.base Ng x sg g cdg X.A X.stack s H C8.E0).nox.tr pn xe) (fun cls d σ' H' => σ'.length = Ng.length → W cls d σ' H') := fun u s' ⟨a, B, sI, pins, σ, H, cls, d, e, I, nb, up, sky, na, os, ag, w⟩ =>
      tk u s' ⟨a, B, sI, pins, σ, H, cls, d, e, I, nb, up, sky, na, os, ag, w I.len⟩
    have hp := act (fun cls d σ' H' => σ'.length = Ng.length → W cls d σ' H') pn xe Ech p1 p2 tk2 hW
    have hq : PSs ((cxOf C8.CX0 X.prog X.w X.K X.mg X.base Ng x sg g cdg X.A X.stack s H C8.E0).nox.tr pn xe) [.Return (some (.Tuple [.Constant (.str told) j p4, .Call (.Name a p1) [] [] p2] k p5)) p3] _ := pss_one (ps_ret (pe_tup (pa_cons pe_str (pa_cons hp pa_nil))))
    refine hq.run pins s' σ H' D I ⟨h1, h2, hm _ _ _ _ (fun v H1 q1 => ?_) h3⟩
    exact ⟨by simp [sizeLine], q1⟩
  · exact ⟨_, fun cls d σ' H' w hl => w σ' hl, hs0 f, hc, h⟩
theorem heard_gives2 {nv : Str} {jt : Nat} (hk : HdOk X.K X.mg Ng sg kn i (h0 :: hds) hs l) (hN : Ng.Nodup) (hs0 : ∀ f : Addr, (L2.start Ng [V.ref f])[0]? = some (some (V.ref f))) (hj : Ng[jt]? = some nv) (hv : sg.names.lookup nv = some .local)
    (hd1 : (nv == ("__debug__" : Str)) = false) (hd2 : (nv == ("__classdict__" : Str)) = false) :
    LamX.GivesTo X Ng x sg g cdg [.Try [.Assign [.Name nv p6] (.Call (.Name a p1) [] [] p2) p3] (h0 :: hds) [] [] p8, .Return (some (.Tuple [.Constant (.str told) j p4, .Name nv p7] k p5)) p9] a q (TTh X.K Ng.length l told) := by
  intro f c' s H Q tl act hc h
  obtain ⟨hm, h⟩ := h
  have hr : PSs (cxOf C8.CX0 X.prog X.w X.K X.mg X.base Ng x sg g cdg X.A X.stack s H C8.E0).nox [.Return (some (.Tuple [.Constant (.str told) j p4, .Name nv p7] k p5)) p9] _ := pss_one (ps_ret (pe_tup (pa_cons pe_str (pa_cons (pe_var (i := jt) hj (.inl hv) hd1 hd2) pa_nil))))
  refine ⟨_, pss_cons (ps_try_cl (X := (cxOf C8.CX0 X.prog X.w X.K X.mg X.base Ng x sg g cdg X.A X.stack s H C8.E0).nox) (Wo := fun _ _ _ _ => False)
      (tb := fun W D σ H => ∃ Ech : XK, (∀ cls d σ' H', Ech cls d H' → σ'.length = Ng.length → W cls d σ' H') ∧ σ[0]? = some (some (.ref f)) ∧ H c' = some (LamX.CodeO c' q) ∧ tl Ech H (fun v H1 => D.nx (σ.set jt (some v)) H1))
      rfl rfl hN LamX.takes0 (fun W pn xe tk _ => ?_) (clOk_of hk)) hr, ?_⟩
  · refine ⟨fun pins s' σ H' D I h' => ?_⟩
    obtain ⟨Ech, hW, h1, h2, h3⟩ := h'
    have tk2 : Takes ((cxOf C8.CX0 X.prog X.w X.K X.mg X.base Ng x sg g cdg X.A X.stack s H C8.E0).nox.tr pn xe) (fun cls d σ' H' => σ'.length = Ng.length → W cls d σ' H') := fun u s' ⟨a, B, sI, pins, σ, H, cls, d, e, I, nb, up, sky, na, os, ag, w⟩ =>
      tk u s' ⟨a, B, sI, pins, σ, H, cls, d, e, I, nb, up, sky, na, os, ag, w I.len⟩
    have hp := act (fun cls d σ' H' => σ'.length = Ng.length → W cls d σ' H') pn xe Ech p1 p2 tk2 hW
    have hq : PSs ((cxOf C8.CX0 X.prog X.w X.K X.mg X.base Ng x sg g cdg X.A X.stack s H C8.E0).nox.tr pn xe) [.Assign [.Name nv p6] (.Call (.Name a p1) [] [] p2) p3] _ := pss_one (ps_set (i := jt) hN hj (.inl hv) hp)
    exact hq.run pins s' σ H' D I ⟨h1, h2, h3⟩
  · refine ⟨fun cls d H' => ∀ τ : L2.St, τ.length = Ng.length → wCl X.K (fun _ _ _ _ => False) { nx := fun _ H' => Q .non H', rt := Q } l cls d τ H', fun cls d σ' H' w hl => ?_, hs0 f, hc, ?_⟩
    · have := w σ' hl
      refine wcl_rt (K := X.K) (D := { nx := fun _ H' => Q .non H', rt := Q }) hk ?_ this
      rfl
    · refine hm _ _ _ _ (fun v H1 q1 => ?_) h
      have hl : jt < (L2.start Ng [V.ref f]).length := by
        have := (List.getElem?_eq_some_iff.mp hj).1
        simp [L2.start]; omega
      exact ⟨v, by rw [List.getElem?_set_self hl], by simp [sizeLine], q1⟩
end
/-- the def x hears: its one parameter is called, exceptions are told by tags -/
def HeardK (K : PySem.W.Frag) (mg : Str → Option Value) (x a : Str) (kn : List String) (hs : List (String × Str)) (told : Str) : Prop :=
  ∃ (g : Addr) (pg : Arguments) (bg : List Stmt) (sg : Scope) (dV kV doc pm cdv ct oc : Value) (an od : Option Addr) (osl : Array (Option Value)) (Ng : List Str) (i : Nat) (hds : List ExceptHandler) (l : List Cl),
    mg x = some (.ref g) ∧ PySem.W.keepIn K (.ref g) = true ∧ K.lookup g = some ⟨oc, od, .func (PySem.W.fnOf x x pg bg sg dV kV doc pm an cdv ct), osl⟩ ∧ PySem.W.codeIn K cdv x = true ∧ L2.Binds K (PySem.W.fnOf x x pg bg sg dV kV doc pm an cdv ct) [a] [] ∧ FnScope Ng [a] sg ∧ Ng[0]? = some a ∧ Vis sg a ∧
    HdOk K mg Ng sg kn i hds hs l ∧ (∀ (X : Cx) (q : Str), X.K = K → X.mg = mg → LamX.GivesTo X Ng x sg g cdv bg a q (TTh K Ng.length l told)) ∧ i < Ng.length ∧ (x == ("__debug__" : Str)) = false ∧ (a == ("__debug__" : Str)) = false ∧ (a == ("__classdict__" : Str)) = false
theorem rep_tabs {K : PySem.W.Frag} {w : Wd} {m : List Own} {H H1 : Hp} (R : RepH K w m H) (eN : LamX.ExtN H H1) (tT : LamX.Tabs Tbs H1) : RepH K w m H1 := by
  refine ⟨fun a o e => eN a o (R.ed a o e) (fun ps z => R.tb.dt a ps (by rw [e, z])), fun a o e => eN a o (R.ef a o e) (fun ps z => R.tb.ft a ps (by rw [e, z])), R.df, R.len, fun k a ow h1 h2 => ?_, R.nd, fun a b e => ?_, ⟨tT, R.tb.dt, R.tb.ft⟩⟩
  · obtain ⟨vs, e1, e2⟩ := R.own k a ow h1 h2
    exact ⟨vs, eN a _ e1 (fun ps z => by cases z), e2⟩
  · obtain ⟨⟨ne, n, gs, h1, h2, h3⟩, y⟩ := R.deal a b e
    exact ⟨⟨ne, n, gs, eN a _ h1 (fun ps z => by cases z), eN b _ h2 (fun ps z => by cases z), h3⟩, y⟩
def exHeard (kn : List String) (hs : List (String × Str)) (st : S) (Q : KD) : EX := fun n x st' => n ∈ kn ∧ st'.s = st.s ∧ match x with
  | some y => ∃ tag, hs.lookup n = some tag ∧ Q (.d (.tuple [.str tag, y])) st'
  | none => False
/-- x(lambda: e), what e tells or raises, told by tags -/
def t2Heard (kn : List String) (hs : List (String × Str)) (told : Str) (tb : TE2) : TE2 := fun _ st Q => ∃ Q0 : KD, (∀ x s, Q0 x s → Q x s) ∧ tb (exHeard kn hs st Q0) st fun z st2 => asD z st2 fun y st3 => Q0 (.d (.tuple [.str told, y])) st3
section
variable {X : Cx} {W : WX} {x a told : Str} {kn : List String} {hs : List (String × Str)} {k : Nat} {c P : Addr} {params : Arguments} {body : Expr} {scope : Scope} {tb : TE2} {p lpos pos : Pos}
theorem p2heard (hk : HeardK X.K X.mg x a kn hs told) (TB : LamX.TabB X.base X.mg c P) (hcode : X.env.code = .ref c) (hmT : (P, X.env.qual ++ "<lambda>") ∈ Tbs) (hu : ∀ p ∈ Tbs, p.1 = P → p.2 = X.env.qual ++ "<lambda>") (hr : Room (k + 2) X.A)
    (hb : ∀ (A : Around) (outer : List Env) (s : Shared) (H : Hp) (E : XK) (f c' : Addr), Room k (A.deeper (LamX.lamEnv X scope s.heap.objs.size f c')) → PE2 (LamX.lamCx X A outer s H E scope f c') (fun cls d _ H => E cls d H) body tb)
    (L : LamX.lamSB X.env.scope scope = true := by decide +kernel) (hg : Gl X x := by rfl) (hdef : defaultsOf params X.env = ([], []) := by rfl)
    (hbind : ∀ (q : Str) (cl : List (Str × Addr)) (pm cv ctv : Value), bindArgs (PySem.W.kla_fn "<lambda>" q params body scope cl pm cv ctv) ⟨[], []⟩ = pure [] := by exact fun _ _ _ _ _ => rfl) :
    PE2 X W (.Call (.Name x p) [.Lambda params body scope lpos] [] pos) (t2Heard kn hs told tb) := by
  obtain ⟨g, pg, bg, sg, dV, kV, doc, pm, cdv, ct, oc, an, od, osl, Ng, i, hds, l, h1, h2, h3, h4, h5, h6, h7, h8, h9, h10, h11, h12, h13, h14⟩ := hk
  have hm : MonoE tb := (hb X.A X.outer X.s_0 X.H_0 (fun _ _ _ => False) 0 0 ((hr.mono (by omega : k + 1 ≤ k + 2)).deeper _)).mono
  refine ⟨peImp (LamX.pe_lamcall (T := Tbs) (TT := TTh X.K Ng.length l told) (t := fun E => low X.K (fun cls d _ H => E cls d H) tb) hg h1 h2 h3 h4 h5 h6 h7 h8 (h10 X _ rfl rfl) TB hcode hmT hu hr (LamX.lamS_by L) hdef hbind (fun A outer s H E f c' r => (hb A outer s H E f c' r).pe) h12 h13 h14) fun σ H Q q => ?_,
    fun ex st Q Q' h ⟨Q0, h0, q⟩ => ⟨Q0, fun x s z => h x s (h0 x s z), q⟩⟩
  obtain ⟨w, st, ex, R, lk, Q0, hQ0, q⟩ := q
  refine ⟨R.h.tb.tab, fun H1 eN tT => ⟨fun E H' Q Q' hQ ⟨w, st, ex, r1, r2, r3⟩ => ⟨w, st, ex, r1, r2, hm _ _ _ _ (fun x st' z w' H' v a b c => hQ v H' (z w' H' v a b c)) r3⟩, ?_⟩⟩
  have R1 : RepS X.K w st σ H1 := ⟨rep_tabs R.h eN tT, R.l⟩
  refine ⟨w, st, exHeard kn hs st Q0, R1, ⟨fun w' st' σ' H' d v n C x hC le R' hd dx hx τ hτ => ?_, fun w' st' σ' H' n C hC le R' hx => ?_⟩, hm _ _ _ _ (fun z st2 q2 w' H' v le R2 rv => ?_) q⟩
  · obtain ⟨hn, hs0, tag, ht, q0⟩ := hx
    refine wcl_of h9 hn hC (by omega) hd ht fun p hp => ?_
    obtain ⟨R4, l4⟩ := R'.h.fix hp (.tup [.str tag, v])
    exact hQ0 _ _ q0 _ _ _ (le.trans l4) ⟨R4, by rw [hs0]; exact R.l.up (le.trans l4)⟩ (.tup (SqT.of upd_same) (.cons (.str tag) (.cons (dq_up l4.D _ _ dx) .nil)))
  · exact hx.2.2.elim
  · intro p hp
    obtain ⟨w2, st3, y, l2, R3, dq, q3, _⟩ := asD_ok R2 rv q2
    obtain ⟨R4, l4⟩ := R3.h.fix hp (.tup [.str told, v])
    exact hQ0 _ _ q3 _ _ _ ((le.trans l2).trans l4) ⟨R4, R3.l.up l4⟩ (.tup (SqT.of upd_same) (.cons (.str told) (.cons (dq_up l4.D _ _ dq) .nil)))
end
theorem k_heard {kn : List String} {hs : List (String × Str)} {told : Str} {tb : TE2} {ex : EX} {st : S} {Q : KD} (h : tb (exHeard kn hs st Q) st fun z st2 => asD z st2 fun y st3 => Q (.d (.tuple [.str told, y])) st3) : t2Heard kn hs told tb ex st Q := ⟨Q, fun _ _ h => h, h⟩
section
variable {P : Program} {w : World} {K : PySem.W.Frag} {mg : Str → Option Value} {base : Heap}
/-- as Fun, its code object known -/
structure FunC (K : PySem.W.Frag) (x qual : Str) (st : Stmt) (f : Addr) (fd : FuncData) (c : Addr) : Prop where
  fn : Fun K x qual st f fd
  ex : ∃ (oc : Value) (od : Option Addr) (kV doc pm : Value) (an : Option Addr) (ct : Value) (osl : Array (Option Value)),
    fd = PySem.W.fnOf x qual (defArgs st) (defBody st) (defScope st) .none kV doc pm an (.ref c) ct ∧ K.lookup f = some ⟨oc, od, .func fd, osl⟩ ∧ PySem.W.codeIn K (.ref c) qual = true
theorem funC_mk {x qual : Str} {st : Stmt} {f c : Addr} {oc : Value} {od an : Option Addr} {osl : Array (Option Value)} {kV doc pm ct : Value} (l : K.lookup f = some ⟨oc, od, .func (PySem.W.fnOf x qual (defArgs st) (defBody st) (defScope st) .none kV doc pm an (.ref c) ct), osl⟩)
    (d : PySem.W.codeIn K (.ref c) qual = true) (k : PySem.W.keepIn K (.ref f) = true) : FunC K x qual st f (PySem.W.fnOf x qual (defArgs st) (defBody st) (defScope st) .none kV doc pm an (.ref c) ct) c := ⟨fun_mk l d k, oc, od, kV, doc, pm, an, ct, osl, rfl, l, d⟩
theorem fn2C {x qual : Str} {st : Stmt} {f c : Addr} {fd : FuncData} {N ps : List Str} {k : Nat} {sp : Sp2} {t : TS2} (F : FunC K x qual st f fd c) (Sc : FnScope N ps (defScope st)) (len : ∀ exf ds Q, sp exf ds Q → ds.length = ps.length)
    (body : ∀ (A : Around) (outer : List Env) (s : Shared) (H : Hp) (E : XK), Room k (A.deeper (PyProof.Rows.envOfC qual (defScope st) s.heap.objs.size f (.ref c))) →
      Takes (cxOf (L2.CX P w) P w K mg base N qual (defScope st) f (.ref c) A outer s H E) (fun cls d _ H => E cls d H) →
      PassesOwn (model P w) (cxOf (L2.CX P w) P w K mg base N qual (defScope st) f (.ref c) A outer s H E).A (cxOf (L2.CX P w) P w K mg base N qual (defScope st) f (.ref c) A outer s H E).env (cxOf (L2.CX P w) P w K mg base N qual (defScope st) f (.ref c) A outer s H E).xe →
      PSs2 (cxOf (L2.CX P w) P w K mg base N qual (defScope st) f (.ref c) A outer s H E) (fun cls d _ H => E cls d H) (defBody st) t)
    (pure2 : Does N t sp) : FnOk P w K mg base (L2.CX P w) (k + 1) f fd ps (lowSp K sp) := by
  obtain ⟨oc, od, kV, doc, pm, an, ct, osl, rfl, lk, hcd⟩ := F.ex
  refine fn_of lk hcd Sc (fun vs H Q E h => ?_) fun A outer s H vs Q E hr h => ⟨_, (body A outer s H E hr (takes_of rfl rfl rfl rfl) (passes_of rfl)).ps, low_start pure2 h⟩
  obtain ⟨w, ds, exf, Q2, R, rv, cl, q, _⟩ := h
  rw [Paired.length rv]; exact len _ _ _ q
theorem hk_mk1 {x a told : Str} {st : Stmt} {g : Addr} {oc : Value} {od an : Option Addr} {osl : Array (Option Value)} {kV doc pm cdv ct : Value} {Ng : List Str} {kn : List String} {hs : List (String × Str)} {i j k : Nat} {e0 : ExceptHandler} {hds : List ExceptHandler} {l : List Cl} {p1 p2 p3 p4 p5 p8 : Pos}
    (lk : K.lookup g = some ⟨oc, od, .func (PySem.W.fnOf x x (defArgs st) (defBody st) (defScope st) .none kV doc pm an cdv ct), osl⟩) (d : PySem.W.codeIn K cdv x = true) (kp : PySem.W.keepIn K (.ref g) = true) (hm : mg x = some (.ref g))
    (hb : L2.Binds K (PySem.W.fnOf x x (defArgs st) (defBody st) (defScope st) .none kV doc pm an cdv ct) [a] []) (Sc : FnScope Ng [a] (defScope st)) (h0 : Ng[0]? = some a) (hv : (defScope st).names.lookup a = some .local)
    (hbody : defBody st = [.Try [.Return (some (.Tuple [.Constant (.str told) j p4, .Call (.Name a p1) [] [] p2] k p5)) p3] (e0 :: hds) [] [] p8]) (hd : HdOk K mg Ng (defScope st) kn i (e0 :: hds) hs l)
    (hs0 : ∀ f : Addr, (L2.start Ng [V.ref f])[0]? = some (some (V.ref f))) (hi : i < Ng.length) (d1 : (x == ("__debug__" : Str)) = false) (d2 : (a == ("__debug__" : Str)) = false) (d3 : (a == ("__classdict__" : Str)) = false) : HeardK K mg x a kn hs told :=
  ⟨g, _, _, _, _, _, _, _, _, _, _, _, _, _, Ng, i, _, l, hm, kp, lk, d, hb, Sc, h0, .inl hv, hd, fun X q e1 e2 => by subst e1; subst e2; rw [hbody]; exact heard_gives hd Sc.nd hs0, hi, d1, d2, d3⟩
theorem hk_mk2 {x a told nv : Str} {st : Stmt} {g : Addr} {oc : Value} {od an : Option Addr} {osl : Array (Option Value)} {kV doc pm cdv ct : Value} {Ng : List Str} {kn : List String} {hs : List (String × Str)} {i j k jt : Nat} {e0 : ExceptHandler} {hds : List ExceptHandler} {l : List Cl} {p1 p2 p3 p4 p5 p6 p7 p8 p9 : Pos}
    (lk : K.lookup g = some ⟨oc, od, .func (PySem.W.fnOf x x (defArgs st) (defBody st) (defScope st) .none kV doc pm an cdv ct), osl⟩) (d : PySem.W.codeIn K cdv x = true) (kp : PySem.W.keepIn K (.ref g) = true) (hm : mg x = some (.ref g))
    (hb : L2.Binds K (PySem.W.fnOf x x (defArgs st) (defBody st) (defScope st) .none kV doc pm an cdv ct) [a] []) (Sc : FnScope Ng [a] (defScope st)) (h0 : Ng[0]? = some a) (hv : (defScope st).names.lookup a = some .local)
    (hbody : defBody st = [.Try [.Assign [.Name nv p6] (.Call (.Name a p1) [] [] p2) p3] (e0 :: hds) [] [] p8, .Return (some (.Tuple [.Constant (.str told) j p4, .Name nv p7] k p5)) p9]) (hd : HdOk K mg Ng (defScope st) kn i (e0 :: hds) hs l)
    (hs0 : ∀ f : Addr, (L2.start Ng [V.ref f])[0]? = some (some (V.ref f))) (hi : i < Ng.length) (d1 : (x == ("__debug__" : Str)) = false) (d2 : (a == ("__debug__" : Str)) = false) (d3 : (a == ("__classdict__" : Str)) = false)
    (hj : Ng[jt]? = some nv) (hw : (defScope st).names.lookup nv = some .local) (d4 : (nv == ("__debug__" : Str)) = false) (d5 : (nv == ("__classdict__" : Str)) = false) : HeardK K mg x a kn hs told :=
  ⟨g, _, _, _, _, _, _, _, _, _, _, _, _, _, Ng, i, _, l, hm, kp, lk, d, hb, Sc, h0, .inl hv, hd, fun X q e1 e2 => by subst e1; subst e2; rw [hbody]; exact heard_gives2 hd Sc.nd hs0 hj hw d4 d5, hi, d1, d2, d3⟩
end
end G
namespace G
open PySem PySem.Spec PyProof.Rows L2
theorem tabs_end {l : PySem.W.OpenLaw} {w : World} {K : PySem.W.Frag} {k : Nat} {mg : Str → Option Value} {fa : Addr} {h : Heap} (cs : List (Addr × Addr)) (hT : ∀ p ∈ cs, h.get? p.2 = some { cls := .none, data := .fields #[] }) (nT : ∀ p ∈ cs, K.lookup p.2 = none) (C : ∀ p ∈ cs, PySem.W.CodeHd h p.1 p.2)
    (tT : ∀ H : Hp, (∀ p ∈ cs, H p.2 = some (.tbl #[])) → LamX.Tabs Tbs H)
    (hh : ∃ fd : FuncData, (∀ (s : Shared) (v : Value), BindsTo s fd ⟨[v], []⟩ [("script", v)]) ∧ ∀ base : Heap, K.In base → base.Ns mainGlobals mg → (∀ p ∈ cs, LamX.TabB base mg p.1 p.2) → FnOk l.prog w K mg base (L2.CX l.prog w) k fa fd ["script"] (lowSp K spLaw)) :
    LamX.LawAtS l w K (L2.CX l.prog w) k 63 "script" mg fa h := by
  obtain ⟨fd, hb, hF⟩ := hh
  exact ⟨fd, cs, _, hT, nT, C, hb, fun H a ns hl _ hT hS => law_sp (tT H hT) hS hl, hF⟩
end G

end
section
set_option maxHeartbeats 4000000
/-! GN: a promise that says less; steps for defs that hear lambdas, for try. -/
namespace G
open PySem L2
theorem lowSp_weak {K : PySem.W.Frag} {sp sp' : Sp2} (i : ∀ exf ds Q, sp' exf ds Q → sp exf ds Q) : ∀ vs H Q E, lowSp K sp' vs H Q E → lowSp K sp vs H Q E := fun vs H Q E h => by
  obtain ⟨w, ds, exf, Q2, R, rv, cl, q, q1, q2⟩ := h
  exact ⟨w, ds, exf, Q2, R, rv, cl, i _ _ _ q, q1, q2⟩
section
variable {P : Program} {w : World} {K : PySem.W.Frag} {mg : Str → Option Value} {base : Heap} {x : Str} {k : Nat} {sp sp' : Sp2} {ps ks : List Str} {n : Nat} {p : List Nat}
theorem Ca.weak (c : Ca P w K mg base x k sp) (i : ∀ exf ds Q, sp' exf ds Q → sp exf ds Q) (m : MonoSp sp') : Ca P w K mg base x k sp' := by
  obtain ⟨f, F, hm, hk, hs⟩ := c.ex
  exact ⟨f, fun A outer s H us vs Q E hr he hv hs => F A outer s H us vs Q E hr he hv (lowSp_weak i _ _ _ _ hs), hm, hk, m⟩
theorem CaK.weak (c : CaK P w K mg base x k sp ps ks n p) (i : ∀ exf ds Q, sp' exf ds Q → sp exf ds Q) (m : MonoSp sp') : CaK P w K mg base x k sp' ps ks n p := by
  obtain ⟨f, fd, F, hb, hm, hk, hs⟩ := c.ex
  exact ⟨f, fd, F.imp (lowSp_weak i), hb, hm, hk, m⟩
end
section
open PySem.Spec PyProof.Rows
variable {X : Cx}
/-- // by any divisor that is not nought -/
def CDvN (_ j : Int) : Prop := j ≠ 0 ∧ j.natAbs.log2 < 9000
theorem op_fdivN : OpR X (binaryOp .FloorDiv) (rI CDvN fun i j => .int (Int.fdiv i j)) := opI fun i j _ _ _ _ _ hc q => floordiv_int hc.1 q (.inl (PyProof.noPylong_of_log2 hc.2))
theorem o2fdivN : OpR2 X (binaryOp .FloorDiv) (q2I CDvN fun i j => .int (Int.fdiv i j)) := op2I op_fdivN fun _ _ _ => .int _
theorem cdivN {i j : Int} {p : Nat} (h : j ≠ 0) (hj : j.natAbs < 2 ^ p) (hp : p < 9000) : CDvN i j := by
  refine ⟨h, ?_⟩
  have : j.natAbs.log2 ≤ p := by
    by_cases e : j.natAbs = 0
    · rw [e]; exact Nat.zero_le _
    · exact Nat.le_of_lt ((Nat.log2_lt e).mpr hj)
  omega
end
section
variable {ex : EX} {n : S → Prop} {r : DV → Prop} {b c : S → Prop} {st st' : S} {kn : List String} {nm h : String} {y z : PyData} {Q : KD}
theorem k_try {hs : List (String × Nat × An)} {tb : TS2} (h : tb (exTry kn hs ⟨n, r, b, c⟩ ex) ⟨n, r, b, c⟩ st) : s2Try kn hs tb ex ⟨n, r, b, c⟩ st := h
theorem k_raise {te : TE2} (h : te ex st fun x st1 => asD x st1 fun y st2 => ex nm (some y) st2) : s2Raise nm (t2Cons te t2Nil) ex ⟨n, r, b, c⟩ st := h
theorem k_exH {hs : List (String × Str)} {tag : Str} (h1 : nm ∈ kn) (h2 : st'.s = st.s) (h3 : hs.lookup nm = some tag) (h : Q (.d (.tuple [.str tag, y])) st') : exHeard kn hs st Q nm (some y) st' := ⟨h1, h2, tag, h3, h⟩
theorem k_exT {hs : List (String × Nat × An)} {i : Nat} {a : An} (h1 : nm ∈ kn) (h2 : i ≤ st.s.length) (h3 : a (some y) = some z) (h : r (.d z)) : exTry kn ((nm, i, a) :: hs) ⟨n, r, b, c⟩ ex nm (some y) st := by
  unfold exTry
  refine ⟨h1, ?_⟩
  simp only [if_true]
  refine ⟨h2, ?_⟩
  rw [h3]; exact h
theorem k_exN {hs : List (String × Nat × An)} {i : Nat} {a : An} {D : Ends2} {w : Option PyData} (h1 : nm ∈ kn) (h2 : nm ≠ h) (q : exTry kn hs D ex nm w st) : exTry kn ((h, i, a) :: hs) D ex nm w st := by
  unfold exTry
  refine ⟨h1, ?_⟩
  simp only [h2, if_false]
  exact q
end
section
open PySem.Spec PyProof.Rows
variable {X : Cx} {W : WX} {a b : Expr} {ta tb : TE2} {pos : Pos}
/-- x, y = a, b by way of a tuple: lists of the def's own stay so -/
theorem p2s_tup2 {i j : Nat} {x y : Str} {px py pt : Pos} {kt k2 pt2} (hN : X.N.Nodup) (ha : PE2 X W a ta) (hb : PE2 X W b tb) (hc : X.calm = true := by rfl) (hi : X.N[i]? = some x := by rfl) (hj : X.N[j]? = some y := by rfl)
    (hx : Loc X.env.scope x := by first | exact Or.inl rfl | exact Or.inr rfl) (hy : Loc X.env.scope y := by first | exact Or.inl rfl | exact Or.inr rfl)
    (hfx : X.fn x = true ∨ X.env.scope.names.lookup x = some .local := by first | exact .inl rfl | exact .inr rfl | assumption) (hfy : X.fn y = true ∨ X.env.scope.names.lookup y = some .local := by first | exact .inl rfl | exact .inr rfl | assumption)
    (hs1 : starEach [a, b] X.env = (false, eval a X.env) :: starEach [b] X.env := by rfl) (hs2 : starEach [b] X.env = (false, eval b X.env) :: starEach [] X.env := by rfl)
    (hw : swappedStores [.Tuple [.Name x px, .Name y py] kt pt] (.Tuple [a, b] k2 pt2) X.env = pure none := by rfl)
    (hs : swapsWithSole [.Tuple [.Name x px, .Name y py] kt pt] (.Tuple [a, b] k2 pt2) pos.line X.env = pure false := by rfl)
    (h1 : (assignEach [.Tuple [.Name x px, .Name y py] kt pt] X.env).map (·.2) = [assign (.Tuple [.Name x px, .Name y py] kt pt) X.env] := by rfl)
    (h2 : (assignEach [.Name x px, .Name y py] X.env).map (·.2) = assign (.Name x px) X.env :: (assignEach [.Name y py] X.env).map (·.2) := by rfl) (h3 : (assignEach [.Name y py] X.env).map (·.2) = assign (.Name y py) X.env :: (assignEach [] X.env).map (·.2) := by rfl)
    (hn : (assignEach [.Name x px, .Name y py] X.env).length = 2 := by rfl) (hst : (assignEach [.Name x px, .Name y py] X.env).findIdx? (·.1) = none := by rfl) :
    PS2 X W (.Assign [.Tuple [.Name x px, .Name y py] kt pt] (.Tuple [a, b] k2 pt2) pos) (s2Par i j ta tb) := by
  refine ⟨psImp (ps_asg (pe_tup (pa_cons ha.pe (pa_cons hb.pe pa_nil hs2) hs1)) (pg_tup hc (pgs_cons (pg_name hN hi hx hfx) (pgs_cons (pg_name hN hj hy hfy) pgs_nil h3) h2) hn hst) hs hw h1) fun D σ H q => ?_⟩
  obtain ⟨w, st, ex, D2, R, l, le, q⟩ := q
  refine low_of ha.mono R l q fun x st1 w1 H1 v1 q1 l1 R1 k1 rv1 => ?_
  refine low_of hb.mono R1 k1 q1 fun y st2 w2 H2 v2 q2 l2 R2 k2 rv2 => ?_
  refine ⟨by simp [sizeLine], fun p hp => ?_⟩
  obtain ⟨R4, l4⟩ := R2.h.fix hp (.tup [v1, v2])
  refine ⟨p, [v1, v2], rfl, SqT.of upd_same, rfl, v1, [v2], rfl, v2, [], rfl, rfl, ?_⟩
  exact le.nx _ ((st2.set i x).set j y) _ _ ((l1.trans l2).trans l4) ⟨R4, RepL.set (v := some v2) (x := some y) (rv2.up l4) j (RepL.set (v := some v1) (x := some x) (rv1.up (l2.trans l4)) i (R2.l.up l4))⟩ q2
end
/-- an owned list and a closed value handed on -/
theorem k_callo3 {ex : EX} {Q : KD} {sp : Sp2} {s : List (Option DV)} {m : List Own} {k : Nat} {xs : List PyData} {x : DV} (hm : m[k]? = some ⟨xs, true⟩) (hx : opn x = true) (h : sp (fun C x => ex C x ⟨s, m.set k ⟨xs, false⟩⟩) [.d (.list xs), x] fun z => Q z (if lfreeV z = true then ⟨s, m⟩ else ⟨s, m.set k ⟨xs, false⟩⟩)) : callF sp ex Q [.o k, x] ⟨s, m⟩ := by
  unfold callF asCs asC
  simp only [hm, S.frz]
  unfold asCs
  refine asC_opn hx ?_
  unfold asCs
  exact h
end G

end
section
set_option maxHeartbeats 4000000
/-! GP: an integer in a list of integers. -/
namespace G
open PySem L2
section
open PySem.Spec PyProof.Rows
variable {X : Cx}
def q2In (neg : Bool) : R22 := fun x y st Q => match rd st x, rd st y with
  | some (.int i), some (.list ds) => match intsOf ds with
    | some ns => Q (.d (.bool (neg ^^ decide (i ∈ ns)))) st
    | none => False
  | _, _ => False
theorem q2In_mono {neg : Bool} : Mono22 (q2In neg) := fun x y st Q Q' h q => by
  simp only [q2In] at q ⊢
  split at q
  · split at q
    · exact h _ _ q
    · exact q.elim
  · exact q.elim
theorem flat_ints (ns : List Int) : (ns.map V.int).all flatV = true := by simp [flatV]
theorem inV_ints (i : Int) (ns : List Int) : inV (.int i) (ns.map V.int) = decide (i ∈ ns) := by
  rw [Bool.eq_iff_iff, decide_eq_true_iff]
  unfold inV
  rw [List.any_eq_true]
  constructor
  · rintro ⟨v, hv, e⟩
    obtain ⟨n, hn, rfl⟩ := List.mem_map.mp hv
    have : n = i := by simpa [eqV] using e
    rw [← this]; exact hn
  · intro h
    exact ⟨_, List.mem_map.mpr ⟨i, h, rfl⟩, by simp [eqV]⟩
theorem o2in (_ : X.A.units + 64 < cLine) : OpR2 X (compareOp .In) (q2In false) := by
  refine ⟨fun w st σ H x y dx dy Q R rx ry q => ?_, q2In_mono⟩
  simp only [q2In] at q
  split at q
  · rename_i i ds e1 e2
    obtain ⟨a, us, rfl, h1, h2⟩ := rd_list R ry e2
    split at q
    · rename_i ns e3
      have hu := ints_ok h2 e3
      subst hu
      refine ⟨_, op_in_seq, a, ns.map V.int, rfl, .inl (SqL.of h1), ?_, flat_ints ns, fin_d R (.bl _) ?_⟩
      · rw [rd_int R rx e1]; rfl
      · rw [rd_int R rx e1, if_neg (by simp), inV_ints]
        have : decide (i ∈ ns) = (false ^^ decide (i ∈ ns)) := by simp
        rw [this]; exact q
    · exact q.elim
  · exact q.elim
theorem o2nin (_ : X.A.units + 64 < cLine) : OpR2 X (compareOp .NotIn) (q2In true) := by
  refine ⟨fun w st σ H x y dx dy Q R rx ry q => ?_, q2In_mono⟩
  simp only [q2In] at q
  split at q
  · rename_i i ds e1 e2
    obtain ⟨a, us, rfl, h1, h2⟩ := rd_list R ry e2
    split at q
    · rename_i ns e3
      have hu := ints_ok h2 e3
      subst hu
      refine ⟨_, op_notIn_seq, a, ns.map V.int, rfl, .inl (SqL.of h1), ?_, flat_ints ns, fin_d R (.bl _) ?_⟩
      · rw [rd_int R rx e1]; rfl
      · rw [rd_int R rx e1, if_pos rfl, inV_ints]
        have : (!decide (i ∈ ns)) = (true ^^ decide (i ∈ ns)) := by simp
        rw [this]; exact q
    · exact q.elim
  · exact q.elim
end
theorem k_memI {neg : Bool} {i : Int} {ns : List Int} {x y : DV} {st : S} {Q : KD} (hx : rd st x = some (.int i)) (hy : rd st y = some (.list (ns.map PyData.int))) (h : Q (.d (.bool (neg ^^ decide (i ∈ ns)))) st) : q2In neg x y st Q := by
  unfold q2In
  rw [hx, hy]
  simp only [intsOf_map]
  exact h
end G

end
section
set_option maxHeartbeats 2000000
/-! MA: rows of integers: told values, steps, trimmed ones, norms. No program in sight. -/
namespace LM
/-- what a row tells at x -/
def ev : List Int → Int → Int
  | [], _ => 0
  | a :: r, x => a + x * ev r x
/-- what the entries for products of steps from k on tell at x -/
def es (k : Int) : List Int → Int → Int
  | [], _ => 0
  | a :: r, x => a + (x - k) * es (k + 1) r x
/-- without the noughts at the end -/
def tr : List Int → List Int
  | [] => []
  | a :: r => if tr r = [] ∧ a = 0 then [] else a :: tr r
/-- one and n times another -/
def radd : List Int → List Int → Int → List Int
  | [], ys, n => ys.map (n * ·)
  | x :: xs, [], _ => x :: xs
  | x :: xs, y :: ys, n => (x + n * y) :: radd xs ys n
/-- the sum of what the entries are without signs -/
def nm : List Int → Nat
  | [] => 0
  | a :: r => a.natAbs + nm r
/-- 1, x, x (x - 1), .. -/
def fl : Nat → Int → Int
  | 0, _ => 1
  | n + 1, x => fl n x * (x - n)
/-- the differences of entries for steps: j times the j th, j from m on -/
def sc (m : Int) : List Int → List Int
  | [] => []
  | a :: r => m * a :: sc (m + 1) r
theorem ev_tr (r : List Int) (x : Int) : ev (tr r) x = ev r x := by
  induction r with
  | nil => rfl
  | cons a r ih =>
    unfold tr
    split
    · rename_i h
      obtain ⟨h, rfl⟩ := h
      rw [h] at ih
      simp only [ev] at ih ⊢
      rw [← ih]; simp
    · simp only [ev, ih]
theorem es_tr (r : List Int) (k x : Int) : es k (tr r) x = es k r x := by
  induction r generalizing k with
  | nil => rfl
  | cons a r ih =>
    unfold tr
    split
    · rename_i h
      obtain ⟨h, rfl⟩ := h
      have := ih (k + 1)
      rw [h] at this
      simp only [es] at this ⊢
      rw [← this]; simp
    · simp only [es, ih]
theorem tr_tr (r : List Int) : tr (tr r) = tr r := by
  induction r with
  | nil => rfl
  | cons a r ih =>
    rw [tr]
    split
    · rfl
    · rename_i h
      rw [tr, ih, if_neg h]
theorem tr_len (r : List Int) : (tr r).length ≤ r.length := by
  induction r with
  | nil => exact Nat.le_refl _
  | cons a r ih =>
    rw [tr]
    split
    · exact Nat.zero_le _
    · simp only [List.length_cons]; omega
theorem nm_tr (r : List Int) : nm (tr r) ≤ nm r := by
  induction r with
  | nil => exact Nat.le_refl _
  | cons a r ih =>
    rw [tr]
    split
    · exact Nat.zero_le _
    · simp only [nm]; omega
theorem nm_mem {r : List Int} {a : Int} (h : a ∈ r) : a.natAbs ≤ nm r := by
  induction r with
  | nil => cases h
  | cons b r ih =>
    simp only [nm]
    cases h with
    | head => omega
    | tail _ h => have := ih h; omega
theorem nm_app (r q : List Int) : nm (r ++ q) = nm r + nm q := by
  induction r with
  | nil => simp [nm]
  | cons a r ih => simp only [List.cons_append, nm, ih]; omega
theorem nm_rev (r : List Int) : nm r.reverse = nm r := by
  induction r with
  | nil => rfl
  | cons a r ih => simp only [List.reverse_cons, nm_app, ih, nm]; omega
theorem nm_scale (n : Int) (r : List Int) : nm (r.map (n * ·)) = n.natAbs * nm r := by
  induction r with
  | nil => simp [nm]
  | cons a r ih => simp only [List.map_cons, nm, ih, Int.natAbs_mul, Nat.mul_add]
theorem nm_radd (xs ys : List Int) (n : Int) : nm (radd xs ys n) ≤ nm xs + n.natAbs * nm ys := by
  induction xs generalizing ys with
  | nil => simp [radd, nm_scale]
  | cons x xs ih =>
    cases ys with
    | nil => simp [radd]
    | cons y ys =>
      have h1 := ih ys
      have h2 : (x + n * y).natAbs ≤ x.natAbs + n.natAbs * y.natAbs := by
        rw [← Int.natAbs_mul]; exact Int.natAbs_add_le _ _
      simp only [radd, nm, Nat.mul_add]; omega
theorem nm_le {r : List Int} {m : Nat} (h : ∀ a ∈ r, a.natAbs ≤ m) : nm r ≤ r.length * m := by
  induction r with
  | nil => simp [nm]
  | cons a r ih =>
    have h1 := h a (List.mem_cons_self ..)
    have h2 := ih fun b hb => h b (List.mem_cons_of_mem _ hb)
    simp only [nm, List.length_cons, Nat.add_mul, Nat.one_mul]; omega
theorem ev_scale (n : Int) (r : List Int) (x : Int) : ev (r.map (n * ·)) x = n * ev r x := by
  induction r with
  | nil => simp [ev]
  | cons a r ih => simp only [List.map_cons, ev, ih]; grind
theorem es_scale (n : Int) (r : List Int) (k x : Int) : es k (r.map (n * ·)) x = n * es k r x := by
  induction r generalizing k with
  | nil => simp [es]
  | cons a r ih => simp only [List.map_cons, es, ih]; grind
theorem ev_radd (xs ys : List Int) (n x : Int) : ev (radd xs ys n) x = ev xs x + n * ev ys x := by
  induction xs generalizing ys with
  | nil => simp [radd, ev_scale, ev]
  | cons a xs ih =>
    cases ys with
    | nil => simp [radd, ev]
    | cons y ys => simp only [radd, ev, ih]; grind
theorem es_radd (xs ys : List Int) (n k x : Int) : es k (radd xs ys n) x = es k xs x + n * es k ys x := by
  induction xs generalizing ys k with
  | nil => simp [radd, es_scale, es]
  | cons a xs ih =>
    cases ys with
    | nil => simp [radd, es]
    | cons y ys => simp only [radd, es, ih]; grind
theorem radd_len (xs ys : List Int) (n : Int) : (radd xs ys n).length = max xs.length ys.length := by
  induction xs generalizing ys with
  | nil => simp [radd]
  | cons a xs ih =>
    cases ys with
    | nil => simp [radd]
    | cons y ys => simp only [radd, List.length_cons, ih]; omega
/-- rows that tell the same far out are the same -/
theorem big {a : Int} {B : Int} {f : Int → Int} (h : ∀ x, B ≤ x → a + x * f x = 0) : a = 0 := by
  have h1 := h (max B (a.natAbs + 1)) (by omega)
  have hx : (0 : Int) < max B (a.natAbs + 1) := by omega
  generalize hX : max B ((a.natAbs : Int) + 1) = X at h1 hx
  have hlt : (a.natAbs : Int) < X := by omega
  have hd : X ∣ a := ⟨-f X, by rw [Int.mul_neg]; omega⟩
  exact Int.eq_zero_of_dvd_of_natAbs_lt_natAbs hd (by omega)
theorem tr_nil_of {r : List Int} : ∀ {B : Int}, (∀ x, B ≤ x → ev r x = 0) → tr r = [] := by
  induction r with
  | nil => intro B _; rfl
  | cons a r ih =>
    intro B h
    have ha : a = 0 := big (B := B) (f := ev r) h
    subst ha
    have hr : tr r = [] := ih (B := max B 1) fun x hx => by
      have := h x (by omega)
      simp only [ev, Int.zero_add] at this
      rcases Int.mul_eq_zero.mp this with h0 | h0
      · omega
      · exact h0
    simp [tr, hr]
theorem ev_inj {r q : List Int} : ∀ {B : Int}, (∀ x, B ≤ x → ev r x = ev q x) → tr r = tr q := by
  induction r generalizing q with
  | nil => intro B h; exact (tr_nil_of (B := B) fun x hx => (h x hx).symm).symm
  | cons a r ih =>
    intro B h
    cases q with
    | nil => exact tr_nil_of (B := B) h
    | cons b q =>
      have hab : a - b = 0 := big (B := B) (f := fun x => ev r x - ev q x) fun x hx => by
        have := h x hx
        simp only [ev] at this
        rw [Int.mul_sub]; omega
      have hr : tr r = tr q := ih (B := max B 1) fun x hx => by
        have := h x (by omega)
        simp only [ev] at this
        have e : x * (ev r x - ev q x) = 0 := by rw [Int.mul_sub]; omega
        rcases Int.mul_eq_zero.mp e with h0 | h0 <;> omega
      have : a = b := by omega
      subst this
      simp only [tr, hr]
theorem es_nil_of {r : List Int} : ∀ {k : Int}, (∀ x, k ≤ x → es k r x = 0) → tr r = [] := by
  induction r with
  | nil => intro k _; rfl
  | cons a r ih =>
    intro k h
    have ha := h k (Int.le_refl _)
    simp only [es, Int.sub_self, Int.zero_mul, Int.add_zero] at ha
    subst ha
    have hr : tr r = [] := ih (k := k + 1) fun x hx => by
      have := h x (by omega)
      simp only [es, Int.zero_add] at this
      rcases Int.mul_eq_zero.mp this with h0 | h0 <;> omega
    simp [tr, hr]
theorem es_inj {r q : List Int} : ∀ {k : Int}, (∀ x, k ≤ x → es k r x = es k q x) → tr r = tr q := by
  induction r generalizing q with
  | nil => intro k h; exact (es_nil_of (k := k) fun x hx => (h x hx).symm).symm
  | cons a r ih =>
    intro k h
    cases q with
    | nil => exact es_nil_of (k := k) h
    | cons b q =>
      have hab := h k (Int.le_refl _)
      simp only [es, Int.sub_self, Int.zero_mul, Int.add_zero] at hab
      subst hab
      have hr : tr r = tr q := ih (k := k + 1) fun x hx => by
        have := h x (by omega)
        simp only [es] at this
        have e : (x - k) * (es (k + 1) r x - es (k + 1) q x) = 0 := by rw [Int.mul_sub]; omega
        rcases Int.mul_eq_zero.mp e with h0 | h0 <;> omega
      simp only [tr, hr]
/-- the differences -/
theorem es_shift (r : List Int) (k x : Int) : es (k + 1) r (x + 1) = es k r x := by
  induction r generalizing k with
  | nil => rfl
  | cons a r ih =>
    simp only [es, ih]
    have : x + 1 - (k + 1) = x - k := by omega
    rw [this]
theorem es_diff (r : List Int) (k m x : Int) : es (k + 1) (sc (m + 1) r) x * (x - k) + m * es k r x = m * es k r x + (x - k) * es (k + 1) (sc (m + 1) r) x := by grind
theorem es_sc (r : List Int) (k m x : Int) : es k (sc (m + 1) r) x = es k (sc m r) x + es k r x := by
  induction r generalizing k m with
  | nil => simp [sc, es]
  | cons a r ih =>
    simp only [sc, es]
    rw [ih (k + 1) (m + 1)]
    grind
/-- es of r at x + 1 less that at x -/
theorem es_step (r : List Int) (k x : Int) : es k r (x + 1) - es k r x = es k (sc 1 r.tail) x := by
  induction r generalizing k with
  | nil => simp [es, sc]
  | cons a r ih =>
    simp only [es, List.tail_cons]
    have h1 : es (k + 1) r (x + 1) = es k r x := es_shift r k x
    have h2 : es (k + 1) r x + es (k + 1) (sc 1 r.tail) x = es (k + 1) r (x + 1) := by have := ih (k + 1); omega
    cases r with
    | nil => simp [es, sc]
    | cons b r =>
      simp only [es, sc, List.tail_cons] at h1 h2 ⊢
      have h3 := es_sc r (k + 1) 1 x
      have h4 : es (k + 1 + 1) r (x + 1) = es (k + 1) r x := es_shift r (k + 1) x
      grind
end LM

end
section
set_option maxHeartbeats 2000000
/-! MB: coefficients, products, synthetic division. -/
namespace LM
/-- the jth entry, nought beyond the end -/
def co (r : List Int) (j : Nat) : Int := r.getD j 0
theorem co_cons0 (a : Int) (r : List Int) : co (a :: r) 0 = a := rfl
theorem co_cons (a : Int) (r : List Int) (j : Nat) : co (a :: r) (j + 1) = co r j := by simp [co]
theorem co_nil (j : Nat) : co [] j = 0 := by simp [co]
theorem co_ge {r : List Int} {j : Nat} (h : r.length ≤ j) : co r j = 0 := by simp [co, h]
theorem co_lt {r : List Int} {j : Nat} (h : j < r.length) : co r j = r[j] := by simp [co, h]
theorem tr_nil_co {r : List Int} : (∀ j, co r j = 0) → tr r = [] := by
  induction r with
  | nil => intro _; rfl
  | cons a r ih =>
    intro h
    have h0 : a = 0 := h 0
    have hr : tr r = [] := ih fun j => by rw [← co_cons a r j]; exact h (j + 1)
    simp [tr, hr, h0]
theorem tr_ext {r q : List Int} : (∀ j, co r j = co q j) → tr r = tr q := by
  induction r generalizing q with
  | nil => intro h; exact (tr_nil_co fun j => by rw [← h j, co_nil]).symm
  | cons a r ih =>
    intro h
    cases q with
    | nil => exact tr_nil_co fun j => by rw [h j, co_nil]
    | cons b q =>
      have h0 : a = b := h 0
      have hr : tr r = tr q := ih fun j => by rw [← co_cons a r j, h (j + 1), co_cons]
      simp only [tr, hr, h0]
theorem co_radd (xs ys : List Int) (n : Int) (j : Nat) : co (radd xs ys n) j = co xs j + n * co ys j := by
  induction xs generalizing ys j with
  | nil =>
    rw [radd, co_nil, Int.zero_add]
    induction ys generalizing j with
    | nil => simp [co]
    | cons y ys ih =>
      cases j with
      | zero => simp [co]
      | succ j => rw [List.map_cons, co_cons, co_cons]; exact ih j
  | cons x xs ih =>
    cases ys with
    | nil => simp [radd, co_nil]
    | cons y ys =>
      cases j with
      | zero => rfl
      | succ j => simp only [radd, co_cons]; exact ih ys j
theorem co_set {r : List Int} {i : Nat} {v : Int} (h : i < r.length) (j : Nat) : co (r.set i v) j = if i = j then v else co r j := by
  unfold co
  simp only [List.getD_eq_getElem?_getD, List.getElem?_set]
  by_cases e : i = j
  · subst e; simp [h]
  · simp [e]
theorem co_app (r q : List Int) (j : Nat) : co (r ++ q) j = if j < r.length then co r j else co q (j - r.length) := by
  unfold co
  simp only [List.getD_eq_getElem?_getD, List.getElem?_append]
  split <;> rfl
theorem co_zeros (n j : Nat) : co (List.replicate n 0) j = 0 := by
  unfold co
  simp only [List.getD_eq_getElem?_getD, List.getElem?_replicate]
  split <;> rfl
theorem co_take (r : List Int) (k j : Nat) : co (r.take k) j = if j < k then co r j else 0 := by
  unfold co
  simp only [List.getD_eq_getElem?_getD, List.getElem?_take]
  split <;> rfl
theorem ev_app (r q : List Int) (x : Int) : ev (r ++ q) x = ev r x + x ^ r.length * ev q x := by
  induction r with
  | nil => simp [ev]
  | cons a r ih => simp only [List.cons_append, ev, ih, List.length_cons, Int.pow_succ]; grind
theorem ev_set {r : List Int} {i : Nat} (h : i < r.length) (v x : Int) : ev (r.set i (r[i] + v)) x = ev r x + v * x ^ i := by
  induction r generalizing i with
  | nil => simp at h
  | cons a r ih =>
    cases i with
    | zero => simp [ev]; omega
    | succ i =>
      simp only [List.length_cons, Nat.add_lt_add_iff_right] at h
      simp only [List.set_cons_succ, List.getElem_cons_succ, ev, ih h, Int.pow_succ]; grind
theorem ev_take {r : List Int} {i : Nat} (h : i < r.length) (x : Int) : ev (r.take (i + 1)) x = ev (r.take i) x + r[i] * x ^ i := by
  have e : r.take (i + 1) = r.take i ++ [r[i]] := (List.take_append_getElem h).symm
  rw [e, ev_app, List.length_take, Nat.min_eq_left (Nat.le_of_lt h)]
  simp [ev]; rw [Int.mul_comm]
theorem ev_zeros (n : Nat) (x : Int) : ev (List.replicate n 0) x = 0 := by
  induction n with
  | zero => rfl
  | succ n ih => simp [List.replicate_succ, ev, ih]
/-- products of rows -/
def rm : List Int → List Int → List Int
  | [], _ => []
  | a :: r, q => radd (q.map (a * ·)) (0 :: rm r q) 1
theorem ev_rm (r q : List Int) (x : Int) : ev (rm r q) x = ev r x * ev q x := by
  induction r with
  | nil => simp [rm, ev]
  | cons a r ih => simp only [rm, ev_radd, ev_scale, ev, ih]; grind
theorem nm_rm (r q : List Int) : nm (rm r q) ≤ nm r * nm q := by
  induction r with
  | nil => simp [rm, nm]
  | cons a r ih =>
    have h := nm_radd (q.map (a * ·)) (0 :: rm r q) 1
    rw [nm_scale] at h
    simp only [nm, Int.natAbs_one, Nat.one_mul, Int.natAbs_zero, Nat.zero_add] at h
    simp only [rm, nm, Nat.add_mul]; omega
theorem rm_len (r : List Int) {q : List Int} (h : q ≠ []) : (rm r q).length ≤ r.length + q.length - 1 := by
  have hq : 0 < q.length := List.length_pos_iff.mpr h
  induction r with
  | nil => simp [rm]
  | cons a r ih => simp only [rm, radd_len, List.length_map, List.length_cons]; omega
theorem tr_nil_ev {r : List Int} (h : tr r = []) (x : Int) : ev r x = 0 := by rw [← ev_tr, h]; rfl
theorem rm_nil {r q : List Int} (h : tr r = [] ∨ tr q = []) : tr (rm r q) = [] :=
  tr_nil_of (B := 0) fun x _ => by
    rw [ev_rm]
    rcases h with h | h
    · rw [tr_nil_ev h]; simp
    · rw [tr_nil_ev h]; simp
/-- synthetic division by x - k: first what is told at k, then the quotient -/
def syn (k : Int) : List Int → List Int
  | [] => []
  | a :: r => ((syn k r).headD 0 * k + a) :: syn k r
theorem syn_len (k : Int) (r : List Int) : (syn k r).length = r.length := by
  induction r with
  | nil => rfl
  | cons a r ih => simp [syn, ih]
theorem syn_ev (k : Int) (r : List Int) (x : Int) : ev r x = (syn k r).headD 0 + (x - k) * ev (syn k r).tail x := by
  induction r with
  | nil => simp [syn, ev]
  | cons a r ih =>
    simp only [ev, syn, List.headD_cons, List.tail_cons]
    rw [ih]
    cases syn k r with
    | nil => simp [ev]
    | cons b q => simp only [List.headD_cons, List.tail_cons, ev]; grind
theorem syn_drop (k : Int) (r : List Int) (j : Nat) : (syn k r).drop j = syn k (r.drop j) := by
  induction r generalizing j with
  | nil => simp [syn]
  | cons a r ih =>
    cases j with
    | zero => rfl
    | succ j => simp only [syn, List.drop_succ_cons]; exact ih j
theorem nm_drop (r : List Int) (j : Nat) : nm (r.drop j) ≤ nm r := by
  induction r generalizing j with
  | nil => simp [nm]
  | cons a r ih =>
    cases j with
    | zero => exact Nat.le_refl _
    | succ j => simp only [List.drop_succ_cons, nm]; have := ih j; omega
theorem nm_head (r : List Int) : (r.headD 0).natAbs ≤ nm r := by
  cases r with
  | nil => simp [nm]
  | cons a r => simp [nm]
theorem nm_tail (r : List Int) : nm r.tail ≤ nm r := by
  cases r with
  | nil => simp [nm]
  | cons a r => simp [nm]
theorem tr_cons_self {a : Int} {r : List Int} (h : tr (a :: r) = a :: r) : tr r = r ∧ (r = [] → a ≠ 0) := by
  rw [tr] at h
  split at h
  · cases h
  · rename_i hn
    have hr : tr r = r := (List.cons.inj h).2
    exact ⟨hr, fun e ea => hn ⟨by rw [hr, e], ea⟩⟩
theorem tr_cons_of {a : Int} {r : List Int} (h : tr r = r) (h' : r = [] → a ≠ 0) : tr (a :: r) = a :: r := by
  rw [tr, h, if_neg]
  exact fun e => h' e.1 e.2
theorem syn_tr {k : Int} {r : List Int} (h : tr r = r) : tr (syn k r) = syn k r := by
  induction r with
  | nil => rfl
  | cons a r ih =>
    obtain ⟨h1, h2⟩ := tr_cons_self h
    refine tr_cons_of (ih h1) fun e => ?_
    have hl := syn_len k r
    rw [e] at hl
    have hr : r = [] := List.length_eq_zero_iff.mp hl.symm
    subst hr
    simpa [syn] using h2 rfl
theorem tail_tr {r : List Int} (h : tr r = r) : tr r.tail = r.tail := by
  cases r with
  | nil => rfl
  | cons a r => exact (tr_cons_self h).1
theorem nm_syn (k : Int) (r : List Int) : nm (syn k r) ≤ nm r * (k.natAbs + 1) ^ r.length := by
  induction r with
  | nil => simp [syn, nm]
  | cons a r ih =>
    have hh : ((syn k r).headD 0).natAbs ≤ nm (syn k r) := by
      cases e : syn k r with
      | nil => simp [nm]
      | cons b q => simp [nm]
    have h1 : ((syn k r).headD 0 * k + a).natAbs ≤ nm (syn k r) * k.natAbs + a.natAbs := by
      refine Nat.le_trans (Int.natAbs_add_le _ _) ?_
      rw [Int.natAbs_mul]
      exact Nat.add_le_add_right (Nat.mul_le_mul_right _ hh) _
    simp only [syn, nm, List.length_cons]
    have hp : 1 ≤ (k.natAbs + 1) ^ (r.length + 1) := Nat.one_le_pow _ _ (by omega)
    have h2 : nm (syn k r) * k.natAbs + nm (syn k r) ≤ nm r * (k.natAbs + 1) ^ (r.length + 1) := by
      rw [Nat.pow_succ, ← Nat.mul_assoc, ← Nat.mul_add_one]
      exact Nat.mul_le_mul_right _ ih
    have h3 : a.natAbs ≤ a.natAbs * (k.natAbs + 1) ^ (r.length + 1) := Nat.le_mul_of_pos_right _ (by omega)
    rw [Nat.add_mul]; omega
/-- the entries for products of steps, n of them, from k on -/
def sts : Nat → Int → List Int → List Int
  | 0, _, _ => []
  | n + 1, k, r => (syn k r).headD 0 :: sts n (k + 1) (syn k r).tail
theorem sts_len (n : Nat) (k : Int) (r : List Int) : (sts n k r).length = n := by
  induction n generalizing k r with
  | zero => rfl
  | succ n ih => simp [sts, ih]
theorem sts_es {n : Nat} {k : Int} {r : List Int} (h : r.length = n) (x : Int) : es k (sts n k r) x = ev r x := by
  induction n generalizing k r with
  | zero => rw [List.length_eq_zero_iff.mp h]; rfl
  | succ n ih =>
    rw [syn_ev k r x, sts, es, ih (by rw [List.length_tail, syn_len, h]; rfl)]
theorem sts_tr {n : Nat} {k : Int} {r : List Int} (h : r.length = n) (ht : tr r = r) : tr (sts n k r) = sts n k r := by
  induction n generalizing k r with
  | zero => rfl
  | succ n ih =>
    have hl : (syn k r).tail.length = n := by rw [List.length_tail, syn_len, h]; rfl
    rw [sts]
    refine tr_cons_of (ih hl (tail_tr (syn_tr ht))) fun e => ?_
    have hn : n = 0 := by
      have := congrArg List.length e
      rwa [sts_len] at this
    subst hn
    match r, h with
    | [a], _ =>
      have := (tr_cons_self ht).2 rfl
      simpa [syn] using this
theorem sts_nm {n : Nat} {k : Int} {r : List Int} {M : Nat} (h : r.length = n) (hk : 0 ≤ k) (hM : k + n ≤ M) : nm (sts n k r) ≤ nm r * M ^ (n * n) := by
  induction n generalizing k r with
  | zero => simp [sts, nm]
  | succ n ih =>
    have hl : (syn k r).tail.length = n := by rw [List.length_tail, syn_len, h]; rfl
    have h1 := ih (k := k + 1) hl (by omega) (by omega)
    have h2 := nm_syn k r
    rw [h] at h2
    have h3 : ((syn k r).headD 0).natAbs + nm (syn k r).tail = nm (syn k r) := by
      cases e : syn k r with
      | nil => rfl
      | cons b q => rfl
    have hM1 : k.natAbs + 1 ≤ M := by omega
    have h4 : nm (syn k r) ≤ nm r * M ^ (n + 1) := Nat.le_trans h2 (Nat.mul_le_mul_left _ (Nat.pow_le_pow_left hM1 _))
    have hp : 1 ≤ M ^ (n * n) := Nat.one_le_pow _ _ (by omega)
    simp only [sts, nm]
    have h5 : ((syn k r).headD 0).natAbs ≤ ((syn k r).headD 0).natAbs * M ^ (n * n) := Nat.le_mul_of_pos_right _ (by omega)
    have h6 : nm (syn k r) * M ^ (n * n) ≤ nm r * M ^ ((n + 1) * (n + 1)) := by
      refine Nat.le_trans (Nat.mul_le_mul_right _ h4) ?_
      rw [Nat.mul_assoc, ← Nat.pow_add]
      refine Nat.mul_le_mul_left _ (Nat.pow_le_pow_right (by omega) ?_)
      have : (n + 1) * (n + 1) = n * n + n + n + 1 := by simp [Nat.add_mul, Nat.mul_add]; omega
      omega
    have h7 : ((syn k r).headD 0).natAbs * M ^ (n * n) + nm (syn k r).tail * M ^ (n * n) = nm (syn k r) * M ^ (n * n) := by rw [← h3, Nat.add_mul]
    omega
/-- the step row -/
def stp (r : List Int) : List Int := sts (tr r).length 0 (tr r)
theorem stp_es (r : List Int) (x : Int) : es 0 (stp r) x = ev r x := by rw [stp, sts_es rfl, ev_tr]
theorem stp_tr (r : List Int) : tr (stp r) = stp r := sts_tr rfl (tr_tr r)
theorem stp_len (r : List Int) : (stp r).length = (tr r).length := sts_len _ _ _
theorem stp_nm {r : List Int} {M : Nat} (h : r.length ≤ M) : nm (stp r) ≤ nm r * M ^ (r.length * r.length) := by
  have hl := tr_len r
  have := sts_nm (n := (tr r).length) (k := 0) (r := tr r) (M := M) rfl (by omega) (by omega)
  refine Nat.le_trans this (Nat.mul_le_mul (nm_tr r) ?_)
  by_cases hM : M = 0
  · subst hM
    have : r.length = 0 := by omega
    have : (tr r).length = 0 := by omega
    simp_all
  · exact Nat.pow_le_pow_right (by omega) (Nat.mul_le_mul hl hl)
/-- the formula of entries for steps from k on -/
def rs (k : Int) : List Int → List Int
  | [] => []
  | a :: r => tr (radd (tr (rm (rs (k + 1) r) [-k, 1])) [a] 1)
theorem rs_ev (k : Int) (r : List Int) (x : Int) : ev (rs k r) x = es k r x := by
  induction r generalizing k with
  | nil => rfl
  | cons a r ih => simp only [rs, es, ev_tr, ev_radd, ev_rm, ih, ev]; grind
theorem rs_tr (k : Int) (r : List Int) : tr (rs k r) = rs k r := by
  cases r with
  | nil => rfl
  | cons a r => exact tr_tr _
theorem rs_len (k : Int) (r : List Int) : (rs k r).length ≤ r.length := by
  induction r generalizing k with
  | nil => exact Nat.le_refl _
  | cons a r ih =>
    refine Nat.le_trans (tr_len _) ?_
    rw [radd_len]
    have h1 := ih (k + 1)
    have h2 := tr_len (rm (rs (k + 1) r) [-k, 1])
    have h3 := rm_len (rs (k + 1) r) (q := [-k, 1]) (by simp)
    simp only [List.length_cons, List.length_nil] at h3 ⊢
    by_cases he : rs (k + 1) r = []
    · rw [he] at h2 h3 ⊢
      simp [rm, tr] at h2 h3 ⊢
    · omega
theorem rs_nm {k : Int} {r : List Int} {M : Nat} (hk : 0 ≤ k) (hM : k + r.length ≤ M) : nm (rs k r) ≤ nm r * M ^ r.length := by
  induction r generalizing k with
  | nil => simp [rs, nm]
  | cons a r ih =>
    simp only [List.length_cons] at hM
    have h1 := ih (k := k + 1) (by omega) (by omega)
    have h2 := nm_radd (tr (rm (rs (k + 1) r) [-k, 1])) [a] 1
    have h3 := nm_tr (rm (rs (k + 1) r) [-k, 1])
    have h4 := nm_rm (rs (k + 1) r) [-k, 1]
    have h5 := nm_tr (radd (tr (rm (rs (k + 1) r) [-k, 1])) [a] 1)
    have h6 : nm [-k, 1] ≤ M := by simp [nm]; omega
    have h7 : nm [a] = a.natAbs := by simp [nm]
    have hp : 1 ≤ M ^ (r.length + 1) := Nat.one_le_pow _ _ (by omega)
    have h8 : a.natAbs ≤ a.natAbs * M ^ (r.length + 1) := Nat.le_mul_of_pos_right _ (by omega)
    have h9 : nm (rs (k + 1) r) * nm [-k, 1] ≤ nm r * M ^ (r.length + 1) := by
      rw [Nat.pow_succ, ← Nat.mul_assoc]; exact Nat.mul_le_mul h1 h6
    simp only [rs, nm, List.length_cons, Nat.add_mul]
    simp only [Int.natAbs_one, Nat.one_mul, h7] at h2
    omega
/-- the row moved by n -/
def mv (n : Int) : List Int → List Int
  | [] => []
  | a :: r => tr (radd (tr (rm (mv n r) [n, 1])) [a] 1)
theorem mv_ev (n : Int) (r : List Int) (x : Int) : ev (mv n r) x = ev r (x + n) := by
  induction r with
  | nil => rfl
  | cons a r ih => simp only [mv, ev_tr, ev_radd, ev_rm, ih, ev]; grind
theorem mv_len (n : Int) (r : List Int) : (mv n r).length ≤ r.length := by
  induction r with
  | nil => exact Nat.le_refl _
  | cons a r ih =>
    refine Nat.le_trans (tr_len _) ?_
    rw [radd_len]
    have h2 := tr_len (rm (mv n r) [n, 1])
    have h3 := rm_len (mv n r) (q := [n, 1]) (by simp)
    simp only [List.length_cons, List.length_nil] at h3 ⊢
    by_cases he : mv n r = []
    · rw [he] at h2 h3 ⊢
      simp [rm, tr] at h2 h3 ⊢
    · omega
theorem mv_nm (n : Int) (r : List Int) : nm (mv n r) ≤ nm r * (n.natAbs + 1) ^ r.length := by
  induction r with
  | nil => simp [mv, nm]
  | cons a r ih =>
    have h2 := nm_radd (tr (rm (mv n r) [n, 1])) [a] 1
    have h3 := nm_tr (rm (mv n r) [n, 1])
    have h4 := nm_rm (mv n r) [n, 1]
    have h5 := nm_tr (radd (tr (rm (mv n r) [n, 1])) [a] 1)
    have h6 : nm [n, 1] = n.natAbs + 1 := by simp [nm]
    have h7 : nm [a] = a.natAbs := by simp [nm]
    have hp : 1 ≤ (n.natAbs + 1) ^ (r.length + 1) := Nat.one_le_pow _ _ (by omega)
    have h8 : a.natAbs ≤ a.natAbs * (n.natAbs + 1) ^ (r.length + 1) := Nat.le_mul_of_pos_right _ (by omega)
    have h9 : nm (mv n r) * nm [n, 1] ≤ nm r * (n.natAbs + 1) ^ (r.length + 1) := by
      rw [Nat.pow_succ, ← Nat.mul_assoc, h6]; exact Nat.mul_le_mul_right _ ih
    simp only [mv, nm, List.length_cons, Nat.add_mul]
    simp only [Int.natAbs_one, Nat.one_mul, h7] at h2
    omega
theorem ev_abs (r : List Int) (x : Int) : (ev r x).natAbs ≤ nm r * (x.natAbs + 1) ^ r.length := by
  induction r with
  | nil => simp [ev]
  | cons a r ih =>
    have h1 : (a + x * ev r x).natAbs ≤ a.natAbs + x.natAbs * (ev r x).natAbs := by
      rw [← Int.natAbs_mul]; exact Int.natAbs_add_le _ _
    have hp : 1 ≤ (x.natAbs + 1) ^ (r.length + 1) := Nat.one_le_pow _ _ (by omega)
    have h2 : a.natAbs ≤ a.natAbs * (x.natAbs + 1) ^ (r.length + 1) := Nat.le_mul_of_pos_right _ (by omega)
    have h3 : x.natAbs * (ev r x).natAbs ≤ nm r * (x.natAbs + 1) ^ (r.length + 1) := by
      rw [Nat.pow_succ, ← Nat.mul_assoc, Nat.mul_comm x.natAbs]
      exact Nat.mul_le_mul ih (by omega)
    simp only [ev, nm, List.length_cons, Nat.add_mul]; omega
end LM

end
section
set_option maxHeartbeats 2000000
/-! MC: steps put together, differences and factorials. -/
namespace LM
/-- (x - j) (x - j - 1) .., k of them -/
def fj : Int → Nat → Int → Int
  | _, 0, _ => 1
  | j, k + 1, x => (x - j) * fj (j + 1) k x
theorem fj_right (j : Int) (k : Nat) (x : Int) : fj j (k + 1) x = fj j k x * (x - (j + k)) := by
  induction k generalizing j with
  | zero => simp [fj]
  | succ k ih =>
    rw [fj, ih (j + 1), fj]
    have : (j + 1 + (k : Int)) = j + ((k + 1 : Nat) : Int) := by omega
    rw [this, Int.mul_assoc]
theorem es_take {r : List Int} {k : Nat} (h : k < r.length) (j x : Int) : es j (r.take (k + 1)) x = es j (r.take k) x + r[k] * fj j k x := by
  induction r generalizing k j with
  | nil => simp at h
  | cons a r ih =>
    cases k with
    | zero => simp [es, fj]
    | succ k =>
      simp only [List.length_cons, Nat.add_lt_add_iff_right] at h
      simp only [List.take_succ_cons, List.getElem_cons_succ, es, fj]
      rw [ih h (j + 1)]; grind
/-- (j + 1) (j + 2) .. , k of them -/
def asc : Nat → Nat → Int
  | _, 0 => 1
  | j, k + 1 => (1 + (j : Int)) * asc (j + 1) k
theorem asc_right (j k : Nat) : asc j (k + 1) = asc j k * ((j : Int) + k + 1) := by
  induction k generalizing j with
  | zero => simp [asc]; omega
  | succ k ih =>
    rw [asc, ih (j + 1), asc]
    have : (((j + 1 : Nat) : Int) + (k : Int) + 1) = (j : Int) + ((k + 1 : Nat) : Int) + 1 := by omega
    rw [this, Int.mul_assoc]
theorem asc_le (k : Nat) (h : k ≤ 64) : (asc 0 k).natAbs ≤ 64 ^ k := by
  induction k with
  | zero => simp [asc]
  | succ k ih =>
    rw [asc_right, Int.natAbs_mul, Nat.pow_succ]
    exact Nat.mul_le_mul (ih (by omega)) (by omega)
theorem co_sc (m : Int) (r : List Int) (j : Nat) : co (sc m r) j = (m + j) * co r j := by
  induction r generalizing m j with
  | nil => simp [sc, co_nil]
  | cons a r ih =>
    cases j with
    | zero => simp [sc, co]
    | succ j =>
      simp only [sc, co_cons, ih]
      have : m + 1 + (j : Int) = m + ((j + 1 : Nat) : Int) := by omega
      rw [this]
theorem co_tail (r : List Int) (j : Nat) : co r.tail j = co r (j + 1) := by
  cases r with
  | nil => simp [co_nil]
  | cons a r => simp [co_cons]
theorem es_zero (r : List Int) : es 0 r 0 = co r 0 := by
  cases r with
  | nil => rfl
  | cons a r => simp [es, co]
theorem es_null {r : List Int} (h : ∀ j, co r j = 0) (x : Int) : es 0 r x = 0 := by
  rw [← es_tr, tr_nil_co h]; rfl
/-- the difference row's relation goes on -/
theorem dif_next {t s : List Int} {k : Nat} (h : ∀ j, co t j = asc j k * co s (j + k)) (j : Nat) : co (sc 1 t.tail) j = asc j (k + 1) * co s (j + (k + 1)) := by
  rw [co_sc, co_tail, h, asc]
  have : j + 1 + k = j + (k + 1) := by omega
  rw [this, Int.mul_assoc]
/-- told values at 0, 1, .. -/
def vals (t : List Int) (c : Nat) : List Int := (List.range c).map fun (i : Nat) => es 0 t (i : Int)
theorem vals_len (t : List Int) (c : Nat) : (vals t c).length = c := by simp [vals]
theorem vals_at {t : List Int} {c i : Nat} (h : i < (vals t c).length) : (vals t c)[i] = es 0 t (i : Int) := by simp [vals]
theorem rs_same {r s : List Int} (h : ∀ x, es 0 s x = ev r x) : rs 0 s = tr r := by
  rw [← rs_tr]
  exact ev_inj (B := 0) fun x _ => by rw [rs_ev, h]
theorem stp_same {r s : List Int} (h : ∀ x, es 0 s x = ev r x) : stp r = tr s := by
  rw [← stp_tr]
  exact es_inj (k := 0) fun x _ => by rw [stp_es, h]
end LM

end
section
set_option maxHeartbeats 2000000
/-! MD: rows behind one another, derivatives, told values by a clock. -/
namespace LM
def bh (q : List Int) : List Int → List Int
  | [] => []
  | a :: r => tr (radd (tr (rm (bh q r) q)) [a] 1)
theorem bh_ev (q r : List Int) (x : Int) : ev (bh q r) x = ev r (ev q x) := by
  induction r with
  | nil => rfl
  | cons a r ih => simp only [bh, ev_tr, ev_radd, ev_rm, ih, ev]; grind
theorem bh_tr (q r : List Int) : tr (bh q r) = bh q r := by
  cases r with
  | nil => rfl
  | cons a r => exact tr_tr _
theorem bh_len (q r : List Int) : (bh q r).length ≤ r.length * q.length + 1 := by
  induction r with
  | nil => simp [bh]
  | cons a r ih =>
    refine Nat.le_trans (tr_len _) ?_
    rw [radd_len]
    have h2 := tr_len (rm (bh q r) q)
    simp only [List.length_cons, List.length_nil, Nat.add_mul]
    by_cases hq : q = []
    · subst hq
      have : tr (rm (bh [] r) []) = [] := rm_nil (.inr rfl)
      rw [this]; simp
    · have h3 := rm_len (bh q r) (q := q) hq
      omega
theorem bh_nm (q r : List Int) : nm (bh q r) ≤ nm r * (nm q + 1) ^ r.length := by
  induction r with
  | nil => simp [bh, nm]
  | cons a r ih =>
    have h2 := nm_radd (tr (rm (bh q r) q)) [a] 1
    have h3 := nm_tr (rm (bh q r) q)
    have h4 := nm_rm (bh q r) q
    have h5 := nm_tr (radd (tr (rm (bh q r) q)) [a] 1)
    have h7 : nm [a] = a.natAbs := by simp [nm]
    have hp : 1 ≤ (nm q + 1) ^ (r.length + 1) := Nat.one_le_pow _ _ (by omega)
    have h8 : a.natAbs ≤ a.natAbs * (nm q + 1) ^ (r.length + 1) := Nat.le_mul_of_pos_right _ (by omega)
    have h9 : nm (bh q r) * nm q ≤ nm r * (nm q + 1) ^ (r.length + 1) := by
      rw [Nat.pow_succ, ← Nat.mul_assoc]; exact Nat.mul_le_mul ih (by omega)
    simp only [bh, nm, List.length_cons, Nat.add_mul]
    simp only [Int.natAbs_one, Nat.one_mul, h7] at h2
    omega
theorem rm_deg (r q : List Int) : (tr (rm r q)).length ≤ (tr r).length + (tr q).length - 1 := by
  have e : tr (rm r q) = tr (rm (tr r) (tr q)) := ev_inj (B := 0) fun x _ => by rw [ev_rm, ev_rm, ev_tr, ev_tr]
  rw [e]
  by_cases h : tr q = []
  · rw [rm_nil (.inr (by rw [h]; rfl))]; simp
  · exact Nat.le_trans (tr_len _) (rm_len _ h)
theorem bh_deg (q r : List Int) (h : r ≠ []) (hq : tr q ≠ []) : (bh q r).length ≤ (r.length - 1) * ((tr q).length - 1) + 1 := by
  induction r with
  | nil => exact absurd rfl h
  | cons a r ih =>
    refine Nat.le_trans (tr_len _) ?_
    rw [radd_len]
    have h1 := rm_deg (bh q r) q
    rw [bh_tr] at h1
    have h0 : 0 < (tr q).length := List.length_pos_iff.mpr hq
    by_cases hr : r = []
    · subst hr
      simp only [bh, rm, tr, List.length_cons, List.length_nil]; omega
    · have h2 := ih hr
      have h3 : 0 < r.length := List.length_pos_iff.mpr hr
      have h4 : (r.length - 1) * ((tr q).length - 1) + ((tr q).length - 1) = r.length * ((tr q).length - 1) := by
        rw [← Nat.succ_mul]; congr 1; omega
      simp only [List.length_cons, List.length_nil, Nat.add_sub_cancel]
      omega
theorem bh_61 {q r : List Int} (h : tr r = [] ∨ tr q = [] ∨ ((tr r).length - 1) * ((tr q).length - 1) ≤ 60) : (bh q (tr r)).length ≤ 61 := by
  by_cases h1 : tr r = []
  · rw [h1]; simp [bh]
  by_cases h2 : tr q = []
  · cases hr : tr r with
    | nil => exact absurd hr h1
    | cons a s =>
      refine Nat.le_trans (tr_len _) ?_
      rw [radd_len, rm_nil (.inr h2)]; simp
  · have := bh_deg q (tr r) h1 h2
    rcases h with h | h | h
    · exact absurd h h1
    · exact absurd h h2
    · omega
theorem ev_dvd (r : List Int) (x y : Int) : (x - y) ∣ ev r x - ev r y := by
  induction r with
  | nil => simp [ev]
  | cons a r ih =>
    obtain ⟨c, hc⟩ := ih
    refine ⟨x * c + ev r y, ?_⟩
    simp only [ev]
    have : ev r x = ev r y + (x - y) * c := by omega
    rw [this]; grind
theorem ev_mod {r : List Int} {x y m : Int} (h : m ∣ x - y) : ev r x % m = ev r y % m :=
  Int.emod_eq_emod_iff_emod_sub_eq_zero.mpr (Int.emod_eq_zero_of_dvd (Int.dvd_trans h (ev_dvd r x y)))
/-- the derivative -/
def der (r : List Int) : List Int := sc 1 r.tail
theorem ev_sc (r : List Int) (m x : Int) : ev (sc (m + 1) r) x = ev (sc m r) x + ev r x := by
  induction r generalizing m with
  | nil => rfl
  | cons a r ih => simp only [sc, ev, ih (m + 1)]; grind
theorem der_cons (a : Int) (r : List Int) (x : Int) : ev (der (a :: r)) x = ev r x + x * ev (der r) x := by
  unfold der
  cases r with
  | nil => simp [sc, ev]
  | cons b r =>
    simp only [List.tail_cons, sc, ev]
    rw [ev_sc r 1 x]; grind
theorem taylor (r : List Int) (x h : Int) : ∃ q, ev r (x + h) = ev r x + h * ev (der r) x + h * h * q := by
  induction r with
  | nil => exact ⟨0, by simp [ev, der, sc]⟩
  | cons a r ih =>
    obtain ⟨q, hq⟩ := ih
    refine ⟨ev (der r) x + (x + h) * q, ?_⟩
    rw [der_cons]
    simp only [ev, hq]; grind
theorem ev_map_mod (r : List Int) (m x : Int) : ev (r.map (· % m)) x % m = ev r x % m := by
  induction r with
  | nil => rfl
  | cons a r ih =>
    simp only [List.map_cons, ev]
    rw [Int.add_emod, Int.mul_emod, ih, ← Int.mul_emod, Int.emod_emod, ← Int.add_emod]
theorem sc_len (m : Int) (r : List Int) : (sc m r).length = r.length := by
  induction r generalizing m with
  | nil => rfl
  | cons a r ih => simp [sc, ih]
theorem sc_drop (r : List Int) : (sc 0 r).drop 1 = der r := by
  cases r with
  | nil => rfl
  | cons a r => simp [sc, der]
end LM

end
section
set_option maxHeartbeats 2000000
/-! ME: what a clock shares with factorials; formulas that tell nothing by a clock. -/
namespace LM
/-- k! -/
def fac : Nat → Nat
  | 0 => 1
  | k + 1 => fac k * (k + 1)
theorem fac_pos (k : Nat) : 0 < fac k := by
  induction k with
  | zero => decide
  | succ k ih => exact Nat.mul_pos ih (by omega)
/-- what m shares with k! -/
def sh (m k : Nat) : Nat := Nat.gcd m (fac k)
theorem sh_dvd (m k : Nat) : sh m k ∣ m := Nat.gcd_dvd_left _ _
theorem sh_pos {m : Nat} (h : 0 < m) (k : Nat) : 0 < sh m k := Nat.gcd_pos_of_pos_left _ h
/-- the next one from the last -/
theorem sh_next (m k : Nat) : Nat.gcd m (sh m k * Nat.gcd m (k + 1)) = sh m (k + 1) := by
  unfold sh
  rw [fac]
  apply Nat.dvd_antisymm
  · refine Nat.dvd_gcd (Nat.gcd_dvd_left _ _) ?_
    exact Nat.dvd_trans (Nat.gcd_dvd_right _ _) (Nat.mul_dvd_mul (Nat.gcd_dvd_right _ _) (Nat.gcd_dvd_right _ _))
  · refine Nat.dvd_gcd (Nat.gcd_dvd_left _ _) ?_
    exact Nat.gcd_mul_right_dvd_mul_gcd _ _ _
theorem sh_next2 (m k : Nat) : Nat.gcd m (sh m k * (k + 1)) = sh m (k + 1) := by
  unfold sh
  rw [fac]
  apply Nat.dvd_antisymm
  · refine Nat.dvd_gcd (Nat.gcd_dvd_left _ _) ?_
    exact Nat.dvd_trans (Nat.gcd_dvd_right _ _) (Nat.mul_dvd_mul_right (Nat.gcd_dvd_right _ _) _)
  · refine Nat.dvd_gcd (Nat.gcd_dvd_left _ _) ?_
    refine Nat.dvd_trans (Nat.gcd_mul_right_dvd_mul_gcd m (fac k) (k + 1)) ?_
    exact Nat.mul_dvd_mul_left _ (Nat.gcd_dvd_right _ _)
/-- m divides a k! exactly if m / (m, k!) divides a -/
theorem share {m k : Nat} (hm : 0 < m) (a : Int) : (m : Int) ∣ a * fac k ↔ ((m / sh m k : Nat) : Int) ∣ a := by
  have hd := sh_pos hm k
  have h1 : m = sh m k * (m / sh m k) := (Nat.mul_div_cancel' (sh_dvd m k)).symm
  have h2 : fac k = sh m k * (fac k / sh m k) := (Nat.mul_div_cancel' (Nat.gcd_dvd_right m (fac k))).symm
  have hc : Nat.Coprime (m / sh m k) (fac k / sh m k) := Nat.coprime_div_gcd_div_gcd hd
  rw [← Int.natAbs_dvd_natAbs, ← Int.natAbs_dvd_natAbs, Int.natAbs_mul, Int.natAbs_natCast, Int.natAbs_natCast, Int.natAbs_natCast]
  constructor
  · intro h
    have h3 : sh m k * (m / sh m k) ∣ sh m k * (a.natAbs * (fac k / sh m k)) := by
      rw [← h1]
      have : sh m k * (a.natAbs * (fac k / sh m k)) = a.natAbs * fac k := by
        rw [Nat.mul_left_comm, ← h2]
      rw [this]; exact h
    have h4 := Nat.dvd_of_mul_dvd_mul_left hd h3
    exact hc.dvd_of_dvd_mul_right h4
  · intro h
    have h3 : sh m k * (m / sh m k) ∣ sh m k * (a.natAbs * (fac k / sh m k)) := Nat.mul_dvd_mul_left _ (Nat.dvd_trans h (Nat.dvd_mul_right _ _))
    rw [← h1, Nat.mul_left_comm, ← h2] at h3
    exact h3
/-- k! divides k numbers in a row -/
theorem fj_step (k : Nat) (x : Int) : fj 0 (k + 1) (x + 1) - fj 0 (k + 1) x = (k + 1) * fj 0 k x := by
  have h1 : fj 0 (k + 1) (x + 1) = (x + 1) * fj 0 k x := by
    have e : ∀ (k : Nat) (j : Int), fj (j + 1) k (x + 1) = fj j k x := fun k => by
      induction k with
      | zero => intro j; rfl
      | succ k ih =>
        intro j
        rw [fj, fj, ih (j + 1)]
        have : x + 1 - (j + 1) = x - j := by omega
        rw [this]
    rw [fj, Int.sub_zero, show (0 : Int) + 1 = 0 + 1 from rfl, e k 0]
  rw [h1, fj_right]
  have : (0 : Int) + (k : Int) = k := by omega
  rw [this]; grind
theorem fj_zero (k : Nat) : fj 0 (k + 1) 0 = 0 := by rw [fj]; simp
theorem fac_fj (k : Nat) : ∀ x : Int, (fac k : Int) ∣ fj 0 k x := by
  induction k with
  | zero => intro x; exact Int.one_dvd _
  | succ k ih =>
    have up : ∀ n : Nat, (fac (k + 1) : Int) ∣ fj 0 (k + 1) (n : Int) := fun n => by
      induction n with
      | zero => rw [show ((0 : Nat) : Int) = 0 from rfl, fj_zero]; exact Int.dvd_zero _
      | succ n ihn =>
        have h := fj_step k (n : Int)
        obtain ⟨c, hc⟩ := ih (n : Int)
        obtain ⟨d, hd⟩ := ihn
        refine ⟨d + c, ?_⟩
        have e : ((n + 1 : Nat) : Int) = (n : Int) + 1 := by omega
        rw [e]
        have e2 : ((fac (k + 1) : Nat) : Int) = (fac k : Int) * ((k : Int) + 1) := by rw [fac]; simp
        rw [e2] at hd ⊢
        rw [hc] at h
        grind
    have down : ∀ n : Nat, (fac (k + 1) : Int) ∣ fj 0 (k + 1) (-(n : Int)) := fun n => by
      induction n with
      | zero => rw [show (-((0 : Nat) : Int)) = 0 from rfl, fj_zero]; exact Int.dvd_zero _
      | succ n ihn =>
        have h := fj_step k (-((n : Int) + 1))
        obtain ⟨c, hc⟩ := ih (-((n : Int) + 1))
        obtain ⟨d, hd⟩ := ihn
        refine ⟨d - c, ?_⟩
        have e : (-((n + 1 : Nat) : Int)) = -((n : Int) + 1) := by omega
        have e3 : -((n : Int) + 1) + 1 = -(n : Int) := by omega
        rw [e]
        rw [e3] at h
        have e2 : ((fac (k + 1) : Nat) : Int) = (fac k : Int) * ((k : Int) + 1) := by rw [fac]; simp
        rw [e2] at hd ⊢
        rw [hc] at h
        grind
    intro x
    rcases Int.le_total 0 x with h | h
    · have := up x.toNat
      rwa [Int.toNat_of_nonneg h] at this
    · have := down (-x).toNat
      rwa [Int.toNat_of_nonneg (by omega), Int.neg_neg] at this
theorem asc_fac (k : Nat) : asc 0 k = (fac k : Int) := by
  induction k with
  | zero => rfl
  | succ k ih => rw [asc_right, ih, fac]; simp
/-- the kth differences -/
def difs : Nat → List Int → List Int
  | 0, s => s
  | k + 1, s => sc 1 (difs k s).tail
theorem difs_co (k : Nat) (s : List Int) : ∀ j, co (difs k s) j = asc j k * co s (j + k) := by
  induction k with
  | zero => intro j; simp [difs, asc]
  | succ k ih => exact dif_next ih
theorem difs_dvd {m : Int} {s : List Int} (h : ∀ x, m ∣ es 0 s x) (k : Nat) : ∀ x, m ∣ es 0 (difs k s) x := by
  induction k with
  | zero => exact h
  | succ k ih =>
    intro x
    rw [difs, ← es_step]
    exact Int.dvd_sub (ih _) (ih _)
/-- a formula tells multiples of m alone exactly if its entries for steps are multiples of their bounds -/
theorem idle_iff {m : Nat} (hm : 0 < m) (s : List Int) : (∀ x, (m : Int) ∣ es 0 s x) ↔ ∀ k, ((m / sh m k : Nat) : Int) ∣ co s k := by
  constructor
  · intro h k
    have h1 := difs_dvd h k 0
    rw [es_zero, difs_co, asc_fac, Nat.zero_add, Int.mul_comm] at h1
    exact (share hm _).mp h1
  · intro h x
    have key : ∀ k, k ≤ s.length → (m : Int) ∣ es 0 (s.take k) x := fun k => by
      induction k with
      | zero => intro _; exact Int.dvd_zero _
      | succ k ih =>
        intro hk
        rw [es_take (by omega)]
        refine Int.dvd_add (ih (by omega)) ?_
        have h2 := (share hm _).mpr (h k)
        rw [co_lt (by omega)] at h2
        exact Int.dvd_trans h2 (Int.mul_dvd_mul_left _ (fac_fj k x))
    have := key s.length (Nat.le_refl _)
    rwa [List.take_length] at this
/-- the rests by the bounds, from k on -/
def pl (m : Nat) : Nat → List Int → List Int
  | _, [] => []
  | k, a :: r => a % ((m / sh m k : Nat) : Int) :: pl m (k + 1) r
theorem pl_len (m k : Nat) (r : List Int) : (pl m k r).length = r.length := by
  induction r generalizing k with
  | nil => rfl
  | cons a r ih => simp [pl, ih]
theorem pl_co (m k : Nat) (r : List Int) (j : Nat) : co (pl m k r) j = co r j % ((m / sh m (k + j) : Nat) : Int) := by
  induction r generalizing k j with
  | nil => simp [pl, co_nil]
  | cons a r ih =>
    cases j with
    | zero => rfl
    | succ j =>
      simp only [pl, co_cons, ih]
      rw [show k + 1 + j = k + (j + 1) by omega]
theorem pl_nil {m : Nat} (s : List Int) : tr (pl m 0 s) = [] ↔ ∀ k, ((m / sh m k : Nat) : Int) ∣ co s k := by
  constructor
  · intro h k
    have e : co (pl m 0 s) k = 0 := by
      have : ∀ (r : List Int), tr r = [] → ∀ j, co r j = 0 := by
        intro r
        induction r with
        | nil => intro _ j; exact co_nil j
        | cons a r ih =>
          intro h j
          rw [tr] at h
          split at h
          · rename_i hh
            cases j with
            | zero => exact hh.2
            | succ j => rw [co_cons]; exact ih hh.1 j
          · cases h
      exact this _ h k
    rw [pl_co, Nat.zero_add] at e
    exact Int.dvd_of_emod_eq_zero e
  · intro h
    refine tr_nil_co fun j => ?_
    rw [pl_co, Nat.zero_add]
    exact Int.emod_eq_zero_of_dvd (h j)
/-- the plain step row of a formula -/
def plain (m : Nat) (r : List Int) : List Int := tr (pl m 0 (stp r))
theorem plain_nil {m : Nat} (hm : 0 < m) (r : List Int) : plain m r = [] ↔ ∀ x, (m : Int) ∣ ev r x := by
  unfold plain
  rw [pl_nil, ← idle_iff hm]
  constructor
  · intro h x; rw [← stp_es]; exact h x
  · intro h x; rw [stp_es]; exact h x
theorem co_tr (r : List Int) (j : Nat) : co (tr r) j = co r j := by
  induction r generalizing j with
  | nil => rfl
  | cons a r ih =>
    rw [tr]
    split
    · rename_i h
      cases j with
      | zero => exact h.2.symm
      | succ j =>
        rw [co_cons, ← ih j, h.1, co_nil, co_nil]
    · cases j with
      | zero => rfl
      | succ j => rw [co_cons, co_cons, ih]
theorem both_dvd {a b : Nat} (h : Nat.Coprime a b) (v : Int) : ((a * b : Nat) : Int) ∣ v ↔ (a : Int) ∣ v ∧ (b : Int) ∣ v := by
  rw [← Int.natAbs_dvd_natAbs, ← Int.natAbs_dvd_natAbs, ← Int.natAbs_dvd_natAbs, Int.natAbs_natCast, Int.natAbs_natCast, Int.natAbs_natCast]
  exact ⟨fun g => ⟨Nat.dvd_trans (Nat.dvd_mul_right _ _) g, Nat.dvd_trans (Nat.dvd_mul_left _ _) g⟩, fun g => h.mul_dvd_of_dvd_of_dvd g.1 g.2⟩
theorem sh_mul {a b : Nat} (h : Nat.Coprime a b) (k : Nat) : sh (a * b) k = sh a k * sh b k := by
  unfold sh
  rw [Nat.gcd_comm, h.gcd_mul, Nat.gcd_comm (fac k) a, Nat.gcd_comm (fac k) b]
theorem bnd_mul {a b : Nat} (h : Nat.Coprime a b) (k : Nat) : a * b / sh (a * b) k = (a / sh a k) * (b / sh b k) := by
  rw [sh_mul h]
  exact (Nat.div_mul_div_comm (sh_dvd a k) (sh_dvd b k)).symm
/-- plain by a product, then by a factor -/
theorem plain_plain {a b : Nat} (h : Nat.Coprime a b) (r : List Int) : plain a (rs 0 (plain (a * b) r)) = plain a r := by
  have e : stp (rs 0 (plain (a * b) r)) = plain (a * b) r := by
    rw [stp_same (s := plain (a * b) r) fun x => (rs_ev 0 _ x).symm, plain, tr_tr]
  unfold plain at e ⊢
  rw [e]
  refine tr_ext fun j => ?_
  rw [pl_co, pl_co, co_tr, pl_co, Nat.zero_add, bnd_mul h]
  exact Int.emod_emod_of_dvd _ (Int.natCast_dvd_natCast.mpr (Nat.dvd_mul_right _ _))
/-- a formula less its plain one is idle -/
theorem plain_rest {m : Nat} (hm : 0 < m) (r : List Int) (x : Int) : (m : Int) ∣ ev r x - es 0 (plain m r) x := by
  have h : ∀ k, ((m / sh m k : Nat) : Int) ∣ co (radd (stp r) (plain m r) (-1)) k := fun k => by
    rw [co_radd, plain, co_tr, pl_co, Nat.zero_add]
    refine ⟨co (stp r) k / ((m / sh m k : Nat) : Int), ?_⟩
    have := Int.mul_ediv_add_emod (co (stp r) k) ((m / sh m k : Nat) : Int)
    omega
  have := (idle_iff hm _).mpr h x
  rw [es_radd, stp_es] at this
  have e : ev r x + -1 * es 0 (plain m r) x = ev r x - es 0 (plain m r) x := by omega
  rwa [e] at this
theorem plain_len (m : Nat) (r : List Int) : (plain m r).length ≤ r.length := by
  refine Nat.le_trans (tr_len _) ?_
  rw [pl_len, stp_len]; exact tr_len r
theorem plain_nm {m : Nat} (hm : 0 < m) (r : List Int) : nm (plain m r) ≤ r.length * m := by
  refine Nat.le_trans (nm_tr _) ?_
  have key : ∀ (s : List Int) (k : Nat), ∀ a ∈ pl m k s, a.natAbs ≤ m := by
    intro s
    induction s with
    | nil => intro k a ha; cases ha
    | cons b s ih =>
      intro k a ha
      cases ha with
      | head =>
        have hb : 0 < m / sh m k := Nat.div_pos (Nat.le_of_dvd hm (sh_dvd m k)) (sh_pos hm k)
        have h1 := Int.emod_nonneg b (b := ((m / sh m k : Nat) : Int)) (by omega)
        have h2 := Int.emod_lt_of_pos b (b := ((m / sh m k : Nat) : Int)) (by omega)
        have h3 : m / sh m k ≤ m := Nat.div_le_self _ _
        generalize b % ((m / sh m k : Nat) : Int) = z at *
        generalize m / sh m k = y at *
        omega
      | tail _ ha => exact ih _ a ha
  refine Nat.le_trans (nm_le (key _ 0)) ?_
  rw [pl_len, stp_len]
  exact Nat.mul_le_mul_right _ (tr_len r)
end LM

end
section
set_option maxHeartbeats 4000000
/-! MF: entries and bounds side by side; alike formulas have one plain row. -/
namespace LM
/-- each entry with its bound, by a rule -/
def zf (f : Int → Int → Int) (m : Nat) : Nat → List Int → List Int
  | _, [] => []
  | k, a :: r => f a ((m / sh m k : Nat) : Int) :: zf f m (k + 1) r
theorem zf_len (f : Int → Int → Int) (m k : Nat) (r : List Int) : (zf f m k r).length = r.length := by
  induction r generalizing k with
  | nil => rfl
  | cons a r ih => simp [zf, ih]
theorem zf_co {f : Int → Int → Int} (hf : ∀ b, f 0 b = 0) (m k : Nat) (r : List Int) (j : Nat) : co (zf f m k r) j = f (co r j) ((m / sh m (k + j) : Nat) : Int) := by
  induction r generalizing k j with
  | nil => simp [zf, co_nil, hf]
  | cons a r ih =>
    cases j with
    | zero => rfl
    | succ j =>
      simp only [zf, co_cons, ih]
      rw [show k + 1 + j = k + (j + 1) by omega]
theorem zf_nm {f : Int → Int → Int} {m c : Nat} (hf : ∀ a k, (f a ((m / sh m k : Nat) : Int)).natAbs ≤ a.natAbs * c) (k : Nat) (r : List Int) : nm (zf f m k r) ≤ nm r * c := by
  induction r generalizing k with
  | nil => exact Nat.zero_le _
  | cons a r ih =>
    have h1 := ih (k + 1)
    have h2 := hf a k
    simp only [zf, nm, Nat.add_mul]
    omega
theorem zf_mul_nm (m : Nat) (r : List Int) : nm (zf (· * ·) m 0 r) ≤ nm r * m := by
  refine zf_nm (fun a k => ?_) 0 r
  show (a * _).natAbs ≤ _
  rw [Int.natAbs_mul, Int.natAbs_natCast]
  exact Nat.mul_le_mul_left _ (Nat.div_le_self _ _)
theorem zf_div_nm (m : Nat) (r : List Int) : nm (zf (· / ·) m 0 r) ≤ nm r := by
  have := zf_nm (f := (· / ·)) (m := m) (c := 1) (fun a k => by rw [Nat.mul_one]; exact Int.natAbs_ediv_le_natAbs a _) 0 r
  omega
theorem stp_small {r : List Int} {B : Nat} (h : nm r < 2 ^ B) (hl : r.length ≤ 21) : nm (stp r) < 2 ^ (B + 6 * 441) := by
  refine Nat.lt_of_le_of_lt (stp_nm (M := 64) (by omega)) ?_
  have e : 2 ^ (6 * 441) = 64 ^ (21 * 21) := Nat.pow_mul 2 6 441
  have g : r.length * r.length ≤ 21 * 21 := Nat.mul_le_mul hl hl
  rw [Nat.pow_add, e]
  exact Nat.mul_lt_mul_of_lt_of_le h (Nat.pow_le_pow_right (by decide) g) (Nat.pow_pos (by decide))
theorem plain_eq {m : Nat} (hm : 0 < m) {a b : List Int} (h : ∀ x, (m : Int) ∣ ev a x - ev b x) : plain m a = plain m b := by
  unfold plain
  refine tr_ext fun j => ?_
  rw [pl_co, pl_co, Nat.zero_add]
  have h1 := (idle_iff hm (radd (stp a) (stp b) (-1))).mp (fun x => by
    rw [es_radd, stp_es, stp_es, show ev a x + -1 * ev b x = ev a x - ev b x by omega]; exact h x) j
  rw [co_radd] at h1
  refine Int.emod_eq_emod_iff_emod_sub_eq_zero.mpr (Int.emod_eq_zero_of_dvd ?_)
  rwa [show co (stp a) j + -1 * co (stp b) j = co (stp a) j - co (stp b) j by omega] at h1
theorem plain_alike {m : Nat} (hm : 0 < m) {a b : List Int} (h : plain m a = plain m b) (x : Int) : (m : Int) ∣ ev a x - ev b x := by
  have h1 := plain_rest hm a x
  have h2 := plain_rest hm b x
  rw [h] at h1
  have := Int.dvd_sub h1 h2
  rwa [show ev a x - es 0 (plain m b) x - (ev b x - es 0 (plain m b) x) = ev a x - ev b x by omega] at this
theorem alike_of {m : Nat} (hm : 0 < m) {a b : List Int} (h : ∀ x, (m : Int) ∣ ev a x - ev b x) : decide (plain m (tr (radd a b (-1))) = []) = true := by
  rw [decide_eq_true_eq, plain_nil hm]
  intro x
  rw [ev_tr, ev_radd, show ev a x + -1 * ev b x = ev a x - ev b x by omega]
  exact h x
theorem shares {m : Nat} (hm : 0 < m) {d : List Int} (h : ∀ x, (m : Int) ∣ ev d x) (x : Int) : es 0 (zf (· * ·) m 0 (tr (zf (· / ·) m 0 (stp d)))) x = ev d x := by
  have h2 := (idle_iff hm (stp d)).mp fun x => by rw [stp_es]; exact h x
  have e : tr (zf (· * ·) m 0 (tr (zf (· / ·) m 0 (stp d)))) = tr (stp d) := by
    refine tr_ext fun j => ?_
    rw [zf_co (f := (· * ·)) (fun b => Int.zero_mul b), co_tr, zf_co (f := (· / ·)) (fun b => Int.zero_ediv b), Nat.zero_add]
    exact Int.ediv_mul_cancel (h2 j)
  rw [← es_tr, e, es_tr, stp_es]
theorem bh_small {q r : List Int} {B C L : Nat} (hr : nm r < 2 ^ B) (hq : nm q < 2 ^ C) (hl : r.length ≤ L) : nm (bh q r) < 2 ^ (B + C * L) := by
  refine Nat.lt_of_le_of_lt (bh_nm q r) ?_
  rw [Nat.pow_add, Nat.pow_mul]
  refine Nat.mul_lt_mul_of_lt_of_le hr ?_ (Nat.pow_pos (Nat.pow_pos (by decide)))
  exact Nat.le_trans (Nat.pow_le_pow_left hq _) (Nat.pow_le_pow_right (Nat.pow_pos (by decide)) hl)
theorem mul_alike {m a b c d : Int} (h : m ∣ a - b) (g : m ∣ c - d) : m ∣ a * c - b * d := by
  obtain ⟨u, hu⟩ := h
  obtain ⟨v, hv⟩ := g
  refine ⟨u * c + b * v, ?_⟩
  have e1 : a = b + m * u := by omega
  have e2 : c = d + m * v := by omega
  subst e1; subst e2
  grind
end LM

end
section
set_option maxHeartbeats 4000000
/-! MH: values at the first hours and their differences; entries within bounds; the first entry that is not nought. -/
namespace LM
/-- the k-th differences at the first hours -/
def vl (k n : Nat) (s : List Int) : List Int := (List.range (n - k)).map fun (i : Nat) => es 0 (difs k s) (i : Int)
theorem vl_len (k n : Nat) (s : List Int) : (vl k n s).length = n - k := by simp [vl]
theorem vl_get {k n : Nat} {s : List Int} {i : Nat} (h : i < (vl k n s).length) : (vl k n s)[i] = es 0 (difs k s) (i : Int) := by simp [vl]
theorem difs_zero (k : Nat) (s : List Int) : es 0 (difs k s) 0 = co s k * (fac k : Int) := by
  rw [es_zero, difs_co, asc_fac, Nat.zero_add, Int.mul_comm]
theorem vl_div (k : Nat) (s : List Int) : es 0 (difs k s) 0 / (fac k : Int) = co s k := by
  rw [difs_zero]
  exact Int.mul_ediv_cancel _ (by have := fac_pos k; omega)
theorem vl_step (k : Nat) (s : List Int) (x : Int) : es 0 (difs k s) (x + 1) - es 0 (difs k s) x = es 0 (difs (k + 1) s) x := by
  rw [es_step, difs]
theorem fac_le {k : Nat} (h : k ≤ 64) : fac k ≤ 64 ^ k := by
  induction k with
  | zero => decide
  | succ k ih =>
    rw [fac, Nat.pow_succ]
    exact Nat.mul_le_mul (ih (by omega)) h
theorem fac_small {k : Nat} (h : k ≤ 64) : fac k < 2 ^ 400 := by
  refine Nat.lt_of_le_of_lt (fac_le h) (Nat.lt_of_le_of_lt (Nat.pow_le_pow_right (by decide) h) ?_)
  decide
theorem sh_max (m k : Nat) : Nat.gcd m (sh m (k - 1) * max 1 k) = sh m k := by
  cases k with
  | zero => simp [sh, fac]
  | succ k =>
    rw [show max 1 (k + 1) = k + 1 by omega]
    exact sh_next2 m k
/-- each entry lies below its bound -/
def inb (m : Nat) : Nat → List Int → Bool
  | _, [] => true
  | k, a :: r => (decide (0 ≤ a) && decide (a < ((m / sh m k : Nat) : Int))) && inb m (k + 1) r
theorem inb_pl {m : Nat} : ∀ {r : List Int} {k : Nat}, inb m k r = true → pl m k r = r
  | [], _, _ => rfl
  | a :: r, k, h => by
    simp only [inb, Bool.and_eq_true, decide_eq_true_eq] at h
    rw [pl, inb_pl h.2, Int.emod_eq_of_lt h.1.1 h.1.2]
theorem pl_inb {m : Nat} (hm : 0 < m) : ∀ (r : List Int) (k : Nat), inb m k (pl m k r) = true
  | [], _ => rfl
  | a :: r, k => by
    have hb : 0 < m / sh m k := Nat.div_pos (Nat.le_of_dvd hm (sh_dvd m k)) (sh_pos hm k)
    simp only [pl, inb, Bool.and_eq_true, decide_eq_true_eq]
    exact ⟨⟨Int.emod_nonneg _ (by omega), Int.emod_lt_of_pos _ (by omega)⟩, pl_inb hm r (k + 1)⟩
theorem inb_tr {m : Nat} : ∀ {r : List Int} {k : Nat}, inb m k r = true → inb m k (tr r) = true
  | [], _, _ => rfl
  | a :: r, k, h => by
    simp only [inb, Bool.and_eq_true, decide_eq_true_eq] at h
    rw [tr]
    split
    · rfl
    · simp only [inb, Bool.and_eq_true, decide_eq_true_eq]
      exact ⟨h.1, inb_tr h.2⟩
theorem plain_inb {m : Nat} (hm : 0 < m) (r : List Int) : inb m 0 (plain m r) = true := inb_tr (pl_inb hm _ 0)
theorem plain_tr (m : Nat) (r : List Int) : tr (plain m r) = plain m r := tr_tr _
/-- a plain row is its formula's plain row -/
theorem plain_rs {m : Nat} {s : List Int} (h : inb m 0 s = true) (t : tr s = s) : plain m (rs 0 s) = s := by
  rw [plain, stp_same (s := s) fun x => (rs_ev 0 _ x).symm, t, inb_pl h, t]
theorem rs_uniq {F s : List Int} (hF : tr F = F) (h : ∀ x, ev F x = es 0 s x) : F = rs 0 s := by
  rw [← hF, ← rs_tr 0 s]
  exact ev_inj (B := 0) fun x _ => by rw [h, rs_ev]
end LM

end
section
set_option maxHeartbeats 4000000
/-! MI: the first hour at which formulas part. -/
namespace LM
theorem fj_shift (k : Nat) : ∀ (j x : Int), fj (j + 1) k (x + 1) = fj j k x := by
  induction k with
  | zero => intro j x; rfl
  | succ k ih => intro j x; rw [fj, fj, ih (j + 1) x]; congr 1; omega
theorem fj_self (k : Nat) : fj 0 k (k : Int) = (fac k : Int) := by
  induction k with
  | zero => rfl
  | succ k ih =>
    have e : ((k + 1 : Nat) : Int) = (k : Int) + 1 := by omega
    have := fj_shift k 0 (k : Int)
    rw [fj, e, this, ih, fac, Int.natCast_mul, e, Int.sub_zero, Int.mul_comm]
theorem fj_past {j n : Nat} (h : j < n) : fj 0 n (j : Int) = 0 := by
  induction n with
  | zero => omega
  | succ n ih =>
    rw [fj_right]
    by_cases e : j = n
    · subst e; simp
    · rw [ih (by omega), Int.zero_mul]
theorem es_upto (s : List Int) {j : Nat} (h : j < s.length) : es 0 s (j : Int) = es 0 (s.take (j + 1)) (j : Int) := by
  have key : ∀ n, j + 1 ≤ n → n ≤ s.length → es 0 (s.take n) (j : Int) = es 0 (s.take (j + 1)) (j : Int) := by
    intro n h1
    induction n with
    | zero => omega
    | succ n ih =>
      intro h2
      by_cases e : j = n
      · subst e; rfl
      · rw [es_take (by omega), ih (by omega) (by omega), fj_past (by omega), Int.mul_zero, Int.add_zero]
  have := key s.length (by omega) (Nat.le_refl _)
  rwa [List.take_length] at this
theorem first_part {m : Nat} (hm : 0 < m) {s : List Int} {j : Nat} (h : ∀ i, i < j → ((m / sh m i : Nat) : Int) ∣ co s i) (hd : (m : Int) ∣ es 0 s (j : Int)) : ((m / sh m j : Nat) : Int) ∣ co s j := by
  by_cases hj : j < s.length
  · have key : ∀ n, n ≤ j → (m : Int) ∣ es 0 (s.take n) (j : Int) := fun n => by
      induction n with
      | zero => intro _; exact Int.dvd_zero _
      | succ n ih =>
        intro hn
        rw [es_take (by omega)]
        refine Int.dvd_add (ih (by omega)) ?_
        have h2 := (share hm _).mpr (h n (by omega))
        rw [co_lt (by omega)] at h2
        exact Int.dvd_trans h2 (Int.mul_dvd_mul_left _ (fac_fj n _))
    rw [es_upto s hj, es_take hj, fj_self] at hd
    have h3 := (Int.dvd_add_right (key j (Nat.le_refl _))).mp hd
    rw [co_lt hj]
    exact (share hm _).mp h3
  · rw [co_ge (by omega)]; exact Int.dvd_zero _
/-- values at the first hours, as many as there are entries, tell all -/
theorem first_hours {m : Nat} (hm : 0 < m) {s : List Int} {n : Nat} (hl : s.length ≤ n) (h : ∀ x : Nat, x < n → (m : Int) ∣ es 0 s (x : Int)) : ∀ x, (m : Int) ∣ es 0 s x := by
  refine (idle_iff hm s).mpr fun k => ?_
  induction k using Nat.strongRecOn with
  | _ k ih =>
    by_cases hk : k < n
    · exact first_part hm ih (h k hk)
    · rw [co_ge (by omega)]; exact Int.dvd_zero _
/-- where a row's first entry that is not nought stands -/
def fst? : Nat → List Int → Option Nat
  | _, [] => none
  | k, a :: r => if a = 0 then fst? (k + 1) r else some k
theorem fst_tr {r : List Int} (h : tr r = r) (k : Nat) : fst? k r = none ↔ r = [] := by
  constructor
  · intro e
    have key : ∀ (r : List Int) (k : Nat), fst? k r = none → tr r = [] := by
      intro r
      induction r with
      | nil => intro k _; rfl
      | cons a r ih =>
        intro k e
        rw [fst?] at e
        split at e
        · rename_i ha
          rw [tr, if_pos ⟨ih _ e, ha⟩]
        · cases e
    rw [← h]; exact key r k e
  · intro e; subst e; rfl
theorem fst_some {r : List Int} {k j : Nat} (h : fst? k r = some j) : k ≤ j ∧ j - k < r.length ∧ co r (j - k) ≠ 0 ∧ ∀ i, k + i < j → co r i = 0 := by
  induction r generalizing k with
  | nil => cases h
  | cons a r ih =>
    rw [fst?] at h
    split at h
    · rename_i ha
      obtain ⟨h1, h2, h3, h4⟩ := ih h
      refine ⟨by omega, by simp; omega, ?_, fun i hi => ?_⟩
      · rw [show j - k = (j - (k + 1)) + 1 by omega, co_cons]; exact h3
      · cases i with
        | zero => exact ha
        | succ i => rw [co_cons]; exact h4 i (by omega)
    · rename_i ha
      cases h
      refine ⟨Nat.le_refl _, by simp, ?_, fun i hi => by omega⟩
      rw [Nat.sub_self]; exact ha
theorem plain_co {m : Nat} (r : List Int) (j : Nat) : co (plain m r) j = co (stp r) j % ((m / sh m j : Nat) : Int) := by
  rw [plain, co_tr, pl_co, Nat.zero_add]
/-- at the first entry that is not nought the formula tells no multiple -/
theorem fst_told {m : Nat} (hm : 0 < m) {d : List Int} {j : Nat} (h : fst? 0 (plain m d) = some j) : ¬(m : Int) ∣ ev d (j : Int) := by
  obtain ⟨_, _, h3, h4⟩ := fst_some h
  intro hd
  rw [← stp_es] at hd
  have := first_part hm (s := stp d) (j := j) (fun i hi => ?_) hd
  · rw [Nat.sub_zero, plain_co] at h3
    exact h3 (Int.emod_eq_zero_of_dvd this)
  · have := h4 i (by omega)
    rw [plain_co] at this
    exact Int.dvd_of_emod_eq_zero this
theorem tr_last {r : List Int} (h : tr r = r) (hr : r ≠ []) : co r (r.length - 1) ≠ 0 := by
  induction r with
  | nil => exact absurd rfl hr
  | cons a q ih =>
    rw [tr] at h
    split at h
    · cases h
    · rename_i hc
      have hq : tr q = q := by injection h
      cases q with
      | nil =>
        intro e
        exact hc ⟨hq, e⟩
      | cons b q =>
        have := ih hq (by simp)
        simpa [co_cons] using this
theorem stp_sub (a b : List Int) (i : Nat) : co (stp (tr (radd a b (-1)))) i = co (stp a) i - co (stp b) i := by
  have e : stp (tr (radd a b (-1))) = tr (radd (stp a) (stp b) (-1)) := stp_same fun x => by
    rw [es_radd, stp_es, stp_es, ev_tr, ev_radd]
  rw [e, co_tr, co_radd]; omega
/-- no formula of a lesser degree than the plain one's tells the same -/
theorem part_at {m : Nat} {a b s : List Int} (hs : s = plain m a) (hne : s ≠ []) (hb : b.length ≤ s.length - 1) : ∃ j, fst? 0 (plain m (tr (radd a b (-1)))) = some j ∧ j < s.length := by
  have hl := List.length_pos_iff.mpr hne
  have h0 : co (stp b) (s.length - 1) = 0 := co_ge (by rw [stp_len]; have := tr_len b; omega)
  have h1 : co (plain m (tr (radd a b (-1)))) (s.length - 1) ≠ 0 := by
    rw [plain_co, stp_sub, h0, Int.sub_zero, ← plain_co, ← hs]
    exact tr_last (by rw [hs, plain_tr]) hne
  cases e : fst? 0 (plain m (tr (radd a b (-1)))) with
  | none =>
    rw [(fst_tr (plain_tr _ _) 0).mp e] at h1
    exact absurd (co_nil _) h1
  | some j =>
    obtain ⟨_, _, _, h4⟩ := fst_some e
    refine ⟨j, rfl, ?_⟩
    rcases Nat.lt_or_ge j s.length with h | h
    · exact h
    · exact absurd (h4 (s.length - 1) (by omega)) h1
theorem tr_len_le {r : List Int} {n : Nat} (h : ∀ i, n ≤ i → co r i = 0) : (tr r).length ≤ n := by
  rcases Nat.lt_or_ge n (tr r).length with g | g
  · have hne : tr r ≠ [] := fun e => by rw [e] at g; simp at g
    have := tr_last (tr_tr r) hne
    rw [co_tr] at this
    exact absurd (h _ (by omega)) this
  · exact g
theorem sub_len {a b : List Int} {n : Nat} (h : (tr a).length ≤ n) (g : (tr b).length ≤ n) : (stp (tr (radd a b (-1)))).length ≤ n := by
  rw [stp_len, tr_tr]
  refine tr_len_le fun i hi => ?_
  rw [co_radd, ← co_tr a, ← co_tr b, co_ge (by omega), co_ge (by omega)]; rfl
end LM

end
section
set_option maxHeartbeats 4000000
/-! ML: a clock that divides another one. -/
namespace LM
theorem sh_low {a b : Nat} (h : a ∣ b) (k : Nat) : sh a k = Nat.gcd a (sh b k) := by
  unfold sh
  rw [← Nat.gcd_assoc, Nat.gcd_eq_left h]
theorem sh_div {a b : Nat} (h : a ∣ b) (k : Nat) : sh a k ∣ sh b k := by
  rw [sh_low h]; exact Nat.gcd_dvd_right _ _
/-- the bounds by a clock divide those by its multiples -/
theorem bnd_div {a b : Nat} (hb : 0 < b) (h : a ∣ b) (k : Nat) : a / sh a k ∣ b / sh b k := by
  have ha : 0 < a := Nat.pos_of_dvd_of_pos h hb
  have h1 : (b : Int) ∣ ((b / sh b k : Nat) : Int) * fac k := (share hb _).mpr (Int.dvd_refl _)
  have h2 : (a : Int) ∣ ((b / sh b k : Nat) : Int) * fac k := Int.dvd_trans (Int.natCast_dvd_natCast.mpr h) h1
  exact Int.natCast_dvd_natCast.mp ((share ha _).mp h2)
theorem plain_low {a b : Nat} (hb : 0 < b) (h : a ∣ b) (r : List Int) : plain a (rs 0 (plain b r)) = plain a r := by
  have e : stp (rs 0 (plain b r)) = plain b r := by
    rw [stp_same (s := plain b r) fun x => (rs_ev 0 _ x).symm, plain, tr_tr]
  unfold plain at e ⊢
  rw [e]
  refine tr_ext fun j => ?_
  rw [pl_co, pl_co, co_tr, pl_co, Nat.zero_add]
  exact Int.emod_emod_of_dvd _ (Int.natCast_dvd_natCast.mpr (bnd_div hb h j))
theorem low_nil {a b : Nat} (hb : 0 < b) (h : a ∣ b) {r : List Int} (e : plain b r = []) : plain a r = [] := by
  have ha : 0 < a := Nat.pos_of_dvd_of_pos h hb
  rw [plain_nil hb] at e
  rw [plain_nil ha]
  exact fun x => Int.dvd_trans (Int.natCast_dvd_natCast.mpr h) (e x)
theorem low_len {a b : Nat} (hb : 0 < b) (h : a ∣ b) (r : List Int) : (plain a r).length ≤ (plain b r).length := by
  unfold plain
  refine tr_len_le fun i hi => ?_
  have h0 : co (tr (pl b 0 (stp r))) i = 0 := co_ge hi
  rw [co_tr, pl_co, Nat.zero_add] at h0
  rw [pl_co, Nat.zero_add]
  exact Int.emod_eq_zero_of_dvd (Int.dvd_trans (Int.natCast_dvd_natCast.mpr (bnd_div hb h i)) (Int.dvd_of_emod_eq_zero h0))
/-- where the lesser clock parts the greater one has parted -/
theorem low_first {a b : Nat} (hb : 0 < b) (h : a ∣ b) {r : List Int} {j : Nat} (e : fst? 0 (plain a r) = some j) : ∃ i, fst? 0 (plain b r) = some i ∧ i ≤ j := by
  obtain ⟨_, _, h3, _⟩ := fst_some e
  rw [Nat.sub_zero, plain_co] at h3
  have h4 : co (plain b r) j ≠ 0 := fun z => by
    rw [plain_co] at z
    exact h3 (Int.emod_eq_zero_of_dvd (Int.dvd_trans (Int.natCast_dvd_natCast.mpr (bnd_div hb h j)) (Int.dvd_of_emod_eq_zero z)))
  cases g : fst? 0 (plain b r) with
  | none =>
    rw [(fst_tr (plain_tr b r) 0).mp g] at h4
    exact absurd (co_nil _) h4
  | some i =>
    refine ⟨i, rfl, ?_⟩
    obtain ⟨_, _, _, h5⟩ := fst_some g
    rcases Nat.lt_or_ge j i with g2 | g2
    · exact absurd (h5 j (by omega)) h4
    · exact g2
theorem sh_full2 {a b k : Nat} (h : a ∣ b) (g : sh b k = b) : sh a k = a := by
  rw [sh_low h, g]; exact Nat.gcd_eq_left h
end LM

end
section
/-! MR: how often a number goes into another one; parts by primes; primes. -/
namespace LM
def IsTm (p n a r : Nat) : Prop := n = p ^ a * r ∧ ¬p ∣ r
theorem tm_ex {p n : Nat} (hp : 2 ≤ p) (hn : 0 < n) : ∃ a r, IsTm p n a r := by
  induction n using Nat.strongRecOn with
  | _ n ih =>
    by_cases h : p ∣ n
    · obtain ⟨q, rfl⟩ := h
      have hq : 0 < q := Nat.pos_of_mul_pos_left hn |> fun _ => by
        rcases Nat.eq_zero_or_pos q with e | e
        · rw [e] at hn; simp at hn
        · exact e
      have hlt : q < p * q := by
        have := Nat.mul_le_mul_right q hp
        omega
      obtain ⟨a, r, h1, h2⟩ := ih q hlt hq
      exact ⟨a + 1, r, by rw [h1, Nat.pow_succ]; rw [Nat.mul_comm (p ^ a) p, Nat.mul_assoc], h2⟩
    · exact ⟨0, n, by simp, h⟩
theorem tm_uniq {p n a r b s : Nat} (hp : 2 ≤ p) (h : IsTm p n a r) (g : IsTm p n b s) : a = b ∧ r = s := by
  have key : ∀ {a b r s : Nat}, p ^ a * r = p ^ b * s → ¬p ∣ r → ¬p ∣ s → a ≤ b → a = b ∧ r = s := by
    intro a b r s e h1 h2 hab
    obtain ⟨d, rfl⟩ := Nat.exists_eq_add_of_le hab
    rw [Nat.pow_add, Nat.mul_assoc] at e
    have e := Nat.eq_of_mul_eq_mul_left (Nat.pow_pos (by omega)) e
    cases d with
    | zero => exact ⟨rfl, by simpa using e⟩
    | succ d =>
      exfalso
      refine h1 ?_
      rw [e, Nat.pow_succ, Nat.mul_comm (p ^ d) p, Nat.mul_assoc]
      exact Nat.dvd_mul_right _ _
  have e : p ^ a * r = p ^ b * s := by rw [← h.1, ← g.1]
  rcases Nat.le_total a b with hab | hab
  · exact key e h.2 g.2 hab
  · obtain ⟨h1, h2⟩ := key e.symm g.2 h.2 hab
    exact ⟨h1.symm, h2.symm⟩
open Classical in
noncomputable def tm (p n : Nat) : Nat := if h : ∃ a r, IsTm p n a r then h.choose else 0
theorem tm_is {p n : Nat} (hp : 2 ≤ p) (hn : 0 < n) : IsTm p n (tm p n) (n / p ^ tm p n) := by
  have h := tm_ex hp hn
  have e : tm p n = h.choose := by unfold tm; rw [dif_pos h]
  obtain ⟨r, h1, h2⟩ := h.choose_spec
  rw [← e] at h1
  have hp2 : 0 < p ^ tm p n := Nat.pow_pos (by omega)
  have : n / p ^ tm p n = r := Nat.div_eq_of_eq_mul_right hp2 h1
  rw [this]
  exact ⟨h1, h2⟩
theorem tm_of {p n a r : Nat} (hp : 2 ≤ p) (hn : 0 < n) (h : IsTm p n a r) : tm p n = a ∧ n / p ^ a = r := by
  obtain ⟨h1, h2⟩ := tm_uniq hp (tm_is hp hn) h
  rw [h1] at h2
  exact ⟨h1, h2⟩
theorem tm_zero {p n : Nat} (hp : 2 ≤ p) (hn : 0 < n) (h : ¬p ∣ n) : tm p n = 0 := (tm_of hp hn (a := 0) (r := n) ⟨by simp, h⟩).1
theorem tm_pos {p n : Nat} (hp : 2 ≤ p) (hn : 0 < n) (h : p ∣ n) : 0 < tm p n := by
  rcases Nat.eq_zero_or_pos (tm p n) with e | e
  · have := tm_is hp hn
    rw [e, Nat.pow_zero, Nat.div_one] at this
    exact absurd h this.2
  · exact e
theorem tm_rest {p n : Nat} (hp : 2 ≤ p) (hn : 0 < n) : 0 < n / p ^ tm p n ∧ n / p ^ tm p n ≤ n := by
  refine ⟨?_, Nat.div_le_self _ _⟩
  have := tm_is hp hn
  rcases Nat.eq_zero_or_pos (n / p ^ tm p n) with e | e
  · rw [e] at this; exact absurd (Nat.dvd_zero _) this.2
  · exact e
/-- the parts of a number by the numbers from d on, fuel of them, and what is left -/
noncomputable def pps : Nat → Nat → Nat → List (Nat × Nat) × Nat
  | 0, _, n => ([], n)
  | f + 1, d, n => if n ≤ 1 then ([], n) else
    let r := pps f (d + 1) (n / d ^ tm d n)
    (if 0 < tm d n then (d, tm d n) :: r.1 else r.1, r.2)
theorem pps_one {f d n : Nat} (h : n ≤ 1) : pps f d n = ([], n) := by
  cases f with
  | zero => rfl
  | succ f => rw [pps, if_pos h]
theorem pps_step {f d n : Nat} (h : 1 < n) : pps (f + 1) d n = (if 0 < tm d n then (d, tm d n) :: (pps f (d + 1) (n / d ^ tm d n)).1 else (pps f (d + 1) (n / d ^ tm d n)).1, (pps f (d + 1) (n / d ^ tm d n)).2) := by
  rw [pps, if_neg (by omega)]
theorem pps_len (f d n : Nat) : (pps f d n).1.length ≤ f := by
  induction f generalizing d n with
  | zero => simp [pps]
  | succ f ih =>
    rw [pps]
    split
    · simp
    · have := ih (d + 1) (n / d ^ tm d n)
      dsimp only
      split
      · simp; omega
      · omega
/-- a proper divisor is there exactly if a small one is -/
theorem small_div {v : Nat} (hv : 2 ≤ v) : (∃ d, 2 ≤ d ∧ d < v ∧ v % d = 0) ↔ ∃ d, 2 ≤ d ∧ d * d ≤ v ∧ v % d = 0 := by
  constructor
  · rintro ⟨d, h1, h2, h3⟩
    obtain ⟨e, rfl⟩ := Nat.dvd_of_mod_eq_zero h3
    have he : 2 ≤ e := by
      rcases Nat.lt_or_ge e 2 with h | h
      · have : e = 0 ∨ e = 1 := by omega
        rcases this with rfl | rfl <;> simp at h2
      · exact h
    rcases Nat.le_total d e with h | h
    · exact ⟨d, h1, Nat.mul_le_mul_left d h, h3⟩
    · exact ⟨e, he, Nat.mul_le_mul_right e h, Nat.mul_mod_left _ _⟩
  · rintro ⟨d, h1, h2, h3⟩
    refine ⟨d, h1, ?_, h3⟩
    have := Nat.mul_le_mul_right d h1
    omega
end LM

end
section
open PySem L2 G
local macro_rules | `(tactic| walk_at "lk") => `(tactic| first | exact rfl | exact get_last | exact get_last1 | exact rd_last | exact rd_last1 | exact .inl rd_last | exact .inl rd_last1 | exact set_last | exact .inl rfl | exact .inr rfl | assumption)
local macro_rules | `(tactic| walk_at "ln") => `(tactic| first | (simp only [List.length_nil, List.length_cons, Nat.zero_add, Nat.reduceAdd, List.nil_append, List.cons_append]; exact rfl) | exact rfl)
local macro_rules | `(tactic| walk_at "ls") => `(tactic| first | (simp only [List.set_cons_zero, List.set_cons_succ, List.length_nil, List.length_cons, Nat.zero_add, Nat.reduceAdd, set_last]; exact rfl) | exact set_last | exact set_last1 | exact rfl)
local macro_rules | `(tactic| walk_at "s1") => `(tactic| first
  | with_reducible refine k_seq ?_
  | ((with_reducible apply k_var); · exact rfl)
  | with_reducible refine k_c ?_
  | with_reducible refine k_op ?_
  | with_reducible refine k_asg ?_
  | ((with_reducible apply k_newName); (· walk_at "ln"); (· walk_at "ls"); · walk_at "ln")
  | ((with_reducible apply k_newN); · walk_at "ln")
  | ((with_reducible apply k_name); · walk_at "ls")
  | with_reducible refine k_cons ?_
  | with_reducible refine k_nil ?_
  | with_reducible refine k_next ?_
  | with_reducible refine k_if ?_
  | with_reducible refine k_t ?_
  | with_reducible refine k_tK ?_
  | with_reducible refine k_b ?_
  | with_reducible refine k_bK ?_
  | with_reducible refine k_sc ?_
  | with_reducible refine sc_d ?_
  | with_reducible refine sc_new ?_
  | with_reducible refine k_call ?_
  | ((with_reducible refine k_calln ?_ ?_); · exact rfl)
  | with_reducible refine k_cb ?_
  | with_reducible refine k_ret ?_
  | with_reducible refine k_asC ?_
  | with_reducible refine k_asDs ?_
  | with_reducible refine k_asDs0 ?_
  | with_reducible refine k_asD ?_)
local macro_rules | `(tactic| walk_at "s2") => `(tactic| first
  | with_reducible refine k_add ?_
  | with_reducible refine k_i0 ?_
  | with_reducible refine k_eq ?_
  | with_reducible refine k_eqB ?_
  | with_reducible apply k_mul
  | with_reducible apply k_mulT
  | with_reducible apply k_i
  | with_reducible refine k_neg ?_
  | with_reducible refine k_un ?_
  | with_reducible refine k_tup ?_
  | with_reducible refine k_lst ?_
  | with_reducible refine k_and_size ?_
  | ((with_reducible apply k_len); · walk_at "lk")
  | ((with_reducible apply k_ix); (· walk_at "lk"); · exact rfl)
  | with_reducible refine k_and ?_
  | with_reducible refine k_or ?_
  | with_reducible refine k_not ?_
  | with_reducible refine k_andV ?_
  | with_reducible refine k_andK ?_
  | with_reducible refine k_orV ?_
  | with_reducible refine k_orK ?_
  | with_reducible refine k_notV ?_
  | with_reducible refine k_notK ?_
  | with_reducible refine k_tif ?_
  | with_reducible refine k_it ?_
  | with_reducible refine k_if_ ?_
  | with_reducible apply k_addT
  | ((with_reducible apply k_addL); (· walk_at "lk"); (· walk_at "lk"))
  | ((with_reducible apply k_mulL); (· walk_at "lk"))
  | with_reducible refine k_raw ?_
  | with_reducible refine k_drop ?_
  | with_reducible refine k_app ?_
  | with_reducible refine k_appK ?_
  | ((with_reducible apply k_appK2); (· walk_at "lk"); (· walk_at "ls"))
  | with_reducible refine k_pop ?_
  | with_reducible refine k_par ?_
  | with_reducible refine k_par3 ?_
  | ((with_reducible apply k_aug); · exact rfl)
  | ((with_reducible apply k_augK); · walk_at "ls"))
local macro_rules | `(tactic| walk_at "s3") => `(tactic| first
  | with_reducible refine k_scF ?_
  | with_reducible refine k_orA ?_
  | ((with_reducible apply k_list); (· walk_at "lk"))
  | ((with_reducible apply k_tuple); (· walk_at "lk"))
  | with_reducible refine k_int ?_
  | with_reducible refine k_abs ?_
  | with_reducible refine k_two ?_
  | with_reducible refine k_is ?_
  | with_reducible refine k_isB ?_
  | with_reducible refine k_sl ?_
  | with_reducible refine k_nop ?_
  | with_reducible refine k_part ?_
  | with_reducible refine k_partK ?_
  | with_reducible refine k_slT ?_
  | with_reducible refine k_slD ?_
  | ((with_reducible apply k_slO); (· walk_at "lk"))
  | with_reducible refine k_slS ?_
  | with_reducible refine k_revT ?_
  | ((with_reducible apply k_revL); (· walk_at "lk"))
  | with_reducible refine k_gtup rfl ?_
  | with_reducible refine k_gcons ?_
  | with_reducible refine k_gnil ?_
  | with_reducible refine k_iSeq ?_
  | with_reducible refine k_iRev ?_
  | with_reducible refine k_iEnum ?_
  | with_reducible refine k_seqL ?_
  | with_reducible refine k_seqT ?_
  | with_reducible refine k_rng1 ?_
  | with_reducible apply k_rng1K
  | with_reducible refine k_rng2 ?_
  | with_reducible apply k_rng2K
  | with_reducible refine k_down ?_
  | with_reducible apply k_downK
  | with_reducible refine k_zip ?_
  | with_reducible refine k_zipL ?_
  | with_reducible refine k_zipT ?_
  | with_reducible refine k_zipTL ?_
  | with_reducible refine k_zipLT ?_
  | with_reducible refine k_lc1 ?_
  | with_reducible refine k_lc2 ?_
  | with_reducible refine k_yes ?_
  | with_reducible refine k_isT ?_
  | ((with_reducible apply k_isK); (· exact rfl); · exact ⟨rfl, rfl⟩)
  | ((with_reducible apply k_isi); (· exact rfl); · exact rfl)
  | (with_reducible refine k_callK ?_)
  | with_reducible refine k_retN ?_
  | with_reducible refine k_break ?_
  | with_reducible refine k_cont ?_
  | with_reducible refine k_asCdeal ?_
  | with_reducible refine k_heard ?_
  | with_reducible refine k_try ?_
  | with_reducible refine k_raise ?_
  | ((with_reducible apply k_exH); (· decide); (· exact rfl); (· exact rfl))
  | ((with_reducible apply k_exT); (· decide); (· exact Nat.le_of_ble_eq_true rfl); (· exact rfl))
  | ((with_reducible refine k_exN ?_ ?_ ?_); (· decide); (· decide))
  | ((with_reducible apply k_asCo); (· walk_at "lk"); · walk_at "ls")
  | ((with_reducible apply k_asDo); (· walk_at "lk"); · walk_at "ls")
  | with_reducible refine sc_deal ?_
  | with_reducible refine k_for ?_
  | with_reducible refine k_augS ?_
  | with_reducible refine k_chain ?_
  | with_reducible refine k_chK ?_
  | with_reducible refine k_gsub ?_
  | with_reducible refine k_retD ?_
  | ((with_reducible apply k_bind1); · walk_at "ls")
  | ((with_reducible apply k_bind2); · walk_at "ls"))
local macro_rules | `(tactic| walk_at "sx") => `(tactic| first | walk_at "s1" | walk_at "s2" | walk_at "s3" | ((with_reducible apply k_no); · exact rfl) | ((with_reducible apply k_so); · exact rfl))
local macro_rules | `(tactic| walk_at "st") => `(tactic| repeat (first | walk_at "s1" | walk_at "s2" | walk_at "s3" | ((with_reducible apply k_no); · exact rfl) | ((with_reducible apply k_so); · exact rfl)))
local macro_rules | `(tactic| walk_at "go") => `(tactic| (apply start_at; · (simp only [start2, List.map_cons, List.map_nil, List.length_cons, List.length_nil, List.replicate, List.cons_append, List.nil_append, List.append_nil, Nat.reduceAdd, Nat.reduceSub, Nat.sub_self]; exact rfl)))
set_option maxHeartbeats 2000000
/-! PA: what is a formula; trimmed. -/
namespace LW
open LM
def isI : PyData → Bool
  | .int _ => true
  | _ => false
def isForm : PyData → Bool
  | .tuple xs => decide (xs.length ≤ 61) && xs.all isI
  | _ => false
theorem isI_ints (xs : List Int) : (xs.map PyData.int).all isI = true := by simp [isI]
theorem isForm_ints {xs : List Int} (h : xs.length ≤ 61) : isForm (tI xs) = true := by simp [isForm, h, isI]
def sp_is_integer : Sp2 := fun _ ds Q => ∃ x, ds = [.d x] ∧ Q (.d (.bool (isI x)))
theorem mono_is_integer : MonoSp sp_is_integer := fun _ _ _ _ h ⟨x, e, q⟩ => ⟨x, e, h _ q⟩
theorem len_is_integer : ∀ exf ds Q, sp_is_integer exf ds Q → ds.length = 1 := fun _ _ _ ⟨_, e, _⟩ => by rw [e]; rfl
def t_is_integer : TS2 := (s2Ret (t2AndV (t2CB c2Isi (t2Cons (t2Var 0) (t2Cons (t2Raw (.ty "int")) t2Nil))) (t2NotV (t2CB c2Isi (t2Cons (t2Var 0) (t2Cons (t2Raw (.ty "bool")) t2Nil))))))
theorem isI_two (x : PyData) : isI x = (isTy x "int" && !isTy x "bool") := by cases x <;> rfl
theorem pure_is_integer : Does ["value"] t_is_integer sp_is_integer := by
  refine does_i fun exf ds Q h => ?_
  obtain ⟨x, rfl, q⟩ := h
  rw [isI_two] at q
  walk_at "go"
  unfold t_is_integer
  walk_at "st"
  refine k_bool (fun h => ?_) (fun h => ?_)
  · walk_at "st"
    rw [h] at q; exact q
  · walk_at "st"
    rw [h] at q; exact q
def sp_is_formula : Sp2 := fun _ ds Q => ∃ x, ds = [.d x] ∧ Q (.d (.bool (isForm x)))
theorem mono_is_formula : MonoSp sp_is_formula := fun _ _ _ _ h ⟨x, e, q⟩ => ⟨x, e, h _ q⟩
theorem len_is_formula : ∀ exf ds Q, sp_is_formula exf ds Q → ds.length = 1 := fun _ _ _ ⟨_, e, _⟩ => by rw [e]; rfl
def t_is_formula : TS2 := (s2Ret (t2AndV (t2CB c2Isi (t2Cons (t2Var 0) (t2Cons (t2Raw (.ty "tuple")) t2Nil))) (t2AndV (t2Op (q2I0 fun i j => .bool (decide (i ≤ j))) (t2CB c2Len (t2Cons (t2Var 0) t2Nil)) (t2C (.int 61))) (t2CB (c2All false) (t2Cons (t2Sc (t2Lc1 (i2Seq (t2Var 0)) 1 t2Yes (t2Call sp_is_integer (t2Cons (t2Var 1) t2Nil)))) t2Nil)))))
theorem bools_map {α : Type} (f : α → Bool) (xs : List α) : bools (xs.map fun x => .bool (f x)) = some (xs.map f) := by
  induction xs with
  | nil => rfl
  | cons x xs ih => simp [bools, ih]
theorem pure_is_formula : Does ["value", "one"] t_is_formula sp_is_formula := by
  refine does_i fun exf ds Q h => ?_
  obtain ⟨x, rfl, q⟩ := h
  walk_at "go"
  unfold t_is_formula
  walk_at "st"
  refine k_bool (fun h => ?_) (fun h => ?_)
  · cases x with
    | tuple xs =>
      walk_at "st"
      refine k_dec (fun h => ?_) (fun h => ?_)
      · walk_at "st"
        refine lc_m (fun x => .bool (isI x)) (fun k x hx => ?_) bind1_mono ?_
        · walk_at "st"
          refine ⟨_, rfl, ?_⟩
          walk_at "st"
          exact lc_fin hx (by omega) rfl rfl
        · walk_at "st"
          refine k_all rfl (bools_map _ _) ?_
          walk_at "st"
          have e : isForm (.tuple xs) = (if (false : Bool) = true then (xs.map isI).any id else (xs.map isI).all id) := by
            simp [isForm, show xs.length ≤ 61 by omega]
          rw [← e]; exact q
      · walk_at "st"
        have e : isForm (.tuple xs) = false := by simp [isForm, show ¬ xs.length ≤ 61 by omega]
        rw [← e]; exact q
    | _ => cases h
  · walk_at "st"
    have e : isForm x = false := by cases x <;> first | rfl | cases h
    rw [← e]; exact q
def sp0_checked_formulas : Sp2 := fun _ ds Q => ∃ ys, ds = [.d (.tuple ys)] ∧ (∀ y ∈ ys, isForm y = true) ∧ Q (.d .none)
theorem mono0_checked_formulas : MonoSp sp0_checked_formulas := fun _ _ _ _ h ⟨x, e, f, q⟩ => ⟨x, e, f, h _ q⟩
abbrev sp_checked_formulas : Sp2 := spStar sp0_checked_formulas
theorem mono_checked_formulas : MonoSp sp_checked_formulas := fun _ _ _ _ h ⟨x, e, f, q⟩ => ⟨x, e, f, mono0_checked_formulas _ _ _ _ h q⟩
def t_checked_formulas : TS2 := (s2For (i2Enum (t2Var 0)) (g2Tup 2 (g2Cons (g2Name 1) (g2Cons (g2Name 2) g2Nil))) (s2If (t2Not (t2T (t2Call sp_is_formula (t2Cons (t2Var 2) t2Nil)))) s2Never s2Next))
theorem pure_checked_formulas : Does ["formulas", "at", "formula"] t_checked_formulas sp0_checked_formulas := by
  refine does_i fun exf ds Q h => ?_
  obtain ⟨ys, rfl, hf, q⟩ := h
  walk_at "go"
  unfold t_checked_formulas
  walk_at "st"
  refine for_ii (fun k st => ∃ a b, st = ⟨[some (.d (.tuple ys)), a, b], []⟩) ⟨_, _, rfl⟩ (fun i x st' hx hI => ?_) (fun st' hI => ?_)
  · obtain ⟨a, b, rfl⟩ := hI
    obtain ⟨y, hy, rfl⟩ := enum_get hx
    walk_at "st"
    refine ⟨_, rfl, ?_⟩
    rw [hf y (List.mem_of_getElem? hy)]
    walk_at "st"
    exact ⟨_, _, rfl⟩
  · exact q
def sp_trimmed : Sp2 := fun _ ds Q => ∃ y xs, ds = [.d y] ∧ rowOf y xs ∧ xs.length < 16777216 ∧ Q (.d (tI (tr xs)))
theorem mono_trimmed : MonoSp sp_trimmed := fun _ _ _ _ h ⟨x, y, e, f, g, q⟩ => ⟨x, y, e, f, g, h _ q⟩
theorem len_trimmed : ∀ exf ds Q, sp_trimmed exf ds Q → ds.length = 1 := fun _ _ _ ⟨_, _, e, _⟩ => by rw [e]; rfl
theorem tr_snoc (xs : List Int) (a : Int) : tr (xs ++ [a]) = if a = 0 then tr xs else xs ++ [a] := by
  induction xs with
  | nil => by_cases h : a = 0 <;> simp [tr, h]
  | cons x xs ih =>
    simp only [List.cons_append, tr, ih]
    by_cases h : a = 0 <;> simp [h]
def t_trimmed : TS2 := (s2Seq (s2Asg (t2CB c2Len (t2Cons (t2Var 0) t2Nil)) (g2Name 1))
  (s2Seq (s2While (t2And (t2B (t2Op (q2I0 fun i j => .bool (decide (j < i))) (t2Var 1) (t2C (.int 0)))) (t2B (t2Op (q2Eq false) (t2Op q2Ix (t2Var 0) (t2Op (q2I0 fun i j => .int (i - j)) (t2Var 1) (t2C (.int 1)))) (t2C (.int 0))))) (s2Aug 1 (fun i j => i - j) (t2C (.int 1))))
  (s2Ret (t2CB c2Tuple (t2Cons (t2Sc (t2Sl (t2Var 0) t2NoP (t2Part (t2Var 1)))) t2Nil)))))
theorem pure_trimmed : Does ["row", "end"] t_trimmed sp_trimmed := by
  refine does_i fun exf ds Q h => ?_
  obtain ⟨y, xs, rfl, hy, hl, q⟩ := h
  have hr : ∀ st : S, rd st (.d y) = some (lI xs) ∨ rd st (.d y) = some (tI xs) := fun st => by
    rcases hy with rfl | rfl
    · exact .inr rfl
    · exact .inl rfl
  walk_at "go"
  unfold t_trimmed
  walk_at "st"
  refine k_len (hr _) ?_
  walk_at "st"
  refine while_i (fun m st => ∃ pre, xs.take m = pre ∧ m ≤ xs.length ∧ tr xs = tr pre ∧ st = ⟨[some (.d y), some (.d (.int (m : Int)))], []⟩) xs.length ⟨xs, List.take_length, Nat.le_refl _, rfl, by rw [List.length_map]⟩ (fun m st' hI => ?_)
  obtain ⟨pre, hp, hm, ht, rfl⟩ := hI
  walk_at "st"
  refine k_dec (fun h => ?_) (fun h => ?_)
  · walk_at "st"
    have hlt : m - 1 < xs.length := by omega
    refine k_ixI (hr _) (atI_at (j := m - 1) (by omega) hlt) ?_
    walk_at "st"
    have hsn : xs.take m = xs.take (m - 1) ++ [xs[m - 1]] := by
      have := List.take_append_getElem hlt
      rw [this]; congr 1; omega
    refine k_decf (fun h0 => ?_) (fun h0 => ?_)
    · walk_at "st"
      refine ⟨m - 1, by omega, _, rfl, by omega, ?_, ?_⟩
      · rw [ht, ← hp, hsn, tr_snoc, if_pos h0]
      · have : (m : Int) - 1 = ((m - 1 : Nat) : Int) := by omega
        rw [this]
    · have hpre : tr xs = xs.take m := by rw [ht, ← hp, hsn, tr_snoc, if_neg h0]
      rw [hpre] at q
      rcases hy with rfl | rfl <;> walk_at "st" <;> (try refine k_tuple (.inl rfl) ?_) <;> (try walk_at "st")
      all_goals
        rw [cut_pre _ (by rw [List.length_map]; omega), ← List.map_take]; exact q
  · have hm0 : m = 0 := by omega
    subst hm0
    have hpre : tr xs = xs.take 0 := by rw [ht, ← hp]; rfl
    rw [hpre] at q
    walk_at "st"
    rcases hy with rfl | rfl <;> walk_at "st" <;> (try refine k_tuple (.inl rfl) ?_) <;> (try walk_at "st")
    all_goals
      rw [cut_pre _ (by rw [List.length_map]; omega), ← List.map_take]; exact q
end LW

set_option maxHeartbeats 2000000
/-! PB: sums and products of rows. -/
namespace LW
open LM
def sp_row_sum : Sp2 := fun _ ds Q => ∃ y1 xs y2 ys n, ds = [.d y1, .d y2, .d (.int n)] ∧ rowOf y1 xs ∧ rowOf y2 ys ∧ xs.length < 4194304 ∧ ys.length < 4194304 ∧ (∀ y ∈ ys, CMulW n y) ∧ Q (.d (tI (tr (radd xs ys n))))
theorem mono_row_sum : MonoSp sp_row_sum := fun _ _ _ _ h ⟨a, b, c, d, e, f, g, i, j, k, l, q⟩ => ⟨a, b, c, d, e, f, g, i, j, k, l, h _ q⟩
theorem len_row_sum : ∀ exf ds Q, sp_row_sum exf ds Q → ds.length = 3 := fun _ _ _ ⟨_, _, _, _, _, e, _⟩ => by rw [e]; rfl
def t_row_sum : TS2 := (s2Seq (s2Asg (t2Op q2Add (t2Sc (t2CB c2List (t2Cons (t2Var 0) t2Nil))) (t2Sc (t2Op q2Mul (t2Sc (t2Lst (t2Cons (t2C (.int 0)) t2Nil))) (t2CB (c2Two fun i j => if j > i then j else i) (t2Cons (t2C (.int 0)) (t2Cons (t2Op (q2I0 fun i j => .int (i - j)) (t2CB c2Len (t2Cons (t2Var 1) t2Nil)) (t2CB c2Len (t2Cons (t2Var 0) t2Nil))) t2Nil)))))) (g2Name 3))
  (s2Seq (s2For (i2Enum (t2Var 1)) (g2Tup 2 (g2Cons (g2Name 4) (g2Cons (g2Name 5) g2Nil))) (s2AugS (fun i j => i + j) (t2Var 3) (t2Var 4) (t2Op q2Mul (t2Var 2) (t2Var 5))))
  (s2Ret (t2Call sp_trimmed (t2Cons (t2Var 3) t2Nil)))))
theorem map_app (xs ys : List Int) : xs.map PyData.int ++ ys.map PyData.int = (xs ++ ys).map PyData.int := by rw [List.map_append]
theorem pure_row_sum : Does ["one", "other", "number", "found", "at", "entry"] t_row_sum sp_row_sum := by
  refine does_i fun exf ds Q h => ?_
  obtain ⟨y1, xs, y2, ys, n, rfl, h1, h2, hx, hy, hc, q⟩ := h
  walk_at "go"
  unfold t_row_sum
  walk_at "st"
  refine k_list (rowOf_rd h1 _) ?_
  walk_at "st"
  refine k_len (rowOf_rd h2 _) ?_
  walk_at "st"
  refine k_len (rowOf_rd h1 _) ?_
  walk_at "st"
  case h.h.h.hz => rw [zeros]; simp only [List.length_map, List.length_replicate]; exact sz (by split <;> omega)
  case h.h.hz => simp only [List.length_map, List.length_cons, List.length_nil]; exact ⟨by split <;> omega, by split <;> omega, sz (by split <;> omega)⟩
  refine seqK_row h2 ?_
  rw [zeros, map_app]
  refine for_ii (fun k st => ∃ F a b, st = ⟨[some (.d y1), some (.d y2), some (.d (.int n)), some (.o 0), a, b], [⟨F.map PyData.int, true⟩]⟩ ∧ F.length = max xs.length ys.length ∧ ∀ j, co F j = co xs j + (if j < k then n * co ys j else 0))
    ⟨_, _, _, rfl, ?_, fun j => ?_⟩ (fun i x st' hx' hI => ?_) (fun st' hI => ?_)
  · simp only [List.length_append, List.length_replicate, List.length_map]; split <;> omega
  · rw [co_app, if_neg (Nat.not_lt_zero j), Int.add_zero]
    split
    · rfl
    · rw [co_zeros, co_ge (by omega)]
  · obtain ⟨F, a, b, rfl, hF, hco⟩ := hI
    obtain ⟨hi, rfl⟩ := enum_int hx'
    have hiF : i < F.length := by omega
    walk_at "st"
    refine k_augS2 (j := i) rfl rfl hiF ?_
    walk_at "st"
    case hc => exact hc _ (List.getElem_mem hi)
    refine k_augS3 (j := i) rfl rfl hiF rfl ?_
    refine ⟨_, _, _, rfl, by rw [List.length_set]; exact hF, fun j => ?_⟩
    rw [co_set hiF]
    by_cases e : i = j
    · subst e
      rw [if_pos rfl, if_pos (Nat.lt_succ_self i), ← co_lt hiF, hco, if_neg (Nat.lt_irrefl i), Int.add_zero, co_lt hi]
    · rw [if_neg e, hco]
      by_cases e2 : j < i
      · rw [if_pos e2, if_pos (by omega)]
      · rw [if_neg e2, if_neg (by omega)]
  · obtain ⟨F, a, b, rfl, hF, hco⟩ := hI
    rw [enum_len, List.length_map] at hco
    have ht : tr F = tr (radd xs ys n) := tr_ext fun j => by
      rw [hco, co_radd]
      split
      · rfl
      · rw [co_ge (r := ys) (by omega), Int.mul_zero]
    walk_at "st"
    refine k_callo rfl ?_
    refine ⟨_, F, rfl, .inr rfl, by omega, ?_⟩
    walk_at "st"
    rw [ht]; exact q
def sp_row_product : Sp2 := fun _ ds Q => ∃ y1 xs y2 ys, ds = [.d y1, .d y2] ∧ rowOf y1 xs ∧ rowOf y2 ys ∧ xs.length < 4194304 ∧ ys.length < 4194304 ∧ (∀ x ∈ xs, ∀ y ∈ ys, CMulW x y) ∧ Q (.d (tI (tr (rm xs ys))))
theorem mono_row_product : MonoSp sp_row_product := fun _ _ _ _ h ⟨a, b, c, d, e, f, g, i, j, k, q⟩ => ⟨a, b, c, d, e, f, g, i, j, k, h _ q⟩
theorem len_row_product : ∀ exf ds Q, sp_row_product exf ds Q → ds.length = 2 := fun _ _ _ ⟨_, _, _, _, e, _⟩ => by rw [e]; rfl
def t_row_product : TS2 := (s2Seq (s2If (t2Or (t2B (t2Op (q2Eq false) (t2Call sp_trimmed (t2Cons (t2Var 0) t2Nil)) (t2Tup t2Nil))) (t2B (t2Op (q2Eq false) (t2Call sp_trimmed (t2Cons (t2Var 1) t2Nil)) (t2Tup t2Nil)))) (s2Ret (t2Tup t2Nil)) s2Next)
  (s2Seq (s2Asg (t2Op q2Mul (t2Sc (t2Lst (t2Cons (t2C (.int 0)) t2Nil))) (t2Op (q2I0 fun i j => .int (i - j)) (t2Op q2Add (t2CB c2Len (t2Cons (t2Var 0) t2Nil)) (t2CB c2Len (t2Cons (t2Var 1) t2Nil))) (t2C (.int 1)))) (g2Name 2))
  (s2Seq (s2For (i2Enum (t2Var 0)) (g2Tup 2 (g2Cons (g2Name 3) (g2Cons (g2Name 4) g2Nil))) (s2If (t2B (t2Op (q2Eq true) (t2Var 4) (t2C (.int 0)))) (s2For (i2Enum (t2Var 1)) (g2Tup 2 (g2Cons (g2Name 5) (g2Cons (g2Name 6) g2Nil))) (s2AugS (fun i j => i + j) (t2Var 2) (t2Op q2Add (t2Var 3) (t2Var 5)) (t2Op q2Mul (t2Var 4) (t2Var 6)))) s2Next))
  (s2Ret (t2Call sp_trimmed (t2Cons (t2Var 2) t2Nil))))))
theorem eqv_tI_nil (zs : List Int) : PyData.eqv (tI zs) (.tuple []) = decide (zs = []) := eqv_tints zs []
theorem pure_row_product : Does ["one", "other", "found", "at", "a", "place", "b"] t_row_product sp_row_product := by
  refine does_i fun exf ds Q h => ?_
  obtain ⟨y1, xs, y2, ys, rfl, h1, h2, hx, hy, hc, q⟩ := h
  walk_at "go"
  unfold t_row_product
  walk_at "st"
  refine ⟨_, _, rfl, h1, by omega, ?_⟩
  walk_at "st"
  refine k_eqD rfl rfl ?_ ⟨shaped_tints _, shaped_tnil⟩
  rw [eqv_tI_nil]
  walk_at "st"
  refine k_decf (fun e1 => ?_) (fun e1 => ?_)
  · rw [rm_nil (.inl e1)] at q
    walk_at "st"
    exact q
  walk_at "st"
  refine ⟨_, _, rfl, h2, by omega, ?_⟩
  walk_at "st"
  refine k_eqD rfl rfl ?_ ⟨shaped_tints _, shaped_tnil⟩
  rw [eqv_tI_nil]
  walk_at "st"
  refine k_decf (fun e2 => ?_) (fun e2 => ?_)
  · rw [rm_nil (.inr e2)] at q
    walk_at "st"
    exact q
  walk_at "st"
  refine k_len (rowOf_rd h1 _) ?_
  walk_at "st"
  refine k_len (rowOf_rd h2 _) ?_
  walk_at "st"
  have hx0 : 0 < xs.length := by
    cases xs with
    | nil => exact absurd rfl e1
    | cons => simp
  have hy0 : 0 < ys.length := by
    cases ys with
    | nil => exact absurd rfl e2
    | cons => simp
  case hz => simp only [List.length_map, List.length_cons, List.length_nil]; exact ⟨by omega, by omega, sz (by omega)⟩
  refine seqK_row h1 ?_
  rw [zeros, List.length_map, List.length_map]
  generalize hN : ((xs.length : Int) + (ys.length : Int) - 1).toNat = N
  refine for_ii (fun k st => ∃ F a b c d, st = ⟨[some (.d y1), some (.d y2), some (.o 0), a, b, c, d], [⟨F.map PyData.int, true⟩]⟩ ∧ F.length = N ∧ ∀ x, ev F x = ev (xs.take k) x * ev ys x)
    ⟨_, _, _, _, _, rfl, List.length_replicate, fun x => by rw [ev_zeros]; simp [ev]⟩ (fun i x st' hx' hI => ?_) (fun st' hI => ?_)
  · obtain ⟨F, a, b, c, d, rfl, hF, hev⟩ := hI
    obtain ⟨hi, rfl⟩ := enum_int hx'
    walk_at "st"
    refine k_dect (fun h0 => ?_) (fun h0 => ?_)
    · walk_at "st"
      refine ⟨_, _, _, _, _, rfl, hF, fun x => ?_⟩
      rw [ev_take hi, hev, h0]; simp
    · walk_at "st"
      refine seqK_row h2 ?_
      refine for_ii (fun k st => ∃ F c d, st = ⟨[some (.d y1), some (.d y2), some (.o 0), some (.d (.int (i : Int))), some (.d (.int xs[i])), c, d], [⟨F.map PyData.int, true⟩]⟩ ∧ F.length = N ∧ ∀ x, ev F x = ev (xs.take i) x * ev ys x + xs[i] * x ^ i * ev (ys.take k) x)
        ⟨_, _, _, rfl, hF, fun x => by rw [hev]; simp [ev]⟩ (fun p x st' hx' hI => ?_) (fun st' hI => ?_)
      · obtain ⟨F, c, d, rfl, hF, hev⟩ := hI
        obtain ⟨hp, rfl⟩ := enum_int hx'
        have hiF : i + p < F.length := by omega
        walk_at "st"
        refine k_augS2 (j := i + p) rfl (by omega) hiF ?_
        walk_at "st"
        case hc => exact hc _ (List.getElem_mem hi) _ (List.getElem_mem hp)
        refine k_augS3 (j := i + p) rfl (by omega) hiF rfl ?_
        refine ⟨_, _, _, rfl, by rw [List.length_set]; exact hF, fun x => ?_⟩
        rw [ev_set hiF, hev, ev_take hp, Int.pow_add]; grind
      · obtain ⟨F, c, d, rfl, hF, hev⟩ := hI
        refine ⟨F, _, _, _, _, rfl, hF, fun x => ?_⟩
        rw [enum_len, List.length_map, List.take_length] at hev
        rw [hev, ev_take hi]; grind
  · obtain ⟨F, a, b, c, d, rfl, hF, hev⟩ := hI
    rw [enum_len, List.length_map, List.take_length] at hev
    have ht : tr F = tr (rm xs ys) := ev_inj (B := 0) fun x _ => by rw [hev, ev_rm]
    walk_at "st"
    refine k_callo rfl ?_
    refine ⟨_, F, rfl, .inr rfl, by omega, ?_⟩
    walk_at "st"
    rw [ht]; exact q
end LW

set_option maxHeartbeats 2000000
/-! PC: steps. -/
namespace LW
open LM
theorem nm_lt {xs : List Int} {B : Nat} (h : nm xs < 2 ^ B) {a : Int} (ha : a ∈ xs) : a.natAbs < 2 ^ B := Nat.lt_of_le_of_lt (nm_mem ha) h
theorem ints_cons (a : Int) (xs : List Int) : [PyData.int a] ++ xs.map PyData.int = (a :: xs).map PyData.int := rfl
/-- steps_of: up to 64 places -/
def sp_steps_of : Sp2 := fun _ ds Q => ∃ y xs B, ds = [.d y] ∧ rowOf y xs ∧ xs.length ≤ 64 ∧ nm xs < 2 ^ B ∧ B ≤ 900000 ∧ Q (.d (tI (stp xs)))
theorem mono_steps_of : MonoSp sp_steps_of := fun _ _ _ _ h ⟨a, b, c, d, e, f, g, i, q⟩ => ⟨a, b, c, d, e, f, g, i, h _ q⟩
theorem len_steps_of : ∀ exf ds Q, sp_steps_of exf ds Q → ds.length = 1 := fun _ _ _ ⟨_, _, _, e, _⟩ => by rw [e]; rfl
def t_steps_of : TS2 := (s2Seq (s2Par 1 2 (t2Sc (t2CB c2List (t2Cons (t2Call sp_trimmed (t2Cons (t2Var 0) t2Nil)) t2Nil))) (t2Lst t2Nil))
  (s2Seq (s2Asg (t2C (.int 0)) (g2Name 3))
  (s2Seq (s2While (t2B (t2Op (q2Eq true) (t2Var 1) (t2Sc (t2Lst t2Nil)))) (s2Seq (s2Asg (t2Op q2Ix (t2Var 1) (t2Un q1Neg (t2C (.int 1)))) (g2Name 4))
  (s2Seq (s2Asg (t2Lst (t2Cons (t2Var 4) t2Nil)) (g2Name 5))
  (s2Seq (s2For (i2Rev (t2Sc (t2Sl (t2Var 1) t2NoP (t2Part (t2Un q1Neg (t2C (.int 1))))))) (g2Name 6) (s2Seq (s2Asg (t2Op q2Add (t2Op q2Mul (t2Var 4) (t2Var 3)) (t2Var 6)) (g2Name 4))
  (s2Drop (t2App (t2Var 5) (t2Var 4)))))
  (s2Seq (s2Drop (t2App (t2Var 2) (t2Pop (t2Var 5))))
  (s2Seq (s2Asg (t2Sc (t2Un q2Rev (t2Var 5))) (g2Name 1))
  (s2Aug 3 (fun i j => i + j) (t2C (.int 1)))))))))
  (s2Ret (t2Call sp_trimmed (t2Cons (t2Var 2) t2Nil))))))
theorem getLast_map_int {L : List Int} (h : L ≠ []) : atI (L.map PyData.int) (-1) = some (.int (L.getLast h)) := by rw [atI_map, atI_end h]; rfl
theorem drop_pre {L : List Int} {i : Nat} (h : i < L.length) : L.drop i = L[i] :: L.drop (i + 1) := List.drop_eq_getElem_cons h
theorem pure_steps_of : Does ["row", "left", "found", "at", "rest", "often", "one"] t_steps_of sp_steps_of := by
  refine does_i fun exf ds Q h => ?_
  obtain ⟨y, xs, B, rfl, h1, hl, hB, hB2, q⟩ := h
  walk_at "go"
  unfold t_steps_of
  walk_at "st"
  refine ⟨_, _, rfl, h1, by omega, ?_⟩
  walk_at "st"
  have hlt := tr_len xs
  -- at k: found holds k entries, left the rest
  have hpw : ∀ j : Nat, j ≤ 64 → nm xs * 64 ^ (64 * j) < 2 ^ (B + 24576) := fun j hj => by
    rw [Nat.pow_add]
    refine Nat.mul_lt_mul_of_lt_of_le hB ?_ (Nat.pow_pos (by decide))
    have : (64 : Nat) = 2 ^ 6 := rfl
    rw [this, ← Nat.pow_mul]
    exact Nat.pow_le_pow_right (by decide) (by omega)
  refine while_i (fun m st => ∃ L fo junk a b c, ∃ k : Nat, st = ⟨[some (.d y), some (.d (lI L)), some (.o 0), some (.d (.int (k : Int))), a, b, c], ⟨fo.map PyData.int, true⟩ :: junk⟩ ∧ L.length = m ∧ k + m ≤ 64 ∧ fo.length = k ∧ nm L ≤ nm xs * 64 ^ (64 * k) ∧ fo ++ sts m k L = stp xs) (tr xs).length
    ⟨tr xs, [], [], _, _, _, 0, rfl, rfl, by omega, rfl, by simpa using nm_tr xs, rfl⟩ (fun m st' hI => ?_)
  obtain ⟨L, fo, junk, a, b, c, k, rfl, hL, hk, hfo, hn, hs⟩ := hI
  walk_at "st"
  refine k_eqD rfl rfl ?_ ⟨shaped_lints _, shaped_lnil⟩
  rw [show PyData.eqv (lI L) (.list []) = decide (L = []) from eqv_lints L []]
  walk_at "st"
  refine k_dect (fun h0 => ?_) (fun h0 => ?_)
  · subst h0
    have hm : m = 0 := hL.symm
    subst hm
    rw [sts, List.append_nil] at hs
    walk_at "st"
    refine k_callo rfl ?_
    refine ⟨_, fo, rfl, .inr rfl, by omega, ?_⟩
    walk_at "st"
    rw [hs, stp_tr]; exact q
  · have hpos : 0 < L.length := List.length_pos_iff.mpr h0
    walk_at "st"
    refine k_ixD (.inl rfl) (getLast_map_int h0) ?_
    walk_at "st"
    rw [cut_last, ← List.map_dropLast]
    have hS : nm (syn k L) ≤ nm xs * 64 ^ (64 * (k + 1)) := by
      refine Nat.le_trans (nm_syn k L) ?_
      rw [Nat.mul_add, Nat.pow_add, ← Nat.mul_assoc]
      refine Nat.mul_le_mul hn ?_
      refine Nat.le_trans (Nat.pow_le_pow_left (show (k : Int).natAbs + 1 ≤ 64 by omega) _) (Nat.pow_le_pow_right (by decide) (by omega))
    have hbig := Nat.lt_of_le_of_lt hS (hpw (k + 1) (by omega))
    have hlast : [PyData.int (L.getLast h0)] = ((syn k L).drop (L.length - 1)).reverse.map PyData.int ∧ L.getLast h0 = ((syn k L).drop (L.length - 1)).headD 0 := by
      have e : L.drop (L.length - 1) = [L.getLast h0] := by
        rw [drop_pre (show L.length - 1 < L.length by omega), List.getLast_eq_getElem, show L.length - 1 + 1 = L.length by omega, List.drop_length]
      rw [syn_drop, e]
      simp [syn]
    rw [hlast.1]
    obtain ⟨v, hv⟩ : ∃ v, v = L.getLast h0 := ⟨_, rfl⟩
    rw [← hv]
    rw [← hv] at hlast
    refine for_ii (fun p st => ∃ d, st = ⟨[some (.d y), some (.d (lI L)), some (.o 0), some (.d (.int (k : Int))), some (.d (.int (((syn k L).drop (L.length - 1 - p)).headD 0))), some (.o (junk.length + 1)), d], ⟨fo.map PyData.int, true⟩ :: (junk ++ [⟨((syn k L).drop (L.length - 1 - p)).reverse.map PyData.int, true⟩])⟩)
      ⟨_, by rw [hlast.2]; rfl⟩ (fun p x st' hx hI => ?_) (fun st' hI => ?_)
    · obtain ⟨d, rfl⟩ := hI
      obtain ⟨hp0, rfl⟩ := rev_int hx
      have hp : p < L.length - 1 := by simpa only [List.length_dropLast] using hp0
      have hsy : (syn k L).drop (L.length - 1 - (p + 1)) = (((syn k L).drop (L.length - 1 - p)).headD 0 * k + L.dropLast[L.dropLast.length - 1 - p]) :: (syn k L).drop (L.length - 1 - p) := by
        rw [syn_drop, syn_drop]
        have hlt' : L.length - 1 - (p + 1) < L.length := by omega
        rw [drop_pre hlt', show L.length - 1 - (p + 1) + 1 = L.length - 1 - p by omega, syn]
        congr 2
        rw [List.getElem_dropLast]
        congr 1
        simp only [List.length_dropLast]; omega
      have hA : (((syn k L).drop (L.length - 1 - p)).headD 0).natAbs < 2 ^ (B + 24576) := Nat.lt_of_le_of_lt (Nat.le_trans (nm_head _) (nm_drop _ _)) hbig
      walk_at "st"
      case hc => exact cmul (q := 6) hA (by omega) (by omega)
      case hz => 
        refine szl ?_
        simp only [List.length_map, List.length_reverse, List.length_drop, syn_len]; omega
      refine ⟨some (.d (.int (L.dropLast[L.dropLast.length - 1 - p]'(by omega)))), ?_⟩
      rw [hsy]
      simp only [List.headD_cons, List.reverse_cons, List.map_append, List.map_cons, List.map_nil]
    · obtain ⟨d, rfl⟩ := hI
      have hz0 : L.length - 1 - (List.map PyData.int L.dropLast).reverse.length = 0 := by simp
      rw [hz0, List.drop_zero]
      obtain ⟨hd, tl, hst⟩ : ∃ hd tl, syn k L = hd :: tl := by
        cases e : syn k L with
        | nil =>
          have := syn_len k L
          rw [e] at this
          simp at this; omega
        | cons a q => exact ⟨a, q, rfl⟩
      rw [hst]
      simp only [List.headD_cons]
      walk_at "st"
      refine k_popK get_last1 (show List.map PyData.int (hd :: tl).reverse = tl.reverse.map PyData.int ++ [.int hd] by simp) set_last1 ?_
      walk_at "st"
      case hz => refine szl ?_; rw [List.length_map]; omega
      rw [← List.map_reverse, List.reverse_reverse]
      have htl : tl.length = m - 1 := by
        have := syn_len k L
        rw [hst] at this
        simp only [List.length_cons] at this; omega
      have hm1 : m = (m - 1) + 1 := by omega
      refine ⟨m - 1, by omega, tl, fo ++ [hd], junk ++ [⟨tl.reverse.map PyData.int, true⟩], some (.d (.int hd)), some (.o (junk.length + 1)), d, k + 1, ?_, htl, by omega, by simp [hfo], ?_, ?_⟩
      · rw [List.map_append]; rfl
      · refine Nat.le_trans ?_ hS
        rw [hst]; exact nm_tail (hd :: tl)
      · rw [← hs]
        conv => rhs; rw [hm1, sts, hst]
        simp
def sp_step_row : Sp2 := fun _ ds Q => ∃ xs B, ds = [.d (tI xs)] ∧ xs.length ≤ 61 ∧ nm xs < 2 ^ B ∧ B ≤ 900000 ∧ Q (.d (tI (stp xs)))
theorem mono_step_row : MonoSp sp_step_row := fun _ _ _ _ h ⟨a, c, d, e, f, g, q⟩ => ⟨a, c, d, e, f, g, h _ q⟩
theorem len_step_row : ∀ exf ds Q, sp_step_row exf ds Q → ds.length = 1 := fun _ _ _ ⟨_, _, e, _⟩ => by rw [e]; rfl
def t_step_row : TS2 := (s2Seq (s2Drop (t2Call sp_checked_formulas (t2Cons (t2Var 0) t2Nil)))
  (s2Ret (t2Call sp_steps_of (t2Cons (t2Var 0) t2Nil))))
theorem checked1 {exf : EXF} {xs : List Int} {Q : DV → Prop} (h : xs.length ≤ 61) (q : Q (.d .none)) : sp_checked_formulas exf [.d (tI xs)] Q := by
  refine ⟨[tI xs], rfl, sz (by simp), _, rfl, fun y hy => ?_, q⟩
  rw [List.mem_singleton.mp hy]; exact isForm_ints h
theorem pure_step_row : Does ["formula"] t_step_row sp_step_row := by
  refine does_i fun exf ds Q h => ?_
  obtain ⟨xs, B, rfl, hl, hB, hB2, q⟩ := h
  walk_at "go"
  unfold t_step_row
  walk_at "st"
  refine checked1 hl ?_
  walk_at "st"
  refine ⟨_, xs, B, rfl, .inl rfl, by omega, hB, hB2, ?_⟩
  walk_at "st"
  exact q
end LW

set_option maxHeartbeats 2000000
/-! PD: formulas of entries for steps, moved ones, told values. -/
namespace LW
open LM
theorem pow_bound {n C L B : Nat} {x : Int} (hn : n < 2 ^ B) (hx : x.natAbs < 2 ^ C) (l : Nat) (hl : l ≤ L) : n * (x.natAbs + 1) ^ l < 2 ^ (B + C * L) := by
  rw [Nat.pow_add, Nat.pow_mul]
  refine Nat.mul_lt_mul_of_lt_of_le hn ?_ (Nat.pow_pos (Nat.pow_pos (by decide)))
  exact Nat.le_trans (Nat.pow_le_pow_left hx l) (Nat.pow_le_pow_right (Nat.pow_pos (by decide)) hl)
theorem one_small : (1 : Int).natAbs < 2 ^ 1 := by decide
def sp_row_of_steps : Sp2 := fun _ ds Q => ∃ y ss B, ds = [.d y] ∧ rowOf y ss ∧ ss.length ≤ 64 ∧ nm ss < 2 ^ B ∧ B ≤ 900000 ∧ Q (.d (tI (rs 0 ss)))
theorem mono_row_of_steps : MonoSp sp_row_of_steps := fun _ _ _ _ h ⟨a, b, c, d, e, f, g, i, q⟩ => ⟨a, b, c, d, e, f, g, i, h _ q⟩
theorem len_row_of_steps : ∀ exf ds Q, sp_row_of_steps exf ds Q → ds.length = 1 := fun _ _ _ ⟨_, _, _, e, _⟩ => by rw [e]; rfl
def t_row_of_steps : TS2 := (s2Seq (s2Asg (t2Tup t2Nil) (g2Name 1))
  (s2Seq (s2For (i2Down (t2Op (q2I0 fun i j => .int (i - j)) (t2CB c2Len (t2Cons (t2Var 0) t2Nil)) (t2C (.int 1))) (t2Un q1Neg (t2C (.int 1)))) (g2Name 2) (s2Asg (t2Call sp_row_sum (t2Cons (t2Call sp_row_product (t2Cons (t2Var 1) (t2Cons (t2Tup (t2Cons (t2Un q1Neg (t2Var 2)) (t2Cons (t2C (.int 1)) t2Nil))) t2Nil))) (t2Cons (t2Tup (t2Cons (t2Op q2Ix (t2Var 0) (t2Var 2)) t2Nil)) (t2Cons (t2C (.int 1)) t2Nil)))) (g2Name 1)))
  (s2Ret (t2Var 1))))
theorem mem2 {a x : Int} {P : Int → Prop} (h : x ∈ [a, 1]) (ha : P a) (h1 : P 1) : P x := by
  simp only [List.mem_cons, List.not_mem_nil, or_false] at h
  rcases h with rfl | rfl
  · exact ha
  · exact h1
theorem pure_row_of_steps : Does ["steps", "found", "at"] t_row_of_steps sp_row_of_steps := by
  refine does_i fun exf ds Q h => ?_
  obtain ⟨y, ss, B, rfl, h1, hl, hB, hB2, q⟩ := h
  walk_at "go"
  unfold t_row_of_steps
  walk_at "st"
  refine k_len (rowOf_rd h1 _) ?_
  rw [List.length_map]
  walk_at "st"
  case hz => omega
  rw [show ((ss.length : Int) - 1 - -1).toNat = ss.length by omega]
  refine for_ii (fun k st => ∃ a, st = ⟨[some (.d y), some (.d (tI (rs ((ss.length - k : Nat) : Int) (ss.drop (ss.length - k))))), a], []⟩) ⟨_, by rw [Nat.sub_zero, List.drop_length]; rfl⟩ (fun i x st' hx hI => ?_) (fun st' hI => ?_)
  · obtain ⟨a, rfl⟩ := hI
    obtain ⟨hi, rfl⟩ := down_get hx
    have hj : ss.length - (i + 1) < ss.length := by omega
    have e1 : ss.drop (ss.length - (i + 1)) = ss[ss.length - (i + 1)] :: ss.drop (ss.length - i) := by
      rw [drop_pre hj]; congr 2; omega
    have e2 : (ss.length : Int) - 1 - (i : Int) = ((ss.length - (i + 1) : Nat) : Int) := by omega
    have e3 : ((ss.length - i : Nat) : Int) = ((ss.length - (i + 1) : Nat) : Int) + 1 := by omega
    have hnm : nm (rs ((ss.length - i : Nat) : Int) (ss.drop (ss.length - i))) < 2 ^ (B + 6 * 64) := by
      have h2 := rs_nm (k := ((ss.length - i : Nat) : Int)) (r := ss.drop (ss.length - i)) (M := 64) (by omega) (by rw [List.length_drop]; omega)
      refine Nat.lt_of_le_of_lt (Nat.le_trans h2 (Nat.mul_le_mul_right _ (nm_drop _ _))) ?_
      exact pow_bound (x := 63) (C := 6) hB (by decide) _ (by rw [List.length_drop]; omega)
    have hrl := rs_len ((ss.length - i : Nat) : Int) (ss.drop (ss.length - i))
    rw [List.length_drop] at hrl
    rw [e2]
    walk_at "st"
    refine ⟨_, _, _, _, rfl, .inl rfl, .inl (show _ = tI [-((ss.length - (i + 1) : Nat) : Int), 1] from rfl), by omega, by simp, fun x hx y hy => ?_, ?_⟩
    · exact mem2 hy (cmul (q := 6) (nm_lt hnm hx) (by omega) (by omega)) (cmul (nm_lt hnm hx) one_small (by omega))
    walk_at "st"
    refine k_ixI (rowOf_rd h1 _) (atI_at rfl hj) ?_
    walk_at "st"
    refine ⟨_, _, _, _, _, rfl, .inl rfl, .inl (show _ = tI [ss[ss.length - (i + 1)]] from rfl), ?_, by simp, fun y hy => ?_, ?_⟩
    · have h3 := tr_len (rm (rs ((ss.length - i : Nat) : Int) (ss.drop (ss.length - i))) [-((ss.length - (i + 1) : Nat) : Int), 1])
      have h4 := rm_len (rs ((ss.length - i : Nat) : Int) (ss.drop (ss.length - i))) (q := [-((ss.length - (i + 1) : Nat) : Int), 1]) (by simp)
      simp only [List.length_cons, List.length_nil] at h4
      omega
    · rw [List.mem_singleton.mp hy]
      exact cmul one_small (nm_lt hB (List.getElem_mem hj)) (by omega)
    walk_at "st"
    rw [e1, rs, ← e3]
    exact ⟨_, rfl⟩
  · obtain ⟨a, rfl⟩ := hI
    rw [down_len]
    walk_at "st"
    rw [Nat.sub_self]; exact q
def sp_formula_of_steps : Sp2 := fun _ ds Q => ∃ ss B, ds = [.d (tI ss)] ∧ ss.length ≤ 61 ∧ nm ss < 2 ^ B ∧ B ≤ 900000 ∧ Q (.d (tI (rs 0 ss)))
theorem mono_formula_of_steps : MonoSp sp_formula_of_steps := fun _ _ _ _ h ⟨a, c, d, e, f, g, q⟩ => ⟨a, c, d, e, f, g, h _ q⟩
theorem len_formula_of_steps : ∀ exf ds Q, sp_formula_of_steps exf ds Q → ds.length = 1 := fun _ _ _ ⟨_, _, e, _⟩ => by rw [e]; rfl
def t_formula_of_steps : TS2 := (s2Seq (s2Drop (t2Call sp_checked_formulas (t2Cons (t2Var 0) t2Nil)))
  (s2Ret (t2Call sp_row_of_steps (t2Cons (t2Var 0) t2Nil))))
theorem pure_formula_of_steps : Does ["steps"] t_formula_of_steps sp_formula_of_steps := by
  refine does_i fun exf ds Q h => ?_
  obtain ⟨xs, B, rfl, hl, hB, hB2, q⟩ := h
  walk_at "go"
  unfold t_formula_of_steps
  walk_at "st"
  refine checked1 hl ?_
  walk_at "st"
  refine ⟨_, xs, B, rfl, .inl rfl, by omega, hB, hB2, ?_⟩
  walk_at "st"
  exact q
def sp_moved : Sp2 := fun _ ds Q => ∃ xs n B C, ds = [.d (tI xs), .d (.int n)] ∧ xs.length ≤ 61 ∧ nm xs < 2 ^ B ∧ n.natAbs < 2 ^ C ∧ B + C * 64 ≤ 900000 ∧ Q (.d (tI (mv n xs)))
theorem mono_moved : MonoSp sp_moved := fun _ _ _ _ h ⟨a, c, d, e, f, g, i, j, k, q⟩ => ⟨a, c, d, e, f, g, i, j, k, h _ q⟩
theorem len_moved : ∀ exf ds Q, sp_moved exf ds Q → ds.length = 2 := fun _ _ _ ⟨_, _, _, _, e, _⟩ => by rw [e]; rfl
def t_moved : TS2 := (s2Seq (s2Drop (t2Call sp_checked_formulas (t2Cons (t2Var 0) t2Nil)))
  (s2Seq (s2Asg (t2Tup t2Nil) (g2Name 2))
  (s2Seq (s2For (i2Rev (t2Var 0)) (g2Name 3) (s2Asg (t2Call sp_row_sum (t2Cons (t2Call sp_row_product (t2Cons (t2Var 2) (t2Cons (t2Tup (t2Cons (t2Var 1) (t2Cons (t2C (.int 1)) t2Nil))) t2Nil))) (t2Cons (t2Tup (t2Cons (t2Var 3) t2Nil)) (t2Cons (t2C (.int 1)) t2Nil)))) (g2Name 2)))
  (s2Ret (t2Var 2)))))
theorem pure_moved : Does ["formula", "number", "found", "entry"] t_moved sp_moved := by
  refine does_i fun exf ds Q h => ?_
  obtain ⟨xs, n, B, C, rfl, hl, hB, hC, hBC, q⟩ := h
  walk_at "go"
  unfold t_moved
  walk_at "st"
  refine checked1 hl ?_
  walk_at "st"
  refine for_ii (fun k st => ∃ a, st = ⟨[some (.d (tI xs)), some (.d (.int n)), some (.d (tI (mv n (xs.drop (xs.length - k))))), a], []⟩) ⟨_, by rw [Nat.sub_zero, List.drop_length]; rfl⟩ (fun i x st' hx hI => ?_) (fun st' hI => ?_)
  · obtain ⟨a, rfl⟩ := hI
    obtain ⟨hi, rfl⟩ := rev_int hx
    have hj : xs.length - 1 - i < xs.length := by omega
    have e0 : xs.length - (i + 1) = xs.length - 1 - i := by omega
    have e1 : xs.drop (xs.length - 1 - i) = xs[xs.length - 1 - i] :: xs.drop (xs.length - i) := by
      rw [drop_pre hj]; congr 2; omega
    have hnm : nm (mv n (xs.drop (xs.length - i))) < 2 ^ (B + C * 64) := by
      refine Nat.lt_of_le_of_lt (Nat.le_trans (mv_nm n _) (Nat.mul_le_mul_right _ (nm_drop _ _))) ?_
      exact pow_bound hB hC _ (by rw [List.length_drop]; omega)
    have hrl := mv_len n (xs.drop (xs.length - i))
    rw [List.length_drop] at hrl
    walk_at "st"
    refine ⟨_, _, _, _, rfl, .inl rfl, .inl (show _ = tI [n, 1] from rfl), by omega, by simp, fun x hx y hy => ?_, ?_⟩
    · exact mem2 hy (cmul (nm_lt hnm hx) hC (by omega)) (cmul (nm_lt hnm hx) one_small (by omega))
    walk_at "st"
    refine ⟨_, _, _, _, _, rfl, .inl rfl, .inl (show _ = tI [xs[xs.length - 1 - i]] from rfl), ?_, by simp, fun y hy => ?_, ?_⟩
    · have h3 := tr_len (rm (mv n (xs.drop (xs.length - i))) [n, 1])
      have h4 := rm_len (mv n (xs.drop (xs.length - i))) (q := [n, 1]) (by simp)
      simp only [List.length_cons, List.length_nil] at h4
      omega
    · rw [List.mem_singleton.mp hy]
      exact cmul one_small (nm_lt hB (List.getElem_mem hj)) (by omega)
    walk_at "st"
    rw [e0, e1, mv]
    exact ⟨_, rfl⟩
  · obtain ⟨a, rfl⟩ := hI
    rw [List.length_reverse, List.length_map]
    walk_at "st"
    rw [Nat.sub_self]; exact q
def sp_value_at : Sp2 := fun _ ds Q => ∃ y xs x B C, ds = [.d y, .d (.int x)] ∧ rowOf y xs ∧ nm xs < 2 ^ B ∧ x.natAbs < 2 ^ C ∧ B + C * (xs.length + 1) < 1000000 ∧ Q (.d (.int (ev xs x)))
theorem mono_value_at : MonoSp sp_value_at := fun _ _ _ _ h ⟨a, b, c, d, e, f, g, i, j, k, q⟩ => ⟨a, b, c, d, e, f, g, i, j, k, h _ q⟩
theorem len_value_at : ∀ exf ds Q, sp_value_at exf ds Q → ds.length = 2 := fun _ _ _ ⟨_, _, _, _, _, e, _⟩ => by rw [e]; rfl
def t_value_at : TS2 := (s2Seq (s2Asg (t2C (.int 0)) (g2Name 2))
  (s2Seq (s2For (i2Rev (t2Var 0)) (g2Name 3) (s2Asg (t2Op q2Add (t2Op q2Mul (t2Var 2) (t2Var 1)) (t2Var 3)) (g2Name 2)))
  (s2Ret (t2Var 2))))
theorem pure_value_at : Does ["formula", "x", "total", "one"] t_value_at sp_value_at := by
  refine does_i fun exf ds Q h => ?_
  obtain ⟨y, xs, x, B, C, rfl, h1, hB, hC, hBC, q⟩ := h
  walk_at "go"
  unfold t_value_at
  walk_at "st"
  refine seqK_row h1 ?_
  refine for_ii (fun k st => ∃ a, st = ⟨[some (.d y), some (.d (.int x)), some (.d (.int (ev (xs.drop (xs.length - k)) x))), a], []⟩) ⟨_, by rw [Nat.sub_zero, List.drop_length]; rfl⟩ (fun i x' st' hx hI => ?_) (fun st' hI => ?_)
  · obtain ⟨a, rfl⟩ := hI
    obtain ⟨hi, rfl⟩ := rev_int hx
    have hj : xs.length - 1 - i < xs.length := by omega
    have e0 : xs.length - (i + 1) = xs.length - 1 - i := by omega
    have e1 : xs.drop (xs.length - 1 - i) = xs[xs.length - 1 - i] :: xs.drop (xs.length - i) := by
      rw [drop_pre hj]; congr 2; omega
    walk_at "st"
    case hc =>
      refine cmul (p := B + C * xs.length) (q := C) ?_ hC (by rw [Nat.mul_add] at hBC; omega)
      refine Nat.lt_of_le_of_lt (Nat.le_trans (ev_abs _ x) (Nat.mul_le_mul_right _ (nm_drop _ _))) ?_
      exact pow_bound hB hC _ (by rw [List.length_drop]; omega)
    rw [e0, e1, ev]
    refine ⟨some (.d (.int xs[xs.length - 1 - i])), ?_⟩
    rw [Int.mul_comm, Int.add_comm]
  · obtain ⟨a, rfl⟩ := hI
    rw [List.length_reverse, List.length_map]
    walk_at "st"
    rw [Nat.sub_self]; exact q
def sp_added : Sp2 := fun _ ds Q => ∃ xs ys B, ds = [.d (tI xs), .d (tI ys)] ∧ xs.length ≤ 61 ∧ ys.length ≤ 61 ∧ nm ys < 2 ^ B ∧ B ≤ 900000 ∧ Q (.d (tI (tr (radd xs ys 1))))
theorem mono_added : MonoSp sp_added := fun _ _ _ _ h ⟨a, c, d, e, f, g, i, j, q⟩ => ⟨a, c, d, e, f, g, i, j, h _ q⟩
theorem len_added : ∀ exf ds Q, sp_added exf ds Q → ds.length = 2 := fun _ _ _ ⟨_, _, _, e, _⟩ => by rw [e]; rfl
def t_added : TS2 := (s2Seq (s2Drop (t2Call sp_checked_formulas (t2Cons (t2Var 0) (t2Cons (t2Var 1) t2Nil))))
  (s2Ret (t2Call sp_row_sum (t2Cons (t2Var 0) (t2Cons (t2Var 1) (t2Cons (t2C (.int 1)) t2Nil))))))
theorem checked2 {exf : EXF} {xs ys : List Int} {Q : DV → Prop} (h : xs.length ≤ 61) (h2 : ys.length ≤ 61) (q : Q (.d .none)) : sp_checked_formulas exf [.d (tI xs), .d (tI ys)] Q := by
  refine ⟨[tI xs, tI ys], rfl, sz (by simp), _, rfl, fun y hy => ?_, q⟩
  simp only [List.mem_cons, List.not_mem_nil, or_false] at hy
  rcases hy with rfl | rfl
  · exact isForm_ints h
  · exact isForm_ints h2
theorem pure_added : Does ["one", "other"] t_added sp_added := by
  refine does_i fun exf ds Q h => ?_
  obtain ⟨xs, ys, B, rfl, hl, hl2, hB, hB2, q⟩ := h
  walk_at "go"
  unfold t_added
  walk_at "st"
  refine checked2 hl hl2 ?_
  walk_at "st"
  refine ⟨_, xs, _, ys, 1, rfl, .inl rfl, .inl rfl, by omega, by omega, fun y hy => cmul one_small (nm_lt hB hy) (by omega), ?_⟩
  walk_at "st"
  exact q
end LW

set_option maxHeartbeats 2000000
/-! PE: the draws and helpers of the laws. -/
namespace LW
open LM
abbrev sp__law_any : Sp2 := spAny
def sp__law_draw : Sp2 := fun _ ds Q => ∃ (ns : List Int) (salt : Int), ds = [.scr ns, .d (.int salt)] ∧ ns.length ≤ 63 ∧ 0 ≤ salt ∧ salt < 20000 ∧ Q .deal
theorem mono__law_draw : MonoSp sp__law_draw := fun _ _ _ _ h ⟨a, b, c, d, e, f, q⟩ => ⟨a, b, c, d, e, f, h _ q⟩
theorem len__law_draw : ∀ exf ds Q, sp__law_draw exf ds Q → ds.length = 2 := fun _ _ _ ⟨_, _, e, _⟩ => by rw [e]; rfl
def t__law_draw : TS2 := (s2Seq (s2Asg (t2Sc (t2Lc1 (i2Seq (t2Sc (t2Sl (t2Var 0) t2NoP (t2Part (t2C (.int 48)))))) 2 t2Yes (t2CB c2Abs (t2Cons (t2CB c2Int (t2Cons (t2Var 2) t2Nil)) t2Nil)))) (g2Name 3))
  (s2Seq (s2Asg (t2Op q2Add (t2C (.int 7919)) (t2Op q2Mul (t2C (.int 104729)) (t2Var 1))) (g2Name 4))
  (s2Seq (s2For (i2Seq (t2Var 3)) (g2Name 2) (s2Asg (t2Op (q2I (fun _ j => 0 < j) fun i j => .int (i % j)) (t2CB c2Int (t2Cons (t2Op q2Add (t2Op q2Add (t2Op q2Mul (t2Var 4) (t2C (.int 48271))) (t2Op (q2I (fun _ j => 0 < j) fun i j => .int (i % j)) (t2Var 2) (t2C (.int 2147483549)))) (t2C (.int 11))) t2Nil)) (t2C (.int 2147483647))) (g2Name 4)))
  (s2RetDeal (t2Un q2Rev (t2Sc (t2Lc1 (i2Seq (t2Var 3)) 2 (t2B (t2Op (q2I0 fun i j => .bool (decide (j ≤ i))) (t2Var 2) (t2Op (q2I CPow fun i j => .int (i ^ j.toNat)) (t2C (.int 10)) (t2C (.int 18))))) (t2Var 2)))) (t2Var 4)))))
def absD : PyData → PyData
  | .int i => .int (if i < 0 then -i else i)
  | y => y
theorem map_absD (xs : List Int) : (xs.map PyData.int).map absD = (xs.map fun i => if i < 0 then -i else i).map PyData.int := by simp [absD]
def geD : PyData → Bool
  | .int i => decide ((10 : Int) ^ (18 : Int).toNat ≤ i)
  | _ => false
theorem filter_geD (xs : List Int) : (xs.map PyData.int).filter geD = (xs.filter fun i => decide ((10 : Int) ^ (18 : Int).toNat ≤ i)).map PyData.int := by
  rw [List.filter_map]; rfl
theorem pure__law_draw : Does ["script", "salt", "cell", "cells", "blend"] t__law_draw sp__law_draw := by
  refine does_i fun exf ds Q h => ?_
  obtain ⟨ns, salt, rfl, hn, h0, h1, q⟩ := h
  walk_at "go"
  unfold t__law_draw
  walk_at "st"
  have hcut : cut (ns.map PyData.int) none (some (48 : Int)) = (ns.take 48).map PyData.int := by
    unfold cut
    rw [HT.sIx_none, show (48 : Int) = ((48 : Nat) : Int) from rfl, HT.sIx_nat, List.map_take]
    simp only [Nat.sub_zero, List.drop_zero, List.length_map]
    rw [List.take_eq_take_iff]; simp
  rw [hcut]
  refine lc_m absD (fun k x hx => ?_) bind1_mono ?_
  · obtain ⟨hi, rfl⟩ := int_get hx
    walk_at "st"
    exact lc_fin hx (by simp; omega) rfl rfl
  rw [map_absD]
  generalize hcs : ((ns.take 48).map fun i => if i < 0 then -i else i) = cs
  have hcl : cs.length ≤ 48 := by rw [← hcs]; simp; omega
  have hc0 : ∀ g ∈ cs, 0 ≤ g := fun g hg => by
    rw [← hcs] at hg
    obtain ⟨i, _, rfl⟩ := List.mem_map.mp hg
    split <;> omega
  walk_at "st"
  case hc => exact cmul (p := 17) (q := 15) (by decide) (by omega) (by omega)
  refine for_ii (fun k st => ∃ a bl, st = ⟨[some (.scr ns), some (.d (.int salt)), a, some (.d (lI cs)), some (.d (.int bl))], []⟩ ∧ 0 ≤ bl ∧ bl < 2147483647) ⟨_, _, rfl, by omega, by omega⟩ (fun i x st' hx hI => ?_) (fun st' hI => ?_)
  · obtain ⟨a, bl, rfl, hb0, hb1⟩ := hI
    obtain ⟨hi, rfl⟩ := int_get hx
    walk_at "st"
    refine ⟨_, _, rfl, ?_, ?_⟩
    · exact Int.emod_nonneg _ (by decide)
    · exact Int.emod_lt_of_pos _ (by decide)
    case hc => exact (by decide : (0 : Int) < 2147483647)
    case hc => exact (by decide : (0 : Int) < 2147483549)
    case hc => exact cmul (p := 31) (q := 16) (by omega) (by decide) (by omega)
  · obtain ⟨a, bl, rfl, hb0, hb1⟩ := hI
    walk_at "st"
    refine lc_f geD id (fun k x hx => ?_) bind1_mono ?_
    · obtain ⟨hi, rfl⟩ := int_get hx
      walk_at "st"
      case hc => exact ⟨by decide, by decide, by decide⟩
      refine k_dec (fun h => ?_) (fun h => ?_)
      · walk_at "st"
        exact lc_y hx (by simp; omega) (by simpa [geD] using h) rfl rfl
      · exact lc_n hx (by simpa [geD] using h) rfl
    rw [filter_geD, List.map_id]
    walk_at "st"
    refine k_retDK (gs := (cs.filter fun i => decide ((10 : Int) ^ (18 : Int).toNat ≤ i)).reverse) (by rw [List.map_reverse]) hb0 hb1 (fun g hg => hc0 g ((List.mem_filter.mp (List.mem_reverse.mp hg)).1)) ?_ q
    rw [List.length_reverse]
    exact Nat.le_trans (List.length_filter_le _ _) (by omega)
def sp__law_of : Sp2 := fun _ ds Q => ∃ y xs, ds = [.deal, .d y] ∧ seqOf y = some xs ∧ 0 < xs.length ∧ xs.length < 4194304 ∧ ∀ x ∈ xs, Q (.d x)
theorem mono__law_of : MonoSp sp__law_of := fun _ _ _ _ h ⟨a, b, c, d, e, f, q⟩ => ⟨a, b, c, d, e, f, fun x hx => h _ (q x hx)⟩
theorem len__law_of : ∀ exf ds Q, sp__law_of exf ds Q → ds.length = 2 := fun _ _ _ ⟨_, _, e, _⟩ => by rw [e]; rfl
def t__law_of : TS2 := (s2Ret (t2Op q2Ix (t2Var 1) (t2Call sp__law_any (t2Cons (t2Var 0) (t2Cons (t2CB c2Len (t2Cons (t2Var 1) t2Nil)) t2Nil)))))
theorem small_pow {n : Nat} (h : n < 4194304) : ((n : Nat) : Int).natAbs < 2 ^ 8000 := by
  rw [Int.natAbs_natCast]
  exact Nat.lt_of_lt_of_le (show n < 2 ^ 22 from h) (Nat.pow_le_pow_right (by decide) (by decide))
theorem seqOf_rd {y : PyData} {xs : List PyData} (h : seqOf y = some xs) (st : S) : rd st (.d y) = some (.list xs) ∨ rd st (.d y) = some (.tuple xs) := by
  cases y <;> cases h
  · exact .inl rfl
  · exact .inr rfl
theorem pure__law_of : Does ["deal", "some"] t__law_of sp__law_of := by
  refine does_i fun exf ds Q h => ?_
  obtain ⟨y, xs, rfl, hy, h1, h2, q⟩ := h
  walk_at "go"
  unfold t__law_of
  walk_at "st"
  refine k_len (seqOf_rd hy _) ?_
  walk_at "st"
  refine ⟨_, rfl, by omega, small_pow h2, fun r r0 r1 => ?_⟩
  refine k_ixD (seqOf_rd hy _) (atI_at (j := r.toNat) (by omega) (by omega)) ?_
  walk_at "st"
  exact q _ (List.getElem_mem _)
theorem any_of {exf : EXF} {Q : DV → Prop} {m : Int} (h : 0 < m ∧ m < 2 ^ 64) (q : ∀ r : Int, 0 ≤ r → r < m → Q (.d (.int r))) : spAny exf [.deal, .d (.int m)] Q := by
  refine ⟨m, rfl, h.1, ?_, q⟩
  exact Nat.lt_of_lt_of_le (show m.natAbs < 2 ^ 64 by omega) (Nat.pow_le_pow_right (by decide) (by decide))
def sp__law_great : Sp2 := fun _ ds Q => ds = [.deal] ∧ ∀ v : Int, v.natAbs < 2 ^ 40 → Q (.d (.int v))
theorem mono__law_great : MonoSp sp__law_great := fun _ _ _ _ h ⟨a, q⟩ => ⟨a, fun x hx => h _ (q x hx)⟩
theorem len__law_great : ∀ exf ds Q, sp__law_great exf ds Q → ds.length = 1 := fun _ _ _ ⟨e, _⟩ => by rw [e]; rfl
def t__law_great : TS2 := (s2Seq (s2Asg (t2Op q2Add (t2Op q2Mul (t2Call sp__law_any (t2Cons (t2Var 0) (t2Cons (t2Op (q2I CPow fun i j => .int (i ^ j.toNat)) (t2C (.int 10)) (t2C (.int 6))) t2Nil))) (t2Call sp__law_of (t2Cons (t2Var 0) (t2Cons (t2Sc (t2Lst (t2Cons (t2C (.int 0)) (t2Cons (t2C (.int 1)) (t2Cons (t2Op (q2I CPow fun i j => .int (i ^ j.toNat)) (t2C (.int 10)) (t2C (.int 6))) t2Nil))))) t2Nil)))) (t2Call sp__law_any (t2Cons (t2Var 0) (t2Cons (t2Op (q2I CPow fun i j => .int (i ^ j.toNat)) (t2C (.int 10)) (t2C (.int 6))) t2Nil)))) (g2Name 1))
  (s2Ret (t2Op q2Mul (t2Op (q2I (fun _ j => 0 < j) fun i j => .int (i % j)) (t2Var 1) (t2Op (q2I CPow fun i j => .int (i ^ j.toNat)) (t2C (.int 10)) (t2C (.int 12)))) (t2Call sp__law_of (t2Cons (t2Var 0) (t2Cons (t2Sc (t2Lst (t2Cons (t2C (.int 1)) (t2Cons (t2C (.int 1)) (t2Cons (t2Un q1Neg (t2C (.int 1))) t2Nil))))) t2Nil))))))
theorem of_ints {exf : EXF} {Q : DV → Prop} {xs : List Int} (h : 0 < xs.length ∧ xs.length < 4194304) (q : ∀ x ∈ xs, Q (.d (.int x))) : sp__law_of exf [.deal, .d (lI xs)] Q := by
  refine ⟨_, _, rfl, rfl, by simpa using h.1, by simpa using h.2, fun x hx => ?_⟩
  obtain ⟨i, hi, rfl⟩ := List.mem_map.mp hx
  exact q i hi
theorem pure__law_great : Does ["deal", "number"] t__law_great sp__law_great := by
  refine does_i fun exf ds Q h => ?_
  obtain ⟨rfl, q⟩ := h
  have e6 : (10 : Int) ^ (6 : Int).toNat = 1000000 := rfl
  have e12 : (10 : Int) ^ (12 : Int).toNat = 1000000000000 := rfl
  walk_at "go"
  unfold t__law_great
  walk_at "st"
  case hc => exact ⟨by decide, by decide, by decide⟩
  rw [e6]
  refine any_of (by omega) fun r r0 r1 => ?_
  walk_at "st"
  case hc => exact ⟨by decide, by decide, by decide⟩
  rw [e6]
  refine of_ints (xs := [0, 1, 1000000]) (by decide) fun a ha => ?_
  have ha2 : 0 ≤ a ∧ a ≤ 1000000 := by
    simp only [List.mem_cons, List.not_mem_nil, or_false] at ha
    rcases ha with rfl | rfl | rfl <;> omega
  walk_at "st"
  case hc => exact ⟨by decide, by decide, by decide⟩
  case hc => exact cmul (p := 20) (q := 20) (by omega) (by omega) (by omega)
  rw [e6]
  refine any_of (by omega) fun r2 r20 r21 => ?_
  walk_at "st"
  case hc => rw [e12]; decide
  case hc => exact ⟨by decide, by decide, by decide⟩
  rw [e12]
  refine of_ints (xs := [1, 1, -1]) (by decide) fun s hs => ?_
  have hs2 : s = 1 ∨ s = -1 := by
    simp only [List.mem_cons, List.not_mem_nil, or_false] at hs
    rcases hs with rfl | rfl | rfl <;> omega
  have hm0 := Int.emod_nonneg (r * a + r2) (b := 1000000000000) (by decide)
  have hm1 := Int.emod_lt_of_pos (r * a + r2) (b := 1000000000000) (by decide)
  walk_at "st"
  case hc => exact cmul (p := 40) (q := 1) (by omega) (by omega) (by omega)
  refine q _ ?_
  rcases hs2 with rfl | rfl
  · rw [Int.mul_one]; omega
  · omega
def sp__law_row : Sp2 := fun _ ds Q => ∃ most : Int, ds = [.deal, .d (.int most)] ∧ 0 ≤ most ∧ most < 4194303 ∧ ∀ xs : List Int, (xs.length : Int) ≤ most + 1 → (∀ a ∈ xs, a.natAbs < 2 ^ 40) → Q (.d (tI xs))
theorem mono__law_row : MonoSp sp__law_row := fun _ _ _ _ h ⟨a, b, c, d, q⟩ => ⟨a, b, c, d, fun xs hl hx => h _ (q xs hl hx)⟩
theorem len__law_row : ∀ exf ds Q, sp__law_row exf ds Q → ds.length = 2 := fun _ _ _ ⟨_, e, _⟩ => by rw [e]; rfl
def t__law_row : TS2 := (s2Seq (s2Par 2 3 (t2Call sp__law_any (t2Cons (t2Var 0) (t2Cons (t2C (.int 4)) t2Nil))) (t2Lst t2Nil))
  (s2Seq (s2For (i2Rng1 (t2Call sp__law_any (t2Cons (t2Var 0) (t2Cons (t2Op q2Add (t2Var 1) (t2C (.int 1))) t2Nil)))) (g2Name 4) (s2If (t2B (t2Op (q2Eq false) (t2Var 2) (t2C (.int 0)))) (s2Drop (t2App (t2Var 3) (t2Op (q2I0 fun i j => .int (i - j)) (t2Call sp__law_any (t2Cons (t2Var 0) (t2Cons (t2C (.int 9)) t2Nil))) (t2C (.int 4))))) (s2If (t2B (t2Op (q2Eq false) (t2Var 2) (t2C (.int 1)))) (s2Drop (t2App (t2Var 3) (t2Call sp__law_great (t2Cons (t2Var 0) t2Nil)))) (s2If (t2B (t2Op (q2Eq false) (t2Var 2) (t2C (.int 2)))) (s2Drop (t2App (t2Var 3) (t2Call sp__law_of (t2Cons (t2Var 0) (t2Cons (t2Sc (t2Lst (t2Cons (t2C (.int 0)) (t2Cons (t2C (.int 0)) (t2Cons (t2C (.int 0)) (t2Cons (t2C (.int 1)) (t2Cons (t2Un q1Neg (t2C (.int 1))) (t2Cons (t2Call sp__law_any (t2Cons (t2Var 0) (t2Cons (t2C (.int 100)) t2Nil))) t2Nil)))))))) t2Nil))))) (s2Drop (t2App (t2Var 3) (t2Call sp__law_of (t2Cons (t2Var 0) (t2Cons (t2Sc (t2Lst (t2Cons (t2C (.int 0)) (t2Cons (t2C (.int 1)) t2Nil)))) t2Nil)))))))))
  (s2Ret (t2CB c2Tuple (t2Cons (t2Sc (t2Op q2Add (t2Var 3) (t2Sc (t2Op q2Mul (t2Sc (t2Lst (t2Cons (t2C (.int 0)) t2Nil))) (t2Call sp__law_of (t2Cons (t2Var 0) (t2Cons (t2Sc (t2Lst (t2Cons (t2C (.int 0)) (t2Cons (t2C (.int 0)) (t2Cons (t2C (.int 1)) t2Nil))))) t2Nil))))))) t2Nil)))))
theorem all_app {F : List Int} {v : Int} {P : Int → Prop} (h : ∀ a ∈ F, P a) (hv : P v) : ∀ a ∈ F ++ [v], P a := fun a ha => by
  rcases List.mem_append.mp ha with ha | ha
  · exact h a ha
  · rw [List.mem_singleton.mp ha]; exact hv
theorem pure__law_row : Does ["deal", "most", "form", "found", "turn"] t__law_row sp__law_row := by
  refine does_i fun exf ds Q h => ?_
  obtain ⟨most, rfl, h0, h1, q⟩ := h
  walk_at "go"
  unfold t__law_row
  walk_at "st"
  refine any_of (by omega) fun form f0 f1 => ?_
  walk_at "st"
  refine any_of (by omega) fun cnt c0 c1 => ?_
  walk_at "st"
  case hz => omega
  refine for_ii (fun k st => ∃ F : List Int, ∃ a, st = ⟨[some .deal, some (.d (.int most)), some (.d (.int form)), some (.o 0), a], [⟨F.map PyData.int, true⟩]⟩ ∧ F.length = k ∧ ∀ a ∈ F, a.natAbs < 2 ^ 40) ⟨[], _, rfl, rfl, fun a ha => absurd ha (List.not_mem_nil)⟩ (fun i x st' hx hI => ?_) (fun st' hI => ?_)
  · obtain ⟨F, a, rfl, hF, hb⟩ := hI
    obtain ⟨hi, rfl⟩ := range_get hx
    have hsz : F.length < sizeLine := szl (by omega)
    walk_at "st"
    have fin : ∀ v : Int, v.natAbs < 2 ^ 40 → ∃ F' : List Int, ∃ a', (⟨[some .deal, some (.d (.int most)), some (.d (.int form)), some (.o 0), some (.d (.int (0 + (i : Int))))], [⟨F.map PyData.int ++ [.int v], true⟩]⟩ : S) = ⟨[some .deal, some (.d (.int most)), some (.d (.int form)), some (.o 0), a'], [⟨F'.map PyData.int, true⟩]⟩ ∧ F'.length = i + 1 ∧ ∀ a ∈ F', a.natAbs < 2 ^ 40 :=
      fun v hv => ⟨F ++ [v], _, by rw [List.map_append]; rfl, by simp [hF], all_app hb hv⟩
    refine k_decf (fun e => ?_) (fun e => ?_)
    · walk_at "st"
      refine any_of (by omega) fun v v0 v1 => ?_
      walk_at "st"
      case hz => rw [List.length_map]; exact hsz
      exact fin _ (by omega)
    walk_at "st"
    refine k_decf (fun e => ?_) (fun e => ?_)
    · walk_at "st"
      refine ⟨rfl, fun v hv => ?_⟩
      walk_at "st"
      case hz => rw [List.length_map]; exact hsz
      exact fin _ hv
    walk_at "st"
    refine k_decf (fun e => ?_) (fun e => ?_)
    · walk_at "st"
      refine any_of (by omega) fun w w0 w1 => ?_
      walk_at "st"
      refine of_ints (xs := [0, 0, 0, 1, -1, w]) (by simp) fun v hv => ?_
      have hv2 : v.natAbs < 2 ^ 40 := by
        simp only [List.mem_cons, List.not_mem_nil, or_false] at hv
        rcases hv with rfl | rfl | rfl | rfl | rfl | rfl <;> omega
      walk_at "st"
      case hz => rw [List.length_map]; exact hsz
      exact fin _ hv2
    · walk_at "st"
      refine of_ints (xs := [0, 1]) (by simp) fun v hv => ?_
      have hv2 : v.natAbs < 2 ^ 40 := by
        simp only [List.mem_cons, List.not_mem_nil, or_false] at hv
        rcases hv with rfl | rfl <;> omega
      walk_at "st"
      case hz => rw [List.length_map]; exact hsz
      exact fin _ hv2
  · obtain ⟨F, a, rfl, hF, hb⟩ := hI
    rw [range_len] at hF
    walk_at "st"
    refine of_ints (xs := [0, 0, 1]) (by simp) fun v hv => ?_
    have hv2 : 0 ≤ v ∧ v ≤ 1 := by
      simp only [List.mem_cons, List.not_mem_nil, or_false] at hv
      rcases hv with rfl | rfl | rfl <;> omega
    walk_at "st"
    case hz => rw [zeros]; simp only [List.length_map, List.length_replicate]; exact sz (by omega)
    case hz => simp only [List.length_cons, List.length_nil]; exact ⟨by omega, by omega, sz (by omega)⟩
    rw [zeros, map_app]
    refine q _ (by simp only [List.length_append, List.length_replicate]; omega) fun a ha => ?_
    rcases List.mem_append.mp ha with ha | ha
    · exact hb a ha
    · rw [(List.mem_replicate.mp ha).2]; decide
end LW

set_option maxHeartbeats 2000000
/-! PF: the laws' own trims, sums, products; sameness. -/
namespace LW
open LM
def sp__law_trim : Sp2 := sp_trimmed
theorem mono__law_trim : MonoSp sp__law_trim := mono_trimmed
theorem len__law_trim : ∀ exf ds Q, sp__law_trim exf ds Q → ds.length = 1 := len_trimmed
def t__law_trim : TS2 := (s2Seq (s2Asg (t2CB c2Len (t2Cons (t2Var 0) t2Nil)) (g2Name 1))
  (s2Seq (s2While (t2And (t2B (t2Op (q2I0 fun i j => .bool (decide (j < i))) (t2Var 1) (t2C (.int 0)))) (t2B (t2Op (q2Eq false) (t2Op q2Ix (t2Var 0) (t2Op (q2I0 fun i j => .int (i - j)) (t2Var 1) (t2C (.int 1)))) (t2C (.int 0))))) (s2Asg (t2Op (q2I0 fun i j => .int (i - j)) (t2Var 1) (t2C (.int 1))) (g2Name 1)))
  (s2Ret (t2CB c2Tuple (t2Cons (t2Sc (t2Sl (t2Var 0) t2NoP (t2Part (t2Var 1)))) t2Nil)))))
theorem pure__law_trim : Does ["row", "end"] t__law_trim sp__law_trim := by
  refine does_i fun exf ds Q h => ?_
  obtain ⟨y, xs, rfl, hy, hl, q⟩ := h
  have hr : ∀ st : S, rd st (.d y) = some (lI xs) ∨ rd st (.d y) = some (tI xs) := fun st => by
    rcases hy with rfl | rfl
    · exact .inr rfl
    · exact .inl rfl
  walk_at "go"
  unfold t__law_trim
  walk_at "st"
  refine k_len (hr _) ?_
  walk_at "st"
  refine while_i (fun m st => ∃ pre, xs.take m = pre ∧ m ≤ xs.length ∧ tr xs = tr pre ∧ st = ⟨[some (.d y), some (.d (.int (m : Int)))], []⟩) xs.length ⟨xs, List.take_length, Nat.le_refl _, rfl, by rw [List.length_map]⟩ (fun m st' hI => ?_)
  obtain ⟨pre, hp, hm, ht, rfl⟩ := hI
  walk_at "st"
  refine k_dec (fun h => ?_) (fun h => ?_)
  · walk_at "st"
    have hlt : m - 1 < xs.length := by omega
    refine k_ixI (hr _) (atI_at (j := m - 1) (by omega) hlt) ?_
    walk_at "st"
    have hsn : xs.take m = xs.take (m - 1) ++ [xs[m - 1]] := by
      have := List.take_append_getElem hlt
      rw [this]; congr 1; omega
    refine k_decf (fun h0 => ?_) (fun h0 => ?_)
    · walk_at "st"
      refine ⟨m - 1, by omega, _, rfl, by omega, ?_, ?_⟩
      · rw [ht, ← hp, hsn, tr_snoc, if_pos h0]
      · have : (m : Int) - 1 = ((m - 1 : Nat) : Int) := by omega
        rw [this]
    · have hpre : tr xs = xs.take m := by rw [ht, ← hp, hsn, tr_snoc, if_neg h0]
      rw [hpre] at q
      rcases hy with rfl | rfl <;> walk_at "st" <;> (try refine k_tuple (.inl rfl) ?_) <;> (try walk_at "st")
      all_goals
        rw [cut_pre _ (by rw [List.length_map]; omega), ← List.map_take]; exact q
  · have hm0 : m = 0 := by omega
    subst hm0
    have hpre : tr xs = xs.take 0 := by rw [ht, ← hp]; rfl
    rw [hpre] at q
    walk_at "st"
    rcases hy with rfl | rfl <;> walk_at "st" <;> (try refine k_tuple (.inl rfl) ?_) <;> (try walk_at "st")
    all_goals
      rw [cut_pre _ (by rw [List.length_map]; omega), ← List.map_take]; exact q
def sp__law_add : Sp2 := sp_row_sum
theorem mono__law_add : MonoSp sp__law_add := mono_row_sum
theorem len__law_add : ∀ exf ds Q, sp__law_add exf ds Q → ds.length = 3 := len_row_sum
def t__law_add : TS2 := (s2Seq (s2Asg (t2Op q2Add (t2Sc (t2CB c2List (t2Cons (t2Var 0) t2Nil))) (t2Sc (t2Op q2Mul (t2Sc (t2Lst (t2Cons (t2C (.int 0)) t2Nil))) (t2CB (c2Two fun i j => if j > i then j else i) (t2Cons (t2C (.int 0)) (t2Cons (t2Op (q2I0 fun i j => .int (i - j)) (t2CB c2Len (t2Cons (t2Var 1) t2Nil)) (t2CB c2Len (t2Cons (t2Var 0) t2Nil))) t2Nil)))))) (g2Name 3))
  (s2Seq (s2For (i2Enum (t2Var 1)) (g2Tup 2 (g2Cons (g2Name 4) (g2Cons (g2Name 5) g2Nil))) (s2Asg (t2Op q2Add (t2Op q2Ix (t2Var 3) (t2Var 4)) (t2Op q2Mul (t2Var 2) (t2Var 5))) (g2Sub (t2Var 3) (t2Var 4))))
  (s2Ret (t2Call sp__law_trim (t2Cons (t2Var 3) t2Nil)))))
theorem pure__law_add : Does ["one", "other", "number", "found", "at", "entry"] t__law_add sp__law_add := by
  refine does_i fun exf ds Q h => ?_
  obtain ⟨y1, xs, y2, ys, n, rfl, h1, h2, hx, hy, hc, q⟩ := h
  walk_at "go"
  unfold t__law_add
  walk_at "st"
  refine k_list (rowOf_rd h1 _) ?_
  walk_at "st"
  refine k_len (rowOf_rd h2 _) ?_
  walk_at "st"
  refine k_len (rowOf_rd h1 _) ?_
  walk_at "st"
  case h.h.h.hz => rw [zeros]; simp only [List.length_map, List.length_replicate]; exact sz (by split <;> omega)
  case h.h.hz => simp only [List.length_map, List.length_cons, List.length_nil]; exact ⟨by split <;> omega, by split <;> omega, sz (by split <;> omega)⟩
  refine seqK_row h2 ?_
  rw [zeros, map_app]
  refine for_ii (fun k st => ∃ F a b, st = ⟨[some (.d y1), some (.d y2), some (.d (.int n)), some (.o 0), a, b], [⟨F.map PyData.int, true⟩]⟩ ∧ F.length = max xs.length ys.length ∧ ∀ j, co F j = co xs j + (if j < k then n * co ys j else 0))
    ⟨_, _, _, rfl, ?_, fun j => ?_⟩ (fun i x st' hx' hI => ?_) (fun st' hI => ?_)
  · simp only [List.length_append, List.length_replicate, List.length_map]; split <;> omega
  · rw [co_app, if_neg (Nat.not_lt_zero j), Int.add_zero]
    split
    · rfl
    · rw [co_zeros, co_ge (by omega)]
  · obtain ⟨F, a, b, rfl, hF, hco⟩ := hI
    obtain ⟨hi, rfl⟩ := enum_int hx'
    have hiF : i < F.length := by omega
    walk_at "st"
    refine k_ixI (.inl rfl) (atI_at (j := i) rfl hiF) ?_
    walk_at "st"
    case hc => exact hc _ (List.getElem_mem hi)
    refine k_gsubK (j := i) rfl rfl hiF rfl ?_
    refine ⟨_, _, _, rfl, by rw [List.length_set]; exact hF, fun j => ?_⟩
    rw [co_set hiF]
    by_cases e : i = j
    · subst e
      rw [if_pos rfl, if_pos (Nat.lt_succ_self i), ← co_lt hiF, hco, if_neg (Nat.lt_irrefl i), Int.add_zero, co_lt hi]
    · rw [if_neg e, hco]
      by_cases e2 : j < i
      · rw [if_pos e2, if_pos (by omega)]
      · rw [if_neg e2, if_neg (by omega)]
  · obtain ⟨F, a, b, rfl, hF, hco⟩ := hI
    rw [enum_len, List.length_map] at hco
    have ht : tr F = tr (radd xs ys n) := tr_ext fun j => by
      rw [hco, co_radd]
      split
      · rfl
      · rw [co_ge (r := ys) (by omega), Int.mul_zero]
    walk_at "st"
    refine k_callo rfl ?_
    refine ⟨_, F, rfl, .inr rfl, by omega, ?_⟩
    walk_at "st"
    rw [ht]; exact q
def sp__law_by : Sp2 := sp_row_product
theorem mono__law_by : MonoSp sp__law_by := mono_row_product
theorem len__law_by : ∀ exf ds Q, sp__law_by exf ds Q → ds.length = 2 := len_row_product
def t__law_by : TS2 := (s2Seq (s2Asg (t2Op q2Mul (t2Sc (t2Lst (t2Cons (t2C (.int 0)) t2Nil))) (t2Op q2Add (t2CB c2Len (t2Cons (t2Var 0) t2Nil)) (t2CB c2Len (t2Cons (t2Var 1) t2Nil)))) (g2Name 2))
  (s2Seq (s2For (i2Enum (t2Var 0)) (g2Tup 2 (g2Cons (g2Name 3) (g2Cons (g2Name 4) g2Nil))) (s2For (i2Enum (t2Var 1)) (g2Tup 2 (g2Cons (g2Name 5) (g2Cons (g2Name 6) g2Nil))) (s2Asg (t2Op q2Add (t2Op q2Ix (t2Var 2) (t2Op q2Add (t2Var 3) (t2Var 5))) (t2Op q2Mul (t2Var 4) (t2Var 6))) (g2Sub (t2Var 2) (t2Op q2Add (t2Var 3) (t2Var 5))))))
  (s2Ret (t2Call sp__law_trim (t2Cons (t2Var 2) t2Nil)))))
theorem pure__law_by : Does ["one", "other", "found", "at", "a", "place", "b"] t__law_by sp__law_by := by
  refine does_i fun exf ds Q h => ?_
  obtain ⟨y1, xs, y2, ys, rfl, h1, h2, hx, hy, hc, q⟩ := h
  walk_at "go"
  unfold t__law_by
  walk_at "st"
  refine k_len (rowOf_rd h1 _) ?_
  walk_at "st"
  refine k_len (rowOf_rd h2 _) ?_
  walk_at "st"
  case hz => simp only [List.length_map, List.length_cons, List.length_nil]; exact ⟨by omega, by omega, sz (by omega)⟩
  refine seqK_row h1 ?_
  rw [zeros, List.length_map, List.length_map]
  generalize hN : ((xs.length : Int) + (ys.length : Int)).toNat = N
  refine for_ii (fun k st => ∃ F a b c d, st = ⟨[some (.d y1), some (.d y2), some (.o 0), a, b, c, d], [⟨F.map PyData.int, true⟩]⟩ ∧ F.length = N ∧ ∀ x, ev F x = ev (xs.take k) x * ev ys x)
    ⟨_, _, _, _, _, rfl, List.length_replicate, fun x => by rw [ev_zeros]; simp [ev]⟩ (fun i x st' hx' hI => ?_) (fun st' hI => ?_)
  · obtain ⟨F, a, b, c, d, rfl, hF, hev⟩ := hI
    obtain ⟨hi, rfl⟩ := enum_int hx'
    walk_at "st"
    refine seqK_row h2 ?_
    refine for_ii (fun k st => ∃ F c d, st = ⟨[some (.d y1), some (.d y2), some (.o 0), some (.d (.int (i : Int))), some (.d (.int xs[i])), c, d], [⟨F.map PyData.int, true⟩]⟩ ∧ F.length = N ∧ ∀ x, ev F x = ev (xs.take i) x * ev ys x + xs[i] * x ^ i * ev (ys.take k) x)
      ⟨_, _, _, rfl, hF, fun x => by rw [hev]; simp [ev]⟩ (fun p x st' hx' hI => ?_) (fun st' hI => ?_)
    · obtain ⟨F, c, d, rfl, hF, hev⟩ := hI
      obtain ⟨hp, rfl⟩ := enum_int hx'
      have hiF : i + p < F.length := by omega
      walk_at "st"
      refine k_ixI (.inl rfl) (atI_at (j := i + p) (by omega) hiF) ?_
      walk_at "st"
      case hc => exact hc _ (List.getElem_mem hi) _ (List.getElem_mem hp)
      refine k_gsubK (j := i + p) rfl (by omega) hiF rfl ?_
      refine ⟨_, _, _, rfl, by rw [List.length_set]; exact hF, fun x => ?_⟩
      rw [ev_set hiF, hev, ev_take hp, Int.pow_add]; grind
    · obtain ⟨F, c, d, rfl, hF, hev⟩ := hI
      refine ⟨F, _, _, _, _, rfl, hF, fun x => ?_⟩
      rw [enum_len, List.length_map, List.take_length] at hev
      rw [hev, ev_take hi]; grind
  · obtain ⟨F, a, b, c, d, rfl, hF, hev⟩ := hI
    rw [enum_len, List.length_map, List.take_length] at hev
    have ht : tr F = tr (rm xs ys) := ev_inj (B := 0) fun x _ => by rw [hev, ev_rm]
    walk_at "st"
    refine k_callo rfl ?_
    refine ⟨_, F, rfl, .inr rfl, by omega, ?_⟩
    walk_at "st"
    rw [ht]; exact q
def sp__law_is_int : Sp2 := sp_is_integer
theorem mono__law_is_int : MonoSp sp__law_is_int := mono_is_integer
theorem len__law_is_int : ∀ exf ds Q, sp__law_is_int exf ds Q → ds.length = 1 := len_is_integer
def t__law_is_int : TS2 := (s2Ret (t2AndV (t2CB c2Isi (t2Cons (t2Var 0) (t2Cons (t2Raw (.ty "int")) t2Nil))) (t2NotV (t2CB c2Isi (t2Cons (t2Var 0) (t2Cons (t2Raw (.ty "bool")) t2Nil))))))
theorem pure__law_is_int : Does ["value"] t__law_is_int sp__law_is_int := pure_is_integer
/-- data of depth d at most, whose sameness the laws can see -/
def okS : Nat → PyData → Bool
  | _, .none => true
  | _, .bool _ => true
  | _, .int _ => true
  | _, .str s => PyData.strOk s
  | d + 1, .tuple xs => decide (xs.length < 16777216) && xs.all (okS d)
  | d + 1, .list xs => decide (xs.length < 16777216) && xs.all (okS d)
  | _, _ => false
theorem okS_tI {d : Nat} {xs : List Int} (h : xs.length < 16777216) : okS (d + 1) (tI xs) = true := by
  simp only [okS, List.length_map, h, decide_true, Bool.true_and, List.all_map, List.all_eq_true]
  intro x _
  cases d <;> rfl
def sp__law_same_d (d : Nat) : Sp2 := fun _ ds Q => ∃ x, ds = [.d x, .d x] ∧ okS d x = true ∧ Q (.d (.bool true))
theorem mono__law_same_d (d : Nat) : MonoSp (sp__law_same_d d) := fun _ _ _ _ h ⟨a, b, c, q⟩ => ⟨a, b, c, h _ q⟩
theorem len__law_same_d (d : Nat) : ∀ exf ds Q, sp__law_same_d d exf ds Q → ds.length = 2 := fun _ _ _ ⟨_, e, _⟩ => by rw [e]; rfl
def t__law_same_0 : TS2 := (s2Seq (s2If (t2T (t2Isi2 (t2Var 1) "tuple" "list")) (s2Seq (s2If (t2Or (t2B (t2Op (q2Eq true) (t2CB c2Isi (t2Cons (t2Var 1) (t2Cons (t2Raw (.ty "tuple")) t2Nil))) (t2CB c2Isi (t2Cons (t2Var 0) (t2Cons (t2Raw (.ty "tuple")) t2Nil))))) (t2Or (t2Not (t2T (t2Isi2 (t2Var 0) "tuple" "list"))) (t2B (t2Op (q2Eq true) (t2CB c2Len (t2Cons (t2Var 0) t2Nil)) (t2CB c2Len (t2Cons (t2Var 1) t2Nil)))))) (s2Ret (t2C (.bool false))) s2Next)
  (s2Ret (t2Op (q2Eq false) (t2Sc (t2Lc2 (i2Zip (t2Var 0) (t2Var 1)) 2 3 (t2Not (t2T t2Never)) (t2C (.int 0)))) (t2Sc (t2Lst t2Nil))))) s2Next)
  (s2Seq (s2If (t2B (t2Op (q2Is false) (t2Var 1) (t2C .none))) (s2Ret (t2Op (q2Is false) (t2Var 0) (t2C .none))) s2Next)
  (s2Seq (s2If (t2B (t2Op (q2IsB false) (t2Var 1) (t2C (.bool true)))) (s2Ret (t2Op (q2IsB false) (t2Var 0) (t2C (.bool true)))) s2Next)
  (s2Seq (s2If (t2B (t2Op (q2IsB false) (t2Var 1) (t2C (.bool false)))) (s2Ret (t2Op (q2IsB false) (t2Var 0) (t2C (.bool false)))) s2Next)
  (s2Seq (s2If (t2T (t2CB c2Isi (t2Cons (t2Var 1) (t2Cons (t2Raw (.ty "int")) t2Nil)))) (s2Ret (t2AndV (t2CB c2Isi (t2Cons (t2Var 0) (t2Cons (t2Raw (.ty "int")) t2Nil))) (t2AndV (t2NotV (t2CB c2Isi (t2Cons (t2Var 0) (t2Cons (t2Raw (.ty "bool")) t2Nil)))) (t2Op (q2Eq false) (t2Var 0) (t2Var 1))))) s2Next)
  (s2Ret (t2AndV (t2CB c2Isi (t2Cons (t2Var 0) (t2Cons (t2Raw (.ty "str")) t2Nil))) (t2Op (q2Eq false) (t2Var 0) (t2Var 1)))))))))
def t__law_same (d2 : Nat) : TS2 := (s2Seq (s2If (t2T (t2Isi2 (t2Var 1) "tuple" "list")) (s2Seq (s2If (t2Or (t2B (t2Op (q2Eq true) (t2CB c2Isi (t2Cons (t2Var 1) (t2Cons (t2Raw (.ty "tuple")) t2Nil))) (t2CB c2Isi (t2Cons (t2Var 0) (t2Cons (t2Raw (.ty "tuple")) t2Nil))))) (t2Or (t2Not (t2T (t2Isi2 (t2Var 0) "tuple" "list"))) (t2B (t2Op (q2Eq true) (t2CB c2Len (t2Cons (t2Var 0) t2Nil)) (t2CB c2Len (t2Cons (t2Var 1) t2Nil)))))) (s2Ret (t2C (.bool false))) s2Next)
  (s2Ret (t2Op (q2Eq false) (t2Sc (t2Lc2 (i2Zip (t2Var 0) (t2Var 1)) 2 3 (t2Not (t2T (t2Call (sp__law_same_d d2) (t2Cons (t2Var 2) (t2Cons (t2Var 3) t2Nil))))) (t2C (.int 0)))) (t2Sc (t2Lst t2Nil))))) s2Next)
  (s2Seq (s2If (t2B (t2Op (q2Is false) (t2Var 1) (t2C .none))) (s2Ret (t2Op (q2Is false) (t2Var 0) (t2C .none))) s2Next)
  (s2Seq (s2If (t2B (t2Op (q2IsB false) (t2Var 1) (t2C (.bool true)))) (s2Ret (t2Op (q2IsB false) (t2Var 0) (t2C (.bool true)))) s2Next)
  (s2Seq (s2If (t2B (t2Op (q2IsB false) (t2Var 1) (t2C (.bool false)))) (s2Ret (t2Op (q2IsB false) (t2Var 0) (t2C (.bool false)))) s2Next)
  (s2Seq (s2If (t2T (t2CB c2Isi (t2Cons (t2Var 1) (t2Cons (t2Raw (.ty "int")) t2Nil)))) (s2Ret (t2AndV (t2CB c2Isi (t2Cons (t2Var 0) (t2Cons (t2Raw (.ty "int")) t2Nil))) (t2AndV (t2NotV (t2CB c2Isi (t2Cons (t2Var 0) (t2Cons (t2Raw (.ty "bool")) t2Nil)))) (t2Op (q2Eq false) (t2Var 0) (t2Var 1))))) s2Next)
  (s2Ret (t2AndV (t2CB c2Isi (t2Cons (t2Var 0) (t2Cons (t2Raw (.ty "str")) t2Nil))) (t2Op (q2Eq false) (t2Var 0) (t2Var 1)))))))))
theorem zip_self {xs : List PyData} {k : Nat} {z : PyData} (h : (zipD xs xs)[k]? = some z) : ∃ x, x ∈ xs ∧ z = .tuple [x, x] := by
  unfold zipD at h
  rw [List.getElem?_zipWith] at h
  cases e : xs[k]? with
  | none => rw [e] at h; cases h
  | some x => rw [e] at h; exact ⟨x, List.mem_of_getElem? e, by cases h; rfl⟩
theorem zip_none (xs : List PyData) : ((zipD xs xs).filter fun _ => false).map id = [] := by simp
theorem eqv_str (s : Str) : PyData.eqv (.str s) (.str s) = true := by simp [PyData.eqv]
theorem pure__law_same_0 : Does ["value", "due", "one", "other"] t__law_same_0 (sp__law_same_d 0) := by
  refine does_i fun exf ds Q h => ?_
  obtain ⟨x, rfl, hx, q⟩ := h
  walk_at "go"
  unfold t__law_same_0
  cases x with
  | none => walk_at "st"; exact q
  | bool b =>
    cases b
    · walk_at "st"; exact q
    · walk_at "st"; exact q
  | int i =>
    walk_at "st"
    simpa using q
  | str s =>
    walk_at "st"
    refine k_eqD rfl rfl ?_ ⟨shaped_str hx, shaped_str hx⟩
    rw [eqv_str]
    walk_at "st"
    exact q
  | _ => cases hx
theorem pure__law_same (d2 : Nat) : Does ["value", "due", "one", "other"] (t__law_same d2) (sp__law_same_d (d2 + 1)) := by
  refine does_i fun exf ds Q h => ?_
  obtain ⟨x, rfl, hx, q⟩ := h
  walk_at "go"
  unfold t__law_same
  cases x with
  | none => walk_at "st"; exact q
  | bool b =>
    cases b
    · walk_at "st"; exact q
    · walk_at "st"; exact q
  | int i =>
    walk_at "st"
    simpa using q
  | str s =>
    walk_at "st"
    refine k_eqD rfl rfl ?_ ⟨shaped_str hx, shaped_str hx⟩
    rw [eqv_str]
    walk_at "st"
    exact q
  | tuple xs =>
    obtain ⟨hl, ha⟩ : xs.length < 16777216 ∧ ∀ x ∈ xs, okS d2 x = true := by
      simp only [okS, Bool.and_eq_true, decide_eq_true_eq, List.all_eq_true] at hx
      exact hx
    walk_at "st"
    refine k_dect (fun _ => ?_) (fun h => absurd rfl h)
    walk_at "st"
    refine lc_f (fun _ => false) id (fun k z hz => ?_) bind2_mono ?_
    · obtain ⟨x, hx, rfl⟩ := zip_self hz
      walk_at "st"
      refine ⟨_, rfl, ha x hx, ?_⟩
      walk_at "st"
      exact lc_n hz rfl rfl
    · rw [zip_none]
      walk_at "st"
      refine k_eqD rfl rfl ?_ ⟨shaped_lnil, shaped_lnil⟩
      rw [eqv_lnil]
      walk_at "st"
      exact q
  | list xs =>
    obtain ⟨hl, ha⟩ : xs.length < 16777216 ∧ ∀ x ∈ xs, okS d2 x = true := by
      simp only [okS, Bool.and_eq_true, decide_eq_true_eq, List.all_eq_true] at hx
      exact hx
    walk_at "st"
    refine k_dect (fun _ => ?_) (fun h => absurd rfl h)
    walk_at "st"
    refine lc_f (fun _ => false) id (fun k z hz => ?_) bind2_mono ?_
    · obtain ⟨x, hx, rfl⟩ := zip_self hz
      walk_at "st"
      refine ⟨_, rfl, ha x hx, ?_⟩
      walk_at "st"
      exact lc_n hz rfl rfl
    · rw [zip_none]
      walk_at "st"
      refine k_eqD rfl rfl ?_ ⟨shaped_lnil, shaped_lnil⟩
      rw [eqv_lnil]
      walk_at "st"
      exact q
  | dict k => cases hx
abbrev sp__law_same : Sp2 := sp__law_same_d 3
theorem same_ints {exf : EXF} {Q : DV → Prop} {xs ys : List Int} (h : xs = ys) (hl : ys.length < 16777216) (q : Q (.d (.bool true))) : sp__law_same exf [.d (tI xs), .d (tI ys)] Q := by
  subst h
  exact ⟨_, rfl, okS_tI hl, q⟩
theorem same_list {exf : EXF} {Q : DV → Prop} {xs ys : List Int} (h : xs = ys) (hl : ys.length < 16777216) (q : Q (.d (.bool true))) : sp__law_same exf [.d (lI xs), .d (lI ys)] Q := by
  subst h
  refine ⟨_, rfl, ?_, q⟩
  simp only [okS, List.length_map, hl, decide_true, Bool.true_and, List.all_map, List.all_eq_true]
  intro x _
  rfl
theorem same_int {exf : EXF} {Q : DV → Prop} {a b : Int} (h : a = b) (q : Q (.d (.bool true))) : sp__law_same exf [.d (.int a), .d (.int b)] Q := by
  subst h; exact ⟨_, rfl, rfl, q⟩
end LW

set_option maxHeartbeats 2000000
/-! PH: clocks, what formulas tell, products, formulas behind one another, derivatives. -/
namespace LW
open LM
/-- a clock -/
def isClk : PyData → Bool
  | .int i => decide (1 ≤ i) && decide (i ≤ 10000000000000000000000000000000000000000)
  | _ => false
def sp_is_clock : Sp2 := fun _ ds Q => ∃ x, ds = [.d x] ∧ Q (.d (.bool (isClk x)))
theorem mono_is_clock : MonoSp sp_is_clock := fun _ _ _ _ h ⟨x, e, q⟩ => ⟨x, e, h _ q⟩
theorem len_is_clock : ∀ exf ds Q, sp_is_clock exf ds Q → ds.length = 1 := fun _ _ _ ⟨_, e, _⟩ => by rw [e]; rfl
def t_is_clock : TS2 := (s2Ret (t2AndV (t2Call sp_is_integer (t2Cons (t2Var 0) t2Nil)) (t2Chain (q2I0 fun i j => .bool (decide (i ≤ j))) (q2I0 fun i j => .bool (decide (i ≤ j))) (t2C (.int 1)) (t2Var 0) (t2C (.int 10000000000000000000000000000000000000000)))))
theorem pure_is_clock : Does ["value"] t_is_clock sp_is_clock := by
  refine does_i fun exf ds Q h => ?_
  obtain ⟨x, rfl, q⟩ := h
  walk_at "go"
  unfold t_is_clock
  walk_at "st"
  refine ⟨_, rfl, ?_⟩
  walk_at "st"
  cases x with
  | int i =>
    walk_at "st"
    refine k_dec (fun h => ?_) (fun h => ?_)
    · walk_at "st"
      have e : isClk (.int i) = decide (i ≤ 10000000000000000000000000000000000000000) := by simp [isClk, h]
      rw [← e]; exact q
    · walk_at "st"
      have e : isClk (.int i) = false := by simp [isClk, h]
      rw [← e]; exact q
  | _ => walk_at "st"; exact q
theorem clk_int {m : Int} (h1 : 1 ≤ m) (h2 : m ≤ 10000000000000000000000000000000000000000) : isClk (.int m) = true := by simp [isClk, h1, h2]
def sp_checked_clock : Sp2 := fun _ ds Q => ∃ x, ds = [.d x] ∧ isClk x = true ∧ Q (.d .none)
theorem mono_checked_clock : MonoSp sp_checked_clock := fun _ _ _ _ h ⟨x, e, f, q⟩ => ⟨x, e, f, h _ q⟩
theorem len_checked_clock : ∀ exf ds Q, sp_checked_clock exf ds Q → ds.length = 1 := fun _ _ _ ⟨_, e, _⟩ => by rw [e]; rfl
def t_checked_clock : TS2 := (s2If (t2Not (t2T (t2Call sp_is_clock (t2Cons (t2Var 0) t2Nil)))) s2Never s2Next)
theorem pure_checked_clock : Does ["m"] t_checked_clock sp_checked_clock := by
  refine does_i fun exf ds Q h => ?_
  obtain ⟨x, rfl, hx, q⟩ := h
  walk_at "go"
  unfold t_checked_clock
  walk_at "st"
  refine ⟨_, rfl, ?_⟩
  rw [hx]
  walk_at "st"
  exact q
def sp_told_at : Sp2 := fun _ ds Q => ∃ m xs x, ds = [.d (.int m), .d (tI xs), .d (.int x)] ∧ isClk (.int m) = true ∧ xs.length ≤ 61 ∧ x.natAbs < 2 ^ 900000 ∧ Q (.d (.int (ev xs x % m)))
theorem mono_told_at : MonoSp sp_told_at := fun _ _ _ _ h ⟨a, b, c, d, e, f, g, q⟩ => ⟨a, b, c, d, e, f, g, h _ q⟩
theorem len_told_at : ∀ exf ds Q, sp_told_at exf ds Q → ds.length = 3 := fun _ _ _ ⟨_, _, _, e, _⟩ => by rw [e]; rfl
def t_told_at : TS2 := (s2Seq (s2Drop (t2Call sp_checked_clock (t2Cons (t2Var 0) t2Nil)))
  (s2Seq (s2Drop (t2Call sp_checked_formulas (t2Cons (t2Var 1) t2Nil)))
  (s2Seq (s2If (t2Not (t2T (t2Call sp_is_integer (t2Cons (t2Var 2) t2Nil)))) s2Never s2Next)
  (s2Seq (s2Asg (t2C (.int 0)) (g2Name 3))
  (s2Seq (s2For (i2Rev (t2Var 1)) (g2Name 4) (s2Asg (t2Op (q2I (fun _ j => 0 < j) fun i j => .int (i % j)) (t2Op q2Add (t2Op q2Mul (t2Var 3) (t2Var 2)) (t2Var 4)) (t2Var 0)) (g2Name 3)))
  (s2Ret (t2Var 3)))))))
theorem clk_of {m : Int} (h : isClk (.int m) = true) : 1 ≤ m ∧ m ≤ 10000000000000000000000000000000000000000 := by simpa [isClk] using h
theorem pure_told_at : Does ["m", "formula", "x", "total", "one"] t_told_at sp_told_at := by
  refine does_i fun exf ds Q h => ?_
  obtain ⟨m, xs, x, rfl, hm, hl, hx, q⟩ := h
  have hm2 := clk_of hm
  walk_at "go"
  unfold t_told_at
  walk_at "st"
  refine ⟨_, rfl, hm, ?_⟩
  walk_at "st"
  refine checked1 hl ?_
  walk_at "st"
  refine ⟨_, rfl, ?_⟩
  walk_at "st"
  have hmod : ∀ a : Int, 0 ≤ a % m ∧ a % m < m := fun a => ⟨Int.emod_nonneg _ (by omega), Int.emod_lt_of_pos _ (by omega)⟩
  refine for_ii (fun k st => ∃ a, st = ⟨[some (.d (.int m)), some (.d (tI xs)), some (.d (.int x)), some (.d (.int (ev (xs.drop (xs.length - k)) x % m))), a], []⟩) ⟨_, by rw [Nat.sub_zero, List.drop_length]; rfl⟩ (fun i x' st' hx' hI => ?_) (fun st' hI => ?_)
  · obtain ⟨a, rfl⟩ := hI
    obtain ⟨hi, rfl⟩ := rev_int hx'
    have hj : xs.length - 1 - i < xs.length := by omega
    have e0 : xs.length - (i + 1) = xs.length - 1 - i := by omega
    have e1 : xs.drop (xs.length - 1 - i) = xs[xs.length - 1 - i] :: xs.drop (xs.length - i) := by
      rw [drop_pre hj]; congr 2; omega
    have h2 := hmod (ev (xs.drop (xs.length - i)) x)
    walk_at "st"
    case hc => exact (by omega : (0 : Int) < m)
    case hc => exact cmul (p := 134) (by omega) hx (by omega)
    rw [e0, e1, ev]
    refine ⟨some (.d (.int xs[xs.length - 1 - i])), ?_⟩
    congr 5
    rw [Int.add_emod, Int.mul_emod, Int.emod_emod, ← Int.mul_emod, ← Int.add_emod, Int.mul_comm, Int.add_comm]
  · obtain ⟨a, rfl⟩ := hI
    rw [List.length_reverse, List.length_map]
    walk_at "st"
    rw [Nat.sub_self]; exact q
def sp__law_small_clock : Sp2 := fun _ ds Q => ∃ most : Int, ds = [.deal, .d (.int most)] ∧ 1 ≤ most ∧ most < 4194304 ∧ ∀ v : Int, 1 ≤ v → v ≤ most → Q (.d (.int v))
theorem mono__law_small_clock : MonoSp sp__law_small_clock := fun _ _ _ _ h ⟨a, b, c, d, q⟩ => ⟨a, b, c, d, fun v h1 h2 => h _ (q v h1 h2)⟩
theorem len__law_small_clock : ∀ exf ds Q, sp__law_small_clock exf ds Q → ds.length = 2 := fun _ _ _ ⟨_, e, _⟩ => by rw [e]; rfl
def t__law_small_clock : TS2 := (s2Seq (s2Asg (t2Sc (t2Lc1 (i2Seq (t2Sc (t2Lst (t2Cons (t2C (.int 1)) (t2Cons (t2C (.int 2)) (t2Cons (t2C (.int 3)) (t2Cons (t2C (.int 4)) (t2Cons (t2C (.int 5)) (t2Cons (t2C (.int 6)) (t2Cons (t2C (.int 7)) (t2Cons (t2C (.int 8)) (t2Cons (t2C (.int 9)) (t2Cons (t2C (.int 10)) (t2Cons (t2C (.int 12)) (t2Cons (t2C (.int 16)) (t2Cons (t2C (.int 18)) (t2Cons (t2C (.int 24)) (t2Cons (t2C (.int 25)) (t2Cons (t2C (.int 27)) (t2Cons (t2C (.int 32)) (t2Cons (t2C (.int 36)) (t2Cons (t2C (.int 48)) (t2Cons (t2C (.int 49)) (t2Cons (t2C (.int 60)) (t2Cons (t2C (.int 64)) (t2Cons (t2C (.int 81)) (t2Cons (t2C (.int 120)) (t2Cons (t2C (.int 125)) (t2Cons (t2C (.int 128)) (t2Cons (t2C (.int 240)) (t2Cons (t2C (.int 243)) (t2Cons (t2C (.int 256)) (t2Cons (t2C (.int 360)) (t2Cons (t2C (.int 512)) (t2Cons (t2C (.int 600)) t2Nil))))))))))))))))))))))))))))))))))) 3 (t2B (t2Op (q2I0 fun i j => .bool (decide (i ≤ j))) (t2Var 3) (t2Var 1))) (t2Var 3))) (g2Name 2))
  (s2Ret (t2Call sp__law_of (t2Cons (t2Var 0) (t2Cons (t2Sc (t2Lst (t2Cons (t2Call sp__law_of (t2Cons (t2Var 0) (t2Cons (t2Var 2) t2Nil))) (t2Cons (t2Call sp__law_of (t2Cons (t2Var 0) (t2Cons (t2Var 2) t2Nil))) (t2Cons (t2Op q2Add (t2C (.int 1)) (t2Call sp__law_any (t2Cons (t2Var 0) (t2Cons (t2Var 1) t2Nil)))) t2Nil))))) t2Nil)))))
def smalls : List Int := [1, 2, 3, 4, 5, 6, 7, 8, 9, 10, 12, 16, 18, 24, 25, 27, 32, 36, 48, 49, 60, 64, 81, 120, 125, 128, 240, 243, 256, 360, 512, 600]
def leD (b : Int) : PyData → Bool
  | .int i => decide (i ≤ b)
  | _ => false
theorem filter_leD (xs : List Int) (b : Int) : ((xs.map PyData.int).filter (leD b)).map id = (xs.filter fun i => decide (i ≤ b)).map PyData.int := by
  rw [List.map_id, List.filter_map]; rfl
theorem pure__law_small_clock : Does ["deal", "most", "some", "m"] t__law_small_clock sp__law_small_clock := by
  refine does_i fun exf ds Q h => ?_
  obtain ⟨most, rfl, h0, h1, q⟩ := h
  walk_at "go"
  unfold t__law_small_clock
  walk_at "st"
  refine lc_f (items := smalls.map PyData.int) (leD most) id (fun k x hx => ?_) bind1_mono ?_
  · obtain ⟨hi, rfl⟩ := int_get hx
    walk_at "st"
    refine k_dec (fun h => ?_) (fun h => ?_)
    · walk_at "st"
      exact lc_y hx (by decide) (by simpa [leD] using h) rfl rfl
    · exact lc_n hx (by simpa [leD] using h) rfl
  rw [filter_leD]
  generalize hcs : (smalls.filter fun i => decide (i ≤ most)) = cs
  have hc1 : 0 < cs.length := by
    have : (1 : Int) ∈ cs := by
      rw [← hcs]; exact List.mem_filter.mpr ⟨by decide, by simpa using h0⟩
    exact List.length_pos_iff.mpr (List.ne_nil_of_mem this)
  have hc2 : cs.length < 4194304 := by
    rw [← hcs]; exact Nat.lt_of_le_of_lt (List.length_filter_le _ _) (by decide)
  have hin : ∀ c ∈ cs, 1 ≤ c ∧ c ≤ most := fun c hc => by
    rw [← hcs] at hc
    obtain ⟨h1, h2⟩ := List.mem_filter.mp hc
    refine ⟨?_, by simpa using h2⟩
    have : ∀ i ∈ smalls, (1 : Int) ≤ i := by decide
    exact this c h1
  walk_at "st"
  refine of_ints (xs := cs) ⟨hc1, hc2⟩ fun a ha => ?_
  walk_at "st"
  refine of_ints (xs := cs) ⟨hc1, hc2⟩ fun b hb => ?_
  walk_at "st"
  refine any_of (by omega) fun r r0 r1 => ?_
  walk_at "st"
  refine of_ints (xs := [a, b, 1 + r]) (by simp) fun v hv => ?_
  walk_at "st"
  have : 1 ≤ v ∧ v ≤ most := by
    simp only [List.mem_cons, List.not_mem_nil, or_false] at hv
    rcases hv with rfl | rfl | rfl
    · exact hin _ ha
    · exact hin _ hb
    · omega
  exact q v this.1 this.2
def sp__law_clock : Sp2 := fun _ ds Q => ds = [.deal] ∧ ∀ v : Int, 1 ≤ v → v ≤ 10000000000000000000000000000000000000000 → Q (.d (.int v))
theorem mono__law_clock : MonoSp sp__law_clock := fun _ _ _ _ h ⟨a, q⟩ => ⟨a, fun v h1 h2 => h _ (q v h1 h2)⟩
theorem len__law_clock : ∀ exf ds Q, sp__law_clock exf ds Q → ds.length = 1 := fun _ _ _ ⟨e, _⟩ => by rw [e]; rfl
def t__law_clock : TS2 := (s2Seq (s2Par 1 2 (t2C (.int 1)) (t2Call sp__law_of (t2Cons (t2Var 0) (t2Cons (t2Sc (t2Lst (t2Cons (t2C (.int 2)) (t2Cons (t2C (.int 2)) (t2Cons (t2C (.int 3)) (t2Cons (t2C (.int 6)) (t2Cons (t2C (.int 10)) (t2Cons (t2C (.int 5)) t2Nil)))))))) t2Nil))))
  (s2Seq (s2For (i2Rng1 (t2Call sp__law_any (t2Cons (t2Var 0) (t2Cons (t2C (.int 40)) t2Nil)))) (g2Name 3) (s2Asg (t2Op q2Mul (t2Var 1) (t2Var 2)) (g2Name 1)))
  (s2Ret (t2Call sp__law_of (t2Cons (t2Var 0) (t2Cons (t2Sc (t2Lst (t2Cons (t2Call sp__law_small_clock (t2Cons (t2Var 0) (t2Cons (t2C (.int 600)) t2Nil))) (t2Cons (t2CB (c2Two fun i j => if j < i then j else i) (t2Cons (t2Var 1) (t2Cons (t2Op (q2I CPow fun i j => .int (i ^ j.toNat)) (t2C (.int 10)) (t2C (.int 40))) t2Nil))) (t2Cons (t2Op q2Add (t2C (.int 1)) (t2Call sp__law_any (t2Cons (t2Var 0) (t2Cons (t2Op (q2I CPow fun i j => .int (i ^ j.toNat)) (t2C (.int 10)) (t2C (.int 9))) t2Nil)))) (t2Cons (t2Op (q2I0 fun i j => .int (i - j)) (t2Op (q2I CPow fun i j => .int (i ^ j.toNat)) (t2C (.int 10)) (t2C (.int 40))) (t2Call sp__law_any (t2Cons (t2Var 0) (t2Cons (t2C (.int 3)) t2Nil)))) t2Nil)))))) t2Nil))))))
theorem pure__law_clock : Does ["deal", "found", "base", "turn"] t__law_clock sp__law_clock := by
  refine does_i fun exf ds Q h => ?_
  obtain ⟨rfl, q⟩ := h
  have e9 : (10 : Int) ^ (9 : Int).toNat = 1000000000 := rfl
  have e40 : (10 : Int) ^ (40 : Int).toNat = 10000000000000000000000000000000000000000 := rfl
  walk_at "go"
  unfold t__law_clock
  walk_at "st"
  refine of_ints (xs := [2, 2, 3, 6, 10, 5]) (by simp) fun base hb => ?_
  have hb2 : 2 ≤ base ∧ base ≤ 10 := by
    simp only [List.mem_cons, List.not_mem_nil, or_false] at hb
    rcases hb with rfl | rfl | rfl | rfl | rfl | rfl <;> omega
  walk_at "st"
  refine any_of (by omega) fun cnt c0 c1 => ?_
  walk_at "st"
  case hz => omega
  refine for_ii (fun k st => ∃ f a, st = ⟨[some .deal, some (.d (.int f)), some (.d (.int base)), a], []⟩ ∧ 1 ≤ f ∧ f.natAbs < 2 ^ (1 + 4 * k)) ⟨_, _, rfl, by omega, by decide⟩ (fun i x st' hx hI => ?_) (fun st' hI => ?_)
  · obtain ⟨f, a, rfl, hf, hfb⟩ := hI
    obtain ⟨hi, rfl⟩ := range_get hx
    walk_at "st"
    case hc => exact cmul (q := 4) hfb (by omega) (by omega)
    refine ⟨_, _, rfl, ?_, ?_⟩
    · have := Int.mul_le_mul hf (show (1 : Int) ≤ base by omega) (by omega) (by omega)
      omega
    · rw [Int.natAbs_mul, Nat.mul_add, ← Nat.add_assoc, Nat.pow_add]
      exact Nat.mul_lt_mul'' hfb (by omega)
  · obtain ⟨f, a, rfl, hf, _⟩ := hI
    walk_at "st"
    refine ⟨600, rfl, by omega, by omega, fun v1 h1 h2 => ?_⟩
    walk_at "st"
    case hc => exact ⟨by decide, by decide, by decide⟩
    case hc => exact ⟨by decide, by decide, by decide⟩
    rw [e40, e9]
    refine any_of (by omega) fun r r0 r1 => ?_
    walk_at "st"
    case hc => exact ⟨by decide, by decide, by decide⟩
    rw [e40]
    refine any_of (by omega) fun r2 r20 r21 => ?_
    walk_at "st"
    refine of_ints (xs := [v1, if 10000000000000000000000000000000000000000 < f then 10000000000000000000000000000000000000000 else f, 1 + r, 10000000000000000000000000000000000000000 - r2]) (by simp) fun v hv => ?_
    walk_at "st"
    have : 1 ≤ v ∧ v ≤ 10000000000000000000000000000000000000000 := by
      simp only [List.mem_cons, List.not_mem_nil, or_false] at hv
      rcases hv with rfl | rfl | rfl | rfl
      · omega
      · split <;> omega
      · omega
      · omega
    exact q v this.1 this.2
def sp_function_of : Sp2 := fun _ ds Q => ∃ m xs, ds = [.d (.int m), .d (tI xs)] ∧ 1 ≤ m ∧ m ≤ 600 ∧ xs.length ≤ 61 ∧ Q (.d (tI ((List.range m.toNat).map fun (i : Nat) => ev xs (i : Int) % m)))
theorem mono_function_of : MonoSp sp_function_of := fun _ _ _ _ h ⟨a, b, c, d, e, f, q⟩ => ⟨a, b, c, d, e, f, h _ q⟩
theorem len_function_of : ∀ exf ds Q, sp_function_of exf ds Q → ds.length = 2 := fun _ _ _ ⟨_, _, e, _⟩ => by rw [e]; rfl
def t_function_of : TS2 := (s2Seq (s2Drop (t2Call sp_checked_clock (t2Cons (t2Var 0) t2Nil)))
  (s2Seq (s2Drop (t2Call sp_checked_formulas (t2Cons (t2Var 1) t2Nil)))
  (s2Seq (s2If (t2B (t2Op (q2I0 fun i j => .bool (decide (j < i))) (t2Var 0) (t2C (.int 600)))) s2Never s2Next)
  (s2Seq (s2Asg (t2Sc (t2Lc1 (i2Seq (t2Var 1)) 3 t2Yes (t2Op (q2I (fun _ j => 0 < j) fun i j => .int (i % j)) (t2Var 3) (t2Var 0)))) (g2Name 2))
  (s2Ret (t2CB c2Tuple (t2Cons (t2Sc (t2Lc1 (i2Rng1 (t2Var 0)) 4 t2Yes (t2Op (q2I (fun _ j => 0 < j) fun i j => .int (i % j)) (t2Call sp_value_at (t2Cons (t2Var 2) (t2Cons (t2Var 4) t2Nil))) (t2Var 0)))) t2Nil)))))))
def modD (m : Int) : PyData → PyData
  | .int i => .int (i % m)
  | y => y
theorem map_modD (xs : List Int) (m : Int) : (xs.map PyData.int).map (modD m) = (xs.map (· % m)).map PyData.int := by simp [modD]
def evD (xs : List Int) (m : Int) : PyData → PyData
  | .int i => .int (ev xs i % m)
  | y => y
theorem map_evD (xs : List Int) (m : Int) (n : Nat) : (rangeD 0 n).map (evD xs m) = ((List.range n).map fun (i : Nat) => ev xs (i : Int) % m).map PyData.int := by
  simp only [rangeD, List.map_map]
  apply List.map_congr_left
  intro i _
  simp [evD]
theorem pure_function_of : Does ["m", "formula", "rests", "one", "x"] t_function_of sp_function_of := by
  refine does_i fun exf ds Q h => ?_
  obtain ⟨m, xs, rfl, h0, h1, hl, q⟩ := h
  have hmod : ∀ a : Int, 0 ≤ a % m ∧ a % m < m := fun a => ⟨Int.emod_nonneg _ (by omega), Int.emod_lt_of_pos _ (by omega)⟩
  walk_at "go"
  unfold t_function_of
  walk_at "st"
  refine ⟨_, rfl, clk_int h0 (by omega), ?_⟩
  walk_at "st"
  refine checked1 hl ?_
  walk_at "st"
  refine k_dec (fun h => by omega) (fun _ => ?_)
  walk_at "st"
  refine lc_m (modD m) (fun k x hx => ?_) bind1_mono ?_
  · obtain ⟨hi, rfl⟩ := int_get hx
    walk_at "st"
    case hc => exact (by omega : (0 : Int) < m)
    exact lc_fin hx (by rw [List.length_map]; omega) rfl rfl
  rw [map_modD]
  have hb : nm (xs.map (· % m)) < 2 ^ 16 := by
    refine Nat.lt_of_le_of_lt (nm_le (m := 600) fun a ha => ?_) ?_
    · obtain ⟨b, _, rfl⟩ := List.mem_map.mp ha
      have := hmod b; omega
    · rw [List.length_map]; omega
  walk_at "st"
  case hz => omega
  refine lc_m (evD xs m) (fun k x hx => ?_) bind1_mono ?_
  · obtain ⟨hi, rfl⟩ := range_get hx
    walk_at "st"
    refine ⟨_, xs.map (· % m), _, 16, 10, rfl, .inr rfl, hb, by omega, by rw [List.length_map]; omega, ?_⟩
    walk_at "st"
    case hc => exact (by omega : (0 : Int) < m)
    exact lc_fin hx (by rw [range_len]; omega) (by rw [ev_map_mod]; rfl) rfl
  rw [map_evD]
  walk_at "st"
  exact q
def sp_fitting : Sp2 := fun _ ds Q => ∃ xs, ds = [.d (tI xs)] ∧ xs.length < 16777216 ∧ (tr xs).length ≤ 61 ∧ Q (.d (tI (tr xs)))
theorem mono_fitting : MonoSp sp_fitting := fun _ _ _ _ h ⟨a, b, c, d, q⟩ => ⟨a, b, c, d, h _ q⟩
theorem len_fitting : ∀ exf ds Q, sp_fitting exf ds Q → ds.length = 1 := fun _ _ _ ⟨_, e, _⟩ => by rw [e]; rfl
def t_fitting : TS2 := (s2Seq (s2Asg (t2Call sp_trimmed (t2Cons (t2Var 0) t2Nil)) (g2Name 1))
  (s2Seq (s2If (t2B (t2Op (q2I0 fun i j => .bool (decide (j < i))) (t2CB c2Len (t2Cons (t2Var 1) t2Nil)) (t2C (.int 61)))) s2Never s2Next)
  (s2Ret (t2Var 1))))
theorem pure_fitting : Does ["row", "left"] t_fitting sp_fitting := by
  refine does_i fun exf ds Q h => ?_
  obtain ⟨xs, rfl, h0, h1, q⟩ := h
  walk_at "go"
  unfold t_fitting
  walk_at "st"
  refine ⟨_, xs, rfl, .inl rfl, h0, ?_⟩
  walk_at "st"
  refine k_dec (fun h => by rw [List.length_map] at h; omega) (fun _ => ?_)
  walk_at "st"
  exact q
def sp_product : Sp2 := fun _ ds Q => ∃ xs ys B C, ds = [.d (tI xs), .d (tI ys)] ∧ xs.length ≤ 61 ∧ ys.length ≤ 61 ∧ (tr (rm xs ys)).length ≤ 61 ∧ nm xs < 2 ^ B ∧ nm ys < 2 ^ C ∧ B + C ≤ 900000 ∧ Q (.d (tI (tr (rm xs ys))))
theorem mono_product : MonoSp sp_product := fun _ _ _ _ h ⟨a, b, c, d, e, f, g, i, j, k, l, q⟩ => ⟨a, b, c, d, e, f, g, i, j, k, l, h _ q⟩
theorem len_product : ∀ exf ds Q, sp_product exf ds Q → ds.length = 2 := fun _ _ _ ⟨_, _, _, _, e, _⟩ => by rw [e]; rfl
def t_product : TS2 := (s2Seq (s2Drop (t2Call sp_checked_formulas (t2Cons (t2Var 0) (t2Cons (t2Var 1) t2Nil))))
  (s2Ret (t2Call sp_fitting (t2Cons (t2Call sp_row_product (t2Cons (t2Var 0) (t2Cons (t2Var 1) t2Nil))) t2Nil))))
theorem rm_len2 (xs ys : List Int) : (rm xs ys).length ≤ xs.length + ys.length := by
  induction xs with
  | nil => simp [rm]
  | cons a r ih => simp only [rm, radd_len, List.length_map, List.length_cons]; omega
theorem pure_product : Does ["one", "other"] t_product sp_product := by
  refine does_i fun exf ds Q h => ?_
  obtain ⟨xs, ys, B, C, rfl, hx, hy, hl, hB, hC, hBC, q⟩ := h
  have h1 := tr_len (rm xs ys)
  have h2 := rm_len2 xs ys
  walk_at "go"
  unfold t_product
  walk_at "st"
  refine checked2 hx hy ?_
  walk_at "st"
  refine ⟨_, xs, _, ys, rfl, .inl rfl, .inl rfl, by omega, by omega, fun a ha b hb => cmul (nm_lt hB ha) (nm_lt hC hb) (by omega), ?_⟩
  walk_at "st"
  refine ⟨_, rfl, by omega, by rw [tr_tr]; exact hl, ?_⟩
  walk_at "st"
  rw [tr_tr]; exact q
def degD (xs : List Int) : PyData := if tr xs = [] then .none else .int ((tr xs).length - 1)
def sp_degree : Sp2 := fun _ ds Q => ∃ xs, ds = [.d (tI xs)] ∧ xs.length ≤ 61 ∧ Q (.d (degD xs))
theorem mono_degree : MonoSp sp_degree := fun _ _ _ _ h ⟨a, b, c, q⟩ => ⟨a, b, c, h _ q⟩
theorem len_degree : ∀ exf ds Q, sp_degree exf ds Q → ds.length = 1 := fun _ _ _ ⟨_, e, _⟩ => by rw [e]; rfl
def t_degree : TS2 := (s2Seq (s2Drop (t2Call sp_checked_formulas (t2Cons (t2Var 0) t2Nil)))
  (s2Seq (s2Asg (t2Call sp_trimmed (t2Cons (t2Var 0) t2Nil)) (g2Name 1))
  (s2Ret (t2If (t2B (t2Op (q2Eq true) (t2Var 1) (t2Tup t2Nil))) (t2Op (q2I0 fun i j => .int (i - j)) (t2CB c2Len (t2Cons (t2Var 1) t2Nil)) (t2C (.int 1))) (t2C .none)))))
theorem pure_degree : Does ["formula", "left"] t_degree sp_degree := by
  refine does_i fun exf ds Q h => ?_
  obtain ⟨xs, rfl, hx, q⟩ := h
  walk_at "go"
  unfold t_degree
  walk_at "st"
  refine checked1 hx ?_
  walk_at "st"
  refine ⟨_, xs, rfl, .inl rfl, by omega, ?_⟩
  walk_at "st"
  refine k_eqD rfl rfl ?_ ⟨shaped_tints _, shaped_tnil⟩
  rw [eqv_tI_nil]
  walk_at "st"
  unfold degD at q
  refine k_dect (fun e => ?_) (fun e => ?_)
  · rw [if_pos e] at q
    walk_at "st"
    exact q
  · rw [if_neg e] at q
    walk_at "st"
    rw [List.length_map]; exact q
def sp_behind : Sp2 := fun _ ds Q => ∃ xs ys B C, ds = [.d (tI xs), .d (tI ys)] ∧ xs.length ≤ 61 ∧ ys.length ≤ 61 ∧ (tr xs = [] ∨ tr ys = [] ∨ ((tr xs).length - 1) * ((tr ys).length - 1) ≤ 60) ∧ nm xs < 2 ^ B ∧ nm ys < 2 ^ C ∧ B + C * 64 ≤ 800000 ∧ Q (.d (tI (bh ys (tr xs))))
theorem mono_behind : MonoSp sp_behind := fun _ _ _ _ h ⟨a, b, c, d, e, f, g, i, j, k, l, q⟩ => ⟨a, b, c, d, e, f, g, i, j, k, l, h _ q⟩
theorem len_behind : ∀ exf ds Q, sp_behind exf ds Q → ds.length = 2 := fun _ _ _ ⟨_, _, _, _, e, _⟩ => by rw [e]; rfl
def t_behind : TS2 := (s2Seq (s2Drop (t2Call sp_checked_formulas (t2Cons (t2Var 0) (t2Cons (t2Var 1) t2Nil))))
  (s2Seq (s2Par 2 3 (t2Call sp_degree (t2Cons (t2Var 0) t2Nil)) (t2Call sp_degree (t2Cons (t2Var 1) t2Nil)))
  (s2Seq (s2If (t2And (t2B (t2Op (q2Is true) (t2Var 2) (t2C .none))) (t2And (t2B (t2Op (q2Is true) (t2Var 3) (t2C .none))) (t2B (t2Op (q2I0 fun i j => .bool (decide (j < i))) (t2Op q2Mul (t2Var 2) (t2Var 3)) (t2Op (q2I0 fun i j => .int (i - j)) (t2C (.int 61)) (t2C (.int 1))))))) s2Never s2Next)
  (s2Seq (s2Asg (t2Tup t2Nil) (g2Name 4))
  (s2Seq (s2For (i2Rev (t2Call sp_trimmed (t2Cons (t2Var 0) t2Nil))) (g2Name 5) (s2Asg (t2Call sp_row_sum (t2Cons (t2Call sp_row_product (t2Cons (t2Var 4) (t2Cons (t2Var 1) t2Nil))) (t2Cons (t2Tup (t2Cons (t2Var 5) t2Nil)) (t2Cons (t2C (.int 1)) t2Nil)))) (g2Name 4)))
  (s2Ret (t2Var 4)))))))
theorem behind_for {ys zs : List Int} {B C : Nat} {Q : DV → Prop} {ex : EX} {d1 d2 : Option DV} {y : PyData} {n2 : S → Prop} {b c : S → Prop} (hl : zs.length ≤ 61) (hy : ys.length ≤ 61) (hB : nm zs < 2 ^ B) (hC : nm ys < 2 ^ C) (hBC : B + C * 64 ≤ 800000) (q : Q (.d (tI (bh ys zs)))) :
    ∃ I : Nat → S → Prop, I 0 ⟨[some (.d y), some (.d (tI ys)), d1, d2, some (.d (.tuple [])), none], []⟩ ∧ (∀ i x st', (zs.map PyData.int).reverse[i]? = some x → I i st' → g2Name 5 ex (.d x) st' fun st2 => (s2Asg (t2Call sp_row_sum (t2Cons (t2Call sp_row_product (t2Cons (t2Var 4) (t2Cons (t2Var 1) t2Nil))) (t2Cons (t2Tup (t2Cons (t2Var 5) t2Nil)) (t2Cons (t2C (.int 1)) t2Nil)))) (g2Name 4)) ex ⟨I (i + 1), Q, s2Ret (t2Var 4) ex ⟨n2, Q, b, c⟩, I (i + 1)⟩ st2) ∧
      ∀ st', I (zs.map PyData.int).reverse.length st' → s2Ret (t2Var 4) ex ⟨n2, Q, b, c⟩ st' := by
  refine for_ii (r := Q) (st := ⟨[some (.d y), some (.d (tI ys)), d1, d2, some (.d (.tuple [])), none], []⟩) (fun k st => ∃ a, st = ⟨[some (.d y), some (.d (tI ys)), d1, d2, some (.d (tI (bh ys (zs.drop (zs.length - k))))), a], []⟩) ⟨none, by rw [Nat.sub_zero, List.drop_length]; rfl⟩ (fun i x st' hx hI => ?_) (fun st' hI => ?_)
  · obtain ⟨a, rfl⟩ := hI
    obtain ⟨hi, rfl⟩ := rev_int hx
    have hj : zs.length - 1 - i < zs.length := by omega
    have e0 : zs.length - (i + 1) = zs.length - 1 - i := by omega
    have e1 : zs.drop (zs.length - 1 - i) = zs[zs.length - 1 - i] :: zs.drop (zs.length - i) := by
      rw [drop_pre hj]; congr 2; omega
    have hnm : nm (bh ys (zs.drop (zs.length - i))) < 2 ^ (B + C * 64) := by
      refine Nat.lt_of_le_of_lt (Nat.le_trans (bh_nm ys _) (Nat.mul_le_mul_right _ (nm_drop _ _))) ?_
      exact pow_bound (x := (nm ys : Int)) hB (by simpa using hC) _ (by rw [List.length_drop]; omega)
    have hrl := bh_len ys (zs.drop (zs.length - i))
    rw [List.length_drop] at hrl
    have hrl2 : (bh ys (zs.drop (zs.length - i))).length ≤ 4000 := by
      refine Nat.le_trans hrl ?_
      have : (zs.length - (zs.length - i)) * ys.length ≤ 61 * 61 := Nat.mul_le_mul (by omega) hy
      omega
    have h3 := tr_len (rm (bh ys (zs.drop (zs.length - i))) ys)
    have h4 := rm_len2 (bh ys (zs.drop (zs.length - i))) ys
    have hCB : C ≤ 64 * C := by omega
    walk_at "st"
    refine ⟨_, _, _, _, rfl, .inl rfl, .inl rfl, by omega, by omega, fun x hx y hy => cmul (nm_lt hnm hx) (nm_lt hC hy) (by omega), ?_⟩
    walk_at "st"
    refine ⟨_, _, _, _, _, rfl, .inl rfl, .inl (show _ = tI [zs[zs.length - 1 - i]] from rfl), by omega, by simp, fun y hy => ?_, ?_⟩
    · rw [List.mem_singleton.mp hy]
      exact cmul one_small (nm_lt hB (List.getElem_mem hj)) (by omega)
    walk_at "st"
    rw [e0, e1, bh]
    exact ⟨_, rfl⟩
  · obtain ⟨a, rfl⟩ := hI
    rw [List.length_reverse, List.length_map]
    walk_at "st"
    rw [Nat.sub_self]; exact q
theorem pure_behind : Does ["one", "other", "near", "far", "found", "entry"] t_behind sp_behind := by
  refine does_i fun exf ds Q h => ?_
  obtain ⟨xs, ys, B, C, rfl, hx, hy, hd, hB, hC, hBC, q⟩ := h
  have hxt := tr_len xs
  have hyt := tr_len ys
  walk_at "go"
  unfold t_behind
  walk_at "st"
  refine checked2 hx hy ?_
  walk_at "st"
  refine ⟨xs, rfl, hx, ?_⟩
  walk_at "st"
  refine ⟨ys, rfl, hy, ?_⟩
  walk_at "st"
  have hdx : degD xs = .none ∨ ∃ a : Int, degD xs = .int a ∧ a = (tr xs).length - 1 ∧ tr xs ≠ [] := by
    unfold degD
    by_cases e : tr xs = []
    · exact .inl (if_pos e)
    · exact .inr ⟨_, if_neg e, rfl, e⟩
  have hdy : degD ys = .none ∨ ∃ a : Int, degD ys = .int a ∧ a = (tr ys).length - 1 ∧ tr ys ≠ [] := by
    unfold degD
    by_cases e : tr ys = []
    · exact .inl (if_pos e)
    · exact .inr ⟨_, if_neg e, rfl, e⟩
  obtain ⟨zs, hzs⟩ : ∃ z, z = tr xs := ⟨_, rfl⟩
  have hzl : zs.length ≤ 61 := by rw [hzs]; omega
  have hzB : nm zs < 2 ^ B := by rw [hzs]; exact Nat.lt_of_le_of_lt (nm_tr xs) hB
  rcases hdx with e1 | ⟨a, e1, ha, na⟩
  · rw [e1]
    walk_at "st"
    refine ⟨_, xs, rfl, .inl rfl, by omega, ?_⟩
    rw [← hzs] at q ⊢
    walk_at "st"
    exact behind_for hzl hy hzB hC hBC q
  rcases hdy with e2 | ⟨b, e2, hb, nb⟩
  · rw [e1, e2]
    walk_at "st"
    refine ⟨_, xs, rfl, .inl rfl, by omega, ?_⟩
    rw [← hzs] at q ⊢
    walk_at "st"
    exact behind_for hzl hy hzB hC hBC q
  · rw [e1, e2]
    walk_at "st"
    case hc => exact cmul (p := 8) (q := 8) (by omega) (by omega) (by omega)
    refine k_dec (fun h => ?_) (fun _ => ?_)
    · rcases hd with h0 | h0 | h0
      · exact absurd h0 na
      · exact absurd h0 nb
      · have h5 : 0 < (tr xs).length := List.length_pos_iff.mpr na
        have h6 : 0 < (tr ys).length := List.length_pos_iff.mpr nb
        have h3 : a = (((tr xs).length - 1 : Nat) : Int) := by omega
        have h4 : b = (((tr ys).length - 1 : Nat) : Int) := by omega
        rw [h3, h4, ← Int.natCast_mul] at h
        omega
    walk_at "st"
    refine ⟨_, xs, rfl, .inl rfl, by omega, ?_⟩
    rw [← hzs] at q ⊢
    walk_at "st"
    exact behind_for hzl hy hzB hC hBC q
def sp_derivative : Sp2 := fun _ ds Q => ∃ xs B, ds = [.d (tI xs)] ∧ xs.length ≤ 61 ∧ nm xs < 2 ^ B ∧ B ≤ 900000 ∧ Q (.d (tI (tr (der xs))))
theorem mono_derivative : MonoSp sp_derivative := fun _ _ _ _ h ⟨a, b, c, d, e, f, q⟩ => ⟨a, b, c, d, e, f, h _ q⟩
theorem len_derivative : ∀ exf ds Q, sp_derivative exf ds Q → ds.length = 1 := fun _ _ _ ⟨_, _, e, _⟩ => by rw [e]; rfl
def t_derivative : TS2 := (s2Seq (s2Drop (t2Call sp_checked_formulas (t2Cons (t2Var 0) t2Nil)))
  (s2Ret (t2Call sp_trimmed (t2Cons (t2Sc (t2Sl (t2Sc (t2Lc2 (i2Enum (t2Var 0)) 1 2 t2Yes (t2Op q2Mul (t2Var 1) (t2Var 2)))) (t2Part (t2C (.int 1))) t2NoP)) t2Nil))))
def mulE : PyData → PyData
  | .tuple [.int k, .int m] => .int (k * m)
  | y => y
theorem enum_sc0 (r : List Int) : (enumD (r.map PyData.int)).map mulE = (sc 0 r).map PyData.int := by
  have key : ∀ (r : List Int) (m : Nat), ((r.map PyData.int).mapIdx (fun i x => PyData.tuple [.int ((i + m : Nat) : Int), x])).map mulE = (sc m r).map PyData.int := by
    intro r
    induction r with
    | nil => intro m; rfl
    | cons a r ih =>
      intro m
      simp only [List.map_cons, List.mapIdx_cons, sc]
      have h1 := ih (m + 1)
      have e : ∀ i : Nat, i + 1 + m = i + (m + 1) := fun i => by omega
      simp only [e]
      have e2 : ((m + 1 : Nat) : Int) = (m : Int) + 1 := by omega
      rw [e2] at h1
      rw [h1]
      congr 2
      simp only [mulE, Nat.zero_add]
  have := key r 0
  simp only [Nat.add_zero] at this
  unfold enumD
  simpa using this
theorem pure_derivative : Does ["formula", "at", "one"] t_derivative sp_derivative := by
  refine does_i fun exf ds Q h => ?_
  obtain ⟨xs, B, rfl, hx, hB, hB2, q⟩ := h
  walk_at "go"
  unfold t_derivative
  walk_at "st"
  refine checked1 hx ?_
  walk_at "st"
  refine lc_m mulE (fun k z hz => ?_) bind2_mono ?_
  · obtain ⟨hk, rfl⟩ := enum_int hz
    walk_at "st"
    case hc => exact cmul (p := 8) (by omega) (nm_lt hB (List.getElem_mem hk)) (by omega)
    exact lc_fin hz (by rw [enum_len, List.length_map]; omega) rfl rfl
  rw [enum_sc0]
  walk_at "st"
  rw [show (1 : Int) = ((1 : Nat) : Int) from rfl, cut_drop, ← List.map_drop, sc_drop]
  walk_at "st"
  refine ⟨_, _, rfl, .inr rfl, ?_, ?_⟩
  · unfold der; rw [sc_len, List.length_tail]; omega
  walk_at "st"
  exact q
end LW

set_option maxHeartbeats 2000000
/-! PK: shares with factorials, plain step rows, alike and idle formulas. -/
namespace LW
open LM
def sp_common_part : Sp2 := fun _ ds Q => ∃ a b : Nat, ds = [.d (.int (a : Int)), .d (.int (b : Int))] ∧ Q (.d (.int (Nat.gcd a b : Nat)))
theorem mono_common_part : MonoSp sp_common_part := fun _ _ _ _ h ⟨a, b, e, q⟩ => ⟨a, b, e, h _ q⟩
theorem len_common_part : ∀ exf ds Q, sp_common_part exf ds Q → ds.length = 2 := fun _ _ _ ⟨_, _, e, _⟩ => by rw [e]; rfl
def t_common_part : TS2 := (s2Seq (s2While (t2B (t2Op (q2I0 fun i j => .bool (decide (j < i))) (t2Var 1) (t2C (.int 0)))) (s2Par 0 1 (t2Var 1) (t2Op (q2I (fun _ j => 0 < j) fun i j => .int (i % j)) (t2Var 0) (t2Var 1))))
  (s2Ret (t2Var 0)))
theorem pure_common_part : Does ["one", "other"] t_common_part sp_common_part := by
  refine does_i fun exf ds Q h => ?_
  obtain ⟨a, b, rfl, q⟩ := h
  walk_at "go"
  unfold t_common_part
  walk_at "st"
  refine while_i (fun m st => ∃ c : Nat, st = ⟨[some (.d (.int (c : Int))), some (.d (.int (m : Int)))], []⟩ ∧ Nat.gcd c m = Nat.gcd a b) b ⟨a, rfl, rfl⟩ (fun m st' hI => ?_)
  obtain ⟨c, rfl, hg⟩ := hI
  walk_at "st"
  refine k_dec (fun h => ?_) (fun h => ?_)
  · walk_at "st"
    case hc => exact h
    refine ⟨c % m, Nat.mod_lt _ (by omega), m, by rw [Int.natCast_emod], ?_⟩
    rw [← hg, Nat.gcd_comm c m, Nat.gcd_rec m c, Nat.gcd_comm]
  · have hm : m = 0 := by omega
    subst hm
    rw [Nat.gcd_zero_right] at hg
    walk_at "st"
    rw [hg]; exact q
def sp__law_part : Sp2 := sp_common_part
theorem mono__law_part : MonoSp sp__law_part := mono_common_part
theorem len__law_part : ∀ exf ds Q, sp__law_part exf ds Q → ds.length = 2 := len_common_part
def t__law_part : TS2 := (s2Seq (s2While (t2B (t2Op (q2I0 fun i j => .bool (decide (j < i))) (t2Var 1) (t2C (.int 0)))) (s2Par 0 1 (t2Var 1) (t2Op (q2I (fun _ j => 0 < j) fun i j => .int (i % j)) (t2CB c2Int (t2Cons (t2Var 0) t2Nil)) (t2Var 1))))
  (s2Ret (t2Var 0)))
theorem pure__law_part : Does ["one", "other"] t__law_part sp__law_part := by
  refine does_i fun exf ds Q h => ?_
  obtain ⟨a, b, rfl, q⟩ := h
  walk_at "go"
  unfold t__law_part
  walk_at "st"
  refine while_i (fun m st => ∃ c : Nat, st = ⟨[some (.d (.int (c : Int))), some (.d (.int (m : Int)))], []⟩ ∧ Nat.gcd c m = Nat.gcd a b) b ⟨a, rfl, rfl⟩ (fun m st' hI => ?_)
  obtain ⟨c, rfl, hg⟩ := hI
  walk_at "st"
  refine k_dec (fun h => ?_) (fun h => ?_)
  · walk_at "st"
    case hc => exact h
    refine ⟨c % m, Nat.mod_lt _ (by omega), m, by rw [Int.natCast_emod], ?_⟩
    rw [← hg, Nat.gcd_comm c m, Nat.gcd_rec m c, Nat.gcd_comm]
  · have hm : m = 0 := by omega
    subst hm
    rw [Nat.gcd_zero_right] at hg
    walk_at "st"
    rw [hg]; exact q
/-- clocks as numbers -/
theorem clk_nat {m : Int} (h : isClk (.int m) = true) : ∃ k : Nat, m = k ∧ 0 < k ∧ k < 2 ^ 134 := by
  have := clk_of h
  exact ⟨m.toNat, by omega, by omega, by omega⟩
def sp_shared_parts : Sp2 := fun _ ds Q => ∃ m n : Nat, ds = [.d (.int (m : Int)), .d (.int (n : Int))] ∧ 0 < m ∧ m < 2 ^ 134 ∧ n < 4194304 ∧ Q (.d (lI ((List.range n).map fun k => (sh m k : Int))))
theorem mono_shared_parts : MonoSp sp_shared_parts := fun _ _ _ _ h ⟨a, b, c, d, e, f, q⟩ => ⟨a, b, c, d, e, f, h _ q⟩
theorem len_shared_parts : ∀ exf ds Q, sp_shared_parts exf ds Q → ds.length = 2 := fun _ _ _ ⟨_, _, e, _⟩ => by rw [e]; rfl
def t_shared_parts : TS2 := (s2Seq (s2Par 2 3 (t2Lst t2Nil) (t2C (.int 1)))
  (s2Seq (s2For (i2Rng1 (t2Var 1)) (g2Name 4) (s2Seq (s2If (t2B (t2Op (q2I0 fun i j => .bool (decide (j < i))) (t2Var 4) (t2C (.int 1)))) (s2Asg (t2Call sp_common_part (t2Cons (t2Var 0) (t2Cons (t2Op q2Mul (t2Var 3) (t2Call sp_common_part (t2Cons (t2Var 0) (t2Cons (t2Var 4) t2Nil)))) t2Nil))) (g2Name 3)) s2Next)
  (s2Drop (t2App (t2Var 2) (t2Var 3)))))
  (s2Ret (t2Var 2))))
theorem sh_zero (m : Nat) : sh m 0 = 1 := Nat.gcd_one_right _
theorem sh_one (m : Nat) : sh m 1 = 1 := Nat.gcd_one_right _
theorem sh_le {m : Nat} (h : 0 < m) (k : Nat) : sh m k ≤ m := Nat.le_of_dvd h (sh_dvd m k)
theorem pure_shared_parts : Does ["m", "many", "found", "part", "k"] t_shared_parts sp_shared_parts := by
  refine does_i fun exf ds Q h => ?_
  obtain ⟨m, n, rfl, h0, h1, hn, q⟩ := h
  walk_at "go"
  unfold t_shared_parts
  walk_at "st"
  case hz => omega
  rw [Int.toNat_natCast]
  refine for_ii (fun k st => ∃ a, st = ⟨[some (.d (.int (m : Int))), some (.d (.int (n : Int))), some (.o 0), some (.d (.int (sh m (k - 1) : Nat))), a], [⟨((List.range k).map fun k => (sh m k : Int)).map PyData.int, true⟩]⟩) ⟨_, by rw [Nat.zero_sub, sh_zero]; rfl⟩ (fun k xk st' hx hI => ?_) (fun st' hI => ?_)
  · obtain ⟨a, rfl⟩ := hI
    obtain ⟨hk, rfl⟩ := range_get hx
    rw [Int.zero_add]
    walk_at "st"
    have fin : (⟨[some (.d (.int (m : Int))), some (.d (.int (n : Int))), some (.o 0), some (.d (.int (sh m k : Nat))), some (.d (.int (k : Int)))], [⟨((List.range k).map fun k => (sh m k : Int)).map PyData.int ++ [.int (sh m k : Nat)], true⟩]⟩ : S) = ⟨[some (.d (.int (m : Int))), some (.d (.int (n : Int))), some (.o 0), some (.d (.int (sh m (k + 1 - 1) : Nat))), some (.d (.int (k : Int)))], [⟨((List.range (k + 1)).map fun k => (sh m k : Int)).map PyData.int, true⟩]⟩ := by
      rw [List.range_succ, List.map_append, List.map_append]; rfl
    have hz : ((List.range k).map fun k => PyData.int (sh m k : Int)).length < sizeLine := szl (by simp; omega)
    refine k_dec (fun h => ?_) (fun h => ?_)
    · obtain ⟨j, rfl⟩ : ∃ j, k = j + 1 := ⟨k - 1, by omega⟩
      walk_at "st"
      refine ⟨m, j + 1, rfl, ?_⟩
      walk_at "st"
      case hc => exact cmul (p := 134) (q := 134) (by have := sh_le h0 (j + 1 - 1); omega) (by have := Nat.le_of_dvd h0 (Nat.gcd_dvd_left m (j + 1)); omega) (by omega)
      refine ⟨m, sh m j * Nat.gcd m (j + 1), by rw [Int.natCast_mul]; rfl, ?_⟩
      rw [sh_next]
      walk_at "st"
      case hz => rw [List.length_map]; simpa using hz
      exact ⟨_, fin⟩
    · have e : sh m (k - 1) = sh m k := by
        have : k = 0 ∨ k = 1 := by omega
        rcases this with rfl | rfl
        · rfl
        · rw [sh_one]; exact sh_zero m
      rw [e]
      walk_at "st"
      case hz => rw [List.length_map]; simpa using hz
      exact ⟨_, fin⟩
  · obtain ⟨a, rfl⟩ := hI
    rw [range_len]
    walk_at "st"
    exact q
theorem cdiv {i j : Int} {p : Nat} (h : 0 < j) (hj : j.natAbs < 2 ^ p) (hp : p < 9000) : CDivW i j := by
  refine ⟨h, ?_⟩
  have : j.natAbs.log2 ≤ p := by
    by_cases e : j.natAbs = 0
    · rw [e]; exact Nat.zero_le _
    · exact Nat.le_of_lt ((Nat.log2_lt e).mpr hj)
  omega
/-- the bounds of the entries for steps -/
def bnds (m n : Nat) : List Int := (List.range n).map fun k => ((m / sh m k : Nat) : Int)
def sp_step_bounds : Sp2 := fun _ ds Q => ∃ m n : Nat, ds = [.d (.int (m : Int)), .d (.int (n : Int))] ∧ 0 < m ∧ m < 2 ^ 134 ∧ n < 4194304 ∧ Q (.d (lI (bnds m n)))
theorem mono_step_bounds : MonoSp sp_step_bounds := fun _ _ _ _ h ⟨a, b, c, d, e, f, q⟩ => ⟨a, b, c, d, e, f, h _ q⟩
theorem len_step_bounds : ∀ exf ds Q, sp_step_bounds exf ds Q → ds.length = 2 := fun _ _ _ ⟨_, _, e, _⟩ => by rw [e]; rfl
def t_step_bounds : TS2 := (s2Ret (t2Sc (t2Lc1 (i2Seq (t2Call sp_shared_parts (t2Cons (t2Var 0) (t2Cons (t2Var 1) t2Nil)))) 2 t2Yes (t2Op (q2I CDivW fun i j => .int (i / j)) (t2Var 0) (t2Var 2)))))
def divD (m : Int) : PyData → PyData
  | .int j => .int (m / j)
  | y => y
theorem map_divD (m n : Nat) : (((List.range n).map fun k => (sh m k : Int)).map PyData.int).map (divD m) = (bnds m n).map PyData.int := by
  simp only [bnds, List.map_map]
  apply List.map_congr_left
  intro k _
  simp [divD]
theorem pure_step_bounds : Does ["m", "many", "part"] t_step_bounds sp_step_bounds := by
  refine does_i fun exf ds Q h => ?_
  obtain ⟨m, n, rfl, h0, h1, hn, q⟩ := h
  walk_at "go"
  unfold t_step_bounds
  walk_at "st"
  refine ⟨m, n, rfl, h0, h1, hn, ?_⟩
  walk_at "st"
  refine lc_m (divD m) (fun k x hx => ?_) bind1_mono ?_
  · obtain ⟨hi, rfl⟩ := int_get hx
    walk_at "st"
    case hc =>
      rw [List.getElem_map, List.getElem_range]
      have h2 := sh_le h0 k
      have h3 := sh_pos h0 k
      exact cdiv (by omega) (p := 134) (by omega) (by omega)
    exact lc_fin hx (by simp; omega) rfl rfl
  rw [map_divD]
  walk_at "st"
  exact q
def sp_plain_of : Sp2 := fun _ ds Q => ∃ (m : Nat) (y : PyData) (xs : List Int) (B : Nat), ds = [.d (.int (m : Int)), .d y] ∧ 0 < m ∧ m < 2 ^ 134 ∧ rowOf y xs ∧ xs.length ≤ 64 ∧ nm xs < 2 ^ B ∧ B ≤ 900000 ∧ Q (.d (tI (plain m xs)))
theorem mono_plain_of : MonoSp sp_plain_of := fun _ _ _ _ h ⟨a, b, c, d, e, f, g, i, j, k, l, q⟩ => ⟨a, b, c, d, e, f, g, i, j, k, l, h _ q⟩
theorem len_plain_of : ∀ exf ds Q, sp_plain_of exf ds Q → ds.length = 2 := fun _ _ _ ⟨_, _, _, _, e, _⟩ => by rw [e]; rfl
def t_plain_of : TS2 := (s2Seq (s2Asg (t2Call sp_steps_of (t2Cons (t2Var 1) t2Nil)) (g2Name 2))
  (s2Ret (t2Call sp_trimmed (t2Cons (t2Sc (t2Lc2 (i2Zip (t2Var 2) (t2Call sp_step_bounds (t2Cons (t2Var 0) (t2Cons (t2CB c2Len (t2Cons (t2Var 2) t2Nil)) t2Nil)))) 3 4 t2Yes (t2Op (q2I (fun _ j => 0 < j) fun i j => .int (i % j)) (t2Var 3) (t2Var 4)))) t2Nil))))
def restD : PyData → PyData
  | .tuple [.int a, .int b] => .int (a % b)
  | y => y
theorem zip_restD (m : Nat) (s : List Int) : (zipD (s.map PyData.int) ((bnds m s.length).map PyData.int)).map restD = (pl m 0 s).map PyData.int := by
  have key : ∀ (s : List Int) (k : Nat), (zipD (s.map PyData.int) (((List.range' k s.length).map fun k => ((m / sh m k : Nat) : Int)).map PyData.int)).map restD = (pl m k s).map PyData.int := by
    intro s
    induction s with
    | nil => intro k; rfl
    | cons a s ih =>
      intro k
      simp only [List.length_cons, List.range'_succ, List.map_cons, pl, zipD, List.zipWith_cons_cons, restD]
      have := ih (k + 1)
      unfold zipD at this
      rw [this]
  have := key s 0
  unfold bnds
  rw [List.range_eq_range']
  exact this
theorem pure_plain_of : Does ["m", "row", "steps", "one", "bound"] t_plain_of sp_plain_of := by
  refine does_i fun exf ds Q h => ?_
  obtain ⟨m, y, xs, B, rfl, h0, h1, hy, hl, hB, hB2, q⟩ := h
  walk_at "go"
  unfold t_plain_of
  walk_at "st"
  refine ⟨y, xs, B, rfl, hy, hl, hB, hB2, ?_⟩
  have hsl : (stp xs).length ≤ 64 := by rw [stp_len]; have := tr_len xs; omega
  walk_at "st"
  rw [List.length_map]
  refine ⟨m, (stp xs).length, rfl, h0, h1, by omega, ?_⟩
  walk_at "st"
  refine lc_m restD (fun k z hz => ?_) bind2_mono ?_
  · have hz2 := hz
    unfold zipD at hz2
    rw [List.getElem?_zipWith, List.getElem?_map, List.getElem?_map] at hz2
    obtain ⟨a, b, hb, rfl⟩ : ∃ a b, (bnds m (stp xs).length)[k]? = some b ∧ z = .tuple [.int a, .int b] := by
      cases e : (stp xs)[k]? <;> cases e2 : (bnds m (stp xs).length)[k]? <;> rw [e, e2] at hz2 <;> cases hz2
      exact ⟨_, _, rfl, rfl⟩
    have hbp : 0 < b := by
      unfold bnds at hb
      rw [List.getElem?_map] at hb
      cases e : (List.range (stp xs).length)[k]? with
      | none => rw [e] at hb; cases hb
      | some j =>
        rw [e] at hb
        cases hb
        have := Nat.div_pos (sh_le h0 j) (sh_pos h0 j)
        show (0 : Int) < ((m / sh m j : Nat) : Int)
        exact Int.ofNat_lt.mpr this
    walk_at "st"
    case hc => exact hbp
    exact lc_fin hz (by rw [zip_len]; simp; omega) rfl rfl
  rw [zip_restD]
  walk_at "st"
  refine ⟨_, _, rfl, .inr rfl, by rw [pl_len]; omega, ?_⟩
  walk_at "st"
  exact q
def sp_plain_steps : Sp2 := fun _ ds Q => ∃ (m : Int) (xs : List Int) (B : Nat), ds = [.d (.int m), .d (tI xs)] ∧ isClk (.int m) = true ∧ xs.length ≤ 61 ∧ nm xs < 2 ^ B ∧ B ≤ 900000 ∧ Q (.d (tI (plain m.toNat xs)))
theorem mono_plain_steps : MonoSp sp_plain_steps := fun _ _ _ _ h ⟨a, b, c, d, e, f, g, i, q⟩ => ⟨a, b, c, d, e, f, g, i, h _ q⟩
theorem len_plain_steps : ∀ exf ds Q, sp_plain_steps exf ds Q → ds.length = 2 := fun _ _ _ ⟨_, _, _, e, _⟩ => by rw [e]; rfl
def t_plain_steps : TS2 := (s2Seq (s2Drop (t2Call sp_checked_clock (t2Cons (t2Var 0) t2Nil)))
  (s2Seq (s2Drop (t2Call sp_checked_formulas (t2Cons (t2Var 1) t2Nil)))
  (s2Ret (t2Call sp_plain_of (t2Cons (t2Var 0) (t2Cons (t2Var 1) t2Nil))))))
theorem pure_plain_steps : Does ["m", "formula"] t_plain_steps sp_plain_steps := by
  refine does_i fun exf ds Q h => ?_
  obtain ⟨m, xs, B, rfl, hm, hl, hB, hB2, q⟩ := h
  obtain ⟨k, rfl, k0, k1⟩ := clk_nat hm
  walk_at "go"
  unfold t_plain_steps
  walk_at "st"
  refine ⟨_, rfl, hm, ?_⟩
  walk_at "st"
  refine checked1 hl ?_
  walk_at "st"
  refine ⟨k, _, xs, B, rfl, k0, k1, .inl rfl, by omega, hB, hB2, ?_⟩
  walk_at "st"
  exact q
def sp_is_idle : Sp2 := fun _ ds Q => ∃ (m : Int) (xs : List Int) (B : Nat), ds = [.d (.int m), .d (tI xs)] ∧ isClk (.int m) = true ∧ xs.length ≤ 61 ∧ nm xs < 2 ^ B ∧ B ≤ 900000 ∧ Q (.d (.bool (decide (plain m.toNat xs = []))))
theorem mono_is_idle : MonoSp sp_is_idle := fun _ _ _ _ h ⟨a, b, c, d, e, f, g, i, q⟩ => ⟨a, b, c, d, e, f, g, i, h _ q⟩
theorem len_is_idle : ∀ exf ds Q, sp_is_idle exf ds Q → ds.length = 2 := fun _ _ _ ⟨_, _, _, e, _⟩ => by rw [e]; rfl
def t_is_idle : TS2 := (s2Ret (t2Op (q2Eq false) (t2Call sp_plain_steps (t2Cons (t2Var 0) (t2Cons (t2Var 1) t2Nil))) (t2Tup t2Nil)))
theorem pure_is_idle : Does ["m", "formula"] t_is_idle sp_is_idle := by
  refine does_i fun exf ds Q h => ?_
  obtain ⟨m, xs, B, rfl, hm, hl, hB, hB2, q⟩ := h
  walk_at "go"
  unfold t_is_idle
  walk_at "st"
  refine ⟨m, xs, B, rfl, hm, hl, hB, hB2, ?_⟩
  walk_at "st"
  refine k_eqD rfl rfl ?_ ⟨shaped_tints _, shaped_tnil⟩
  rw [eqv_tI_nil]
  walk_at "st"
  simpa using q
def sp_are_alike : Sp2 := fun _ ds Q => ∃ (m : Int) (xs ys : List Int) (B : Nat), ds = [.d (.int m), .d (tI xs), .d (tI ys)] ∧ isClk (.int m) = true ∧ xs.length ≤ 61 ∧ ys.length ≤ 61 ∧ nm xs < 2 ^ B ∧ nm ys < 2 ^ B ∧ B ≤ 800000 ∧ Q (.d (.bool (decide (plain m.toNat (tr (radd xs ys (-1))) = []))))
theorem mono_are_alike : MonoSp sp_are_alike := fun _ _ _ _ h ⟨a, b, c, d, e, f, g, i, j, k, l, q⟩ => ⟨a, b, c, d, e, f, g, i, j, k, l, h _ q⟩
theorem len_are_alike : ∀ exf ds Q, sp_are_alike exf ds Q → ds.length = 3 := fun _ _ _ ⟨_, _, _, _, e, _⟩ => by rw [e]; rfl
def t_are_alike : TS2 := (s2Seq (s2Drop (t2Call sp_checked_clock (t2Cons (t2Var 0) t2Nil)))
  (s2Seq (s2Drop (t2Call sp_checked_formulas (t2Cons (t2Var 1) (t2Cons (t2Var 2) t2Nil))))
  (s2Ret (t2Op (q2Eq false) (t2Call sp_plain_of (t2Cons (t2Var 0) (t2Cons (t2Call sp_row_sum (t2Cons (t2Var 1) (t2Cons (t2Var 2) (t2Cons (t2Un q1Neg (t2C (.int 1))) t2Nil)))) t2Nil))) (t2Tup t2Nil)))))
theorem nm_diff {xs ys : List Int} {B : Nat} (h1 : nm xs < 2 ^ B) (h2 : nm ys < 2 ^ B) : nm (tr (radd xs ys (-1))) < 2 ^ (B + 1) := by
  refine Nat.lt_of_le_of_lt (Nat.le_trans (nm_tr _) (nm_radd _ _ _)) ?_
  rw [show (-1 : Int).natAbs = 1 from rfl, Nat.one_mul, Nat.pow_succ]
  omega
theorem pure_are_alike : Does ["m", "one", "other"] t_are_alike sp_are_alike := by
  refine does_i fun exf ds Q h => ?_
  obtain ⟨m, xs, ys, B, rfl, hm, hl, hl2, hB, hC, hB2, q⟩ := h
  obtain ⟨k, rfl, k0, k1⟩ := clk_nat hm
  walk_at "go"
  unfold t_are_alike
  walk_at "st"
  refine ⟨_, rfl, hm, ?_⟩
  walk_at "st"
  refine checked2 hl hl2 ?_
  walk_at "st"
  refine ⟨_, xs, _, ys, -1, rfl, .inl rfl, .inl rfl, by omega, by omega, fun y hy => cmul (p := 1) (by decide) (nm_lt hC hy) (by omega), ?_⟩
  walk_at "st"
  refine ⟨k, _, _, B + 1, rfl, k0, k1, .inl rfl, ?_, nm_diff hB hC, by omega, ?_⟩
  · refine Nat.le_trans (tr_len _) ?_
    rw [radd_len]; omega
  walk_at "st"
  refine k_eqD rfl rfl ?_ ⟨shaped_tints _, shaped_tnil⟩
  rw [eqv_tI_nil]
  walk_at "st"
  simpa using q
def sp_taken : Sp2 := fun _ ds Q => ∃ xs ys B, ds = [.d (tI xs), .d (tI ys)] ∧ xs.length ≤ 61 ∧ ys.length ≤ 61 ∧ nm ys < 2 ^ B ∧ B ≤ 900000 ∧ Q (.d (tI (tr (radd xs ys (-1)))))
theorem mono_taken : MonoSp sp_taken := fun _ _ _ _ h ⟨a, c, d, e, f, g, i, j, q⟩ => ⟨a, c, d, e, f, g, i, j, h _ q⟩
theorem len_taken : ∀ exf ds Q, sp_taken exf ds Q → ds.length = 2 := fun _ _ _ ⟨_, _, _, e, _⟩ => by rw [e]; rfl
def t_taken : TS2 := (s2Seq (s2Drop (t2Call sp_checked_formulas (t2Cons (t2Var 0) (t2Cons (t2Var 1) t2Nil))))
  (s2Ret (t2Call sp_row_sum (t2Cons (t2Var 0) (t2Cons (t2Var 1) (t2Cons (t2Un q1Neg (t2C (.int 1))) t2Nil))))))
theorem pure_taken : Does ["one", "other"] t_taken sp_taken := by
  refine does_i fun exf ds Q h => ?_
  obtain ⟨xs, ys, B, rfl, hl, hl2, hB, hB2, q⟩ := h
  walk_at "go"
  unfold t_taken
  walk_at "st"
  refine checked2 hl hl2 ?_
  walk_at "st"
  refine ⟨_, xs, _, ys, -1, rfl, .inl rfl, .inl rfl, by omega, by omega, fun y hy => cmul (p := 1) (by decide) (nm_lt hB hy) (by omega), ?_⟩
  walk_at "st"
  exact q
/-- the product of the first k steps as a row -/
def stw : Nat → List Int
  | 0 => [1]
  | k + 1 => tr (rm (stw k) [0 - (k : Int), 1])
theorem stw_ev (k : Nat) (x : Int) : ev (stw k) x = fj 0 k x := by
  induction k with
  | zero => simp [stw, ev, fj]
  | succ k ih =>
    rw [stw, ev_tr, ev_rm, ih, fj_right]
    simp only [ev]
    grind
theorem stw_len (k : Nat) : (stw k).length ≤ k + 1 := by
  induction k with
  | zero => simp [stw]
  | succ k ih =>
    refine Nat.le_trans (tr_len _) ?_
    have := rm_len (stw k) (q := [0 - (k : Int), 1]) (by simp)
    simp only [List.length_cons, List.length_nil] at this
    omega
theorem stw_nm (k : Nat) (h : k ≤ 64) : nm (stw k) ≤ 64 ^ k := by
  induction k with
  | zero => simp [stw, nm]
  | succ k ih =>
    refine Nat.le_trans (nm_tr _) (Nat.le_trans (nm_rm _ _) ?_)
    rw [Nat.pow_succ]
    refine Nat.mul_le_mul (ih (by omega)) ?_
    simp only [nm]; omega
theorem stw_small {k : Nat} (h : k ≤ 64) : nm (stw k) < 2 ^ 385 := by
  refine Nat.lt_of_le_of_lt (stw_nm k h) ?_
  have e : (64 : Nat) = 2 ^ 6 := rfl
  rw [e, ← Nat.pow_mul]
  exact Nat.pow_lt_pow_right (by decide) (by omega)
def sp__law_steps : Sp2 := fun _ ds Q => ∃ k : Nat, ds = [.d (.int (k : Int))] ∧ k ≤ 64 ∧ Q (.d (tI (stw k)))
theorem mono__law_steps : MonoSp sp__law_steps := fun _ _ _ _ h ⟨a, b, c, q⟩ => ⟨a, b, c, h _ q⟩
theorem len__law_steps : ∀ exf ds Q, sp__law_steps exf ds Q → ds.length = 1 := fun _ _ _ ⟨_, e, _⟩ => by rw [e]; rfl
def t__law_steps : TS2 := (s2Seq (s2Asg (t2Tup (t2Cons (t2C (.int 1)) t2Nil)) (g2Name 1))
  (s2Seq (s2For (i2Rng1 (t2Var 0)) (g2Name 2) (s2Asg (t2Call sp__law_by (t2Cons (t2Var 1) (t2Cons (t2Tup (t2Cons (t2Op (q2I0 fun i j => .int (i - j)) (t2C (.int 0)) (t2Var 2)) (t2Cons (t2C (.int 1)) t2Nil))) t2Nil))) (g2Name 1)))
  (s2Ret (t2Var 1))))
theorem pure__law_steps : Does ["k", "found", "at"] t__law_steps sp__law_steps := by
  refine does_i fun exf ds Q h => ?_
  obtain ⟨k, rfl, hk, q⟩ := h
  walk_at "go"
  unfold t__law_steps
  walk_at "st"
  case hz => omega
  rw [Int.toNat_natCast]
  refine for_ii (fun i st => ∃ a, st = ⟨[some (.d (.int (k : Int))), some (.d (tI (stw i))), a], []⟩) ⟨_, rfl⟩ (fun i x st' hx hI => ?_) (fun st' hI => ?_)
  · obtain ⟨a, rfl⟩ := hI
    obtain ⟨hi, rfl⟩ := range_get hx
    rw [Int.zero_add]
    have hl := stw_len i
    have hs := stw_small (k := i) (by omega)
    walk_at "st"
    refine ⟨_, stw i, _, [0 - (i : Int), 1], rfl, .inl rfl, .inl rfl, by omega, by simp, fun x hx y hy => ?_, ?_⟩
    · exact mem2 hy (cmul (q := 7) (nm_lt hs hx) (by omega) (by omega)) (cmul (nm_lt hs hx) one_small (by omega))
    walk_at "st"
    exact ⟨_, rfl⟩
  · obtain ⟨a, rfl⟩ := hI
    rw [range_len]
    walk_at "st"
    exact q
def sp__law_shared : Sp2 := fun _ ds Q => ∃ m k : Nat, ds = [.d (.int (m : Int)), .d (.int (k : Int))] ∧ 0 < m ∧ m < 2 ^ 134 ∧ k ≤ 5000 ∧ Q (.d (.int (sh m k : Nat)))
theorem mono__law_shared : MonoSp sp__law_shared := fun _ _ _ _ h ⟨a, b, c, d, e, f, q⟩ => ⟨a, b, c, d, e, f, h _ q⟩
theorem len__law_shared : ∀ exf ds Q, sp__law_shared exf ds Q → ds.length = 2 := fun _ _ _ ⟨_, _, e, _⟩ => by rw [e]; rfl
def t__law_shared : TS2 := (s2Seq (s2Asg (t2C (.int 1)) (g2Name 2))
  (s2Seq (s2For (i2Rng2 (t2C (.int 2)) (t2Op q2Add (t2Var 1) (t2C (.int 1)))) (g2Name 3) (s2Asg (t2Call sp__law_part (t2Cons (t2Var 0) (t2Cons (t2Op q2Mul (t2Var 2) (t2Var 3)) t2Nil))) (g2Name 2)))
  (s2Ret (t2Var 2))))
theorem pure__law_shared : Does ["m", "k", "found", "number"] t__law_shared sp__law_shared := by
  refine does_i fun exf ds Q h => ?_
  obtain ⟨m, k, rfl, h0, h1, hk, q⟩ := h
  walk_at "go"
  unfold t__law_shared
  walk_at "st"
  case hz => omega
  rw [show ((k : Int) + 1 - 2).toNat = k - 1 by omega]
  refine for_ii (fun i st => ∃ a, st = ⟨[some (.d (.int (m : Int))), some (.d (.int (k : Int))), some (.d (.int (sh m (i + 1) : Nat))), a], []⟩) ⟨_, by rw [Nat.zero_add, sh_one]; rfl⟩ (fun i x st' hx hI => ?_) (fun st' hI => ?_)
  · obtain ⟨a, rfl⟩ := hI
    obtain ⟨hi, rfl⟩ := range_get hx
    have hs := sh_le h0 (i + 1)
    walk_at "st"
    case hc => exact cmul (p := 134) (q := 14) (by omega) (by omega) (by omega)
    refine ⟨m, sh m (i + 1) * (i + 1 + 1), ?_, ?_⟩
    · rw [Int.natCast_mul, show ((i + 1 + 1 : Nat) : Int) = 2 + (i : Int) by omega]
    rw [sh_next2]
    walk_at "st"
    exact ⟨_, rfl⟩
  · obtain ⟨a, rfl⟩ := hI
    rw [range_len]
    walk_at "st"
    have e : sh m (k - 1 + 1) = sh m k := by
      by_cases h : k = 0
      · subst h; rw [Nat.zero_sub, Nat.zero_add, sh_one, sh_zero]
      · rw [show k - 1 + 1 = k by omega]
    rw [e]; exact q
def sp__law_idle : Sp2 := fun _ ds Q => ∃ m most : Nat, ds = [.deal, .d (.int (m : Int)), .d (.int (most : Int))] ∧ 0 < m ∧ m < 2 ^ 134 ∧ most ≤ 60 ∧ ∀ xs : List Int, tr xs = xs → xs.length ≤ most + 1 → nm xs < 2 ^ 600 → (∀ x, (m : Int) ∣ ev xs x) → Q (.d (tI xs))
theorem mono__law_idle : MonoSp sp__law_idle := fun _ _ _ _ h ⟨a, b, c, d, e, f, q⟩ => ⟨a, b, c, d, e, f, fun xs h1 h2 h3 h4 => h _ (q xs h1 h2 h3 h4)⟩
theorem len__law_idle : ∀ exf ds Q, sp__law_idle exf ds Q → ds.length = 3 := fun _ _ _ ⟨_, _, e, _⟩ => by rw [e]; rfl
def t__law_idle : TS2 := (s2Seq (s2Asg (t2Tup t2Nil) (g2Name 3))
  (s2Seq (s2For (i2Rng1 (t2Op q2Add (t2C (.int 1)) (t2Call sp__law_any (t2Cons (t2Var 0) (t2Cons (t2C (.int 3)) t2Nil))))) (g2Name 4) (s2Seq (s2Asg (t2Call sp__law_any (t2Cons (t2Var 0) (t2Cons (t2Op q2Add (t2Var 2) (t2C (.int 1))) t2Nil))) (g2Name 5))
  (s2Asg (t2Call sp__law_add (t2Cons (t2Var 3) (t2Cons (t2Call sp__law_steps (t2Cons (t2Var 5) t2Nil)) (t2Cons (t2Op q2Mul (t2Op (q2I CDivW fun i j => .int (i / j)) (t2Var 1) (t2Call sp__law_shared (t2Cons (t2Var 1) (t2Cons (t2Var 5) t2Nil)))) (t2Call sp__law_of (t2Cons (t2Var 0) (t2Cons (t2Sc (t2Lst (t2Cons (t2C (.int 1)) (t2Cons (t2Un q1Neg (t2C (.int 1))) (t2Cons (t2C (.int 2)) (t2Cons (t2Call sp__law_any (t2Cons (t2Var 0) (t2Cons (t2C (.int 9)) t2Nil))) t2Nil)))))) t2Nil)))) t2Nil)))) (g2Name 3))))
  (s2Ret (t2Var 3))))
theorem idle_one {m : Nat} (hm : 0 < m) (k : Nat) (c x : Int) : (m : Int) ∣ ((m / sh m k : Nat) : Int) * c * fj 0 k x := by
  have h1 := (share hm (k := k) (((m / sh m k : Nat) : Int) * c)).mpr ⟨c, rfl⟩
  exact Int.dvd_trans h1 (Int.mul_dvd_mul_left _ (fac_fj k x))
theorem pure__law_idle : Does ["deal", "m", "most", "found", "turn", "k"] t__law_idle sp__law_idle := by
  refine does_i fun exf ds Q h => ?_
  obtain ⟨m, most, rfl, h0, h1, hmost, q⟩ := h
  walk_at "go"
  unfold t__law_idle
  walk_at "st"
  refine any_of (by omega) fun r r0 r1 => ?_
  walk_at "st"
  case hz => omega
  refine for_ii (fun i st => ∃ F a b, st = ⟨[some .deal, some (.d (.int (m : Int))), some (.d (.int (most : Int))), some (.d (tI F)), a, b], []⟩ ∧ tr F = F ∧ F.length ≤ most + 1 ∧ nm F ≤ i * 2 ^ 540 ∧ ∀ x, (m : Int) ∣ ev F x) ⟨[], _, _, rfl, rfl, Nat.zero_le _, Nat.zero_le _, fun x => Int.dvd_zero _⟩ (fun i x st' hx hI => ?_) (fun st' hI => ?_)
  · obtain ⟨F, a, b, rfl, hF, hFl, hFn, hFi⟩ := hI
    obtain ⟨hi, rfl⟩ := range_get hx
    walk_at "st"
    refine any_of (by omega) fun kk k0 k1 => ?_
    obtain ⟨k, rfl⟩ : ∃ k : Nat, kk = k := ⟨kk.toNat, by omega⟩
    have hl := stw_len k
    have hs := stw_small (k := k) (by omega)
    have hsp := sh_pos h0 k
    have hsl := sh_le h0 k
    have hdn : ((m / sh m k : Nat) : Int).natAbs < 2 ^ 134 := by
      rw [Int.natAbs_natCast]; exact Nat.lt_of_le_of_lt (Nat.div_le_self _ _) h1
    walk_at "st"
    refine ⟨k, rfl, by omega, ?_⟩
    walk_at "st"
    refine ⟨m, k, rfl, h0, h1, by omega, ?_⟩
    walk_at "st"
    case hc => exact cdiv (p := 134) (by omega) (by omega) (by omega)
    rw [← Int.natCast_ediv]
    refine any_of (by omega) fun w w0 w1 => ?_
    walk_at "st"
    refine of_ints (xs := [1, -1, 2, w]) (by simp) fun c hc => ?_
    have hc2 : c.natAbs < 2 ^ 4 := by
      simp only [List.mem_cons, List.not_mem_nil, or_false] at hc
      rcases hc with rfl | rfl | rfl | rfl <;> omega
    walk_at "st"
    case hc => exact cmul (p := 134) (q := 4) hdn hc2 (by omega)
    have hmc : (((m / sh m k : Nat) : Int) * c).natAbs < 2 ^ 138 := by
      rw [Int.natAbs_mul]
      exact Nat.lt_of_lt_of_le (Nat.mul_lt_mul'' hdn hc2) (by decide)
    refine ⟨_, F, _, stw k, _, rfl, .inl rfl, .inl rfl, by omega, by omega, fun y hy => cmul hmc (nm_lt hs hy) (by omega), ?_⟩
    walk_at "st"
    refine ⟨_, _, _, rfl, tr_tr _, ?_, ?_, fun x => ?_⟩
    · refine Nat.le_trans (tr_len _) ?_
      rw [radd_len]; omega
    · refine Nat.le_trans (nm_tr _) (Nat.le_trans (nm_radd _ _ _) ?_)
      have h5 : (((m / sh m k : Nat) : Int) * c).natAbs * nm (stw k) ≤ 2 ^ 540 := by
        refine Nat.le_trans (Nat.mul_le_mul (Nat.le_of_lt hmc) (Nat.le_of_lt hs)) ?_
        rw [← Nat.pow_add]
        exact Nat.pow_le_pow_right (by decide) (by decide)
      rw [Nat.add_mul, Nat.one_mul]
      exact Nat.add_le_add hFn h5
    · rw [ev_tr, ev_radd, stw_ev]
      exact Int.dvd_add (hFi x) (idle_one h0 k c x)
  · obtain ⟨F, a, b, rfl, hF, hFl, hFn, hFi⟩ := hI
    rw [range_len] at hFn
    walk_at "st"
    refine q F hF hFl ?_ hFi
    refine Nat.lt_of_le_of_lt hFn ?_
    have h6 : (1 + r).toNat ≤ 3 := by omega
    refine Nat.lt_of_le_of_lt (Nat.mul_le_mul_right _ h6) ?_
    rw [show (600 : Nat) = 60 + 540 from rfl, Nat.pow_add]
    exact Nat.mul_lt_mul_of_pos_right (by decide) (Nat.pow_pos (by decide))
end LW

set_option maxHeartbeats 4000000
/-! PM: promises for plain forms and what idle rows are put in. -/
namespace LW
open LM
theorem zip_zf {D : PyData → PyData} {f : Int → Int → Int} (hD : ∀ a b : Int, D (.tuple [.int a, .int b]) = .int (f a b)) (m : Nat) (s : List Int) : (zipD (s.map PyData.int) ((bnds m s.length).map PyData.int)).map D = (zf f m 0 s).map PyData.int := by
  have key : ∀ (s : List Int) (k : Nat), (zipD (s.map PyData.int) (((List.range' k s.length).map fun k => ((m / sh m k : Nat) : Int)).map PyData.int)).map D = (zf f m k s).map PyData.int := by
    intro s
    induction s with
    | nil => intro k; rfl
    | cons a s ih =>
      intro k
      simp only [List.length_cons, List.range'_succ, List.map_cons, zf, zipD, List.zipWith_cons_cons, hD]
      have := ih (k + 1)
      unfold zipD at this
      rw [this]
  have := key s 0
  unfold bnds
  rw [List.range_eq_range']
  exact this
theorem zip_bget {m : Nat} (h0 : 0 < m) {s : List Int} {k : Nat} {z : PyData} (hz : (zipD (s.map PyData.int) ((bnds m s.length).map PyData.int))[k]? = some z) : ∃ h : k < s.length, z = .tuple [.int s[k], .int ((m / sh m k : Nat) : Int)] ∧ 0 < m / sh m k := by
  unfold zipD at hz
  rw [List.getElem?_zipWith, List.getElem?_map, List.getElem?_map] at hz
  by_cases hk : k < s.length
  · refine ⟨hk, ?_, Nat.div_pos (sh_le h0 k) (sh_pos h0 k)⟩
    have e : (bnds m s.length)[k]? = some ((m / sh m k : Nat) : Int) := by
      unfold bnds
      rw [List.getElem?_map, List.getElem?_range hk]
      rfl
    rw [List.getElem?_eq_getElem hk, e] at hz
    cases hz
    rfl
  · rw [List.getElem?_eq_none (by omega)] at hz
    cases hz
theorem zip_bz {m : Nat} {s : List Int} (h : s.length < 16777216) : (zipD (s.map PyData.int) ((bnds m s.length).map PyData.int)).length < 16777216 := by rw [zip_len]; simp; omega
theorem nm_plain {m : Nat} (h0 : 0 < m) (h1 : m < 2 ^ 134) {xs : List Int} (hl : xs.length ≤ 64) : nm (plain m xs) < 2 ^ 141 := by
  refine Nat.lt_of_le_of_lt (plain_nm h0 xs) ?_
  exact Nat.lt_of_lt_of_le (Nat.mul_lt_mul_of_le_of_lt hl h1 (by decide)) (by decide)
def sp_plain_form : Sp2 := fun _ ds Q => ∃ (m : Int) (xs : List Int) (B : Nat), ds = [.d (.int m), .d (tI xs)] ∧ isClk (.int m) = true ∧ xs.length ≤ 61 ∧ nm xs < 2 ^ B ∧ B ≤ 900000 ∧ Q (.d (tI (rs 0 (plain m.toNat xs))))
theorem mono_plain_form : MonoSp sp_plain_form := fun _ _ _ _ h ⟨a, b, c, d, e, f, g, i, q⟩ => ⟨a, b, c, d, e, f, g, i, h _ q⟩
theorem len_plain_form : ∀ exf ds Q, sp_plain_form exf ds Q → ds.length = 2 := fun _ _ _ ⟨_, _, _, e, _⟩ => by rw [e]; rfl
def t_plain_form : TS2 := (s2Ret (t2Call sp_row_of_steps (t2Cons (t2Call sp_plain_steps (t2Cons (t2Var 0) (t2Cons (t2Var 1) t2Nil))) t2Nil)))
theorem pure_plain_form : Does ["m", "formula"] t_plain_form sp_plain_form := by
  refine does_i fun exf ds Q h => ?_
  obtain ⟨m, xs, B, rfl, hm, hl, hB, hB2, q⟩ := h
  obtain ⟨k, rfl, k0, k1⟩ := clk_nat hm
  walk_at "go"
  unfold t_plain_form
  walk_at "st"
  refine ⟨_, xs, B, rfl, hm, hl, hB, hB2, ?_⟩
  walk_at "st"
  refine ⟨_, plain k xs, 141, rfl, .inl rfl, Nat.le_trans (plain_len _ _) (by omega), nm_plain k0 k1 (by omega), by omega, ?_⟩
  walk_at "st"
  exact q
def divD2 : PyData → PyData
  | .tuple [.int a, .int b] => .int (a / b)
  | y => y
def mulD2 : PyData → PyData
  | .tuple [.int a, .int b] => .int (a * b)
  | y => y
def sp_idle_shares : Sp2 := fun _ ds Q => ∃ (m : Int) (xs : List Int) (B : Nat), ds = [.d (.int m), .d (tI xs)] ∧ isClk (.int m) = true ∧ xs.length ≤ 61 ∧ nm xs < 2 ^ B ∧ B ≤ 8000 ∧ (∀ x, m ∣ ev xs x) ∧ Q (.d (tI (tr (zf (· / ·) m.toNat 0 (stp xs)))))
theorem mono_idle_shares : MonoSp sp_idle_shares := fun _ _ _ _ h ⟨a, b, c, d, e, f, g, i, j, q⟩ => ⟨a, b, c, d, e, f, g, i, j, h _ q⟩
theorem len_idle_shares : ∀ exf ds Q, sp_idle_shares exf ds Q → ds.length = 2 := fun _ _ _ ⟨_, _, _, e, _⟩ => by rw [e]; rfl
def t_idle_shares : TS2 := (s2Seq (s2Drop (t2Call sp_checked_clock (t2Cons (t2Var 0) t2Nil)))
  (s2Seq (s2Drop (t2Call sp_checked_formulas (t2Cons (t2Var 1) t2Nil)))
  (s2Seq (s2Asg (t2Call sp_steps_of (t2Cons (t2Var 1) t2Nil)) (g2Name 2))
  (s2Seq (s2Asg (t2Call sp_step_bounds (t2Cons (t2Var 0) (t2Cons (t2CB c2Len (t2Cons (t2Var 2) t2Nil)) t2Nil))) (g2Name 3))
  (s2Seq (s2If (t2T (t2CB (c2All true) (t2Cons (t2Sc (t2Lc2 (i2Zip (t2Var 2) (t2Var 3)) 4 5 t2Yes (t2Op (q2Eq true) (t2Op (q2I (fun _ j => 0 < j) fun i j => .int (i % j)) (t2Var 4) (t2Var 5)) (t2C (.int 0))))) t2Nil))) (s2Ret (t2C .none)) s2Next)
  (s2Ret (t2Call sp_trimmed (t2Cons (t2Sc (t2Lc2 (i2Zip (t2Var 2) (t2Var 3)) 4 5 t2Yes (t2Op (q2I CDivW fun i j => .int (i / j)) (t2Var 4) (t2Var 5)))) t2Nil))))))))
theorem pure_idle_shares : Does ["m", "formula", "steps", "bounds", "one", "bound"] t_idle_shares sp_idle_shares := by
  refine does_i fun exf ds Q h => ?_
  obtain ⟨m, xs, B, rfl, hm, hl, hB, hB2, hi, q⟩ := h
  obtain ⟨k, rfl, k0, k1⟩ := clk_nat hm
  have hd := (idle_iff k0 (stp xs)).mp fun x => by rw [stp_es]; exact hi x
  have hsl : (stp xs).length ≤ 61 := by rw [stp_len]; have := tr_len xs; omega
  walk_at "go"
  unfold t_idle_shares
  walk_at "st"
  refine ⟨_, rfl, hm, ?_⟩
  walk_at "st"
  refine checked1 hl ?_
  walk_at "st"
  refine ⟨_, xs, B, rfl, .inl rfl, by omega, hB, by omega, ?_⟩
  walk_at "st"
  rw [List.length_map]
  refine ⟨k, (stp xs).length, rfl, k0, k1, by omega, ?_⟩
  walk_at "st"
  refine lc_m (fun _ => .bool false) (fun j z hz => ?_) bind2_mono ?_
  · obtain ⟨hj, rfl, hb⟩ := zip_bget k0 hz
    walk_at "st"
    case hc => exact Int.ofNat_lt.mpr hb
    refine lc_fin hz (zip_bz (by omega)) ?_ rfl
    have := hd j
    rw [co_lt hj] at this
    rw [Int.emod_eq_zero_of_dvd this]
    rfl
  walk_at "st"
  refine k_all rfl (bools_map _ _) ?_
  rw [if_pos rfl]
  rw [show ∀ (l : List PyData), (l.map fun _ => false).any id = false from fun l => by induction l <;> simp_all]
  walk_at "st"
  refine lc_m divD2 (fun j z hz => ?_) bind2_mono ?_
  · obtain ⟨hj, rfl, hb⟩ := zip_bget k0 hz
    walk_at "st"
    case hc => exact cdiv (p := 134) (Int.ofNat_lt.mpr hb) (by rw [Int.natAbs_natCast]; exact Nat.lt_of_le_of_lt (Nat.div_le_self _ _) k1) (by omega)
    exact lc_fin hz (zip_bz (by omega)) rfl rfl
  rw [zip_zf (f := (· / ·)) fun a b => rfl]
  walk_at "st"
  refine ⟨_, _, rfl, .inr rfl, by rw [zf_len]; omega, ?_⟩
  walk_at "st"
  exact q
def sp_changed_by_idle : Sp2 := fun _ ds Q => ∃ (m : Int) (xs os : List Int) (B : Nat), ds = [.d (.int m), .d (tI xs), .d (tI os)] ∧ isClk (.int m) = true ∧ xs.length ≤ 61 ∧ os.length ≤ 61 ∧ nm os < 2 ^ B ∧ B ≤ 8000 ∧ Q (.d (tI (tr (radd xs (rs 0 (zf (· * ·) m.toNat 0 os)) 1))))
theorem mono_changed_by_idle : MonoSp sp_changed_by_idle := fun _ _ _ _ h ⟨a, b, c, d, e, f, g, i, j, k, q⟩ => ⟨a, b, c, d, e, f, g, i, j, k, h _ q⟩
theorem len_changed_by_idle : ∀ exf ds Q, sp_changed_by_idle exf ds Q → ds.length = 3 := fun _ _ _ ⟨_, _, _, _, e, _⟩ => by rw [e]; rfl
def t_changed_by_idle : TS2 := (s2Seq (s2Drop (t2Call sp_checked_clock (t2Cons (t2Var 0) t2Nil)))
  (s2Seq (s2Drop (t2Call sp_checked_formulas (t2Cons (t2Var 1) (t2Cons (t2Var 2) t2Nil))))
  (s2Seq (s2Asg (t2Call sp_step_bounds (t2Cons (t2Var 0) (t2Cons (t2CB c2Len (t2Cons (t2Var 2) t2Nil)) t2Nil))) (g2Name 3))
  (s2Ret (t2Call sp_row_sum (t2Cons (t2Var 1) (t2Cons (t2Call sp_row_of_steps (t2Cons (t2Sc (t2Lc2 (i2Zip (t2Var 2) (t2Var 3)) 4 5 t2Yes (t2Op q2Mul (t2Var 4) (t2Var 5)))) t2Nil)) (t2Cons (t2C (.int 1)) t2Nil))))))))
theorem pure_changed_by_idle : Does ["m", "formula", "often", "bounds", "one", "bound"] t_changed_by_idle sp_changed_by_idle := by
  refine does_i fun exf ds Q h => ?_
  obtain ⟨m, xs, os, B, rfl, hm, hl, hol, hB, hB2, q⟩ := h
  obtain ⟨k, rfl, k0, k1⟩ := clk_nat hm
  walk_at "go"
  unfold t_changed_by_idle
  walk_at "st"
  refine ⟨_, rfl, hm, ?_⟩
  walk_at "st"
  refine checked2 hl hol ?_
  walk_at "st"
  rw [List.length_map]
  refine ⟨k, os.length, rfl, k0, k1, by omega, ?_⟩
  walk_at "st"
  refine lc_m mulD2 (fun j z hz => ?_) bind2_mono ?_
  · obtain ⟨hj, rfl, hb⟩ := zip_bget k0 hz
    walk_at "st"
    case hc => exact cmul (q := 134) (nm_lt hB (List.getElem_mem _)) (by rw [Int.natAbs_natCast]; exact Nat.lt_of_le_of_lt (Nat.div_le_self _ _) k1) (by omega)
    exact lc_fin hz (zip_bz (by omega)) rfl rfl
  rw [zip_zf (f := (· * ·)) fun a b => rfl]
  have hzn : nm (zf (· * ·) k 0 os) < 2 ^ (B + 134) := by
    refine Nat.lt_of_le_of_lt (zf_mul_nm k os) ?_
    rw [Nat.pow_add]
    exact Nat.mul_lt_mul'' hB k1
  have hrn : nm (rs 0 (zf (· * ·) k 0 os)) < 2 ^ (B + 134 + 6 * 64) := by
    refine Nat.lt_of_le_of_lt (rs_nm (M := 64) (by omega) (by rw [zf_len]; omega)) ?_
    exact pow_bound (x := 63) (C := 6) hzn (by decide) _ (by rw [zf_len]; omega)
  walk_at "st"
  refine ⟨_, _, B + 134, rfl, .inr rfl, by rw [zf_len]; omega, hzn, by omega, ?_⟩
  have hrl := rs_len 0 (zf (· * ·) k 0 os)
  rw [zf_len] at hrl
  walk_at "st"
  refine ⟨_, xs, _, _, 1, rfl, .inl rfl, .inl rfl, by omega, by omega, fun y hy => cmul (p := 1) (by decide) (nm_lt hrn hy) (by omega), ?_⟩
  walk_at "st"
  exact q
end LW

set_option maxHeartbeats 4000000
/-! PO: promises for the laws' own values, step rows, bounds, plain rows and sums. -/
namespace LW
open LM
def sp__law_value : Sp2 := sp_value_at
theorem mono__law_value : MonoSp sp__law_value := mono_value_at
theorem len__law_value : ∀ exf ds Q, sp__law_value exf ds Q → ds.length = 2 := len_value_at
def t__law_value : TS2 := (s2Seq (s2Asg (t2C (.int 0)) (g2Name 2))
  (s2Seq (s2For (i2Seq (t2Sc (t2Un q2Rev (t2Var 0)))) (g2Name 3) (s2Asg (t2Op q2Add (t2Op q2Mul (t2Var 2) (t2Var 1)) (t2Var 3)) (g2Name 2)))
  (s2Ret (t2Var 2))))
theorem k_rev {ex : EX} {y : PyData} {xs : List Int} {st : S} {i : Nat} {Q : KD} (h : rowOf y xs) (e : t2Var i ex st (fun x st1 => q2Rev x st1 Q)) : t2Un q2Rev (t2Var i) ex st Q := e
theorem pure__law_value : Does ["row", "x", "total", "entry"] t__law_value sp__law_value := by
  refine does_i fun exf ds Q h => ?_
  obtain ⟨y, xs, x, B, C, rfl, h1, hB, hC, hBC, q⟩ := h
  rcases h1 with rfl | rfl
  all_goals
    walk_at "go"
    unfold t__law_value
    walk_at "st"
    refine for_ii (fun k st => ∃ a, st = ⟨[some (.d _), some (.d (.int x)), some (.d (.int (ev (xs.drop (xs.length - k)) x))), a], []⟩) ⟨_, by rw [Nat.sub_zero, List.drop_length]; rfl⟩ (fun i x' st' hx hI => ?_) (fun st' hI => ?_)
    · obtain ⟨a, rfl⟩ := hI
      obtain ⟨hi, rfl⟩ := rev_int hx
      have hj : xs.length - 1 - i < xs.length := by omega
      have e0 : xs.length - (i + 1) = xs.length - 1 - i := by omega
      have e1 : xs.drop (xs.length - 1 - i) = xs[xs.length - 1 - i] :: xs.drop (xs.length - i) := by
        rw [drop_pre hj]; congr 2; omega
      walk_at "st"
      case hc =>
        refine cmul (p := B + C * xs.length) (q := C) ?_ hC (by rw [Nat.mul_add] at hBC; omega)
        refine Nat.lt_of_le_of_lt (Nat.le_trans (ev_abs _ x) (Nat.mul_le_mul_right _ (nm_drop _ _))) ?_
        exact pow_bound hB hC _ (by rw [List.length_drop]; omega)
      rw [e0, e1, ev]
      refine ⟨some (.d (.int xs[xs.length - 1 - i])), ?_⟩
      rw [Int.mul_comm, Int.add_comm]
    · obtain ⟨a, rfl⟩ := hI
      rw [List.length_reverse, List.length_map]
      walk_at "st"
      rw [Nat.sub_self]; exact q
def valD (xs : List Int) : PyData → PyData
  | .int i => .int (ev xs i)
  | y => y
theorem map_valD (xs : List Int) (n : Nat) : (rangeD 0 n).map (valD xs) = (vl 0 n (stp xs)).map PyData.int := by
  simp only [rangeD, vl, List.map_map, Nat.sub_zero]
  apply List.map_congr_left
  intro i _
  simp only [Function.comp, Int.zero_add, valD, difs]
  rw [stp_es]
def subD : PyData → PyData
  | .tuple [.int a, .int b] => .int (b - a)
  | y => y
theorem zip_sub (k n : Nat) (s : List Int) : (zipD ((vl k n s).map PyData.int) (((vl k n s).map PyData.int).drop 1)).map subD = (vl (k + 1) n s).map PyData.int := by
  refine List.ext_getElem (by simp [zipD, vl_len]; omega) fun i h1 h2 => ?_
  simp only [zipD, List.getElem_map, List.getElem_zipWith, List.getElem_drop, vl_get, subD]
  rw [← vl_step, show ((1 + i : Nat) : Int) = (i : Int) + 1 by omega]
theorem zip_sub_get {k n i : Nat} {s : List Int} {z : PyData} (h : (zipD ((vl k n s).map PyData.int) (((vl k n s).map PyData.int).drop 1))[i]? = some z) : ∃ a b : Int, z = .tuple [.int a, .int b] := by
  rw [← List.map_drop] at h
  exact zip_int h
def sp__law_step_row : Sp2 := fun _ ds Q => ∃ y xs B, ds = [.d y] ∧ rowOf y xs ∧ xs.length ≤ 61 ∧ nm xs < 2 ^ B ∧ B ≤ 900000 ∧ Q (.d (tI (stp xs)))
theorem mono__law_step_row : MonoSp sp__law_step_row := fun _ _ _ _ h ⟨a, b, c, d, e, f, g, i, q⟩ => ⟨a, b, c, d, e, f, g, i, h _ q⟩
theorem len__law_step_row : ∀ exf ds Q, sp__law_step_row exf ds Q → ds.length = 1 := fun _ _ _ ⟨_, _, _, e, _⟩ => by rw [e]; rfl
def t__law_step_row : TS2 := (s2Seq (s2Par3 1 2 3 (t2Sc (t2Lc1 (i2Rng1 (t2CB c2Len (t2Cons (t2Call sp__law_trim (t2Cons (t2Var 0) t2Nil)) t2Nil))) 4 t2Yes (t2Call sp__law_value (t2Cons (t2Var 0) (t2Cons (t2Var 4) t2Nil))))) (t2Lst t2Nil) (t2C (.int 1)))
  (s2Seq (s2While (t2B (t2Op (q2Eq true) (t2Var 1) (t2Sc (t2Lst t2Nil)))) (s2Seq (s2Drop (t2App (t2Var 2) (t2Op (q2I CDivW fun i j => .int (i / j)) (t2Op q2Ix (t2Var 1) (t2C (.int 0))) (t2Var 3))))
  (s2Par 1 3 (t2Sc (t2Lc2 (i2Zip (t2Var 1) (t2Sc (t2Sl (t2Var 1) (t2Part (t2C (.int 1))) t2NoP))) 5 6 t2Yes (t2Op (q2I0 fun i j => .int (i - j)) (t2Var 6) (t2Var 5)))) (t2Op q2Mul (t2Var 3) (t2CB c2Len (t2Cons (t2Var 2) t2Nil))))))
  (s2Ret (t2Call sp__law_trim (t2Cons (t2Var 2) t2Nil)))))
theorem pure__law_step_row : Does ["row", "values", "found", "factorial", "x", "a", "b"] t__law_step_row sp__law_step_row := by
  refine does_i fun exf ds Q h => ?_
  obtain ⟨y, xs, B, rfl, hy, hl, hB, hB2, q⟩ := h
  have htl := tr_len xs
  have hsl := stp_len xs
  obtain ⟨n, hn⟩ : ∃ n, n = (tr xs).length := ⟨_, rfl⟩
  rw [← hn] at htl hsl
  walk_at "go"
  unfold t__law_step_row
  walk_at "st"
  refine ⟨y, xs, rfl, hy, by omega, ?_⟩
  walk_at "st"
  case hz => rw [List.length_map]; omega
  rw [List.length_map, ← hn]
  refine lc_m (valD xs) (fun k z hz => ?_) bind1_mono ?_
  · obtain ⟨hi, rfl⟩ := range_get hz
    walk_at "st"
    refine ⟨y, xs, _, B, 6, rfl, hy, hB, by omega, by omega, ?_⟩
    walk_at "st"
    exact lc_fin hz (by rw [range_len]; omega) rfl rfl
  rw [Int.toNat_natCast, map_valD]
  walk_at "st"
  refine while_i (fun m st => ∃ k a b c, k ≤ n ∧ m = n - k ∧ st = ⟨[some (.d y), some (.d (lI (vl k n (stp xs)))), some (.o 0), some (.d (.int (fac k : Nat))), a, b, c], [⟨((stp xs).take k).map PyData.int, true⟩]⟩) n ⟨0, _, _, _, Nat.zero_le _, rfl, rfl⟩ (fun m st' hI => ?_)
  obtain ⟨k, a, b, c, hk, rfl, rfl⟩ := hI
  walk_at "st"
  refine k_eqD rfl rfl ?_ ⟨shaped_lints _, shaped_lnil⟩
  rw [eqv_lnil]
  have hvl := vl_len k n (stp xs)
  walk_at "st"
  refine k_bool (fun he => ?_) (fun he => ?_)
  · have hlt : k < n := by
      rcases Nat.lt_or_ge k n with h | h
      · exact h
      · exfalso
        have : vl k n (stp xs) = [] := List.eq_nil_of_length_eq_zero (by omega)
        rw [this] at he; cases he
    have hfs := fac_small (k := k) (by omega)
    have hfp := fac_pos k
    have hfp2 : 0 < (fac k : Int) := by omega
    have cd : ∀ l : List PyData, cut l (some 1) none = l.drop 1 := fun l => cut_drop l 1
    walk_at "st"
    refine k_ixI (.inl rfl) (atI_at (j := 0) rfl (by omega)) ?_
    walk_at "st"
    case hc => exact cdiv (p := 400) (by omega) (by omega) (by omega)
    case hz => rw [List.length_map, List.length_take]; exact szl (by omega)
    rw [cd]
    refine lc_m subD (fun j z hz => ?_) bind2_mono ?_
    · obtain ⟨u, v, rfl⟩ := zip_sub_get hz
      walk_at "st"
      refine lc_fin hz ?_ rfl rfl
      simp only [zipD, List.length_zipWith, List.length_map, List.length_drop]; omega
    rw [zip_sub]
    walk_at "st"
    case hc => exact cmul (p := 400) (q := 8) (by omega) (by simp only [List.length_append, List.length_map, List.length_take, List.length_cons, List.length_nil]; omega) (by omega)
    refine ⟨n - (k + 1), by omega, k + 1, a, b, c, hlt, rfl, ?_⟩
    have e1 : ((stp xs).take k).map PyData.int ++ [PyData.int ((vl k n (stp xs))[0]'(by omega) / (fac k : Nat))] = ((stp xs).take (k + 1)).map PyData.int := by
      rw [vl_get, Int.natCast_zero, vl_div, co_lt (by omega), List.take_succ_eq_append_getElem (by omega), List.map_append]
      rfl
    have e2 : (fac k : Int) * (((((stp xs).take k).map PyData.int ++ [PyData.int ((vl k n (stp xs))[0]'(by omega) / (fac k : Nat))]).length : Nat) : Int) = ((fac (k + 1) : Nat) : Int) := by
      rw [fac, Int.natCast_mul]
      congr 2
      simp only [List.length_append, List.length_map, List.length_take, List.length_cons, List.length_nil]
      omega
    simp only [e2]
    rw [e1]
  · have hkn : k = n := by
      rcases Nat.lt_or_ge k n with h | h
      · exfalso
        cases e : vl k n (stp xs) with
        | nil => rw [e] at hvl; simp at hvl; omega
        | cons a r => rw [e] at he; cases he
      · omega
    walk_at "st"
    refine ⟨_, stp xs, rfl, .inr (by rw [hkn, ← hsl, List.take_length]), by omega, ?_⟩
    rw [stp_tr]
    walk_at "st"
    exact q
def sp__law_bounds : Sp2 := fun _ ds Q => ∃ m n : Nat, ds = [.d (.int (m : Int)), .d (.int (n : Int))] ∧ 0 < m ∧ m < 2 ^ 134 ∧ n < 4194304 ∧ Q (.d (lI (bnds m n)))
theorem mono__law_bounds : MonoSp sp__law_bounds := fun _ _ _ _ h ⟨a, b, c, d, e, f, q⟩ => ⟨a, b, c, d, e, f, h _ q⟩
theorem len__law_bounds : ∀ exf ds Q, sp__law_bounds exf ds Q → ds.length = 2 := fun _ _ _ ⟨_, _, e, _⟩ => by rw [e]; rfl
def t__law_bounds : TS2 := (s2Seq (s2Par 2 3 (t2Lst t2Nil) (t2C (.int 1)))
  (s2Seq (s2For (i2Rng1 (t2Var 1)) (g2Name 4) (s2Seq (s2Asg (t2Call sp__law_part (t2Cons (t2Var 0) (t2Cons (t2Op q2Mul (t2Var 3) (t2CB (c2Two fun i j => if j > i then j else i) (t2Cons (t2C (.int 1)) (t2Cons (t2Var 4) t2Nil)))) t2Nil))) (g2Name 3))
  (s2Drop (t2App (t2Var 2) (t2Op (q2I CDivW fun i j => .int (i / j)) (t2Var 0) (t2Var 3))))))
  (s2Ret (t2Var 2))))
theorem pure__law_bounds : Does ["m", "many", "found", "part", "k"] t__law_bounds sp__law_bounds := by
  refine does_i fun exf ds Q h => ?_
  obtain ⟨m, n, rfl, h0, h1, hn, q⟩ := h
  walk_at "go"
  unfold t__law_bounds
  walk_at "st"
  case hz => omega
  rw [Int.toNat_natCast]
  refine for_ii (fun k st => ∃ a, st = ⟨[some (.d (.int (m : Int))), some (.d (.int (n : Int))), some (.o 0), some (.d (.int (sh m (k - 1) : Nat))), a], [⟨(bnds m k).map PyData.int, true⟩]⟩) ⟨_, by rw [Nat.zero_sub, sh_zero]; rfl⟩ (fun k xk st' hx hI => ?_) (fun st' hI => ?_)
  · obtain ⟨a, rfl⟩ := hI
    obtain ⟨hk, rfl⟩ := range_get hx
    have hs1 := sh_le h0 (k - 1)
    have hs2 := sh_le h0 k
    have hs3 := sh_pos h0 k
    have hmx : (if (k : Int) > 1 then (k : Int) else 1) = ((max 1 k : Nat) : Int) := by split <;> omega
    have hzl : (bnds m k).length = k := by simp [bnds]
    rw [Int.zero_add]
    walk_at "st"
    case hc => rw [hmx]; exact cmul (p := 134) (q := 134) (by omega) (by omega) (by omega)
    rw [hmx]
    refine ⟨m, sh m (k - 1) * max 1 k, by rw [Int.natCast_mul], ?_⟩
    rw [sh_max]
    walk_at "st"
    case hc => exact cdiv (p := 134) (by omega) (by omega) (by omega)
    case hz => rw [List.length_map, hzl]; exact szl (by omega)
    refine ⟨some (.d (.int (k : Int))), ?_⟩
    rw [show bnds m (k + 1) = bnds m k ++ [((m / sh m k : Nat) : Int)] by unfold bnds; rw [List.range_succ, List.map_append]; rfl, List.map_append, Int.natCast_ediv]
    rfl
  · obtain ⟨a, rfl⟩ := hI
    rw [range_len]
    walk_at "st"
    exact q
def sp__law_plain : Sp2 := fun _ ds Q => ∃ (m : Nat) (y : PyData) (xs : List Int) (B : Nat), ds = [.d (.int (m : Int)), .d y] ∧ 0 < m ∧ m < 2 ^ 134 ∧ rowOf y xs ∧ xs.length ≤ 61 ∧ nm xs < 2 ^ B ∧ B ≤ 900000 ∧ Q (.d (tI (plain m xs)))
theorem mono__law_plain : MonoSp sp__law_plain := fun _ _ _ _ h ⟨a, b, c, d, e, f, g, i, j, k, l, q⟩ => ⟨a, b, c, d, e, f, g, i, j, k, l, h _ q⟩
theorem len__law_plain : ∀ exf ds Q, sp__law_plain exf ds Q → ds.length = 2 := fun _ _ _ ⟨_, _, _, _, e, _⟩ => by rw [e]; rfl
def t__law_plain : TS2 := (s2Seq (s2Asg (t2Call sp__law_step_row (t2Cons (t2Var 1) t2Nil)) (g2Name 2))
  (s2Ret (t2Call sp__law_trim (t2Cons (t2Sc (t2Lc2 (i2Zip (t2Var 2) (t2Call sp__law_bounds (t2Cons (t2Var 0) (t2Cons (t2CB c2Len (t2Cons (t2Var 2) t2Nil)) t2Nil)))) 3 4 t2Yes (t2Op (q2I (fun _ j => 0 < j) fun i j => .int (i % j)) (t2CB c2Int (t2Cons (t2Var 3) t2Nil)) (t2Var 4)))) t2Nil))))
theorem pure__law_plain : Does ["m", "row", "steps", "one", "bound"] t__law_plain sp__law_plain := by
  refine does_i fun exf ds Q h => ?_
  obtain ⟨m, y, xs, B, rfl, h0, h1, hy, hl, hB, hB2, q⟩ := h
  have hsl : (stp xs).length ≤ 61 := by rw [stp_len]; have := tr_len xs; omega
  walk_at "go"
  unfold t__law_plain
  walk_at "st"
  refine ⟨y, xs, B, rfl, hy, hl, hB, hB2, ?_⟩
  walk_at "st"
  rw [List.length_map]
  refine ⟨m, (stp xs).length, rfl, h0, h1, by omega, ?_⟩
  walk_at "st"
  refine lc_m restD (fun j z hz => ?_) bind2_mono ?_
  · obtain ⟨hj, rfl, hb⟩ := zip_bget h0 hz
    walk_at "st"
    case hc => exact Int.ofNat_lt.mpr hb
    exact lc_fin hz (zip_bz (by omega)) rfl rfl
  rw [zip_restD]
  walk_at "st"
  refine ⟨_, _, rfl, .inr rfl, by rw [pl_len]; omega, ?_⟩
  walk_at "st"
  exact q
def sp__law_sum : Sp2 := fun _ ds Q => ∃ s B, ds = [.d (tI s)] ∧ s.length ≤ 64 ∧ nm s < 2 ^ B ∧ B ≤ 8000 ∧ Q (.d (tI (rs 0 s)))
theorem mono__law_sum : MonoSp sp__law_sum := fun _ _ _ _ h ⟨a, b, c, d, e, f, q⟩ => ⟨a, b, c, d, e, f, h _ q⟩
theorem len__law_sum : ∀ exf ds Q, sp__law_sum exf ds Q → ds.length = 1 := fun _ _ _ ⟨_, _, e, _⟩ => by rw [e]; rfl
def t__law_sum : TS2 := (s2Seq (s2Asg (t2Tup (t2Cons (t2Tup t2Nil) (t2Cons (t2Tup (t2Cons (t2C (.int 1)) t2Nil)) t2Nil))) (g2Tup 2 (g2Cons (g2Name 1) (g2Cons (g2Name 2) g2Nil))))
  (s2Seq (s2For (i2Enum (t2Var 0)) (g2Tup 2 (g2Cons (g2Name 3) (g2Cons (g2Name 4) g2Nil))) (s2Par 1 2 (t2Call sp__law_add (t2Cons (t2Var 1) (t2Cons (t2Var 2) (t2Cons (t2Var 4) t2Nil)))) (t2Call sp__law_by (t2Cons (t2Var 2) (t2Cons (t2Tup (t2Cons (t2Op (q2I0 fun i j => .int (i - j)) (t2C (.int 0)) (t2Var 3)) (t2Cons (t2C (.int 1)) t2Nil))) t2Nil)))))
  (s2Ret (t2Var 1))))
theorem pure__law_sum : Does ["steps", "found", "step", "k", "many"] t__law_sum sp__law_sum := by
  refine does_i fun exf ds Q h => ?_
  obtain ⟨s, B, rfl, hl, hB, hB2, q⟩ := h
  walk_at "go"
  unfold t__law_sum
  walk_at "st"
  refine for_ii (fun i st => ∃ F a b, st = ⟨[some (.d (tI s)), some (.d (tI F)), some (.d (tI (stw i))), a, b], []⟩ ∧ tr F = F ∧ F.length ≤ i + 1 ∧ ∀ x, ev F x = es 0 (s.take i) x) ⟨[], _, _, rfl, rfl, Nat.zero_le _, fun x => rfl⟩ (fun i x st' hx hI => ?_) (fun st' hI => ?_)
  · obtain ⟨F, a, b, rfl, hF, hFl, hFe⟩ := hI
    obtain ⟨hi, rfl⟩ := enum_int hx
    have hwl := stw_len i
    have hws := stw_small (k := i) (by omega)
    walk_at "st"
    refine ⟨_, F, _, stw i, s[i], rfl, .inl rfl, .inl rfl, by omega, by omega, fun y hy => cmul (nm_lt hB (List.getElem_mem _)) (nm_lt hws hy) (by omega), ?_⟩
    walk_at "st"
    refine ⟨_, stw i, _, [0 - (i : Int), 1], rfl, .inl rfl, .inl rfl, by omega, by simp, fun x hx y hy => ?_, ?_⟩
    · exact mem2 hy (cmul (q := 8) (nm_lt hws hx) (by omega) (by omega)) (cmul (nm_lt hws hx) one_small (by omega))
    walk_at "st"
    refine ⟨_, _, _, rfl, tr_tr _, ?_, fun x => ?_⟩
    · refine Nat.le_trans (tr_len _) ?_
      rw [radd_len]; omega
    · rw [ev_tr, ev_radd, hFe, stw_ev, es_take hi]
  · obtain ⟨F, a, b, rfl, hF, hFl, hFe⟩ := hI
    rw [enum_len, List.length_map, List.take_length] at hFe
    walk_at "st"
    rw [rs_uniq hF hFe]
    exact q
def degP (s : List Int) : PyData := if s = [] then .none else .int ((s.length : Int) - 1)
def sp_least_degree : Sp2 := fun _ ds Q => ∃ (m : Int) (xs : List Int) (B : Nat), ds = [.d (.int m), .d (tI xs)] ∧ isClk (.int m) = true ∧ xs.length ≤ 61 ∧ nm xs < 2 ^ B ∧ B ≤ 900000 ∧ Q (.d (degP (plain m.toNat xs)))
theorem mono_least_degree : MonoSp sp_least_degree := fun _ _ _ _ h ⟨a, b, c, d, e, f, g, i, q⟩ => ⟨a, b, c, d, e, f, g, i, h _ q⟩
theorem len_least_degree : ∀ exf ds Q, sp_least_degree exf ds Q → ds.length = 2 := fun _ _ _ ⟨_, _, _, e, _⟩ => by rw [e]; rfl
def t_least_degree : TS2 := (s2Seq (s2Asg (t2Call sp_plain_steps (t2Cons (t2Var 0) (t2Cons (t2Var 1) t2Nil))) (g2Name 2))
  (s2Ret (t2If (t2B (t2Op (q2Eq true) (t2Var 2) (t2Tup t2Nil))) (t2Op (q2I0 fun i j => .int (i - j)) (t2CB c2Len (t2Cons (t2Var 2) t2Nil)) (t2C (.int 1))) (t2C .none))))
theorem pure_least_degree : Does ["m", "formula", "steps"] t_least_degree sp_least_degree := by
  refine does_i fun exf ds Q h => ?_
  obtain ⟨m, xs, B, rfl, hm, hl, hB, hB2, q⟩ := h
  walk_at "go"
  unfold t_least_degree
  walk_at "st"
  refine ⟨m, xs, B, rfl, hm, hl, hB, hB2, ?_⟩
  walk_at "st"
  refine k_eqD rfl rfl ?_ ⟨shaped_tints _, shaped_tnil⟩
  rw [eqv_tI_nil]
  walk_at "st"
  unfold degP at q
  refine k_dect (fun h => ?_) (fun h => ?_)
  · rw [if_pos h] at q
    walk_at "st"
    exact q
  · rw [if_neg h] at q
    walk_at "st"
    rw [List.length_map]
    exact q
end LW

set_option maxHeartbeats 4000000
/-! PQ: promises of is_index, are_plain_steps, odd values. -/
namespace G
/-- a comprehension whose items are not told by a rule -/
def lcR (st1 : S) (P : Nat → PyData → Prop) (k : Nat) (acc : List PyData) (y : PyData) (st5 : S) : Prop := (st5.m.take st1.m.length = st1.m ∧ acc.length < sizeLine) ∧ (acc ++ [y]).length = k + 1 ∧ ∀ i z, (acc ++ [y])[i]? = some z → P i z
theorem lc_rf {st1 st5 : S} {P : Nat → PyData → Prop} {k : Nat} {acc : List PyData} {y : PyData} (hl : acc.length = k) (ha : ∀ i z, acc[i]? = some z → P i z) (hz : k < 16777216) (hy : P k y) (hm : st5.m = st1.m) : lcR st1 P k acc y st5 := by
  refine ⟨⟨by rw [hm, List.take_length], szl (by omega)⟩, by simp [hl], fun i z h => ?_⟩
  rcases Nat.lt_trichotomy i k with g | g | g
  · rw [List.getElem?_append_left (by omega)] at h
    exact ha i z h
  · subst g
    rw [List.getElem?_append_right (by omega), hl, Nat.sub_self] at h
    cases h; exact hy
  · rw [List.getElem?_eq_none (by simp; omega)] at h
    cases h
theorem lc_r {items : List PyData} {st1 : S} {bind : PyData → (S → Prop) → Prop} {te : TE2} {Q : KD} (P : Nat → PyData → Prop) (h : ∀ k x acc, items[k]? = some x → acc.length = k → (∀ i z, acc[i]? = some z → P i z) → bind x fun st2 => te ex0 st2 fun z st4 => asD z st4 fun y st5 => lcR st1 P k acc y st5)
    (hb : ∀ x (R R' : S → Prop), (∀ s, R s → R' s) → bind x R → bind x R') (q : ∀ acc : List PyData, acc.length = items.length → (∀ i z, acc[i]? = some z → P i z) → Q (.o st1.m.length) (st1.new acc)) : lcK items st1 bind t2Yes te Q := by
  refine ⟨fun k acc => acc.length = k ∧ ∀ i z, acc[i]? = some z → P i z, ⟨rfl, fun i z e => by simp at e⟩, fun k x acc hx e => ?_, fun acc e => q acc e.1 e.2⟩
  exact hb x _ _ (fun st2 h2 => h2) (h k x acc hx e.1 e.2)
end G
namespace LW
open LM
def ixB (n : Int) : PyData → Bool
  | .int i => decide (0 ≤ i) && decide (i < n)
  | _ => false
def sp_is_index : Sp2 := fun _ ds Q => ∃ x n, ds = [.d x, .d (.int n)] ∧ Q (.d (.bool (ixB n x)))
theorem mono_is_index : MonoSp sp_is_index := fun _ _ _ _ h ⟨a, b, c, q⟩ => ⟨a, b, c, h _ q⟩
theorem len_is_index : ∀ exf ds Q, sp_is_index exf ds Q → ds.length = 2 := fun _ _ _ ⟨_, _, e, _⟩ => by rw [e]; rfl
def t_is_index : TS2 := (s2Ret (t2AndV (t2Call sp_is_integer (t2Cons (t2Var 0) t2Nil)) (t2Chain (q2I0 fun i j => .bool (decide (i ≤ j))) (q2I0 fun i j => .bool (decide (i < j))) (t2C (.int 0)) (t2Var 0) (t2Var 1))))
theorem pure_is_index : Does ["value", "many"] t_is_index sp_is_index := by
  refine does_i fun exf ds Q h => ?_
  obtain ⟨x, n, rfl, q⟩ := h
  walk_at "go"
  unfold t_is_index
  walk_at "st"
  refine ⟨x, rfl, ?_⟩
  cases x with
  | int i =>
    walk_at "st"
    simp only [ixB] at q
    refine k_dec (fun h => ?_) (fun h => ?_)
    · walk_at "st"
      rw [decide_eq_true h, Bool.true_and] at q
      exact q
    · rw [decide_eq_false h, Bool.false_and] at q
      exact q
  | _ =>
    walk_at "st"
    exact q
/-- the whole numbers of a tuple -/
def nums : List PyData → List Int
  | [] => []
  | .int i :: r => i :: nums r
  | _ :: r => nums r
theorem nums_int (xs : List Int) : nums (xs.map PyData.int) = xs := by
  induction xs with
  | nil => rfl
  | cons a xs ih => simp [nums, ih]
theorem nums_of {ys : List PyData} (h : ys.all isI = true) : ys = (nums ys).map PyData.int := by
  induction ys with
  | nil => rfl
  | cons y ys ih =>
    simp only [List.all_cons, Bool.and_eq_true] at h
    cases y with
    | int i => rw [nums, List.map_cons, ← ih h.2]
    | _ => cases h.1
/-- whether it is a plain step row -/
def plV (m : Nat) : PyData → Bool
  | .tuple ys => decide (ys.length ≤ 600) && ys.all isI && (decide (tr (nums ys) = nums ys) && inb m 0 (nums ys))
  | _ => false
def inL (m : Nat) : Nat → List Int → List Bool
  | _, [] => []
  | k, a :: r => (decide (0 ≤ a) && decide (a < ((m / sh m k : Nat) : Int))) :: inL m (k + 1) r
theorem inL_all (m : Nat) : ∀ (r : List Int) (k : Nat), (inL m k r).all id = inb m k r
  | [], _ => rfl
  | a :: r, k => by simp only [inL, inb, List.all_cons, id, inL_all m r (k + 1)]
theorem zip_inL {D : PyData → PyData} (hD : ∀ a b : Int, D (.tuple [.int a, .int b]) = .bool (decide (0 ≤ a) && decide (a < b))) (m : Nat) (s : List Int) : (zipD (s.map PyData.int) ((bnds m s.length).map PyData.int)).map D = (inL m 0 s).map PyData.bool := by
  have key : ∀ (s : List Int) (k : Nat), (zipD (s.map PyData.int) (((List.range' k s.length).map fun k => ((m / sh m k : Nat) : Int)).map PyData.int)).map D = (inL m k s).map PyData.bool := by
    intro s
    induction s with
    | nil => intro k; rfl
    | cons a s ih =>
      intro k
      simp only [List.length_cons, List.range'_succ, List.map_cons, inL, zipD, List.zipWith_cons_cons, hD]
      have := ih (k + 1)
      unfold zipD at this
      rw [this]
  have := key s 0
  unfold bnds
  rw [List.range_eq_range']
  exact this
def inD : PyData → PyData
  | .tuple [.int a, .int b] => .bool (decide (0 ≤ a) && decide (a < b))
  | y => y
def sp_are_plain_steps : Sp2 := fun _ ds Q => ∃ (m : Int) (x : PyData), ds = [.d (.int m), .d x] ∧ isClk (.int m) = true ∧ (∀ ys, x = .tuple ys → ys.length < 16777216) ∧ Q (.d (.bool (plV m.toNat x)))
theorem mono_are_plain_steps : MonoSp sp_are_plain_steps := fun _ _ _ _ h ⟨a, b, c, d, e, q⟩ => ⟨a, b, c, d, e, h _ q⟩
theorem len_are_plain_steps : ∀ exf ds Q, sp_are_plain_steps exf ds Q → ds.length = 2 := fun _ _ _ ⟨_, _, e, _⟩ => by rw [e]; rfl
def t_are_plain_steps : TS2 := (s2Seq (s2Drop (t2Call sp_checked_clock (t2Cons (t2Var 0) t2Nil)))
  (s2Seq (s2If (t2Or (t2Not (t2T (t2CB c2Isi (t2Cons (t2Var 1) (t2Cons (t2Raw (.ty "tuple")) t2Nil))))) (t2Or (t2B (t2Op (q2I0 fun i j => .bool (decide (j < i))) (t2CB c2Len (t2Cons (t2Var 1) t2Nil)) (t2C (.int 600)))) (t2Not (t2T (t2CB (c2All false) (t2Cons (t2Sc (t2Lc1 (i2Seq (t2Var 1)) 2 t2Yes (t2Call sp_is_integer (t2Cons (t2Var 2) t2Nil)))) t2Nil)))))) (s2Ret (t2C (.bool false))) s2Next)
  (s2Seq (s2If (t2B (t2Op (q2Eq true) (t2Call sp_trimmed (t2Cons (t2Var 1) t2Nil)) (t2Var 1))) (s2Ret (t2C (.bool false))) s2Next)
  (s2Ret (t2CB (c2All false) (t2Cons (t2Sc (t2Lc2 (i2Zip (t2Var 1) (t2Call sp_step_bounds (t2Cons (t2Var 0) (t2Cons (t2CB c2Len (t2Cons (t2Var 1) t2Nil)) t2Nil)))) 2 3 t2Yes (t2Call sp_is_index (t2Cons (t2Var 2) (t2Cons (t2Var 3) t2Nil))))) t2Nil))))))
theorem pure_are_plain_steps : Does ["m", "value", "one", "bound"] t_are_plain_steps sp_are_plain_steps := by
  refine does_i fun exf ds Q h => ?_
  obtain ⟨m, x, rfl, hm, hx, q⟩ := h
  obtain ⟨k, rfl, k0, k1⟩ := clk_nat hm
  rw [Int.toNat_natCast] at q
  walk_at "go"
  unfold t_are_plain_steps
  walk_at "st"
  refine ⟨_, rfl, hm, ?_⟩
  cases x with
  | tuple ys =>
    have hyl := hx ys rfl
    walk_at "st"
    refine k_dec (fun h => ?_) (fun h => ?_)
    · walk_at "st"
      have e : plV k (.tuple ys) = false := by simp [plV, show ¬ ys.length ≤ 600 by omega]
      rw [e] at q; exact q
    walk_at "st"
    refine lc_m (fun x => .bool (isI x)) (fun j z hz => ?_) bind1_mono ?_
    · walk_at "st"
      refine ⟨_, rfl, ?_⟩
      walk_at "st"
      exact lc_fin hz (by omega) rfl rfl
    walk_at "st"
    refine k_all rfl (bools_map _ _) ?_
    rw [if_neg Bool.false_ne_true, List.all_map]
    walk_at "st"
    refine k_bool (fun ha => ?_) (fun ha => ?_)
    rotate_left
    · have ha2 : ys.all isI = true := by simpa using ha
      walk_at "st"
      obtain ⟨xs, hxs⟩ : ∃ xs : List Int, ys = xs.map PyData.int := ⟨_, nums_of ha2⟩
      subst hxs
      rw [List.length_map] at h
      refine ⟨_, xs, rfl, .inl rfl, by omega, ?_⟩
      walk_at "st"
      refine k_eqD rfl rfl ?_ ⟨shaped_tints _, shaped_tints _⟩
      rw [eqv_tints]
      walk_at "st"
      have e : plV k (.tuple (xs.map PyData.int)) = (decide (tr xs = xs) && inb k 0 xs) := by
        simp only [plV, nums_int, List.length_map, ha2, show xs.length ≤ 600 by omega, decide_true, Bool.true_and]
      rw [e] at q
      refine k_dect (fun ht => ?_) (fun ht => ?_)
      · rw [decide_eq_true ht, Bool.true_and] at q
        walk_at "st"
        rw [List.length_map]
        refine ⟨k, xs.length, rfl, k0, k1, by omega, ?_⟩
        walk_at "st"
        refine lc_m inD (fun j z hz => ?_) bind2_mono ?_
        · obtain ⟨hj, rfl, hb⟩ := zip_bget k0 hz
          walk_at "st"
          refine ⟨_, _, rfl, ?_⟩
          walk_at "st"
          exact lc_fin hz (zip_bz (by omega)) rfl rfl
        rw [zip_inL fun a b => rfl]
        walk_at "st"
        refine k_all rfl (bs := inL k 0 xs) (by have := bools_map id (inL k 0 xs); simpa using this) ?_
        rw [if_neg Bool.false_ne_true, inL_all]
        walk_at "st"
        exact q
      · rw [decide_eq_false ht, Bool.false_and] at q
        walk_at "st"
        exact q
    · have ha2 : ys.all isI = false := by simpa using ha
      walk_at "st"
      have e : plV k (.tuple ys) = false := by simp [plV, ha2]
      rw [e] at q; exact q
  | _ =>
    walk_at "st"
    exact q
def oddL (xs : List Int) : List PyData := [.none, .int 0, .bool true, .str (Str.ofString "0"), lI xs, .tuple (xs.map PyData.int ++ [.none]), .tuple (xs.map PyData.int ++ [.bool true]), .tuple [tI xs], .tuple (xs.map PyData.int ++ [.str (Str.ofString "1")]), .tuple (xs.map PyData.int ++ [.tuple []]), .dict []]
def sp__law_odd : Sp2 := fun _ ds Q => ∃ xs, ds = [.deal, .d (tI xs)] ∧ xs.length ≤ 1000 ∧ ∀ x ∈ oddL xs, Q (.d x)
theorem mono__law_odd : MonoSp sp__law_odd := fun _ _ _ _ h ⟨a, b, c, q⟩ => ⟨a, b, c, fun x hx => h _ (q x hx)⟩
theorem len__law_odd : ∀ exf ds Q, sp__law_odd exf ds Q → ds.length = 2 := fun _ _ _ ⟨_, e, _⟩ => by rw [e]; rfl
def t__law_odd : TS2 := (s2Seq (s2Asg (t2Sc (t2Lst (t2Cons (t2C .none) (t2Cons (t2C (.int 0)) (t2Cons (t2C (.bool true)) (t2Cons (t2C (.str (Str.ofString "0"))) (t2Cons (t2Sc (t2CB c2List (t2Cons (t2Var 1) t2Nil))) (t2Cons (t2Op q2Add (t2Var 1) (t2Tup (t2Cons (t2C .none) t2Nil))) (t2Cons (t2Op q2Add (t2Var 1) (t2Tup (t2Cons (t2C (.bool true)) t2Nil))) (t2Cons (t2Tup (t2Cons (t2Var 1) t2Nil)) (t2Cons (t2Op q2Add (t2Var 1) (t2Tup (t2Cons (t2C (.str (Str.ofString "1"))) t2Nil))) (t2Cons (t2Op q2Add (t2Var 1) (t2Tup (t2Cons (t2Tup t2Nil) t2Nil))) (t2Cons (t2C (.dict [])) t2Nil))))))))))))) (g2Name 2))
  (s2Ret (t2Call sp__law_of (t2Cons (t2Var 0) (t2Cons (t2Var 2) t2Nil)))))
theorem pure__law_odd : Does ["deal", "value", "some"] t__law_odd sp__law_odd := by
  refine does_i fun exf ds Q h => ?_
  obtain ⟨xs, rfl, hl, q⟩ := h
  walk_at "go"
  unfold t__law_odd
  walk_at "st"
  all_goals try (exact sz (by simp; omega))
  refine ⟨_, oddL xs, rfl, rfl, by simp [oddL], by simp [oddL], fun x hx => ?_⟩
  walk_at "st"
  exact q x hx
end LW

set_option maxHeartbeats 4000000
/-! PJ: helps of the laws. -/
namespace G
theorem k_ifn {ex : EX} {st : S} {sp1 sp2 : Sp2} {ta1 ta2 : TA2} {Q : KD} {p : Prop} [Decidable p] (P : Int → Prop) (h : ∀ v, P v → Q (.d (.int v)) st) (h1 : p → (∀ v, P v → Q (.d (.int v)) st) → t2Call sp1 ta1 ex st Q) (h2 : ¬p → (∀ v, P v → Q (.d (.int v)) st) → t2Call sp2 ta2 ex st Q) :
    if (false ^^ decide p) = true then t2Call sp1 ta1 ex st Q else t2Call sp2 ta2 ex st Q := by
  by_cases e : p
  · rw [if_pos (by simpa using e)]; exact h1 e h
  · rw [if_neg (by simpa using e)]; exact h2 e h
end G
namespace LW
open LM
theorem same_bool {exf : EXF} {Q : DV → Prop} {a b : Bool} (h : a = b) (q : Q (.d (.bool true))) : sp__law_same exf [.d (.bool a), .d (.bool b)] Q := by
  subst h; exact ⟨_, rfl, rfl, q⟩
theorem same_bools {exf : EXF} {Q : DV → Prop} {xs ys : List Bool} (h : xs = ys) (hl : ys.length < 16777216) (q : Q (.d (.bool true))) : sp__law_same exf [.d (.list (xs.map PyData.bool)), .d (.list (ys.map PyData.bool))] Q := by
  subst h
  refine ⟨_, rfl, ?_, q⟩
  simp only [okS, List.length_map, hl, decide_true, Bool.true_and, List.all_map, List.all_eq_true]
  intro x _
  rfl
theorem same_true {exf : EXF} {Q : DV → Prop} {a b : Bool} (h : a = true) (g : b = true) (q : Q (.d (.bool true))) : sp__law_same exf [.d (.list [.bool a, .bool b]), .d (.list [.bool true, .bool true])] Q := same_bools (xs := [a, b]) (ys := [true, true]) (by rw [h, g]) (by simp) q
theorem small_row {r : List Int} {n : Int} (h : (r.length : Int) ≤ n + 1) (hn : n ≤ 60) (hb : ∀ a ∈ r, a.natAbs < 2 ^ 40) : nm r < 2 ^ 46 := by
  refine Nat.lt_of_le_of_lt (nm_le (m := 2 ^ 40) fun a ha => Nat.le_of_lt (hb a ha)) ?_
  exact Nat.lt_of_le_of_lt (Nat.mul_le_mul_right _ (show r.length ≤ 61 by omega)) (by decide)
theorem nm_up {r : List Int} {B C : Nat} (h : nm r < 2 ^ B) (g : B ≤ C) : nm r < 2 ^ C := Nat.lt_of_lt_of_le h (Nat.pow_le_pow_right (by decide) g)
theorem nm_add {xs ys : List Int} {B : Nat} {n : Int} (hn : n.natAbs = 1) (h1 : nm xs < 2 ^ B) (h2 : nm ys < 2 ^ B) : nm (tr (radd xs ys n)) < 2 ^ (B + 1) := by
  refine Nat.lt_of_le_of_lt (Nat.le_trans (nm_tr _) (nm_radd _ _ _)) ?_
  rw [hn, Nat.one_mul, Nat.pow_succ]
  omega
theorem add_len (xs ys : List Int) (n : Int) : (tr (radd xs ys n)).length ≤ max xs.length ys.length := by
  refine Nat.le_trans (tr_len _) ?_
  rw [radd_len]; omega
theorem nm_mul {xs ys : List Int} {B C : Nat} (h1 : nm xs < 2 ^ B) (h2 : nm ys < 2 ^ C) : nm (tr (rm xs ys)) < 2 ^ (B + C) := by
  refine Nat.lt_of_le_of_lt (Nat.le_trans (nm_tr _) (nm_rm _ _)) ?_
  rw [Nat.pow_add]
  exact Nat.mul_lt_mul'' h1 h2
theorem mul_len (xs ys : List Int) : (tr (rm xs ys)).length ≤ xs.length + ys.length := Nat.le_trans (tr_len _) (rm_len2 _ _)
theorem deg_ok {xs ys : List Int} (h : xs.length ≤ 21) (g : ys.length ≤ 2) : (tr xs).length - 1 ≤ 20 ∧ (tr ys).length - 1 ≤ 1 := by
  have := tr_len xs
  have := tr_len ys
  omega
end LW

set_option maxHeartbeats 4000000
/-! PS: promises of _law_told and first_apart. -/
namespace LW
open LM
def sp__law_told : Sp2 := fun _ ds Q => ∃ (m : Int) (y : PyData) (xs : List Int) (x : Int), ds = [.d (.int m), .d y, .d (.int x)] ∧ 0 < m ∧ m.natAbs < 2 ^ 8000 ∧ rowOf y xs ∧ x.natAbs < 2 ^ 8000 ∧ Q (.d (.int (ev xs x % m)))
theorem mono__law_told : MonoSp sp__law_told := fun _ _ _ _ h ⟨a, b, c, d, e, f, g, i, j, q⟩ => ⟨a, b, c, d, e, f, g, i, j, h _ q⟩
theorem len__law_told : ∀ exf ds Q, sp__law_told exf ds Q → ds.length = 3 := fun _ _ _ ⟨_, _, _, _, e, _⟩ => by rw [e]; rfl
def t__law_told : TS2 := (s2Seq (s2Asg (t2C (.int 0)) (g2Name 3))
  (s2Seq (s2For (i2Seq (t2Sc (t2Un q2Rev (t2Var 1)))) (g2Name 4) (s2Asg (t2Op (q2I (fun _ j => 0 < j) fun i j => .int (i % j)) (t2CB c2Int (t2Cons (t2Op q2Add (t2Op q2Mul (t2Var 3) (t2Var 2)) (t2Var 4)) t2Nil)) (t2Var 0)) (g2Name 3)))
  (s2Ret (t2Var 3))))
theorem pure__law_told : Does ["m", "row", "x", "total", "entry"] t__law_told sp__law_told := by
  refine does_i fun exf ds Q h => ?_
  obtain ⟨m, y, xs, x, rfl, h0, h1, hy, hx, q⟩ := h
  rcases hy with rfl | rfl
  all_goals
    walk_at "go"
    unfold t__law_told
    walk_at "st"
    refine for_ii (fun k st => ∃ a, st = ⟨[some (.d (.int m)), some (.d _), some (.d (.int x)), some (.d (.int (ev (xs.drop (xs.length - k)) x % m))), a], []⟩) ⟨_, by rw [Nat.sub_zero, List.drop_length, ev, Int.zero_emod]⟩ (fun i x' st' hx' hI => ?_) (fun st' hI => ?_)
    · obtain ⟨a, rfl⟩ := hI
      obtain ⟨hi, rfl⟩ := rev_int hx'
      have hj : xs.length - 1 - i < xs.length := by omega
      have e0 : xs.length - (i + 1) = xs.length - 1 - i := by omega
      have e1 : xs.drop (xs.length - 1 - i) = xs[xs.length - 1 - i] :: xs.drop (xs.length - i) := by
        rw [drop_pre hj]; congr 2; omega
      have t0 := Int.emod_nonneg (ev (xs.drop (xs.length - i)) x) (b := m) (by omega)
      have t1 := Int.emod_lt_of_pos (ev (xs.drop (xs.length - i)) x) h0
      walk_at "st"
      case hc => exact h0
      case hc => exact cmul (p := 8000) (q := 8000) (by omega) hx (by omega)
      rw [e0, e1, ev]
      refine ⟨some (.d (.int xs[xs.length - 1 - i])), ?_⟩
      have e2 : (ev (xs.drop (xs.length - i)) x % m * x + xs[xs.length - 1 - i]) % m = (xs[xs.length - 1 - i] + x * ev (xs.drop (xs.length - i)) x) % m := by
        rw [Int.add_emod, Int.mul_emod, Int.emod_emod, ← Int.mul_emod, ← Int.add_emod, Int.mul_comm, Int.add_comm]
      rw [e2]
    · obtain ⟨a, rfl⟩ := hI
      rw [List.length_reverse, List.length_map]
      walk_at "st"
      rw [Nat.sub_self]; exact q
def fsD (r : List Int) : PyData := match fst? 0 r with
  | some j => .int (j : Int)
  | none => .none
def sp_first_apart : Sp2 := fun _ ds Q => ∃ (m : Int) (xs ys : List Int) (B : Nat), ds = [.d (.int m), .d (tI xs), .d (tI ys)] ∧ isClk (.int m) = true ∧ xs.length ≤ 61 ∧ ys.length ≤ 61 ∧ nm xs < 2 ^ B ∧ nm ys < 2 ^ B ∧ B ≤ 800000 ∧ Q (.d (fsD (plain m.toNat (tr (radd xs ys (-1))))))
theorem mono_first_apart : MonoSp sp_first_apart := fun _ _ _ _ h ⟨a, b, c, d, e, f, g, i, j, k, l, q⟩ => ⟨a, b, c, d, e, f, g, i, j, k, l, h _ q⟩
theorem len_first_apart : ∀ exf ds Q, sp_first_apart exf ds Q → ds.length = 3 := fun _ _ _ ⟨_, _, _, _, e, _⟩ => by rw [e]; rfl
def t_first_apart : TS2 := (s2Seq (s2Drop (t2Call sp_checked_clock (t2Cons (t2Var 0) t2Nil)))
  (s2Seq (s2Drop (t2Call sp_checked_formulas (t2Cons (t2Var 1) (t2Cons (t2Var 2) t2Nil))))
  (s2Seq (s2For (i2Enum (t2Call sp_plain_of (t2Cons (t2Var 0) (t2Cons (t2Call sp_row_sum (t2Cons (t2Var 1) (t2Cons (t2Var 2) (t2Cons (t2Un q1Neg (t2C (.int 1))) t2Nil)))) t2Nil)))) (g2Tup 2 (g2Cons (g2Name 3) (g2Cons (g2Name 4) g2Nil))) (s2If (t2B (t2Op (q2Eq true) (t2Var 4) (t2C (.int 0)))) (s2Ret (t2Var 3)) s2Next))
  (s2Ret (t2C .none)))))
theorem pure_first_apart : Does ["m", "one", "other", "at", "entry"] t_first_apart sp_first_apart := by
  refine does_i fun exf ds Q h => ?_
  obtain ⟨m, xs, ys, B, rfl, hm, hl, hl2, hB, hC, hB2, q⟩ := h
  obtain ⟨k, rfl, k0, k1⟩ := clk_nat hm
  rw [Int.toNat_natCast] at q
  walk_at "go"
  unfold t_first_apart
  walk_at "st"
  refine ⟨_, rfl, hm, ?_⟩
  walk_at "st"
  refine checked2 hl hl2 ?_
  walk_at "st"
  refine ⟨_, xs, _, ys, -1, rfl, .inl rfl, .inl rfl, by omega, by omega, fun y hy => cmul (p := 1) (by decide) (nm_lt hC hy) (by omega), ?_⟩
  walk_at "st"
  refine ⟨k, _, _, B + 1, rfl, k0, k1, .inl rfl, ?_, nm_diff hB hC, by omega, ?_⟩
  · refine Nat.le_trans (tr_len _) ?_
    rw [radd_len]; omega
  obtain ⟨pl0, hpl⟩ : ∃ z, z = plain k (tr (radd xs ys (-1))) := ⟨_, rfl⟩
  rw [← hpl] at q ⊢
  walk_at "st"
  refine for_ii (fun i st => ∃ a b, st = ⟨[some (.d (.int (k : Int))), some (.d (tI xs)), some (.d (tI ys)), a, b], []⟩ ∧ fst? 0 pl0 = fst? i (pl0.drop i)) ⟨_, _, rfl, rfl⟩ (fun i x st' hx hI => ?_) (fun st' hI => ?_)
  · obtain ⟨a, b, rfl, hd⟩ := hI
    obtain ⟨hi, rfl⟩ := enum_int hx
    rw [List.drop_eq_getElem_cons hi, fst?] at hd
    walk_at "st"
    refine k_dect (fun h => ?_) (fun h => ?_)
    rotate_left
    · walk_at "st"
      rw [if_neg h] at hd
      unfold fsD at q
      rw [hd] at q
      exact q
    · rw [if_pos h] at hd
      walk_at "st"
      exact ⟨_, _, rfl, hd⟩
  · obtain ⟨a, b, rfl, hd⟩ := hI
    rw [enum_len, List.length_map, List.drop_length] at hd
    unfold fsD at q
    rw [hd] at q
    walk_at "st"
    exact q
end LW

set_option maxHeartbeats 4000000
/-! QA: clocks and formulas refused. -/
namespace LW
open LM
theorem form_of {y : PyData} (h : isForm y = true) : ∃ xs, y = tI xs ∧ xs.length ≤ 61 := by
  cases y with
  | tuple ys =>
    simp only [isForm, Bool.and_eq_true, decide_eq_true_eq, List.all_eq_true] at h
    refine ⟨ys.map fun z => match z with | .int i => i | _ => 0, ?_, by simpa using h.1⟩
    congr 1
    rw [List.map_map]
    symm
    conv => rhs; rw [← List.map_id ys]
    refine List.map_congr_left fun z hz => ?_
    have := h.2 z hz
    cases z <;> first | rfl | cases this
  | _ => cases h
theorem int_of {y : PyData} (h : isI y = true) : ∃ k, y = .int k := by
  cases y <;> first | exact ⟨_, rfl⟩ | cases h
theorem clock_of {y : PyData} (h : isClk y = true) : ∃ m, y = .int m := by
  cases y <;> first | exact ⟨_, rfl⟩ | cases h
def spw_checked_clock : Sp2 := fun exf ds Q => ∃ x, ds = [.d x] ∧ if isClk x = false then exf "InvalidClock" (some (.int 0)) else Q (.d .none)
theorem monow_checked_clock : MonoSp spw_checked_clock := fun _ _ _ _ h ⟨x, e, q⟩ => ⟨x, e, by
  split at q
  · rw [if_pos (by assumption)]; exact q
  · rw [if_neg (by assumption)]; exact h _ q⟩
theorem lenw_checked_clock : ∀ exf ds Q, spw_checked_clock exf ds Q → ds.length = 1 := fun _ _ _ ⟨_, e, _⟩ => by rw [e]; rfl
theorem wide_checked_clock : ∀ exf ds Q, sp_checked_clock exf ds Q → spw_checked_clock exf ds Q := fun exf ds Q ⟨x, e, h, q⟩ => ⟨x, e, by rw [if_neg (by simp [h])]; exact q⟩
def tw_checked_clock : TS2 := (s2If (t2Not (t2T (t2Call sp_is_clock (t2Cons (t2Var 0) t2Nil)))) (s2Raise "InvalidClock" (t2Cons (t2C (.int 0)) t2Nil)) s2Next)
theorem purew_checked_clock : Does ["m"] tw_checked_clock spw_checked_clock := by
  refine does_i fun exf ds Q h => ?_
  obtain ⟨x, rfl, q⟩ := h
  walk_at "go"
  unfold tw_checked_clock
  walk_at "st"
  refine ⟨_, rfl, ?_⟩
  walk_at "st"
  cases e : isClk x
  · rw [e, if_pos rfl] at q
    walk_at "st"
    exact q
  · rw [e] at q
    walk_at "st"
    exact q
/-- the first value that is no formula -/
def badF : Nat → List PyData → Option Nat
  | _, [] => none
  | k, y :: ys => if isForm y = false then some k else badF (k + 1) ys
def spw0_checked_formulas : Sp2 := fun exf ds Q => ∃ ys, ds = [.d (.tuple ys)] ∧ match badF 0 ys with
  | some i => exf "InvalidFormula" (some (.int (i : Int)))
  | none => Q (.d .none)
theorem monow0_checked_formulas : MonoSp spw0_checked_formulas := fun _ _ _ _ h ⟨x, e, q⟩ => ⟨x, e, by
  split at q
  · exact q
  · exact h _ q⟩
abbrev spw_checked_formulas : Sp2 := spStar spw0_checked_formulas
theorem monow_checked_formulas : MonoSp spw_checked_formulas := fun _ _ _ _ h ⟨x, e, f, q⟩ => ⟨x, e, f, monow0_checked_formulas _ _ _ _ h q⟩
theorem badF_none {k : Nat} {ys : List PyData} (h : ∀ y ∈ ys, isForm y = true) : badF k ys = none := by
  induction ys generalizing k with
  | nil => rfl
  | cons y ys ih =>
    unfold badF
    rw [if_neg (by simp [h y (List.mem_cons_self ..)])]
    exact ih fun z hz => h z (List.mem_cons_of_mem _ hz)
theorem wide_checked_formulas : ∀ exf ds Q, sp_checked_formulas exf ds Q → spw_checked_formulas exf ds Q := fun exf ds Q ⟨x, e, f, y, e2, h, q⟩ => ⟨x, e, f, y, e2, by rw [badF_none h]; exact q⟩
theorem badF_drop {ys : List PyData} {k : Nat} (h : ∀ j (hj : j < k) (hl : j < ys.length), isForm ys[j] = true) : badF 0 ys = badF k (ys.drop k) := by
  induction k with
  | zero => rfl
  | succ k ih =>
    rw [ih fun j hj hl => h j (by omega) hl]
    by_cases e : k < ys.length
    · rw [List.drop_eq_getElem_cons e]
      conv => lhs; unfold badF
      rw [if_neg (by simp [h k (by omega) e])]
    · rw [List.drop_eq_nil_of_le (by omega), List.drop_eq_nil_of_le (by omega)]; rfl
def tw_checked_formulas : TS2 := (s2For (i2Enum (t2Var 0)) (g2Tup 2 (g2Cons (g2Name 1) (g2Cons (g2Name 2) g2Nil))) (s2If (t2Not (t2T (t2Call sp_is_formula (t2Cons (t2Var 2) t2Nil)))) (s2Raise "InvalidFormula" (t2Cons (t2Var 1) t2Nil)) s2Next))
theorem purew_checked_formulas : Does ["formulas", "at", "formula"] tw_checked_formulas spw0_checked_formulas := by
  refine does_i fun exf ds Q h => ?_
  obtain ⟨ys, rfl, q⟩ := h
  walk_at "go"
  unfold tw_checked_formulas
  walk_at "st"
  refine for_ii (fun k st => ∃ a b, st = ⟨[some (.d (.tuple ys)), a, b], []⟩ ∧ ∀ j (hj : j < k) (hl : j < ys.length), isForm ys[j] = true) ⟨_, _, rfl, fun j hj => by omega⟩ (fun i x st' hx hI => ?_) (fun st' hI => ?_)
  · obtain ⟨a, b, rfl, hj⟩ := hI
    obtain ⟨y, hy, rfl⟩ := enum_get hx
    obtain ⟨hi, rfl⟩ := List.getElem?_eq_some_iff.mp hy
    walk_at "st"
    refine ⟨_, rfl, ?_⟩
    walk_at "st"
    cases e : isForm ys[i]
    · walk_at "st"
      rw [badF_drop hj, List.drop_eq_getElem_cons hi] at q
      unfold badF at q
      rw [if_pos e] at q
      exact q
    · walk_at "st"
      refine ⟨_, _, rfl, fun j hj2 hl => ?_⟩
      by_cases g : j = i
      · subst g; exact e
      · exact hj j (by omega) hl
  · obtain ⟨a, b, rfl, hj⟩ := hI
    have e : badF 0 ys = none := badF_none fun y hy => by
      obtain ⟨j, hl, rfl⟩ := List.mem_iff_getElem.mp hy
      exact hj j (by rw [enum_len]; exact hl) hl
    rw [e] at q
    exact q
/-- one value asked, or two -/
theorem checkedw1 {exf : EXF} {Q : DV → Prop} {y : PyData} (q : if isForm y = false then exf "InvalidFormula" (some (.int 0)) else Q (.d .none)) : spw_checked_formulas exf [.d y] Q := by
  refine ⟨[y], rfl, by simp [sizeLine], _, rfl, ?_⟩
  unfold badF
  cases e : isForm y
  · rw [e] at q; simpa using q
  · rw [e] at q; simpa [badF] using q
theorem checkedw2 {exf : EXF} {Q : DV → Prop} {y z : PyData} (q : if isForm y = false then exf "InvalidFormula" (some (.int 0)) else if isForm z = false then exf "InvalidFormula" (some (.int 1)) else Q (.d .none)) : spw_checked_formulas exf [.d y, .d z] Q := by
  refine ⟨[y, z], rfl, by simp [sizeLine], _, rfl, ?_⟩
  unfold badF
  cases e : isForm y
  · rw [e] at q; simpa using q
  · rw [e] at q
    unfold badF
    cases e2 : isForm z
    · rw [e2] at q; simpa using q
    · rw [e2] at q; simpa [badF] using q
end LW

set_option maxHeartbeats 4000000
/-! QB: hours told, functions, refused or not. -/
namespace LW
open LM
theorem ite_mono {c : Prop} [Decidable c] {A B C : Prop} (h : B → C) (q : if c then A else B) : if c then A else C := by
  by_cases e : c
  · rw [if_pos e] at q ⊢; exact q
  · rw [if_neg e] at q ⊢; exact h q
theorem tI_inj {xs ys : List Int} (h : tI xs = tI ys) : xs = ys := by
  injection h with h
  induction xs generalizing ys with
  | nil => cases ys <;> first | rfl | cases h
  | cons x xs ih =>
    cases ys with
    | nil => cases h
    | cons y ys =>
      injection h with h1 h2
      cases h1
      rw [ih h2]
def spw_told_at : Sp2 := fun exf ds Q => ∃ x y z, ds = [.d x, .d y, .d z] ∧ if isClk x = false then exf "InvalidClock" (some (.int 0)) else if isForm y = false then exf "InvalidFormula" (some (.int 0)) else if isI z = false then exf "InvalidQuestion" (some (.int 2)) else sp_told_at exf ds Q
theorem monow_told_at : MonoSp spw_told_at := fun _ _ _ _ h ⟨x, y, z, e, q⟩ => ⟨x, y, z, e, ite_mono (ite_mono (ite_mono (mono_told_at _ _ _ _ h))) q⟩
theorem lenw_told_at : ∀ exf ds Q, spw_told_at exf ds Q → ds.length = 3 := fun _ _ _ ⟨_, _, _, e, _⟩ => by rw [e]; rfl
theorem wide_told_at : ∀ exf ds Q, sp_told_at exf ds Q → spw_told_at exf ds Q := fun exf ds Q h => by
  have h0 := h
  obtain ⟨m, xs, x, rfl, hm, hl, hx, q⟩ := h
  refine ⟨_, _, _, rfl, ?_⟩
  rw [if_neg (by simp [hm]), if_neg (by simp [isForm_ints hl]), if_neg (by simp [isI])]
  exact h0
def tw_told_at : TS2 := (s2Seq (s2Drop (t2Call spw_checked_clock (t2Cons (t2Var 0) t2Nil)))
  (s2Seq (s2Drop (t2Call spw_checked_formulas (t2Cons (t2Var 1) t2Nil)))
  (s2Seq (s2If (t2Not (t2T (t2Call sp_is_integer (t2Cons (t2Var 2) t2Nil)))) (s2Raise "InvalidQuestion" (t2Cons (t2C (.int 2)) t2Nil)) s2Next)
  (s2Seq (s2Asg (t2C (.int 0)) (g2Name 3))
  (s2Seq (s2For (i2Rev (t2Var 1)) (g2Name 4) (s2Asg (t2Op (q2I (fun _ j => 0 < j) fun i j => .int (i % j)) (t2Op q2Add (t2Op q2Mul (t2Var 3) (t2Var 2)) (t2Var 4)) (t2Var 0)) (g2Name 3)))
  (s2Ret (t2Var 3)))))))
theorem purew_told_at : Does ["m", "formula", "x", "total", "one"] tw_told_at spw_told_at := by
  refine does_i fun exf ds Q h => ?_
  obtain ⟨x1, y1, z1, rfl, q⟩ := h
  walk_at "go"
  unfold tw_told_at
  walk_at "st"
  refine ⟨_, rfl, ?_⟩
  cases e1 : isClk x1
  · rw [e1] at q; walk_at "st"; exact q
  rw [e1, if_neg (by simp)] at q
  rw [if_neg (by simp)]
  walk_at "st"
  refine checkedw1 ?_
  cases e2 : isForm y1
  · rw [e2] at q; walk_at "st"; exact q
  rw [e2, if_neg (by simp)] at q
  rw [if_neg (by simp)]
  walk_at "st"
  refine ⟨_, rfl, ?_⟩
  walk_at "st"
  cases e3 : isI z1
  · rw [e3] at q; walk_at "st"; exact q
  rw [e3, if_neg (by simp)] at q
  clear e1 e2 e3
  obtain ⟨m, xs, x, eds, hm, hl, hx, q⟩ := q
  cases eds
  have hm2 := clk_of hm
  walk_at "st"
  have hmod : ∀ a : Int, 0 ≤ a % m ∧ a % m < m := fun a => ⟨Int.emod_nonneg _ (by omega), Int.emod_lt_of_pos _ (by omega)⟩
  refine for_ii (fun k st => ∃ a, st = ⟨[some (.d (.int m)), some (.d (tI xs)), some (.d (.int x)), some (.d (.int (ev (xs.drop (xs.length - k)) x % m))), a], []⟩) ⟨_, by rw [Nat.sub_zero, List.drop_length]; rfl⟩ (fun i x' st' hx' hI => ?_) (fun st' hI => ?_)
  · obtain ⟨a, rfl⟩ := hI
    obtain ⟨hi, rfl⟩ := rev_int hx'
    have hj : xs.length - 1 - i < xs.length := by omega
    have e0 : xs.length - (i + 1) = xs.length - 1 - i := by omega
    have e1 : xs.drop (xs.length - 1 - i) = xs[xs.length - 1 - i] :: xs.drop (xs.length - i) := by
      rw [drop_pre hj]; congr 2; omega
    have h2 := hmod (ev (xs.drop (xs.length - i)) x)
    walk_at "st"
    case hc => exact (by omega : (0 : Int) < m)
    case hc => exact cmul (p := 134) (by omega) hx (by omega)
    rw [e0, e1, ev]
    refine ⟨some (.d (.int xs[xs.length - 1 - i])), ?_⟩
    congr 5
    rw [Int.add_emod, Int.mul_emod, Int.emod_emod, ← Int.mul_emod, ← Int.add_emod, Int.mul_comm, Int.add_comm]
  · obtain ⟨a, rfl⟩ := hI
    rw [List.length_reverse, List.length_map]
    walk_at "st"
    rw [Nat.sub_self]; exact q
/-- more than so many -/
def gtD (n : Int) : PyData → Bool
  | .int m => decide (n < m)
  | _ => false
def spw_function_of : Sp2 := fun exf ds Q => ∃ x y, ds = [.d x, .d y] ∧ if isClk x = false then exf "InvalidClock" (some (.int 0)) else if isForm y = false then exf "InvalidFormula" (some (.int 0)) else if gtD 600 x = true then exf "Refused" (some (.int 600)) else sp_function_of exf ds Q
theorem monow_function_of : MonoSp spw_function_of := fun _ _ _ _ h ⟨x, y, e, q⟩ => ⟨x, y, e, ite_mono (ite_mono (ite_mono (mono_function_of _ _ _ _ h))) q⟩
theorem lenw_function_of : ∀ exf ds Q, spw_function_of exf ds Q → ds.length = 2 := fun _ _ _ ⟨_, _, e, _⟩ => by rw [e]; rfl
theorem wide_function_of : ∀ exf ds Q, sp_function_of exf ds Q → spw_function_of exf ds Q := fun exf ds Q h => by
  have h0 := h
  obtain ⟨m, xs, rfl, h1, h2, hl, q⟩ := h
  refine ⟨_, _, rfl, ?_⟩
  rw [if_neg (by simp [clk_int h1 (by omega)]), if_neg (by simp [isForm_ints hl]), if_neg (by simp [gtD]; omega)]
  exact h0
def tw_function_of : TS2 := (s2Seq (s2Drop (t2Call spw_checked_clock (t2Cons (t2Var 0) t2Nil)))
  (s2Seq (s2Drop (t2Call spw_checked_formulas (t2Cons (t2Var 1) t2Nil)))
  (s2Seq (s2If (t2B (t2Op (q2I0 fun i j => .bool (decide (j < i))) (t2Var 0) (t2C (.int 600)))) (s2Raise "Refused" (t2Cons (t2C (.int 600)) t2Nil)) s2Next)
  (s2Seq (s2Asg (t2Sc (t2Lc1 (i2Seq (t2Var 1)) 3 t2Yes (t2Op (q2I (fun _ j => 0 < j) fun i j => .int (i % j)) (t2Var 3) (t2Var 0)))) (g2Name 2))
  (s2Ret (t2CB c2Tuple (t2Cons (t2Sc (t2Lc1 (i2Rng1 (t2Var 0)) 4 t2Yes (t2Op (q2I (fun _ j => 0 < j) fun i j => .int (i % j)) (t2Call sp_value_at (t2Cons (t2Var 2) (t2Cons (t2Var 4) t2Nil))) (t2Var 0)))) t2Nil)))))))
theorem purew_function_of : Does ["m", "formula", "rests", "one", "x"] tw_function_of spw_function_of := by
  refine does_i fun exf ds Q h => ?_
  obtain ⟨x1, y1, rfl, q⟩ := h
  walk_at "go"
  unfold tw_function_of
  walk_at "st"
  refine ⟨_, rfl, ?_⟩
  cases e1 : isClk x1
  · rw [e1] at q; walk_at "st"; exact q
  rw [e1, if_neg (by simp)] at q
  rw [if_neg (by simp)]
  walk_at "st"
  refine checkedw1 ?_
  cases e2 : isForm y1
  · rw [e2] at q; walk_at "st"; exact q
  rw [e2, if_neg (by simp)] at q
  rw [if_neg (by simp)]
  obtain ⟨m, rfl⟩ := clock_of e1
  obtain ⟨xs, rfl, hl⟩ := form_of e2
  walk_at "st"
  refine k_dec (fun h => ?_) (fun h600 => ?_)
  · rw [if_pos (by simpa [gtD] using h)] at q
    walk_at "st"
    exact q
  rw [if_neg (by simp [gtD]; omega)] at q
  obtain ⟨m', xs', eds, h0, h1, hl', q⟩ := q
  injection eds with ea eb
  injection ea with ea
  injection ea with ea
  injection eb with eb _
  injection eb with eb
  have eb := tI_inj eb
  subst ea
  subst eb
  have hmod : ∀ a : Int, 0 ≤ a % m ∧ a % m < m := fun a => ⟨Int.emod_nonneg _ (by omega), Int.emod_lt_of_pos _ (by omega)⟩
  walk_at "st"
  refine lc_m (modD m) (fun k x hx => ?_) bind1_mono ?_
  · obtain ⟨hi, rfl⟩ := int_get hx
    walk_at "st"
    case hc => exact (by omega : (0 : Int) < m)
    exact lc_fin hx (by rw [List.length_map]; omega) rfl rfl
  rw [map_modD]
  have hb : nm (xs.map (· % m)) < 2 ^ 16 := by
    refine Nat.lt_of_le_of_lt (nm_le (m := 600) fun a ha => ?_) ?_
    · obtain ⟨b, _, rfl⟩ := List.mem_map.mp ha
      have := hmod b; omega
    · rw [List.length_map]; omega
  walk_at "st"
  case hz => omega
  refine lc_m (evD xs m) (fun k x hx => ?_) bind1_mono ?_
  · obtain ⟨hi, rfl⟩ := range_get hx
    walk_at "st"
    refine ⟨_, xs.map (· % m), _, 16, 10, rfl, .inr rfl, hb, by omega, by rw [List.length_map]; omega, ?_⟩
    walk_at "st"
    case hc => exact (by omega : (0 : Int) < m)
    exact lc_fin hx (by rw [range_len]; omega) (by rw [ev_map_mod]; rfl) rfl
  rw [map_evD]
  walk_at "st"
  exact q
/-- a function by the clock m -/
def isFun (m : Int) : PyData → Bool
  | .tuple ys => decide ((ys.length : Int) = m) && ys.all (ixB m)
  | _ => false
def sp_is_function : Sp2 := fun _ ds Q => ∃ (m : Int) (y : PyData), ds = [.d (.int m), .d y] ∧ 1 ≤ m ∧ m ≤ 600 ∧ Q (.d (.bool (isFun m y)))
theorem mono_is_function : MonoSp sp_is_function := fun _ _ _ _ h ⟨m, y, e, h1, h2, q⟩ => ⟨m, y, e, h1, h2, h _ q⟩
def spw_is_function : Sp2 := fun exf ds Q => ∃ x y, ds = [.d x, .d y] ∧ if isClk x = false then exf "InvalidClock" (some (.int 0)) else if gtD 600 x = true then exf "Refused" (some (.int 600)) else sp_is_function exf ds Q
theorem monow_is_function : MonoSp spw_is_function := fun _ _ _ _ h ⟨x, y, e, q⟩ => ⟨x, y, e, ite_mono (ite_mono (mono_is_function _ _ _ _ h)) q⟩
theorem lenw_is_function : ∀ exf ds Q, spw_is_function exf ds Q → ds.length = 2 := fun _ _ _ ⟨_, _, e, _⟩ => by rw [e]; rfl
theorem wide_is_function : ∀ exf ds Q, sp_is_function exf ds Q → spw_is_function exf ds Q := fun exf ds Q h => by
  have h0 := h
  obtain ⟨m, xs, rfl, h1, h2, q⟩ := h
  refine ⟨_, _, rfl, ?_⟩
  rw [if_neg (by simp [clk_int h1 (by omega)]), if_neg (by simp [gtD]; omega)]
  exact h0
def tw_is_function : TS2 := (s2Seq (s2Drop (t2Call spw_checked_clock (t2Cons (t2Var 0) t2Nil)))
  (s2Seq (s2If (t2B (t2Op (q2I0 fun i j => .bool (decide (j < i))) (t2Var 0) (t2C (.int 600)))) (s2Raise "Refused" (t2Cons (t2C (.int 600)) t2Nil)) s2Next)
  (s2Ret (t2AndV (t2CB c2Isi (t2Cons (t2Var 1) (t2Cons (t2Raw (.ty "tuple")) t2Nil))) (t2AndV (t2Op (q2Eq false) (t2CB c2Len (t2Cons (t2Var 1) t2Nil)) (t2Var 0)) (t2CB (c2All false) (t2Cons (t2Sc (t2Lc1 (i2Seq (t2Var 1)) 2 t2Yes (t2Call sp_is_index (t2Cons (t2Var 2) (t2Cons (t2Var 0) t2Nil))))) t2Nil)))))))
theorem purew_is_function : Does ["m", "value", "one"] tw_is_function spw_is_function := by
  refine does_i fun exf ds Q h => ?_
  obtain ⟨x1, y1, rfl, q⟩ := h
  walk_at "go"
  unfold tw_is_function
  walk_at "st"
  refine ⟨_, rfl, ?_⟩
  cases e1 : isClk x1
  · rw [e1] at q; walk_at "st"; exact q
  rw [e1, if_neg (by simp)] at q
  rw [if_neg (by simp)]
  obtain ⟨m, rfl⟩ := clock_of e1
  walk_at "st"
  refine k_dec (fun h => ?_) (fun h600 => ?_)
  · rw [if_pos (by simpa [gtD] using h)] at q
    walk_at "st"
    exact q
  rw [if_neg (by simp [gtD]; omega)] at q
  obtain ⟨m', y', eds, h0, h1, q⟩ := q
  cases eds
  walk_at "st"
  cases y1 with
  | tuple ys =>
    walk_at "st"
    by_cases hl : (ys.length : Int) = m
    · rw [decide_eq_true hl]
      walk_at "st"
      refine lc_m (fun x => .bool (ixB m x)) (fun k x hx => ?_) bind1_mono ?_
      · walk_at "st"
        refine ⟨_, _, rfl, ?_⟩
        walk_at "st"
        exact lc_fin hx (by omega) rfl rfl
      · walk_at "st"
        refine k_all rfl (bools_map _ _) ?_
        walk_at "st"
        have e : isFun m (.tuple ys) = (if (false : Bool) = true then (ys.map (ixB m)).any id else (ys.map (ixB m)).all id) := by
          simp [isFun, hl]
        rw [← e]; exact q
    · rw [decide_eq_false hl]
      walk_at "st"
      have e : isFun m (.tuple ys) = false := by simp [isFun, hl]
      rw [← e]; exact q
  | _ => walk_at "st"; exact q
end LW

set_option maxHeartbeats 4000000
/-! QL: loose lemmas for laws: data that may be compared, sameness, draws. -/
namespace LW
open LM
theorem anyB {exf : EXF} {Q : DV → Prop} {m : Int} (h : 0 < m ∧ m < 2 ^ 134) (q : ∀ r : Int, 0 ≤ r → r < m → Q (.d (.int r))) : spAny exf [.deal, .d (.int m)] Q := by
  refine ⟨m, rfl, h.1, ?_, q⟩
  exact Nat.lt_of_lt_of_le (show m.natAbs < 2 ^ 134 by omega) (Nat.pow_le_pow_right (by decide) (by decide))
theorem sameA {exf : EXF} {Q : DV → Prop} {x y : PyData} (e : x = y) (h : okS 3 y = true) (q : Q (.d (.bool true))) : sp__law_same exf [.d x, .d y] Q := by
  subst e; exact ⟨_, rfl, h, q⟩
theorem okSL {d : Nat} {xs : List PyData} (h : xs.length < 16777216) (g : ∀ x ∈ xs, okS d x = true) : okS (d + 1) (.list xs) = true := by
  simp only [okS, h, decide_true, Bool.true_and, List.all_eq_true]
  exact g
theorem okST {d : Nat} {xs : List PyData} (h : xs.length < 16777216) (g : ∀ x ∈ xs, okS d x = true) : okS (d + 1) (.tuple xs) = true := by
  simp only [okS, h, decide_true, Bool.true_and, List.all_eq_true]
  exact g
theorem okS2 {d : Nat} {x y : PyData} (h1 : okS d x = true) (h2 : okS d y = true) : okS (d + 1) (.tuple [x, y]) = true := by
  simp [okS, h1, h2]
theorem okStr {d : Nat} {s : Str} (h : PyData.strOk s = true) : okS d (.str s) = true := by cases d <;> exact h
theorem okTold {d : Nat} {x : PyData} (h : okS d x = true) : okS (d + 1) (.tuple [.str (Str.ofString "told"), x]) = true := okS2 (okStr (by decide +kernel)) h
theorem sameO {ex : EX} {Q : KD} {s : List (Option DV)} {m : List Own} {k : Nat} {xs ys : List PyData} (hm : m[k]? = some ⟨xs, true⟩) (e : xs = ys) (h : okS 3 (.list ys) = true) (q : Q (.d (.bool true)) ⟨s, m⟩) : callF sp__law_same ex Q [.o k, .d (.list ys)] ⟨s, m⟩ := by
  refine k_callo3 hm rfl (sameA (by rw [e]) h ?_)
  have e : lfreeV (.d (.bool true)) = true := rfl
  simp only [e, if_true]
  exact q
/-- data of no great depth without dicts -/
def fine (x : PyData) : Bool := x.canLay0 && decide (x.depth ≤ 20)
theorem fine_all {l : List PyData} (h : ∀ x ∈ l, fine x = true) : PyData.canLayAll0 l = true ∧ PyData.depthAll l ≤ 20 := by
  induction l with
  | nil => exact ⟨rfl, by simp [PyData.depthAll]⟩
  | cons x l ih =>
    obtain ⟨h1, h2⟩ := ih fun y hy => h y (List.mem_cons_of_mem _ hy)
    have h3 := h x (List.mem_cons_self ..)
    simp only [fine, Bool.and_eq_true, decide_eq_true_eq] at h3
    refine ⟨by simp [PyData.canLayAll0, h1, h3.1], ?_⟩
    simp only [PyData.depthAll]
    omega
theorem shaped_fine {l : List PyData} (h : ∀ x ∈ l, fine x = true) : SeqAt.shaped (.list l) = true := by
  obtain ⟨h1, h2⟩ := fine_all h
  unfold SeqAt.shaped
  rw [Bool.and_eq_true]
  refine ⟨by simpa [PyData.canLay0] using h1, decide_eq_true ?_⟩
  rw [PyData.depth]
  omega
theorem shaped_fineT {l : List PyData} (h : ∀ x ∈ l, fine x = true) : SeqAt.shaped (.tuple l) = true := by
  obtain ⟨h1, h2⟩ := fine_all h
  unfold SeqAt.shaped
  rw [Bool.and_eq_true]
  refine ⟨by simpa [PyData.canLay0] using h1, decide_eq_true ?_⟩
  rw [PyData.depth]
  omega
/-- a tuple's items are fine -/
def fineT : PyData → Bool
  | .tuple ys => ys.all fine
  | _ => true
theorem fine_int (i : Int) : fine (.int i) = true := by simp [fine, PyData.canLay0, PyData.depth]
theorem fine_tI (xs : List Int) : fine (tI xs) = true := by
  have h : ∀ x ∈ xs.map PyData.int, fine x = true := fun x hx => by
    obtain ⟨i, _, rfl⟩ := List.mem_map.mp hx; exact fine_int i
  have h0 : PyData.depthAll (xs.map PyData.int) ≤ 1 := by
    clear h
    induction xs with
    | nil => simp [PyData.depthAll]
    | cons x xs ih => simp only [List.map_cons, PyData.depthAll, PyData.depth]; omega
  unfold fine
  rw [Bool.and_eq_true]
  refine ⟨by simpa [PyData.canLay0] using (fine_all h).1, decide_eq_true ?_⟩
  rw [PyData.depth]
  omega
theorem fineT_ints (xs : List Int) : fineT (tI xs) = true := by simp [fineT, fine_int]
theorem fineI (xs : List Int) : (xs.map PyData.int).all fine = true := by simp [fine_int]
theorem fineT_app {xs ys : List PyData} (h1 : xs.all fine = true) (h2 : ys.all fine = true) : (xs ++ ys).all fine = true := by rw [List.all_append, h1, h2]; rfl
theorem fineT_odd {xs : List Int} {y : PyData} (h : y ∈ oddL xs) : fineT y = true := by
  simp only [oddL, List.mem_cons, List.not_mem_nil, or_false] at h
  rcases h with rfl | rfl | rfl | rfl | rfl | rfl | rfl | rfl | rfl | rfl | rfl
  · rfl
  · rfl
  · rfl
  · rfl
  · rfl
  · simp [fineT, fine_int]; decide
  · simp [fineT, fine_int]; decide
  · simp [fineT, fine_tI]
  · simp [fineT, fine_int]; decide +kernel
  · simp [fineT, fine_int]; decide
  · rfl
theorem odd_no {xs : List Int} {y : PyData} (h : y ∈ oddL xs) : (∀ zs, y = .tuple zs → zs.all isI = false ∧ zs.length ≤ xs.length + 1) := by
  intro zs e
  subst e
  simp only [oddL, List.mem_cons, List.not_mem_nil, or_false] at h
  rcases h with h | h | h | h | h | h | h | h | h | h | h <;> first | (injection h with h; subst h; refine ⟨?_, by simp⟩; simp [isI]) | cases h
/-- one of a list, all of which fail a test -/
theorem of_bad {exf : EXF} {Q : DV → Prop} {xs : List PyData} (p : PyData → Bool) (h : (xs.all fun x => !p x) = true) (h1 : 0 < xs.length) (h2 : xs.length < 4194304) (q : ∀ x, p x = false → Q (.d x)) : sp__law_of exf [.deal, .d (.list xs)] Q :=
  ⟨_, xs, rfl, rfl, h1, h2, fun x hx => q x (by have := List.all_eq_true.mp h x hx; simpa using this)⟩
theorem evf_get (xs : List Int) (m : Int) (n : Nat) : (rangeD 0 n).map (evD xs m) = ((List.range n).map fun (i : Nat) => ev xs (i : Int) % m).map PyData.int := map_evD xs m n
theorem form_right {ys : List PyData} (h : ys.length ≤ 61) : ((ys.filter fun y => !isI y).map id).isEmpty = isForm (.tuple ys) := by
  simp only [isForm, h, decide_true, Bool.true_and, List.map_id]
  clear h
  induction ys with
  | nil => rfl
  | cons y ys ih =>
    by_cases e : isI y = true
    · rw [List.filter_cons_of_neg (by simp [e]), ih]; simp [e]
    · rw [List.filter_cons_of_pos (by simpa using e)]; simp [e]
theorem k_bz {ex : EX} {st : S} {n : S → Prop} {r : DV → Prop} {b c : S → Prop} {p : Bool} {A X : Prop} (h2 : n st) (h1 : p = true → n st → A) : if p = true then A else if false = true then X else s2Next ex ⟨n, r, b, c⟩ st := by
  cases p
  · rw [if_neg (by simp), if_neg (by simp)]; exact h2
  · rw [if_pos rfl]; exact h1 rfl h2
theorem dvd_fac {s : Nat} (h : 0 < s) : s ∣ fac s := by
  cases s with
  | zero => omega
  | succ s => rw [fac]; first | exact Nat.dvd_mul_right _ _ | exact Nat.dvd_mul_left _ _
theorem sh_self {s : Nat} (h : 0 < s) : sh s s = s := Nat.gcd_eq_left (dvd_fac h)
theorem cut_m1 {α : Type} (xs : List α) : cut xs (some (-1)) none = xs.drop (xs.length - 1) := by
  unfold cut
  rw [HT.sIx_none]
  have : HT.sIx xs.length 0 (some (-1)) = xs.length - 1 := by
    show (if (-1 : Int) < 0 then ((-1 : Int) + (xs.length : Int)).toNat else min (-1 : Int).toNat xs.length) = _
    rw [if_pos (by omega)]; omega
  rw [this]
  exact List.take_of_length_le (by rw [List.length_drop]; omega)
/-- a value made by a comprehension or None -/
theorem k_iflc {ex : EX} {st : S} {Q : KD} {p : Bool} {te : TE2} {z : PyData} (h : Q (.d z) st) (h1 : p = true → ∀ Q' : KD, Q' (.d z) st → te ex st Q') (h2 : p = false → z = .none) : if p = true then te ex st Q else t2C .none ex st Q := by
  cases p
  · rw [if_neg (by simp)]; rw [h2 rfl] at h; exact h
  · rw [if_pos rfl]; exact h1 rfl Q h
/-- an if whose branches all go on at some f v -/
theorem k_ifj {ex : EX} {st : S} {n : S → Prop} {r : DV → Prop} {b c : S → Prop} {tc : TT2} {t u : TS2} {α : Type} (f : α → S) (h : ∀ v, n (f v)) (h1 : (∀ v, n (f v)) → tc ex st fun k st1 => if k = true then t ex ⟨n, r, b, c⟩ st1 else u ex ⟨n, r, b, c⟩ st1) : s2If tc t u ex ⟨n, r, b, c⟩ st := h1 h
/-- .. at some f v with P v -/
theorem k_ifP {ex : EX} {st : S} {n : S → Prop} {r : DV → Prop} {b c : S → Prop} {tc : TT2} {t u : TS2} {α : Type} (f : α → S) (P : α → Prop) (h : ∀ v, P v → n (f v)) (h1 : (∀ v, P v → n (f v)) → tc ex st fun k st1 => if k = true then t ex ⟨n, r, b, c⟩ st1 else u ex ⟨n, r, b, c⟩ st1) : s2If tc t u ex ⟨n, r, b, c⟩ st := h1 h
theorem k_ifnb {ex : EX} {st : S} {sp1 sp2 : Sp2} {ta1 ta2 : TA2} {Q : KD} {p : Bool} (P : Int → Prop) (h : ∀ v, P v → Q (.d (.int v)) st) (h1 : p = true → (∀ v, P v → Q (.d (.int v)) st) → t2Call sp1 ta1 ex st Q) (h2 : p = false → (∀ v, P v → Q (.d (.int v)) st) → t2Call sp2 ta2 ex st Q) : if p = true then t2Call sp1 ta1 ex st Q else t2Call sp2 ta2 ex st Q := by
  cases p
  · rw [if_neg (by simp)]; exact h2 rfl h
  · rw [if_pos rfl]; exact h1 rfl h
end LW

set_option maxHeartbeats 4000000
set_option pp.maxSteps 900
/-! QH: checks ahead of a def's work, taken off; alike and idle formulas, refused or not. -/
namespace LW
open LM
section
variable {ex : EX} {n : S → Prop} {r : DV → Prop} {b c : S → Prop} {s : List (Option DV)} {m : List Own} {R : TS2} {i j k : Nat} {x y z : PyData}
theorem var_is {ex : EX} {st : S} {i : Nat} {x : DV} {Q : KD} (hi : st.s[i]? = some (some x)) : t2Var i ex st Q = Q x st := by unfold t2Var; rw [hi]
theorem wclk (hi : s[i]? = some (some (.d x))) (h1 : isClk x = false → ex "InvalidClock" (some (.int 0)) ⟨s, m⟩) (h2 : isClk x = true → R ex ⟨n, r, b, c⟩ ⟨s, m⟩) : s2Seq (s2Drop (t2Call spw_checked_clock (t2Cons (t2Var i) t2Nil))) R ex ⟨n, r, b, c⟩ ⟨s, m⟩ := by
  refine k_seq (k_drop (k_call (k_cons ?_)))
  refine k_var hi (k_nil (k_calln rfl ⟨_, rfl, ?_⟩))
  cases e : isClk x
  · rw [if_pos rfl]; exact h1 e
  · rw [if_neg (by simp)]; exact h2 e
theorem nclk (hi : s[i]? = some (some (.d x))) (P : s2Seq (s2Drop (t2Call sp_checked_clock (t2Cons (t2Var i) t2Nil))) R ex ⟨n, r, b, c⟩ ⟨s, m⟩) : R ex ⟨n, r, b, c⟩ ⟨s, m⟩ := by
  have P2 : t2Var i ex ⟨s, m⟩ fun x st1 => callF sp_checked_clock ex (fun _ st1 => R ex ⟨n, r, b, c⟩ st1) [x] st1 := P
  rw [var_is hi] at P2
  obtain ⟨_, _, _, P3⟩ := P2
  simpa [lfreeV, lfree] using P3
theorem wform1 (hi : s[i]? = some (some (.d x))) (h1 : isForm x = false → ex "InvalidFormula" (some (.int 0)) ⟨s, m⟩) (h2 : isForm x = true → R ex ⟨n, r, b, c⟩ ⟨s, m⟩) : s2Seq (s2Drop (t2Call spw_checked_formulas (t2Cons (t2Var i) t2Nil))) R ex ⟨n, r, b, c⟩ ⟨s, m⟩ := by
  refine k_seq (k_drop (k_call (k_cons ?_)))
  refine k_var hi (k_nil (k_calln rfl (checkedw1 ?_)))
  cases e : isForm x
  · rw [if_pos rfl]; exact h1 e
  · rw [if_neg (by simp)]; exact h2 e
theorem nform1 (hi : s[i]? = some (some (.d x))) (P : s2Seq (s2Drop (t2Call sp_checked_formulas (t2Cons (t2Var i) t2Nil))) R ex ⟨n, r, b, c⟩ ⟨s, m⟩) : R ex ⟨n, r, b, c⟩ ⟨s, m⟩ := by
  have P2 : t2Var i ex ⟨s, m⟩ fun x st1 => callF sp_checked_formulas ex (fun _ st1 => R ex ⟨n, r, b, c⟩ st1) [x] st1 := P
  rw [var_is hi] at P2
  obtain ⟨_, _, _, _, _, _, P3⟩ := P2
  simpa [lfreeV, lfree] using P3
theorem wform2 (hi : s[i]? = some (some (.d x))) (hj : s[j]? = some (some (.d y))) (h1 : isForm x = false → ex "InvalidFormula" (some (.int 0)) ⟨s, m⟩) (h2 : isForm x = true → isForm y = false → ex "InvalidFormula" (some (.int 1)) ⟨s, m⟩) (h3 : isForm x = true → isForm y = true → R ex ⟨n, r, b, c⟩ ⟨s, m⟩) : s2Seq (s2Drop (t2Call spw_checked_formulas (t2Cons (t2Var i) (t2Cons (t2Var j) t2Nil)))) R ex ⟨n, r, b, c⟩ ⟨s, m⟩ := by
  refine k_seq (k_drop (k_call (k_cons ?_)))
  refine k_var hi (k_cons (k_var hj (k_nil (k_calln rfl (checkedw2 ?_)))))
  cases e : isForm x
  · rw [if_pos rfl]; exact h1 e
  · rw [if_neg (by simp)]
    cases e2 : isForm y
    · rw [if_pos rfl]; exact h2 e e2
    · rw [if_neg (by simp)]; exact h3 e e2
theorem nform2 (hi : s[i]? = some (some (.d x))) (hj : s[j]? = some (some (.d y))) (P : s2Seq (s2Drop (t2Call sp_checked_formulas (t2Cons (t2Var i) (t2Cons (t2Var j) t2Nil)))) R ex ⟨n, r, b, c⟩ ⟨s, m⟩) : R ex ⟨n, r, b, c⟩ ⟨s, m⟩ := by
  have P2 : t2Var i ex ⟨s, m⟩ fun x st1 => t2Var j ex st1 fun y st1 => callF sp_checked_formulas ex (fun _ st1 => R ex ⟨n, r, b, c⟩ st1) [x, y] st1 := P
  rw [var_is hi, var_is hj] at P2
  obtain ⟨_, _, _, _, _, _, P3⟩ := P2
  simpa [lfreeV, lfree] using P3
end
def spw_are_alike : Sp2 := fun exf ds Q => ∃ x y z, ds = [.d x, .d y, .d z] ∧ if isClk x = false then exf "InvalidClock" (some (.int 0)) else if isForm y = false then exf "InvalidFormula" (some (.int 0)) else if isForm z = false then exf "InvalidFormula" (some (.int 1)) else sp_are_alike exf ds Q
theorem monow_are_alike : MonoSp spw_are_alike := fun _ _ _ _ h ⟨x, y, z, e, q⟩ => ⟨x, y, z, e, ite_mono (ite_mono (ite_mono (mono_are_alike _ _ _ _ h))) q⟩
theorem lenw_are_alike : ∀ exf ds Q, spw_are_alike exf ds Q → ds.length = 3 := fun _ _ _ ⟨_, _, _, e, _⟩ => by rw [e]; rfl
theorem wide_are_alike : ∀ exf ds Q, sp_are_alike exf ds Q → spw_are_alike exf ds Q := fun exf ds Q h => by
  have h0 := h
  obtain ⟨m, xs, ys, B, rfl, hm, hl, hl2, _⟩ := h
  refine ⟨_, _, _, rfl, ?_⟩
  rw [if_neg (by simp [hm]), if_neg (by simp [isForm_ints hl]), if_neg (by simp [isForm_ints hl2])]
  exact h0
def tw_are_alike : TS2 := (s2Seq (s2Drop (t2Call spw_checked_clock (t2Cons (t2Var 0) t2Nil)))
  (s2Seq (s2Drop (t2Call spw_checked_formulas (t2Cons (t2Var 1) (t2Cons (t2Var 2) t2Nil))))
  (s2Ret (t2Op (q2Eq false) (t2Call sp_plain_of (t2Cons (t2Var 0) (t2Cons (t2Call sp_row_sum (t2Cons (t2Var 1) (t2Cons (t2Var 2) (t2Cons (t2Un q1Neg (t2C (.int 1))) t2Nil)))) t2Nil))) (t2Tup t2Nil)))))
theorem purew_are_alike : Does ["m", "one", "other"] tw_are_alike spw_are_alike := by
  refine does_i fun exf ds Q h => ?_
  obtain ⟨x, y, z, rfl, q⟩ := h
  unfold tw_are_alike
  refine wclk rfl (fun h => by rw [if_pos h] at q; exact q) (fun h1 => ?_)
  rw [if_neg (by simp [h1])] at q
  refine wform2 rfl rfl (fun h => by rw [if_pos h] at q; exact q) (fun h2 h => by rw [if_neg (by simp [h2]), if_pos h] at q; exact q) (fun h2 h3 => ?_)
  rw [if_neg (by simp [h2]), if_neg (by simp [h3])] at q
  exact nform2 rfl rfl (nclk rfl (pure_are_alike _ _ _ q))
def spw_first_apart : Sp2 := fun exf ds Q => ∃ x y z, ds = [.d x, .d y, .d z] ∧ if isClk x = false then exf "InvalidClock" (some (.int 0)) else if isForm y = false then exf "InvalidFormula" (some (.int 0)) else if isForm z = false then exf "InvalidFormula" (some (.int 1)) else sp_first_apart exf ds Q
theorem monow_first_apart : MonoSp spw_first_apart := fun _ _ _ _ h ⟨x, y, z, e, q⟩ => ⟨x, y, z, e, ite_mono (ite_mono (ite_mono (mono_first_apart _ _ _ _ h))) q⟩
theorem lenw_first_apart : ∀ exf ds Q, spw_first_apart exf ds Q → ds.length = 3 := fun _ _ _ ⟨_, _, _, e, _⟩ => by rw [e]; rfl
theorem wide_first_apart : ∀ exf ds Q, sp_first_apart exf ds Q → spw_first_apart exf ds Q := fun exf ds Q h => by
  have h0 := h
  obtain ⟨m, xs, ys, B, rfl, hm, hl, hl2, _⟩ := h
  refine ⟨_, _, _, rfl, ?_⟩
  rw [if_neg (by simp [hm]), if_neg (by simp [isForm_ints hl]), if_neg (by simp [isForm_ints hl2])]
  exact h0
def tw_first_apart : TS2 := (s2Seq (s2Drop (t2Call spw_checked_clock (t2Cons (t2Var 0) t2Nil)))
  (s2Seq (s2Drop (t2Call spw_checked_formulas (t2Cons (t2Var 1) (t2Cons (t2Var 2) t2Nil))))
  (s2Seq (s2For (i2Enum (t2Call sp_plain_of (t2Cons (t2Var 0) (t2Cons (t2Call sp_row_sum (t2Cons (t2Var 1) (t2Cons (t2Var 2) (t2Cons (t2Un q1Neg (t2C (.int 1))) t2Nil)))) t2Nil)))) (g2Tup 2 (g2Cons (g2Name 3) (g2Cons (g2Name 4) g2Nil))) (s2If (t2B (t2Op (q2Eq true) (t2Var 4) (t2C (.int 0)))) (s2Ret (t2Var 3)) s2Next))
  (s2Ret (t2C .none)))))
theorem purew_first_apart : Does ["m", "one", "other", "at", "entry"] tw_first_apart spw_first_apart := by
  refine does_i fun exf ds Q h => ?_
  obtain ⟨x, y, z, rfl, q⟩ := h
  unfold tw_first_apart
  refine wclk rfl (fun h => by rw [if_pos h] at q; exact q) (fun h1 => ?_)
  rw [if_neg (by simp [h1])] at q
  refine wform2 rfl rfl (fun h => by rw [if_pos h] at q; exact q) (fun h2 h => by rw [if_neg (by simp [h2]), if_pos h] at q; exact q) (fun h2 h3 => ?_)
  rw [if_neg (by simp [h2]), if_neg (by simp [h3])] at q
  exact nform2 rfl rfl (nclk rfl (pure_first_apart _ _ _ q))
def spw_plain_steps : Sp2 := fun exf ds Q => ∃ x y, ds = [.d x, .d y] ∧ if isClk x = false then exf "InvalidClock" (some (.int 0)) else if isForm y = false then exf "InvalidFormula" (some (.int 0)) else sp_plain_steps exf ds Q
theorem monow_plain_steps : MonoSp spw_plain_steps := fun _ _ _ _ h ⟨x, y, e, q⟩ => ⟨x, y, e, ite_mono (ite_mono (mono_plain_steps _ _ _ _ h)) q⟩
theorem lenw_plain_steps : ∀ exf ds Q, spw_plain_steps exf ds Q → ds.length = 2 := fun _ _ _ ⟨_, _, e, _⟩ => by rw [e]; rfl
theorem wide_plain_steps : ∀ exf ds Q, sp_plain_steps exf ds Q → spw_plain_steps exf ds Q := fun exf ds Q h => by
  have h0 := h
  obtain ⟨m, xs, B, rfl, hm, hl, _⟩ := h
  refine ⟨_, _, rfl, ?_⟩
  rw [if_neg (by simp [hm]), if_neg (by simp [isForm_ints hl])]
  exact h0
def tw_plain_steps : TS2 := (s2Seq (s2Drop (t2Call spw_checked_clock (t2Cons (t2Var 0) t2Nil)))
  (s2Seq (s2Drop (t2Call spw_checked_formulas (t2Cons (t2Var 1) t2Nil)))
  (s2Ret (t2Call sp_plain_of (t2Cons (t2Var 0) (t2Cons (t2Var 1) t2Nil))))))
theorem purew_plain_steps : Does ["m", "formula"] tw_plain_steps spw_plain_steps := by
  refine does_i fun exf ds Q h => ?_
  obtain ⟨x, y, rfl, q⟩ := h
  unfold tw_plain_steps
  refine wclk rfl (fun h => by rw [if_pos h] at q; exact q) (fun h1 => ?_)
  rw [if_neg (by simp [h1])] at q
  refine wform1 rfl (fun h => by rw [if_pos h] at q; exact q) (fun h2 => ?_)
  rw [if_neg (by simp [h2])] at q
  exact nform1 rfl (nclk rfl (pure_plain_steps _ _ _ q))
def spw_is_idle : Sp2 := fun exf ds Q => ∃ x y, ds = [.d x, .d y] ∧ if isClk x = false then exf "InvalidClock" (some (.int 0)) else if isForm y = false then exf "InvalidFormula" (some (.int 0)) else sp_is_idle exf ds Q
theorem monow_is_idle : MonoSp spw_is_idle := fun _ _ _ _ h ⟨x, y, e, q⟩ => ⟨x, y, e, ite_mono (ite_mono (mono_is_idle _ _ _ _ h)) q⟩
theorem lenw_is_idle : ∀ exf ds Q, spw_is_idle exf ds Q → ds.length = 2 := fun _ _ _ ⟨_, _, e, _⟩ => by rw [e]; rfl
theorem wide_is_idle : ∀ exf ds Q, sp_is_idle exf ds Q → spw_is_idle exf ds Q := fun exf ds Q h => by
  have h0 := h
  obtain ⟨m, xs, B, rfl, hm, hl, _⟩ := h
  refine ⟨_, _, rfl, ?_⟩
  rw [if_neg (by simp [hm]), if_neg (by simp [isForm_ints hl])]
  exact h0
def tw_is_idle : TS2 := (s2Ret (t2Op (q2Eq false) (t2Call spw_plain_steps (t2Cons (t2Var 0) (t2Cons (t2Var 1) t2Nil))) (t2Tup t2Nil)))
theorem purew_is_idle : Does ["m", "formula"] tw_is_idle spw_is_idle := by
  refine does_i fun exf ds Q h => ?_
  obtain ⟨x, y, rfl, q⟩ := h
  walk_at "go"
  unfold tw_is_idle
  walk_at "st"
  refine ⟨_, _, rfl, ite_mono (ite_mono fun q => ?_) q⟩
  obtain ⟨m, xs, B, e, hm, hl, hB, hB2, q⟩ := q
  refine ⟨m, xs, B, e, hm, hl, hB, by omega, ?_⟩
  walk_at "st"
  refine k_eqD rfl rfl ?_ ⟨shaped_tints _, shaped_tnil⟩
  rw [eqv_tI_nil]
  walk_at "st"
  simpa using q
abbrev tag2 (t : String) (y : PyData) : PyData := .tuple [.str (Str.ofString t), y]
def spw__law_asked : Sp2 := fun _ ds Q => ∃ (w : Int) (x y z : PyData), ds = [.d (.int w), .d x, .d y, .d z] ∧ (w = 0 ∨ w = 1 ∨ w = 2) ∧ if isClk x = false then Q (.d (tag2 "clock" (.int 0))) else if isForm y = false then Q (.d (tag2 "formula" (.int 0))) else if w ≠ 2 ∧ isForm z = false then Q (.d (tag2 "formula" (.int 1))) else
  ∃ (m : Int) (xs : List Int) (B : Nat), x = .int m ∧ y = tI xs ∧ nm xs < 2 ^ B ∧ B ≤ 800000 ∧ (w = 2 → Q (.d (tag2 "told" (.bool (decide (plain m.toNat xs = [])))))) ∧ (w ≠ 2 → ∃ ys, z = tI ys ∧ nm ys < 2 ^ B ∧ Q (.d (tag2 "told" (if w = 0 then .bool (decide (plain m.toNat (tr (radd xs ys (-1))) = [])) else fsD (plain m.toNat (tr (radd xs ys (-1))))))))
theorem monow__law_asked : MonoSp spw__law_asked := fun _ _ Q Q' h ⟨w, x, y, z, e, hw, q⟩ => ⟨w, x, y, z, e, hw, by
  by_cases h1 : isClk x = false
  · rw [if_pos h1] at q ⊢; exact h _ q
  rw [if_neg h1] at q ⊢
  by_cases h2 : isForm y = false
  · rw [if_pos h2] at q ⊢; exact h _ q
  rw [if_neg h2] at q ⊢
  by_cases h3 : w ≠ 2 ∧ isForm z = false
  · rw [if_pos h3] at q ⊢; exact h _ q
  rw [if_neg h3] at q ⊢
  obtain ⟨m, xs, B, a, b, c, d, e, f⟩ := q
  exact ⟨m, xs, B, a, b, c, d, fun g => h _ (e g), fun g => by obtain ⟨ys, i, j, k⟩ := f g; exact ⟨ys, i, j, h _ k⟩⟩⟩
theorem lenw__law_asked : ∀ exf ds Q, spw__law_asked exf ds Q → ds.length = 4 := fun _ _ _ ⟨_, _, _, _, e, _⟩ => by rw [e]; rfl
def tw__law_asked : TS2 := (s2Try ["InvalidFormula", "InvalidClock", "InvalidQuestion"] [("InvalidClock", 5, anTag (Str.ofString "clock")), ("InvalidFormula", 5, anTag (Str.ofString "formula"))] (s2Seq (s2If (t2B (t2Op (q2Eq false) (t2Var 0) (t2C (.int 0)))) (s2Ret (t2Tup (t2Cons (t2C (.str (Str.ofString "told"))) (t2Cons (t2CallK spw_are_alike [0, 1, 2] 0 3 t2Nil (t2Cons (t2Var 1) (t2Cons (t2Var 2) (t2Cons (t2Var 3) t2Nil)))) t2Nil)))) s2Next)
  (s2Ret (t2Tup (t2Cons (t2C (.str (Str.ofString "told"))) (t2Cons (t2If (t2B (t2Op (q2Eq false) (t2Var 0) (t2C (.int 1)))) (t2CallK spw_first_apart [0, 1, 2] 0 3 t2Nil (t2Cons (t2Var 1) (t2Cons (t2Var 2) (t2Cons (t2Var 3) t2Nil)))) (t2CallK spw_is_idle [0, 1] 0 2 t2Nil (t2Cons (t2Var 1) (t2Cons (t2Var 2) t2Nil)))) t2Nil))))))
theorem purew__law_asked : Does ["which", "m", "one", "other", "wrong"] tw__law_asked spw__law_asked := by
  refine does_i fun exf ds Q h => ?_
  obtain ⟨w, x, y, z, rfl, hw, q⟩ := h
  walk_at "go"
  unfold tw__law_asked
  walk_at "st"
  refine k_decf (fun h0 => ?_) (fun h0 => ?_)
  · subst h0
    walk_at "st"
    refine ⟨⟨rfl, rfl⟩, ?_⟩
    walk_at "st"
    refine ⟨x, y, z, rfl, ?_⟩
    by_cases h1 : isClk x = false
    · rw [if_pos h1] at q ⊢; walk_at "st"; exact q
    rw [if_neg h1] at q ⊢
    by_cases h2 : isForm y = false
    · rw [if_pos h2] at q ⊢; walk_at "st"; exact q
    rw [if_neg h2] at q ⊢
    by_cases h3 : isForm z = false
    · rw [if_pos ⟨by decide, h3⟩] at q; rw [if_pos h3]; walk_at "st"; exact q
    rw [if_neg (fun h => h3 h.2)] at q
    rw [if_neg h3]
    obtain ⟨m, xs, B, rfl, rfl, hB, hB2, _, q⟩ := q
    obtain ⟨ys, rfl, hC, q⟩ := q (by decide)
    obtain ⟨_, e2, hl⟩ := form_of (by simpa using h2)
    obtain ⟨_, e3, hl3⟩ := form_of (by simpa using h3)
    rw [← tI_inj e2] at hl
    rw [← tI_inj e3] at hl3
    refine ⟨m, xs, ys, B, rfl, by simpa using h1, hl, hl3, hB, hC, hB2, ?_⟩
    walk_at "st"
    exact q
  walk_at "st"
  refine k_decf (fun h01 => ?_) (fun h01 => ?_)
  · subst h01
    walk_at "st"
    refine ⟨⟨rfl, rfl⟩, ?_⟩
    walk_at "st"
    refine ⟨x, y, z, rfl, ?_⟩
    by_cases h1 : isClk x = false
    · rw [if_pos h1] at q ⊢; walk_at "st"; exact q
    rw [if_neg h1] at q ⊢
    by_cases h2 : isForm y = false
    · rw [if_pos h2] at q ⊢; walk_at "st"; exact q
    rw [if_neg h2] at q ⊢
    by_cases h3 : isForm z = false
    · rw [if_pos ⟨by decide, h3⟩] at q; rw [if_pos h3]; walk_at "st"; exact q
    rw [if_neg (fun h => h3 h.2)] at q
    rw [if_neg h3]
    obtain ⟨m, xs, B, rfl, rfl, hB, hB2, _, q⟩ := q
    obtain ⟨ys, rfl, hC, q⟩ := q (by decide)
    obtain ⟨_, e2, hl⟩ := form_of (by simpa using h2)
    obtain ⟨_, e3, hl3⟩ := form_of (by simpa using h3)
    rw [← tI_inj e2] at hl
    rw [← tI_inj e3] at hl3
    refine ⟨m, xs, ys, B, rfl, by simpa using h1, hl, hl3, hB, hC, hB2, ?_⟩
    walk_at "st"
    exact q
  have hw2 : w = 2 := by omega
  subst hw2
  walk_at "st"
  refine ⟨⟨rfl, rfl⟩, ?_⟩
  walk_at "st"
  refine ⟨x, y, rfl, ?_⟩
  by_cases h1 : isClk x = false
  · rw [if_pos h1] at q ⊢; walk_at "st"; exact q
  rw [if_neg h1] at q ⊢
  by_cases h2 : isForm y = false
  · rw [if_pos h2] at q ⊢; walk_at "st"; exact q
  rw [if_neg h2] at q ⊢
  rw [if_neg (fun h => h.1 rfl)] at q
  obtain ⟨m, xs, B, rfl, rfl, hB, hB2, q, _⟩ := q
  obtain ⟨_, e2, hl⟩ := form_of (by simpa using h2)
  rw [← tI_inj e2] at hl
  refine ⟨m, xs, B, rfl, by simpa using h1, hl, hB, by omega, ?_⟩
  walk_at "st"
  exact q rfl
end LW

set_option maxHeartbeats 4000000
/-! PX: factorial numbers of any clock, refused or not; what a clock shares with a factorial. -/
namespace LW
open LM
/-- the least number whose factorial m divides, told so -/
def IsFn (m k : Nat) : Prop := sh m k = m ∧ ∀ j, j < k → sh m j ≠ m
def sp_factorial_number : Sp2 := fun exf ds Q => ∃ m : Nat, ds = [.d (.int (m : Int))] ∧ isClk (.int (m : Int)) = true ∧ (∀ k : Nat, k ≤ 5000 → IsFn m k → Q (.d (.int (k : Int)))) ∧ ((∀ k, k ≤ 5000 → sh m k ≠ m) → exf "Refused" (some (.int 5000)))
theorem mono_factorial_number : MonoSp sp_factorial_number := fun _ _ _ _ h ⟨a, b, c, q, e⟩ => ⟨a, b, c, fun k h1 h2 => h _ (q k h1 h2), e⟩
theorem len_factorial_number : ∀ exf ds Q, sp_factorial_number exf ds Q → ds.length = 1 := fun _ _ _ ⟨_, e, _⟩ => by rw [e]; rfl
theorem k_try {ex : EX} {n : S → Prop} {r : DV → Prop} {b c : S → Prop} {st : S} {kn : List String} {hs : List (String × Nat × An)} {tb : TS2} (h : tb (exTry kn hs ⟨n, r, b, c⟩ ex) ⟨n, r, b, c⟩ st) : s2Try kn hs tb ex ⟨n, r, b, c⟩ st := h
def t_factorial_number : TS2 := (s2Seq (s2Drop (t2Call sp_checked_clock (t2Cons (t2Var 0) t2Nil)))
  (s2Seq (s2Asg (t2Tup (t2Cons (t2C (.int 1)) (t2Cons (t2C (.int 0)) t2Nil))) (g2Tup 2 (g2Cons (g2Name 1) (g2Cons (g2Name 2) g2Nil))))
  (s2Seq (s2While (t2B (t2Op (q2Eq true) (t2Var 1) (t2Var 0))) (s2Seq (s2Aug 2 (fun i j => i + j) (t2C (.int 1)))
  (s2Seq (s2If (t2B (t2Op (q2I0 fun i j => .bool (decide (j < i))) (t2Var 2) (t2C (.int 5000)))) (s2Raise "Refused" (t2Cons (t2C (.int 5000)) t2Nil)) s2Next)
  (s2Asg (t2Call sp_common_part (t2Cons (t2Var 0) (t2Cons (t2Op q2Mul (t2Var 1) (t2Call sp_common_part (t2Cons (t2Var 0) (t2Cons (t2Var 2) t2Nil)))) t2Nil))) (g2Name 1)))))
  (s2Ret (t2Var 2)))))
theorem pure_factorial_number : Does ["m", "part", "k"] t_factorial_number sp_factorial_number := by
  refine does_i fun exf ds Q h => ?_
  obtain ⟨m, rfl, hm, q, qe⟩ := h
  obtain ⟨m', e0, h0, h1⟩ := clk_nat hm
  have e0 : m = m' := by omega
  subst e0
  walk_at "go"
  unfold t_factorial_number
  walk_at "st"
  refine ⟨_, rfl, hm, ?_⟩
  walk_at "st"
  refine while_i (fun M st => ∃ k : Nat, M = 5001 - k ∧ k ≤ 5000 ∧ st = ⟨[some (.d (.int (m : Int))), some (.d (.int (sh m k : Nat))), some (.d (.int (k : Int)))], []⟩ ∧ ∀ j, j < k → sh m j ≠ m) 5001 ⟨0, by omega, by omega, by rw [sh_zero]; rfl, fun j hj => by omega⟩ (fun M st' hI => ?_)
  obtain ⟨k, rfl, hkm, rfl, hj⟩ := hI
  walk_at "st"
  refine k_dect (fun h => ?_) (fun h => ?_)
  · walk_at "st"
    exact q k hkm ⟨by omega, hj⟩
  · have hne : sh m k ≠ m := fun e => h (by rw [e])
    have hs1 := sh_le h0 k
    have hs2 := Nat.le_of_dvd h0 (Nat.gcd_dvd_left m (k + 1))
    have hj2 : ∀ j, j < k + 1 → sh m j ≠ m := fun j hj2 => by
      by_cases e : j = k
      · rw [e]; exact hne
      · exact hj j (by omega)
    walk_at "st"
    refine k_dec (fun g => ?_) (fun g => ?_)
    · refine qe fun j hj3 => hj2 j (by omega)
    · walk_at "st"
      refine ⟨m, k + 1, by rw [Int.natCast_add]; rfl, ?_⟩
      walk_at "st"
      case hc => exact cmul (p := 134) (q := 134) (by omega) (by omega) (by omega)
      refine ⟨m, sh m k * Nat.gcd m (k + 1), by rw [Int.natCast_mul], ?_⟩
      rw [sh_next]
      walk_at "st"
      exact ⟨5001 - (k + 1), by omega, k + 1, rfl, by omega, by rw [Int.natCast_add]; rfl, hj2⟩
def sp__law_number : Sp2 := fun _ ds Q => ∃ m : Nat, ds = [.d (.int (m : Int))] ∧ isClk (.int (m : Int)) = true ∧ ∀ z, (∃ k : Nat, k ≤ 5000 ∧ z = .int (k : Int) ∧ IsFn m k) ∨ (z = .none ∧ ∀ k, k ≤ 5000 → sh m k ≠ m) → Q (.d z)
theorem mono__law_number : MonoSp sp__law_number := fun _ _ _ _ h ⟨a, b, c, q⟩ => ⟨a, b, c, fun z hz => h _ (q z hz)⟩
theorem len__law_number : ∀ exf ds Q, sp__law_number exf ds Q → ds.length = 1 := fun _ _ _ ⟨_, e, _⟩ => by rw [e]; rfl
def t__law_number : TS2 := (s2Try ["InvalidFormula", "InvalidClock", "InvalidQuestion", "Refused"] [("Refused", 0, anC .none)] (s2Ret (t2Call sp_factorial_number (t2Cons (t2Var 0) t2Nil))))
theorem pure__law_number : Does ["m"] t__law_number sp__law_number := by
  refine does_i fun exf ds Q h => ?_
  obtain ⟨m, rfl, hm, q⟩ := h
  walk_at "go"
  unfold t__law_number
  refine k_try ?_
  walk_at "st"
  refine ⟨m, rfl, hm, fun k hk hf => ?_, fun hno => ?_⟩
  · walk_at "st"
    exact q _ (.inl ⟨k, hk, rfl, hf⟩)
  · unfold exTry
    refine ⟨by decide, ?_⟩
    simp only [if_true]
    exact ⟨Nat.zero_le _, q .none (.inr ⟨rfl, hno⟩)⟩
def sp_shared : Sp2 := fun _ ds Q => ∃ m k : Nat, ds = [.d (.int (m : Int)), .d (.int (k : Int))] ∧ isClk (.int (m : Int)) = true ∧ k ≤ 5000 ∧ Q (.d (.int (sh m k : Nat)))
theorem mono_shared : MonoSp sp_shared := fun _ _ _ _ h ⟨a, b, c, d, e, q⟩ => ⟨a, b, c, d, e, h _ q⟩
theorem len_shared : ∀ exf ds Q, sp_shared exf ds Q → ds.length = 2 := fun _ _ _ ⟨_, _, e, _⟩ => by rw [e]; rfl
def t_shared : TS2 := (s2Seq (s2Drop (t2Call sp_checked_clock (t2Cons (t2Var 0) t2Nil)))
  (s2Seq (s2If (t2Not (t2T (t2Call sp_is_index (t2Cons (t2Var 1) (t2Cons (t2Op q2Add (t2C (.int 5000)) (t2C (.int 1))) t2Nil))))) s2Never s2Next)
  (s2Ret (t2Op q2Ix (t2Call sp_shared_parts (t2Cons (t2Var 0) (t2Cons (t2Op q2Add (t2Var 1) (t2C (.int 1))) t2Nil))) (t2Var 1)))))
theorem pure_shared : Does ["m", "k"] t_shared sp_shared := by
  refine does_i fun exf ds Q h => ?_
  obtain ⟨m, k, rfl, hm, hk, q⟩ := h
  obtain ⟨m', e0, h0, h1⟩ := clk_nat hm
  have e0 : m = m' := by omega
  subst e0
  walk_at "go"
  unfold t_shared
  walk_at "st"
  refine ⟨_, rfl, hm, ?_⟩
  walk_at "st"
  refine ⟨.int (k : Int), 5001, rfl, ?_⟩
  have e1 : ixB 5001 (.int (k : Int)) = true := by simp only [ixB, Bool.and_eq_true, decide_eq_true_eq]; omega
  rw [e1]
  walk_at "st"
  refine ⟨m, k + 1, by rw [Int.natCast_add]; rfl, h0, h1, by omega, ?_⟩
  walk_at "st"
  refine k_ixI (.inl rfl) (atI_at (j := k) rfl (by simp)) ?_
  walk_at "st"
  rw [List.getElem_map, List.getElem_range]
  exact q
end LW

set_option maxHeartbeats 4000000
set_option pp.maxSteps 900
/-! QO: what clocks share with factorials, parts by primes, refused or not. -/
namespace LW
open LM
def spw_factorial_number : Sp2 := fun exf ds Q => ∃ x, ds = [.d x] ∧ if isClk x = false then exf "InvalidClock" (some (.int 0)) else sp_factorial_number exf ds Q
theorem monow_factorial_number : MonoSp spw_factorial_number := fun _ _ _ _ h ⟨x, e, q⟩ => ⟨x, e, ite_mono (mono_factorial_number _ _ _ _ h) q⟩
theorem lenw_factorial_number : ∀ exf ds Q, spw_factorial_number exf ds Q → ds.length = 1 := fun _ _ _ ⟨_, e, _⟩ => by rw [e]; rfl
theorem wide_factorial_number : ∀ exf ds Q, sp_factorial_number exf ds Q → spw_factorial_number exf ds Q := fun exf ds Q h => by
  have h0 := h
  obtain ⟨m, rfl, hm, _⟩ := h
  exact ⟨_, rfl, by rw [if_neg (by simp [hm])]; exact h0⟩
def tw_factorial_number : TS2 := (s2Seq (s2Drop (t2Call spw_checked_clock (t2Cons (t2Var 0) t2Nil)))
  (s2Seq (s2Asg (t2Tup (t2Cons (t2C (.int 1)) (t2Cons (t2C (.int 0)) t2Nil))) (g2Tup 2 (g2Cons (g2Name 1) (g2Cons (g2Name 2) g2Nil))))
  (s2Seq (s2While (t2B (t2Op (q2Eq true) (t2Var 1) (t2Var 0))) (s2Seq (s2Aug 2 (fun i j => i + j) (t2C (.int 1)))
  (s2Seq (s2If (t2B (t2Op (q2I0 fun i j => .bool (decide (j < i))) (t2Var 2) (t2C (.int 5000)))) (s2Raise "Refused" (t2Cons (t2C (.int 5000)) t2Nil)) s2Next)
  (s2Asg (t2Call sp_common_part (t2Cons (t2Var 0) (t2Cons (t2Op q2Mul (t2Var 1) (t2Call sp_common_part (t2Cons (t2Var 0) (t2Cons (t2Var 2) t2Nil)))) t2Nil))) (g2Name 1)))))
  (s2Ret (t2Var 2)))))
theorem purew_factorial_number : Does ["m", "part", "k"] tw_factorial_number spw_factorial_number := by
  refine does_i fun exf ds Q h => ?_
  obtain ⟨x, rfl, q⟩ := h
  unfold tw_factorial_number
  refine wclk rfl (fun h => by rw [if_pos h] at q; exact q) (fun h1 => ?_)
  rw [if_neg (by simp [h1])] at q
  exact nclk rfl (pure_factorial_number _ _ _ q)
def spw_shared : Sp2 := fun exf ds Q => ∃ x y, ds = [.d x, .d y] ∧ if isClk x = false then exf "InvalidClock" (some (.int 0)) else if ixB 5001 y = false then exf "InvalidQuestion" (some (.int 1)) else sp_shared exf ds Q
theorem monow_shared : MonoSp spw_shared := fun _ _ _ _ h ⟨x, y, e, q⟩ => ⟨x, y, e, ite_mono (ite_mono (mono_shared _ _ _ _ h)) q⟩
theorem lenw_shared : ∀ exf ds Q, spw_shared exf ds Q → ds.length = 2 := fun _ _ _ ⟨_, _, e, _⟩ => by rw [e]; rfl
theorem wide_shared : ∀ exf ds Q, sp_shared exf ds Q → spw_shared exf ds Q := fun exf ds Q h => by
  have h0 := h
  obtain ⟨m, k, rfl, hm, hk, _⟩ := h
  exact ⟨_, _, rfl, by rw [if_neg (by simp [hm]), if_neg (by simp [ixB]; omega)]; exact h0⟩
theorem ix_nat {n : Int} {y : PyData} (h : ixB n y = true) : ∃ k : Nat, y = .int (k : Int) ∧ (k : Int) < n := by
  cases y with
  | int i =>
    simp only [ixB, Bool.and_eq_true, decide_eq_true_eq] at h
    exact ⟨i.toNat, by congr 1; omega, by omega⟩
  | _ => cases h
def tw_shared : TS2 := (s2Seq (s2Drop (t2Call spw_checked_clock (t2Cons (t2Var 0) t2Nil)))
  (s2Seq (s2If (t2Not (t2T (t2Call sp_is_index (t2Cons (t2Var 1) (t2Cons (t2Op q2Add (t2C (.int 5000)) (t2C (.int 1))) t2Nil))))) (s2Raise "InvalidQuestion" (t2Cons (t2C (.int 1)) t2Nil)) s2Next)
  (s2Ret (t2Op q2Ix (t2Call sp_shared_parts (t2Cons (t2Var 0) (t2Cons (t2Op q2Add (t2Var 1) (t2C (.int 1))) t2Nil))) (t2Var 1)))))
theorem purew_shared : Does ["m", "k"] tw_shared spw_shared := by
  refine does_i fun exf ds Q h => ?_
  obtain ⟨x, y, rfl, q⟩ := h
  walk_at "go"
  unfold tw_shared
  refine wclk rfl (fun h => by rw [if_pos h] at q; exact q) (fun h1 => ?_)
  rw [if_neg (by simp [h1])] at q
  obtain ⟨m', rfl⟩ := clock_of h1
  obtain ⟨m, rfl, m0, m1⟩ := clk_nat h1
  walk_at "st"
  refine ⟨_, _, rfl, ?_⟩
  have e5 : ∀ b, ixB (5000 + 1) y = b → ixB 5001 y = b := fun b h => h
  cases hb : ixB (5000 + 1) y
  · rw [if_pos (e5 _ hb)] at q
    walk_at "st"
    exact q
  rw [if_neg (by rw [e5 _ hb]; simp)] at q
  obtain ⟨k, rfl, hk⟩ := ix_nat (e5 _ hb)
  obtain ⟨m2, k2, eds, _, _, q⟩ := q
  have em : m = m2 := by injection eds with a b; injection a with a; injection a with a; exact Int.ofNat_inj.mp a
  have ek : k = k2 := by injection eds with a b; injection b with b _; injection b with b; injection b with b; exact Int.ofNat_inj.mp b
  subst em
  subst ek
  walk_at "st"
  refine ⟨m, k + 1, by rw [Int.natCast_add]; rfl, m0, m1, by omega, ?_⟩
  walk_at "st"
  refine k_ixI (.inl rfl) (atI_at (j := k) rfl (by simp)) ?_
  walk_at "st"
  rw [List.getElem_map, List.getElem_range]
  exact q
def sp_times_in : Sp2 := fun _ ds Q => ∃ p n : Nat, ds = [.d (.int (p : Int)), .d (.int (n : Int))] ∧ 2 ≤ p ∧ p ≤ 5000 ∧ 0 < n ∧ n < 2 ^ 134 ∧ Q (.d (.int (tm p n : Nat)))
theorem mono_times_in : MonoSp sp_times_in := fun _ _ _ _ h ⟨a, b, c, d, e, f, g, q⟩ => ⟨a, b, c, d, e, f, g, h _ q⟩
theorem len_times_in : ∀ exf ds Q, sp_times_in exf ds Q → ds.length = 2 := fun _ _ _ ⟨_, _, e, _⟩ => by rw [e]; rfl
theorem tm_go {p n a c : Nat} (hp : 2 ≤ p) (e : n = p ^ a * c) (hd : p ∣ c) : n = p ^ (a + 1) * (c / p) := by
  obtain ⟨d, rfl⟩ := hd
  rw [e, Nat.mul_div_cancel_left _ (by omega), Nat.pow_succ, Nat.mul_assoc]
def t_times_in : TS2 := (s2Seq (s2Asg (t2C (.int 0)) (g2Name 2))
  (s2Seq (s2While (t2B (t2Op (q2Eq false) (t2Op (q2I (fun _ j => 0 < j) fun i j => .int (i % j)) (t2Var 1) (t2Var 0)) (t2C (.int 0)))) (s2Seq (s2Asg (t2Op (q2I CDivW fun i j => .int (i / j)) (t2Var 1) (t2Var 0)) (g2Name 1))
  (s2Aug 2 (fun i j => i + j) (t2C (.int 1)))))
  (s2Ret (t2Var 2))))
theorem pure_times_in : Does ["p", "number", "often"] t_times_in sp_times_in := by
  refine does_i fun exf ds Q h => ?_
  obtain ⟨p, n, rfl, hp, hp2, hn, hn2, q⟩ := h
  walk_at "go"
  unfold t_times_in
  walk_at "st"
  refine while_i (fun M st => ∃ a : Nat, 0 < M ∧ M ≤ n ∧ n = p ^ a * M ∧ st = ⟨[some (.d (.int (p : Int))), some (.d (.int (M : Int))), some (.d (.int (a : Int)))], []⟩) n ⟨0, hn, Nat.le_refl _, by simp, rfl⟩ (fun M st' hI => ?_)
  obtain ⟨a, hM, hMn, hMe, rfl⟩ := hI
  walk_at "st"
  case hc => exact Int.ofNat_lt.mpr (by omega : 0 < p)
  refine k_decf (fun h => ?_) (fun h => ?_)
  · have hd : p ∣ M := by
      have := Int.dvd_of_emod_eq_zero h
      exact Int.natCast_dvd_natCast.mp this
    have hlt : M / p < M := Nat.div_lt_self hM (by omega)
    have hpos : 0 < M / p := Nat.div_pos (Nat.le_of_dvd hM hd) (by omega)
    walk_at "st"
    case hc => exact cdiv (p := 134) (Int.ofNat_lt.mpr (by omega : 0 < p)) (by rw [Int.natAbs_natCast]; omega) (by omega)
    refine ⟨M / p, hlt, a + 1, hpos, by omega, tm_go hp hMe hd, ?_⟩
    rw [← Int.natCast_ediv, Int.natCast_add]
    rfl
  · have hnd : ¬p ∣ M := fun hd => h (Int.emod_eq_zero_of_dvd (Int.natCast_dvd_natCast.mpr hd))
    rw [(tm_of hp hn ⟨hMe, hnd⟩).1] at q
    walk_at "st"
    exact q
def sp_power_of : Sp2 := fun _ ds Q => ∃ b a B : Nat, ds = [.d (.int (b : Int)), .d (.int (a : Int))] ∧ b < 2 ^ 13 ∧ a ≤ 4000 ∧ Q (.d (.int ((b ^ a : Nat) : Int)))
theorem mono_power_of : MonoSp sp_power_of := fun _ _ _ _ h ⟨a, b, c, d, e, f, q⟩ => ⟨a, b, c, d, e, f, h _ q⟩
theorem len_power_of : ∀ exf ds Q, sp_power_of exf ds Q → ds.length = 2 := fun _ _ _ ⟨_, _, _, e, _⟩ => by rw [e]; rfl
def t_power_of : TS2 := (s2Seq (s2Asg (t2C (.int 1)) (g2Name 2))
  (s2Seq (s2For (i2Rng1 (t2Var 1)) (g2Name 3) (s2Asg (t2Op q2Mul (t2Var 2) (t2Var 0)) (g2Name 2)))
  (s2Ret (t2Var 2))))
theorem pure_power_of : Does ["number", "often", "found", "turn"] t_power_of sp_power_of := by
  refine does_i fun exf ds Q h => ?_
  obtain ⟨b, a, _, rfl, hb, ha, q⟩ := h
  walk_at "go"
  unfold t_power_of
  walk_at "st"
  case hz => omega
  rw [Int.toNat_natCast]
  refine for_ii (fun i st => ∃ z, st = ⟨[some (.d (.int (b : Int))), some (.d (.int (a : Int))), some (.d (.int ((b ^ i : Nat) : Int))), z], []⟩) ⟨_, rfl⟩ (fun i x st' hx hI => ?_) (fun st' hI => ?_)
  · obtain ⟨z, rfl⟩ := hI
    obtain ⟨hi, rfl⟩ := range_get hx
    have hs : (b ^ i) < 2 ^ (13 * 4000 + 1) := by
      refine Nat.lt_of_le_of_lt (Nat.pow_le_pow_left (Nat.le_of_lt hb) i) ?_
      rw [← Nat.pow_mul]
      exact Nat.pow_lt_pow_right (by decide) (by have := Nat.mul_le_mul_left 13 (show i ≤ 4000 by omega); omega)
    walk_at "st"
    case hc => exact cmul (p := 13 * 4000 + 1) (q := 13) (by rw [Int.natAbs_natCast]; exact hs) (by omega) (by omega)
    refine ⟨some (.d (.int (0 + (i : Int)))), ?_⟩
    rw [Nat.pow_succ, Int.natCast_mul]
  · obtain ⟨z, rfl⟩ := hI
    rw [range_len]
    walk_at "st"
    exact q
/-- parts as data -/
def prD (l : List (Nat × Nat)) : List PyData := l.map fun a => .tuple [.int (a.1 : Int), .int (a.2 : Int)]
def sp_prime_parts : Sp2 := fun exf ds Q => ∃ m : Nat, ds = [.d (.int (m : Int))] ∧ isClk (.int (m : Int)) = true ∧ if (pps 4999 2 m).2 ≤ 1 then Q (.d (.tuple (prD (pps 4999 2 m).1))) else exf "Refused" (some (.int 5000))
theorem mono_prime_parts : MonoSp sp_prime_parts := fun _ _ Q Q' h ⟨a, b, c, q⟩ => ⟨a, b, c, by
  by_cases e : (pps 4999 2 a).2 ≤ 1
  · rw [if_pos e] at q ⊢; exact h _ q
  · rw [if_neg e] at q ⊢; exact q⟩
def spw_prime_parts : Sp2 := fun exf ds Q => ∃ x, ds = [.d x] ∧ if isClk x = false then exf "InvalidClock" (some (.int 0)) else sp_prime_parts exf ds Q
theorem monow_prime_parts : MonoSp spw_prime_parts := fun _ _ _ _ h ⟨x, e, q⟩ => ⟨x, e, ite_mono (mono_prime_parts _ _ _ _ h) q⟩
theorem lenw_prime_parts : ∀ exf ds Q, spw_prime_parts exf ds Q → ds.length = 1 := fun _ _ _ ⟨_, e, _⟩ => by rw [e]; rfl
theorem wide_prime_parts : ∀ exf ds Q, sp_prime_parts exf ds Q → spw_prime_parts exf ds Q := fun exf ds Q h => by
  have h0 := h
  obtain ⟨m, rfl, hm, _⟩ := h
  exact ⟨_, rfl, by rw [if_neg (by simp [hm])]; exact h0⟩
theorem pow_tm_le {p n : Nat} (hp : 2 ≤ p) (hn : 0 < n) : p ^ tm p n ≤ n := by
  have h := (tm_is hp hn).1
  have := tm_rest hp hn
  conv => rhs; rw [h]
  exact Nat.le_mul_of_pos_right _ this.1
theorem tm_le {p n : Nat} (hp : 2 ≤ p) (hn : 0 < n) (h : n < 2 ^ 134) : tm p n ≤ 134 := by
  have h1 := pow_tm_le hp hn
  have h2 : 2 ^ tm p n ≤ p ^ tm p n := Nat.pow_le_pow_left hp _
  rcases Nat.lt_or_ge 134 (tm p n) with g | g
  · have := Nat.pow_lt_pow_right (a := 2) (by decide) g
    omega
  · exact g
def tw_prime_parts : TS2 := (s2Seq (s2Drop (t2Call spw_checked_clock (t2Cons (t2Var 0) t2Nil)))
  (s2Seq (s2Par3 1 2 3 (t2Lst t2Nil) (t2Var 0) (t2C (.int 2)))
  (s2Seq (s2While (t2And (t2B (t2Op (q2I0 fun i j => .bool (decide (j < i))) (t2Var 2) (t2C (.int 1)))) (t2B (t2Op (q2I0 fun i j => .bool (decide (i ≤ j))) (t2Var 3) (t2C (.int 5000))))) (s2Seq (s2If (t2B (t2Op (q2Eq false) (t2Op (q2I (fun _ j => 0 < j) fun i j => .int (i % j)) (t2Var 2) (t2Var 3)) (t2C (.int 0)))) (s2Seq (s2Asg (t2Call sp_times_in (t2Cons (t2Var 3) (t2Cons (t2Var 2) t2Nil))) (g2Name 4))
  (s2Seq (s2Drop (t2App (t2Var 1) (t2Tup (t2Cons (t2Var 3) (t2Cons (t2Var 4) t2Nil)))))
  (s2Asg (t2Op (q2I CDivW fun i j => .int (i / j)) (t2Var 2) (t2Call sp_power_of (t2Cons (t2Var 3) (t2Cons (t2Var 4) t2Nil)))) (g2Name 2)))) s2Next)
  (s2Aug 3 (fun i j => i + j) (t2C (.int 1)))))
  (s2Seq (s2If (t2B (t2Op (q2I0 fun i j => .bool (decide (j < i))) (t2Var 2) (t2C (.int 1)))) (s2Raise "Refused" (t2Cons (t2C (.int 5000)) t2Nil)) s2Next)
  (s2Ret (t2CB c2Tuple (t2Cons (t2Var 1) t2Nil)))))))
theorem purew_prime_parts : Does ["m", "found", "left", "divisor", "often"] tw_prime_parts spw_prime_parts := by
  refine does_i fun exf ds Q h => ?_
  obtain ⟨x, rfl, q⟩ := h
  walk_at "go"
  unfold tw_prime_parts
  refine wclk rfl (fun h => by rw [if_pos h] at q; exact q) (fun h1 => ?_)
  rw [if_neg (by simp [h1])] at q
  obtain ⟨m, eds, hm, q⟩ := q
  have e : x = .int (m : Int) := by injection eds with a _; injection a
  subst e
  obtain ⟨m', em, m0, m1⟩ := clk_nat hm
  have em : m = m' := by omega
  subst em
  walk_at "st"
  refine while_i (fun M st => ∃ (d : Nat) (L : List (Nat × Nat)) (n : Nat) (a4 : Option DV), d + M = 5001 ∧ 2 ≤ d ∧ 0 < n ∧ n < 2 ^ 134 ∧ L.length + M ≤ 4999 ∧ pps 4999 2 m = (L ++ (pps M d n).1, (pps M d n).2) ∧ st = ⟨[some (.d (.int (m : Int))), some (.o 0), some (.d (.int (n : Int))), some (.d (.int (d : Int))), a4], [⟨prD L, true⟩]⟩) 4999 ⟨2, [], m, none, rfl, by omega, m0, m1, by simp, by simp, rfl⟩ (fun M st' hI => ?_)
  obtain ⟨d, L, n, a4, hdM, hd, hn, hn2, hL, hp, rfl⟩ := hI
  have fin : n ≤ 1 ∨ M = 0 → pps 4999 2 m = (L, n) := fun h => by
    have : pps M d n = ([], n) := by
      rcases h with h | h
      · exact pps_one h
      · rw [h]; rfl
    rw [hp, this, List.append_nil]
  walk_at "st"
  refine k_dec (fun hn1 => ?_) (fun hn1 => ?_)
  rotate_left
  · rw [fin (.inl (by omega)), if_pos (by show n ≤ 1; omega)] at q
    walk_at "st"
    refine k_dec (fun h => absurd h hn1) (fun _ => ?_)
    walk_at "st"
    exact q
  walk_at "st"
  refine k_dec (fun hd5 => ?_) (fun hd5 => ?_)
  rotate_left
  · rw [fin (.inr (by omega)), if_neg (by show ¬n ≤ 1; omega)] at q
    walk_at "st"
    refine k_dec (fun _ => ?_) (fun h => absurd hn1 h)
    walk_at "st"
    exact q
  obtain ⟨f, rfl⟩ : ∃ f, M = f + 1 := ⟨M - 1, by omega⟩
  rw [pps_step (f := f) (d := d) (n := n) (by omega)] at hp
  dsimp only at hp
  walk_at "st"
  case hc => exact Int.ofNat_lt.mpr (by omega : 0 < d)
  have hr := tm_rest hd hn
  refine k_decf (fun hdv => ?_) (fun hdv => ?_)
  · have hdn : d ∣ n := Int.natCast_dvd_natCast.mp (Int.dvd_of_emod_eq_zero hdv)
    have ha := tm_pos hd hn hdn
    rw [if_pos ha] at hp
    walk_at "st"
    refine ⟨d, n, rfl, hd, by omega, hn, hn2, ?_⟩
    walk_at "st"
    case hz => exact szl (by unfold prD; rw [List.length_map]; omega)
    refine ⟨d, tm d n, 0, rfl, by omega, by have := tm_le hd hn hn2; omega, ?_⟩
    walk_at "st"
    case hc => exact cdiv (p := 134) (Int.ofNat_lt.mpr (Nat.pow_pos (by omega))) (by rw [Int.natAbs_natCast]; exact Nat.lt_of_le_of_lt (pow_tm_le hd hn) hn2) (by omega)
    refine ⟨f, by omega, d + 1, L ++ [(d, tm d n)], n / d ^ tm d n, some (.d (.int (tm d n : Nat))), by omega, by omega, hr.1, by omega, by simp; omega, ?_, ?_⟩
    · rw [hp]; simp
    · rw [← Int.natCast_ediv, Int.natCast_add]
      simp [prD]
  · have hdn : ¬d ∣ n := fun h => hdv (Int.emod_eq_zero_of_dvd (Int.natCast_dvd_natCast.mpr h))
    have ha := tm_zero hd hn hdn
    rw [ha, if_neg (by omega), Nat.pow_zero, Nat.div_one] at hp
    walk_at "st"
    refine ⟨f, by omega, d + 1, L, n, a4, by omega, by omega, hn, hn2, by omega, hp, ?_⟩
    rw [Int.natCast_add]
    rfl
def sp__law_parts : Sp2 := fun _ ds Q => ∃ m : Nat, ds = [.d (.int (m : Int))] ∧ isClk (.int (m : Int)) = true ∧ Q (.d (if (pps 4999 2 m).2 ≤ 1 then .tuple (prD (pps 4999 2 m).1) else .none))
theorem mono__law_parts : MonoSp sp__law_parts := fun _ _ _ _ h ⟨a, b, c, q⟩ => ⟨a, b, c, h _ q⟩
theorem len__law_parts : ∀ exf ds Q, sp__law_parts exf ds Q → ds.length = 1 := fun _ _ _ ⟨_, e, _⟩ => by rw [e]; rfl
def t__law_parts : TS2 := (s2Seq (s2Par3 1 2 3 (t2Var 0) (t2C (.int 2)) (t2Lst t2Nil))
  (s2Seq (s2While (t2And (t2B (t2Op (q2I0 fun i j => .bool (decide (j < i))) (t2Var 1) (t2C (.int 1)))) (t2B (t2Op (q2I0 fun i j => .bool (decide (i ≤ j))) (t2Var 2) (t2C (.int 5000))))) (s2Seq (s2Asg (t2C (.int 0)) (g2Name 4))
  (s2Seq (s2While (t2B (t2Op (q2Eq false) (t2Op (q2I (fun _ j => 0 < j) fun i j => .int (i % j)) (t2CB c2Int (t2Cons (t2Var 1) t2Nil)) (t2Var 2)) (t2C (.int 0)))) (s2Par 1 4 (t2Op (q2I CDivW fun i j => .int (i / j)) (t2Var 1) (t2Var 2)) (t2Op q2Add (t2Var 4) (t2C (.int 1)))))
  (s2Seq (s2If (t2B (t2Op (q2I0 fun i j => .bool (decide (j < i))) (t2Var 4) (t2C (.int 0)))) (s2Drop (t2App (t2Var 3) (t2Tup (t2Cons (t2Var 2) (t2Cons (t2Var 4) t2Nil))))) s2Next)
  (s2Asg (t2Op q2Add (t2Var 2) (t2C (.int 1))) (g2Name 2))))))
  (s2Ret (t2If (t2B (t2Op (q2Eq false) (t2Var 1) (t2C (.int 1)))) (t2CB c2Tuple (t2Cons (t2Var 3) t2Nil)) (t2C .none)))))
theorem pure__law_parts : Does ["m", "left", "prime", "found", "many"] t__law_parts sp__law_parts := by
  refine does_i fun exf ds Q h => ?_
  obtain ⟨m, rfl, hm, q⟩ := h
  obtain ⟨m', em, m0, m1⟩ := clk_nat hm
  have em : m = m' := by omega
  subst em
  walk_at "go"
  unfold t__law_parts
  walk_at "st"
  refine while_i (fun M st => ∃ (d : Nat) (L : List (Nat × Nat)) (n : Nat) (a4 : Option DV), d + M = 5001 ∧ 2 ≤ d ∧ 0 < n ∧ n < 2 ^ 134 ∧ L.length + M ≤ 4999 ∧ pps 4999 2 m = (L ++ (pps M d n).1, (pps M d n).2) ∧ st = ⟨[some (.d (.int (m : Int))), some (.d (.int (n : Int))), some (.d (.int (d : Int))), some (.o 0), a4], [⟨prD L, true⟩]⟩) 4999 ⟨2, [], m, none, rfl, by omega, m0, m1, by simp, by simp, rfl⟩ (fun M st' hI => ?_)
  obtain ⟨d, L, n, a4, hdM, hd, hn, hn2, hL, hp, rfl⟩ := hI
  have fin : n ≤ 1 ∨ M = 0 → pps 4999 2 m = (L, n) := fun h => by
    have : pps M d n = ([], n) := by
      rcases h with h | h
      · exact pps_one h
      · rw [h]; rfl
    rw [hp, this, List.append_nil]
  walk_at "st"
  refine k_dec (fun hn1 => ?_) (fun hn1 => ?_)
  rotate_left
  · rw [fin (.inl (by omega)), if_pos (by show n ≤ 1; omega)] at q
    walk_at "st"
    refine k_decf (fun _ => ?_) (fun h => absurd (by omega) h)
    walk_at "st"
    exact q
  walk_at "st"
  refine k_dec (fun hd5 => ?_) (fun hd5 => ?_)
  rotate_left
  · rw [fin (.inr (by omega)), if_neg (by show ¬n ≤ 1; omega)] at q
    walk_at "st"
    refine k_decf (fun h => absurd h (by omega)) (fun _ => ?_)
    walk_at "st"
    exact q
  obtain ⟨f, rfl⟩ : ∃ f, M = f + 1 := ⟨M - 1, by omega⟩
  rw [pps_step (f := f) (d := d) (n := n) (by omega)] at hp
  dsimp only at hp
  have hr := tm_rest hd hn
  walk_at "st"
  refine while_i (fun M st => ∃ a : Nat, 0 < M ∧ M ≤ n ∧ n = d ^ a * M ∧ st = ⟨[some (.d (.int (m : Int))), some (.d (.int (M : Int))), some (.d (.int (d : Int))), some (.o 0), some (.d (.int (a : Int)))], [⟨prD L, true⟩]⟩) n ⟨0, hn, Nat.le_refl _, by simp, rfl⟩ (fun M st' hI => ?_)
  obtain ⟨a, hM, hMn, hMe, rfl⟩ := hI
  walk_at "st"
  case hc => exact Int.ofNat_lt.mpr (by omega : 0 < d)
  refine k_decf (fun h => ?_) (fun h => ?_)
  · have hdd : d ∣ M := Int.natCast_dvd_natCast.mp (Int.dvd_of_emod_eq_zero h)
    have hlt : M / d < M := Nat.div_lt_self hM (by omega)
    have hpos : 0 < M / d := Nat.div_pos (Nat.le_of_dvd hM hdd) (by omega)
    walk_at "st"
    case hc => exact cdiv (p := 134) (Int.ofNat_lt.mpr (by omega : 0 < d)) (by rw [Int.natAbs_natCast]; omega) (by omega)
    refine ⟨M / d, hlt, a + 1, hpos, by omega, tm_go hd hMe hdd, ?_⟩
    rw [← Int.natCast_ediv, Int.natCast_add]
    rfl
  have hnd : ¬d ∣ M := fun hd => h (Int.emod_eq_zero_of_dvd (Int.natCast_dvd_natCast.mpr hd))
  obtain ⟨t1, t2⟩ := tm_of hd hn ⟨hMe, hnd⟩
  rw [t1, t2] at hp
  rw [t1, t2] at hr
  walk_at "st"
  refine k_dec (fun h0 => ?_) (fun h0 => ?_)
  · rw [if_pos (by omega)] at hp
    walk_at "st"
    case hz => exact szl (by unfold prD; rw [List.length_map]; omega)
    refine ⟨f, by omega, d + 1, L ++ [(d, a)], M, some (.d (.int (a : Int))), by omega, by omega, hM, by omega, by simp; omega, ?_, ?_⟩
    · rw [hp]; simp
    · rw [Int.natCast_add]
      simp [prD]
  · rw [if_neg (by omega)] at hp
    walk_at "st"
    refine ⟨f, by omega, d + 1, L, M, some (.d (.int (a : Int))), by omega, by omega, hM, by omega, by omega, hp, ?_⟩
    rw [Int.natCast_add]
    rfl
/-- a prime number of at most 5000 -/
def prP (v : Int) : Prop := 2 ≤ v ∧ v ≤ 5000 ∧ ¬∃ d : Nat, 2 ≤ d ∧ d * d ≤ v.toNat ∧ v.toNat % d = 0
open Classical in
noncomputable def prB : PyData → Bool
  | .int v => decide (prP v)
  | _ => false
open Classical in
theorem prB_no {v : Int} (h : ¬prP v) : prB (.int v) = false := decide_eq_false h
open Classical in
theorem prB_yes {v : Int} (h : prP v) : prB (.int v) = true := decide_eq_true h
def sp_is_prime : Sp2 := fun _ ds Q => ∃ x, ds = [.d x] ∧ Q (.d (.bool (prB x)))
theorem mono_is_prime : MonoSp sp_is_prime := fun _ _ _ _ h ⟨x, e, q⟩ => ⟨x, e, h _ q⟩
theorem len_is_prime : ∀ exf ds Q, sp_is_prime exf ds Q → ds.length = 1 := fun _ _ _ ⟨_, e, _⟩ => by rw [e]; rfl
def t_is_prime : TS2 := (s2Seq (s2If (t2Or (t2Not (t2T (t2Call sp_is_integer (t2Cons (t2Var 0) t2Nil)))) (t2Or (t2B (t2Op (q2I0 fun i j => .bool (decide (i < j))) (t2Var 0) (t2C (.int 2)))) (t2B (t2Op (q2I0 fun i j => .bool (decide (j < i))) (t2Var 0) (t2C (.int 5000)))))) (s2Ret (t2C (.bool false))) s2Next)
  (s2Seq (s2Asg (t2C (.int 2)) (g2Name 1))
  (s2Seq (s2While (t2B (t2Op (q2I0 fun i j => .bool (decide (i ≤ j))) (t2Op q2Mul (t2Var 1) (t2Var 1)) (t2Var 0))) (s2Seq (s2If (t2B (t2Op (q2Eq false) (t2Op (q2I (fun _ j => 0 < j) fun i j => .int (i % j)) (t2Var 0) (t2Var 1)) (t2C (.int 0)))) (s2Ret (t2C (.bool false))) s2Next)
  (s2Aug 1 (fun i j => i + j) (t2C (.int 1)))))
  (s2Ret (t2C (.bool true))))))
theorem pure_is_prime : Does ["value", "divisor"] t_is_prime sp_is_prime := by
  refine does_i fun exf ds Q h => ?_
  obtain ⟨x, rfl, q⟩ := h
  walk_at "go"
  unfold t_is_prime
  walk_at "st"
  refine ⟨_, rfl, ?_⟩
  cases x with
  | int v =>
    walk_at "st"
    refine k_dec (fun h => ?_) (fun h2 => ?_)
    · rw [prB_no fun g => by have := g.1; have := g.2.1; omega] at q
      walk_at "st"
      exact q
    walk_at "st"
    refine k_dec (fun h => ?_) (fun h5 => ?_)
    · rw [prB_no fun g => by have := g.1; have := g.2.1; omega] at q
      walk_at "st"
      exact q
    obtain ⟨w, rfl⟩ : ∃ w : Nat, v = w := ⟨v.toNat, by omega⟩
    walk_at "st"
    refine while_i (fun M st => ∃ d : Nat, d + M = 5001 ∧ 2 ≤ d ∧ (∀ e, 2 ≤ e → e < d → w % e ≠ 0) ∧ st = ⟨[some (.d (.int (w : Int))), some (.d (.int (d : Int)))], []⟩) 4999 ⟨2, rfl, by omega, fun e h1 h2 => by omega, rfl⟩ (fun M st' hI => ?_)
    obtain ⟨d, hdM, hd, hno, rfl⟩ := hI
    walk_at "st"
    case hc => exact cmul (p := 13) (q := 13) (by omega) (by omega) (by omega)
    refine k_dec (fun hle => ?_) (fun hle => ?_)
    · have hle2 : d * d ≤ w := by rw [← Int.natCast_mul] at hle; omega
      have hd2 : d < 5000 := by have := Nat.mul_le_mul_right d hd; omega
      walk_at "st"
      case hc => exact Int.ofNat_lt.mpr (by omega : 0 < d)
      refine k_decf (fun hz => ?_) (fun hz => ?_)
      · have hz2 : w % d = 0 := by rw [← Int.natCast_emod] at hz; omega
        rw [prB_no fun g => g.2.2 ⟨d, hd, by rw [Int.toNat_natCast]; exact hle2, by rw [Int.toNat_natCast]; exact hz2⟩] at q
        walk_at "st"
        exact q
      · have hz2 : w % d ≠ 0 := fun e => hz (by rw [← Int.natCast_emod, e]; rfl)
        walk_at "st"
        refine ⟨M - 1, by omega, d + 1, by omega, by omega, fun e h1 h2 => ?_, by rw [Int.natCast_add]; rfl⟩
        by_cases g : e = d
        · rw [g]; exact hz2
        · exact hno e h1 (by omega)
    · have hle2 : w < d * d := by rw [← Int.natCast_mul] at hle; omega
      have hpr : prP (w : Int) := by
        refine ⟨by omega, by omega, fun ⟨e, h1, h2, h3⟩ => ?_⟩
        rw [Int.toNat_natCast] at h2 h3
        rcases Nat.lt_or_ge e d with g | g
        · exact hno e h1 g h3
        · have := Nat.mul_le_mul g g
          omega
      rw [prB_yes hpr] at q
      walk_at "st"
      exact q
  | _ => walk_at "st"; exact q
end LW

set_option maxHeartbeats 4000000
set_option pp.maxSteps 900
/-! SU: one for one functions counted: what is reckoned, plain. -/
namespace LW
open LM
/-- the least k whose factorial is a multiple of m, with fuel -/
def ndf : Nat → Nat → Nat → Nat → Option Nat
  | 0, _, _, _ => none
  | f + 1, m, many, product => if product % m = 0 then some many else ndf f m (many + 1) (product * (many + 1) % m)
/-- a prime taken out of a number -/
def tka : Nat → Nat → Nat → Nat → Option (Nat × Nat)
  | 0, _, _, _ => none
  | f + 1, left, p, often => if left % p = 0 then tka f (left / p) p (often + 1) else some (left, often)
/-- the parts by some numbers, and what is left -/
def prt : List Nat → Nat → List (Nat × Nat) → Option (List (Nat × Nat) × Nat)
  | [], left, acc => some (acc, left)
  | p :: ps, left, acc => match tka 200 left p 0 with
    | some (l, n) => prt ps l (if 0 < n then acc ++ [(p, n)] else acc)
    | none => none
/-- numbers from a on -/
def rgN : Nat → Nat → List Nat
  | _, 0 => []
  | a, n + 1 => a :: rgN (a + 1) n
def bigN : Nat := 2 ^ 20000
/-- the law's number, one prime's part -/
def din : Nat → Nat → Nat → Nat → Nat → Nat → Option (Nat × Nat)
  | 0, _, _, _, _, _ => none
  | f + 1, left, p, power, level, found =>
    if left % p = 0 then
      if level = 0 then (if found * fac p < bigN then din f (left / p) p (power * p) 1 (found * fac p) else none)
      else if level = 1 then (if found * (p * (p - 1)) ^ p < bigN ∧ p * (p - 1) < 8192 then din f (left / p) p (power * p) 2 (found * (p * (p - 1)) ^ p) else none)
      else match ndf 700 power 0 1 with
        | some k => if found * p ^ k < bigN ∧ k ≤ 600 ∧ power ≤ 600 then din f (left / p) p (power * p) (level + 1) (found * p ^ k) else none
        | none => none
    else some (left, found)
def dfo : List Nat → Nat → Nat → Option Nat
  | [], _, found => some found
  | p :: ps, left, found => match din 200 left p p 0 found with
    | some (l, fd) => dfo ps l fd
    | none => none
def due (m : Nat) : Option Nat := dfo (rgN 2 (m - 1)) m 1
/-- that k is the factorial number of m -/
def fnOk (m k : Nat) : Bool := decide (sh m k = m) && (List.range k).all fun j => !decide (sh m j = m)
/-- beyond squares -/
def wbs : Nat → Nat → Nat → Nat → Option Nat
  | 0, _, _, found => some found
  | n + 1, p, power, found => match ndf 700 (power * p) 0 1 with
    | some k => if fnOk (power * p) k = true ∧ found * p ^ k < bigN ∧ k ≤ 600 ∧ power * p ≤ 600 then wbs n p (power * p) (found * p ^ k) else none
    | none => none
def cbp (p e : Nat) : Option Nat := if e = 1 then some (fac p) else match wbs (e - 2) p (p * p) 1 with
  | some w => some (fac p * (p - 1) ^ p * p ^ p * w)
  | none => none
def cnt : List (Nat × Nat) → Nat → Option Nat
  | [], found => some found
  | (p, e) :: r, found => match cbp p e with
    | some c => if found * c < bigN ∧ c < bigN ∧ 2 ≤ p ∧ p ≤ 97 ∧ 1 ≤ e ∧ e ≤ 20 then cnt r (found * c) else none
    | none => none
def fineN : List Nat := rgN 2 96
/-- whether a great prime divides it, as the law looks -/
def rgh (m : Nat) : Bool := (rgN 101 (m + 1 - 101)).any fun p => decide (m % p = 0) && ((rgN 2 23).all fun q => !(decide (q < p) && decide (p % q = 0)))
def chk (m : Nat) : Bool := match prt fineN m [] with
  | some (parts, left) => decide (rgh m = decide (1 < left)) && (decide (1 < left) || (match cnt parts 1, due m with
    | some c, some d => decide (c = d ∧ d < bigN)
    | _, _ => false))
  | none => false
theorem chk_a : (rgN 1 150).all chk = true := by decide +kernel
theorem chk_b : (rgN 151 150).all chk = true := by decide +kernel
theorem chk_c : (rgN 301 150).all chk = true := by decide +kernel
theorem chk_d : (rgN 451 150).all chk = true := by decide +kernel
end LW

set_option maxHeartbeats 4000000
set_option pp.maxSteps 900
/-! SV: one for one functions counted: the walks. -/
namespace LW
open LM
def sp_factorial : Sp2 := fun _ ds Q => ∃ n : Nat, ds = [.d (.int (n : Int))] ∧ n ≤ 600 ∧ Q (.d (.int (fac n : Nat)))
theorem mono_factorial : MonoSp sp_factorial := fun _ _ _ _ h ⟨a, b, c, q⟩ => ⟨a, b, c, h _ q⟩
theorem len_factorial : ∀ exf ds Q, sp_factorial exf ds Q → ds.length = 1 := fun _ _ _ ⟨_, e, _⟩ => by rw [e]; rfl
theorem fac_600 {n : Nat} (h : n ≤ 600) : fac n < 2 ^ (10 * n + 1) := by
  induction n with
  | zero => decide
  | succ n ih =>
    have := ih (by omega)
    rw [fac, show 10 * (n + 1) + 1 = (10 * n + 1) + 10 by omega, Nat.pow_add]
    exact Nat.mul_lt_mul'' this (by omega)
theorem fac_s (n : Nat) : fac (n + 1) = fac n * (n + 1) := rfl
def t_factorial : TS2 := (s2Seq (s2Asg (t2C (.int 1)) (g2Name 1))
  (s2Seq (s2For (i2Rng2 (t2C (.int 2)) (t2Op q2Add (t2Var 0) (t2C (.int 1)))) (g2Name 2) (s2Asg (t2Op q2Mul (t2Var 1) (t2Var 2)) (g2Name 1)))
  (s2Ret (t2Var 1))))
theorem pure_factorial : Does ["number", "found", "one"] t_factorial sp_factorial := by
  refine does_i fun exf ds Q h => ?_
  obtain ⟨n, rfl, hn, q⟩ := h
  walk_at "go"
  unfold t_factorial
  walk_at "st"
  all_goals try (exact ⟨by omega, by omega, by omega, by omega⟩)
  refine for_ii (fun i st => ∃ a, st = ⟨[some (.d (.int (n : Int))), some (.d (.int (fac (i + 1) : Nat))), a], []⟩) ⟨_, rfl⟩ (fun i z st' hx hI => ?_) (fun st' hI => ?_)
  · obtain ⟨a, rfl⟩ := hI
    obtain ⟨hi, rfl⟩ := range_get hx
    have hfi := fac_600 (n := i + 1) (by omega)
    walk_at "st"
    case hc => exact cmul (p := 10 * (i + 1) + 1) (q := 10) (by rw [Int.natAbs_natCast]; exact hfi) (by omega) (by omega)
    have e : ((fac (i + 1) : Nat) : Int) * (2 + (i : Int)) = ((fac (i + 1 + 1) : Nat) : Int) := by
      rw [fac_s (i + 1), Int.natCast_mul]
      congr 1
      omega
    rw [e]
    exact ⟨_, rfl⟩
  obtain ⟨a, rfl⟩ := hI
  have e : fac ((rangeD 2 ((n : Int) + 1 - 2).toNat).length + 1) = fac n := by
    rw [range_len]
    rcases Nat.eq_zero_or_pos n with h | h
    · subst h; rfl
    · congr 1; omega
  rw [e]
  walk_at "st"
  exact q
def sp__law_power : Sp2 := sp_power_of
theorem mono__law_power : MonoSp sp__law_power := mono_power_of
theorem len__law_power : ∀ exf ds Q, sp__law_power exf ds Q → ds.length = 2 := len_power_of
def t__law_power : TS2 := (s2Seq (s2Asg (t2C (.int 1)) (g2Name 2))
  (s2Seq (s2For (i2Rng1 (t2Var 1)) (g2Name 3) (s2Asg (t2Op q2Mul (t2Var 2) (t2Var 0)) (g2Name 2)))
  (s2Ret (t2Var 2))))
theorem pow_small {b i : Nat} (hb : b < 2 ^ 13) (hi : i ≤ 4000) : b ^ i < 2 ^ (13 * 4000 + 1) := by
  refine Nat.lt_of_le_of_lt (Nat.pow_le_pow_left (Nat.le_of_lt hb) i) ?_
  rw [← Nat.pow_mul]
  exact Nat.pow_lt_pow_right (by decide) (by have := Nat.mul_le_mul_left 13 (show i ≤ 4000 by omega); omega)
theorem pure__law_power : Does ["number", "often", "found", "turn"] t__law_power sp__law_power := by
  refine does_i fun exf ds Q h => ?_
  obtain ⟨b, a, _, rfl, hb, ha, q⟩ := h
  walk_at "go"
  unfold t__law_power
  walk_at "st"
  case hz => omega
  rw [Int.toNat_natCast]
  refine for_ii (fun i st => ∃ z, st = ⟨[some (.d (.int (b : Int))), some (.d (.int (a : Int))), some (.d (.int ((b ^ i : Nat) : Int))), z], []⟩) ⟨_, rfl⟩ (fun i x st' hx hI => ?_) (fun st' hI => ?_)
  · obtain ⟨z, rfl⟩ := hI
    obtain ⟨hi, rfl⟩ := range_get hx
    have hs := pow_small hb (i := i) (by omega)
    walk_at "st"
    case hc => exact cmul (p := 13 * 4000 + 1) (q := 13) (by rw [Int.natAbs_natCast]; exact hs) (by omega) (by omega)
    refine ⟨some (.d (.int (0 + (i : Int)))), ?_⟩
    rw [Nat.pow_succ, Int.natCast_mul]
  · obtain ⟨z, rfl⟩ := hI
    rw [range_len]
    walk_at "st"
    exact q
def sp__law_needed : Sp2 := fun _ ds Q => ∃ m k : Nat, ds = [.d (.int (m : Int))] ∧ 0 < m ∧ m ≤ 600 ∧ ndf 700 m 0 1 = some k ∧ Q (.d (.int (k : Int)))
theorem mono__law_needed : MonoSp sp__law_needed := fun _ _ _ _ h ⟨a, b, c, d, e, f, q⟩ => ⟨a, b, c, d, e, f, h _ q⟩
theorem len__law_needed : ∀ exf ds Q, sp__law_needed exf ds Q → ds.length = 1 := fun _ _ _ ⟨_, _, e, _⟩ => by rw [e]; rfl
def t__law_needed : TS2 := (s2Seq (s2Asg (t2Tup (t2Cons (t2C (.int 0)) (t2Cons (t2C (.int 1)) t2Nil))) (g2Tup 2 (g2Cons (g2Name 1) (g2Cons (g2Name 2) g2Nil))))
  (s2Seq (s2While (t2B (t2Op (q2Eq true) (t2Op (q2I (fun _ j => 0 < j) fun i j => .int (i % j)) (t2CB c2Int (t2Cons (t2Var 2) t2Nil)) (t2Var 0)) (t2C (.int 0)))) (s2Seq (s2Asg (t2Op q2Add (t2Var 1) (t2C (.int 1))) (g2Name 1))
  (s2Asg (t2Op (q2I (fun _ j => 0 < j) fun i j => .int (i % j)) (t2CB c2Int (t2Cons (t2Op q2Mul (t2Var 2) (t2Var 1)) t2Nil)) (t2Var 0)) (g2Name 2))))
  (s2Ret (t2Var 1))))
theorem pure__law_needed : Does ["m", "many", "product"] t__law_needed sp__law_needed := by
  refine does_i fun exf ds Q h => ?_
  obtain ⟨m, k, rfl, hm, hm2, hk, q⟩ := h
  walk_at "go"
  unfold t__law_needed
  walk_at "st"
  refine while_i (fun f st => ∃ many product : Nat, ndf f m many product = some k ∧ f + many = 700 ∧ product ≤ 600 ∧ st = ⟨[some (.d (.int (m : Int))), some (.d (.int (many : Int))), some (.d (.int (product : Int)))], []⟩) 700 ⟨0, 1, hk, rfl, by omega, rfl⟩ (fun f st' hI => ?_)
  obtain ⟨many, product, hf, hfm, hp, rfl⟩ := hI
  cases f with
  | zero => cases hf
  | succ f =>
    rw [ndf] at hf
    walk_at "st"
    case hc => exact (by omega : (0 : Int) < (m : Int))
    refine k_dect (fun h => ?_) (fun h => ?_)
    · rw [if_pos (by omega)] at hf
      injection hf with hf
      subst hf
      walk_at "st"
      exact q
    · rw [if_neg (by omega)] at hf
      have hlt := Nat.mod_lt (product * (many + 1)) hm
      walk_at "st"
      case hc => exact (by omega : (0 : Int) < (m : Int))
      case hc => exact cmul (p := 11) (q := 11) (by omega) (by omega) (by omega)
      refine ⟨f, by omega, many + 1, product * (many + 1) % m, hf, by omega, by omega, ?_⟩
      rw [Int.natCast_emod, Int.natCast_mul, Int.natCast_add]; rfl
end LW

set_option maxHeartbeats 4000000
set_option pp.maxSteps 900
/-! SW: parts, counts. -/
namespace LW
open LM
abbrev pairP (pw : Nat × Nat) : PyData := .tuple [.int (pw.1 : Int), .int (pw.2 : Int)]
theorem rgN_cons (a n : Nat) : rgN a (n + 1) = a :: rgN (a + 1) n := rfl
def sp_parts_and_rest : Sp2 := fun _ ds Q => ∃ (m left : Nat) (parts : List (Nat × Nat)), ds = [.d (.int (m : Int))] ∧ m < 2 ^ 140 ∧ prt fineN m [] = some (parts, left) ∧ Q (.d (.tuple [.tuple (parts.map pairP), .int (left : Int)]))
theorem mono_parts_and_rest : MonoSp sp_parts_and_rest := fun _ _ _ _ h ⟨a, b, c, d, e, f, q⟩ => ⟨a, b, c, d, e, f, h _ q⟩
theorem len_parts_and_rest : ∀ exf ds Q, sp_parts_and_rest exf ds Q → ds.length = 1 := fun _ _ _ ⟨_, _, _, e, _⟩ => by rw [e]; rfl
def t_parts_and_rest : TS2 := (s2Seq (s2Par 1 2 (t2Lst t2Nil) (t2Var 0))
  (s2Seq (s2For (i2Rng2 (t2C (.int 2)) (t2Op q2Add (t2C (.int 97)) (t2C (.int 1)))) (g2Name 3) (s2Seq (s2Asg (t2C (.int 0)) (g2Name 4))
  (s2Seq (s2While (t2B (t2Op (q2Eq false) (t2Op (q2I (fun _ j => 0 < j) fun i j => .int (i % j)) (t2Var 2) (t2Var 3)) (t2C (.int 0)))) (s2Par 2 4 (t2Op (q2I CDivW fun i j => .int (i / j)) (t2Var 2) (t2Var 3)) (t2Op q2Add (t2Var 4) (t2C (.int 1)))))
  (s2If (t2B (t2Op (q2I0 fun i j => .bool (decide (j < i))) (t2Var 4) (t2C (.int 0)))) (s2Drop (t2App (t2Var 1) (t2Tup (t2Cons (t2Var 3) (t2Cons (t2Var 4) t2Nil))))) s2Next))))
  (s2Ret (t2Tup (t2Cons (t2CB c2Tuple (t2Cons (t2Var 1) t2Nil)) (t2Cons (t2Var 2) t2Nil))))))
theorem pure_parts_and_rest : Does ["m", "found", "left", "prime", "often"] t_parts_and_rest sp_parts_and_rest := by
  refine does_i fun exf ds Q h => ?_
  obtain ⟨m, left, parts, rfl, hm, hp, q⟩ := h
  walk_at "go"
  unfold t_parts_and_rest
  walk_at "st"
  all_goals try (exact ⟨by omega, by omega, by omega, by omega⟩)
  refine for_ii (fun i st => ∃ (l : Nat) (acc : List (Nat × Nat)) (a b : Option DV), st = ⟨[some (.d (.int (m : Int))), some (.o 0), some (.d (.int (l : Int))), a, b], [⟨acc.map pairP, true⟩]⟩ ∧ l < 2 ^ 140 ∧ acc.length ≤ i ∧ prt (rgN (2 + i) (96 - i)) l acc = some (parts, left)) ⟨m, [], _, _, rfl, hm, by simp, hp⟩ (fun i z st' hx hI => ?_) (fun st' hI => ?_)
  · obtain ⟨l, acc, a, b, rfl, hl, hacc, hpr⟩ := hI
    obtain ⟨hi, rfl⟩ := range_get hx
    have hi2 : i < 96 := by simpa using hi
    rw [show 96 - i = (96 - (i + 1)) + 1 by omega, rgN_cons, prt] at hpr
    have e0 : (2 : Int) + (i : Int) = ((2 + i : Nat) : Int) := by omega
    rw [e0]
    cases ht : tka 200 l (2 + i) 0 with
    | none => rw [ht] at hpr; cases hpr
    | some r =>
      obtain ⟨l2, n⟩ := r
      rw [ht] at hpr
      simp only at hpr
      walk_at "st"
      refine while_i (fun f st => ∃ l often : Nat, tka f l (2 + i) often = some (l2, n) ∧ l < 2 ^ 140 ∧ f + often ≤ 200 ∧ st = ⟨[some (.d (.int (m : Int))), some (.o 0), some (.d (.int (l : Int))), some (.d (.int ((2 + i : Nat) : Int))), some (.d (.int (often : Int)))], [⟨acc.map pairP, true⟩]⟩) 200 ⟨l, 0, ht, hl, by omega, rfl⟩ (fun f st' hI => ?_)
      obtain ⟨l, often, hf, hl, hfo, rfl⟩ := hI
      cases f with
      | zero => cases hf
      | succ f =>
        rw [tka] at hf
        walk_at "st"
        case hc => exact (by omega : (0 : Int) < ((2 + i : Nat) : Int))
        refine k_decf (fun h => ?_) (fun h => ?_)
        · rw [if_pos (by omega)] at hf
          have hdl : l / (2 + i) ≤ l := Nat.div_le_self _ _
          walk_at "st"
          case hc => exact cdiv (p := 10) (by omega) (by omega) (by omega)
          refine ⟨f, by omega, l / (2 + i), often + 1, hf, Nat.lt_of_le_of_lt hdl hl, by omega, ?_⟩
          rw [Int.natCast_ediv, Int.natCast_add (n := often)]; rfl
        · rw [if_neg (by omega)] at hf
          injection hf with hf
          injection hf with e1 e2
          subst e1 e2
          walk_at "st"
          refine k_dec (fun h3 => ?_) (fun h3 => ?_)
          · rw [if_pos (by omega)] at hpr
            walk_at "st"
            case hz => rw [List.length_map]; exact szl (by omega)
            refine ⟨l, acc ++ [(2 + i, often)], some (.d (.int ((2 + i : Nat) : Int))), some (.d (.int (often : Int))), ?_, hl, by simp; omega, ?_⟩
            · rw [List.map_append]; rfl
            · rw [show 2 + (i + 1) = 2 + i + 1 by omega]; exact hpr
          · rw [if_neg (by omega)] at hpr
            walk_at "st"
            refine ⟨l, acc, _, _, rfl, hl, by omega, ?_⟩
            rw [show 2 + (i + 1) = 2 + i + 1 by omega]; exact hpr
  · obtain ⟨l, acc, a, b, rfl, hl, hacc, hpr⟩ := hI
    rw [range_len, show Int.toNat (97 + 1 - 2) = 96 from rfl] at hpr
    rw [Nat.sub_self, rgN, prt] at hpr
    injection hpr with hpr
    injection hpr with e1 e2
    subst e1 e2
    walk_at "st"
    exact q
def spw_fine_parts : Sp2 := fun exf ds Q => ∃ (m left : Nat) (parts : List (Nat × Nat)), ds = [.d (.int (m : Int))] ∧ m < 2 ^ 140 ∧ prt fineN m [] = some (parts, left) ∧ if 1 < left then exf "Refused" (some (.int 97)) else Q (.d (.tuple (parts.map pairP)))
theorem monow_fine_parts : MonoSp spw_fine_parts := fun _ _ _ _ h ⟨a, b, c, d, e, f, q⟩ => ⟨a, b, c, d, e, f, ite_mono (h _) q⟩
theorem lenw_fine_parts : ∀ exf ds Q, spw_fine_parts exf ds Q → ds.length = 1 := fun _ _ _ ⟨_, _, _, e, _⟩ => by rw [e]; rfl
def tw_fine_parts : TS2 := (s2Seq (s2Asg (t2Call sp_parts_and_rest (t2Cons (t2Var 0) t2Nil)) (g2Tup 2 (g2Cons (g2Name 1) (g2Cons (g2Name 2) g2Nil))))
  (s2Seq (s2If (t2B (t2Op (q2I0 fun i j => .bool (decide (j < i))) (t2Var 2) (t2C (.int 1)))) (s2Raise "Refused" (t2Cons (t2C (.int 97)) t2Nil)) s2Next)
  (s2Ret (t2Var 1))))
theorem purew_fine_parts : Does ["m", "parts", "left"] tw_fine_parts spw_fine_parts := by
  refine does_i fun exf ds Q h => ?_
  obtain ⟨m, left, parts, rfl, hm, hp, q⟩ := h
  walk_at "go"
  unfold tw_fine_parts
  walk_at "st"
  refine ⟨m, left, parts, rfl, hm, hp, ?_⟩
  walk_at "st"
  refine k_dec (fun h => ?_) (fun h => ?_)
  · rw [if_pos (by omega)] at q
    walk_at "st"
    exact q
  · rw [if_neg (by omega)] at q
    walk_at "st"
    exact q
/-- a wide promise about a clock's parts -/
def spNu (P : List (Nat × Nat) → (DV → Prop) → Prop) : Sp2 := fun exf ds Q => ∃ v, ds = [.d v] ∧ if isClk v = false then exf "InvalidClock" (some (.int 0)) else ∃ (m left : Nat) (parts : List (Nat × Nat)), v = .int (m : Int) ∧ m < 2 ^ 140 ∧ prt fineN m [] = some (parts, left) ∧ if 1 < left then exf "Refused" (some (.int 97)) else if 600 < m then exf "Refused" (some (.int 600)) else P parts Q
theorem mono_spNu {P : List (Nat × Nat) → (DV → Prop) → Prop} (hP : ∀ p (Q Q' : DV → Prop), (∀ v, Q v → Q' v) → P p Q → P p Q') : MonoSp (spNu P) := fun _ _ _ _ h ⟨v, e, q⟩ => ⟨v, e, ite_mono (fun ⟨a, b, c, d, f, g, q⟩ => ⟨a, b, c, d, f, g, ite_mono (ite_mono (hP _ _ _ h)) q⟩) q⟩
theorem len_spNu {P : List (Nat × Nat) → (DV → Prop) → Prop} : ∀ exf ds Q, spNu P exf ds Q → ds.length = 1 := fun _ _ _ ⟨_, e, _⟩ => by rw [e]; rfl
def spw_numbered_parts : Sp2 := spNu fun p Q => Q (.d (.tuple (p.map pairP)))
theorem monow_numbered_parts : MonoSp spw_numbered_parts := mono_spNu fun _ _ _ h q => h _ q
theorem lenw_numbered_parts : ∀ exf ds Q, spw_numbered_parts exf ds Q → ds.length = 1 := len_spNu
def tw_numbered_parts : TS2 := (s2Seq (s2Drop (t2Call spw_checked_clock (t2Cons (t2Var 0) t2Nil)))
  (s2Seq (s2Asg (t2Call spw_fine_parts (t2Cons (t2Var 0) t2Nil)) (g2Name 1))
  (s2Seq (s2If (t2B (t2Op (q2I0 fun i j => .bool (decide (j < i))) (t2Var 0) (t2C (.int 600)))) (s2Raise "Refused" (t2Cons (t2C (.int 600)) t2Nil)) s2Next)
  (s2Ret (t2Var 1)))))
theorem purew_numbered_parts : Does ["m", "parts"] tw_numbered_parts spw_numbered_parts := by
  refine does_i fun exf ds Q h => ?_
  obtain ⟨v, rfl, q⟩ := h
  walk_at "go"
  unfold tw_numbered_parts
  walk_at "st"
  refine ⟨v, rfl, ?_⟩
  cases e1 : isClk v
  · rw [if_pos e1] at q
    rw [if_pos rfl]; exact q
  rw [if_neg (by rw [e1]; simp)] at q
  rw [if_neg (by simp)]
  obtain ⟨m, left, parts, rfl, hm, hp, q⟩ := q
  walk_at "st"
  refine ⟨m, left, parts, rfl, hm, hp, ?_⟩
  by_cases h : 1 < left
  · rw [if_pos h] at q ⊢
    exact q
  rw [if_neg h] at q ⊢
  walk_at "st"
  refine k_dec (fun h => ?_) (fun h => ?_)
  · rw [if_pos (by omega)] at q
    walk_at "st"
    exact q
  · rw [if_neg (by omega)] at q
    walk_at "st"
    exact q
def sp_ways_beyond_squares : Sp2 := fun _ ds Q => ∃ p e w : Nat, ds = [.d (.int (p : Int)), .d (.int (e : Int))] ∧ 2 ≤ p ∧ p ≤ 97 ∧ 2 ≤ e ∧ e ≤ 20 ∧ wbs (e - 2) p (p * p) 1 = some w ∧ Q (.d (.int (w : Int)))
theorem mono_ways_beyond_squares : MonoSp sp_ways_beyond_squares := fun _ _ _ _ h ⟨a, b, c, d, e, f, g, i, j, q⟩ => ⟨a, b, c, d, e, f, g, i, j, h _ q⟩
theorem len_ways_beyond_squares : ∀ exf ds Q, sp_ways_beyond_squares exf ds Q → ds.length = 2 := fun _ _ _ ⟨_, _, _, e, _⟩ => by rw [e]; rfl
def t_ways_beyond_squares : TS2 := (s2Seq (s2Par 2 3 (t2C (.int 1)) (t2Op q2Mul (t2Var 0) (t2Var 0)))
  (s2Seq (s2For (i2Rng2 (t2C (.int 3)) (t2Op q2Add (t2Var 1) (t2C (.int 1)))) (g2Name 4) (s2Seq (s2Asg (t2Op q2Mul (t2Var 3) (t2Var 0)) (g2Name 3))
  (s2Asg (t2Op q2Mul (t2Var 2) (t2Call sp_power_of (t2Cons (t2Var 0) (t2Cons (t2Call sp_factorial_number (t2Cons (t2Var 3) t2Nil)) t2Nil)))) (g2Name 2))))
  (s2Ret (t2Var 2))))
theorem fnOk_of {m k : Nat} (h : fnOk m k = true) : sh m k = m ∧ ∀ j, j < k → sh m j ≠ m := by
  simp only [fnOk, Bool.and_eq_true, decide_eq_true_eq, List.all_eq_true, List.mem_range, Bool.not_eq_true', decide_eq_false_iff_not] at h
  exact h
theorem pure_ways_beyond_squares : Does ["prime", "often", "found", "power", "turn"] t_ways_beyond_squares sp_ways_beyond_squares := by
  refine does_i fun exf ds Q h => ?_
  obtain ⟨p, e, w, rfl, hp, hp2, he, he2, hw, q⟩ := h
  walk_at "go"
  unfold t_ways_beyond_squares
  walk_at "st"
  case hc => exact cmul (p := 7) (q := 7) (by omega) (by omega) (by omega)
  all_goals try (exact ⟨by omega, by omega, by omega, by omega⟩)
  refine for_ii (fun i st => ∃ (fd pw : Nat) (a : Option DV), st = ⟨[some (.d (.int (p : Int))), some (.d (.int (e : Int))), some (.d (.int (fd : Int))), some (.d (.int (pw : Int))), a], []⟩ ∧ fd < bigN ∧ pw ≤ 10000 ∧ wbs (e - 2 - i) p pw fd = some w) ⟨1, p * p, _, by rw [Int.natCast_mul]; rfl, by decide +kernel, Nat.le_trans (Nat.mul_le_mul hp2 hp2) (by decide), hw⟩ (fun i z st' hx hI => ?_) (fun st' hI => ?_)
  · obtain ⟨fd, pw, a, rfl, hfd, hpw, hwb⟩ := hI
    obtain ⟨hi, rfl⟩ := range_get hx
    have hi2 : i < e - 2 := by omega
    rw [show e - 2 - i = (e - 2 - (i + 1)) + 1 by omega, wbs] at hwb
    cases hk : ndf 700 (pw * p) 0 1 with
    | none => rw [hk] at hwb; cases hwb
    | some k =>
      rw [hk] at hwb
      simp only at hwb
      split at hwb
      rotate_left
      · cases hwb
      rename_i hg
      obtain ⟨g1, g2, g3, g4⟩ := hg
      obtain ⟨f1, f2⟩ := fnOk_of g1
      have hpp : 0 < pw * p := by
        rcases Nat.eq_zero_or_pos (pw * p) with g | g
        · rw [g, sh] at f1
          simp at f1
          have := fac_pos k
          omega
        · exact g
      have hpk := pow_small (b := p) (i := k) (by omega) (by omega)
      walk_at "st"
      case hc => exact cmul (p := 14) (q := 7) (by omega) (by omega) (by omega)
      rw [← Int.natCast_mul]
      refine ⟨pw * p, rfl, clk_int (by omega) (by omega), fun k2 h3 h4 => ?_, fun h => absurd f1 (h k (by omega))⟩
      have hkk : k2 = k := by
        obtain ⟨f3, f4⟩ := h4
        rcases Nat.lt_trichotomy k2 k with g | g | g
        · exact absurd f3 (f2 k2 g)
        · exact g
        · exact absurd f1 (f4 k g)
      subst hkk
      walk_at "st"
      refine ⟨p, k2, 0, rfl, by omega, by omega, ?_⟩
      walk_at "st"
      case hc => exact cmul (p := 20000) (by rw [Int.natAbs_natCast]; exact hfd) (q := 13 * 4000 + 1) (by rw [Int.natAbs_natCast]; exact hpk) (by omega)
      rw [← Int.natCast_mul]
      exact ⟨_, _, _, rfl, g2, by omega, hwb⟩
  · obtain ⟨fd, pw, a, rfl, hfd, hpw, hwb⟩ := hI
    rw [range_len, show ((e : Int) + 1 - 3).toNat = e - 2 by omega, Nat.sub_self, wbs] at hwb
    injection hwb with hwb
    subst hwb
    walk_at "st"
    exact q
def sp_count_by_part : Sp2 := fun _ ds Q => ∃ p e c : Nat, ds = [.d (.int (p : Int)), .d (.int (e : Int))] ∧ 2 ≤ p ∧ p ≤ 97 ∧ 1 ≤ e ∧ e ≤ 20 ∧ cbp p e = some c ∧ c < bigN ∧ Q (.d (.int (c : Int)))
theorem mono_count_by_part : MonoSp sp_count_by_part := fun _ _ _ _ h ⟨a, b, c, d, e, f, g, i, j, k, q⟩ => ⟨a, b, c, d, e, f, g, i, j, k, h _ q⟩
theorem len_count_by_part : ∀ exf ds Q, sp_count_by_part exf ds Q → ds.length = 2 := fun _ _ _ ⟨_, _, _, e, _⟩ => by rw [e]; rfl
def t_count_by_part : TS2 := (s2Seq (s2Asg (t2Call sp_factorial (t2Cons (t2Var 0) t2Nil)) (g2Name 2))
  (s2Seq (s2If (t2B (t2Op (q2Eq false) (t2Var 1) (t2C (.int 1)))) (s2Ret (t2Var 2)) s2Next)
  (s2Ret (t2Op q2Mul (t2Op q2Mul (t2Op q2Mul (t2Var 2) (t2Call sp_power_of (t2Cons (t2Op (q2I0 fun i j => .int (i - j)) (t2Var 0) (t2C (.int 1))) (t2Cons (t2Var 0) t2Nil)))) (t2Call sp_power_of (t2Cons (t2Var 0) (t2Cons (t2Var 0) t2Nil)))) (t2Call sp_ways_beyond_squares (t2Cons (t2Var 0) (t2Cons (t2Var 1) t2Nil)))))))
theorem wbs_small {n p pw fd w : Nat} (h : wbs n p pw fd = some w) (hf : fd < bigN) : w < bigN := by
  induction n generalizing pw fd with
  | zero => rw [wbs] at h; injection h with h; omega
  | succ n ih =>
    rw [wbs] at h
    cases hk : ndf 700 (pw * p) 0 1 with
    | none => rw [hk] at h; cases h
    | some k =>
      rw [hk] at h
      simp only at h
      split at h
      · rename_i g; exact ih h g.2.1
      · cases h
theorem pure_count_by_part : Does ["prime", "often", "found"] t_count_by_part sp_count_by_part := by
  refine does_i fun exf ds Q h => ?_
  obtain ⟨p, e, c, rfl, hp, hp2, he, he2, hc, hcb, q⟩ := h
  have hf := fac_600 (n := p) (by omega)
  have hp1 := pow_small (b := p - 1) (i := p) (by omega) (by omega)
  have hpp := pow_small (b := p) (i := p) (by omega) (by omega)
  unfold cbp at hc
  walk_at "go"
  unfold t_count_by_part
  walk_at "st"
  refine ⟨p, rfl, by omega, ?_⟩
  walk_at "st"
  refine k_decf (fun h => ?_) (fun h => ?_)
  · rw [if_pos (by omega)] at hc
    injection hc with hc
    rw [hc]
    walk_at "st"
    exact q
  rw [if_neg (by omega)] at hc
  cases hw : wbs (e - 2) p (p * p) 1 with
  | none => rw [hw] at hc; cases hc
  | some w =>
    rw [hw] at hc
    simp only at hc
    injection hc with hc
    have hws := wbs_small hw (by decide +kernel)
    walk_at "st"
    have e1 : (p : Int) - 1 = ((p - 1 : Nat) : Int) := by omega
    rw [e1]
    have hf1 : fac p < 2 ^ 6001 := Nat.lt_of_lt_of_le hf (Nat.pow_le_pow_right (by decide) (by omega))
    refine ⟨p - 1, p, 0, rfl, by omega, by omega, ?_⟩
    walk_at "st"
    case hc => exact cmul (p := 6001) (q := 13 * 4000 + 1) (by rw [Int.natAbs_natCast]; exact hf1) (by rw [Int.natAbs_natCast]; exact hp1) (by omega)
    refine ⟨p, p, 0, rfl, by omega, by omega, ?_⟩
    have hm1 : fac p * (p - 1) ^ p < 2 ^ (6001 + (13 * 4000 + 1)) := by rw [Nat.pow_add]; exact Nat.mul_lt_mul'' hf1 hp1
    have hm2 : fac p * (p - 1) ^ p * p ^ p < 2 ^ (6001 + (13 * 4000 + 1) + (13 * 4000 + 1)) := by rw [Nat.pow_add]; exact Nat.mul_lt_mul'' hm1 hpp
    rw [← Int.natCast_mul]
    walk_at "st"
    case hc => exact cmul (p := 6001 + (13 * 4000 + 1)) (q := 13 * 4000 + 1) (by rw [Int.natAbs_natCast]; exact hm1) (by rw [Int.natAbs_natCast]; exact hpp) (by omega)
    rw [← Int.natCast_mul]
    refine ⟨p, e, w, rfl, hp, hp2, by omega, he2, hw, ?_⟩
    walk_at "st"
    case hc => exact cmul (p := 6001 + (13 * 4000 + 1) + (13 * 4000 + 1)) (q := 20000) (by rw [Int.natAbs_natCast]; exact hm2) (by rw [Int.natAbs_natCast]; exact hws) (by omega)
    rw [← Int.natCast_mul, hc]
    exact q
def spw_count_one_for_one : Sp2 := spNu fun p Q => ∃ c, cnt p 1 = some c ∧ Q (.d (.int ((c : Nat) : Int)))
theorem monow_count_one_for_one : MonoSp spw_count_one_for_one := mono_spNu fun _ _ _ h ⟨c, e, q⟩ => ⟨c, e, h _ q⟩
theorem lenw_count_one_for_one : ∀ exf ds Q, spw_count_one_for_one exf ds Q → ds.length = 1 := len_spNu
def tw_count_one_for_one : TS2 := (s2Seq (s2Asg (t2C (.int 1)) (g2Name 1))
  (s2Seq (s2For (i2Seq (t2Call spw_numbered_parts (t2Cons (t2Var 0) t2Nil))) (g2Tup 2 (g2Cons (g2Name 2) (g2Cons (g2Name 3) g2Nil))) (s2Asg (t2Op q2Mul (t2Var 1) (t2Call sp_count_by_part (t2Cons (t2Var 2) (t2Cons (t2Var 3) t2Nil)))) (g2Name 1)))
  (s2Ret (t2Var 1))))
theorem purew_count_one_for_one : Does ["m", "found", "prime", "often"] tw_count_one_for_one spw_count_one_for_one := by
  refine does_i fun exf ds Q h => ?_
  obtain ⟨v, rfl, q⟩ := h
  walk_at "go"
  unfold tw_count_one_for_one
  walk_at "st"
  refine ⟨v, rfl, ?_⟩
  cases e1 : isClk v
  · rw [if_pos e1] at q
    rw [if_pos rfl]; exact q
  rw [if_neg (by rw [e1]; simp)] at q
  rw [if_neg (by simp)]
  obtain ⟨m, left, parts, rfl, hm, hp, q⟩ := q
  refine ⟨m, left, parts, rfl, hm, hp, ?_⟩
  by_cases h : 1 < left
  · rw [if_pos h] at q ⊢
    exact q
  rw [if_neg h] at q ⊢
  by_cases h2 : 600 < m
  · rw [if_pos h2] at q ⊢
    exact q
  rw [if_neg h2] at q ⊢
  obtain ⟨c, hc, q⟩ := q
  walk_at "st"
  refine for_ii (fun i st => ∃ (fd : Nat) (a b : Option DV), st = ⟨[some (.d (.int (m : Int))), some (.d (.int (fd : Int))), a, b], []⟩ ∧ fd < bigN ∧ cnt (parts.drop i) fd = some c) ⟨1, _, _, rfl, by decide +kernel, hc⟩ (fun i z st' hx hI => ?_) (fun st' hI => ?_)
  · obtain ⟨fd, a, b, rfl, hfd, hct⟩ := hI
    have hi : i < parts.length := by
      have := (List.getElem?_eq_some_iff.mp hx).1
      simpa using this
    obtain rfl : z = pairP parts[i] := by
      rw [List.getElem?_map, List.getElem?_eq_getElem hi] at hx
      simpa using hx.symm
    rw [List.drop_eq_getElem_cons hi] at hct
    generalize parts[i] = pe at *
    obtain ⟨p, e⟩ := pe
    rw [cnt] at hct
    cases hcb : cbp p e with
    | none => rw [hcb] at hct; cases hct
    | some cb =>
      rw [hcb] at hct
      simp only at hct
      split at hct
      rotate_left
      · cases hct
      rename_i g
      obtain ⟨g1, g2, g3, g4, g5, g6⟩ := g
      walk_at "st"
      refine ⟨p, e, cb, rfl, g3, g4, g5, g6, hcb, g2, ?_⟩
      walk_at "st"
      case hc => exact cmul (p := 20000) (q := 20000) (by rw [Int.natAbs_natCast]; exact hfd) (by rw [Int.natAbs_natCast]; exact g2) (by omega)
      rw [← Int.natCast_mul]
      exact ⟨_, _, _, rfl, g1, hct⟩
  · obtain ⟨fd, a, b, rfl, hfd, hct⟩ := hI
    rw [List.length_map, List.drop_length, cnt] at hct
    injection hct with hct
    subst hct
    walk_at "st"
    exact q
end LW

set_option maxHeartbeats 4000000
set_option pp.maxSteps 900
/-! SX: the law's own number, drawing, wrong clocks. -/
namespace LW
open LM
theorem din_step {f left p power level found : Nat} {r : Nat × Nat} (h : din (f + 1) left p power level found = some r) (hd : left % p = 0) : ∃ F, din f (left / p) p (power * p) (level + 1) F = some r ∧ F < bigN ∧ ((level = 0 ∧ F = found * fac p) ∨ (level = 1 ∧ F = found * (p * (p - 1)) ^ p ∧ p * (p - 1) < 8192) ∨ (2 ≤ level ∧ ∃ k, ndf 700 power 0 1 = some k ∧ F = found * p ^ k ∧ k ≤ 600 ∧ power ≤ 600)) := by
  rw [din, if_pos hd] at h
  by_cases h0 : level = 0
  · rw [if_pos h0] at h
    split at h
    · rename_i g; subst h0; exact ⟨_, h, g, .inl ⟨rfl, rfl⟩⟩
    · cases h
  rw [if_neg h0] at h
  by_cases h1 : level = 1
  · rw [if_pos h1] at h
    split at h
    · rename_i g; subst h1; exact ⟨_, h, g.1, .inr (.inl ⟨rfl, rfl, g.2⟩)⟩
    · cases h
  rw [if_neg h1] at h
  cases hk : ndf 700 power 0 1 with
  | none => rw [hk] at h; cases h
  | some k =>
    rw [hk] at h
    simp only at h
    split at h
    · rename_i g; exact ⟨_, h, g.1, .inr (.inr ⟨by omega, k, rfl, rfl, g.2.1, g.2.2⟩)⟩
    · cases h
def sp__law_due : Sp2 := fun _ ds Q => ∃ m d : Nat, ds = [.d (.int (m : Int))] ∧ 1 ≤ m ∧ m ≤ 600 ∧ due m = some d ∧ Q (.d (.int (d : Int)))
theorem mono__law_due : MonoSp sp__law_due := fun _ _ _ _ h ⟨a, b, c, d, e, f, q⟩ => ⟨a, b, c, d, e, f, h _ q⟩
theorem len__law_due : ∀ exf ds Q, sp__law_due exf ds Q → ds.length = 1 := fun _ _ _ ⟨_, _, e, _⟩ => by rw [e]; rfl
def t__law_due : TS2 := (s2Seq (s2Par 1 2 (t2C (.int 1)) (t2Var 0))
  (s2Seq (s2For (i2Rng2 (t2C (.int 2)) (t2Op q2Add (t2Var 0) (t2C (.int 1)))) (g2Name 3) (s2Seq (s2Par 4 5 (t2Var 3) (t2C (.int 0)))
  (s2While (t2B (t2Op (q2Eq false) (t2Op (q2I (fun _ j => 0 < j) fun i j => .int (i % j)) (t2CB c2Int (t2Cons (t2Var 2) t2Nil)) (t2Var 3)) (t2C (.int 0)))) (s2Seq (s2Par 2 5 (t2Op (q2I CDivW fun i j => .int (i / j)) (t2Var 2) (t2Var 3)) (t2Op q2Add (t2Var 5) (t2C (.int 1))))
  (s2Seq (s2If (t2B (t2Op (q2Eq false) (t2Var 5) (t2C (.int 1)))) (s2For (i2Rng2 (t2C (.int 2)) (t2Op q2Add (t2Var 3) (t2C (.int 1)))) (g2Name 6) (s2Asg (t2Op q2Mul (t2Var 1) (t2Var 6)) (g2Name 1))) (s2If (t2B (t2Op (q2Eq false) (t2Var 5) (t2C (.int 2)))) (s2Asg (t2Op q2Mul (t2Var 1) (t2Call sp__law_power (t2Cons (t2Op q2Mul (t2Var 3) (t2Op (q2I0 fun i j => .int (i - j)) (t2Var 3) (t2C (.int 1)))) (t2Cons (t2Var 3) t2Nil)))) (g2Name 1)) (s2Asg (t2Op q2Mul (t2Var 1) (t2Call sp__law_power (t2Cons (t2Var 3) (t2Cons (t2Call sp__law_needed (t2Cons (t2Var 4) t2Nil)) t2Nil)))) (g2Name 1))))
  (s2Asg (t2Op q2Mul (t2Var 4) (t2Var 3)) (g2Name 4)))))))
  (s2Ret (t2Var 1))))
theorem pure__law_due : Does ["m", "found", "left", "prime", "power", "level", "one"] t__law_due sp__law_due := by
  refine does_i fun exf ds Q h => ?_
  obtain ⟨m, d, rfl, hm, hm2, hd, q⟩ := h
  unfold due at hd
  walk_at "go"
  unfold t__law_due
  walk_at "st"
  all_goals try (exact ⟨by omega, by omega, by omega, by omega⟩)
  refine for_ii (fun i st => ∃ (l fd : Nat) (a b c e : Option DV), st = ⟨[some (.d (.int (m : Int))), some (.d (.int (fd : Int))), some (.d (.int (l : Int))), a, b, c, e], []⟩ ∧ 0 < l ∧ l ≤ 600 ∧ fd < bigN ∧ dfo (rgN (2 + i) (m - 1 - i)) l fd = some d) ⟨m, 1, _, _, _, _, rfl, by omega, hm2, by decide +kernel, hd⟩ (fun i z st' hx hI => ?_) (fun st' hI => ?_)
  · obtain ⟨l, fd, a, b, c, e, rfl, hl0, hl, hfd, hdf⟩ := hI
    obtain ⟨hi, rfl⟩ := range_get hx
    have hi2 : i < m - 1 := by omega
    rw [show m - 1 - i = (m - 1 - (i + 1)) + 1 by omega, rgN_cons, dfo] at hdf
    have e0 : (2 : Int) + (i : Int) = ((2 + i : Nat) : Int) := by omega
    rw [e0]
    have hpm : 2 + i ≤ 600 := by omega
    have hp2 : 2 ≤ 2 + i := by omega
    have e1 : 2 + (i + 1) = 2 + i + 1 := by omega
    rw [← e1] at hdf
    generalize hP : 2 + i = p at *
    cases ht : din 200 l p p 0 fd with
    | none => rw [ht] at hdf; cases hdf
    | some r =>
      obtain ⟨l2, fd2⟩ := r
      rw [ht] at hdf
      simp only at hdf
      walk_at "st"
      refine while_i (fun f st => ∃ (l power level fd : Nat) (e : Option DV), din f l p power level fd = some (l2, fd2) ∧ f + level = 200 ∧ 0 < l ∧ l ≤ 600 ∧ power < 2 ^ (10 + 10 * level) ∧ 0 < power ∧ fd < bigN ∧ st = ⟨[some (.d (.int (m : Int))), some (.d (.int (fd : Int))), some (.d (.int (l : Int))), some (.d (.int (p : Int))), some (.d (.int (power : Int))), some (.d (.int (level : Int))), e], []⟩) 200 ⟨l, p, 0, fd, e, ht, rfl, hl0, hl, by omega, by omega, hfd, rfl⟩ (fun f st' hI => ?_)
      clear ht hl hl0 hfd
      obtain ⟨l, power, level, fd, e, hf, hfl, hl0, hl, hpw, hpw0, hfd, rfl⟩ := hI
      cases f with
      | zero => cases hf
      | succ f =>
        walk_at "st"
        case hc => exact (by omega : (0 : Int) < (p : Int))
        refine k_decf (fun h => ?_) (fun h => ?_)
        · have hlp : l % p = 0 := by omega
          obtain ⟨F, hF, hFb, hcase⟩ := din_step hf hlp
          have hpl : p ≤ l := Nat.le_of_dvd hl0 (Nat.dvd_of_mod_eq_zero hlp)
          have hl1 : 0 < l / p := Nat.div_pos hpl (by omega)
          have hl2 : l / p ≤ l := Nat.div_le_self _ _
          have hpw2 : power * p < 2 ^ (10 + 10 * (level + 1)) := by
            rw [show 10 + 10 * (level + 1) = 10 + 10 * level + 10 by omega, Nat.pow_add]
            exact Nat.mul_lt_mul'' hpw (by omega)
          have eldiv : ((l : Int) / (p : Int)) = ((l / p : Nat) : Int) := (Int.natCast_ediv _ _).symm
          repeat (first | with_reducible refine k_ifP (fun v : Int × Option DV => ⟨[some (.d (.int (m : Int))), some (.d (.int v.1)), some (.d (.int ((l : Int) / (p : Int)))), some (.d (.int (p : Int))), some (.d (.int (power : Int))), some (.d (.int ((level : Int) + 1))), v.2], []⟩) (fun v => v.1 = ((F : Nat) : Int)) ?_ ?_ | walk_at "sx")
          · rintro ⟨v, w⟩ hv
            simp only at hv
            subst hv
            walk_at "st"
            case hc => exact cmul (p := 10 + 10 * 200) (q := 10) (by rw [Int.natAbs_natCast]; exact Nat.lt_of_lt_of_le hpw (Nat.pow_le_pow_right (by decide) (by omega))) (by omega) (by omega)
            rw [eldiv, ← Int.natCast_mul]
            refine ⟨f, by omega, l / p, power * p, level + 1, F, w, hF, by omega, hl1, by omega, hpw2, Nat.mul_pos hpw0 (by omega), hFb, ?_⟩
            rw [Int.natCast_add (n := level)]; rfl
          · intro hrest
            have hfd2 : fd < 2 ^ 20000 := hfd
            repeat walk_at "sx"
            refine k_decf (fun g0 => ?_) (fun g0 => ?_)
            · have hFe : F = fd * fac p := by
                rcases hcase with ⟨_, g⟩ | ⟨g, _⟩ | ⟨g, _⟩
                · exact g
                · omega
                · omega
              repeat walk_at "sx"
              all_goals try (exact ⟨by omega, by omega, by omega, by omega⟩)
              refine for_ii (fun j st => ∃ o, st = ⟨[some (.d (.int (m : Int))), some (.d (.int ((fd * fac (j + 1) : Nat) : Int))), some (.d (.int ((l : Int) / (p : Int)))), some (.d (.int (p : Int))), some (.d (.int (power : Int))), some (.d (.int ((level : Int) + 1))), o], []⟩) ⟨_, by rw [show fd * fac (0 + 1) = fd from Nat.mul_one fd]⟩ (fun j z st' hx hI => ?_) (fun st' hI => ?_)
              · obtain ⟨o, rfl⟩ := hI
                obtain ⟨hj, rfl⟩ := range_get hx
                have hfj := fac_600 (n := j + 1) (by omega)
                have hfj2 : fd * fac (j + 1) < 2 ^ (20000 + (10 * (j + 1) + 1)) := by rw [Nat.pow_add]; exact Nat.mul_lt_mul'' hfd2 hfj
                repeat walk_at "sx"
                case hc => exact cmul (p := 20000 + (10 * (j + 1) + 1)) (q := 10) (by rw [Int.natAbs_natCast]; exact hfj2) (by omega) (by omega)
                have e4 : ((fd * fac (j + 1) : Nat) : Int) * (2 + (j : Int)) = ((fd * fac (j + 1 + 1) : Nat) : Int) := by
                  rw [fac_s (j + 1), ← Nat.mul_assoc, Int.natCast_mul (fd * fac (j + 1))]
                  congr 1
                  omega
                rw [e4]
                exact ⟨_, rfl⟩
              · obtain ⟨o, rfl⟩ := hI
                rw [range_len, show ((p : Int) + 1 - 2).toNat + 1 = p by omega]
                exact hrest (_, _) (by rw [hFe])
            repeat walk_at "sx"
            refine k_decf (fun g1 => ?_) (fun g1 => ?_)
            · obtain ⟨hFe, hpp⟩ : F = fd * (p * (p - 1)) ^ p ∧ p * (p - 1) < 8192 := by
                rcases hcase with ⟨g, _⟩ | ⟨_, g⟩ | ⟨g, _⟩
                · omega
                · exact g
                · omega
              have hps := pow_small (b := p * (p - 1)) (i := p) (by omega) (by omega)
              have e5 : (p : Int) * ((p : Int) - 1) = ((p * (p - 1) : Nat) : Int) := by
                rw [Int.natCast_mul, show ((p - 1 : Nat) : Int) = (p : Int) - 1 by omega]
              repeat walk_at "sx"
              case hc => exact cmul (p := 10) (q := 10) (by omega) (by omega) (by omega)
              rw [e5]
              refine ⟨p * (p - 1), p, 0, rfl, by omega, by omega, ?_⟩
              repeat (first | with_reducible refine hrest (_, _) ?_ | walk_at "sx")
              case hc => exact cmul (p := 20000) (q := 13 * 4000 + 1) (by rw [Int.natAbs_natCast]; exact hfd2) (by rw [Int.natAbs_natCast]; exact hps) (by omega)
              rw [hFe, Int.natCast_mul]
            · obtain ⟨k, hk, hFe, hk6, hp6⟩ : ∃ k, ndf 700 power 0 1 = some k ∧ F = fd * p ^ k ∧ k ≤ 600 ∧ power ≤ 600 := by
                rcases hcase with ⟨g, _⟩ | ⟨g, _⟩ | ⟨_, g⟩
                · omega
                · omega
                · exact g
              have hps := pow_small (b := p) (i := k) (by omega) (by omega)
              repeat walk_at "sx"
              refine ⟨power, k, rfl, hpw0, hp6, hk, ?_⟩
              repeat walk_at "sx"
              refine ⟨p, k, 0, rfl, by omega, by omega, ?_⟩
              repeat (first | with_reducible refine hrest (_, _) ?_ | walk_at "sx")
              case hc => exact cmul (p := 20000) (q := 13 * 4000 + 1) (by rw [Int.natAbs_natCast]; exact hfd2) (by rw [Int.natAbs_natCast]; exact hps) (by omega)
              rw [hFe, Int.natCast_mul]
          · exact cdiv (p := 10) (by omega) (by omega) (by omega)
        · have hlp : ¬ l % p = 0 := by omega
          rw [din, if_neg hlp] at hf
          injection hf with hf
          injection hf with e2 e3
          subst e2 e3
          walk_at "st"
          exact ⟨l, fd, _, _, _, _, rfl, hl0, hl, hfd, hdf⟩
  · obtain ⟨l, fd, a, b, c, e, rfl, hl0, hl, hfd, hdf⟩ := hI
    rw [range_len, show ((m : Int) + 1 - 2).toNat = m - 1 by omega, Nat.sub_self, rgN, dfo] at hdf
    injection hdf with hdf
    subst hdf
    walk_at "st"
    exact q
def spw__law_draw : Sp2 := fun _ ds Q => ∃ (ns : List Int) (salt : Int), ds = [.scr ns, .d (.int salt)] ∧ ns.length ≤ 63 ∧ 0 ≤ salt ∧ salt < 20000 ∧ Q .deal
theorem monow__law_draw : MonoSp spw__law_draw := mono__law_draw
theorem lenw__law_draw : ∀ exf ds Q, spw__law_draw exf ds Q → ds.length = 2 := len__law_draw
theorem wide__law_draw : ∀ exf ds Q, sp__law_draw exf ds Q → spw__law_draw exf ds Q := fun _ _ _ h => h
def abmD : PyData → PyData
  | .int i => .int ((if i < 0 then -i else i) % (10 : Int) ^ (60 : Int).toNat)
  | y => y
theorem map_abmD (xs : List Int) : (xs.map PyData.int).map abmD = (xs.map fun i => (if i < 0 then -i else i) % (10 : Int) ^ (60 : Int).toNat).map PyData.int := by simp [abmD]
def tw__law_draw : TS2 := (s2Seq (s2Asg (t2Sc (t2Lc1 (i2Seq (t2Sc (t2Sl (t2Var 0) t2NoP (t2Part (t2C (.int 48)))))) 2 t2Yes (t2Op (q2I (fun _ j => 0 < j) fun i j => .int (i % j)) (t2CB c2Abs (t2Cons (t2CB c2Int (t2Cons (t2Var 2) t2Nil)) t2Nil)) (t2Op (q2I CPow fun i j => .int (i ^ j.toNat)) (t2C (.int 10)) (t2C (.int 60)))))) (g2Name 3))
  (s2Seq (s2Asg (t2Op q2Add (t2C (.int 7919)) (t2Op q2Mul (t2C (.int 104729)) (t2Var 1))) (g2Name 4))
  (s2Seq (s2For (i2Seq (t2Var 3)) (g2Name 2) (s2Asg (t2Op (q2I (fun _ j => 0 < j) fun i j => .int (i % j)) (t2CB c2Int (t2Cons (t2Op q2Add (t2Op q2Add (t2Op q2Mul (t2Var 4) (t2C (.int 48271))) (t2Op (q2I (fun _ j => 0 < j) fun i j => .int (i % j)) (t2Var 2) (t2C (.int 2147483549)))) (t2C (.int 11))) t2Nil)) (t2C (.int 2147483647))) (g2Name 4)))
  (s2RetDeal (t2Un q2Rev (t2Sc (t2Lc1 (i2Seq (t2Var 3)) 2 (t2B (t2Op (q2I0 fun i j => .bool (decide (j ≤ i))) (t2Var 2) (t2Op (q2I CPow fun i j => .int (i ^ j.toNat)) (t2C (.int 10)) (t2C (.int 18))))) (t2Var 2)))) (t2Var 4)))))
theorem purew__law_draw : Does ["script", "salt", "cell", "cells", "blend"] tw__law_draw spw__law_draw := by
  refine does_i fun exf ds Q h => ?_
  obtain ⟨ns, salt, rfl, hn, h0, h1, q⟩ := h
  walk_at "go"
  unfold tw__law_draw
  walk_at "st"
  have hcut : cut (ns.map PyData.int) none (some (48 : Int)) = (ns.take 48).map PyData.int := by
    unfold cut
    rw [HT.sIx_none, show (48 : Int) = ((48 : Nat) : Int) from rfl, HT.sIx_nat, List.map_take]
    simp only [Nat.sub_zero, List.drop_zero, List.length_map]
    rw [List.take_eq_take_iff]; simp
  rw [hcut]
  refine lc_m abmD (fun k x hx => ?_) bind1_mono ?_
  · obtain ⟨hi, rfl⟩ := int_get hx
    walk_at "st"
    case hc => exact (by decide +kernel : (0 : Int) < 10 ^ Int.toNat 60)
    case hc => exact ⟨by decide, by decide, by decide⟩
    exact lc_fin hx (by simp; omega) rfl rfl
  rw [map_abmD]
  generalize hcs : ((ns.take 48).map fun i => (if i < 0 then -i else i) % (10 : Int) ^ (60 : Int).toNat) = cs
  have hcl : cs.length ≤ 48 := by rw [← hcs]; simp; omega
  have hc0 : ∀ g ∈ cs, 0 ≤ g := fun g hg => by
    rw [← hcs] at hg
    obtain ⟨i, _, rfl⟩ := List.mem_map.mp hg
    exact Int.emod_nonneg _ (by decide)
  walk_at "st"
  case hc => exact cmul (p := 17) (q := 15) (by decide) (by omega) (by omega)
  refine for_ii (fun k st => ∃ a bl, st = ⟨[some (.scr ns), some (.d (.int salt)), a, some (.d (lI cs)), some (.d (.int bl))], []⟩ ∧ 0 ≤ bl ∧ bl < 2147483647) ⟨_, _, rfl, by omega, by omega⟩ (fun i x st' hx hI => ?_) (fun st' hI => ?_)
  · obtain ⟨a, bl, rfl, hb0, hb1⟩ := hI
    obtain ⟨hi, rfl⟩ := int_get hx
    walk_at "st"
    refine ⟨_, _, rfl, ?_, ?_⟩
    · exact Int.emod_nonneg _ (by decide)
    · exact Int.emod_lt_of_pos _ (by decide)
    case hc => exact (by decide : (0 : Int) < 2147483647)
    case hc => exact (by decide : (0 : Int) < 2147483549)
    case hc => exact cmul (p := 31) (q := 16) (by omega) (by decide) (by omega)
  · obtain ⟨a, bl, rfl, hb0, hb1⟩ := hI
    walk_at "st"
    refine lc_f geD id (fun k x hx => ?_) bind1_mono ?_
    · obtain ⟨hi, rfl⟩ := int_get hx
      walk_at "st"
      case hc => exact ⟨by decide, by decide, by decide⟩
      refine k_dec (fun h => ?_) (fun h => ?_)
      · walk_at "st"
        exact lc_y hx (by simp; omega) (by simpa [geD] using h) rfl rfl
      · exact lc_n hx (by simpa [geD] using h) rfl
    rw [filter_geD, List.map_id]
    walk_at "st"
    refine k_retDK (gs := (cs.filter fun i => decide ((10 : Int) ^ (18 : Int).toNat ≤ i)).reverse) (by rw [List.map_reverse]) hb0 hb1 (fun g hg => hc0 g ((List.mem_filter.mp (List.mem_reverse.mp hg)).1)) ?_ q
    rw [List.length_reverse]
    exact Nat.le_trans (List.length_filter_le _ _) (by omega)
def sp__law_bad_clock : Sp2 := fun _ ds Q => ds = [.deal] ∧ ∀ w, isClk w = false → Q (.d w)
theorem mono__law_bad_clock : MonoSp sp__law_bad_clock := fun _ _ _ _ h ⟨a, q⟩ => ⟨a, fun w hw => h _ (q w hw)⟩
theorem len__law_bad_clock : ∀ exf ds Q, sp__law_bad_clock exf ds Q → ds.length = 1 := fun _ _ _ ⟨e, _⟩ => by rw [e]; rfl
def t__law_bad_clock : TS2 := (s2Ret (t2Call sp__law_of (t2Cons (t2Var 0) (t2Cons (t2Sc (t2Lst (t2Cons (t2C .none) (t2Cons (t2C (.int 0)) (t2Cons (t2Un q1Neg (t2C (.int 3))) (t2Cons (t2Op q2Add (t2Op (q2I CPow fun i j => .int (i ^ j.toNat)) (t2C (.int 10)) (t2C (.int 40))) (t2C (.int 1))) (t2Cons (t2C (.bool true)) (t2Cons (t2C (.str (Str.ofString "4"))) (t2Cons (t2Tup (t2Cons (t2C (.int 4)) t2Nil)) (t2Cons (t2Sc (t2Lst (t2Cons (t2C (.int 8)) t2Nil))) (t2Cons (t2Op (q2I CPow fun i j => .int (i ^ j.toNat)) (t2C (.int 10)) (t2C (.int 60))) t2Nil))))))))))) t2Nil))))
theorem pure__law_bad_clock : Does ["deal"] t__law_bad_clock sp__law_bad_clock := by
  refine does_i fun exf ds Q h => ?_
  obtain ⟨rfl, q⟩ := h
  walk_at "go"
  unfold t__law_bad_clock
  walk_at "st"
  all_goals try (exact (⟨by decide, by decide, by decide⟩ : CPow 10 40))
  all_goals try (exact (⟨by decide, by decide, by decide⟩ : CPow 10 60))
  refine ⟨_, _, rfl, rfl, by simp, by simp, fun w hw => ?_⟩
  walk_at "st"
  refine q w ?_
  simp only [List.mem_cons, List.not_mem_nil, or_false] at hw
  rcases hw with rfl | rfl | rfl | rfl | rfl | rfl | rfl | rfl | rfl <;> first | rfl | decide +kernel
def roughL : List Nat := [101, 202, 103 * 97, 10 ^ 9 + 7, 101 * 2 ^ 60, 10201, 4 * 4999, 25 * 5003, 10 ^ 40 - 1]
def isRough (m : Nat) : Bool := match prt fineN m [] with
  | some (_, left) => decide (1 < left) && isClk (.int (m : Int)) && decide (m < 2 ^ 140)
  | none => false
theorem rough_all : roughL.all isRough = true := by decide +kernel
def wideL : List Nat := [605, 1024, 2 ^ 50 * 2 ^ 50, 10 ^ 40, 97 * 97, 602 * 25, 625, 729]
def isWide (m : Nat) : Bool := match prt fineN m [] with
  | some (_, left) => !decide (1 < left) && isClk (.int (m : Int)) && decide (m < 2 ^ 140) && decide (600 < m)
  | none => false
theorem wide_all : wideL.all isWide = true := by decide +kernel
def sp__law_rough : Sp2 := fun _ ds Q => ds = [.deal] ∧ ∀ m : Nat, isRough m = true → Q (.d (.int (m : Int)))
theorem mono__law_rough : MonoSp sp__law_rough := fun _ _ _ _ h ⟨a, q⟩ => ⟨a, fun w hw => h _ (q w hw)⟩
theorem len__law_rough : ∀ exf ds Q, sp__law_rough exf ds Q → ds.length = 1 := fun _ _ _ ⟨e, _⟩ => by rw [e]; rfl
def t__law_rough : TS2 := (s2Ret (t2Call sp__law_of (t2Cons (t2Var 0) (t2Cons (t2Sc (t2Lst (t2Cons (t2C (.int 101)) (t2Cons (t2C (.int 202)) (t2Cons (t2Op q2Mul (t2C (.int 103)) (t2C (.int 97))) (t2Cons (t2Op q2Add (t2Op (q2I CPow fun i j => .int (i ^ j.toNat)) (t2C (.int 10)) (t2C (.int 9))) (t2C (.int 7))) (t2Cons (t2Op q2Mul (t2C (.int 101)) (t2Op (q2I CPow fun i j => .int (i ^ j.toNat)) (t2C (.int 2)) (t2C (.int 60)))) (t2Cons (t2C (.int 10201)) (t2Cons (t2Op q2Mul (t2C (.int 4)) (t2C (.int 4999))) (t2Cons (t2Op q2Mul (t2C (.int 25)) (t2C (.int 5003))) (t2Cons (t2Op (q2I0 fun i j => .int (i - j)) (t2Op (q2I CPow fun i j => .int (i ^ j.toNat)) (t2C (.int 10)) (t2C (.int 40))) (t2C (.int 1))) t2Nil))))))))))) t2Nil))))
theorem pure__law_rough : Does ["deal"] t__law_rough sp__law_rough := by
  refine does_i fun exf ds Q h => ?_
  obtain ⟨rfl, q⟩ := h
  walk_at "go"
  unfold t__law_rough
  walk_at "st"
  all_goals try (exact (⟨by decide, by decide, by decide⟩ : CPow 10 40))
  all_goals try (exact (⟨by decide, by decide, by decide⟩ : CPow 10 9))
  all_goals try (exact (⟨by decide, by decide, by decide⟩ : CPow 2 60))
  all_goals try (exact cmul (p := 7) (q := 61) (by decide +kernel) (by decide +kernel) (by omega))
  all_goals try (exact cmul (p := 7) (q := 13) (by decide +kernel) (by decide +kernel) (by omega))
  refine ⟨_, _, rfl, rfl, by simp, by simp, fun w hw => ?_⟩
  walk_at "st"
  obtain ⟨n, rfl, hn⟩ : ∃ n : Nat, w = .int (n : Int) ∧ isRough n = true := by
    simp only [List.mem_cons, List.not_mem_nil, or_false] at hw
    rcases hw with rfl | rfl | rfl | rfl | rfl | rfl | rfl | rfl | rfl
    · exact ⟨101, rfl, by decide +kernel⟩
    · exact ⟨202, rfl, by decide +kernel⟩
    · exact ⟨103 * 97, congrArg PyData.int (by decide +kernel), by decide +kernel⟩
    · exact ⟨10 ^ 9 + 7, congrArg PyData.int (by decide +kernel), by decide +kernel⟩
    · exact ⟨101 * 2 ^ 60, congrArg PyData.int (by decide +kernel), by decide +kernel⟩
    · exact ⟨10201, rfl, by decide +kernel⟩
    · exact ⟨4 * 4999, congrArg PyData.int (by decide +kernel), by decide +kernel⟩
    · exact ⟨25 * 5003, congrArg PyData.int (by decide +kernel), by decide +kernel⟩
    · exact ⟨10 ^ 40 - 1, congrArg PyData.int (by decide +kernel), by decide +kernel⟩
  exact q n hn
end LW

set_option maxHeartbeats 4000000
set_option pp.maxSteps 900
/-! SY: all functions gone through, law of k38. -/
namespace LW
open LM
/-- told values until one comes again -/
def tld (m : Int) (es' : List Int) : List Nat → List Int → List Int
  | [], told => told
  | x :: xs, told => if es 0 es' (x : Int) % m ∈ told then told else tld m es' xs (told ++ [es 0 es' (x : Int) % m])
/-- digits by bounds -/
def dgs : List Nat → Nat → List Int
  | [], _ => []
  | b :: bs, n => ((n % b : Nat) : Int) :: dgs bs (n / b)
def bndN (m n : Nat) : List Nat := (List.range n).map fun k => m / sh m k
def totN (m n : Nat) : Nat := (bndN m n).foldl (· * ·) 1
def oneN (m n : Nat) (number : Nat) : Nat := if (tld (m : Int) (dgs (bndN m n) number) (rgN 0 m) []).length = m then 1 else 0
def sumN (m n : Nat) : Nat → Nat
  | 0 => 0
  | t + 1 => sumN m n t + oneN m n t
def gth (m : Nat) : Option Nat := match ndf 700 m 0 1 with
  | some n => if n ≤ 20 ∧ totN m n ≤ 5000 then some (sumN m n (totN m n)) else none
  | none => none
theorem gth_due : [1, 2, 3, 4, 6, 8].all (fun m => decide (gth m = due m)) = true := by decide +kernel
def sp__law_gone_through : Sp2 := fun _ ds Q => ∃ m g : Nat, ds = [.d (.int (m : Int))] ∧ 1 ≤ m ∧ m ≤ 8 ∧ gth m = some g ∧ Q (.d (.int (g : Int)))
theorem mono__law_gone_through : MonoSp sp__law_gone_through := fun _ _ _ _ h ⟨a, b, c, d, e, f, q⟩ => ⟨a, b, c, d, e, f, h _ q⟩
theorem len__law_gone_through : ∀ exf ds Q, sp__law_gone_through exf ds Q → ds.length = 1 := fun _ _ _ ⟨_, _, e, _⟩ => by rw [e]; rfl
theorem bndN_len (m n : Nat) : (bndN m n).length = n := by simp [bndN]
theorem bndN_in {m n : Nat} (hm : 0 < m) : ∀ b ∈ bndN m n, 1 ≤ b ∧ b ≤ m := fun b hb => by
  obtain ⟨k, _, rfl⟩ := List.mem_map.mp hb
  have h3 := sh_pos hm k
  exact ⟨Nat.div_pos (Nat.le_of_dvd hm (sh_dvd m k)) h3, Nat.div_le_self _ _⟩
theorem totN_snoc (m n : Nat) : totN m (n + 1) = totN m n * (m / sh m n) := by
  unfold totN bndN
  rw [List.range_succ, List.map_append, List.foldl_append]; rfl
def bI (m n : Nat) : List Int := (bndN m n).map fun (b : Nat) => (b : Int)
theorem bI_snoc (m n : Nat) : bI m (n + 1) = bI m n ++ [((m / sh m n : Nat) : Int)] := by
  unfold bI bndN
  rw [List.range_succ, List.map_append, List.map_append]; rfl
theorem bI_len (m n : Nat) : (bI m n).length = n := by simp [bI, bndN]
theorem bI_get {m n i : Nat} (h : i < (bI m n).length) : (bI m n)[i] = ((bndN m n)[i]'(by simpa [bI] using h) : Nat) := by simp [bI]
theorem bI_last (m n : Nat) (h : bI m (n + 1) ≠ []) : (bI m (n + 1)).getLast h = ((m / sh m n : Nat) : Int) := by
  simp [bI_snoc]
/-- digits so far -/
def dgl : List Nat → Nat → Nat
  | [], n => n
  | b :: bs, n => dgl bs (n / b)
theorem dgs_snoc (bs : List Nat) (b n : Nat) : dgs (bs ++ [b]) n = dgs bs n ++ [((dgl bs n % b : Nat) : Int)] := by
  induction bs generalizing n with
  | nil => rfl
  | cons c bs ih => simp only [List.cons_append, dgs, dgl, ih]
theorem dgl_snoc (bs : List Nat) (b n : Nat) : dgl (bs ++ [b]) n = dgl bs n / b := by
  induction bs generalizing n with
  | nil => rfl
  | cons c bs ih => simp only [List.cons_append, dgl, ih]
theorem take_next {α : Type} {l : List α} {i : Nat} (h : i < l.length) : l.take (i + 1) = l.take i ++ [l[i]] := (List.take_append_getElem h).symm
theorem dgs_len (bs : List Nat) (n : Nat) : (dgs bs n).length = bs.length := by
  induction bs generalizing n with
  | nil => rfl
  | cons b bs ih => simp [dgs, ih]
theorem dgl_le (bs : List Nat) (n : Nat) : dgl bs n ≤ n := by
  induction bs generalizing n with
  | nil => exact Nat.le_refl _
  | cons b bs ih => exact Nat.le_trans (ih _) (Nat.div_le_self _ _)
theorem dgs_in {m : Nat} {bs : List Nat} (hb : ∀ b ∈ bs, 1 ≤ b ∧ b ≤ m) : ∀ n, ∀ e ∈ dgs bs n, 0 ≤ e ∧ e < m := by
  induction bs with
  | nil => intro n e h; cases h
  | cons b bs ih =>
    intro n e h
    rw [dgs] at h
    rcases List.mem_cons.mp h with rfl | h
    · have h1 := hb b List.mem_cons_self
      have h2 := Nat.mod_lt n (show 0 < b by omega)
      omega
    · exact ih (fun c hc => hb c (List.mem_cons_of_mem _ hc)) _ e h
theorem k_seqJ {ex : EX} {st : S} {n : S → Prop} {r : DV → Prop} {b c : S → Prop} {t u rest : TS2} (P : S → Prop) (h : ∀ s, P s → rest ex ⟨n, r, b, c⟩ s) (h1 : (∀ s, P s → rest ex ⟨n, r, b, c⟩ s) → t ex ⟨u ex ⟨rest ex ⟨n, r, b, c⟩, r, b, c⟩, r, b, c⟩ st) : s2Seq t (s2Seq u rest) ex ⟨n, r, b, c⟩ st := h1 h
theorem fj_bd {x : Nat} (hx : x ≤ 20) : ∀ k, k ≤ 20 → (fj 0 k (x : Int)).natAbs < 2 ^ (5 * k + 1)
  | 0, _ => by rw [fj]; decide
  | k + 1, hk => by
    have h := fj_bd hx k (by omega)
    rw [fj_right, Int.natAbs_mul, show 5 * (k + 1) + 1 = 5 * k + 1 + 5 by omega, Nat.pow_add]
    exact Nat.mul_lt_mul'' h (by omega)
def t__law_gone_through : TS2 := (s2Seq (s2Par3 1 2 3 (t2Lst t2Nil) (t2C (.int 0)) (t2C (.int 1)))
  (s2Seq (s2For (i2Rng1 (t2Call sp__law_needed (t2Cons (t2Var 0) t2Nil))) (g2Name 4) (s2Seq (s2Drop (t2App (t2Var 1) (t2Op (q2I CDivW fun i j => .int (i / j)) (t2Var 0) (t2Call sp__law_shared (t2Cons (t2Var 0) (t2Cons (t2Var 4) t2Nil))))))
  (s2Asg (t2Op q2Mul (t2Var 3) (t2Op q2Ix (t2Var 1) (t2Un q1Neg (t2C (.int 1))))) (g2Name 3))))
  (s2Seq (s2For (i2Rng1 (t2Var 3)) (g2Name 5) (s2Seq (s2Par 6 7 (t2Var 5) (t2Lst t2Nil))
  (s2Seq (s2For (i2Seq (t2Var 1)) (g2Name 8) (s2Seq (s2Drop (t2App (t2Var 7) (t2Op (q2I (fun _ j => 0 < j) fun i j => .int (i % j)) (t2CB c2Int (t2Cons (t2Var 6) t2Nil)) (t2Var 8))))
  (s2Asg (t2Op (q2I CDivW fun i j => .int (i / j)) (t2Var 6) (t2Var 8)) (g2Name 6))))
  (s2Seq (s2Asg (t2Lst t2Nil) (g2Name 9))
  (s2Seq (s2For (i2Rng1 (t2Var 0)) (g2Name 10) (s2Seq (s2Asg (t2Tup (t2Cons (t2C (.int 0)) (t2Cons (t2C (.int 1)) t2Nil))) (g2Tup 2 (g2Cons (g2Name 11) (g2Cons (g2Name 12) g2Nil))))
  (s2Seq (s2For (i2Enum (t2Var 7)) (g2Tup 2 (g2Cons (g2Name 4) (g2Cons (g2Name 13) g2Nil))) (s2Par 11 12 (t2Op q2Add (t2Var 11) (t2Op q2Mul (t2Var 13) (t2Var 12))) (t2Op q2Mul (t2Var 12) (t2Op (q2I0 fun i j => .int (i - j)) (t2Var 10) (t2Var 4)))))
  (s2Seq (s2If (t2B (t2Op (q2In false) (t2Op (q2I (fun _ j => 0 < j) fun i j => .int (i % j)) (t2CB c2Int (t2Cons (t2Var 11) t2Nil)) (t2Var 0)) (t2Var 9))) s2Break s2Next)
  (s2Drop (t2App (t2Var 9) (t2Op (q2I (fun _ j => 0 < j) fun i j => .int (i % j)) (t2CB c2Int (t2Cons (t2Var 11) t2Nil)) (t2Var 0))))))))
  (s2Asg (t2Op q2Add (t2Var 2) (t2If (t2B (t2Op (q2Eq false) (t2CB c2Len (t2Cons (t2Var 9) t2Nil)) (t2Var 0))) (t2C (.int 1)) (t2C (.int 0)))) (g2Name 2)))))))
  (s2Ret (t2Var 2)))))
theorem pure__law_gone_through : Does ["m", "bounds", "many", "total", "k", "number", "left", "entries", "bound", "told", "x", "value", "steps", "entry"] t__law_gone_through sp__law_gone_through := by
  refine does_i fun exf ds Q h => ?_
  obtain ⟨m, g, rfl, hm, hm2, hg, q⟩ := h
  unfold gth at hg
  cases hn : ndf 700 m 0 1 with
  | none => rw [hn] at hg; cases hg
  | some n =>
  rw [hn] at hg
  simp only at hg
  split at hg
  rotate_left
  · cases hg
  rename_i hb
  injection hg with hg
  obtain ⟨hn20, ht5⟩ := hb
  walk_at "go"
  unfold t__law_gone_through
  walk_at "st"
  refine ⟨m, n, rfl, by omega, by omega, hn, ?_⟩
  walk_at "st"
  all_goals try omega
  have htot : ∀ i, i ≤ n → totN m i < 2 ^ (4 * i + 1) := fun i => by
    induction i with
    | zero => intro _; rw [show totN m 0 = 1 from rfl]; decide
    | succ i ih =>
      intro h
      have h1 := ih (by omega)
      rw [totN_snoc, show 4 * (i + 1) + 1 = 4 * i + 1 + 4 by omega, Nat.pow_add]
      refine Nat.mul_lt_mul'' h1 ?_
      have := Nat.div_le_self m (sh m i)
      omega
  refine for_ii (fun i st => ∃ a, st = ⟨[some (.d (.int (m : Int))), some (.o 0), some (.d (.int 0)), some (.d (.int (totN m i : Nat))), a, none, none, none, none, none, none, none, none, none], [⟨(bI m i).map PyData.int, true⟩]⟩) ⟨_, rfl⟩ (fun i z st' hx hI => ?_) (fun st' hI => ?_)
  · obtain ⟨a, rfl⟩ := hI
    obtain ⟨hi, rfl⟩ := range_get hx
    have hi2 : i < n := by omega
    have hsp := sh_pos (show 0 < m by omega) i
    have hsm := Nat.le_of_dvd (show 0 < m by omega) (sh_dvd m i)
    have ht := htot i (by omega)
    walk_at "st"
    rw [Int.zero_add]
    refine ⟨m, i, rfl, by omega, Nat.lt_of_lt_of_le (show m < 2 ^ 4 by omega) (Nat.pow_le_pow_right (by decide) (by decide)), by omega, ?_⟩
    walk_at "st"
    case hz => rw [List.length_map, bI_len]; exact szl (by omega)
    case hc => exact cdiv (p := 10) (by omega) (by rw [Int.natAbs_natCast]; omega) (by omega)
    have e1 : (bI m i).map PyData.int ++ [PyData.int ((m : Int) / (sh m i : Nat))] = (bI m (i + 1)).map PyData.int := by
      rw [bI_snoc, List.map_append, ← Int.natCast_ediv]; rfl
    rw [e1]
    have hne : bI m (i + 1) ≠ [] := by intro e; have := bI_len m (i + 1); rw [e] at this; simp at this
    refine k_ixI (.inl rfl) (atI_end hne) ?_
    rw [bI_last]
    have hdl := Nat.div_le_self m (sh m i)
    walk_at "st"
    case hc => exact cmul (p := 4 * i + 1) (q := 10) (by rw [Int.natAbs_natCast]; exact ht) (by rw [Int.natAbs_natCast]; omega) (by omega)
    rw [← Int.natCast_mul, ← totN_snoc]
    exact ⟨_, rfl⟩
  · obtain ⟨a, rfl⟩ := hI
    rw [range_len, Int.toNat_natCast]
    have hbl := bI_len m n
    walk_at "st"
    case hz => omega
    refine for_ii (fun i st => ∃ (a4 a5 a6 a7 a8 a9 a10 a11 a12 a13 : Option DV) (mm : List Own) (bl : Bool), st = ⟨[some (.d (.int (m : Int))), some (.o 0), some (.d (.int (sumN m n i : Nat))), some (.d (.int (totN m n : Nat))), a4, a5, a6, a7, a8, a9, a10, a11, a12, a13], ⟨(bI m n).map PyData.int, bl⟩ :: mm⟩) ⟨_, _, _, _, _, _, _, _, _, _, [], true, rfl⟩ (fun i z st' hx hI => ?_) (fun st' hI => ?_)
    · obtain ⟨a4, a5, a6, a7, a8, a9, a10, a11, a12, a13, mm, bl, rfl⟩ := hI
      obtain ⟨hi, rfl⟩ := range_get hx
      rw [Int.zero_add]
      walk_at "st"
      refine for_ii (fun j st => ∃ (a8 : Option DV) (b1 : Bool), st = ⟨[some (.d (.int (m : Int))), some (.o 0), some (.d (.int (sumN m n i : Nat))), some (.d (.int (totN m n : Nat))), a4, some (.d (.int (i : Nat))), some (.d (.int ((dgl ((bndN m n).take j) i : Nat) : Int))), some (.o (mm.length + 1)), a8, a9, a10, a11, a12, a13], ⟨(bI m n).map PyData.int, b1⟩ :: (mm ++ [⟨(dgs ((bndN m n).take j) i).map PyData.int, true⟩])⟩) ⟨_, _, rfl⟩ (fun j z st' hx hI => ?_) (fun st' hI => ?_)
      · obtain ⟨a8, b1, rfl⟩ := hI
        obtain ⟨hj0, rfl⟩ := int_get (hx : ((bI m n).map PyData.int)[j]? = some z)
        have hj : j < (bndN m n).length := by simpa [bI] using hj0
        obtain ⟨hb1, hb2⟩ := bndN_in (show 0 < m by omega) _ (List.getElem_mem hj)
        have hjn : j < n := by rw [bndN_len] at hj; exact hj
        have hdle := dgl_le ((bndN m n).take j) i
        rw [bI_get]
        walk_at "st"
        case hz => rw [List.length_map, dgs_len, List.length_take]; exact szl (by omega)
        case hc => exact cdiv (p := 15) (by omega) (by rw [Int.natAbs_natCast]; omega) (by omega)
        case hc => omega
        rw [take_next hj, dgs_snoc, dgl_snoc]
        refine ⟨some (.d (.int (((bndN m n)[j] : Nat) : Int))), b1, ?_⟩
        rw [List.map_append, ← Int.natCast_emod, ← Int.natCast_ediv]
        rfl
      · obtain ⟨a8, b1, rfl⟩ := hI
        rw [show ({ xs := List.map PyData.int (bI m n), live := bl } : Own).xs.length = (bndN m n).length by simp [bI], List.take_length]
        generalize hE : dgs (bndN m n) i = E
        have hEi : ∀ e ∈ E, 0 ≤ e ∧ e < m := by rw [← hE]; exact dgs_in (bndN_in (by omega)) i
        have hEl : E.length = n := by rw [← hE, dgs_len, bndN_len]
        refine k_seqJ (fun s => ∃ (v1 v2 v3 v4 v5 v6 : Option DV) (v7 : List Own) (v8 : Bool) (v9 : Option DV), s = ⟨[some (.d (.int (m : Int))), some (.o 0), some (.d (.int (sumN m n i : Nat))), some (.d (.int (totN m n : Nat))), v1, some (.d (.int (i : Nat))), v2, some (.o (mm.length + 1)), v3, some (.o (v7.length + 1)), v4, v5, v6, v9], ⟨(bI m n).map PyData.int, v8⟩ :: (v7 ++ [⟨(tld (m : Int) E (rgN 0 m) []).map PyData.int, true⟩])⟩) ?_ (fun hrest => ?_)
        · rintro s ⟨v1, v2, v3, v4, v5, v6, v7, v8, v9, rfl⟩
          walk_at "st"
          have hone : sumN m n (i + 1) = sumN m n i + if (tld (m : Int) E (rgN 0 m) []).length = m then 1 else 0 := by rw [sumN, oneN, hE]
          rw [hone, List.length_map]
          split
          · rename_i h
            rw [if_pos (by rw [Bool.false_xor, decide_eq_true_iff] at h; exact Int.ofNat.inj h)]
            walk_at "st"
            exact ⟨_, _, _, _, _, _, _, _, _, _, _, _, rfl⟩
          · rename_i h
            rw [if_neg (by rw [Bool.false_xor, decide_eq_true_iff] at h; exact fun e => h (congrArg Int.ofNat e))]
            walk_at "st"
            rw [Int.add_zero]
            exact ⟨_, _, _, _, _, _, _, _, _, _, _, _, rfl⟩
        · repeat (first | with_reducible refine hrest _ ?_ | walk_at "sx")
          case hz => omega
          refine for_ii (fun x st => ∃ (v1 v3 v4 v5 v6 v9 : Option DV) (v7 : List Own) (v8 be : Bool) (T : List Int), st = ⟨[some (.d (.int (m : Int))), some (.o 0), some (.d (.int (sumN m n i : Nat))), some (.d (.int (totN m n : Nat))), v1, some (.d (.int (i : Nat))), v3, some (.o (mm.length + 1)), a8, some (.o (v7.length + 1)), v4, v5, v6, v9], ⟨(bI m n).map PyData.int, v8⟩ :: (v7 ++ [⟨T.map PyData.int, true⟩])⟩ ∧ v7[mm.length]? = some ⟨E.map PyData.int, be⟩ ∧ T.length = x ∧ tld (m : Int) E (rgN x (m - x)) T = tld (m : Int) E (rgN 0 m) []) ?_ (fun x z st' hx hI => ?_) (fun st' hI => ?_)
          · refine ⟨_, _, _, _, _, _, mm ++ [⟨E.map PyData.int, true⟩], _, true, [], rfl, by simp, rfl, by rw [Nat.sub_zero]⟩
          · obtain ⟨v1, v3, v4, v5, v6, v9, v7, v8, be, T, rfl, hv7, hTl, hT⟩ := hI
            obtain ⟨hxm, rfl⟩ := range_get hx
            rw [Int.zero_add]
            have hvl : mm.length < v7.length := by
              rcases Nat.lt_or_ge mm.length v7.length with h | h
              · exact h
              · rw [List.getElem?_eq_none h] at hv7; cases hv7
            have hxm2 : x < m := by omega
            have hTs : tld (m : Int) E (rgN x (m - x)) T = if es 0 E (x : Int) % m ∈ T then T else tld (m : Int) E (rgN (x + 1) (m - (x + 1))) (T ++ [es 0 E (x : Int) % m]) := by
              rw [show m - x = (m - (x + 1)) + 1 by omega]; rfl
            walk_at "st"
            refine k_asDo (ow := ⟨E.map PyData.int, be⟩) (m' := ⟨(bI m n).map PyData.int, v8⟩ :: (v7.set mm.length ⟨E.map PyData.int, false⟩ ++ [⟨T.map PyData.int, true⟩])) (by rw [List.getElem?_cons_succ, List.getElem?_append_left hvl]; exact hv7) (by rw [List.set_cons_succ, List.set_append_left _ _ hvl]) ?_
            rw [← List.length_set (as := v7) (i := mm.length) (a := (⟨E.map PyData.int, false⟩ : Own))]
            have hv8 : (v7.set mm.length ⟨E.map PyData.int, false⟩)[mm.length]? = some ⟨E.map PyData.int, false⟩ := by simp [hvl]
            generalize v7.set mm.length ⟨E.map PyData.int, false⟩ = v10 at hv8 ⊢
            walk_at "st"
            refine for_ii (fun k st => ∃ (v1 v9 : Option DV), st = ⟨[some (.d (.int (m : Int))), some (.o 0), some (.d (.int (sumN m n i : Nat))), some (.d (.int (totN m n : Nat))), v1, some (.d (.int (i : Nat))), v3, some (.o (mm.length + 1)), a8, some (.o (v10.length + 1)), some (.d (.int (x : Int))), some (.d (.int (es 0 (E.take k) (x : Int)))), some (.d (.int (fj 0 k (x : Int)))), v9], ⟨(bI m n).map PyData.int, v8⟩ :: (v10 ++ [⟨T.map PyData.int, true⟩])⟩) ⟨_, _, rfl⟩ (fun k z st' hk hI => ?_) (fun st' hI => ?_)
            · obtain ⟨v1, v9, rfl⟩ := hI
              obtain ⟨hkl, rfl⟩ := enum_int hk
              have hf := fj_bd (x := x) (by omega) k (by omega)
              have hei := hEi _ (List.getElem_mem hkl)
              walk_at "st"
              case hc => exact cmul (p := 5 * k + 1) (q := 5) hf (by omega) (by omega)
              case hc => exact cmul (p := 5) (q := 5 * k + 1) (by omega) hf (by omega)
              rw [← es_take hkl, show (x : Int) - (k : Int) = (x : Int) - (0 + (k : Int)) by omega, ← fj_right]
              exact ⟨_, _, rfl⟩
            · obtain ⟨v1, v9, rfl⟩ := hI
              rw [show (enumD ({ xs := List.map PyData.int E, live := be } : Own).xs).length = E.length by simp [enumD], List.take_length]
              walk_at "st"
              case hc => omega
              refine k_memI rfl rd_last1 ?_
              walk_at "st"
              split
              · rename_i h
                rw [Bool.false_xor, decide_eq_true_iff] at h
                rw [hTs, if_pos h] at hT
                rw [← hT] at hrest
                repeat (first | with_reducible refine hrest _ ?_ | walk_at "sx")
                exact ⟨_, _, _, _, _, _, _, _, _, rfl⟩
              · rename_i h
                rw [Bool.false_xor, decide_eq_true_iff] at h
                rw [hTs, if_neg h] at hT
                walk_at "st"
                case hc => omega
                case hz => rw [List.length_map]; exact szl (by omega)
                rw [show T.map PyData.int ++ [PyData.int (es 0 E (x : Int) % m)] = (T ++ [es 0 E (x : Int) % m]).map PyData.int by simp]
                exact ⟨_, _, _, _, _, _, v10, _, false, T ++ [es 0 E (x : Int) % m], rfl, hv8, by simp [hTl], hT⟩
          · obtain ⟨v1, v3, v4, v5, v6, v9, v7, v8, be, T, rfl, hv7, hTl, hT⟩ := hI
            rw [range_len, Int.toNat_natCast, Nat.sub_self, rgN, tld] at hT
            rw [← hT] at hrest
            exact hrest _ ⟨_, _, _, _, _, _, _, _, _, rfl⟩
    · obtain ⟨a4, a5, a6, a7, a8, a9, a10, a11, a12, a13, mm, bl, rfl⟩ := hI
      rw [range_len, Int.toNat_natCast, hg]
      walk_at "st"
      exact q
end LW

set_option maxHeartbeats 4000000
set_option pp.maxSteps 900
/-! SZ: law of k38. -/
namespace LW
open LM
theorem k_asgP {ex : EX} {st : S} {D : Ends2} {te : TE2} {tg : TG2} {rest : TS2} (P : S → Prop) (h : ∀ s, P s → rest ex D s) (h1 : (∀ s, P s → rest ex D s) → s2Asg te tg ex ⟨rest ex D, D.rt, D.bk, D.ct⟩ st) : s2Seq (s2Asg te tg) rest ex D st := h1 h
theorem rgN_mem {a n x : Nat} (h1 : a ≤ x) (h2 : x < a + n) : x ∈ rgN a n := by
  induction n generalizing a with
  | zero => omega
  | succ n ih =>
    rw [rgN]
    rcases Nat.lt_or_ge a x with h | h
    · exact List.mem_cons_of_mem _ (ih h (by omega))
    · rw [show x = a by omega]; exact List.mem_cons_self
theorem chk_all {m : Nat} (h1 : 1 ≤ m) (h2 : m ≤ 600) : chk m = true := by
  rcases (by omega : m < 151 ∨ (151 ≤ m ∧ m < 301) ∨ (301 ≤ m ∧ m < 451) ∨ 451 ≤ m) with h | h | h | h
  · exact List.all_eq_true.mp chk_a m (rgN_mem h1 (by omega))
  · exact List.all_eq_true.mp chk_b m (rgN_mem h.1 (by omega))
  · exact List.all_eq_true.mp chk_c m (rgN_mem h.1 (by omega))
  · exact List.all_eq_true.mp chk_d m (rgN_mem h (by omega))
theorem chk_of {m : Nat} (h1 : 1 ≤ m) (h2 : m ≤ 600) : ∃ parts left, prt fineN m [] = some (parts, left) ∧ rgh m = decide (1 < left) ∧ (¬ 1 < left → ∃ c, cnt parts 1 = some c ∧ due m = some c) := by
  have h := chk_all h1 h2
  unfold chk at h
  cases e : prt fineN m [] with
  | none => rw [e] at h; cases h
  | some r =>
    obtain ⟨parts, left⟩ := r
    rw [e] at h
    simp only [Bool.and_eq_true, decide_eq_true_iff, Bool.or_eq_true] at h
    refine ⟨parts, left, rfl, h.1, fun hl => ?_⟩
    rcases h.2 with g | g
    · exact absurd g hl
    · cases e1 : cnt parts 1 with
      | none => rw [e1] at g; cases g
      | some c =>
        cases e2 : due m with
        | none => rw [e1, e2] at g; cases g
        | some d =>
          rw [e1, e2] at g
          simp only [decide_eq_true_iff] at g
          exact ⟨c, rfl, congrArg some g.1.symm⟩
theorem gth_of {m : Nat} (h : m = 1 ∨ m = 2 ∨ m = 3 ∨ m = 4 ∨ m = 6 ∨ m = 8) : gth m = due m := by
  have := List.all_eq_true.mp gth_due m (by simp only [List.mem_cons, List.not_mem_nil, or_false]; exact h)
  exact of_decide_eq_true this
theorem few_fine : (rgN 1 8).all (fun m => match prt fineN m [] with | some (_, left) => !decide (1 < left) | none => false) = true := by decide +kernel
theorem few_left {m left : Nat} {parts : List (Nat × Nat)} (h1 : 1 ≤ m) (h2 : m ≤ 8) (h : prt fineN m [] = some (parts, left)) : ¬ 1 < left := by
  have := List.all_eq_true.mp few_fine m (rgN_mem h1 (by omega))
  rw [h] at this
  simpa using this
def qD (p : Int) : PyData → Bool
  | .int q => decide (q < p) && decide (p % q = 0)
  | _ => false
def rpD (n : Int) : PyData → Bool
  | .int p => decide (n % p = 0) && ((rangeD 2 23).all fun q => !qD p q)
  | _ => false
theorem emp_filter {l : List PyData} {p : PyData → Bool} : (l.filter p).isEmpty = l.all fun x => !p x := by
  induction l with
  | nil => rfl
  | cons x l ih => rw [List.filter_cons, List.all_cons, ← ih]; cases p x <;> simp
theorem rgN_get (a n : Nat) : rgN a n = (List.range n).map fun i => a + i := by
  induction n generalizing a with
  | zero => rfl
  | succ n ih =>
    rw [rgN, ih, List.range_succ_eq_map, List.map_cons, List.map_map, Nat.add_zero]
    congr 1
    apply List.map_congr_left
    intro i _
    simp only [Function.comp]; omega
theorem rangeD_rgN (a n : Nat) : rangeD (a : Int) n = (rgN a n).map fun (p : Nat) => PyData.int (p : Int) := by
  rw [rgN_get, rangeD, List.map_map]
  apply List.map_congr_left
  intro i _
  simp only [Function.comp, Int.natCast_add]
theorem rg_any (n : Nat) : ((rangeD 101 ((n : Int) + 1 - 101).toNat).filter (rpD (n : Int))).isEmpty = !rgh n := by
  rw [emp_filter, show (101 : Int) = ((101 : Nat) : Int) from rfl, rangeD_rgN, show ((n : Int) + 1 - ((101 : Nat) : Int)).toNat = n + 1 - 101 by omega, rgh, List.all_map, List.not_any_eq_all_not]
  congr 1
  funext p
  simp only [Function.comp, rpD]
  congr 1
  rw [show (2 : Int) = ((2 : Nat) : Int) from rfl, rangeD_rgN, List.all_map]
  congr 1
  · rw [decide_eq_decide]; omega
  · congr 1
    funext q
    simp only [Function.comp, qD]
    congr 2
    · rw [decide_eq_decide]; omega
    · rw [decide_eq_decide]; omega
def t_law : TS2 := (s2Seq (s2Asg (t2Call spw__law_draw (t2Cons (t2Var 0) (t2Cons (t2C (.int 38)) t2Nil))) (g2Name 1))
  (s2Seq (s2Asg (t2Call sp__law_of (t2Cons (t2Var 1) (t2Cons (t2Sc (t2Lst (t2Cons (t2C (.int 1)) (t2Cons (t2C (.int 2)) (t2Cons (t2C (.int 3)) (t2Cons (t2C (.int 4)) (t2Cons (t2C (.int 4)) (t2Cons (t2C (.int 5)) (t2Cons (t2C (.int 6)) (t2Cons (t2C (.int 7)) (t2Cons (t2C (.int 8)) t2Nil))))))))))) t2Nil))) (g2Name 6))
  (s2Seq (s2Asg (t2If (t2Or (t2B (t2Op (q2I0 fun i j => .bool (decide (i < j))) (t2Var 6) (t2C (.int 5)))) (t2Or (t2B (t2Op (q2Eq false) (t2Var 6) (t2C (.int 6)))) (t2And (t2B (t2Op (q2Eq false) (t2Var 6) (t2C (.int 8)))) (t2B (t2Op (q2Eq false) (t2Call sp__law_any (t2Cons (t2Var 1) (t2Cons (t2C (.int 4)) t2Nil))) (t2C (.int 0))))))) (t2Call sp__law_gone_through (t2Cons (t2Var 6) t2Nil)) (t2Call sp__law_due (t2Cons (t2Var 6) t2Nil))) (g2Name 2))
  (s2Seq (s2If (t2Or (t2Not (t2T (t2Call sp__law_same (t2Cons (t2Heard ["InvalidFormula", "InvalidClock", "InvalidQuestion", "Refused"] [("InvalidClock", Str.ofString "clock"), ("InvalidFormula", Str.ofString "formula"), ("InvalidQuestion", Str.ofString "question"), ("Refused", Str.ofString "refused")] (Str.ofString "told") (t2CallK spw_count_one_for_one [0] 0 1 t2Nil (t2Cons (t2Var 6) t2Nil))) (t2Cons (t2Tup (t2Cons (t2C (.str (Str.ofString "told"))) (t2Cons (t2Var 2) t2Nil))) t2Nil))))) (t2B (t2Op (q2Eq true) (t2Var 2) (t2Call sp__law_due (t2Cons (t2Var 6) t2Nil))))) (s2Ret (t2C (.bool false))) s2Next)
  (s2Seq (s2For (i2Rng1 (t2C (.int 4))) (g2Name 3) (s2Seq (s2Asg (t2Call sp__law_of (t2Cons (t2Var 1) (t2Cons (t2Sc (t2Lst (t2Cons (t2Call sp__law_small_clock (t2Cons (t2Var 1) (t2Cons (t2C (.int 600)) t2Nil))) (t2Cons (t2Call sp__law_of (t2Cons (t2Var 1) (t2Cons (t2Sc (t2Lst (t2Cons (t2C (.int 4)) (t2Cons (t2C (.int 8)) (t2Cons (t2C (.int 9)) (t2Cons (t2C (.int 16)) (t2Cons (t2C (.int 25)) (t2Cons (t2C (.int 27)) (t2Cons (t2C (.int 32)) (t2Cons (t2C (.int 49)) (t2Cons (t2C (.int 64)) (t2Cons (t2C (.int 81)) (t2Cons (t2C (.int 128)) (t2Cons (t2C (.int 243)) (t2Cons (t2C (.int 256)) (t2Cons (t2C (.int 343)) (t2Cons (t2C (.int 512)) (t2Cons (t2C (.int 529)) (t2Cons (t2C (.int 582)) (t2Cons (t2C (.int 97)) t2Nil)))))))))))))))))))) t2Nil))) t2Nil)))) t2Nil))) (g2Name 6))
  (s2Seq (s2Asg (t2Op (q2Eq true) (t2Sc (t2Lc1 (i2Rng2 (t2C (.int 101)) (t2Op q2Add (t2Var 6) (t2C (.int 1)))) 9 (t2And (t2B (t2Op (q2Eq false) (t2Op (q2I (fun _ j => 0 < j) fun i j => .int (i % j)) (t2CB c2Int (t2Cons (t2Var 6) t2Nil)) (t2Var 9)) (t2C (.int 0)))) (t2B (t2Op (q2Eq false) (t2Sc (t2Lc1 (i2Rng2 (t2C (.int 2)) (t2C (.int 25))) 10 (t2And (t2B (t2Op (q2I0 fun i j => .bool (decide (i < j))) (t2Var 10) (t2Var 9))) (t2B (t2Op (q2Eq false) (t2Op (q2I (fun _ j => 0 < j) fun i j => .int (i % j)) (t2CB c2Int (t2Cons (t2Var 9) t2Nil)) (t2Var 10)) (t2C (.int 0))))) (t2Var 10))) (t2Sc (t2Lst t2Nil))))) (t2Var 9))) (t2Sc (t2Lst t2Nil))) (g2Name 7))
  (s2Seq (s2Asg (t2Heard ["InvalidFormula", "InvalidClock", "InvalidQuestion", "Refused"] [("InvalidClock", Str.ofString "clock"), ("InvalidFormula", Str.ofString "formula"), ("InvalidQuestion", Str.ofString "question"), ("Refused", Str.ofString "refused")] (Str.ofString "told") (t2Call spw_count_one_for_one (t2Cons (t2Var 6) t2Nil))) (g2Name 4))
  (s2If (t2Not (t2T (t2Call sp__law_same (t2Cons (t2Var 4) (t2Cons (t2If (t2T (t2Var 7)) (t2Tup (t2Cons (t2C (.str (Str.ofString "refused"))) (t2Cons (t2C (.int 97)) t2Nil))) (t2Tup (t2Cons (t2C (.str (Str.ofString "told"))) (t2Cons (t2Call sp__law_due (t2Cons (t2Var 6) t2Nil)) t2Nil)))) t2Nil))))) (s2Ret (t2C (.bool false))) s2Next)))))
  (s2Seq (s2Asg (t2Call sp__law_of (t2Cons (t2Var 1) (t2Cons (t2Sc (t2Lst (t2Cons (t2C (.int 605)) (t2Cons (t2C (.int 1024)) (t2Cons (t2Op q2Mul (t2Op (q2I CPow fun i j => .int (i ^ j.toNat)) (t2C (.int 2)) (t2C (.int 50))) (t2Op (q2I CPow fun i j => .int (i ^ j.toNat)) (t2C (.int 2)) (t2C (.int 50)))) (t2Cons (t2Op (q2I CPow fun i j => .int (i ^ j.toNat)) (t2C (.int 10)) (t2C (.int 40))) (t2Cons (t2Op q2Mul (t2C (.int 97)) (t2C (.int 97))) (t2Cons (t2Op q2Mul (t2C (.int 602)) (t2C (.int 25))) (t2Cons (t2C (.int 625)) (t2Cons (t2C (.int 729)) t2Nil)))))))))) t2Nil))) (g2Name 8))
  (s2Seq (s2Asg (t2Tup (t2Cons (t2Call sp__law_bad_clock (t2Cons (t2Var 1) t2Nil)) (t2Cons (t2Call sp__law_rough (t2Cons (t2Var 1) t2Nil)) t2Nil))) (g2Tup 2 (g2Cons (g2Name 5) (g2Cons (g2Name 7) g2Nil))))
  (s2Seq (s2Asg (t2Sc (t2Lst (t2Cons (t2Heard ["InvalidFormula", "InvalidClock", "InvalidQuestion", "Refused"] [("InvalidClock", Str.ofString "clock"), ("InvalidFormula", Str.ofString "formula"), ("InvalidQuestion", Str.ofString "question"), ("Refused", Str.ofString "refused")] (Str.ofString "told") (t2Call spw_count_one_for_one (t2Cons (t2Var 8) t2Nil))) (t2Cons (t2Heard ["InvalidFormula", "InvalidClock", "InvalidQuestion", "Refused"] [("InvalidClock", Str.ofString "clock"), ("InvalidFormula", Str.ofString "formula"), ("InvalidQuestion", Str.ofString "question"), ("Refused", Str.ofString "refused")] (Str.ofString "told") (t2Call spw_count_one_for_one (t2Cons (t2Var 5) t2Nil))) (t2Cons (t2Heard ["InvalidFormula", "InvalidClock", "InvalidQuestion", "Refused"] [("InvalidClock", Str.ofString "clock"), ("InvalidFormula", Str.ofString "formula"), ("InvalidQuestion", Str.ofString "question"), ("Refused", Str.ofString "refused")] (Str.ofString "told") (t2Call spw_count_one_for_one (t2Cons (t2Var 7) t2Nil))) t2Nil))))) (g2Name 4))
  (s2Ret (t2Call sp__law_same (t2Cons (t2Var 4) (t2Cons (t2Sc (t2Lst (t2Cons (t2Tup (t2Cons (t2C (.str (Str.ofString "refused"))) (t2Cons (t2C (.int 600)) t2Nil))) (t2Cons (t2Tup (t2Cons (t2C (.str (Str.ofString "clock"))) (t2Cons (t2C (.int 0)) t2Nil))) (t2Cons (t2Tup (t2Cons (t2C (.str (Str.ofString "refused"))) (t2Cons (t2C (.int 97)) t2Nil))) t2Nil))))) t2Nil))))))))))))
theorem pure_law : Does ["script", "deal", "due", "turn", "told", "bad", "m", "rough", "wide", "prime", "part"] t_law spLaw := by
  refine does_i fun exf ds Q h => ?_
  obtain ⟨ns, rfl, hn, q⟩ := h
  walk_at "go"
  unfold t_law
  walk_at "st"
  refine ⟨ns, 38, rfl, hn, by omega, by omega, ?_⟩
  walk_at "st"
  refine of_ints (xs := [1, 2, 3, 4, 4, 5, 6, 7, 8]) (by simp) fun mo hmo => ?_
  obtain ⟨m, rfl, hm1, hm8, hmo⟩ : ∃ m : Nat, mo = (m : Int) ∧ 1 ≤ m ∧ m ≤ 8 ∧ (m = 1 ∨ m = 2 ∨ m = 3 ∨ m = 4 ∨ m = 5 ∨ m = 6 ∨ m = 7 ∨ m = 8) := by
    simp only [List.mem_cons, List.not_mem_nil, or_false] at hmo
    exact ⟨mo.toNat, by omega, by omega, by omega, by omega⟩
  obtain ⟨parts, left, hprt, _, hc⟩ := chk_of hm1 (show m ≤ 600 by omega)
  have hleft := few_left hm1 hm8 hprt
  obtain ⟨c, hcnt, hdue⟩ := hc hleft
  repeat (first | with_reducible refine k_asgP (fun s => s = ⟨[some (.scr ns), some .deal, some (.d (.int (c : Int))), none, none, none, some (.d (.int (m : Int))), none, none, none, none], []⟩) ?_ ?_ | walk_at "sx")
  rotate_left
  · intro hrest
    have hgo : (m = 1 ∨ m = 2 ∨ m = 3 ∨ m = 4 ∨ m = 6 ∨ m = 8) → gth m = some c := fun h => by rw [gth_of h]; exact hdue
    repeat (first | with_reducible refine hrest _ ?_ | walk_at "sx")
    refine k_dec (fun h => ?_) (fun h => ?_)
    · repeat (first | with_reducible refine hrest _ ?_ | walk_at "sx")
      refine ⟨m, c, rfl, hm1, hm8, hgo (by omega), ?_⟩
      repeat (first | with_reducible refine hrest _ ?_ | walk_at "sx")
      rfl
    · repeat walk_at "sx"
      refine k_decf (fun h6 => ?_) (fun h6 => ?_)
      · repeat (first | with_reducible refine hrest _ ?_ | walk_at "sx")
        refine ⟨m, c, rfl, hm1, hm8, hgo (by omega), ?_⟩
        repeat (first | with_reducible refine hrest _ ?_ | walk_at "sx")
        rfl
      · repeat walk_at "sx"
        refine k_decf (fun h8 => ?_) (fun h8 => ?_)
        · repeat walk_at "sx"
          refine ⟨4, rfl, by omega, by omega, fun v hv hv2 => ?_⟩
          repeat walk_at "sx"
          refine k_decf (fun h9 => ?_) (fun h9 => ?_)
          · repeat (first | with_reducible refine hrest _ ?_ | walk_at "sx")
            refine ⟨m, c, rfl, hm1, hm8, hgo (by omega), ?_⟩
            repeat (first | with_reducible refine hrest _ ?_ | walk_at "sx")
            rfl
          · repeat (first | with_reducible refine hrest _ ?_ | walk_at "sx")
            refine ⟨m, c, rfl, hm1, by omega, hdue, ?_⟩
            repeat (first | with_reducible refine hrest _ ?_ | walk_at "sx")
            rfl
        · repeat (first | with_reducible refine hrest _ ?_ | walk_at "sx")
          refine ⟨m, c, rfl, hm1, by omega, hdue, ?_⟩
          repeat (first | with_reducible refine hrest _ ?_ | walk_at "sx")
          rfl
  rintro _ rfl
  walk_at "st"
  refine ⟨⟨rfl, rfl⟩, ?_⟩
  walk_at "st"
  refine ⟨_, rfl, ?_⟩
  rw [if_neg (by simp [clk_int (show (1 : Int) ≤ (m : Int) by omega) (by omega)])]
  refine ⟨m, left, parts, rfl, by omega, hprt, ?_⟩
  rw [if_neg hleft, if_neg (by omega)]
  refine ⟨c, hcnt, ?_⟩
  walk_at "st"
  refine sameA rfl (okTold rfl) ?_
  walk_at "st"
  refine ⟨m, c, rfl, hm1, by omega, hdue, ?_⟩
  walk_at "st"
  rw [if_neg (by simp)]
  walk_at "st"
  case hz => omega
  refine for_ii (fun i st => ∃ (mo tu to ro : Option DV), st = ⟨[some (.scr ns), some .deal, some (.d (.int (c : Int))), tu, to, none, mo, ro, none, none, none], []⟩) ⟨_, _, _, _, rfl⟩ (fun i x st' hx hI => ?_) (fun st' hI => ?_)
  · obtain ⟨mo, tu, to, ro, rfl⟩ := hI
    walk_at "st"
    refine ⟨600, rfl, by omega, by omega, fun a a0 a1 => ?_⟩
    walk_at "st"
    refine of_ints (xs := [4, 8, 9, 16, 25, 27, 32, 49, 64, 81, 128, 243, 256, 343, 512, 529, 582, 97]) (by simp) fun b hb => ?_
    have hb2 : 1 ≤ b ∧ b ≤ 600 := by
      simp only [List.mem_cons, List.not_mem_nil, or_false] at hb
      omega
    clear hb
    walk_at "st"
    refine of_ints (xs := [a, b]) (by simp) fun e he => ?_
    obtain ⟨n, rfl, hn1, hn6⟩ : ∃ n : Nat, e = (n : Int) ∧ 1 ≤ n ∧ n ≤ 600 := by
      simp only [List.mem_cons, List.not_mem_nil, or_false] at he
      exact ⟨e.toNat, by omega, by omega, by omega⟩
    clear he
    obtain ⟨prts, lft, hpr, hrg, hcn⟩ := chk_of hn1 hn6
    walk_at "st"
    case hz => omega
    refine lc_f (rpD (n : Int)) id (fun j d hd => ?_) bind1_mono ?_
    · obtain ⟨hj, rfl⟩ := range_get hd
      walk_at "st"
      case hc => exact (by omega : (0 : Int) < 101 + (j : Int))
      refine k_decf (fun h => ?_) (fun h => ?_)
      rotate_left
      · exact lc_n hd (by simp [rpD, h]) rfl
      walk_at "st"
      all_goals try omega
      refine lc_f (qD (101 + (j : Int))) id (fun k d2 hd2 => ?_) bind1_mono ?_
      · obtain ⟨hk, rfl⟩ := range_get hd2
        walk_at "st"
        refine k_dec (fun h1 => ?_) (fun h1 => ?_)
        · walk_at "st"
          case hc => exact (by omega : (0 : Int) < 2 + (k : Int))
          refine k_decf (fun h2 => ?_) (fun h2 => ?_)
          · walk_at "st"
            exact lc_y hd2 (by rw [range_len]; omega) (by simp [qD, h1, h2]) rfl rfl
          · exact lc_n hd2 (by simp [qD, h2]) rfl
        · exact lc_n hd2 (by simp [qD, h1]) rfl
      walk_at "st"
      refine k_eqD rfl rfl ?_ ⟨shaped_fine fun d hd => ?_, shaped_lnil⟩
      rotate_left
      · simp only [List.map_id, List.mem_filter] at hd
        obtain ⟨i, _, rfl⟩ := List.mem_map.mp hd.1
        exact fine_int _
      rw [eqv_lnil, List.map_id, emp_filter]
      walk_at "st"
      refine k_bool (fun h1 => ?_) (fun h1 => ?_)
      · rw [Bool.false_xor, show ((25 : Int) - 2).toNat = 23 from rfl] at h1
        walk_at "st"
        exact lc_y hd (by rw [range_len]; omega) (by simp only [rpD, h, h1, decide_true, Bool.and_self]) rfl rfl
      · rw [Bool.false_xor, show ((25 : Int) - 2).toNat = 23 from rfl] at h1
        exact lc_n hd (by simp only [rpD, h, h1, decide_true, Bool.and_false]) rfl
    walk_at "st"
    refine k_eqD rfl rfl ?_ ⟨shaped_fine fun d hd => ?_, shaped_lnil⟩
    rotate_left
    · simp only [List.map_id, List.mem_filter] at hd
      obtain ⟨i, _, rfl⟩ := List.mem_map.mp hd.1
      exact fine_int _
    rw [eqv_lnil, List.map_id, rg_any, hrg]
    have hclk : isClk (.int (n : Int)) = true := clk_int (by omega) (by omega)
    by_cases hl : 1 < lft
    · rw [show (true ^^ !decide (1 < lft)) = true by simp [hl]]
      walk_at "st"
      refine ⟨_, rfl, ?_⟩
      rw [if_neg (by simp [hclk])]
      refine ⟨n, lft, prts, rfl, by omega, hpr, ?_⟩
      rw [if_pos hl]
      walk_at "st"
      refine sameA rfl (by decide +kernel) ?_
      walk_at "st"
      exact ⟨_, _, _, _, rfl⟩
    · rw [show (true ^^ !decide (1 < lft)) = false by simp [hl]]
      obtain ⟨cc, hcc, hdd⟩ := hcn hl
      walk_at "st"
      refine ⟨_, rfl, ?_⟩
      rw [if_neg (by simp [hclk])]
      refine ⟨n, lft, prts, rfl, by omega, hpr, ?_⟩
      rw [if_neg hl, if_neg (by omega)]
      refine ⟨cc, hcc, ?_⟩
      walk_at "st"
      refine ⟨n, cc, rfl, hn1, hn6, hdd, ?_⟩
      walk_at "st"
      refine sameA rfl (okTold rfl) ?_
      walk_at "st"
      exact ⟨_, _, _, _, rfl⟩
  · obtain ⟨mo, tu, to, ro, rfl⟩ := hI
    walk_at "st"
    all_goals try (exact ⟨by decide, by decide, by decide⟩)
    case hc => exact cmul (p := 10) (q := 10) (by decide +kernel) (by decide +kernel) (by omega)
    case hc => exact cmul (p := 10) (q := 10) (by decide +kernel) (by decide +kernel) (by omega)
    case hc => exact cmul (p := 61) (q := 61) (by decide +kernel) (by decide +kernel) (by omega)
    refine ⟨_, _, rfl, rfl, by simp, by simp, fun w hw => ?_⟩
    obtain ⟨n, rfl, hn⟩ : ∃ n : Nat, w = .int (n : Int) ∧ isWide n = true := by
      simp only [List.mem_cons, List.not_mem_nil, or_false] at hw
      rcases hw with rfl | rfl | rfl | rfl | rfl | rfl | rfl | rfl
      · exact ⟨605, rfl, by decide +kernel⟩
      · exact ⟨1024, rfl, by decide +kernel⟩
      · exact ⟨2 ^ 50 * 2 ^ 50, congrArg PyData.int (by decide +kernel), by decide +kernel⟩
      · exact ⟨10 ^ 40, congrArg PyData.int (by decide +kernel), by decide +kernel⟩
      · exact ⟨97 * 97, congrArg PyData.int (by decide +kernel), by decide +kernel⟩
      · exact ⟨602 * 25, congrArg PyData.int (by decide +kernel), by decide +kernel⟩
      · exact ⟨625, rfl, by decide +kernel⟩
      · exact ⟨729, rfl, by decide +kernel⟩
    walk_at "st"
    refine ⟨rfl, fun bad hbad => ?_⟩
    walk_at "st"
    refine ⟨rfl, fun r hr => ?_⟩
    walk_at "st"
    unfold isWide at hn
    cases e1 : prt fineN n [] with
    | none => rw [e1] at hn; cases hn
    | some p1 =>
    obtain ⟨parts1, left1⟩ := p1
    rw [e1] at hn
    simp only [Bool.and_eq_true, Bool.not_eq_true', decide_eq_false_iff_not, decide_eq_true_iff] at hn
    obtain ⟨⟨⟨hn1, hn2⟩, hn3⟩, hn4⟩ := hn
    refine ⟨_, rfl, ?_⟩
    rw [if_neg (by simp [hn2])]
    refine ⟨n, left1, parts1, rfl, hn3, e1, ?_⟩
    rw [if_neg hn1, if_pos hn4]
    walk_at "st"
    refine ⟨_, rfl, ?_⟩
    rw [if_pos hbad]
    walk_at "st"
    unfold isRough at hr
    cases e2 : prt fineN r [] with
    | none => rw [e2] at hr; cases hr
    | some p2 =>
    obtain ⟨parts2, left2⟩ := p2
    rw [e2] at hr
    simp only [Bool.and_eq_true, decide_eq_true_iff] at hr
    obtain ⟨⟨hr1, hr2⟩, hr3⟩ := hr
    refine ⟨_, rfl, ?_⟩
    rw [if_neg (by simp [hr2])]
    refine ⟨r, left2, parts2, rfl, hr3, e2, ?_⟩
    rw [if_pos hr1]
    walk_at "st"
    refine sameA rfl (by decide +kernel) ?_
    walk_at "st"
    exact q
end LW

end
namespace LW
open PySem G
abbrev sp_law : Sp2 := spLaw
theorem len_law : ∀ exf ds Q, sp_law exf ds Q → ds.length = 1 := fun _ _ _ h => by obtain ⟨ns, e, _⟩ := h; rw [e]; rfl
end LW
namespace LW
open PySem PySem.Spec PyProof.Rows L2 G
set_option maxHeartbeats 4000000
def top (i : Nat) : Stmt := PySem.Challenge.pw_samebyclock_k38_whole_one_for_one_ones_c.main.body.getD i (.Pass ⟨0, 0, 0, 0⟩)
abbrev s__law_draw : Stmt := top 29
abbrev N__law_draw : List Str := ["script", "salt", "cell", "cells", "blend"]
theorem sc__law_draw : FnScope N__law_draw ["script", "salt"] (defScope s__law_draw) := ⟨rfl, rfl, rfl, by decide +kernel, rfl, by decide +kernel, by decide +kernel⟩
abbrev s__law_any : Stmt := top 30
abbrev N__law_any : List Str := ["deal", "bound", "rest"]
theorem sc__law_any : FnScope N__law_any ["deal", "bound"] (defScope s__law_any) := ⟨rfl, rfl, rfl, by decide +kernel, rfl, by decide +kernel, by decide +kernel⟩
abbrev s__law_of : Stmt := top 31
abbrev N__law_of : List Str := ["deal", "some"]
theorem sc__law_of : FnScope N__law_of ["deal", "some"] (defScope s__law_of) := ⟨rfl, rfl, rfl, by decide +kernel, rfl, by decide +kernel, by decide +kernel⟩
abbrev s__law_same : Stmt := top 32
abbrev N__law_same : List Str := ["value", "due", "one", "other"]
theorem sc__law_same : FnScope N__law_same ["value", "due"] (defScope s__law_same) := ⟨rfl, rfl, rfl, by decide +kernel, rfl, by decide +kernel, by decide +kernel⟩
abbrev s__law_needed : Stmt := top 40
abbrev N__law_needed : List Str := ["m", "many", "product"]
theorem sc__law_needed : FnScope N__law_needed ["m"] (defScope s__law_needed) := ⟨rfl, rfl, rfl, by decide +kernel, rfl, by decide +kernel, by decide +kernel⟩
abbrev s__law_part : Stmt := top 33
abbrev N__law_part : List Str := ["one", "other"]
theorem sc__law_part : FnScope N__law_part ["one", "other"] (defScope s__law_part) := ⟨rfl, rfl, rfl, by decide +kernel, rfl, by decide +kernel, by decide +kernel⟩
abbrev s__law_shared : Stmt := top 34
abbrev N__law_shared : List Str := ["m", "k", "found", "number"]
theorem sc__law_shared : FnScope N__law_shared ["m", "k"] (defScope s__law_shared) := ⟨rfl, rfl, rfl, by decide +kernel, rfl, by decide +kernel, by decide +kernel⟩
abbrev s__law_gone_through : Stmt := top 41
abbrev N__law_gone_through : List Str := ["m", "bounds", "many", "total", "k", "number", "left", "entries", "bound", "told", "x", "value", "steps", "entry"]
theorem sc__law_gone_through : FnScope N__law_gone_through ["m"] (defScope s__law_gone_through) := ⟨rfl, rfl, rfl, by decide +kernel, rfl, by decide +kernel, by decide +kernel⟩
abbrev s__law_power : Stmt := top 37
abbrev N__law_power : List Str := ["number", "often", "found", "turn"]
theorem sc__law_power : FnScope N__law_power ["number", "often"] (defScope s__law_power) := ⟨rfl, rfl, rfl, by decide +kernel, rfl, by decide +kernel, by decide +kernel⟩
abbrev s__law_due : Stmt := top 42
abbrev N__law_due : List Str := ["m", "found", "left", "prime", "power", "level", "one"]
theorem sc__law_due : FnScope N__law_due ["m"] (defScope s__law_due) := ⟨rfl, rfl, rfl, by decide +kernel, rfl, by decide +kernel, by decide +kernel⟩
abbrev s__law_bad_clock : Stmt := top 38
abbrev N__law_bad_clock : List Str := ["deal"]
theorem sc__law_bad_clock : FnScope N__law_bad_clock ["deal"] (defScope s__law_bad_clock) := ⟨rfl, rfl, rfl, by decide +kernel, rfl, by decide +kernel, by decide +kernel⟩
abbrev s__law_rough : Stmt := top 39
abbrev N__law_rough : List Str := ["deal"]
theorem sc__law_rough : FnScope N__law_rough ["deal"] (defScope s__law_rough) := ⟨rfl, rfl, rfl, by decide +kernel, rfl, by decide +kernel, by decide +kernel⟩
abbrev s__law_small_clock : Stmt := top 35
abbrev N__law_small_clock : List Str := ["deal", "most", "some", "m"]
theorem sc__law_small_clock : FnScope N__law_small_clock ["deal", "most"] (defScope s__law_small_clock) := ⟨rfl, rfl, rfl, by decide +kernel, rfl, by decide +kernel, by decide +kernel⟩
abbrev s_is_integer : Stmt := top 7
abbrev N_is_integer : List Str := ["value"]
theorem sc_is_integer : FnScope N_is_integer ["value"] (defScope s_is_integer) := ⟨rfl, rfl, rfl, by decide +kernel, rfl, by decide +kernel, by decide +kernel⟩
abbrev s_is_clock : Stmt := top 11
abbrev N_is_clock : List Str := ["value"]
theorem sc_is_clock : FnScope N_is_clock ["value"] (defScope s_is_clock) := ⟨rfl, rfl, rfl, by decide +kernel, rfl, by decide +kernel, by decide +kernel⟩
abbrev s_checked_clock : Stmt := top 12
abbrev N_checked_clock : List Str := ["m"]
theorem sc_checked_clock : FnScope N_checked_clock ["m"] (defScope s_checked_clock) := ⟨rfl, rfl, rfl, by decide +kernel, rfl, by decide +kernel, by decide +kernel⟩
abbrev s_parts_and_rest : Stmt := top 19
abbrev N_parts_and_rest : List Str := ["m", "found", "left", "prime", "often"]
theorem sc_parts_and_rest : FnScope N_parts_and_rest ["m"] (defScope s_parts_and_rest) := ⟨rfl, rfl, rfl, by decide +kernel, rfl, by decide +kernel, by decide +kernel⟩
abbrev s_fine_parts : Stmt := top 20
abbrev N_fine_parts : List Str := ["m", "parts", "left"]
theorem sc_fine_parts : FnScope N_fine_parts ["m"] (defScope s_fine_parts) := ⟨rfl, rfl, rfl, by decide +kernel, rfl, by decide +kernel, by decide +kernel⟩
abbrev s_numbered_parts : Stmt := top 26
abbrev N_numbered_parts : List Str := ["m", "parts"]
theorem sc_numbered_parts : FnScope N_numbered_parts ["m"] (defScope s_numbered_parts) := ⟨rfl, rfl, rfl, by decide +kernel, rfl, by decide +kernel, by decide +kernel⟩
abbrev s_factorial : Stmt := top 23
abbrev N_factorial : List Str := ["number", "found", "one"]
theorem sc_factorial : FnScope N_factorial ["number"] (defScope s_factorial) := ⟨rfl, rfl, rfl, by decide +kernel, rfl, by decide +kernel, by decide +kernel⟩
abbrev s_power_of : Stmt := top 16
abbrev N_power_of : List Str := ["number", "often", "found", "turn"]
theorem sc_power_of : FnScope N_power_of ["number", "often"] (defScope s_power_of) := ⟨rfl, rfl, rfl, by decide +kernel, rfl, by decide +kernel, by decide +kernel⟩
abbrev s_common_part : Stmt := top 13
abbrev N_common_part : List Str := ["one", "other"]
theorem sc_common_part : FnScope N_common_part ["one", "other"] (defScope s_common_part) := ⟨rfl, rfl, rfl, by decide +kernel, rfl, by decide +kernel, by decide +kernel⟩
abbrev s_factorial_number : Stmt := top 14
abbrev N_factorial_number : List Str := ["m", "part", "k"]
theorem sc_factorial_number : FnScope N_factorial_number ["m"] (defScope s_factorial_number) := ⟨rfl, rfl, rfl, by decide +kernel, rfl, by decide +kernel, by decide +kernel⟩
abbrev s_ways_beyond_squares : Stmt := top 24
abbrev N_ways_beyond_squares : List Str := ["prime", "often", "found", "power", "turn"]
theorem sc_ways_beyond_squares : FnScope N_ways_beyond_squares ["prime", "often"] (defScope s_ways_beyond_squares) := ⟨rfl, rfl, rfl, by decide +kernel, rfl, by decide +kernel, by decide +kernel⟩
abbrev s_count_by_part : Stmt := top 25
abbrev N_count_by_part : List Str := ["prime", "often", "found"]
theorem sc_count_by_part : FnScope N_count_by_part ["prime", "often"] (defScope s_count_by_part) := ⟨rfl, rfl, rfl, by decide +kernel, rfl, by decide +kernel, by decide +kernel⟩
abbrev s_count_one_for_one : Stmt := top 27
abbrev N_count_one_for_one : List Str := ["m", "found", "prime", "often"]
theorem sc_count_one_for_one : FnScope N_count_one_for_one ["m"] (defScope s_count_one_for_one) := ⟨rfl, rfl, rfl, by decide +kernel, rfl, by decide +kernel, by decide +kernel⟩
abbrev s_law : Stmt := top 43
abbrev N_law : List Str := ["script", "deal", "due", "turn", "told", "bad", "m", "rough", "wide", "prime", "part"]
theorem sc_law : FnScope N_law ["script"] (defScope s_law) := ⟨rfl, rfl, rfl, by decide +kernel, rfl, by decide +kernel, by decide +kernel⟩
abbrev s__law_heard : Stmt := top 36
abbrev N__law_heard : List Str := ["work", "wrong"]
theorem sc__law_heard : FnScope N__law_heard ["work"] (defScope s__law_heard) := ⟨rfl, rfl, rfl, by decide +kernel, rfl, by decide +kernel, by decide +kernel⟩
abbrev s_InvalidFormula : Stmt := top 2
abbrev s_InvalidClock : Stmt := top 3
abbrev s_InvalidQuestion : Stmt := top 4
abbrev s_Refused : Stmt := top 5
section
variable {P : Program} {w : World} {K : PySem.W.Frag} {mg : Str → Option Value} {base : Heap}
theorem ok__law_draw {f : Addr} {fd : FuncData} (F : Fun K "_law_draw" "_law_draw" s__law_draw f fd) (z_abs : mg "abs" = none) (z_int : mg "int" = none) : FnOk P w K mg base (L2.CX P w) 1 f fd ["script", "salt"] (lowSp K spw__law_draw) :=
  fn2 (t := tw__law_draw) F sc__law_draw lenw__law_draw (fun cdv A outer s H E hr tk po => by
    have hu := hr.units
    have hnd := sc__law_draw.nd
    exact (p2ss_cons (p2setSc1 (l := 3) (i := 2) sc__law_draw.nd (p2i_seq (p2sc (p2slice (p2v 0) p2noP (p2part p2int)))) (okB (N := N__law_draw) (sc := defScope s__law_draw) (by decide +kernel)) (fun _ _ _ _ _ => p2ts_nil) (fun _ _ _ _ _ => (p2op o2mod (p2callB b2abs z_abs (p2cons (p2callT b2int z_int (p2cons (p2v 2) p2nil)) p2nil)) (p2op o2pow p2int p2int))) (sw_true rfl rfl rfl (by decide +kernel)))
      (p2ss_cons (p2s_set (i := 4) sc__law_draw.nd (p2op o2add p2int (p2op o2mul p2int (p2v 1))))
      (p2ss_cons (p2s_for (p2i_seq (p2v 3)) (p2g_name (i := 2) sc__law_draw.nd) (p2ss_one (p2s_set (i := 4) sc__law_draw.nd (p2op o2mod (p2callT b2int z_int (p2cons (p2op o2add (p2op o2add (p2op o2mul (p2v 4) p2int) (p2op o2mod (p2v 2) p2int)) p2int) p2nil)) p2int))) po)
      (p2ss_one (p2s_retDeal (p2rev (p2sc (p2lc1 (i := 2) sc__law_draw.nd (p2i_seq (p2v 3)) (okB (N := N__law_draw) (sc := defScope s__law_draw) (by decide +kernel)) (fun _ _ _ _ _ => (p2ts_one (p2tc o2ge (p2v 2) (p2op o2pow p2int p2int)))) (fun _ _ _ _ _ => (p2v 2))))) (p2v 4))))))) purew__law_draw
theorem ok__law_any {f : Addr} {fd : FuncData} (F : Fun K "_law_any" "_law_any" s__law_any f fd) (z_int : mg "int" = none) : FnOk P w K mg base (L2.CX P w) 1 f fd ["deal", "bound"] (lowSp K spAny) := by
  refine F.okX sc__law_any (fun vs H Q E h => ?_) (fun cdv A outer s H vs Q E hr h => ⟨t_any K, ?_, pure_any h⟩)
  · obtain ⟨w, ds, exf, Q2, R, rv, cl, ⟨m, e, _⟩, _⟩ := h
    rw [Paired.length rv, e]; rfl
  · have hu := hu_of hr
    have po : PassesOwn (model P w) (cxOf (L2.CX P w) P w K mg base N__law_any "_law_any" (defScope s__law_any) f cdv A outer s H E).A (cxOf (L2.CX P w) P w K mg base N__law_any "_law_any" (defScope s__law_any) f cdv A outer s H E).env (cxOf (L2.CX P w) P w K mg base N__law_any "_law_any" (defScope s__law_any) f cdv A outer s H E).xe := passes_of rfl
    exact pss_cons (ps_while po (PW.pt (pw_and (pt_cmpR (op_neD hr.units) (pe_ix ix_list (pv 0) pe_int (fun _ _ => rfl)) (pe_lst pa_nil) (nomark _))
        (pw_and1 (pt_cmpR op_eq (pe_ix ix_list (pe_ix ix_list (pv 0) pe_int (fun _ _ => rfl)) (pe_un un_neg pe_int) (fun _ _ => rfl)) pe_int (nomark _)))))
        (pss_one (ps_expr (pe_bm0 PySem.F.plainAttrs_list PySem.F.slot_list_pop PySem.F.type_list_pop mt_pop (pe_ix ix_list (pv 0) pe_int (fun _ _ => rfl))))))
      (pss_cons (ps_if (pt_cmpR (op_neD hr.units) (pe_ix ix_list (pv 0) pe_int (fun _ _ => rfl)) (pe_lst pa_nil) (nomark _))
        (pss_cons (ps_set (i := 2) sc__law_any.nd rfl (.inl rfl) (pe_callTy call_int1 (by rfl) z_int (by decide +kernel) (pa_cons (pe_bm0 PySem.F.plainAttrs_list PySem.F.slot_list_pop PySem.F.type_list_pop mt_pop (pe_ix ix_list (pv 0) pe_int (fun _ _ => rfl))) pa_nil)))
        (pss_cons (ps_expr (pe_bm PySem.F.plainAttrs_list PySem.F.slot_list_append PySem.F.type_list_append mt_append (pe_ix ix_list (pv 0) pe_int (fun _ _ => rfl)) (pa_cons (pe_op op_fdivW (pv 2) (pv 1)) pa_nil)))
        (pss_one (ps_ret (pe_op op_mod (pv 2) (pv 1)))))) pss_nil)
      (pss_cons (ps_asg (pe_op op_mod (pe_callTy call_int1 (by rfl) z_int (by decide +kernel) (pa_cons (pe_op op_add (pe_op op_mulW (pe_ix ix_list (pv 0) pe_int (fun _ _ => rfl)) pe_int) pe_int) pa_nil)) pe_int) (pg_sub (pv 0) pe_int set_list))
      (pss_one (ps_ret (pe_op op_mod (pe_callTy call_int1 (by rfl) z_int (by decide +kernel) (pa_cons (pe_op op_fdivW (pe_ix ix_list (pv 0) pe_int (fun _ _ => rfl)) pe_int) pa_nil)) (pv 1))))))
theorem ok__law_of {f : Addr} {fd : FuncData} (F : Fun K "_law_of" "_law_of" s__law_of f fd) (c__law_any : Ca P w K mg base "_law_any" 1 sp__law_any) (z_len : mg "len" = none) : FnOk P w K mg base (L2.CX P w) 2 f fd ["deal", "some"] (lowSp K sp__law_of) :=
  fn2 (t := t__law_of) F sc__law_of len__law_of (fun cdv A outer s H E hr tk po => by
    have hu := hr.units
    have hnd := sc__law_of.nd
    exact (p2ss_one (p2s_ret (p2ix (p2v 1) (p2callC c__law_any (hr.mono (by decide)) tk (p2cons (p2v 0) (p2cons (p2callB b2len z_len (p2cons (p2v 1) p2nil)) p2nil))))))) pure__law_of
theorem ok__law_same {f : Addr} {fd : FuncData} (F : Fun K "_law_same" "_law_same" s__law_same f fd) (hmg : mg "_law_same" = some (.ref f)) (bd : Binds K fd ["value", "due"] []) (z_bool : mg "bool" = none) (z_int : mg "int" = none) (z_isinstance : mg "isinstance" = none) (z_len : mg "len" = none) (z_list : mg "list" = none) (z_str : mg "str" = none) (z_tuple : mg "tuple" = none) (z_zip : mg "zip" = none) : ∀ d : Nat, d ≤ 3 → FnOk P w K mg base (L2.CX P w) (1 + d) f fd ["value", "due"] (lowSp K (sp__law_same_d d))
  | d, hd => by
    have rcc : ∀ d2, d = d2 + 1 → Ca P w K mg base "_law_same" (1 + d2) (sp__law_same_d d2) := fun d2 e => ⟨f, fnG_of (ok__law_same F hmg bd z_bool z_int z_isinstance z_len z_list z_str z_tuple z_zip d2 (by omega)) bd, hmg, F.kp, mono__law_same_d d2⟩
    cases d with
    | zero => exact fn2 (t := t__law_same_0) F sc__law_same (len__law_same_d 0) (fun cdv A outer s H E hr tk po => by
    have hu := hr.units
    have hnd := sc__law_same.nd
    exact (p2ss_cons (p2s_if (p2t (p2isi2 z_isinstance z_tuple z_list (p2v 1))) (p2ss_cons (p2s_if (p2or (p2tc (o2ne hu) (p2callB b2isi z_isinstance (p2cons (p2v 1) (p2cons (p2ty z_tuple) p2nil))) (p2callB b2isi z_isinstance (p2cons (p2v 0) (p2cons (p2ty z_tuple) p2nil)))) (p2or (p2not (p2t (p2isi2 z_isinstance z_tuple z_list (p2v 0)))) (p2or1 (p2tc (o2ne hu) (p2callB b2len z_len (p2cons (p2v 0) p2nil)) (p2callB b2len z_len (p2cons (p2v 1) p2nil)))))).pt (p2ss_one (p2s_ret p2bl)) p2ss_nil)
      (p2ss_one (p2s_ret (p2cmp (o2eq hu) (p2sc (p2lc2 (i := 2) (j := 3) sc__law_same.nd (p2i_zip z_zip (p2v 0) (p2v 1)) (okB (N := N__law_same) (sc := defScope s__law_same) (by decide +kernel)) (fun _ _ _ _ _ => (p2ts_one (p2not (p2t p2never)))) (fun _ _ _ _ _ => p2int))) (p2sc (p2lst p2nil)))))) p2ss_nil)
      (p2ss_cons (p2s_if (p2tc o2isN (p2v 1) p2non) (p2ss_one (p2s_ret (p2cmp o2isN (p2v 0) p2non))) p2ss_nil)
      (p2ss_cons (p2s_if (p2tc o2isB (p2v 1) p2bl) (p2ss_one (p2s_ret (p2cmp o2isB (p2v 0) p2bl))) p2ss_nil)
      (p2ss_cons (p2s_if (p2tc o2isB (p2v 1) p2bl) (p2ss_one (p2s_ret (p2cmp o2isB (p2v 0) p2bl))) p2ss_nil)
      (p2ss_cons (p2s_if (p2t (p2callB b2isi z_isinstance (p2cons (p2v 1) (p2cons (p2ty z_int) p2nil)))) (p2ss_one (p2s_ret (p2andV (p2callB b2isi z_isinstance (p2cons (p2v 0) (p2cons (p2ty z_int) p2nil))) (p2andV (p2notV (p2callB b2isi z_isinstance (p2cons (p2v 0) (p2cons (p2ty z_bool) p2nil)))) (p2one (p2cmp (o2eq hu) (p2v 0) (p2v 1))))))) p2ss_nil)
      (p2ss_one (p2s_ret (p2andV (p2callB b2isi z_isinstance (p2cons (p2v 0) (p2cons (p2ty z_str) p2nil))) (p2one (p2cmp (o2eq hu) (p2v 0) (p2v 1)))))))))))) (pure__law_same_0)
    | succ d2 =>
      have c__law_same := rcc d2 rfl
      exact fn2 (t := t__law_same d2) F sc__law_same (len__law_same_d (d2 + 1)) (fun cdv A outer s H E hr tk po => by
    have hu := hr.units
    have hnd := sc__law_same.nd
    exact (p2ss_cons (p2s_if (p2t (p2isi2 z_isinstance z_tuple z_list (p2v 1))) (p2ss_cons (p2s_if (p2or (p2tc (o2ne hu) (p2callB b2isi z_isinstance (p2cons (p2v 1) (p2cons (p2ty z_tuple) p2nil))) (p2callB b2isi z_isinstance (p2cons (p2v 0) (p2cons (p2ty z_tuple) p2nil)))) (p2or (p2not (p2t (p2isi2 z_isinstance z_tuple z_list (p2v 0)))) (p2or1 (p2tc (o2ne hu) (p2callB b2len z_len (p2cons (p2v 0) p2nil)) (p2callB b2len z_len (p2cons (p2v 1) p2nil)))))).pt (p2ss_one (p2s_ret p2bl)) p2ss_nil)
      (p2ss_one (p2s_ret (p2cmp (o2eq hu) (p2sc (p2lc2 (i := 2) (j := 3) sc__law_same.nd (p2i_zip z_zip (p2v 0) (p2v 1)) (okB (N := N__law_same) (sc := defScope s__law_same) (by decide +kernel)) (fun _ _ _ _ _ => (p2ts_one (p2not (p2t (p2callC c__law_same (hr.mono (Nat.le_refl _)) takes0 (p2cons (p2v 2) (p2cons (p2v 3) p2nil))))))) (fun _ _ _ _ _ => p2int))) (p2sc (p2lst p2nil)))))) p2ss_nil)
      (p2ss_cons (p2s_if (p2tc o2isN (p2v 1) p2non) (p2ss_one (p2s_ret (p2cmp o2isN (p2v 0) p2non))) p2ss_nil)
      (p2ss_cons (p2s_if (p2tc o2isB (p2v 1) p2bl) (p2ss_one (p2s_ret (p2cmp o2isB (p2v 0) p2bl))) p2ss_nil)
      (p2ss_cons (p2s_if (p2tc o2isB (p2v 1) p2bl) (p2ss_one (p2s_ret (p2cmp o2isB (p2v 0) p2bl))) p2ss_nil)
      (p2ss_cons (p2s_if (p2t (p2callB b2isi z_isinstance (p2cons (p2v 1) (p2cons (p2ty z_int) p2nil)))) (p2ss_one (p2s_ret (p2andV (p2callB b2isi z_isinstance (p2cons (p2v 0) (p2cons (p2ty z_int) p2nil))) (p2andV (p2notV (p2callB b2isi z_isinstance (p2cons (p2v 0) (p2cons (p2ty z_bool) p2nil)))) (p2one (p2cmp (o2eq hu) (p2v 0) (p2v 1))))))) p2ss_nil)
      (p2ss_one (p2s_ret (p2andV (p2callB b2isi z_isinstance (p2cons (p2v 0) (p2cons (p2ty z_str) p2nil))) (p2one (p2cmp (o2eq hu) (p2v 0) (p2v 1)))))))))))) (pure__law_same d2)
theorem ok__law_needed {f : Addr} {fd : FuncData} (F : Fun K "_law_needed" "_law_needed" s__law_needed f fd) (z_int : mg "int" = none) : FnOk P w K mg base (L2.CX P w) 1 f fd ["m"] (lowSp K sp__law_needed) :=
  fn2 (t := t__law_needed) F sc__law_needed len__law_needed (fun cdv A outer s H E hr tk po => by
    have hu := hr.units
    have hnd := sc__law_needed.nd
    exact (p2ss_cons (p2s_asg (p2tup (p2cons p2int (p2cons p2int p2nil))) (p2g_tup (p2gs_cons (p2g_name (i := 1) sc__law_needed.nd) (p2gs_cons (p2g_name (i := 2) sc__law_needed.nd) p2gs_nil))))
      (p2ss_cons (p2s_while (p2tc (o2ne hu) (p2op o2mod (p2callT b2int z_int (p2cons (p2v 2) p2nil)) (p2v 0)) p2int) (p2ss_cons (p2s_set (i := 1) sc__law_needed.nd (p2op o2add (p2v 1) p2int))
      (p2ss_one (p2s_set (i := 2) sc__law_needed.nd (p2op o2mod (p2callT b2int z_int (p2cons (p2op o2mul (p2v 2) (p2v 1)) p2nil)) (p2v 0))))) po)
      (p2ss_one (p2s_ret (p2v 1)))))) pure__law_needed
theorem ok__law_part {f : Addr} {fd : FuncData} (F : Fun K "_law_part" "_law_part" s__law_part f fd) (z_int : mg "int" = none) : FnOk P w K mg base (L2.CX P w) 1 f fd ["one", "other"] (lowSp K sp__law_part) :=
  fn2 (t := t__law_part) F sc__law_part len__law_part (fun cdv A outer s H E hr tk po => by
    have hu := hr.units
    have hnd := sc__law_part.nd
    exact (p2ss_cons (p2s_while (p2tc o2gt (p2v 1) p2int) (p2ss_one (p2s_par (i := 0) (j := 1) sc__law_part.nd (p2v 1) (p2op o2mod (p2callT b2int z_int (p2cons (p2v 0) p2nil)) (p2v 1)))) po)
      (p2ss_one (p2s_ret (p2v 0))))) pure__law_part
theorem ok__law_shared {f : Addr} {fd : FuncData} (F : Fun K "_law_shared" "_law_shared" s__law_shared f fd) (c__law_part : Ca P w K mg base "_law_part" 1 sp__law_part) (z_range : mg "range" = none) : FnOk P w K mg base (L2.CX P w) 2 f fd ["m", "k"] (lowSp K sp__law_shared) :=
  fn2 (t := t__law_shared) F sc__law_shared len__law_shared (fun cdv A outer s H E hr tk po => by
    have hu := hr.units
    have hnd := sc__law_shared.nd
    exact (p2ss_cons (p2s_set (i := 2) sc__law_shared.nd p2int)
      (p2ss_cons (p2s_for (p2i_rng2 z_range p2int (p2op o2add (p2v 1) p2int)) (p2g_name (i := 3) sc__law_shared.nd) (p2ss_one (p2s_set (i := 2) sc__law_shared.nd (p2callC c__law_part (hr.mono (by decide)) tk (p2cons (p2v 0) (p2cons (p2op o2mul (p2v 2) (p2v 3)) p2nil))))) po)
      (p2ss_one (p2s_ret (p2v 2)))))) pure__law_shared
theorem ok__law_gone_through {f : Addr} {fd : FuncData} (F : Fun K "_law_gone_through" "_law_gone_through" s__law_gone_through f fd) (c__law_needed : Ca P w K mg base "_law_needed" 1 sp__law_needed) (c__law_shared : Ca P w K mg base "_law_shared" 2 sp__law_shared) (z_enumerate : mg "enumerate" = none) (z_int : mg "int" = none) (z_len : mg "len" = none) (z_range : mg "range" = none) : FnOk P w K mg base (L2.CX P w) 3 f fd ["m"] (lowSp K sp__law_gone_through) :=
  fn2 (t := t__law_gone_through) F sc__law_gone_through len__law_gone_through (fun cdv A outer s H E hr tk po => by
    have hu := hr.units
    have hnd := sc__law_gone_through.nd
    exact (p2ss_cons (p2s_par3 (i := 1) (j := 2) (k := 3) sc__law_gone_through.nd (p2lst p2nil) p2int p2int)
      (p2ss_cons (p2s_for (p2i_rng1 z_range (p2callC c__law_needed (hr.mono (by decide)) tk (p2cons (p2v 0) p2nil))) (p2g_name (i := 4) sc__law_gone_through.nd) (p2ss_cons (p2s_expr (p2app (p2v 1) (p2op o2fdiv (p2v 0) (p2callC c__law_shared (hr.mono (by decide)) tk (p2cons (p2v 0) (p2cons (p2v 4) p2nil))))))
      (p2ss_one (p2s_set (i := 3) sc__law_gone_through.nd (p2op o2mul (p2v 3) (p2ix (p2v 1) (p2un u2neg p2int)))))) po)
      (p2ss_cons (p2s_for (p2i_rng1 z_range (p2v 3)) (p2g_name (i := 5) sc__law_gone_through.nd) (p2ss_cons (p2s_par (i := 6) (j := 7) sc__law_gone_through.nd (p2v 5) (p2lst p2nil))
      (p2ss_cons (p2s_for (p2i_seq (p2v 1)) (p2g_name (i := 8) sc__law_gone_through.nd) (p2ss_cons (p2s_expr (p2app (p2v 7) (p2op o2mod (p2callT b2int z_int (p2cons (p2v 6) p2nil)) (p2v 8))))
      (p2ss_one (p2s_set (i := 6) sc__law_gone_through.nd (p2op o2fdiv (p2v 6) (p2v 8))))) po)
      (p2ss_cons (p2s_set (i := 9) sc__law_gone_through.nd (p2lst p2nil))
      (p2ss_cons (p2s_for (p2i_rng1 z_range (p2v 0)) (p2g_name (i := 10) sc__law_gone_through.nd) (p2ss_cons (p2s_asg (p2tup (p2cons p2int (p2cons p2int p2nil))) (p2g_tup (p2gs_cons (p2g_name (i := 11) sc__law_gone_through.nd) (p2gs_cons (p2g_name (i := 12) sc__law_gone_through.nd) p2gs_nil))))
      (p2ss_cons (p2s_for (p2i_enum z_enumerate (p2v 7)) (p2g_tup (p2gs_cons (p2g_name (i := 4) sc__law_gone_through.nd) (p2gs_cons (p2g_name (i := 13) sc__law_gone_through.nd) p2gs_nil))) (p2ss_one (p2s_par (i := 11) (j := 12) sc__law_gone_through.nd (p2op o2add (p2v 11) (p2op o2mul (p2v 13) (p2v 12))) (p2op o2mul (p2v 12) (p2op o2sub (p2v 10) (p2v 4))))) po)
      (p2ss_cons (p2s_if (p2tc (o2in hu) (p2op o2mod (p2callT b2int z_int (p2cons (p2v 11) p2nil)) (p2v 0)) (p2v 9)) (p2ss_one p2s_break) p2ss_nil)
      (p2ss_one (p2s_expr (p2app (p2v 9) (p2op o2mod (p2callT b2int z_int (p2cons (p2v 11) p2nil)) (p2v 0)))))))) po)
      (p2ss_one (p2s_set (i := 2) sc__law_gone_through.nd (p2op o2add (p2v 2) (p2if (p2tc (o2eq hu) (p2callB b2len z_len (p2cons (p2v 9) p2nil)) (p2v 0)) p2int p2int)))))))) po)
      (p2ss_one (p2s_ret (p2v 2))))))) pure__law_gone_through
theorem ok__law_power {f : Addr} {fd : FuncData} (F : Fun K "_law_power" "_law_power" s__law_power f fd) (z_range : mg "range" = none) : FnOk P w K mg base (L2.CX P w) 1 f fd ["number", "often"] (lowSp K sp__law_power) :=
  fn2 (t := t__law_power) F sc__law_power len__law_power (fun cdv A outer s H E hr tk po => by
    have hu := hr.units
    have hnd := sc__law_power.nd
    exact (p2ss_cons (p2s_set (i := 2) sc__law_power.nd p2int)
      (p2ss_cons (p2s_for (p2i_rng1 z_range (p2v 1)) (p2g_name (i := 3) sc__law_power.nd) (p2ss_one (p2s_set (i := 2) sc__law_power.nd (p2op o2mul (p2v 2) (p2v 0)))) po)
      (p2ss_one (p2s_ret (p2v 2)))))) pure__law_power
theorem ok__law_due {f : Addr} {fd : FuncData} (F : Fun K "_law_due" "_law_due" s__law_due f fd) (c__law_power : Ca P w K mg base "_law_power" 1 sp__law_power) (c__law_needed : Ca P w K mg base "_law_needed" 1 sp__law_needed) (z_int : mg "int" = none) (z_range : mg "range" = none) : FnOk P w K mg base (L2.CX P w) 2 f fd ["m"] (lowSp K sp__law_due) :=
  fn2 (t := t__law_due) F sc__law_due len__law_due (fun cdv A outer s H E hr tk po => by
    have hu := hr.units
    have hnd := sc__law_due.nd
    exact (p2ss_cons (p2s_par (i := 1) (j := 2) sc__law_due.nd p2int (p2v 0))
      (p2ss_cons (p2s_for (p2i_rng2 z_range p2int (p2op o2add (p2v 0) p2int)) (p2g_name (i := 3) sc__law_due.nd) (p2ss_cons (p2s_par (i := 4) (j := 5) sc__law_due.nd (p2v 3) p2int)
      (p2ss_one (p2s_while (p2tc (o2eq hu) (p2op o2mod (p2callT b2int z_int (p2cons (p2v 2) p2nil)) (p2v 3)) p2int) (p2ss_cons (p2s_par (i := 2) (j := 5) sc__law_due.nd (p2op o2fdiv (p2v 2) (p2v 3)) (p2op o2add (p2v 5) p2int))
      (p2ss_cons (p2s_if (p2tc (o2eq hu) (p2v 5) p2int) (p2ss_one (p2s_for (p2i_rng2 z_range p2int (p2op o2add (p2v 3) p2int)) (p2g_name (i := 6) sc__law_due.nd) (p2ss_one (p2s_set (i := 1) sc__law_due.nd (p2op o2mul (p2v 1) (p2v 6)))) po)) (p2ss_one (p2s_if (p2tc (o2eq hu) (p2v 5) p2int) (p2ss_one (p2s_set (i := 1) sc__law_due.nd (p2op o2mul (p2v 1) (p2callC c__law_power (hr.mono (by decide)) tk (p2cons (p2op o2mul (p2v 3) (p2op o2sub (p2v 3) p2int)) (p2cons (p2v 3) p2nil)))))) (p2ss_one (p2s_set (i := 1) sc__law_due.nd (p2op o2mul (p2v 1) (p2callC c__law_power (hr.mono (by decide)) tk (p2cons (p2v 3) (p2cons (p2callC c__law_needed (hr.mono (by decide)) tk (p2cons (p2v 4) p2nil)) p2nil)))))))))
      (p2ss_one (p2s_set (i := 4) sc__law_due.nd (p2op o2mul (p2v 4) (p2v 3)))))) po))) po)
      (p2ss_one (p2s_ret (p2v 1)))))) pure__law_due
theorem ok__law_bad_clock {f : Addr} {fd : FuncData} (F : Fun K "_law_bad_clock" "_law_bad_clock" s__law_bad_clock f fd) (c__law_of : Ca P w K mg base "_law_of" 2 sp__law_of) : FnOk P w K mg base (L2.CX P w) 3 f fd ["deal"] (lowSp K sp__law_bad_clock) :=
  fn2 (t := t__law_bad_clock) F sc__law_bad_clock len__law_bad_clock (fun cdv A outer s H E hr tk po => by
    have hu := hr.units
    have hnd := sc__law_bad_clock.nd
    exact (p2ss_one (p2s_ret (p2callC c__law_of (hr.mono (by decide)) tk (p2cons (p2v 0) (p2cons (p2sc (p2lst (p2cons p2non (p2cons p2int (p2cons (p2un u2neg p2int) (p2cons (p2op o2add (p2op o2pow p2int p2int) p2int) (p2cons p2bl (p2cons p2str (p2cons (p2tup (p2cons p2int p2nil)) (p2cons (p2sc (p2lst (p2cons p2int p2nil))) (p2cons (p2op o2pow p2int p2int) p2nil))))))))))) p2nil)))))) pure__law_bad_clock
theorem ok__law_rough {f : Addr} {fd : FuncData} (F : Fun K "_law_rough" "_law_rough" s__law_rough f fd) (c__law_of : Ca P w K mg base "_law_of" 2 sp__law_of) : FnOk P w K mg base (L2.CX P w) 3 f fd ["deal"] (lowSp K sp__law_rough) :=
  fn2 (t := t__law_rough) F sc__law_rough len__law_rough (fun cdv A outer s H E hr tk po => by
    have hu := hr.units
    have hnd := sc__law_rough.nd
    exact (p2ss_one (p2s_ret (p2callC c__law_of (hr.mono (by decide)) tk (p2cons (p2v 0) (p2cons (p2sc (p2lst (p2cons p2int (p2cons p2int (p2cons (p2op o2mul p2int p2int) (p2cons (p2op o2add (p2op o2pow p2int p2int) p2int) (p2cons (p2op o2mul p2int (p2op o2pow p2int p2int)) (p2cons p2int (p2cons (p2op o2mul p2int p2int) (p2cons (p2op o2mul p2int p2int) (p2cons (p2op o2sub (p2op o2pow p2int p2int) p2int) p2nil))))))))))) p2nil)))))) pure__law_rough
theorem ok__law_small_clock {f : Addr} {fd : FuncData} (F : Fun K "_law_small_clock" "_law_small_clock" s__law_small_clock f fd) (c__law_of : Ca P w K mg base "_law_of" 2 sp__law_of) (c__law_any : Ca P w K mg base "_law_any" 1 sp__law_any) : FnOk P w K mg base (L2.CX P w) 3 f fd ["deal", "most"] (lowSp K sp__law_small_clock) :=
  fn2 (t := t__law_small_clock) F sc__law_small_clock len__law_small_clock (fun cdv A outer s H E hr tk po => by
    have hu := hr.units
    have hnd := sc__law_small_clock.nd
    exact (p2ss_cons (p2setSc1 (l := 2) (i := 3) sc__law_small_clock.nd (p2i_seq (p2sc (p2lst (p2cons p2int (p2cons p2int (p2cons p2int (p2cons p2int (p2cons p2int (p2cons p2int (p2cons p2int (p2cons p2int (p2cons p2int (p2cons p2int (p2cons p2int (p2cons p2int (p2cons p2int (p2cons p2int (p2cons p2int (p2cons p2int (p2cons p2int (p2cons p2int (p2cons p2int (p2cons p2int (p2cons p2int (p2cons p2int (p2cons p2int (p2cons p2int (p2cons p2int (p2cons p2int (p2cons p2int (p2cons p2int (p2cons p2int (p2cons p2int (p2cons p2int (p2cons p2int p2nil))))))))))))))))))))))))))))))))))) (okB (N := N__law_small_clock) (sc := defScope s__law_small_clock) (by decide +kernel)) (fun _ _ _ _ _ => (p2ts_one (p2tc o2le (p2v 3) (p2v 1)))) (fun _ _ _ _ _ => (p2v 3)) (sw_true rfl rfl rfl (by decide +kernel)))
      (p2ss_one (p2s_ret (p2callC c__law_of (hr.mono (by decide)) tk (p2cons (p2v 0) (p2cons (p2sc (p2lst (p2cons (p2callC c__law_of (hr.mono (by decide)) tk (p2cons (p2v 0) (p2cons (p2v 2) p2nil))) (p2cons (p2callC c__law_of (hr.mono (by decide)) tk (p2cons (p2v 0) (p2cons (p2v 2) p2nil))) (p2cons (p2op o2add p2int (p2callC c__law_any (hr.mono (by decide)) tk (p2cons (p2v 0) (p2cons (p2v 1) p2nil)))) p2nil))))) p2nil))))))) pure__law_small_clock
theorem ok_is_integer {f : Addr} {fd : FuncData} (F : Fun K "is_integer" "is_integer" s_is_integer f fd) (z_bool : mg "bool" = none) (z_int : mg "int" = none) (z_isinstance : mg "isinstance" = none) : FnOk P w K mg base (L2.CX P w) 1 f fd ["value"] (lowSp K sp_is_integer) :=
  fn2 (t := t_is_integer) F sc_is_integer len_is_integer (fun cdv A outer s H E hr tk po => by
    have hu := hr.units
    have hnd := sc_is_integer.nd
    exact (p2ss_one (p2s_ret (p2andV (p2callB b2isi z_isinstance (p2cons (p2v 0) (p2cons (p2ty z_int) p2nil))) (p2one (p2notV (p2callB b2isi z_isinstance (p2cons (p2v 0) (p2cons (p2ty z_bool) p2nil))))))))) pure_is_integer
theorem ok_is_clock {f : Addr} {fd : FuncData} (F : Fun K "is_clock" "is_clock" s_is_clock f fd) (c_is_integer : Ca P w K mg base "is_integer" 1 sp_is_integer) {tk_MOST_CLOCK : Tok} (g_MOST_CLOCK : mg "MOST_CLOCK" = some (.int 10000000000000000000000000000000000000000 tk_MOST_CLOCK)) : FnOk P w K mg base (L2.CX P w) 2 f fd ["value"] (lowSp K sp_is_clock) :=
  fn2 (t := t_is_clock) F sc_is_clock len_is_clock (fun cdv A outer s H E hr tk po => by
    have hu := hr.units
    have hnd := sc_is_clock.nd
    exact (p2ss_one (p2s_ret (p2andV (p2callC c_is_integer (hr.mono (by decide)) tk (p2cons (p2v 0) p2nil)) (p2one (p2chain o2le o2le p2int (p2v 0) (p2gint g_MOST_CLOCK))))))) pure_is_clock
theorem ok_checked_clock {f : Addr} {fd : FuncData} (F : Fun K "checked_clock" "checked_clock" s_checked_clock f fd) (c_is_clock : Ca P w K mg base "is_clock" 2 sp_is_clock) (x_InvalidClock : Rz P w K mg base "InvalidClock") : FnOk P w K mg base (L2.CX P w) 3 f fd ["m"] (lowSp K spw_checked_clock) :=
  fn2 (t := tw_checked_clock) F sc_checked_clock lenw_checked_clock (fun cdv A outer s H E hr tk po => by
    have hu := hr.units
    have hnd := sc_checked_clock.nd
    exact (p2ss_one (p2s_if (p2not (p2t (p2callC c_is_clock (hr.mono (by decide)) tk (p2cons (p2v 0) p2nil)))) (p2ss_one (p2s_raise x_InvalidClock (hr.mono (by decide)) tk (p2cons p2int p2nil))) p2ss_nil))) purew_checked_clock
theorem ok_parts_and_rest {f : Addr} {fd : FuncData} (F : Fun K "parts_and_rest" "parts_and_rest" s_parts_and_rest f fd) (z_range : mg "range" = none) (z_tuple : mg "tuple" = none) {tk_MOST_FINE : Tok} (g_MOST_FINE : mg "MOST_FINE" = some (.int 97 tk_MOST_FINE)) : FnOk P w K mg base (L2.CX P w) 1 f fd ["m"] (lowSp K sp_parts_and_rest) :=
  fn2 (t := t_parts_and_rest) F sc_parts_and_rest len_parts_and_rest (fun cdv A outer s H E hr tk po => by
    have hu := hr.units
    have hnd := sc_parts_and_rest.nd
    exact (p2ss_cons (p2s_par (i := 1) (j := 2) sc_parts_and_rest.nd (p2lst p2nil) (p2v 0))
      (p2ss_cons (p2s_for (p2i_rng2 z_range p2int (p2op o2add (p2gint g_MOST_FINE) p2int)) (p2g_name (i := 3) sc_parts_and_rest.nd) (p2ss_cons (p2s_set (i := 4) sc_parts_and_rest.nd p2int)
      (p2ss_cons (p2s_while (p2tc (o2eq hu) (p2op o2mod (p2v 2) (p2v 3)) p2int) (p2ss_one (p2s_par (i := 2) (j := 4) sc_parts_and_rest.nd (p2op o2fdiv (p2v 2) (p2v 3)) (p2op o2add (p2v 4) p2int))) po)
      (p2ss_one (p2s_if (p2tc o2gt (p2v 4) p2int) (p2ss_one (p2s_expr (p2app (p2v 1) (p2tup (p2cons (p2v 3) (p2cons (p2v 4) p2nil)))))) p2ss_nil)))) po)
      (p2ss_one (p2s_ret (p2tup (p2cons (p2callT b2tuple z_tuple (p2cons (p2v 1) p2nil)) (p2cons (p2v 2) p2nil)))))))) pure_parts_and_rest
theorem ok_fine_parts {f : Addr} {fd : FuncData} (F : Fun K "fine_parts" "fine_parts" s_fine_parts f fd) (c_parts_and_rest : Ca P w K mg base "parts_and_rest" 1 sp_parts_and_rest) (x_Refused : Rz P w K mg base "Refused") {tk_MOST_FINE : Tok} (g_MOST_FINE : mg "MOST_FINE" = some (.int 97 tk_MOST_FINE)) : FnOk P w K mg base (L2.CX P w) 3 f fd ["m"] (lowSp K spw_fine_parts) :=
  fn2 (t := tw_fine_parts) F sc_fine_parts lenw_fine_parts (fun cdv A outer s H E hr tk po => by
    have hu := hr.units
    have hnd := sc_fine_parts.nd
    exact (p2ss_cons (p2s_asg (p2callC c_parts_and_rest (hr.mono (by decide)) tk (p2cons (p2v 0) p2nil)) (p2g_tup (p2gs_cons (p2g_name (i := 1) sc_fine_parts.nd) (p2gs_cons (p2g_name (i := 2) sc_fine_parts.nd) p2gs_nil))))
      (p2ss_cons (p2s_if (p2tc o2gt (p2v 2) p2int) (p2ss_one (p2s_raise x_Refused (hr.mono (by decide)) tk (p2cons (p2gint g_MOST_FINE) p2nil))) p2ss_nil)
      (p2ss_one (p2s_ret (p2v 1)))))) purew_fine_parts
theorem ok_numbered_parts {f : Addr} {fd : FuncData} (F : Fun K "numbered_parts" "numbered_parts" s_numbered_parts f fd) (c_checked_clock : Ca P w K mg base "checked_clock" 3 spw_checked_clock) (c_fine_parts : Ca P w K mg base "fine_parts" 3 spw_fine_parts) (x_Refused : Rz P w K mg base "Refused") {tk_MOST_NUMBERED : Tok} (g_MOST_NUMBERED : mg "MOST_NUMBERED" = some (.int 600 tk_MOST_NUMBERED)) : FnOk P w K mg base (L2.CX P w) 4 f fd ["m"] (lowSp K spw_numbered_parts) :=
  fn2 (t := tw_numbered_parts) F sc_numbered_parts lenw_numbered_parts (fun cdv A outer s H E hr tk po => by
    have hu := hr.units
    have hnd := sc_numbered_parts.nd
    exact (p2ss_cons (p2s_expr (p2callC c_checked_clock (hr.mono (by decide)) tk (p2cons (p2v 0) p2nil)))
      (p2ss_cons (p2s_set (i := 1) sc_numbered_parts.nd (p2callC c_fine_parts (hr.mono (by decide)) tk (p2cons (p2v 0) p2nil)))
      (p2ss_cons (p2s_if (p2tc o2gt (p2v 0) (p2gint g_MOST_NUMBERED)) (p2ss_one (p2s_raise x_Refused (hr.mono (by decide)) tk (p2cons (p2gint g_MOST_NUMBERED) p2nil))) p2ss_nil)
      (p2ss_one (p2s_ret (p2v 1))))))) purew_numbered_parts
theorem ok_factorial {f : Addr} {fd : FuncData} (F : Fun K "factorial" "factorial" s_factorial f fd) (z_range : mg "range" = none) : FnOk P w K mg base (L2.CX P w) 1 f fd ["number"] (lowSp K sp_factorial) :=
  fn2 (t := t_factorial) F sc_factorial len_factorial (fun cdv A outer s H E hr tk po => by
    have hu := hr.units
    have hnd := sc_factorial.nd
    exact (p2ss_cons (p2s_set (i := 1) sc_factorial.nd p2int)
      (p2ss_cons (p2s_for (p2i_rng2 z_range p2int (p2op o2add (p2v 0) p2int)) (p2g_name (i := 2) sc_factorial.nd) (p2ss_one (p2s_set (i := 1) sc_factorial.nd (p2op o2mul (p2v 1) (p2v 2)))) po)
      (p2ss_one (p2s_ret (p2v 1)))))) pure_factorial
theorem ok_power_of {f : Addr} {fd : FuncData} (F : Fun K "power_of" "power_of" s_power_of f fd) (z_range : mg "range" = none) : FnOk P w K mg base (L2.CX P w) 1 f fd ["number", "often"] (lowSp K sp_power_of) :=
  fn2 (t := t_power_of) F sc_power_of len_power_of (fun cdv A outer s H E hr tk po => by
    have hu := hr.units
    have hnd := sc_power_of.nd
    exact (p2ss_cons (p2s_set (i := 2) sc_power_of.nd p2int)
      (p2ss_cons (p2s_for (p2i_rng1 z_range (p2v 1)) (p2g_name (i := 3) sc_power_of.nd) (p2ss_one (p2s_set (i := 2) sc_power_of.nd (p2op o2mul (p2v 2) (p2v 0)))) po)
      (p2ss_one (p2s_ret (p2v 2)))))) pure_power_of
theorem ok_common_part {f : Addr} {fd : FuncData} (F : Fun K "common_part" "common_part" s_common_part f fd) : FnOk P w K mg base (L2.CX P w) 1 f fd ["one", "other"] (lowSp K sp_common_part) :=
  fn2 (t := t_common_part) F sc_common_part len_common_part (fun cdv A outer s H E hr tk po => by
    have hu := hr.units
    have hnd := sc_common_part.nd
    exact (p2ss_cons (p2s_while (p2tc o2gt (p2v 1) p2int) (p2ss_one (p2s_par (i := 0) (j := 1) sc_common_part.nd (p2v 1) (p2op o2mod (p2v 0) (p2v 1)))) po)
      (p2ss_one (p2s_ret (p2v 0))))) pure_common_part
theorem ok_factorial_number {f : Addr} {fd : FuncData} (F : Fun K "factorial_number" "factorial_number" s_factorial_number f fd) (c_checked_clock : Ca P w K mg base "checked_clock" 3 sp_checked_clock) (c_common_part : Ca P w K mg base "common_part" 1 sp_common_part) (x_Refused : Rz P w K mg base "Refused") {tk_MOST_FACTORIAL : Tok} (g_MOST_FACTORIAL : mg "MOST_FACTORIAL" = some (.int 5000 tk_MOST_FACTORIAL)) : FnOk P w K mg base (L2.CX P w) 4 f fd ["m"] (lowSp K sp_factorial_number) :=
  fn2 (t := t_factorial_number) F sc_factorial_number len_factorial_number (fun cdv A outer s H E hr tk po => by
    have hu := hr.units
    have hnd := sc_factorial_number.nd
    exact (p2ss_cons (p2s_expr (p2callC c_checked_clock (hr.mono (by decide)) tk (p2cons (p2v 0) p2nil)))
      (p2ss_cons (p2s_asg (p2tup (p2cons p2int (p2cons p2int p2nil))) (p2g_tup (p2gs_cons (p2g_name (i := 1) sc_factorial_number.nd) (p2gs_cons (p2g_name (i := 2) sc_factorial_number.nd) p2gs_nil))))
      (p2ss_cons (p2s_while (p2tc (o2ne hu) (p2v 1) (p2v 0)) (p2ss_cons (p2s_aug (i := 2) sc_factorial_number.nd ip_add p2int)
      (p2ss_cons (p2s_if (p2tc o2gt (p2v 2) (p2gint g_MOST_FACTORIAL)) (p2ss_one (p2s_raise x_Refused (hr.mono (by decide)) tk (p2cons (p2gint g_MOST_FACTORIAL) p2nil))) p2ss_nil)
      (p2ss_one (p2s_set (i := 1) sc_factorial_number.nd (p2callC c_common_part (hr.mono (by decide)) tk (p2cons (p2v 0) (p2cons (p2op o2mul (p2v 1) (p2callC c_common_part (hr.mono (by decide)) tk (p2cons (p2v 0) (p2cons (p2v 2) p2nil)))) p2nil))))))) po)
      (p2ss_one (p2s_ret (p2v 2))))))) pure_factorial_number
theorem ok_ways_beyond_squares {f : Addr} {fd : FuncData} (F : Fun K "ways_beyond_squares" "ways_beyond_squares" s_ways_beyond_squares f fd) (c_power_of : Ca P w K mg base "power_of" 1 sp_power_of) (c_factorial_number : Ca P w K mg base "factorial_number" 4 sp_factorial_number) (z_range : mg "range" = none) : FnOk P w K mg base (L2.CX P w) 5 f fd ["prime", "often"] (lowSp K sp_ways_beyond_squares) :=
  fn2 (t := t_ways_beyond_squares) F sc_ways_beyond_squares len_ways_beyond_squares (fun cdv A outer s H E hr tk po => by
    have hu := hr.units
    have hnd := sc_ways_beyond_squares.nd
    exact (p2ss_cons (p2s_par (i := 2) (j := 3) sc_ways_beyond_squares.nd p2int (p2op o2mul (p2v 0) (p2v 0)))
      (p2ss_cons (p2s_for (p2i_rng2 z_range p2int (p2op o2add (p2v 1) p2int)) (p2g_name (i := 4) sc_ways_beyond_squares.nd) (p2ss_cons (p2s_set (i := 3) sc_ways_beyond_squares.nd (p2op o2mul (p2v 3) (p2v 0)))
      (p2ss_one (p2s_set (i := 2) sc_ways_beyond_squares.nd (p2op o2mul (p2v 2) (p2callC c_power_of (hr.mono (by decide)) tk (p2cons (p2v 0) (p2cons (p2callC c_factorial_number (hr.mono (by decide)) tk (p2cons (p2v 3) p2nil)) p2nil))))))) po)
      (p2ss_one (p2s_ret (p2v 2)))))) pure_ways_beyond_squares
theorem ok_count_by_part {f : Addr} {fd : FuncData} (F : Fun K "count_by_part" "count_by_part" s_count_by_part f fd) (c_factorial : Ca P w K mg base "factorial" 1 sp_factorial) (c_ways_beyond_squares : Ca P w K mg base "ways_beyond_squares" 5 sp_ways_beyond_squares) (c_power_of : Ca P w K mg base "power_of" 1 sp_power_of) : FnOk P w K mg base (L2.CX P w) 6 f fd ["prime", "often"] (lowSp K sp_count_by_part) :=
  fn2 (t := t_count_by_part) F sc_count_by_part len_count_by_part (fun cdv A outer s H E hr tk po => by
    have hu := hr.units
    have hnd := sc_count_by_part.nd
    exact (p2ss_cons (p2s_set (i := 2) sc_count_by_part.nd (p2callC c_factorial (hr.mono (by decide)) tk (p2cons (p2v 0) p2nil)))
      (p2ss_cons (p2s_if (p2tc (o2eq hu) (p2v 1) p2int) (p2ss_one (p2s_ret (p2v 2))) p2ss_nil)
      (p2ss_one (p2s_ret (p2op o2mul (p2op o2mul (p2op o2mul (p2v 2) (p2callC c_power_of (hr.mono (by decide)) tk (p2cons (p2op o2sub (p2v 0) p2int) (p2cons (p2v 0) p2nil)))) (p2callC c_power_of (hr.mono (by decide)) tk (p2cons (p2v 0) (p2cons (p2v 0) p2nil)))) (p2callC c_ways_beyond_squares (hr.mono (by decide)) tk (p2cons (p2v 0) (p2cons (p2v 1) p2nil))))))))) pure_count_by_part
theorem ok_count_one_for_one {f : Addr} {fd : FuncData} (F : Fun K "count_one_for_one" "count_one_for_one" s_count_one_for_one f fd) (c_numbered_parts : Ca P w K mg base "numbered_parts" 4 spw_numbered_parts) (c_count_by_part : Ca P w K mg base "count_by_part" 6 sp_count_by_part) : FnOk P w K mg base (L2.CX P w) 7 f fd ["m"] (lowSp K spw_count_one_for_one) :=
  fn2 (t := tw_count_one_for_one) F sc_count_one_for_one lenw_count_one_for_one (fun cdv A outer s H E hr tk po => by
    have hu := hr.units
    have hnd := sc_count_one_for_one.nd
    exact (p2ss_cons (p2s_set (i := 1) sc_count_one_for_one.nd p2int)
      (p2ss_cons (p2s_for (p2i_seq (p2callC c_numbered_parts (hr.mono (by decide)) tk (p2cons (p2v 0) p2nil))) (p2g_tup (p2gs_cons (p2g_name (i := 2) sc_count_one_for_one.nd) (p2gs_cons (p2g_name (i := 3) sc_count_one_for_one.nd) p2gs_nil))) (p2ss_one (p2s_set (i := 1) sc_count_one_for_one.nd (p2op o2mul (p2v 1) (p2callC c_count_by_part (hr.mono (by decide)) tk (p2cons (p2v 2) (p2cons (p2v 3) p2nil)))))) po)
      (p2ss_one (p2s_ret (p2v 1)))))) purew_count_one_for_one
theorem ok_law {f : Addr} {fd : FuncData} (c__law_draw : Ca P w K mg base "_law_draw" 1 spw__law_draw) (c__law_of : Ca P w K mg base "_law_of" 2 sp__law_of) (c__law_same : Ca P w K mg base "_law_same" 4 sp__law_same) (c__law_gone_through : Ca P w K mg base "_law_gone_through" 3 sp__law_gone_through) (c__law_due : Ca P w K mg base "_law_due" 2 sp__law_due) (c__law_bad_clock : Ca P w K mg base "_law_bad_clock" 3 sp__law_bad_clock) (c__law_rough : Ca P w K mg base "_law_rough" 3 sp__law_rough) (c__law_small_clock : Ca P w K mg base "_law_small_clock" 3 sp__law_small_clock) (c_count_one_for_one : Ca P w K mg base "count_one_for_one" 7 spw_count_one_for_one) (c__law_any : Ca P w K mg base "_law_any" 1 sp__law_any) (ck_count_one_for_one_0_m : CaK P w K mg base "count_one_for_one" 7 spw_count_one_for_one ["m"] ["m"] 0 [0]) {cC PC : Addr} (TB : LamX.TabB base mg cC PC) (mT : (PC, (("law" : Str) ++ ".<locals>." ++ "<lambda>" : Str)) ∈ Tbs) (uT : ∀ p ∈ Tbs, p.1 = PC → p.2 = (("law" : Str) ++ ".<locals>." ++ "<lambda>" : Str)) (hd__law_heard : HeardK K mg "_law_heard" "work" ["InvalidFormula", "InvalidClock", "InvalidQuestion", "Refused"] [("InvalidClock", Str.ofString "clock"), ("InvalidFormula", Str.ofString "formula"), ("InvalidQuestion", Str.ofString "question"), ("Refused", Str.ofString "refused")] (Str.ofString "told")) (z_int : mg "int" = none) (z_range : mg "range" = none) (F : FunC K "law" "law" s_law f fd cC) : FnOk P w K mg base (L2.CX P w) 10 f fd ["script"] (lowSp K sp_law) :=
  fn2C (t := t_law) F sc_law len_law (fun A outer s H E hr tk po => by
    have hu := hr.units
    have hnd := sc_law.nd
    exact (p2ss_cons (p2s_set (i := 1) sc_law.nd (p2callC c__law_draw (hr.mono (by decide)) tk (p2cons (p2v 0) (p2cons p2int p2nil))))
      (p2ss_cons (p2s_set (i := 6) sc_law.nd (p2callC c__law_of (hr.mono (by decide)) tk (p2cons (p2v 1) (p2cons (p2sc (p2lst (p2cons p2int (p2cons p2int (p2cons p2int (p2cons p2int (p2cons p2int (p2cons p2int (p2cons p2int (p2cons p2int (p2cons p2int p2nil))))))))))) p2nil))))
      (p2ss_cons (p2s_set (i := 2) sc_law.nd (p2if (p2or (p2tc o2lt (p2v 6) p2int) (p2or (p2tc (o2eq hu) (p2v 6) p2int) (p2or1 (p2and (p2tc (o2eq hu) (p2v 6) p2int) (p2and1 (p2tc (o2eq hu) (p2callC c__law_any (hr.mono (by decide)) tk (p2cons (p2v 1) (p2cons p2int p2nil))) p2int))).pt))).pt (p2callC c__law_gone_through (hr.mono (by decide)) tk (p2cons (p2v 6) p2nil)) (p2callC c__law_due (hr.mono (by decide)) tk (p2cons (p2v 6) p2nil))))
      (p2ss_cons (p2s_if (p2or (p2not (p2t (p2callC c__law_same (hr.mono (by decide)) tk (p2cons (p2heard (k := 7) hd__law_heard TB rfl mT uT (hr.mono (by decide)) (fun A outer s H E f2 c2 hr => (p2callK0C (ks := ["m"]) ck_count_one_for_one_0_m (hr.mono (by decide)) (takes_of rfl rfl rfl rfl) (p2kcons (p2v 6) p2knil))) (L := by show LamX.lamSB (defScope s_law) _ = true; decide +kernel)) (p2cons (p2tup (p2cons p2str (p2cons (p2v 2) p2nil))) p2nil))))) (p2or1 (p2tc (o2ne hu) (p2v 2) (p2callC c__law_due (hr.mono (by decide)) tk (p2cons (p2v 6) p2nil))))).pt (p2ss_one (p2s_ret p2bl)) p2ss_nil)
      (p2ss_cons (p2s_for (p2i_rng1 z_range p2int) (p2g_name (i := 3) sc_law.nd) (p2ss_cons (p2s_set (i := 6) sc_law.nd (p2callC c__law_of (hr.mono (by decide)) tk (p2cons (p2v 1) (p2cons (p2sc (p2lst (p2cons (p2callC c__law_small_clock (hr.mono (by decide)) tk (p2cons (p2v 1) (p2cons p2int p2nil))) (p2cons (p2callC c__law_of (hr.mono (by decide)) tk (p2cons (p2v 1) (p2cons (p2sc (p2lst (p2cons p2int (p2cons p2int (p2cons p2int (p2cons p2int (p2cons p2int (p2cons p2int (p2cons p2int (p2cons p2int (p2cons p2int (p2cons p2int (p2cons p2int (p2cons p2int (p2cons p2int (p2cons p2int (p2cons p2int (p2cons p2int (p2cons p2int (p2cons p2int p2nil)))))))))))))))))))) p2nil))) p2nil)))) p2nil))))
      (p2ss_cons (p2s_set (i := 7) sc_law.nd (p2cmp (o2ne hu) (p2sc (p2lc1 (i := 9) sc_law.nd (p2i_rng2 z_range p2int (p2op o2add (p2v 6) p2int)) (okB (N := N_law) (sc := defScope s_law) (by decide +kernel)) (fun _ _ _ _ _ => (p2ts_one (p2and (p2tc (o2eq hu) (p2op o2mod (p2callT b2int z_int (p2cons (p2v 6) p2nil)) (p2v 9)) p2int) (p2and1 (p2tc (o2eq hu) (p2sc (p2lc1 (i := 10) sc_law.nd (p2i_rng2 z_range p2int p2int) (okB (by kernel_rfl)) (fun _ _ _ _ _ => (p2ts_one (p2and (p2tc o2lt (p2v 10) (p2v 9)) (p2and1 (p2tc (o2eq hu) (p2op o2mod (p2callT b2int z_int (p2cons (p2v 9) p2nil)) (p2v 10)) p2int))).pt)) (fun _ _ _ _ _ => (p2v 10)))) (p2sc (p2lst p2nil))))).pt)) (fun _ _ _ _ _ => (p2v 9)))) (p2sc (p2lst p2nil))))
      (p2ss_cons (p2s_set (i := 4) sc_law.nd (p2heard (k := 7) hd__law_heard TB rfl mT uT (hr.mono (by decide)) (fun A outer s H E f2 c2 hr => (p2callC c_count_one_for_one (hr.mono (by decide)) (takes_of rfl rfl rfl rfl) (p2cons (p2v 6) p2nil))) (L := by show LamX.lamSB (defScope s_law) _ = true; decide +kernel)))
      (p2ss_one (p2s_if (p2not (p2t (p2callC c__law_same (hr.mono (by decide)) tk (p2cons (p2v 4) (p2cons (p2if (p2t (p2v 7)) (p2tup (p2cons p2str (p2cons p2int p2nil))) (p2tup (p2cons p2str (p2cons (p2callC c__law_due (hr.mono (by decide)) tk (p2cons (p2v 6) p2nil)) p2nil)))) p2nil))))) (p2ss_one (p2s_ret p2bl)) p2ss_nil))))) po)
      (p2ss_cons (p2s_set (i := 8) sc_law.nd (p2callC c__law_of (hr.mono (by decide)) tk (p2cons (p2v 1) (p2cons (p2sc (p2lst (p2cons p2int (p2cons p2int (p2cons (p2op o2mul (p2op o2pow p2int p2int) (p2op o2pow p2int p2int)) (p2cons (p2op o2pow p2int p2int) (p2cons (p2op o2mul p2int p2int) (p2cons (p2op o2mul p2int p2int) (p2cons p2int (p2cons p2int p2nil)))))))))) p2nil))))
      (p2ss_cons (p2s_asg (p2tup (p2cons (p2callC c__law_bad_clock (hr.mono (by decide)) tk (p2cons (p2v 1) p2nil)) (p2cons (p2callC c__law_rough (hr.mono (by decide)) tk (p2cons (p2v 1) p2nil)) p2nil))) (p2g_tup (p2gs_cons (p2g_name (i := 5) sc_law.nd) (p2gs_cons (p2g_name (i := 7) sc_law.nd) p2gs_nil))))
      (p2ss_cons (p2s_set (i := 4) sc_law.nd (p2sc (p2lst (p2cons (p2heard (k := 7) hd__law_heard TB rfl mT uT (hr.mono (by decide)) (fun A outer s H E f2 c2 hr => (p2callC c_count_one_for_one (hr.mono (by decide)) (takes_of rfl rfl rfl rfl) (p2cons (p2v 8) p2nil))) (L := by show LamX.lamSB (defScope s_law) _ = true; decide +kernel)) (p2cons (p2heard (k := 7) hd__law_heard TB rfl mT uT (hr.mono (by decide)) (fun A outer s H E f2 c2 hr => (p2callC c_count_one_for_one (hr.mono (by decide)) (takes_of rfl rfl rfl rfl) (p2cons (p2v 5) p2nil))) (L := by show LamX.lamSB (defScope s_law) _ = true; decide +kernel)) (p2cons (p2heard (k := 7) hd__law_heard TB rfl mT uT (hr.mono (by decide)) (fun A outer s H E f2 c2 hr => (p2callC c_count_one_for_one (hr.mono (by decide)) (takes_of rfl rfl rfl rfl) (p2cons (p2v 7) p2nil))) (L := by show LamX.lamSB (defScope s_law) _ = true; decide +kernel)) p2nil))))))
      (p2ss_one (p2s_ret (p2callC c__law_same (hr.mono (by decide)) tk (p2cons (p2v 4) (p2cons (p2sc (p2lst (p2cons (p2tup (p2cons p2str (p2cons p2int p2nil))) (p2cons (p2tup (p2cons p2str (p2cons p2int p2nil))) (p2cons (p2tup (p2cons p2str (p2cons p2int p2nil))) p2nil))))) p2nil)))))))))))))) pure_law
end
theorem all_mk {P : Program} {w : World} {K : PySem.W.Frag} {h : Heap} {mg : Str → Option Value} {fa : Addr} (X : K.In h) (G : h.Ns mainGlobals mg) (hfa : mg "law" = some (.ref fa))
    {od0 an0 : Option Addr} {sl0 : Array (Option Value)} {oc0 kV0 dc0 pm0 cd0 ct0 : Value} {f0 : Addr}
    {od1 an1 : Option Addr} {sl1 : Array (Option Value)} {oc1 kV1 dc1 pm1 cd1 ct1 : Value} {f1 : Addr}
    {od2 an2 : Option Addr} {sl2 : Array (Option Value)} {oc2 kV2 dc2 pm2 cd2 ct2 : Value} {f2 : Addr}
    {od3 an3 : Option Addr} {sl3 : Array (Option Value)} {oc3 kV3 dc3 pm3 cd3 ct3 : Value} {f3 : Addr}
    {od4 an4 : Option Addr} {sl4 : Array (Option Value)} {oc4 kV4 dc4 pm4 cd4 ct4 : Value} {f4 : Addr}
    {od5 an5 : Option Addr} {sl5 : Array (Option Value)} {oc5 kV5 dc5 pm5 cd5 ct5 : Value} {f5 : Addr}
    {od6 an6 : Option Addr} {sl6 : Array (Option Value)} {oc6 kV6 dc6 pm6 cd6 ct6 : Value} {f6 : Addr}
    {od7 an7 : Option Addr} {sl7 : Array (Option Value)} {oc7 kV7 dc7 pm7 cd7 ct7 : Value} {f7 : Addr}
    {od8 an8 : Option Addr} {sl8 : Array (Option Value)} {oc8 kV8 dc8 pm8 cd8 ct8 : Value} {f8 : Addr}
    {od9 an9 : Option Addr} {sl9 : Array (Option Value)} {oc9 kV9 dc9 pm9 cd9 ct9 : Value} {f9 : Addr}
    {od10 an10 : Option Addr} {sl10 : Array (Option Value)} {oc10 kV10 dc10 pm10 cd10 ct10 : Value} {f10 : Addr}
    {od11 an11 : Option Addr} {sl11 : Array (Option Value)} {oc11 kV11 dc11 pm11 cd11 ct11 : Value} {f11 : Addr}
    {od12 an12 : Option Addr} {sl12 : Array (Option Value)} {oc12 kV12 dc12 pm12 cd12 ct12 : Value} {f12 : Addr}
    {od13 an13 : Option Addr} {sl13 : Array (Option Value)} {oc13 kV13 dc13 pm13 cd13 ct13 : Value} {f13 : Addr}
    {od14 an14 : Option Addr} {sl14 : Array (Option Value)} {oc14 kV14 dc14 pm14 cd14 ct14 : Value} {f14 : Addr}
    {od15 an15 : Option Addr} {sl15 : Array (Option Value)} {oc15 kV15 dc15 pm15 cd15 ct15 : Value} {f15 : Addr}
    {od16 an16 : Option Addr} {sl16 : Array (Option Value)} {oc16 kV16 dc16 pm16 cd16 ct16 : Value} {f16 : Addr}
    {od17 an17 : Option Addr} {sl17 : Array (Option Value)} {oc17 kV17 dc17 pm17 cd17 ct17 : Value} {f17 : Addr}
    {od18 an18 : Option Addr} {sl18 : Array (Option Value)} {oc18 kV18 dc18 pm18 cd18 ct18 : Value} {f18 : Addr}
    {od19 an19 : Option Addr} {sl19 : Array (Option Value)} {oc19 kV19 dc19 pm19 cd19 ct19 : Value} {f19 : Addr}
    {od20 an20 : Option Addr} {sl20 : Array (Option Value)} {oc20 kV20 dc20 pm20 cd20 ct20 : Value} {f20 : Addr}
    {od21 an21 : Option Addr} {sl21 : Array (Option Value)} {oc21 kV21 dc21 pm21 cd21 ct21 : Value} {f21 : Addr}
    {od22 an22 : Option Addr} {sl22 : Array (Option Value)} {oc22 kV22 dc22 pm22 cd22 ct22 : Value} {f22 : Addr}
    {od23 an23 : Option Addr} {sl23 : Array (Option Value)} {oc23 kV23 dc23 pm23 cd23 ct23 : Value} {f23 : Addr}
    {od24 an24 : Option Addr} {sl24 : Array (Option Value)} {oc24 kV24 dc24 pm24 cd24 ct24 : Value} {f24 : Addr}
    {od25 an25 : Option Addr} {sl25 : Array (Option Value)} {oc25 kV25 dc25 pm25 cd25 ct25 : Value} {f25 : Addr}
    {cc26 PP26 : Addr}
    {od26 an26 : Option Addr} {sl26 : Array (Option Value)} {oc26 kV26 dc26 pm26 ct26 : Value} {f26 : Addr}
    {od27 an27 : Option Addr} {sl27 : Array (Option Value)} {oc27 kV27 dc27 pm27 cd27 ct27 : Value} {f27 : Addr}
    {tk_MOST_CLOCK : Tok}
    {tk_MOST_FACTORIAL : Tok}
    {tk_MOST_FINE : Tok}
    {tk_MOST_NUMBERED : Tok}
    {C_InvalidClock : Addr}
    {C_InvalidFormula : Addr}
    {C_InvalidQuestion : Addr}
    {C_Refused : Addr}
    {fI_InvalidClock cc_InvalidClock cda_InvalidClock N_InvalidClock : Addr} {nm_InvalidClock q_InvalidClock : Str} {bs_InvalidClock bm_InvalidClock sub_InvalidClock : List Value} {sn_InvalidClock : List Str} {ab_InvalidClock : Bool} {col_InvalidClock : Option Bool} {dd_InvalidClock : Option Addr} {k0_InvalidClock k1_InvalidClock k2_InvalidClock k3_InvalidClock k5_InvalidClock : Option Value}
    {oc_InvalidClock kV_InvalidClock doc_InvalidClock pm_InvalidClock ct_InvalidClock ccl_InvalidClock cl_InvalidClock : Value} {od_InvalidClock an_InvalidClock cdd_InvalidClock cld_InvalidClock : Option Addr} {osl_InvalidClock ccs_InvalidClock csl_InvalidClock : Array (Option Value)} {vs_InvalidClock : Array Value} {file_InvalidClock : Str} {tf_InvalidClock : Tok}
    {fI_Refused cc_Refused cda_Refused N_Refused : Addr} {nm_Refused q_Refused : Str} {bs_Refused bm_Refused sub_Refused : List Value} {sn_Refused : List Str} {ab_Refused : Bool} {col_Refused : Option Bool} {dd_Refused : Option Addr} {k0_Refused k1_Refused k2_Refused k3_Refused k5_Refused : Option Value}
    {oc_Refused kV_Refused doc_Refused pm_Refused ct_Refused ccl_Refused cl_Refused : Value} {od_Refused an_Refused cdd_Refused cld_Refused : Option Addr} {osl_Refused ccs_Refused csl_Refused : Array (Option Value)} {vs_Refused : Array Value} {file_Refused : Str} {tf_Refused : Tok}
    (a0 : PySem.W.nsIn K mainGlobals "_law_draw" = some (some (.ref f0))) (l0 : K.lookup f0 = some ⟨oc0, od0, .func (PySem.W.fnOf "_law_draw" "_law_draw" (defArgs s__law_draw) (defBody s__law_draw) (defScope s__law_draw) .none kV0 dc0 pm0 an0 cd0 ct0), sl0⟩) (d0 : PySem.W.codeIn K cd0 "_law_draw" = true) (k0 : PySem.W.keepIn K (.ref f0) = true)
    (a1 : PySem.W.nsIn K mainGlobals "_law_any" = some (some (.ref f1))) (l1 : K.lookup f1 = some ⟨oc1, od1, .func (PySem.W.fnOf "_law_any" "_law_any" (defArgs s__law_any) (defBody s__law_any) (defScope s__law_any) .none kV1 dc1 pm1 an1 cd1 ct1), sl1⟩) (d1 : PySem.W.codeIn K cd1 "_law_any" = true) (k1 : PySem.W.keepIn K (.ref f1) = true)
    (a2 : PySem.W.nsIn K mainGlobals "_law_of" = some (some (.ref f2))) (l2 : K.lookup f2 = some ⟨oc2, od2, .func (PySem.W.fnOf "_law_of" "_law_of" (defArgs s__law_of) (defBody s__law_of) (defScope s__law_of) .none kV2 dc2 pm2 an2 cd2 ct2), sl2⟩) (d2 : PySem.W.codeIn K cd2 "_law_of" = true) (k2 : PySem.W.keepIn K (.ref f2) = true)
    (a3 : PySem.W.nsIn K mainGlobals "_law_same" = some (some (.ref f3))) (l3 : K.lookup f3 = some ⟨oc3, od3, .func (PySem.W.fnOf "_law_same" "_law_same" (defArgs s__law_same) (defBody s__law_same) (defScope s__law_same) .none kV3 dc3 pm3 an3 cd3 ct3), sl3⟩) (d3 : PySem.W.codeIn K cd3 "_law_same" = true) (k3 : PySem.W.keepIn K (.ref f3) = true)
    (a4 : PySem.W.nsIn K mainGlobals "_law_needed" = some (some (.ref f4))) (l4 : K.lookup f4 = some ⟨oc4, od4, .func (PySem.W.fnOf "_law_needed" "_law_needed" (defArgs s__law_needed) (defBody s__law_needed) (defScope s__law_needed) .none kV4 dc4 pm4 an4 cd4 ct4), sl4⟩) (d4 : PySem.W.codeIn K cd4 "_law_needed" = true) (k4 : PySem.W.keepIn K (.ref f4) = true)
    (a5 : PySem.W.nsIn K mainGlobals "_law_part" = some (some (.ref f5))) (l5 : K.lookup f5 = some ⟨oc5, od5, .func (PySem.W.fnOf "_law_part" "_law_part" (defArgs s__law_part) (defBody s__law_part) (defScope s__law_part) .none kV5 dc5 pm5 an5 cd5 ct5), sl5⟩) (d5 : PySem.W.codeIn K cd5 "_law_part" = true) (k5 : PySem.W.keepIn K (.ref f5) = true)
    (a6 : PySem.W.nsIn K mainGlobals "_law_shared" = some (some (.ref f6))) (l6 : K.lookup f6 = some ⟨oc6, od6, .func (PySem.W.fnOf "_law_shared" "_law_shared" (defArgs s__law_shared) (defBody s__law_shared) (defScope s__law_shared) .none kV6 dc6 pm6 an6 cd6 ct6), sl6⟩) (d6 : PySem.W.codeIn K cd6 "_law_shared" = true) (k6 : PySem.W.keepIn K (.ref f6) = true)
    (a7 : PySem.W.nsIn K mainGlobals "_law_gone_through" = some (some (.ref f7))) (l7 : K.lookup f7 = some ⟨oc7, od7, .func (PySem.W.fnOf "_law_gone_through" "_law_gone_through" (defArgs s__law_gone_through) (defBody s__law_gone_through) (defScope s__law_gone_through) .none kV7 dc7 pm7 an7 cd7 ct7), sl7⟩) (d7 : PySem.W.codeIn K cd7 "_law_gone_through" = true) (k7 : PySem.W.keepIn K (.ref f7) = true)
    (a8 : PySem.W.nsIn K mainGlobals "_law_power" = some (some (.ref f8))) (l8 : K.lookup f8 = some ⟨oc8, od8, .func (PySem.W.fnOf "_law_power" "_law_power" (defArgs s__law_power) (defBody s__law_power) (defScope s__law_power) .none kV8 dc8 pm8 an8 cd8 ct8), sl8⟩) (d8 : PySem.W.codeIn K cd8 "_law_power" = true) (k8 : PySem.W.keepIn K (.ref f8) = true)
    (a9 : PySem.W.nsIn K mainGlobals "_law_due" = some (some (.ref f9))) (l9 : K.lookup f9 = some ⟨oc9, od9, .func (PySem.W.fnOf "_law_due" "_law_due" (defArgs s__law_due) (defBody s__law_due) (defScope s__law_due) .none kV9 dc9 pm9 an9 cd9 ct9), sl9⟩) (d9 : PySem.W.codeIn K cd9 "_law_due" = true) (k9 : PySem.W.keepIn K (.ref f9) = true)
    (a10 : PySem.W.nsIn K mainGlobals "_law_bad_clock" = some (some (.ref f10))) (l10 : K.lookup f10 = some ⟨oc10, od10, .func (PySem.W.fnOf "_law_bad_clock" "_law_bad_clock" (defArgs s__law_bad_clock) (defBody s__law_bad_clock) (defScope s__law_bad_clock) .none kV10 dc10 pm10 an10 cd10 ct10), sl10⟩) (d10 : PySem.W.codeIn K cd10 "_law_bad_clock" = true) (k10 : PySem.W.keepIn K (.ref f10) = true)
    (a11 : PySem.W.nsIn K mainGlobals "_law_rough" = some (some (.ref f11))) (l11 : K.lookup f11 = some ⟨oc11, od11, .func (PySem.W.fnOf "_law_rough" "_law_rough" (defArgs s__law_rough) (defBody s__law_rough) (defScope s__law_rough) .none kV11 dc11 pm11 an11 cd11 ct11), sl11⟩) (d11 : PySem.W.codeIn K cd11 "_law_rough" = true) (k11 : PySem.W.keepIn K (.ref f11) = true)
    (a12 : PySem.W.nsIn K mainGlobals "_law_small_clock" = some (some (.ref f12))) (l12 : K.lookup f12 = some ⟨oc12, od12, .func (PySem.W.fnOf "_law_small_clock" "_law_small_clock" (defArgs s__law_small_clock) (defBody s__law_small_clock) (defScope s__law_small_clock) .none kV12 dc12 pm12 an12 cd12 ct12), sl12⟩) (d12 : PySem.W.codeIn K cd12 "_law_small_clock" = true) (k12 : PySem.W.keepIn K (.ref f12) = true)
    (a13 : PySem.W.nsIn K mainGlobals "is_integer" = some (some (.ref f13))) (l13 : K.lookup f13 = some ⟨oc13, od13, .func (PySem.W.fnOf "is_integer" "is_integer" (defArgs s_is_integer) (defBody s_is_integer) (defScope s_is_integer) .none kV13 dc13 pm13 an13 cd13 ct13), sl13⟩) (d13 : PySem.W.codeIn K cd13 "is_integer" = true) (k13 : PySem.W.keepIn K (.ref f13) = true)
    (a14 : PySem.W.nsIn K mainGlobals "is_clock" = some (some (.ref f14))) (l14 : K.lookup f14 = some ⟨oc14, od14, .func (PySem.W.fnOf "is_clock" "is_clock" (defArgs s_is_clock) (defBody s_is_clock) (defScope s_is_clock) .none kV14 dc14 pm14 an14 cd14 ct14), sl14⟩) (d14 : PySem.W.codeIn K cd14 "is_clock" = true) (k14 : PySem.W.keepIn K (.ref f14) = true)
    (a15 : PySem.W.nsIn K mainGlobals "checked_clock" = some (some (.ref f15))) (l15 : K.lookup f15 = some ⟨oc15, od15, .func (PySem.W.fnOf "checked_clock" "checked_clock" (defArgs s_checked_clock) (defBody s_checked_clock) (defScope s_checked_clock) .none kV15 dc15 pm15 an15 cd15 ct15), sl15⟩) (d15 : PySem.W.codeIn K cd15 "checked_clock" = true) (k15 : PySem.W.keepIn K (.ref f15) = true)
    (a16 : PySem.W.nsIn K mainGlobals "parts_and_rest" = some (some (.ref f16))) (l16 : K.lookup f16 = some ⟨oc16, od16, .func (PySem.W.fnOf "parts_and_rest" "parts_and_rest" (defArgs s_parts_and_rest) (defBody s_parts_and_rest) (defScope s_parts_and_rest) .none kV16 dc16 pm16 an16 cd16 ct16), sl16⟩) (d16 : PySem.W.codeIn K cd16 "parts_and_rest" = true) (k16 : PySem.W.keepIn K (.ref f16) = true)
    (a17 : PySem.W.nsIn K mainGlobals "fine_parts" = some (some (.ref f17))) (l17 : K.lookup f17 = some ⟨oc17, od17, .func (PySem.W.fnOf "fine_parts" "fine_parts" (defArgs s_fine_parts) (defBody s_fine_parts) (defScope s_fine_parts) .none kV17 dc17 pm17 an17 cd17 ct17), sl17⟩) (d17 : PySem.W.codeIn K cd17 "fine_parts" = true) (k17 : PySem.W.keepIn K (.ref f17) = true)
    (a18 : PySem.W.nsIn K mainGlobals "numbered_parts" = some (some (.ref f18))) (l18 : K.lookup f18 = some ⟨oc18, od18, .func (PySem.W.fnOf "numbered_parts" "numbered_parts" (defArgs s_numbered_parts) (defBody s_numbered_parts) (defScope s_numbered_parts) .none kV18 dc18 pm18 an18 cd18 ct18), sl18⟩) (d18 : PySem.W.codeIn K cd18 "numbered_parts" = true) (k18 : PySem.W.keepIn K (.ref f18) = true)
    (a19 : PySem.W.nsIn K mainGlobals "factorial" = some (some (.ref f19))) (l19 : K.lookup f19 = some ⟨oc19, od19, .func (PySem.W.fnOf "factorial" "factorial" (defArgs s_factorial) (defBody s_factorial) (defScope s_factorial) .none kV19 dc19 pm19 an19 cd19 ct19), sl19⟩) (d19 : PySem.W.codeIn K cd19 "factorial" = true) (k19 : PySem.W.keepIn K (.ref f19) = true)
    (a20 : PySem.W.nsIn K mainGlobals "power_of" = some (some (.ref f20))) (l20 : K.lookup f20 = some ⟨oc20, od20, .func (PySem.W.fnOf "power_of" "power_of" (defArgs s_power_of) (defBody s_power_of) (defScope s_power_of) .none kV20 dc20 pm20 an20 cd20 ct20), sl20⟩) (d20 : PySem.W.codeIn K cd20 "power_of" = true) (k20 : PySem.W.keepIn K (.ref f20) = true)
    (a21 : PySem.W.nsIn K mainGlobals "common_part" = some (some (.ref f21))) (l21 : K.lookup f21 = some ⟨oc21, od21, .func (PySem.W.fnOf "common_part" "common_part" (defArgs s_common_part) (defBody s_common_part) (defScope s_common_part) .none kV21 dc21 pm21 an21 cd21 ct21), sl21⟩) (d21 : PySem.W.codeIn K cd21 "common_part" = true) (k21 : PySem.W.keepIn K (.ref f21) = true)
    (a22 : PySem.W.nsIn K mainGlobals "factorial_number" = some (some (.ref f22))) (l22 : K.lookup f22 = some ⟨oc22, od22, .func (PySem.W.fnOf "factorial_number" "factorial_number" (defArgs s_factorial_number) (defBody s_factorial_number) (defScope s_factorial_number) .none kV22 dc22 pm22 an22 cd22 ct22), sl22⟩) (d22 : PySem.W.codeIn K cd22 "factorial_number" = true) (k22 : PySem.W.keepIn K (.ref f22) = true)
    (a23 : PySem.W.nsIn K mainGlobals "ways_beyond_squares" = some (some (.ref f23))) (l23 : K.lookup f23 = some ⟨oc23, od23, .func (PySem.W.fnOf "ways_beyond_squares" "ways_beyond_squares" (defArgs s_ways_beyond_squares) (defBody s_ways_beyond_squares) (defScope s_ways_beyond_squares) .none kV23 dc23 pm23 an23 cd23 ct23), sl23⟩) (d23 : PySem.W.codeIn K cd23 "ways_beyond_squares" = true) (k23 : PySem.W.keepIn K (.ref f23) = true)
    (a24 : PySem.W.nsIn K mainGlobals "count_by_part" = some (some (.ref f24))) (l24 : K.lookup f24 = some ⟨oc24, od24, .func (PySem.W.fnOf "count_by_part" "count_by_part" (defArgs s_count_by_part) (defBody s_count_by_part) (defScope s_count_by_part) .none kV24 dc24 pm24 an24 cd24 ct24), sl24⟩) (d24 : PySem.W.codeIn K cd24 "count_by_part" = true) (k24 : PySem.W.keepIn K (.ref f24) = true)
    (a25 : PySem.W.nsIn K mainGlobals "count_one_for_one" = some (some (.ref f25))) (l25 : K.lookup f25 = some ⟨oc25, od25, .func (PySem.W.fnOf "count_one_for_one" "count_one_for_one" (defArgs s_count_one_for_one) (defBody s_count_one_for_one) (defScope s_count_one_for_one) .none kV25 dc25 pm25 an25 cd25 ct25), sl25⟩) (d25 : PySem.W.codeIn K cd25 "count_one_for_one" = true) (k25 : PySem.W.keepIn K (.ref f25) = true)
    (a26 : PySem.W.nsIn K mainGlobals "law" = some (some (.ref f26))) (l26 : K.lookup f26 = some ⟨oc26, od26, .func (PySem.W.fnOf "law" "law" (defArgs s_law) (defBody s_law) (defScope s_law) .none kV26 dc26 pm26 an26 (.ref cc26) ct26), sl26⟩) (d26 : PySem.W.codeIn K (.ref cc26) "law" = true) (k26 : PySem.W.keepIn K (.ref f26) = true)
    (a27 : PySem.W.nsIn K mainGlobals "_law_heard" = some (some (.ref f27))) (l27 : K.lookup f27 = some ⟨oc27, od27, .func (PySem.W.fnOf "_law_heard" "_law_heard" (defArgs s__law_heard) (defBody s__law_heard) (defScope s__law_heard) .none kV27 dc27 pm27 an27 cd27 ct27), sl27⟩) (d27 : PySem.W.codeIn K cd27 "_law_heard" = true) (k27 : PySem.W.keepIn K (.ref f27) = true)
    (z_abs : PySem.W.nsIn K mainGlobals "abs" = some none)
    (z_bool : PySem.W.nsIn K mainGlobals "bool" = some none)
    (z_enumerate : PySem.W.nsIn K mainGlobals "enumerate" = some none)
    (z_int : PySem.W.nsIn K mainGlobals "int" = some none)
    (z_isinstance : PySem.W.nsIn K mainGlobals "isinstance" = some none)
    (z_len : PySem.W.nsIn K mainGlobals "len" = some none)
    (z_list : PySem.W.nsIn K mainGlobals "list" = some none)
    (z_range : PySem.W.nsIn K mainGlobals "range" = some none)
    (z_str : PySem.W.nsIn K mainGlobals "str" = some none)
    (z_tuple : PySem.W.nsIn K mainGlobals "tuple" = some none)
    (z_zip : PySem.W.nsIn K mainGlobals "zip" = some none)
    (g_MOST_CLOCK : PySem.W.nsIn K mainGlobals "MOST_CLOCK" = some (some (.int 10000000000000000000000000000000000000000 tk_MOST_CLOCK)))
    (g_MOST_FACTORIAL : PySem.W.nsIn K mainGlobals "MOST_FACTORIAL" = some (some (.int 5000 tk_MOST_FACTORIAL)))
    (g_MOST_FINE : PySem.W.nsIn K mainGlobals "MOST_FINE" = some (some (.int 97 tk_MOST_FINE)))
    (g_MOST_NUMBERED : PySem.W.nsIn K mainGlobals "MOST_NUMBERED" = some (some (.int 600 tk_MOST_NUMBERED)))
    (opq : PySem.W.nsIn K PySem.cStatics "thirdparty.any" = some none)
    (z_super : PySem.W.nsIn K mainGlobals "super" = some none)
    (topS : (P.main.scope.names.lookup ("super" : Str)).isSome = false)
    (a_InvalidClock : PySem.W.nsIn K mainGlobals "InvalidClock" = some (some (.ref C_InvalidClock)))
    (a_InvalidFormula : PySem.W.nsIn K mainGlobals "InvalidFormula" = some (some (.ref C_InvalidFormula)))
    (a_InvalidQuestion : PySem.W.nsIn K mainGlobals "InvalidQuestion" = some (some (.ref C_InvalidQuestion)))
    (a_Refused : PySem.W.nsIn K mainGlobals "Refused" = some (some (.ref C_Refused)))
    (no_InvalidClock : PySem.W.findIn K (.ref C_InvalidClock) "at" = some none)
    (no_InvalidFormula : PySem.W.findIn K (.ref C_InvalidFormula) "at" = some none)
    (no_InvalidQuestion : PySem.W.findIn K (.ref C_InvalidQuestion) "at" = some none)
    (no_Refused : PySem.W.findIn K (.ref C_Refused) "at" = some none)
    (xf_InvalidClock : xfB K C_InvalidClock = true)
    (xf_InvalidFormula : xfB K C_InvalidFormula = true)
    (xf_InvalidQuestion : xfB K C_InvalidQuestion = true)
    (xf_Refused : xfB K C_Refused = true)
    (lC_InvalidClock : K.lookup C_InvalidClock = some (excClassObj nm_InvalidClock q_InvalidClock C_InvalidClock N_InvalidClock bs_InvalidClock bm_InvalidClock true sn_InvalidClock sub_InvalidClock ab_InvalidClock col_InvalidClock dd_InvalidClock k0_InvalidClock k1_InvalidClock k2_InvalidClock k3_InvalidClock k5_InvalidClock "ValueError.__new__"))
    (rv_InvalidClock : PySem.HandSPX.refsVE bm_InvalidClock = true)
    (sa_InvalidClock : PySem.W.findIn K (.ref C_InvalidClock) "__setattr__" = some (some (.builtin "object.__setattr__")))
    (eb_InvalidClock : PySem.W.subIn K (.ref C_InvalidClock) (.type "BaseException") = some true)
    (tC_InvalidClock : PySem.W.typeIn K (.ref C_InvalidClock) = some (.type "type"))
    (kC_InvalidClock : PySem.W.keepIn K (.ref C_InvalidClock) = true)
    (in_InvalidClock : PySem.W.findIn K (.ref C_InvalidClock) "__init__" = some (some (.ref fI_InvalidClock)))
    (tI_InvalidClock : PySem.W.typeIn K (.ref fI_InvalidClock) = some (.type "function"))
    (lI_InvalidClock : K.lookup fI_InvalidClock = some ⟨oc_InvalidClock, od_InvalidClock, .func (PySem.W.ksFn "__init__" "InvalidClock.__init__" (defArgs (clsInit s_InvalidClock)) (defBody (clsInit s_InvalidClock)) (defScope (clsInit s_InvalidClock)) .none kV_InvalidClock doc_InvalidClock pm_InvalidClock an_InvalidClock (.ref cda_InvalidClock) ct_InvalidClock cc_InvalidClock), osl_InvalidClock⟩)
    (cd_InvalidClock : PySem.W.codeIn K (.ref cda_InvalidClock) "InvalidClock.__init__" = true)
    (co_InvalidClock : K.lookup cda_InvalidClock = some ⟨ccl_InvalidClock, cdd_InvalidClock, .fields vs_InvalidClock, ccs_InvalidClock⟩)
    (fi_InvalidClock : vs_InvalidClock[2]? = some (.str file_InvalidClock tf_InvalidClock))
    (mf_InvalidClock : ((P.main.file : Str) == file_InvalidClock) = true)
    (ce_InvalidClock : K.lookup cc_InvalidClock = some ⟨cl_InvalidClock, cld_InvalidClock, .cell (some (.ref C_InvalidClock)), csl_InvalidClock⟩)
    (mr_InvalidClock : PySem.W.mroIn K C_InvalidClock (.ref C_InvalidClock) = some true)
    (si_InvalidClock : PySem.W.ks_superIn K C_InvalidClock C_InvalidClock "__init__" = some (some (.builtin "ValueError.__init__")))
    (ve_InvalidClock : PySem.W.subIn K (.ref C_InvalidClock) (.type "ValueError") = some true)
    (lC_Refused : K.lookup C_Refused = some (excClassObj nm_Refused q_Refused C_Refused N_Refused bs_Refused bm_Refused true sn_Refused sub_Refused ab_Refused col_Refused dd_Refused k0_Refused k1_Refused k2_Refused k3_Refused k5_Refused "ValueError.__new__"))
    (rv_Refused : PySem.HandSPX.refsVE bm_Refused = true)
    (sa_Refused : PySem.W.findIn K (.ref C_Refused) "__setattr__" = some (some (.builtin "object.__setattr__")))
    (eb_Refused : PySem.W.subIn K (.ref C_Refused) (.type "BaseException") = some true)
    (tC_Refused : PySem.W.typeIn K (.ref C_Refused) = some (.type "type"))
    (kC_Refused : PySem.W.keepIn K (.ref C_Refused) = true)
    (in_Refused : PySem.W.findIn K (.ref C_Refused) "__init__" = some (some (.ref fI_Refused)))
    (tI_Refused : PySem.W.typeIn K (.ref fI_Refused) = some (.type "function"))
    (lI_Refused : K.lookup fI_Refused = some ⟨oc_Refused, od_Refused, .func (PySem.W.ksFn "__init__" "Refused.__init__" (defArgs (clsInit s_Refused)) (defBody (clsInit s_Refused)) (defScope (clsInit s_Refused)) .none kV_Refused doc_Refused pm_Refused an_Refused (.ref cda_Refused) ct_Refused cc_Refused), osl_Refused⟩)
    (cd_Refused : PySem.W.codeIn K (.ref cda_Refused) "Refused.__init__" = true)
    (co_Refused : K.lookup cda_Refused = some ⟨ccl_Refused, cdd_Refused, .fields vs_Refused, ccs_Refused⟩)
    (fi_Refused : vs_Refused[2]? = some (.str file_Refused tf_Refused))
    (mf_Refused : ((P.main.file : Str) == file_Refused) = true)
    (ce_Refused : K.lookup cc_Refused = some ⟨cl_Refused, cld_Refused, .cell (some (.ref C_Refused)), csl_Refused⟩)
    (mr_Refused : PySem.W.mroIn K C_Refused (.ref C_Refused) = some true)
    (si_Refused : PySem.W.ks_superIn K C_Refused C_Refused "__init__" = some (some (.builtin "ValueError.__init__")))
    (ve_Refused : PySem.W.subIn K (.ref C_Refused) (.type "ValueError") = some true)
    (ex_InvalidFormula_InvalidClock : PySem.W.exmOne K (.ref C_InvalidFormula) (.ref C_InvalidClock) = some false)
    (ex_InvalidClock_InvalidClock : PySem.W.exmOne K (.ref C_InvalidClock) (.ref C_InvalidClock) = some true)
    (ex_InvalidQuestion_InvalidClock : PySem.W.exmOne K (.ref C_InvalidQuestion) (.ref C_InvalidClock) = some false)
    (ex_Refused_InvalidClock : PySem.W.exmOne K (.ref C_Refused) (.ref C_InvalidClock) = some false)
    (ex_InvalidFormula_InvalidFormula : PySem.W.exmOne K (.ref C_InvalidFormula) (.ref C_InvalidFormula) = some true)
    (ex_InvalidClock_InvalidFormula : PySem.W.exmOne K (.ref C_InvalidClock) (.ref C_InvalidFormula) = some false)
    (ex_InvalidQuestion_InvalidFormula : PySem.W.exmOne K (.ref C_InvalidQuestion) (.ref C_InvalidFormula) = some false)
    (ex_Refused_InvalidFormula : PySem.W.exmOne K (.ref C_Refused) (.ref C_InvalidFormula) = some false)
    (ex_InvalidFormula_InvalidQuestion : PySem.W.exmOne K (.ref C_InvalidFormula) (.ref C_InvalidQuestion) = some false)
    (ex_InvalidClock_InvalidQuestion : PySem.W.exmOne K (.ref C_InvalidClock) (.ref C_InvalidQuestion) = some false)
    (ex_InvalidQuestion_InvalidQuestion : PySem.W.exmOne K (.ref C_InvalidQuestion) (.ref C_InvalidQuestion) = some true)
    (ex_Refused_InvalidQuestion : PySem.W.exmOne K (.ref C_Refused) (.ref C_InvalidQuestion) = some false)
    (ex_InvalidFormula_Refused : PySem.W.exmOne K (.ref C_InvalidFormula) (.ref C_Refused) = some false)
    (ex_InvalidClock_Refused : PySem.W.exmOne K (.ref C_InvalidClock) (.ref C_Refused) = some false)
    (ex_InvalidQuestion_Refused : PySem.W.exmOne K (.ref C_InvalidQuestion) (.ref C_Refused) = some false)
    (ex_Refused_Refused : PySem.W.exmOne K (.ref C_Refused) (.ref C_Refused) = some true)
    (mT26 : (PP26, (("law" : Str) ++ ".<locals>." ++ "<lambda>" : Str)) ∈ Tbs) (uT26 : ∀ p ∈ Tbs, p.1 = PP26 → p.2 = (("law" : Str) ++ ".<locals>." ++ "<lambda>" : Str)) :
    ∃ fd : FuncData, (∀ (s : Shared) (v : Value), BindsTo s fd ⟨[v], []⟩ [("script", v)]) ∧ ∀ base : Heap, K.In base → base.Ns mainGlobals mg → (∀ p ∈ ([(cc26, PP26)] : List (Addr × Addr)), LamX.TabB base mg p.1 p.2) → FnOk P w K mg base (L2.CX P w) 10 fa fd ["script"] (lowSp K spLaw) := by
  have e := hfa.symm.trans (PySem.W.mg_of X G a26)
  cases e
  have y_abs := PySem.W.mg_none_of X G z_abs
  have y_bool := PySem.W.mg_none_of X G z_bool
  have y_enumerate := PySem.W.mg_none_of X G z_enumerate
  have y_int := PySem.W.mg_none_of X G z_int
  have y_isinstance := PySem.W.mg_none_of X G z_isinstance
  have y_len := PySem.W.mg_none_of X G z_len
  have y_list := PySem.W.mg_none_of X G z_list
  have y_range := PySem.W.mg_none_of X G z_range
  have y_str := PySem.W.mg_none_of X G z_str
  have y_tuple := PySem.W.mg_none_of X G z_tuple
  have y_zip := PySem.W.mg_none_of X G z_zip
  have y_MOST_CLOCK := PySem.W.mg_of X G g_MOST_CLOCK
  have y_MOST_FACTORIAL := PySem.W.mg_of X G g_MOST_FACTORIAL
  have y_MOST_FINE := PySem.W.mg_of X G g_MOST_FINE
  have y_MOST_NUMBERED := PySem.W.mg_of X G g_MOST_NUMBERED
  have x_InvalidClock : ∀ base : Heap, Rz P w K mg base "InvalidClock" := fun base => rz_mk (st := s_InvalidClock) a_InvalidClock (PySem.W.mg_of X G a_InvalidClock) in_InvalidClock tI_InvalidClock ⟨⟨_, _, _, lI_InvalidClock⟩, cd_InvalidClock, ⟨_, _, _, _, _, _, co_InvalidClock, fi_InvalidClock, mf_InvalidClock⟩, ⟨_, _, _, ce_InvalidClock⟩, mr_InvalidClock, z_super, topS, si_InvalidClock, ve_InvalidClock, opq, no_InvalidClock, oex_mk lC_InvalidClock rv_InvalidClock sa_InvalidClock eb_InvalidClock tC_InvalidClock kC_InvalidClock⟩ (by decide +kernel) rfl (by rfl) (by rfl) (.all fun us hl => match us, hl with | [_, _], _ => rfl)
  have x_Refused : ∀ base : Heap, Rz P w K mg base "Refused" := fun base => rz_mk (st := s_Refused) a_Refused (PySem.W.mg_of X G a_Refused) in_Refused tI_Refused ⟨⟨_, _, _, lI_Refused⟩, cd_Refused, ⟨_, _, _, _, _, _, co_Refused, fi_Refused, mf_Refused⟩, ⟨_, _, _, ce_Refused⟩, mr_Refused, z_super, topS, si_Refused, ve_Refused, opq, no_Refused, oex_mk lC_Refused rv_Refused sa_Refused eb_Refused tC_Refused kC_Refused⟩ (by decide +kernel) rfl (by rfl) (by rfl) (.all fun us hl => match us, hl with | [_, _], _ => rfl)
  have zh_InvalidClock : Hz K mg "InvalidClock" := hz_mk a_InvalidClock (PySem.W.mg_of X G a_InvalidClock) xf_InvalidClock no_InvalidClock
  have xm_InvalidClock : Xm K ["InvalidFormula", "InvalidClock", "InvalidQuestion", "Refused"] "InvalidClock" := (xm_cons a_InvalidFormula a_InvalidClock (by rw [ex_InvalidFormula_InvalidClock]; rfl) (xm_cons a_InvalidClock a_InvalidClock (by rw [ex_InvalidClock_InvalidClock]; rfl) (xm_cons a_InvalidQuestion a_InvalidClock (by rw [ex_InvalidQuestion_InvalidClock]; rfl) (xm_cons a_Refused a_InvalidClock (by rw [ex_Refused_InvalidClock]; rfl) xm_nil))))
  have zh_InvalidFormula : Hz K mg "InvalidFormula" := hz_mk a_InvalidFormula (PySem.W.mg_of X G a_InvalidFormula) xf_InvalidFormula no_InvalidFormula
  have xm_InvalidFormula : Xm K ["InvalidFormula", "InvalidClock", "InvalidQuestion", "Refused"] "InvalidFormula" := (xm_cons a_InvalidFormula a_InvalidFormula (by rw [ex_InvalidFormula_InvalidFormula]; rfl) (xm_cons a_InvalidClock a_InvalidFormula (by rw [ex_InvalidClock_InvalidFormula]; rfl) (xm_cons a_InvalidQuestion a_InvalidFormula (by rw [ex_InvalidQuestion_InvalidFormula]; rfl) (xm_cons a_Refused a_InvalidFormula (by rw [ex_Refused_InvalidFormula]; rfl) xm_nil))))
  have zh_InvalidQuestion : Hz K mg "InvalidQuestion" := hz_mk a_InvalidQuestion (PySem.W.mg_of X G a_InvalidQuestion) xf_InvalidQuestion no_InvalidQuestion
  have xm_InvalidQuestion : Xm K ["InvalidFormula", "InvalidClock", "InvalidQuestion", "Refused"] "InvalidQuestion" := (xm_cons a_InvalidFormula a_InvalidQuestion (by rw [ex_InvalidFormula_InvalidQuestion]; rfl) (xm_cons a_InvalidClock a_InvalidQuestion (by rw [ex_InvalidClock_InvalidQuestion]; rfl) (xm_cons a_InvalidQuestion a_InvalidQuestion (by rw [ex_InvalidQuestion_InvalidQuestion]; rfl) (xm_cons a_Refused a_InvalidQuestion (by rw [ex_Refused_InvalidQuestion]; rfl) xm_nil))))
  have zh_Refused : Hz K mg "Refused" := hz_mk a_Refused (PySem.W.mg_of X G a_Refused) xf_Refused no_Refused
  have xm_Refused : Xm K ["InvalidFormula", "InvalidClock", "InvalidQuestion", "Refused"] "Refused" := (xm_cons a_InvalidFormula a_Refused (by rw [ex_InvalidFormula_Refused]; rfl) (xm_cons a_InvalidClock a_Refused (by rw [ex_InvalidClock_Refused]; rfl) (xm_cons a_InvalidQuestion a_Refused (by rw [ex_InvalidQuestion_Refused]; rfl) (xm_cons a_Refused a_Refused (by rw [ex_Refused_Refused]; rfl) xm_nil))))
  have hd__law_heard : HeardK K mg "_law_heard" "work" ["InvalidFormula", "InvalidClock", "InvalidQuestion", "Refused"] [("InvalidClock", Str.ofString "clock"), ("InvalidFormula", Str.ofString "formula"), ("InvalidQuestion", Str.ofString "question"), ("Refused", Str.ofString "refused")] (Str.ofString "told") := hk_mk1 (st := s__law_heard) (i := 1) l27 d27 k27 (PySem.W.mg_of X G a27) (.all fun us hl => match us, hl with | [_], _ => rfl) sc__law_heard rfl (by decide +kernel) (by rfl) (.cons a_InvalidClock (PySem.W.mg_of X G a_InvalidClock) (xfB_ok xf_InvalidClock) no_InvalidClock (fun n hn C hC => xm_InvalidClock n hn C _ hC a_InvalidClock) rfl (by decide +kernel) (by decide +kernel) (by decide) (by decide) (by decide) (.cons a_InvalidFormula (PySem.W.mg_of X G a_InvalidFormula) (xfB_ok xf_InvalidFormula) no_InvalidFormula (fun n hn C hC => xm_InvalidFormula n hn C _ hC a_InvalidFormula) rfl (by decide +kernel) (by decide +kernel) (by decide) (by decide) (by decide) (.cons a_InvalidQuestion (PySem.W.mg_of X G a_InvalidQuestion) (xfB_ok xf_InvalidQuestion) no_InvalidQuestion (fun n hn C hC => xm_InvalidQuestion n hn C _ hC a_InvalidQuestion) rfl (by decide +kernel) (by decide +kernel) (by decide) (by decide) (by decide) (.cons a_Refused (PySem.W.mg_of X G a_Refused) (xfB_ok xf_Refused) no_Refused (fun n hn C hC => xm_Refused n hn C _ hC a_Refused) rfl (by decide +kernel) (by decide +kernel) (by decide) (by decide) (by decide) .nil)))) (fun _ => rfl) (by decide) (by decide) (by decide) (by decide)
  have F0 := fun_mk (st := s__law_draw) l0 d0 k0
  have b0 : Binds K _ ["script", "salt"] [] := F0.binds (ps := ["script", "salt"]) fun _ _ _ _ _ _ us hl => match us, hl with | [_, _], _ => rfl
  have F1 := fun_mk (st := s__law_any) l1 d1 k1
  have b1 : Binds K _ ["deal", "bound"] [] := F1.binds (ps := ["deal", "bound"]) fun _ _ _ _ _ _ us hl => match us, hl with | [_, _], _ => rfl
  have F2 := fun_mk (st := s__law_of) l2 d2 k2
  have b2 : Binds K _ ["deal", "some"] [] := F2.binds (ps := ["deal", "some"]) fun _ _ _ _ _ _ us hl => match us, hl with | [_, _], _ => rfl
  have F3 := fun_mk (st := s__law_same) l3 d3 k3
  have b3 : Binds K _ ["value", "due"] [] := F3.binds (ps := ["value", "due"]) fun _ _ _ _ _ _ us hl => match us, hl with | [_, _], _ => rfl
  have F4 := fun_mk (st := s__law_needed) l4 d4 k4
  have b4 : Binds K _ ["m"] [] := F4.binds (ps := ["m"]) fun _ _ _ _ _ _ us hl => match us, hl with | [_], _ => rfl
  have F5 := fun_mk (st := s__law_part) l5 d5 k5
  have b5 : Binds K _ ["one", "other"] [] := F5.binds (ps := ["one", "other"]) fun _ _ _ _ _ _ us hl => match us, hl with | [_, _], _ => rfl
  have F6 := fun_mk (st := s__law_shared) l6 d6 k6
  have b6 : Binds K _ ["m", "k"] [] := F6.binds (ps := ["m", "k"]) fun _ _ _ _ _ _ us hl => match us, hl with | [_, _], _ => rfl
  have F7 := fun_mk (st := s__law_gone_through) l7 d7 k7
  have b7 : Binds K _ ["m"] [] := F7.binds (ps := ["m"]) fun _ _ _ _ _ _ us hl => match us, hl with | [_], _ => rfl
  have F8 := fun_mk (st := s__law_power) l8 d8 k8
  have b8 : Binds K _ ["number", "often"] [] := F8.binds (ps := ["number", "often"]) fun _ _ _ _ _ _ us hl => match us, hl with | [_, _], _ => rfl
  have F9 := fun_mk (st := s__law_due) l9 d9 k9
  have b9 : Binds K _ ["m"] [] := F9.binds (ps := ["m"]) fun _ _ _ _ _ _ us hl => match us, hl with | [_], _ => rfl
  have F10 := fun_mk (st := s__law_bad_clock) l10 d10 k10
  have b10 : Binds K _ ["deal"] [] := F10.binds (ps := ["deal"]) fun _ _ _ _ _ _ us hl => match us, hl with | [_], _ => rfl
  have F11 := fun_mk (st := s__law_rough) l11 d11 k11
  have b11 : Binds K _ ["deal"] [] := F11.binds (ps := ["deal"]) fun _ _ _ _ _ _ us hl => match us, hl with | [_], _ => rfl
  have F12 := fun_mk (st := s__law_small_clock) l12 d12 k12
  have b12 : Binds K _ ["deal", "most"] [] := F12.binds (ps := ["deal", "most"]) fun _ _ _ _ _ _ us hl => match us, hl with | [_, _], _ => rfl
  have F13 := fun_mk (st := s_is_integer) l13 d13 k13
  have b13 : Binds K _ ["value"] [] := F13.binds (ps := ["value"]) fun _ _ _ _ _ _ us hl => match us, hl with | [_], _ => rfl
  have F14 := fun_mk (st := s_is_clock) l14 d14 k14
  have b14 : Binds K _ ["value"] [] := F14.binds (ps := ["value"]) fun _ _ _ _ _ _ us hl => match us, hl with | [_], _ => rfl
  have F15 := fun_mk (st := s_checked_clock) l15 d15 k15
  have b15 : Binds K _ ["m"] [] := F15.binds (ps := ["m"]) fun _ _ _ _ _ _ us hl => match us, hl with | [_], _ => rfl
  have F16 := fun_mk (st := s_parts_and_rest) l16 d16 k16
  have b16 : Binds K _ ["m"] [] := F16.binds (ps := ["m"]) fun _ _ _ _ _ _ us hl => match us, hl with | [_], _ => rfl
  have F17 := fun_mk (st := s_fine_parts) l17 d17 k17
  have b17 : Binds K _ ["m"] [] := F17.binds (ps := ["m"]) fun _ _ _ _ _ _ us hl => match us, hl with | [_], _ => rfl
  have F18 := fun_mk (st := s_numbered_parts) l18 d18 k18
  have b18 : Binds K _ ["m"] [] := F18.binds (ps := ["m"]) fun _ _ _ _ _ _ us hl => match us, hl with | [_], _ => rfl
  have F19 := fun_mk (st := s_factorial) l19 d19 k19
  have b19 : Binds K _ ["number"] [] := F19.binds (ps := ["number"]) fun _ _ _ _ _ _ us hl => match us, hl with | [_], _ => rfl
  have F20 := fun_mk (st := s_power_of) l20 d20 k20
  have b20 : Binds K _ ["number", "often"] [] := F20.binds (ps := ["number", "often"]) fun _ _ _ _ _ _ us hl => match us, hl with | [_, _], _ => rfl
  have F21 := fun_mk (st := s_common_part) l21 d21 k21
  have b21 : Binds K _ ["one", "other"] [] := F21.binds (ps := ["one", "other"]) fun _ _ _ _ _ _ us hl => match us, hl with | [_, _], _ => rfl
  have F22 := fun_mk (st := s_factorial_number) l22 d22 k22
  have b22 : Binds K _ ["m"] [] := F22.binds (ps := ["m"]) fun _ _ _ _ _ _ us hl => match us, hl with | [_], _ => rfl
  have F23 := fun_mk (st := s_ways_beyond_squares) l23 d23 k23
  have b23 : Binds K _ ["prime", "often"] [] := F23.binds (ps := ["prime", "often"]) fun _ _ _ _ _ _ us hl => match us, hl with | [_, _], _ => rfl
  have F24 := fun_mk (st := s_count_by_part) l24 d24 k24
  have b24 : Binds K _ ["prime", "often"] [] := F24.binds (ps := ["prime", "often"]) fun _ _ _ _ _ _ us hl => match us, hl with | [_, _], _ => rfl
  have F25 := fun_mk (st := s_count_one_for_one) l25 d25 k25
  have b25 : Binds K _ ["m"] [] := F25.binds (ps := ["m"]) fun _ _ _ _ _ _ us hl => match us, hl with | [_], _ => rfl
  have kb25_0_m : KB K _ ["m"] ["m"] 0 [0] := kb_of F25 fun _ _ _ _ _ _ us ws hu hw => match us, ws, hu, hw with | [], [_], _, _ => rfl
  have F26 := funC_mk (st := s_law) l26 d26 k26
  refine ⟨PySem.W.fnOf "law" "law" (defArgs s_law) (defBody s_law) (defScope s_law) .none kV26 dc26 pm26 an26 (.ref cc26) ct26, fun s v => .of_eq rfl, fun base _ _ hTB => ?_⟩
  have TB26 := hTB (cc26, PP26) (by simp)
  have O0 := ok__law_draw (P := P) (w := w) (mg := mg) (base := base) F0 y_abs y_int
  have c__law_draw : Ca P w K mg base "_law_draw" 1 spw__law_draw := ⟨_, fnG_of O0 b0, PySem.W.mg_of X G a0, F0.kp, monow__law_draw⟩
  have O1 := ok__law_any (P := P) (w := w) (mg := mg) (base := base) F1 y_int
  have c__law_any : Ca P w K mg base "_law_any" 1 sp__law_any := ⟨_, fnG_of O1 b1, PySem.W.mg_of X G a1, F1.kp, mono_any⟩
  have O2 := ok__law_of (P := P) (w := w) (mg := mg) (base := base) F2 c__law_any y_len
  have c__law_of : Ca P w K mg base "_law_of" 2 sp__law_of := ⟨_, fnG_of O2 b2, PySem.W.mg_of X G a2, F2.kp, mono__law_of⟩
  have O3 := ok__law_same (P := P) (w := w) (mg := mg) (base := base) F3 (PySem.W.mg_of X G a3) b3 y_bool y_int y_isinstance y_len y_list y_str y_tuple y_zip 3 (Nat.le_refl _)
  have c__law_same : Ca P w K mg base "_law_same" 4 sp__law_same := ⟨_, fnG_of O3 b3, PySem.W.mg_of X G a3, F3.kp, (mono__law_same_d 3)⟩
  have O4 := ok__law_needed (P := P) (w := w) (mg := mg) (base := base) F4 y_int
  have c__law_needed : Ca P w K mg base "_law_needed" 1 sp__law_needed := ⟨_, fnG_of O4 b4, PySem.W.mg_of X G a4, F4.kp, mono__law_needed⟩
  have O5 := ok__law_part (P := P) (w := w) (mg := mg) (base := base) F5 y_int
  have c__law_part : Ca P w K mg base "_law_part" 1 sp__law_part := ⟨_, fnG_of O5 b5, PySem.W.mg_of X G a5, F5.kp, mono__law_part⟩
  have O6 := ok__law_shared (P := P) (w := w) (mg := mg) (base := base) F6 c__law_part y_range
  have c__law_shared : Ca P w K mg base "_law_shared" 2 sp__law_shared := ⟨_, fnG_of O6 b6, PySem.W.mg_of X G a6, F6.kp, mono__law_shared⟩
  have O7 := ok__law_gone_through (P := P) (w := w) (mg := mg) (base := base) F7 c__law_needed c__law_shared y_enumerate y_int y_len y_range
  have c__law_gone_through : Ca P w K mg base "_law_gone_through" 3 sp__law_gone_through := ⟨_, fnG_of O7 b7, PySem.W.mg_of X G a7, F7.kp, mono__law_gone_through⟩
  have O8 := ok__law_power (P := P) (w := w) (mg := mg) (base := base) F8 y_range
  have c__law_power : Ca P w K mg base "_law_power" 1 sp__law_power := ⟨_, fnG_of O8 b8, PySem.W.mg_of X G a8, F8.kp, mono__law_power⟩
  have O9 := ok__law_due (P := P) (w := w) (mg := mg) (base := base) F9 c__law_power c__law_needed y_int y_range
  have c__law_due : Ca P w K mg base "_law_due" 2 sp__law_due := ⟨_, fnG_of O9 b9, PySem.W.mg_of X G a9, F9.kp, mono__law_due⟩
  have O10 := ok__law_bad_clock (P := P) (w := w) (mg := mg) (base := base) F10 c__law_of
  have c__law_bad_clock : Ca P w K mg base "_law_bad_clock" 3 sp__law_bad_clock := ⟨_, fnG_of O10 b10, PySem.W.mg_of X G a10, F10.kp, mono__law_bad_clock⟩
  have O11 := ok__law_rough (P := P) (w := w) (mg := mg) (base := base) F11 c__law_of
  have c__law_rough : Ca P w K mg base "_law_rough" 3 sp__law_rough := ⟨_, fnG_of O11 b11, PySem.W.mg_of X G a11, F11.kp, mono__law_rough⟩
  have O12 := ok__law_small_clock (P := P) (w := w) (mg := mg) (base := base) F12 c__law_of c__law_any
  have c__law_small_clock : Ca P w K mg base "_law_small_clock" 3 sp__law_small_clock := ⟨_, fnG_of O12 b12, PySem.W.mg_of X G a12, F12.kp, mono__law_small_clock⟩
  have O13 := ok_is_integer (P := P) (w := w) (mg := mg) (base := base) F13 y_bool y_int y_isinstance
  have c_is_integer : Ca P w K mg base "is_integer" 1 sp_is_integer := ⟨_, fnG_of O13 b13, PySem.W.mg_of X G a13, F13.kp, mono_is_integer⟩
  have O14 := ok_is_clock (P := P) (w := w) (mg := mg) (base := base) F14 c_is_integer y_MOST_CLOCK
  have c_is_clock : Ca P w K mg base "is_clock" 2 sp_is_clock := ⟨_, fnG_of O14 b14, PySem.W.mg_of X G a14, F14.kp, mono_is_clock⟩
  have O15 := ok_checked_clock (P := P) (w := w) (mg := mg) (base := base) F15 c_is_clock (x_InvalidClock base)
  have c_checked_clock : Ca P w K mg base "checked_clock" 3 spw_checked_clock := ⟨_, fnG_of O15 b15, PySem.W.mg_of X G a15, F15.kp, monow_checked_clock⟩
  have cn_checked_clock := c_checked_clock.weak wide_checked_clock mono_checked_clock
  have O16 := ok_parts_and_rest (P := P) (w := w) (mg := mg) (base := base) F16 y_range y_tuple y_MOST_FINE
  have c_parts_and_rest : Ca P w K mg base "parts_and_rest" 1 sp_parts_and_rest := ⟨_, fnG_of O16 b16, PySem.W.mg_of X G a16, F16.kp, mono_parts_and_rest⟩
  have O17 := ok_fine_parts (P := P) (w := w) (mg := mg) (base := base) F17 c_parts_and_rest (x_Refused base) y_MOST_FINE
  have c_fine_parts : Ca P w K mg base "fine_parts" 3 spw_fine_parts := ⟨_, fnG_of O17 b17, PySem.W.mg_of X G a17, F17.kp, monow_fine_parts⟩
  have O18 := ok_numbered_parts (P := P) (w := w) (mg := mg) (base := base) F18 c_checked_clock c_fine_parts (x_Refused base) y_MOST_NUMBERED
  have c_numbered_parts : Ca P w K mg base "numbered_parts" 4 spw_numbered_parts := ⟨_, fnG_of O18 b18, PySem.W.mg_of X G a18, F18.kp, monow_numbered_parts⟩
  have O19 := ok_factorial (P := P) (w := w) (mg := mg) (base := base) F19 y_range
  have c_factorial : Ca P w K mg base "factorial" 1 sp_factorial := ⟨_, fnG_of O19 b19, PySem.W.mg_of X G a19, F19.kp, mono_factorial⟩
  have O20 := ok_power_of (P := P) (w := w) (mg := mg) (base := base) F20 y_range
  have c_power_of : Ca P w K mg base "power_of" 1 sp_power_of := ⟨_, fnG_of O20 b20, PySem.W.mg_of X G a20, F20.kp, mono_power_of⟩
  have O21 := ok_common_part (P := P) (w := w) (mg := mg) (base := base) F21
  have c_common_part : Ca P w K mg base "common_part" 1 sp_common_part := ⟨_, fnG_of O21 b21, PySem.W.mg_of X G a21, F21.kp, mono_common_part⟩
  have O22 := ok_factorial_number (P := P) (w := w) (mg := mg) (base := base) F22 cn_checked_clock c_common_part (x_Refused base) y_MOST_FACTORIAL
  have c_factorial_number : Ca P w K mg base "factorial_number" 4 sp_factorial_number := ⟨_, fnG_of O22 b22, PySem.W.mg_of X G a22, F22.kp, mono_factorial_number⟩
  have O23 := ok_ways_beyond_squares (P := P) (w := w) (mg := mg) (base := base) F23 c_power_of c_factorial_number y_range
  have c_ways_beyond_squares : Ca P w K mg base "ways_beyond_squares" 5 sp_ways_beyond_squares := ⟨_, fnG_of O23 b23, PySem.W.mg_of X G a23, F23.kp, mono_ways_beyond_squares⟩
  have O24 := ok_count_by_part (P := P) (w := w) (mg := mg) (base := base) F24 c_factorial c_ways_beyond_squares c_power_of
  have c_count_by_part : Ca P w K mg base "count_by_part" 6 sp_count_by_part := ⟨_, fnG_of O24 b24, PySem.W.mg_of X G a24, F24.kp, mono_count_by_part⟩
  have O25 := ok_count_one_for_one (P := P) (w := w) (mg := mg) (base := base) F25 c_numbered_parts c_count_by_part
  have c_count_one_for_one : Ca P w K mg base "count_one_for_one" 7 spw_count_one_for_one := ⟨_, fnG_of O25 b25, PySem.W.mg_of X G a25, F25.kp, monow_count_one_for_one⟩
  have ck_count_one_for_one_0_m : CaK P w K mg base "count_one_for_one" 7 spw_count_one_for_one ["m"] ["m"] 0 [0] := ⟨_, _, O25, kb25_0_m, PySem.W.mg_of X G a25, F25.kp, monow_count_one_for_one⟩
  have O26 := ok_law (P := P) (w := w) (mg := mg) (base := base) c__law_draw c__law_of c__law_same c__law_gone_through c__law_due c__law_bad_clock c__law_rough c__law_small_clock c_count_one_for_one c__law_any ck_count_one_for_one_0_m TB26 mT26 uT26 hd__law_heard y_int y_range F26
  exact O26
end LW
open PySem PySem.W PyProof.Rows
set_option maxHeartbeats 0 in
theorem PySem.Challenge.cw_samebyclock_k38_whole_one_for_one_ones_c_holds : PySem.Challenge.rw_samebyclock_k38_whole_one_for_one_ones_c.Holds := by
  w_on; o_law; k_head; (case hw => w_witness2)
  k_fill
  refine LamX.walk_ofTs (l := PySem.Challenge.rw_samebyclock_k38_whole_one_for_one_ones_c) (n := 63) (k := 10) (x := "script") (CX := fun w => L2.CX (PySem.Challenge.rw_samebyclock_k38_whole_one_for_one_ones_c).prog w) rfl (by decide) rfl ⟨rfl, by decide, by decide⟩ (fun w h Y => PySem.W.km_in_of Y) ?F (fun w H s e s' h => ?X)
  case X => obtain ⟨_, _, _, _, _, _, _, _, _, _, _, _, z⟩ := h; exact z
  case F =>
    intro w mg fa h Y KX G hmg
    refine' _root_.G.tabs_end ([(298, 296)] : List (PySem.Addr × PySem.Addr)) ?hTs ?nTs ?cTs ?tTs (LW.all_mk (P := (PySem.Challenge.rw_samebyclock_k38_whole_one_for_one_ones_c).prog) (w := w) (cc26 := 298) (PP26 := 296) KX G hmg ?a0 ?l0 ?d0 ?k0 ?a1 ?l1 ?d1 ?k1 ?a2 ?l2 ?d2 ?k2 ?a3 ?l3 ?d3 ?k3 ?a4 ?l4 ?d4 ?k4 ?a5 ?l5 ?d5 ?k5 ?a6 ?l6 ?d6 ?k6 ?a7 ?l7 ?d7 ?k7 ?a8 ?l8 ?d8 ?k8 ?a9 ?l9 ?d9 ?k9 ?a10 ?l10 ?d10 ?k10 ?a11 ?l11 ?d11 ?k11 ?a12 ?l12 ?d12 ?k12 ?a13 ?l13 ?d13 ?k13 ?a14 ?l14 ?d14 ?k14 ?a15 ?l15 ?d15 ?k15 ?a16 ?l16 ?d16 ?k16 ?a17 ?l17 ?d17 ?k17 ?a18 ?l18 ?d18 ?k18 ?a19 ?l19 ?d19 ?k19 ?a20 ?l20 ?d20 ?k20 ?a21 ?l21 ?d21 ?k21 ?a22 ?l22 ?d22 ?k22 ?a23 ?l23 ?d23 ?k23 ?a24 ?l24 ?d24 ?k24 ?a25 ?l25 ?d25 ?k25 ?a26 ?l26 ?d26 ?k26 ?a27 ?l27 ?d27 ?k27 ?z_abs ?z_bool ?z_enumerate ?z_int ?z_isinstance ?z_len ?z_list ?z_range ?z_str ?z_tuple ?z_zip ?g_MOST_CLOCK ?g_MOST_FACTORIAL ?g_MOST_FINE ?g_MOST_NUMBERED ?opq ?z_super ?topS ?a_InvalidClock ?a_InvalidFormula ?a_InvalidQuestion ?a_Refused ?no_InvalidClock ?no_InvalidFormula ?no_InvalidQuestion ?no_Refused ?xf_InvalidClock ?xf_InvalidFormula ?xf_InvalidQuestion ?xf_Refused ?lC_InvalidClock ?rv_InvalidClock ?sa_InvalidClock ?eb_InvalidClock ?tC_InvalidClock ?kC_InvalidClock ?in_InvalidClock ?tI_InvalidClock ?lI_InvalidClock ?cd_InvalidClock ?co_InvalidClock ?fi_InvalidClock ?mf_InvalidClock ?ce_InvalidClock ?mr_InvalidClock ?si_InvalidClock ?ve_InvalidClock ?lC_Refused ?rv_Refused ?sa_Refused ?eb_Refused ?tC_Refused ?kC_Refused ?in_Refused ?tI_Refused ?lI_Refused ?cd_Refused ?co_Refused ?fi_Refused ?mf_Refused ?ce_Refused ?mr_Refused ?si_Refused ?ve_Refused ?ex_InvalidFormula_InvalidClock ?ex_InvalidClock_InvalidClock ?ex_InvalidQuestion_InvalidClock ?ex_Refused_InvalidClock ?ex_InvalidFormula_InvalidFormula ?ex_InvalidClock_InvalidFormula ?ex_InvalidQuestion_InvalidFormula ?ex_Refused_InvalidFormula ?ex_InvalidFormula_InvalidQuestion ?ex_InvalidClock_InvalidQuestion ?ex_InvalidQuestion_InvalidQuestion ?ex_Refused_InvalidQuestion ?ex_InvalidFormula_Refused ?ex_InvalidClock_Refused ?ex_InvalidQuestion_Refused ?ex_Refused_Refused ?mT26 ?uT26)
    (case hTs => intro p hp; simp only [List.mem_cons, List.not_mem_nil, or_false] at hp; rcases hp with rfl <;> exact PySem.W.km_tabs_of Y _ (by simp))
    (case nTs => intro p hp; simp only [List.mem_cons, List.not_mem_nil, or_false] at hp; rcases hp with rfl <;> kernel_rfl)
    (case cTs => intro p hp; simp only [List.mem_cons, List.not_mem_nil, or_false] at hp; rcases hp with rfl <;> exact PySem.W.codeHd_of_K KX (by kernel_rfl))
    (case tTs => intro H hT p hp; unfold _root_.G.Tbs at hp; simp only [List.mem_cons, List.not_mem_nil, or_false] at hp; rcases hp with rfl <;> first | exact LamX.TabS.nil (hT (298, 296) (by simp)))
    (case mT26 => unfold _root_.G.Tbs; simp only [List.mem_cons, true_or, or_true])
    (case uT26 => intro p hp e; unfold _root_.G.Tbs at hp; simp only [List.mem_cons, List.not_mem_nil, or_false] at hp; rcases hp with rfl <;> first | exact absurd e (by decide) | rfl)
    (case a0 => k_is)
    (case l0 => k_is)
    (case d0 => k_is)
    (case k0 => k_is)
    (case a1 => k_is)
    (case l1 => k_is)
    (case d1 => k_is)
    (case k1 => k_is)
    (case a2 => k_is)
    (case l2 => k_is)
    (case d2 => k_is)
    (case k2 => k_is)
    (case a3 => k_is)
    (case l3 => k_is)
    (case d3 => k_is)
    (case k3 => k_is)
    (case a4 => k_is)
    (case l4 => k_is)
    (case d4 => k_is)
    (case k4 => k_is)
    (case a5 => k_is)
    (case l5 => k_is)
    (case d5 => k_is)
    (case k5 => k_is)
    (case a6 => k_is)
    (case l6 => k_is)
    (case d6 => k_is)
    (case k6 => k_is)
    (case a7 => k_is)
    (case l7 => k_is)
    (case d7 => k_is)
    (case k7 => k_is)
    (case a8 => k_is)
    (case l8 => k_is)
    (case d8 => k_is)
    (case k8 => k_is)
    (case a9 => k_is)
    (case l9 => k_is)
    (case d9 => k_is)
    (case k9 => k_is)
    (case a10 => k_is)
    (case l10 => k_is)
    (case d10 => k_is)
    (case k10 => k_is)
    (case a11 => k_is)
    (case l11 => k_is)
    (case d11 => k_is)
    (case k11 => k_is)
    (case a12 => k_is)
    (case l12 => k_is)
    (case d12 => k_is)
    (case k12 => k_is)
    (case a13 => k_is)
    (case l13 => k_is)
    (case d13 => k_is)
    (case k13 => k_is)
    (case a14 => k_is)
    (case l14 => k_is)
    (case d14 => k_is)
    (case k14 => k_is)
    (case a15 => k_is)
    (case l15 => k_is)
    (case d15 => k_is)
    (case k15 => k_is)
    (case a16 => k_is)
    (case l16 => k_is)
    (case d16 => k_is)
    (case k16 => k_is)
    (case a17 => k_is)
    (case l17 => k_is)
    (case d17 => k_is)
    (case k17 => k_is)
    (case a18 => k_is)
    (case l18 => k_is)
    (case d18 => k_is)
    (case k18 => k_is)
    (case a19 => k_is)
    (case l19 => k_is)
    (case d19 => k_is)
    (case k19 => k_is)
    (case a20 => k_is)
    (case l20 => k_is)
    (case d20 => k_is)
    (case k20 => k_is)
    (case a21 => k_is)
    (case l21 => k_is)
    (case d21 => k_is)
    (case k21 => k_is)
    (case a22 => k_is)
    (case l22 => k_is)
    (case d22 => k_is)
    (case k22 => k_is)
    (case a23 => k_is)
    (case l23 => k_is)
    (case d23 => k_is)
    (case k23 => k_is)
    (case a24 => k_is)
    (case l24 => k_is)
    (case d24 => k_is)
    (case k24 => k_is)
    (case a25 => k_is)
    (case l25 => k_is)
    (case d25 => k_is)
    (case k25 => k_is)
    (case a26 => k_is)
    (case l26 => k_is)
    (case d26 => k_is)
    (case k26 => k_is)
    (case a27 => k_is)
    (case l27 => k_is)
    (case d27 => k_is)
    (case k27 => k_is)
    (case z_abs => k_is)
    (case z_bool => k_is)
    (case z_enumerate => k_is)
    (case z_int => k_is)
    (case z_isinstance => k_is)
    (case z_len => k_is)
    (case z_list => k_is)
    (case z_range => k_is)
    (case z_str => k_is)
    (case z_tuple => k_is)
    (case z_zip => k_is)
    (case g_MOST_CLOCK => k_is)
    (case g_MOST_FACTORIAL => k_is)
    (case g_MOST_FINE => k_is)
    (case g_MOST_NUMBERED => k_is)
    (case opq => k_is)
    (case z_super => k_is)
    (case topS => first | rfl | decide +kernel | kernel_rfl | k_is)
    (case a_InvalidClock => k_is)
    (case a_InvalidFormula => k_is)
    (case a_InvalidQuestion => k_is)
    (case a_Refused => k_is)
    (case no_InvalidClock => k_is)
    (case no_InvalidFormula => k_is)
    (case no_InvalidQuestion => k_is)
    (case no_Refused => k_is)
    (case xf_InvalidClock => first | rfl | decide +kernel | kernel_rfl | k_is)
    (case xf_InvalidFormula => first | rfl | decide +kernel | kernel_rfl | k_is)
    (case xf_InvalidQuestion => first | rfl | decide +kernel | kernel_rfl | k_is)
    (case xf_Refused => first | rfl | decide +kernel | kernel_rfl | k_is)
    (case lC_InvalidClock => k_is)
    (case rv_InvalidClock => first | rfl | decide +kernel | kernel_rfl | k_is)
    (case sa_InvalidClock => k_is)
    (case eb_InvalidClock => k_is)
    (case tC_InvalidClock => k_is)
    (case kC_InvalidClock => k_is)
    (case in_InvalidClock => k_is)
    (case tI_InvalidClock => k_is)
    (case lI_InvalidClock => k_is)
    (case cd_InvalidClock => k_is)
    (case co_InvalidClock => k_is)
    (case fi_InvalidClock => first | rfl | decide +kernel | kernel_rfl | k_is)
    (case mf_InvalidClock => first | rfl | decide +kernel | kernel_rfl | k_is)
    (case ce_InvalidClock => k_is)
    (case mr_InvalidClock => k_is)
    (case si_InvalidClock => ks_is)
    (case ve_InvalidClock => k_is)
    (case lC_Refused => k_is)
    (case rv_Refused => first | rfl | decide +kernel | kernel_rfl | k_is)
    (case sa_Refused => k_is)
    (case eb_Refused => k_is)
    (case tC_Refused => k_is)
    (case kC_Refused => k_is)
    (case in_Refused => k_is)
    (case tI_Refused => k_is)
    (case lI_Refused => k_is)
    (case cd_Refused => k_is)
    (case co_Refused => k_is)
    (case fi_Refused => first | rfl | decide +kernel | kernel_rfl | k_is)
    (case mf_Refused => first | rfl | decide +kernel | kernel_rfl | k_is)
    (case ce_Refused => k_is)
    (case mr_Refused => k_is)
    (case si_Refused => ks_is)
    (case ve_Refused => k_is)
    (case ex_InvalidFormula_InvalidClock => kts_exm)
    (case ex_InvalidClock_InvalidClock => kts_exm)
    (case ex_InvalidQuestion_InvalidClock => kts_exm)
    (case ex_Refused_InvalidClock => kts_exm)
    (case ex_InvalidFormula_InvalidFormula => kts_exm)
    (case ex_InvalidClock_InvalidFormula => kts_exm)
    (case ex_InvalidQuestion_InvalidFormula => kts_exm)
    (case ex_Refused_InvalidFormula => kts_exm)
    (case ex_InvalidFormula_InvalidQuestion => kts_exm)
    (case ex_InvalidClock_InvalidQuestion => kts_exm)
    (case ex_InvalidQuestion_InvalidQuestion => kts_exm)
    (case ex_Refused_InvalidQuestion => kts_exm)
    (case ex_InvalidFormula_Refused => kts_exm)
    (case ex_InvalidClock_Refused => kts_exm)
    (case ex_InvalidQuestion_Refused => kts_exm)
    (case ex_Refused_Refused => kts_exm)

