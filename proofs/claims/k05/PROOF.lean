import PyProof.Rows.All
import Wide.All
import OpenK.AllK
import Wide.FinOn
import HandS.Style
import HandS.More
import HandS.TupAny
import HandS.Defaults
import HandS.Iter
import KE.GoesMore
import KE.GoesEnum
import HandS.ForMost
import HandS.Deep
import HandS.Wide
import HandS.Gcd
import HandS.IsInst
import HandS.RaiseMore
import HandS.ExcInit
import KE.SortCalls
import HandS.Comp
import HandS.ExcIs
import HandS.ExcField
import HandS.ExcValue
import KE.KExcIs
import HandS.Flow
import KE.KDictSum
import HandS.Conv
import KE.KDictZip
import HandS.Zip
import HandS.Small
import HandS.Star
import HandS.Head0
import HandS.Head1
import HandS.Head2
import HandS.HeadEnd
import HandS.HeadHook1
import HandS.HeadHook2
import HandS.HeadHook3
import PySem.Challenge.RW_bendatlas_k05_whole_vertices_and_edges_b
import HandS.Head3
import PyProof.Rows.RegStrFacts
set_option Elab.async false
set_option linter.all false
set_option maxRecDepth 100000
set_option maxHeartbeats 4000000
namespace Dn
open PySem PySem.Spec PyProof.Rows L2
/-! ### t[::-1] of a tuple -/
section
variable {prog : Program} {w : World} {A : Around} {E : Value → Shared → Prop} {s : Shared}
theorem back_parts (n : Nat) : Builtin.Slice.sliceAdjust none none (-1) (n : Int) = ((n : Int) - 1, -1) := by
  unfold Builtin.Slice.sliceAdjust
  simp
theorem back_places (n : Nat) : Builtin.Slice.slicePlaces ((n : Int) - 1) (-1) (-1) = n := by
  unfold Builtin.Slice.slicePlaces
  simp only [show ¬ ((-1 : Int) > 0) by omega, if_false]
  split
  · rw [show (- -1 : Int) = 1 by decide, Int.ediv_one]; omega
  · omega
theorem back_applied {sl : Addr} {t : Tok} {n : Nat} {Q : Int × Int × Nat → Shared → Prop} (hs : s.heap.IsSliceOf sl .none .none (.int (-1) t)) (h : Q ((n : Int) - 1, -1, n) s) :
    wpAny (model prog w) A (Builtin.Slice.sliceApplied (.ref sl) (pure (n : Int))) Q E s := by
  obtain ⟨os, hos, hcs, hds⟩ := id hs
  unfold Builtin.Slice.sliceApplied Builtin.Slice.sliceFields
  refine wpAny_bind (wpAny_bind (wpAny_field hos hds (x := .none) rfl (wpAny_bind (wpAny_field hos hds (x := .none) rfl (wpAny_bind (wpAny_field hos hds (x := .int (-1) t) rfl (wpAny_pure ?_)))))))
  refine wpAny_bind (slicePart_int ?_)
  show wpAny _ _ (if ((-1 : Int) == 0) = true then _ else _) _ _ s
  rw [if_neg (by decide)]
  refine wpAny_bind (slicePart_none (wpAny_bind (slicePart_none (wpAny_bind (wpAny_pure ?_)))))
  show wpAny _ _ (match Builtin.Slice.sliceAdjust none none (-1) (n : Int) with | (lo, hi) => pure (lo, (-1 : Int), Builtin.Slice.slicePlaces lo hi (-1))) _ _ s
  rw [back_parts n]
  show wpAny _ _ (pure ((n : Int) - 1, (-1 : Int), Builtin.Slice.slicePlaces ((n : Int) - 1) (-1) (-1))) _ _ s
  rw [back_places]
  exact wpAny_pure h
theorem back_pick (xs : Array Value) : ((List.range xs.size).filterMap fun (k : Nat) => xs[(((xs.size : Int) - 1) + (k : Int) * (-1)).toNat]?).toArray = xs.toList.reverse.toArray := by
  have e : (fun (k : Nat) => xs[(((xs.size : Int) - 1) + (k : Int) * (-1)).toNat]?) = fun k => xs[xs.size - 1 - k]? := by
    funext k
    have : (((xs.size : Int) - 1) + (k : Int) * (-1)).toNat = xs.size - 1 - k := by omega
    rw [this]
  rw [e]
  have h2 := PySem.W.krv_range xs.size
  have h3 : (List.range xs.size).filterMap (fun k => xs[xs.size - 1 - k]?) = ((List.range xs.size).map fun k => xs.size - 1 - k).filterMap (xs[·]?) := by
    rw [List.filterMap_map]; rfl
  rw [h3, h2, List.filterMap_reverse, PySem.W.krv_all]
theorem back_tuple {t sl : Addr} {tk : Tok} {items : Array Value} {Q : Value → Shared → Prop} (ht : IsTup s.heap t items) (hs : s.heap.IsSliceOf sl .none .none (.int (-1) tk))
    (h : Q (.ref s.heap.objs.size) { s with heap := s.heap.push { cls := .type "tuple", data := .seq items.toList.reverse.toArray } }) (hsz : items.size ≤ sizeLine) : wpAny (model prog w) A (getItem (.ref t) (.ref sl)) Q E s := by
  have hok : sizeOk (.seq items.toList.reverse.toArray) := by
    show items.toList.reverse.toArray.size ≤ sizeLine
    rw [List.size_toArray, List.length_reverse, Array.length_toList]
    exact hsz
  obtain ⟨os, hos, hcs, hds⟩ := id hs
  have hT : s.TypeIs (.ref sl) "slice" := ⟨os, hos, hcs⟩
  unfold getItem
  try with_reducible refine wpAny_holding ?_
  first | refine wpAny_bind (wpAny_pure ?_) | skip
  refine wpAny_bind (wpAny_sequenceKey ht.typeIs (by decide) ?_)
  refine wpAny_bind (wpAny_callSpecial?_slot (name := Str.ofString "__getitem__") ht.typeIs PyProof.Rows.slot_tuple_getitem
    (wpAny_call_entry PyProof.Rows.slot_tuple_getitem ht.typeIs entry_tuple_getitem ?_ (args_tuple_getitem _ _)))
  show wpAny _ _ (Builtin.Tuple.tupleItemsOf (.ref t) >>= _) _ _ s
  refine wpAny_bind (tupleItemsOf_ ht ?_)
  refine wpAny_bind (wpAny_typeOf hT ?_)
  rw [if_pos (by decide)]
  refine wpAny_bind (back_applied hs ?_)
  show wpAny _ _ (if (((items.size : Int) - 1) == 0 && (-1 : Int) == 1 && items.size == items.size) = true then _ else _) _ _ s
  rw [if_neg (by simp), back_pick]
  first
    | exact wpAny_bind (m := Builtin.Tuple.tupleExact _) (wpAny_newObj_type (wpAny_pure ⟨_, rfl, wpAny_pure h⟩) hok)
    | exact wpAny_bind (m := Builtin.Tuple.tupleExact _) (wpAny_newObj_type (wpAny_bind (wpAny_pure (wpAny_pure ⟨_, rfl, wpAny_pure h⟩))) hok)
    | exact wpAny_bind (wpAny_bind (m := Builtin.Tuple.tupleExact _) (wpAny_newObj_type (wpAny_pure (wpAny_pure ⟨_, rfl, wpAny_pure h⟩)) hok))
    | exact wpAny_bind (wpAny_bind (m := Builtin.Tuple.tupleExact _) (wpAny_newObj_type (wpAny_pure ⟨_, rfl, wpAny_pure h⟩) hok))
end
/-- a list or a tuple, from its end -/
def tBack (K : PySem.W.Frag) (te : TE) : TE := fun σ H Q => te σ H fun x H1 => ∃ a xs, x = .ref a ∧ ((SqL K H1 a xs ∧ ∀ p, H1 p = none → Q (.ref p) (upd H1 p (.lst xs.reverse))) ∨ (SqT K H1 a xs ∧ ∀ p, H1 p = none → Q (.ref p) (upd H1 p (.tup xs.reverse))))
theorem pe_back {X : Cx} {e : Expr} {te : TE} {k : Nat} {p1 p2 p3 pos : Pos} (he : PE X e te) : PE X (.Subscript e (.Slice none none (some (.UnaryOp .USub (.Constant (.int 1) k p1) p2)) p3) pos) (tBack X.K te) := by
  refine ⟨fun pins s σ H Q I h => ?_⟩
  refine Subscript_ (thn (he.run pins s σ H _ I h) fun v s1 ⟨x, H1, I1, r1, q1⟩ => ?_)
  obtain ⟨a, xs, ex, q⟩ := q1
  subst ex
  cases r1
  have hst : PO X (some (.UnaryOp .USub (.Constant (.int 1) k p1) p2)) (tPart (tUn (rU fun i => .int (-i)) (tC (.int 1)))) := po_some (pe_un un_neg pe_int)
  refine wpAny_Slice (thn (po_none.run pins s1 σ H1 (fun o H2 => o = none ∧ H2 = H1) I1 ⟨rfl, rfl⟩) fun vl s2 ⟨l, H2, I2, pl, el, e2⟩ => ?_)
  subst el e2
  refine thn (po_none.run pins s2 σ H2 (fun o H3 => o = none ∧ H3 = H2) I2 ⟨rfl, rfl⟩) fun vu s3 ⟨u, H3, I3, pu, eu, e3⟩ => ?_
  subst eu e3
  refine thn (hst.run pins s3 σ H3 (fun o H4 => o = some (-1) ∧ H4 = H3) I3 ⟨1, rfl, -1, rfl, rfl, rfl⟩) fun vs s4 ⟨o, H4, I4, ps, eo, e4⟩ => ?_
  subst eo e4
  have I5 : Inv X pins σ H4 { s4 with heap := s4.heap.push { cls := .type "slice", data := .fields #[vl, vu, vs] } } := I4.kept (t' := s4.toks) fun b ob q => Heap.get?_push_of_some _ q
  show wpAny (model X.prog X.w) X.A (subscriptTail e (.Slice none none (some (.UnaryOp .USub (.Constant (.int 1) k p1) p2)) p3) (.ref a) (.ref s4.heap.objs.size)) (EP X pins σ Q) X.xe { s4 with heap := s4.heap.push { cls := .type "slice", data := .fields #[vl, vu, vs] } }
  rcases q with ⟨hx, q⟩ | ⟨hx, q⟩
  · obtain ⟨its, r, ht, hz⟩ := I5.list hx
    have hlen := r.length
    refine tail_any (ops := [.ref a, .ref s4.heap.objs.size]) ht.isList.typeIs (PySem.slot_list_getitem.lookup) ?_ (by with_unfolding_all rfl)
    refine wpAny_getItem_list_slice ht.isList (Heap.IsSliceOf.new _ vl vu vs) pl pu ps (by decide) ?_ (by rw [List.size_toArray]; omega)
    rw [PySem.W.krv_pick]
    refine ⟨.ref _, _, I5.laid (t' := s4.toks) (o := .lst xs.reverse) (fun b ob q => Heap.get?_push_of_some _ q) (Nat.le_refl _) ?_, rfl, q _ (I5.hok.fresh (Nat.le_refl _))⟩
    exact ⟨by rw [List.length_reverse]; exact hz, _, 0, r.reverse, Heap.get?_push_size _ rfl⟩
  · obtain ⟨its, r, ht, hz⟩ := I5.tuple hx
    have hlen := r.length
    refine tail_any (ops := [.ref a, .ref s4.heap.objs.size]) ht.typeIs (PyProof.Rows.slot_tuple_getitem.lookup) ?_ (by with_unfolding_all rfl)
    cases pl
    cases pu
    cases ps
    refine back_tuple ht (Heap.IsSliceOf.new _ .none .none _) ?_ (by rw [List.size_toArray]; omega)
    refine ⟨.ref _, _, I5.laid (t' := s4.toks) (o := .tup xs.reverse) (fun b ob q => Heap.get?_push_of_some _ q) (Nat.le_refl _) ?_, rfl, q _ (I5.hok.fresh (Nat.le_refl _))⟩
    exact ⟨by rw [List.length_reverse]; exact hz, _, r.reverse, IsTup.new _ _⟩
end Dn

set_option maxHeartbeats 4000000
namespace Dn
open PySem PySem.Spec PyProof.Rows L2
/-! ### enumerate of a tuple -/
theorem enum_new {v : Value} {o : Obj} {P : Heap → Prop} (B : Begins v o P) :
    Meets (Builtin.«enumerate.__new__» ⟨[.type "enumerate", v], []⟩) (fun _ R s => P s.heap ∧
      R (.ok (.ret (.ref (s.heap.push o).objs.size))) { s with heap := (s.heap.push o).push { cls := .type "enumerate", data := .fields #[.none, .bool false, .ref s.heap.objs.size, rawInt 0, .none, .none] } }) :=
  .of_wp fun prog w A R s h => by
    obtain ⟨hp, g, d, tk, os⟩ := s; obtain ⟨h1, h⟩ := h
    have hsub := sub_enumerate
    have q1 : ∀ {A' : Around} {E : Value → Shared → Prop} {Q : Value → Shared → Prop}, Q (.ref hp.objs.size) ⟨hp.push o, g, d, tk, os⟩ → wpAny (model prog w) A' (pyIter v) Q E ⟨hp, g, d, tk, os⟩ := fun q => B.iter prog w _ _ ⟨hp, g, d, tk, os⟩ _ h1 q
    wp_walk using q1
    refine wpAny_stack_any fun st => wpAny_pure ?_
    split
    · rename_i c _ _ _ _ _
      cases (c == Value.type "enumerate")
      · wp_walk using q1
        exact ⟨_, rfl, h⟩
      · wp_walk using q1
        exact ⟨_, rfl, h⟩
    · wp_walk using q1
      exact ⟨_, rfl, h⟩
theorem enum_call {prog : Program} {w : World} {A : Around} {E : Value → Shared → Prop} {s : Shared} {v : Value} {o : Obj} {P : Heap → Prop} {Q : Value → Shared → Prop} (B : Begins v o P) (h1 : P s.heap)
    (h : ∀ h', IsEnum h' (s.heap.objs.size + 1) s.heap.objs.size 0 .none → h'.get? s.heap.objs.size = some o → (∀ b o, s.heap.get? b = some o → h'.get? b = some o) → Q (.ref (s.heap.objs.size + 1)) { s with heap := h' }) :
    wpAny (model prog w) A (call (.type "enumerate") [v]) Q E s := by
  refine callType_new F.called_enumerate (by decide) (F.typeCall_enumerate_1 _) (F.newCall_enumerate_1 _) (fun obj => F.args_object_init_2 obj _) F.entry_enumerate_new (enum_new B) ⟨h1, ?_⟩
  have hz : (s.heap.push o).objs.size = s.heap.objs.size + 1 := Heap.size_push ..
  show _ ∧ _
  rw [hz]
  have he : IsEnum ((s.heap.push o).push { cls := .type "enumerate", data := .fields #[.none, .bool false, .ref s.heap.objs.size, rawInt 0, .none, .none] }) (s.heap.objs.size + 1) s.heap.objs.size 0 .none := by
    have q := Heap.get?_push_size (s.heap.push o) (o := { cls := .type "enumerate", data := .fields #[.none, .bool false, .ref s.heap.objs.size, rawInt 0, .none, .none] }) rfl
    rw [hz] at q; exact q
  exact ⟨⟨_, he, rfl⟩, h _ he (Heap.get?_push_of_some _ (Heap.get?_push_size _ B.free)) fun b o x => Heap.get?_push_of_some _ (Heap.get?_push_of_some _ x)⟩
/-- the tuple at a, each item in a new pair -/
def IteT (K : PySem.W.Frag) (a : Addr) : It :=
  ⟨fun i H => ∃ (xs : List V) (x : V), SqT K H a xs ∧ xs[i]? = some x, fun i H v H' => ∃ T x, v = .ref T ∧ H T = none ∧ H' = upd H T (.tup [.int (i : Nat), x]) ∧ ∀ xs, SqT K H a xs → xs[i]? = some x, fun i H => ∃ xs : List V, SqT K H a xs ∧ xs.length ≤ i⟩
theorem enum_end {prog : Program} {w : World} {A : Around} {E : Value → Shared → Prop} {s : Shared} {e it a : Addr} {items : Array Value} {j : Nat} {i : Int} {old : Value} {Q : Option Value → Shared → Prop} (hh : A.in1.handled = none) (he : IsEnum s.heap e it i old) (hit : s.heap.IsTupleIter it a j) (ht : s.heap.IsTuple a items)
    (hx : items[j]? = none) (hQ : ∀ h', Heap.ExtBut it s.heap h' → Q none { s with heap := h' }) : wpAny (model prog w) A (pyNext (.ref e)) Q E s := by
  have hT : s.TypeIs (.ref e) "enumerate" := ⟨_, he, rfl⟩
  unfold pyNext
  refine wpAny_bind (wpAny_attempt (wpAny_callSpecial?_slot (name := Str.ofString "__next__") hT F.slot_enumerate_next
    (wpAny_call_entry F.slot_enumerate_next hT F.entry_enumerate_next ?_ (F.args_enumerate_next_1 _))))
  show wpAny _ _ (field (.ref e) 2 >>= _) _ _ _
  refine wpAny_bind (wpAny_field he rfl (x := .ref it) rfl ?_)
  refine wpAny_bind (wpAny_nextOf_tuple_end hh hit ht hx fun h' x he' hx' => ?_)
  obtain ⟨o, ho, hc⟩ := hx'
  refine wpAny_bind (wpAny_isInstance (T := "StopIteration") (b := true) ⟨o, ho, hc⟩ isSubtype_stop ?_)
  exact wpAny_pure (hQ _ he')
theorem turn_enumT {P : Program} {w : World} {K : PySem.W.Frag} {elts : List Expr} {kk : Nat} {tpos : Pos} (a e it : Addr) (ha : a ≠ it) (hae : e ≠ a) :
    Turn P w K (.Tuple elts kk tpos) (IteT K a) [e, it] e (fun i h => (∃ old, IsEnum h e it ((i : Nat) : Int) old) ∧ h.IsTupleIter it a i ∧ e ≠ it) where
  mem := by simp
  obj := fun i h st b hb => by
    obtain ⟨⟨old, he⟩, ⟨o, ho, hc, hd⟩, _⟩ := st
    have e' : b = e ∨ b = it := by simpa using hb
    rcases e' with z | z
    · rw [z]; exact ⟨_, he, fun v q => nomatch q⟩
    · rw [z]; exact ⟨o, ho, fun v q => by rw [hd] at q; cases q⟩
  keep := fun i h h' st k => let ⟨⟨old, he⟩, hi, hne⟩ := st; ⟨⟨old, k e (by simp) _ he⟩, hi.at fun o q => k it (by simp) o q, hne⟩
  item := by
    intro X hP hw hK hc i pins s σ H E I hf st hg
    subst hP hw hK
    obtain ⟨⟨old, he⟩, hit, hne⟩ := st
    obtain ⟨xs, x, hq, hx⟩ := hg
    obtain ⟨its, rv, p, hz⟩ := I.tuple hq
    obtain ⟨u, hu, ru⟩ := rv.get hx
    have hel : e < s.heap.objs.size := Heap.lt_size he
    have hil : it < s.heap.objs.size := by obtain ⟨_, q, _⟩ := hit; exact Heap.lt_size q
    have hsz : its.toArray.size = its.length := List.size_toArray
    have hil2 : i < its.toArray.size := by rw [hsz]; exact (List.getElem?_eq_some_iff.mp hu).1
    refine wpAny_pyNext_enum_itemD (Draws.tuple (show X.A.in1.handled = none from I.ok.hd hc) it a ha its.toArray) he ⟨hit, p⟩ hil2 hne (by simp [hne, hae]) fun y h' tk hy ho hst hT hsz' hk => ?_
    obtain ⟨hit', _⟩ := hst
    have ey : y = u := by
      have h2 : its.toArray[i]? = some u := by simpa using hu
      rw [h2] at hy; cases hy; rfl
    subst ey
    refine ⟨_, rfl, wpAny_letOwnedTupleGo_enum (s := { s with heap := h', toks := tk + 1 }) ho fun h'' he' sb => ?_⟩
    have hT2 : h''.get? s.heap.objs.size = some { cls := .type "tuple", data := .seq #[.int i tk, y] } := (sb.2 _ (Nat.ne_of_gt hel)).trans hT
    have new : ObjOk X.prog X.w (upd H s.heap.objs.size (.tup [.int (i : Nat), x])) h'' s.heap.objs.size (.tup [.int (i : Nat), x]) :=
      ⟨by show 2 ≤ sizeLine; decide, [.int i tk, y], .cons ⟨_, rfl⟩ (.cons ru .nil), ⟨_, hT2, rfl, _, rfl⟩⟩
    have I1 : Inv X pins σ (upd H s.heap.objs.size (.tup [.int (i : Nat), x])) { s with heap := h'', toks := tk + 1 } :=
      I.turnedNew (ch := [e, it]) (fun b ob hb q => (sb.2 b (fun z => hb (by simp [z]))).trans (hk b ob (fun z => hb (by simp [z])) (fun z => hb (by simp [z])) q)) hf (Nat.le_refl _) new
    refine ⟨.ref s.heap.objs.size, _, I1, rfl, ⟨_, x, rfl, I.hok.fresh (Nat.le_refl _), rfl, fun ys hy => by rw [I.tuple_inj hy hq]; exact hx⟩, ⟨⟨y, ?_⟩, hit'.at fun o q => (sb.2 it (Ne.symm hne)).trans q, hne⟩, fun b hb => ?_⟩
    · have e1 : ((i + 1 : Nat) : Int) = (i : Int) + 1 := by omega
      rw [e1]; exact he'
    · have hb' : b < s.heap.objs.size := by
        have e' : b = e ∨ b = it := by simpa using hb
        rcases e' with z | z
        · rw [z]; exact hel
        · rw [z]; exact hil
      rw [upd_ne (Nat.ne_of_lt hb')]
      exact (hf b hb).1
  done := by
    intro X hP hw hK hc i pins s σ H E I hf st hg
    subst hP hw hK
    obtain ⟨⟨old, he⟩, hit, hne⟩ := st
    obtain ⟨xs, hq, hx⟩ := hg
    obtain ⟨its, rv, p, hz⟩ := I.tuple hq
    obtain ⟨f0, f1, f2, f3, f4, f5⟩ := hf it (by simp)
    have hl := rv.length
    exact enum_end (show X.A.in1.handled = none from I.ok.hd hc) he hit p (by simp; omega) fun h' eb => ⟨rfl, I.turned (t' := s.toks) (fun b o hb q => eb b o hb q) f0 f1 f3 f4 f5⟩
  self := fun A i s Q E st h => let ⟨⟨_, he⟩, _⟩ := st; wpAny_pyIter_enum he h
/-- a list or a tuple -/
def iEnumA (K : PySem.W.Frag) (ta : TA) : TI := fun σ H R => ta σ H fun vs H1 => ∃ a xs, vs = [.ref a] ∧ ((SqL K H1 a xs ∧ R (Ite K a) H1) ∨ (SqT K H1 a xs ∧ R (IteT K a) H1))
theorem pi_enumA {X : Cx} {e : Expr} {ta : TA} {p pos tpos : Pos} {elts : List Expr} {kk : Nat} (hg : Gl X "enumerate") (hm : X.mg "enumerate" = none) (ha : PA X [e] ta) (hs : starEach [e] X.env = [(false, eval e X.env)] := by rfl) :
    PI X (.Tuple elts kk tpos) (.Call (.Name "enumerate" p) [e] [] pos) (iEnumA X.K ta) := by
  refine ⟨fun pins s σ H R I h => ?_⟩
  refine Call_ (ld_blt I hg hm boot_enumerate (PyProof.Rows.callWith_type1 (thn (ha.run pos pins s σ H _ I h) fun us s1 ⟨vs, H1, I1, r1, q1⟩ => ?_) hs rfl))
  obtain ⟨a, xs, ex, q⟩ := q1
  subst ex
  cases r1 with
  | cons r rr =>
    cases rr
    cases r
    have fp : ∀ b ∈ [s1.heap.objs.size + 1, s1.heap.objs.size], FpOk X pins H1 b := fun b hb => by
      have e' : b = s1.heap.objs.size + 1 ∨ b = s1.heap.objs.size := by simpa using hb
      have hle : s1.heap.objs.size ≤ b := by
        rcases e' with z | z
        · rw [z]; exact Nat.le_add_right _ _
        · rw [z]; exact Nat.le_refl _
      exact I1.fpOk hle (I1.hok.fresh hle)
    rcases q with ⟨hq, q⟩ | ⟨hq, q⟩
    · obtain ⟨its, rv, p', hz⟩ := I1.list hq
      refine call_enumerate_list p'.isList fun h' he hit hsz hk => wpAny_pyIter_enum he ?_
      have I2 : Inv X pins σ H1 { s1 with heap := h' } := I1.kept (t' := s1.toks) hk
      exact ⟨s1.heap.objs.size + 1, [s1.heap.objs.size + 1, s1.heap.objs.size], _, _, H1, rfl, I2, turn_enum a (s1.heap.objs.size + 1) s1.heap.objs.size, ⟨⟨.none, he⟩, hit, Nat.succ_ne_self _⟩, fp, q⟩
    · obtain ⟨its, rv, p', hz⟩ := I1.tuple hq
      have hal : a < s1.heap.objs.size := by obtain ⟨_, q, _⟩ := p'; exact Heap.lt_size q
      refine enum_call (begins_tuple a its.toArray) p' fun h' he hit hk => wpAny_pyIter_enum he ?_
      have I2 : Inv X pins σ H1 { s1 with heap := h' } := I1.kept (t' := s1.toks) hk
      exact ⟨s1.heap.objs.size + 1, [s1.heap.objs.size + 1, s1.heap.objs.size], _, _, H1, rfl, I2, turn_enumT a (s1.heap.objs.size + 1) s1.heap.objs.size (Nat.ne_of_lt hal) (fun z => absurd hal (by rw [← z]; exact Nat.not_lt.mpr (Nat.le_add_right _ _))), ⟨⟨.none, he⟩, ⟨_, hit, rfl, rfl⟩, Nat.succ_ne_self _⟩, fp, q⟩
end Dn

set_option maxHeartbeats 4000000
namespace Dn
open PySem PySem.Spec PyProof.Rows L2

/-! ### data: what a value stands for; what the store holds -/
inductive D where
  | non | bl (b : Bool) | int (i : Int) | str (x : Str)
  | tup (xs : List D) | lst (xs : List D) | scr (xs : List D) | dic (ks : List Key) (xs : List D) | ref (k : Nat) | exc (C f : Str) (xs : List D)
  /-- a dict of the store; a tuple that is new: a key -/
  | rfd (k : Nat) | ntup (xs : List D)

/-- a mutable object of the store -/
inductive MO where
  | lst (keep : Bool) (xs : List D)
  /-- a dict, its keys tuples -/
  | dct (keep : Bool) (ks : List (List Key)) (xs : List D)
abbrev Sto := List MO
def MO.xs : MO → List D
  | .lst _ xs => xs
  | .dct _ _ xs => xs
def MO.keep : MO → Bool
  | .lst k _ => k
  | .dct k _ _ => k

/-- where the store's objects stand; the addresses that are hidden -/
structure Mu where
  ad : List Addr
  hid : List Addr
def Mu.fz (μ : Mu) (a : Addr) : Prop := a ∉ μ.ad ∧ a ∉ μ.hid
/-- what kind stands there -/
def IsL (H : Hp) (a : Addr) : Prop := ∃ vs, H a = some (.lst vs)
def IsT (H : Hp) (a : Addr) : Prop := ∃ kvs, H a = some (.dT kvs)
/-- a list stays a list, a dict a dict -/
def Kp (H H' : Hp) (a : Addr) : Prop := (IsL H a → IsL H' a) ∧ (IsT H a → IsT H' a)
/-- what may be an object of the store -/
def Mt (o : HO) : Prop := (∃ vs, o = .lst vs) ∨ ∃ kvs, o = .dT kvs
/-- a list that is known to the object, or one of the module's -/
def ScrAt (K : PySem.W.Frag) (H : Hp) (a : Addr) (xs : List V) : Prop :=
  (∃ o, H a = some (.frz o (.lst xs))) ∨
    ∃ (o : Obj) (its : Array Value) (n : Nat), K.lookup a = some o ∧ o.cls = .type "list" ∧ o.dict = none ∧ o.data = .seq its n ∧ its.size ≤ sizeLine ∧ Vals xs its.toList

/-- the class of that name of the module -/
def ClsAt (K : PySem.W.Frag) (C : Str) (c : Addr) : Prop := PySem.W.nsIn K mainGlobals C = some (some (.ref c))
/-- an exception of the class at c: no field, one field -/
def ExAt (H : Hp) (a c : Addr) (f : Str) (vs : List V) : Prop := (vs = [] ∧ H a = some (exo a c none)) ∨ ∃ (y : V) (dx : Addr), vs = [y] ∧ H a = some (exo a c (some dx)) ∧ H dx = some (exd dx [(f, y)])

mutual
def Rep (K : PySem.W.Frag) (μ : Mu) (H : Hp) : D → V → Prop
  | .non, v => v = .non
  | .bl b, v => v = .bl b
  | .int i, v => v = .int i
  | .str x, v => v = .str x
  | .tup ds, v => ∃ a vs, v = .ref a ∧ SqT K H a vs ∧ Reps K μ H ds vs
  | .lst ds, v => ∃ a vs, v = .ref a ∧ μ.fz a ∧ H a = some (.lst vs) ∧ Reps K μ H ds vs
  | .scr ds, v => ∃ a vs, v = .ref a ∧ ScrAt K H a vs ∧ Reps K μ H ds vs
  | .dic ks ds, v => ∃ a vs, v = .ref a ∧ μ.fz a ∧ ks.length = vs.length ∧ H a = some (.dK (ks.zip vs)) ∧ Reps K μ H ds vs
  | .ref k, v => ∃ a, v = .ref a ∧ μ.ad[k]? = some a ∧ IsL H a
  | .rfd k, v => ∃ a, v = .ref a ∧ μ.ad[k]? = some a ∧ IsT H a
  | .ntup ds, v => ∃ a vs, v = .ref a ∧ H a = some (.tup vs) ∧ Reps K μ H ds vs
  | .exc C f ds, v => ∃ a c vs, v = .ref a ∧ ClsAt K C c ∧ ExAt H a c f vs ∧ Reps K μ H ds vs
def Reps (K : PySem.W.Frag) (μ : Mu) (H : Hp) : List D → List V → Prop
  | [], vs => vs = []
  | d :: ds, vs => ∃ v r, vs = v :: r ∧ Rep K μ H d v ∧ Reps K μ H ds r
end

section
variable {K : PySem.W.Frag} {μ μ' : Mu} {H H' : Hp}
theorem reps_nil {vs : List V} : Reps K μ H [] vs ↔ vs = [] := by simp only [Reps]
theorem reps_cons {d : D} {ds : List D} {vs : List V} : Reps K μ H (d :: ds) vs ↔ ∃ v r, vs = v :: r ∧ Rep K μ H d v ∧ Reps K μ H ds r := by simp only [Reps]
theorem Reps.nil : Reps K μ H [] [] := reps_nil.mpr rfl
theorem Reps.cons {d : D} {ds : List D} {v : V} {vs : List V} (h : Rep K μ H d v) (t : Reps K μ H ds vs) : Reps K μ H (d :: ds) (v :: vs) := reps_cons.mpr ⟨v, vs, rfl, h, t⟩
theorem Reps.length : ∀ {ds : List D} {vs : List V}, Reps K μ H ds vs → ds.length = vs.length
  | [], vs, h => by rw [reps_nil.mp h]; rfl
  | d :: ds, vs, h => by
    obtain ⟨v, r, rfl, _, t⟩ := reps_cons.mp h
    rw [List.length_cons, List.length_cons, Reps.length t]
theorem Reps.get : ∀ {ds : List D} {vs : List V} {i : Nat} {d : D}, Reps K μ H ds vs → ds[i]? = some d → ∃ v, vs[i]? = some v ∧ Rep K μ H d v
  | [], vs, i, d, h, e => by simp at e
  | d :: ds, vs, 0, x, h, e => by
    obtain ⟨v, r, rfl, p, t⟩ := reps_cons.mp h
    simp at e; subst e
    exact ⟨v, rfl, p⟩
  | d :: ds, vs, i + 1, x, h, e => by
    obtain ⟨v, r, rfl, p, t⟩ := reps_cons.mp h
    obtain ⟨u, e1, q⟩ := Reps.get (i := i) t (by simpa using e)
    exact ⟨u, by simpa using e1, q⟩
theorem Reps.append : ∀ {ds es : List D} {vs us : List V}, Reps K μ H ds vs → Reps K μ H es us → Reps K μ H (ds ++ es) (vs ++ us)
  | [], es, vs, us, h, g => by rw [reps_nil.mp h]; exact g
  | d :: ds, es, vs, us, h, g => by
    obtain ⟨v, r, rfl, p, t⟩ := reps_cons.mp h
    exact Reps.cons p (Reps.append t g)
theorem Reps.rep {ds : List D} {vs : List V} (h : Reps K μ H ds vs) : ∀ n : Nat, Reps K μ H (List.replicate n ds).flatten (List.replicate n vs).flatten
  | 0 => by rw [List.replicate_zero, List.replicate_zero, List.flatten_nil, List.flatten_nil]; exact Reps.nil
  | n + 1 => by
    rw [List.replicate_succ, List.replicate_succ, List.flatten_cons, List.flatten_cons]
    exact h.append (Reps.rep h n)
theorem Reps.take : ∀ {ds : List D} {vs : List V} (n : Nat), Reps K μ H ds vs → Reps K μ H (ds.take n) (vs.take n)
  | _, _, 0, _ => by simpa using Reps.nil
  | [], vs, n + 1, h => by rw [reps_nil.mp h]; exact Reps.nil
  | d :: ds, vs, n + 1, h => by
    obtain ⟨v, r, rfl, p, t⟩ := reps_cons.mp h
    exact Reps.cons p (Reps.take n t)
theorem Reps.drop : ∀ {ds : List D} {vs : List V} (n : Nat), Reps K μ H ds vs → Reps K μ H (ds.drop n) (vs.drop n)
  | _, _, 0, h => h
  | [], vs, n + 1, h => by rw [reps_nil.mp h]; exact Reps.nil
  | d :: ds, vs, n + 1, h => by
    obtain ⟨v, r, rfl, p, t⟩ := reps_cons.mp h
    exact Reps.drop n t
theorem Reps.set : ∀ {ds : List D} {vs : List V} (n : Nat) {d : D} {v : V}, Reps K μ H ds vs → Rep K μ H d v → Reps K μ H (ds.set n d) (vs.set n v)
  | [], vs, n, d, v, h, _ => by rw [reps_nil.mp h]; exact Reps.nil
  | e :: ds, vs, 0, d, v, h, q => by
    obtain ⟨u, r, rfl, p, t⟩ := reps_cons.mp h
    exact Reps.cons q t
  | e :: ds, vs, n + 1, d, v, h, q => by
    obtain ⟨u, r, rfl, p, t⟩ := reps_cons.mp h
    exact Reps.cons p (Reps.set n t q)
theorem Reps.reverse {ds : List D} {vs : List V} (h : Reps K μ H ds vs) : Reps K μ H ds.reverse vs.reverse := by
  induction ds generalizing vs with
  | nil => rw [reps_nil.mp h]; exact Reps.nil
  | cons d ds ih =>
    obtain ⟨v, r, rfl, p, t⟩ := reps_cons.mp h
    rw [List.reverse_cons, List.reverse_cons]
    exact (ih t).append (Reps.cons p Reps.nil)
end

/-! ### the store stands in the abstract heap -/
def RepM (K : PySem.W.Frag) (μ : Mu) (H : Hp) (a : Addr) : MO → Prop
  | .lst _ xs => ∃ vs, H a = some (.lst vs) ∧ Reps K μ H xs vs
  | .dct _ ks xs => ∃ vs, ks.length = vs.length ∧ H a = some (.dT (ks.zip vs)) ∧ Reps K μ H xs vs
structure Rl (K : PySem.W.Frag) (μ : Mu) (H : Hp) (S : Sto) : Prop where
  len : μ.ad.length = S.length
  nd : μ.ad.Nodup
  at_ : ∀ (k : Nat) (mo : MO) (a : Addr), S[k]? = some mo → μ.ad[k]? = some a → RepM K μ H a mo
  hid : ∀ a ∈ μ.hid, ∃ vs, H a = some (.lst vs)
  sep : ∀ a ∈ μ.hid, a ∉ μ.ad
/-- from the one state to the other: new objects of the store; all that is no object of the store stands -/
structure Ext (μ : Mu) (H : Hp) (μ' : Mu) (H' : Hp) : Prop where
  hid : ∃ ξ, μ'.hid = ξ ++ μ.hid ∧ ∀ a ∈ ξ, H a = none
  pre : ∃ ν, μ'.ad = μ.ad ++ ν ∧ ∀ a ∈ ν, H a = none
  keep : ∀ a o, a ∉ μ.ad → H a = some o → H' a = some o
  live : ∀ a, H a ≠ none → H' a ≠ none
  kp : ∀ a, Kp H H' a
section
variable {K : PySem.W.Frag} {μ μ' μ1 μ2 : Mu} {H H' H1 H2 : Hp} {S S' S1 : Sto}
theorem Rl.get (R : Rl K μ H S) {k : Nat} {mo : MO} (e : S[k]? = some mo) : ∃ a, μ.ad[k]? = some a ∧ RepM K μ H a mo := by
  have hk : k < S.length := (List.getElem?_eq_some_iff.mp e).1
  have hk' : k < μ.ad.length := by rw [R.len]; exact hk
  exact ⟨μ.ad[k], List.getElem?_eq_getElem hk', R.at_ k mo _ e (List.getElem?_eq_getElem hk')⟩
theorem Rl.mem (R : Rl K μ H S) {a : Addr} (h : a ∈ μ.ad) : ∃ o, H a = some o ∧ Mt o := by
  obtain ⟨k, hk, e⟩ := List.mem_iff_getElem.mp h
  have hk' : k < S.length := by rw [← R.len]; exact hk
  have q := R.at_ k _ a (List.getElem?_eq_getElem hk') (by rw [List.getElem?_eq_getElem hk, e])
  revert q
  cases S[k] with
  | lst kp xs => intro q; obtain ⟨vs, e1, _⟩ := q; exact ⟨_, e1, .inl ⟨vs, rfl⟩⟩
  | dct kp ks xs => intro q; obtain ⟨vs, _, e1, _⟩ := q; exact ⟨_, e1, .inr ⟨_, rfl⟩⟩
theorem Kp.refl {a : Addr} : Kp H H a := ⟨id, id⟩
theorem Kp.trans {a : Addr} (h : Kp H H1 a) (g : Kp H1 H2 a) : Kp H H2 a := ⟨fun z => g.1 (h.1 z), fun z => g.2 (h.2 z)⟩
theorem Kp.of {a : Addr} (h : ∀ o, H a = some o → H' a = some o) : Kp H H' a := ⟨fun ⟨vs, e⟩ => ⟨vs, h _ e⟩, fun ⟨vs, e⟩ => ⟨vs, h _ e⟩⟩
theorem Kp.new {p : Addr} {o : HO} (hp : H p = none) (a : Addr) : Kp H (upd H p o) a := .of fun u e => by rw [upd_ne (ne_of_none e hp)]; exact e
theorem Kp.putL {p : Addr} {vs : List V} (h : IsL H p) : Kp H (upd H p (.lst vs)) p := ⟨fun _ => ⟨vs, upd_same⟩, fun ⟨kvs, e⟩ => by obtain ⟨us, e2⟩ := h; rw [e] at e2; cases e2⟩
theorem Kp.putT {p : Addr} {kvs : List (List Key × V)} (h : IsT H p) : Kp H (upd H p (.dT kvs)) p := ⟨fun ⟨us, e⟩ => (by obtain ⟨kvs, e2⟩ := h; rw [e] at e2; cases e2), fun _ => ⟨kvs, upd_same⟩⟩
theorem Ext.refl : Ext μ H μ H := ⟨⟨[], by simp, fun _ h => nomatch h⟩, ⟨[], by simp, fun _ h => nomatch h⟩, fun _ _ _ h => h, fun _ h => h, fun _ => Kp.refl⟩
theorem Ext.trans (a : Ext μ H μ1 H1) (b : Ext μ1 H1 μ2 H2) : Ext μ H μ2 H2 := by
  obtain ⟨ν, e1, n1⟩ := a.pre
  obtain ⟨ξ, e2, n2⟩ := b.pre
  obtain ⟨ν', e1', n1'⟩ := a.hid
  obtain ⟨ξ', e2', n2'⟩ := b.hid
  refine ⟨⟨ξ' ++ ν', by rw [e2', e1', List.append_assoc], fun c hc => ?_⟩, ⟨ν ++ ξ, by rw [e2, e1, List.append_assoc], fun c hc => ?_⟩, fun c o hc e => ?_, fun c hc => b.live c (a.live c hc), fun c => (a.kp c).trans (b.kp c)⟩
  · rcases List.mem_append.mp hc with h | h
    · cases q : H c with
      | none => rfl
      | some o => exact absurd (n2' c h) (a.live c (by rw [q]; simp))
    · exact n1' c h
  · rcases List.mem_append.mp hc with h | h
    · exact n1 c h
    · cases q : H c with
      | none => rfl
      | some o => exact absurd (n2 c h) (a.live c (by rw [q]; simp))
  · refine b.keep c o ?_ (a.keep c o hc e)
    rw [e1]
    intro h
    rcases List.mem_append.mp h with h | h
    · exact hc h
    · rw [n1 c h] at e; cases e
/-- where nothing but new things came -/
theorem Ext.grow (h : ∀ a o, H a = some o → H' a = some o) : Ext μ H μ H' := by
  refine ⟨⟨[], by simp, fun _ h => nomatch h⟩, ⟨[], by simp, fun _ h => nomatch h⟩, fun a o _ e => h a o e, fun a e q => ?_, fun a => Kp.of fun o e => h a o e⟩
  cases z : H a with
  | none => exact e z
  | some o => rw [h a o z] at q; cases q
theorem Ext.new {p : Addr} {o : HO} (hp : H p = none) : Ext μ H μ (upd H p o) := Ext.grow fun a u e => by
  rw [upd_ne (ne_of_none e hp)]; exact e
/-- the same, where the hidden may change -/
structure ExtH (μ : Mu) (H : Hp) (μ' : Mu) (H' : Hp) : Prop where
  hid : ∃ ξ, μ'.hid = ξ ++ μ.hid ∧ ∀ a ∈ ξ, H a = none
  pre : ∃ ν, μ'.ad = μ.ad ++ ν ∧ ∀ a ∈ ν, H a = none
  keep : ∀ a o, a ∉ μ.ad → a ∉ μ.hid → H a = some o → H' a = some o
  live : ∀ a, H a ≠ none → H' a ≠ none
  kp : ∀ a, Kp H H' a
theorem Ext.toH (E : Ext μ H μ' H') : ExtH μ H μ' H' := ⟨E.hid, E.pre, fun a o h _ => E.keep a o h, E.live, E.kp⟩
theorem ExtH.trans (a : ExtH μ H μ1 H1) (b : ExtH μ1 H1 μ2 H2) : ExtH μ H μ2 H2 := by
  obtain ⟨ν, e1, n1⟩ := a.pre
  obtain ⟨ξ, e2, n2⟩ := b.pre
  obtain ⟨ν', e1', n1'⟩ := a.hid
  obtain ⟨ξ', e2', n2'⟩ := b.hid
  have up : ∀ c, H1 c = none → H c = none := fun c h => by
    cases q : H c with
    | none => rfl
    | some o => exact absurd h (a.live c (by rw [q]; simp))
  refine ⟨⟨ξ' ++ ν', by rw [e2', e1', List.append_assoc], fun c hc => (List.mem_append.mp hc).elim (fun h => up c (n2' c h)) (n1' c)⟩, ⟨ν ++ ξ, by rw [e2, e1, List.append_assoc], fun c hc => (List.mem_append.mp hc).elim (n1 c) (fun h => up c (n2 c h))⟩, fun c o h1 h2 e => ?_, fun c hc => b.live c (a.live c hc), fun c => (a.kp c).trans (b.kp c)⟩
  refine b.keep c o (fun h => ?_) (fun h => ?_) (a.keep c o h1 h2 e)
  · rw [e1] at h
    rcases List.mem_append.mp h with h | h
    · exact h1 h
    · rw [n1 c h] at e; cases e
  · rw [e1'] at h
    rcases List.mem_append.mp h with h | h
    · rw [n1' c h] at e; cases e
    · exact h2 h
/-- a hidden list is changed -/
theorem ExtH.hput {p : Addr} {vs0 vs : List V} (hp : p ∈ μ.hid) (hl : H p = some (.lst vs0)) : ExtH μ H μ (upd H p (.lst vs)) := by
  refine ⟨⟨[], by simp, fun _ h => nomatch h⟩, ⟨[], by simp, fun _ h => nomatch h⟩, fun b u _ hb e => ?_, fun b e => ?_, fun b => ?_⟩
  · rw [upd_ne (show b ≠ p from fun z => hb (by rw [z]; exact hp))]; exact e
  · by_cases h : b = p
    · subst h; rw [upd_same]; simp
    · rw [upd_ne h]; exact e
  · by_cases h : b = p
    · subst h; exact Kp.putL ⟨_, hl⟩
    · exact ⟨fun ⟨vs, e⟩ => ⟨vs, by rw [upd_ne h]; exact e⟩, fun ⟨vs, e⟩ => ⟨vs, by rw [upd_ne h]; exact e⟩⟩
/-- frozen addresses stay so -/
theorem ExtH.fz (E : ExtH μ H μ' H') {a : Addr} {o : HO} (h : μ.fz a) (e : H a = some o) : μ'.fz a := by
  obtain ⟨ν, e1, n1⟩ := E.pre
  obtain ⟨ξ, e2, n2⟩ := E.hid
  refine ⟨?_, ?_⟩
  · rw [e1]
    intro q
    rcases List.mem_append.mp q with q | q
    · exact h.1 q
    · rw [n1 a q] at e; cases e
  · rw [e2]
    intro q
    rcases List.mem_append.mp q with q | q
    · rw [n2 a q] at e; cases e
    · exact h.2 q
theorem ExtH.ad (E : ExtH μ H μ' H') {k : Nat} {a : Addr} (h : μ.ad[k]? = some a) : μ'.ad[k]? = some a := by
  obtain ⟨ν, e1, _⟩ := E.pre
  rw [e1, List.getElem?_append_left (List.getElem?_eq_some_iff.mp h).1]
  exact h
theorem ExtH.notin (E : ExtH μ H μ' H') (R : Rl K μ H S) {a : Addr} {o : HO} (e : H a = some o) (n : ¬ Mt o) : H' a = some o :=
  E.keep a o (fun q => by obtain ⟨u, e2, m⟩ := R.mem q; rw [e] at e2; cases e2; exact n m) (fun q => by obtain ⟨us, e2⟩ := R.hid a q; rw [e] at e2; cases e2; exact n (.inl ⟨us, rfl⟩)) e
theorem not_mt_tup {xs : List V} : ¬ Mt (.tup xs) := by rintro (⟨vs, z⟩ | ⟨vs, z⟩) <;> cases z
theorem not_mt_frz {o : Obj} {u : HO} : ¬ Mt (.frz o u) := by rintro (⟨vs, z⟩ | ⟨vs, z⟩) <;> cases z
theorem ExtH.sqT (E : ExtH μ H μ' H') (R : Rl K μ H S) {a : Addr} {vs : List V} (h : SqT K H a vs) : SqT K H' a vs := by
  rcases h with (h | ⟨o, h⟩) | h
  · exact .inl (.inl (E.notin R h not_mt_tup))
  · exact .inl (.inr ⟨o, E.notin R h not_mt_frz⟩)
  · exact .inr h
theorem ExtH.scr (E : ExtH μ H μ' H') (R : Rl K μ H S) {a : Addr} {vs : List V} (h : ScrAt K H a vs) : ScrAt K H' a vs := by
  rcases h with ⟨o, h⟩ | h
  · exact .inl ⟨o, E.notin R h not_mt_frz⟩
  · exact .inr h
theorem not_mt_exo {a c : Addr} {d : Option Addr} : ¬ Mt (exo a c d) := by rintro (⟨vs, z⟩ | ⟨vs, z⟩) <;> (unfold exo at z; cases z)
theorem not_mt_exd {a : Addr} {fs : List (Str × V)} : ¬ Mt (exd a fs) := by rintro (⟨vs, z⟩ | ⟨vs, z⟩) <;> (unfold exd at z; cases z)
theorem ExtH.exAt (E : ExtH μ H μ' H') (R : Rl K μ H S) {a c : Addr} {f : Str} {vs : List V} (h : ExAt H a c f vs) : ExAt H' a c f vs := by
  rcases h with ⟨e, h⟩ | ⟨y, dx, e, h1, h2⟩
  · exact .inl ⟨e, E.notin R h not_mt_exo⟩
  · exact .inr ⟨y, dx, e, E.notin R h1 not_mt_exo, E.notin R h2 not_mt_exd⟩
mutual
theorem Rep.monoH (R : Rl K μ H S) (E : ExtH μ H μ' H') : ∀ {d : D} {v : V}, Rep K μ H d v → Rep K μ' H' d v
  | .non, v, h => by simpa only [Rep] using h
  | .bl b, v, h => by simpa only [Rep] using h
  | .int i, v, h => by simpa only [Rep] using h
  | .str x, v, h => by simpa only [Rep] using h
  | .tup ds, v, h => by
    simp only [Rep] at h ⊢
    obtain ⟨a, vs, rfl, h1, h2⟩ := h
    exact ⟨a, vs, rfl, E.sqT R h1, Reps.monoH R E h2⟩
  | .lst ds, v, h => by
    simp only [Rep] at h ⊢
    obtain ⟨a, vs, rfl, h0, h1, h2⟩ := h
    exact ⟨a, vs, rfl, E.fz h0 h1, E.keep a _ h0.1 h0.2 h1, Reps.monoH R E h2⟩
  | .scr ds, v, h => by
    simp only [Rep] at h ⊢
    obtain ⟨a, vs, rfl, h1, h2⟩ := h
    exact ⟨a, vs, rfl, E.scr R h1, Reps.monoH R E h2⟩
  | .dic ks ds, v, h => by
    simp only [Rep] at h ⊢
    obtain ⟨a, vs, rfl, h0, h1, h2, h3⟩ := h
    exact ⟨a, vs, rfl, E.fz h0 h2, h1, E.keep a _ h0.1 h0.2 h2, Reps.monoH R E h3⟩
  | .ref k, v, h => by
    simp only [Rep] at h ⊢
    obtain ⟨a, rfl, h1, h2⟩ := h
    exact ⟨a, rfl, E.ad h1, (E.kp a).1 h2⟩
  | .rfd k, v, h => by
    simp only [Rep] at h ⊢
    obtain ⟨a, rfl, h1, h2⟩ := h
    exact ⟨a, rfl, E.ad h1, (E.kp a).2 h2⟩
  | .ntup ds, v, h => by
    simp only [Rep] at h ⊢
    obtain ⟨a, vs, rfl, h1, h2⟩ := h
    exact ⟨a, vs, rfl, E.notin R h1 not_mt_tup, Reps.monoH R E h2⟩
  | .exc C f ds, v, h => by
    simp only [Rep] at h ⊢
    obtain ⟨a, c, vs, rfl, h1, h2, h3⟩ := h
    exact ⟨a, c, vs, rfl, h1, E.exAt R h2, Reps.monoH R E h3⟩
theorem Reps.monoH (R : Rl K μ H S) (E : ExtH μ H μ' H') : ∀ {ds : List D} {vs : List V}, Reps K μ H ds vs → Reps K μ' H' ds vs
  | [], vs, h => by simpa only [Reps] using h
  | d :: ds, vs, h => by
    obtain ⟨v, r, rfl, p, t⟩ := reps_cons.mp h
    exact Reps.cons (Rep.monoH R E p) (Reps.monoH R E t)
end
theorem Ext.fz (E : Ext μ H μ' H') {a : Addr} {o : HO} (h : μ.fz a) (e : H a = some o) : μ'.fz a := E.toH.fz h e
theorem Ext.ad (E : Ext μ H μ' H') {k : Nat} {a : Addr} (h : μ.ad[k]? = some a) : μ'.ad[k]? = some a := E.toH.ad h
theorem Ext.notin (E : Ext μ H μ' H') (R : Rl K μ H S) {a : Addr} {o : HO} (e : H a = some o) (n : ¬ Mt o) : H' a = some o := E.toH.notin R e n
theorem Ext.sqT (E : Ext μ H μ' H') (R : Rl K μ H S) {a : Addr} {vs : List V} (h : SqT K H a vs) : SqT K H' a vs := E.toH.sqT R h
theorem Ext.scr (E : Ext μ H μ' H') (R : Rl K μ H S) {a : Addr} {vs : List V} (h : ScrAt K H a vs) : ScrAt K H' a vs := E.toH.scr R h
theorem Ext.exAt (E : Ext μ H μ' H') (R : Rl K μ H S) {a c : Addr} {f : Str} {vs : List V} (h : ExAt H a c f vs) : ExAt H' a c f vs := E.toH.exAt R h
theorem Rep.mono (R : Rl K μ H S) (E : Ext μ H μ' H') {d : D} {v : V} (h : Rep K μ H d v) : Rep K μ' H' d v := Rep.monoH R E.toH h
theorem Reps.mono (R : Rl K μ H S) (E : Ext μ H μ' H') {ds : List D} {vs : List V} (h : Reps K μ H ds vs) : Reps K μ' H' ds vs := Reps.monoH R E.toH h
theorem RepM.mono (R : Rl K μ H S) (E : Ext μ H μ' H') {a : Addr} {mo : MO} (h : RepM K μ H a mo) (k : H' a = H a) : RepM K μ' H' a mo := by
  cases mo with
  | lst kp xs =>
    obtain ⟨vs, e, r⟩ := h
    exact ⟨vs, k.trans e, Reps.mono R E r⟩
  | dct kp ks xs =>
    obtain ⟨vs, l, e, r⟩ := h
    exact ⟨vs, l, k.trans e, Reps.mono R E r⟩
/-- all that was there stands -/
theorem Rl.grow (R : Rl K μ H S) (h : ∀ a o, H a = some o → H' a = some o) : Rl K μ H' S := by
  have E : Ext μ H μ H' := Ext.grow h
  refine ⟨R.len, R.nd, fun k mo a e1 e2 => ?_, fun a ha => ?_, R.sep⟩
  · have q := R.at_ k mo a e1 e2
    refine RepM.mono R E q ?_
    cases mo with
    | lst kp xs =>
      obtain ⟨vs, e, _⟩ := q
      rw [h _ _ e, e]
    | dct kp ks xs =>
      obtain ⟨vs, _, e, _⟩ := q
      rw [h _ _ e, e]
  · obtain ⟨vs, e⟩ := R.hid a ha
    exact ⟨vs, h _ _ e⟩
theorem Rl.new (R : Rl K μ H S) {p : Addr} {o : HO} (hp : H p = none) : Rl K μ (upd H p o) S := R.grow fun a u e => by
  rw [upd_ne (ne_of_none e hp)]; exact e
/-- a new object is no object of the store -/
theorem Rl.fz (R : Rl K μ H S) {p : Addr} (hp : H p = none) : μ.fz p := by
  refine ⟨fun q => ?_, fun q => ?_⟩
  · obtain ⟨vs, e, _⟩ := R.mem q; rw [hp] at e; cases e
  · obtain ⟨vs, e⟩ := R.hid p q; rw [hp] at e; cases e
/-- a new object of the store -/
def Mu.push (μ : Mu) (p : Addr) : Mu := ⟨μ.ad ++ [p], μ.hid⟩
theorem Ext.push {p : Addr} {o : HO} (hp : H p = none) : Ext μ H (μ.push p) (upd H p o) := by
  refine ⟨⟨[], by simp [Mu.push], fun _ h => nomatch h⟩, ⟨[p], rfl, fun a h => by rw [List.mem_singleton.mp h]; exact hp⟩, fun a u _ e => by rw [upd_ne (ne_of_none e hp)]; exact e, fun a e => ?_, Kp.new hp⟩
  by_cases h : a = p
  · subst h; rw [upd_same]; simp
  · rw [upd_ne h]; exact e
theorem Rl.pushG (R : Rl K μ H S) {p : Addr} {o : HO} {mo' : MO} (hp : H p = none) (h : RepM K (μ.push p) (upd H p o) p mo') : Rl K (μ.push p) (upd H p o) (S ++ [mo']) := by
  have E : Ext μ H (μ.push p) (upd H p o) := Ext.push hp
  have hz := R.fz hp
  refine ⟨?_, ?_, fun k mo a e1 e2 => ?_, fun a ha => ?_, fun a ha => ?_⟩
  · show (μ.ad ++ [p]).length = _
    rw [List.length_append, List.length_append, R.len]; rfl
  · show (μ.ad ++ [p]).Nodup
    rw [List.nodup_append]
    exact ⟨R.nd, by simp, fun a ha b hb => by rw [List.mem_singleton.mp hb]; rintro rfl; exact hz.1 ha⟩
  · have e2' : (μ.ad ++ [p])[k]? = some a := e2
    by_cases hk : k < S.length
    · rw [List.getElem?_append_left hk] at e1
      rw [List.getElem?_append_left (by rw [R.len]; exact hk)] at e2'
      refine RepM.mono R E (R.at_ k mo a e1 e2') ?_
      have : a ∈ μ.ad := List.mem_of_getElem? e2'
      rw [upd_ne (show a ≠ p from fun z => hz.1 (z ▸ this))]
    · rw [List.getElem?_append_right (by omega)] at e1
      rw [List.getElem?_append_right (by rw [R.len]; omega), R.len] at e2'
      cases hj : k - S.length with
      | zero =>
        rw [hj] at e1 e2'
        simp at e1 e2'
        subst e1; subst e2'
        exact h
      | succ j => rw [hj] at e1; simp at e1
  · obtain ⟨us, e⟩ := R.hid a ha
    exact ⟨us, by rw [upd_ne (ne_of_none e hp)]; exact e⟩
  · show a ∉ μ.ad ++ [p]
    intro q
    rcases List.mem_append.mp q with q | q
    · exact R.sep a ha q
    · rw [List.mem_singleton.mp q] at ha; exact hz.2 ha
theorem Rl.push (R : Rl K μ H S) {p : Addr} {kp : Bool} {xs : List D} {vs : List V} (hp : H p = none) (h : Reps K μ H xs vs) : Rl K (μ.push p) (upd H p (.lst vs)) (S ++ [.lst kp xs]) :=
  R.pushG hp ⟨vs, upd_same, Reps.mono R (Ext.push hp) h⟩
theorem Rl.pushT (R : Rl K μ H S) {p : Addr} {kp : Bool} (hp : H p = none) : Rl K (μ.push p) (upd H p (.dT [])) (S ++ [.dct kp [] []]) :=
  R.pushG hp ⟨[], rfl, upd_same, Reps.nil⟩
/-- an object of the store is changed -/
theorem Ext.put {a : Addr} {o : HO} (ha : a ∈ μ.ad) (hk : Kp H (upd H a o) a) : Ext μ H μ (upd H a o) := by
  refine ⟨⟨[], by simp, fun _ h => nomatch h⟩, ⟨[], by simp, fun _ h => nomatch h⟩, fun b u hb e => ?_, fun b e => ?_, fun b => ?_⟩
  · rw [upd_ne (show b ≠ a from fun z => hb (by rw [z]; exact ha))]; exact e
  · by_cases h : b = a
    · subst h; rw [upd_same]; simp
    · rw [upd_ne h]; exact e
  · by_cases h : b = a
    · subst h; exact hk
    · exact ⟨fun ⟨vs, e⟩ => ⟨vs, by rw [upd_ne h]; exact e⟩, fun ⟨vs, e⟩ => ⟨vs, by rw [upd_ne h]; exact e⟩⟩
theorem Rl.putG (R : Rl K μ H S) {k : Nat} {a : Addr} {o : HO} {mo' : MO} (ha : μ.ad[k]? = some a) (hk' : Kp H (upd H a o) a) (h : RepM K μ (upd H a o) a mo') : Rl K μ (upd H a o) (S.set k mo') := by
  have hm : a ∈ μ.ad := List.mem_of_getElem? ha
  have E : Ext μ H μ (upd H a o) := Ext.put hm hk'
  refine ⟨by rw [List.length_set]; exact R.len, R.nd, fun j mo b e1 e2 => ?_, fun b hb => ?_, R.sep⟩
  · by_cases hj : k = j
    · subst hj
      rw [ha] at e2; cases e2
      have hk : k < S.length := by rw [← R.len]; exact (List.getElem?_eq_some_iff.mp ha).1
      rw [List.getElem?_set_self hk] at e1
      cases e1
      exact h
    · rw [List.getElem?_set_ne hj] at e1
      refine RepM.mono R E (R.at_ j mo b e1 e2) (upd_ne fun z => ?_)
      subst z
      obtain ⟨hk, e3⟩ := List.getElem?_eq_some_iff.mp ha
      obtain ⟨hj2, e4⟩ := List.getElem?_eq_some_iff.mp e2
      exact hj (List.getElem_inj R.nd |>.mp (e3.trans e4.symm))
  · obtain ⟨us, e⟩ := R.hid b hb
    exact ⟨us, by rw [upd_ne (show b ≠ a from fun z => R.sep b hb (by rw [z]; exact hm))]; exact e⟩
theorem Rl.put (R : Rl K μ H S) {k : Nat} {a : Addr} {kp : Bool} {xs : List D} {vs : List V} (ha : μ.ad[k]? = some a) (hl : IsL H a) (h : Reps K μ H xs vs) : Rl K μ (upd H a (.lst vs)) (S.set k (.lst kp xs)) :=
  R.putG ha (Kp.putL hl) ⟨vs, upd_same, Reps.mono R (Ext.put (List.mem_of_getElem? ha) (Kp.putL hl)) h⟩
theorem Rl.putT (R : Rl K μ H S) {k : Nat} {a : Addr} {kp : Bool} {ks : List (List Key)} {xs : List D} {vs : List V} (ha : μ.ad[k]? = some a) (hl : IsT H a) (l : ks.length = vs.length) (h : Reps K μ H xs vs) : Rl K μ (upd H a (.dT (ks.zip vs))) (S.set k (.dct kp ks xs)) :=
  R.putG ha (Kp.putT hl) ⟨vs, l, upd_same, Reps.mono R (Ext.put (List.mem_of_getElem? ha) (Kp.putT hl)) h⟩
end

/-! ### names' values -/
def RepEnv (K : PySem.W.Frag) (μ : Mu) (H : Hp) (σ : L2.St) (δ : List (Option D)) : Prop :=
  σ.length = δ.length ∧ ∀ (i : Nat) (d : D), δ[i]? = some (some d) → ∃ v, σ[i]? = some (some v) ∧ Rep K μ H d v
section
variable {K : PySem.W.Frag} {μ μ' : Mu} {H H' : Hp} {S : Sto} {σ : L2.St} {δ : List (Option D)}
theorem RepEnv.mono (R : Rl K μ H S) (E : Ext μ H μ' H') (h : RepEnv K μ H σ δ) : RepEnv K μ' H' σ δ :=
  ⟨h.1, fun i d e => let ⟨v, e1, r⟩ := h.2 i d e; ⟨v, e1, r.mono R E⟩⟩
theorem RepEnv.monoH (R : Rl K μ H S) (E : ExtH μ H μ' H') (h : RepEnv K μ H σ δ) : RepEnv K μ' H' σ δ :=
  ⟨h.1, fun i d e => let ⟨v, e1, r⟩ := h.2 i d e; ⟨v, e1, r.monoH R E⟩⟩
theorem RepEnv.set (h : RepEnv K μ H σ δ) {i : Nat} {d : D} {v : V} (r : Rep K μ H d v) : RepEnv K μ H (σ.set i (some v)) (δ.set i (some d)) := by
  refine ⟨by rw [List.length_set, List.length_set]; exact h.1, fun j e q => ?_⟩
  by_cases hj : i = j
  · subst hj
    have hi : i < δ.length := by
      have := (List.getElem?_eq_some_iff.mp q).1
      rwa [List.length_set] at this
    rw [List.getElem?_set_self hi] at q
    cases q
    exact ⟨v, by rw [List.getElem?_set_self (by rw [h.1]; exact hi)], r⟩
  · rw [List.getElem?_set_ne hj] at q
    rw [List.getElem?_set_ne hj]
    exact h.2 j e q
end

/-! ### a hidden list -/
def Mu.hide (μ : Mu) (p : Addr) : Mu := ⟨μ.ad, p :: μ.hid⟩
def Mu.show (μ : Mu) (h : List Addr) : Mu := ⟨μ.ad, h⟩
section
variable {K : PySem.W.Frag} {μ μ' : Mu} {H H' : Hp} {S : Sto} {p : Addr}
theorem SqT.keep (h : ∀ xs, H p ≠ some (.tup xs)) (h' : ∀ o u, H p ≠ some (.frz o u)) {o : HO} {a : Addr} {vs : List V} (q : SqT K H a vs) : SqT K (upd H p o) a vs := by
  rcases q with (q | ⟨ob, q⟩) | q
  · exact .inl (.inl (by rw [upd_ne (show a ≠ p from fun z => h _ (z ▸ q))]; exact q))
  · exact .inl (.inr ⟨ob, by rw [upd_ne (show a ≠ p from fun z => h' _ _ (z ▸ q))]; exact q⟩)
  · exact .inr q
theorem ExAt.off {vs0 : List V} {o : HO} (hl : H p = some (.lst vs0)) {a c : Addr} {f : Str} {vs : List V} (h : ExAt H a c f vs) : ExAt (upd H p o) a c f vs := by
  have no : ∀ {b : Addr} {u : HO}, H b = some u → (∀ vs, u ≠ .lst vs) → upd H p o b = some u := fun {b u} e n => by
    rw [upd_ne (show b ≠ p from fun z => by rw [z, hl] at e; exact n _ (Option.some.inj e).symm)]; exact e
  rcases h with ⟨e, h⟩ | ⟨y, dx, e, h1, h2⟩
  · exact .inl ⟨e, no h (by intro vs z; unfold exo at z; cases z)⟩
  · exact .inr ⟨y, dx, e, no h1 (by intro vs z; unfold exo at z; cases z), no h2 (by intro vs z; unfold exd at z; cases z)⟩
mutual
/-- what does not lean on p stands where p is changed -/
theorem Rep.off {vs0 vs1 : List V} (hp : ¬ μ.fz p) (hl : H p = some (.lst vs0)) : ∀ {d : D} {v : V}, Rep K μ H d v → Rep K μ (upd H p (.lst vs1)) d v
  | .non, v, h => by simpa only [Rep] using h
  | .bl b, v, h => by simpa only [Rep] using h
  | .int i, v, h => by simpa only [Rep] using h
  | .str x, v, h => by simpa only [Rep] using h
  | .tup ds, v, h => by
    simp only [Rep] at h ⊢
    obtain ⟨a, vs, rfl, h1, h2⟩ := h
    exact ⟨a, vs, rfl, SqT.keep (by rw [hl]; intro xs z; cases z) (by rw [hl]; intro ob u z; cases z) h1, Reps.off hp hl h2⟩
  | .lst ds, v, h => by
    simp only [Rep] at h ⊢
    obtain ⟨a, vs, rfl, h0, h1, h2⟩ := h
    exact ⟨a, vs, rfl, h0, by rw [upd_ne (show a ≠ p from fun z => hp (z ▸ h0))]; exact h1, Reps.off hp hl h2⟩
  | .scr ds, v, h => by
    simp only [Rep] at h ⊢
    obtain ⟨a, vs, rfl, h1, h2⟩ := h
    refine ⟨a, vs, rfl, ?_, Reps.off hp hl h2⟩
    rcases h1 with ⟨ob, h1⟩ | h1
    · exact .inl ⟨ob, by rw [upd_ne (show a ≠ p from fun z => by rw [z, hl] at h1; cases h1)]; exact h1⟩
    · exact .inr h1
  | .dic ks ds, v, h => by
    simp only [Rep] at h ⊢
    obtain ⟨a, vs, rfl, h0, h1, h2, h3⟩ := h
    exact ⟨a, vs, rfl, h0, h1, by rw [upd_ne (show a ≠ p from fun z => hp (z ▸ h0))]; exact h2, Reps.off hp hl h3⟩
  | .ref k, v, h => by
    simp only [Rep] at h ⊢
    obtain ⟨a, rfl, h1, us, e⟩ := h
    refine ⟨a, rfl, h1, ?_⟩
    by_cases z : a = p
    · exact ⟨vs1, by rw [z, upd_same]⟩
    · exact ⟨us, by rw [upd_ne z]; exact e⟩
  | .rfd k, v, h => by
    simp only [Rep] at h ⊢
    obtain ⟨a, rfl, h1, us, e⟩ := h
    exact ⟨a, rfl, h1, us, by rw [upd_ne (show a ≠ p from fun z => by rw [z, hl] at e; cases e)]; exact e⟩
  | .ntup ds, v, h => by
    simp only [Rep] at h ⊢
    obtain ⟨a, vs, rfl, h1, h2⟩ := h
    exact ⟨a, vs, rfl, by rw [upd_ne (show a ≠ p from fun z => by rw [z, hl] at h1; cases h1)]; exact h1, Reps.off hp hl h2⟩
  | .exc C f ds, v, h => by
    simp only [Rep] at h ⊢
    obtain ⟨a, c, vs, rfl, h1, h2, h3⟩ := h
    exact ⟨a, c, vs, rfl, h1, h2.off hl, Reps.off hp hl h3⟩
theorem Reps.off {vs0 vs1 : List V} (hp : ¬ μ.fz p) (hl : H p = some (.lst vs0)) : ∀ {ds : List D} {vs : List V}, Reps K μ H ds vs → Reps K μ (upd H p (.lst vs1)) ds vs
  | [], vs, h => by simpa only [Reps] using h
  | d :: ds, vs, h => by
    obtain ⟨v, r, rfl, q, t⟩ := reps_cons.mp h
    exact Reps.cons (Rep.off hp hl q) (Reps.off hp hl t)
end
mutual
/-- fewer hidden -/
theorem Rep.shown {hs : List Addr} (hh : ∀ a ∈ hs, a ∈ μ.hid) : ∀ {d : D} {v : V}, Rep K μ H d v → Rep K (μ.show hs) H d v
  | .non, v, h => by simpa only [Rep] using h
  | .bl b, v, h => by simpa only [Rep] using h
  | .int i, v, h => by simpa only [Rep] using h
  | .str x, v, h => by simpa only [Rep] using h
  | .tup ds, v, h => by
    simp only [Rep] at h ⊢
    obtain ⟨a, vs, rfl, h1, h2⟩ := h
    exact ⟨a, vs, rfl, h1, Reps.shown hh h2⟩
  | .lst ds, v, h => by
    simp only [Rep] at h ⊢
    obtain ⟨a, vs, rfl, h0, h1, h2⟩ := h
    exact ⟨a, vs, rfl, ⟨h0.1, fun z => h0.2 (hh a z)⟩, h1, Reps.shown hh h2⟩
  | .scr ds, v, h => by
    simp only [Rep] at h ⊢
    obtain ⟨a, vs, rfl, h1, h2⟩ := h
    exact ⟨a, vs, rfl, h1, Reps.shown hh h2⟩
  | .dic ks ds, v, h => by
    simp only [Rep] at h ⊢
    obtain ⟨a, vs, rfl, h0, h1, h2, h3⟩ := h
    exact ⟨a, vs, rfl, ⟨h0.1, fun z => h0.2 (hh a z)⟩, h1, h2, Reps.shown hh h3⟩
  | .ref k, v, h => by
    simp only [Rep] at h ⊢
    exact h
  | .rfd k, v, h => by
    simp only [Rep] at h ⊢
    exact h
  | .ntup ds, v, h => by
    simp only [Rep] at h ⊢
    obtain ⟨a, vs, rfl, h1, h2⟩ := h
    exact ⟨a, vs, rfl, h1, Reps.shown hh h2⟩
  | .exc C f ds, v, h => by
    simp only [Rep] at h ⊢
    obtain ⟨a, c, vs, rfl, h1, h2, h3⟩ := h
    exact ⟨a, c, vs, rfl, h1, h2, Reps.shown hh h3⟩
theorem Reps.shown {hs : List Addr} (hh : ∀ a ∈ hs, a ∈ μ.hid) : ∀ {ds : List D} {vs : List V}, Reps K μ H ds vs → Reps K (μ.show hs) H ds vs
  | [], vs, h => by simpa only [Reps] using h
  | d :: ds, vs, h => by
    obtain ⟨v, r, rfl, q, t⟩ := reps_cons.mp h
    exact Reps.cons (Rep.shown hh q) (Reps.shown hh t)
end
theorem RepM.off {vs0 vs1 : List V} (hp : ¬ μ.fz p) (hl : H p = some (.lst vs0)) {a : Addr} {mo : MO} (ha : a ≠ p) (h : RepM K μ H a mo) : RepM K μ (upd H p (.lst vs1)) a mo := by
  cases mo with
  | lst kp xs =>
    obtain ⟨vs, e, r⟩ := h
    exact ⟨vs, by rw [upd_ne ha]; exact e, Reps.off hp hl r⟩
  | dct kp ks xs =>
    obtain ⟨vs, l, e, r⟩ := h
    exact ⟨vs, l, by rw [upd_ne ha]; exact e, Reps.off hp hl r⟩
theorem RepM.shown {hs : List Addr} (hh : ∀ a ∈ hs, a ∈ μ.hid) {a : Addr} {mo : MO} (h : RepM K μ H a mo) : RepM K (μ.show hs) H a mo := by
  cases mo with
  | lst kp xs =>
    obtain ⟨vs, e, r⟩ := h
    exact ⟨vs, e, Reps.shown hh r⟩
  | dct kp ks xs =>
    obtain ⟨vs, l, e, r⟩ := h
    exact ⟨vs, l, e, Reps.shown hh r⟩
/-- the hidden list is changed -/
theorem Rl.off (R : Rl K μ H S) {vs vs0 : List V} (hp : p ∈ μ.hid) (hl : H p = some (.lst vs0)) : Rl K μ (upd H p (.lst vs)) S := by
  have hz : ¬ μ.fz p := fun z => z.2 hp
  refine ⟨R.len, R.nd, fun k mo a e1 e2 => RepM.off hz hl (fun z => R.sep p hp (z ▸ List.mem_of_getElem? e2)) (R.at_ k mo a e1 e2), fun a ha => ?_, R.sep⟩
  by_cases h : a = p
  · exact ⟨vs, by rw [h, upd_same]⟩
  · obtain ⟨us, e⟩ := R.hid a ha
    exact ⟨us, by rw [upd_ne h]; exact e⟩
theorem Rl.shown (R : Rl K μ H S) {hs : List Addr} (hh : ∀ a ∈ hs, a ∈ μ.hid) : Rl K (μ.show hs) H S :=
  ⟨R.len, R.nd, fun k mo a e1 e2 => RepM.shown hh (R.at_ k mo a e1 e2), fun a ha => R.hid a (hh a ha), fun a ha => R.sep a (hh a ha)⟩
/-- a new list is hidden -/
theorem Ext.hide {o : HO} (hp : H p = none) : Ext μ H (μ.hide p) (upd H p o) := by
  refine ⟨⟨[p], rfl, fun a h => by rw [List.mem_singleton.mp h]; exact hp⟩, ⟨[], by simp [Mu.hide], fun _ h => nomatch h⟩, fun a u _ e => by rw [upd_ne (ne_of_none e hp)]; exact e, fun a e => ?_, Kp.new hp⟩
  by_cases h : a = p
  · subst h; rw [upd_same]; simp
  · rw [upd_ne h]; exact e
theorem Rl.hide (R : Rl K μ H S) {vs : List V} (hp : H p = none) : Rl K (μ.hide p) (upd H p (.lst vs)) S := by
  have E : Ext μ H (μ.hide p) (upd H p (.lst vs)) := Ext.hide hp
  have hz := R.fz hp
  refine ⟨R.len, R.nd, fun k mo a e1 e2 => RepM.mono R E (R.at_ k mo a e1 e2) ?_, fun a ha => ?_, fun a ha => ?_⟩
  · have : a ∈ μ.ad := List.mem_of_getElem? e2
    rw [upd_ne (show a ≠ p from fun z => hz.1 (z ▸ this))]
  · rcases List.mem_cons.mp ha with h | h
    · exact ⟨vs, by rw [h, upd_same]⟩
    · obtain ⟨us, e⟩ := R.hid a h
      exact ⟨us, by rw [upd_ne (ne_of_none e hp)]; exact e⟩
  · rcases List.mem_cons.mp ha with h | h
    · rw [h]; exact hz.1
    · exact R.sep a h
end
end Dn

set_option maxHeartbeats 4000000
namespace Dn
open PySem PySem.Spec PyProof.Rows L2

/-! ### the core: expressions, targets, what is walked, statements -/
mutual
inductive C where
  | non | bl (b : Bool) | int (i : Int) | str (x : Str)
  | var (i : Nat)
  | glo (x : Str)
  | tup (es : List C)
  /-- own: none: frozen; some keep: an object of the store -/
  | lst (own : Option Bool) (es : List C)
  | dic0
  /-- {}, an object of the store, its keys tuples -/
  | dicT (kp : Bool)
  | dic1 (k : Str) (i : Int)
  /-- list(zip(a, b)), tuple(zip(a, b)) -/
  | zipV (t : Bool) (own : Option Bool) (a b : C)
  /-- a display of a tuple, some parts starred -/
  | tupS (es : List C) (fl : List Bool)
  /-- e in X, X[e]: X a dict of the module from texts to whole numbers -/
  | din (e : C) (x : Str) (kvs : List (Str × Int))
  | dix (x : Str) (kvs : List (Str × Int)) (e : C)
  /-- C(e), C(f=e), C(): an exception of an own class -/
  | mkx (cn f : Str) (es : List C)
  /-- e.f, e an exception of an own class -/
  | fld (e : C) (f : Str) (tab : List (Str × Option Str))
  /-- isinstance(e, T): cs those of the classes of all that stand under T -/
  | isx (e : C) (T : Str) (cs : List Str) (tab : List (Str × Option Str))
  /-- a + b of lists, the sum an object of the store -/
  | cat (kp : Bool) (a b : C)
  | bin (o : Operator) (a b : C)
  | neg (a : C)
  | not (a : C)
  | cmp (o : CmpOp) (a b : C)
  | cmp2 (o p : CmpOp) (a b c : C)
  | and (a b : C)
  | or (a b : C)
  | ite (c a b : C)
  | call (f : Str) (es : List C)
  | callK (f : Str) (es : List C) (ks : List Str) (kes : List C)
  | blt (f : String) (es : List C)
  | isi (e : C) (T : String)
  | meth (m : String) (o : C) (es : List C)
  | ix (a b : C)
  | sl (a lo hi : C)
  | rev (a : C)
  /-- a[::n], n 1 or -1 -/
  | stp (a n : C)
  /-- a display of a tuple that is a key -/
  | ntp (es : List C)
  /-- [elt for t in it for t2 in it2] -/
  | lc2 (elt : C) (t : CT) (it : CI) (t2 : CT) (it2 : CI) (own own2 : List Nat)
  | lc (elt : C) (t : CT) (it : CI) (ifs : List C) (own : List Nat)
inductive CT where
  | name (i : Nat)
  | tup (ts : List CT)
  | sub (o i : C)
inductive CI where
  | seq (e : C)
  | rng1 (a : C)
  | rng2 (a b : C)
  | enm (e : C)
  | zip (a b : C)
  /-- zip of two lists, to one name -/
  | zipN (a b : C)
end
inductive CS where
  | expr (e : C)
  | asg (t : CT) (e : C)
  | par (i j : Nat) (a b : C)
  | par3 (i j l : Nat) (a b c : C)
  | ret (e : C)
  | retN
  | ife (c : C) (a b : List CS)
  | for_ (t : CT) (it : CI) (body : List CS)
  | whl (c : C) (body : List CS)
  | aug (i : Nat) (o : Operator) (e : C)
  | pass | brk | cont
  | never

abbrev En := List (Option D)

/-! ### operations -/
def items (S : Sto) : D → Option (List D)
  | .tup xs => some xs
  | .lst xs => some xs
  | .scr xs => some xs
  | .ref k => (S[k]?).map MO.xs
  | _ => none
def litems (S : Sto) : D → Option (List D)
  | .lst xs => some xs
  | .scr xs => some xs
  | .ref k => (S[k]?).map MO.xs
  | _ => none
/-- an object of the store as the list that it is now -/
def dr (S : Sto) : D → D
  | .ref k => match S[k]? with
    | some mo => .lst mo.xs
    | none => .ref k
  | d => d
mutual
def pd : D → Option PyData
  | .non => some .none
  | .bl b => some (.bool b)
  | .int i => some (.int i)
  | .str x => some (.str x)
  | .tup xs => (pds xs).map .tuple
  | .lst xs => (pds xs).map .list
  | .scr xs => (pds xs).map .list
  | .dic _ _ => none
  | .ref _ => none
  | .exc _ _ _ => none
  | .rfd _ => none
  | .ntup _ => none
def pds : List D → Option (List PyData)
  | [] => some []
  | d :: ds => (pd d).bind fun p => (pds ds).map fun r => p :: r
end
def kP : Key → PyData
  | .inl i => .int i
  | .inr x => .str x
mutual
/-- what repr shows; dicts too -/
def rp : D → Option PyData
  | .non => some .none
  | .bl b => some (.bool b)
  | .int i => some (.int i)
  | .str x => some (.str x)
  | .tup xs => (rps xs).map .tuple
  | .lst xs => (rps xs).map .list
  | .scr xs => (rps xs).map .list
  | .dic ks xs => (rps xs).map fun ps => .dict ((ks.map kP).zip ps)
  | .ref _ => none
  | .exc _ _ _ => none
  | .rfd _ => none
  | .ntup _ => none
def rps : List D → Option (List PyData)
  | [] => some []
  | d :: ds => (rp d).bind fun p => (rps ds).map fun r => p :: r
end
def intsD : List D → Option (List Int)
  | [] => some []
  | .int i :: r => (intsD r).map fun q => i :: q
  | _ :: _ => none
def blsD : List D → Option (List Bool)
  | [] => some []
  | .bl b :: r => (blsD r).map fun q => b :: q
  | _ :: _ => none
def bI (b : Bool) : Int := if b = true then 1 else 0
def mulOk (i j : Int) : Bool := decide (i.natAbs.log2 + j.natAbs.log2 < 1000000)
def divOk (j : Int) : Bool := decide (0 < j) && decide (j.natAbs.log2 < 9000)
def divNk (j : Int) : Bool := decide (j < 0) && decide (j.natAbs.log2 < 9000)
def binD : Operator → D → D → Option D
  | .Add, .int i, .int j => some (.int (i + j))
  | .Sub, .int i, .int j => some (.int (i - j))
  | .Mult, .int i, .int j => if mulOk i j = true then some (.int (i * j)) else none
  | .FloorDiv, .int i, .int j => if divOk j = true then some (.int (i / j)) else if divNk j = true then some (.int (i.fdiv j)) else none
  | .Mod, .int i, .int j => if 0 < j then some (.int (i % j)) else none
  | .Pow, .int i, .int j => if 0 ≤ j ∧ j ≤ 1000000 ∧ i.natAbs < 2 ^ 64 then some (.int (i ^ j.toNat)) else none
  | .Add, .str x, .str y => if x.length + y.length ≤ 16777216 then some (.str (x ++ y)) else none
  | .Add, .tup xs, .tup ys => if xs.length + ys.length ≤ 16777216 then some (.tup (xs ++ ys)) else none
  | .Add, .lst xs, .lst ys => if xs.length + ys.length ≤ 16777216 then some (.lst (xs ++ ys)) else none
  | .Mult, .lst xs, .int n => if 0 ≤ n ∧ n ≤ 16777216 ∧ xs.length * n.toNat ≤ 16777216 then some (.lst (List.replicate n.toNat xs).flatten) else none
  | .Add, .int i, .bl b => some (.int (i + bI b))
  | .Sub, .int i, .bl b => some (.int (i - bI b))
  | .Mult, .int i, .bl b => some (.int (i * bI b))
  | .Add, .bl a, .int j => some (.int (bI a + j))
  | .Sub, .bl a, .int j => some (.int (bI a - j))
  | .Mult, .bl a, .int j => some (.int (bI a * j))
  | .Add, .bl a, .bl b => some (.int (bI a + bI b))
  | .Sub, .bl a, .bl b => some (.int (bI a - bI b))
  | .Mult, .bl a, .bl b => some (.int (bI a * bI b))
  | _, _, _ => none
def flatD : D → Bool
  | .non => true
  | .bl _ => true
  | .int _ => true
  | .str _ => true
  | _ => false
def vD : D → V
  | .non => .non
  | .bl b => .bl b
  | .int i => .int i
  | .str x => .str x
  | _ => .ref 0
def eqP (d e : D) : Option Bool := (pd d).bind fun p => (pd e).bind fun q => if (SeqAt.shaped p && SeqAt.shaped q) = true then some (PyData.eqv p q) else none
def eqD (d e : D) : Option Bool :=
  if (flatD d && flatD e && scal (vD d) (vD e)) = true then some (decide (vD d = vD e)) else match d, e with
    | .tup xs, .tup [] => some xs.isEmpty
    | .tup [], .tup ys => some ys.isEmpty
    | d, e => eqP d e
def isTup : D → Bool
  | .tup _ => true
  | _ => false
/-- y: a list or tuple; x within -/
def inD (S : Sto) (d e : D) : Option Bool :=
  (items S e).bind fun xs => if (flatD d && xs.all flatD) = true then some (xs.any fun y => eqV (vD y) (vD d)) else
    (pd d).bind fun p => (pds xs).bind fun qs => if (SeqAt.shaped p && SeqAt.shaped (.list qs)) = true then some (qs.any fun z => PyData.eqv z p) else none
def cmpD (S : Sto) (o : CmpOp) (d e : D) : Option Bool :=
  match o with
  | .Eq => eqD (dr S d) (dr S e)
  | .NotEq => (eqD (dr S d) (dr S e)).map (!·)
  | .Lt => match d, e with | .int i, .int j => some (decide (i < j)) | _, _ => none
  | .LtE => match d, e with | .int i, .int j => some (decide (i ≤ j)) | _, _ => none
  | .Gt => match d, e with | .int i, .int j => some (decide (j < i)) | _, _ => none
  | .GtE => match d, e with | .int i, .int j => some (decide (j ≤ i)) | _, _ => none
  | .In => inD S d e
  | .NotIn => (inD S d e).map (!·)
  | .Is => match e with | .non => some (match d with | .non => true | _ => false) | _ => none
  | .IsNot => match e with | .non => some (match d with | .non => false | _ => true) | _ => none
def truD (S : Sto) : D → Option Bool
  | .non => some false
  | .bl b => some b
  | .int i => some (i != 0)
  | .str x => if x.length ≤ 16777216 then some ((x.length : Int) != 0) else none
  | .tup xs => some (!xs.isEmpty)
  | .lst xs => some (!xs.isEmpty)
  | .scr xs => some (!xs.isEmpty)
  | .ref k => (S[k]?).map fun mo => !mo.xs.isEmpty
  | _ => none
def tyD : D → String
  | .non => "NoneType"
  | .bl _ => "bool"
  | .int _ => "int"
  | .str _ => "str"
  | .tup _ => "tuple"
  | .lst _ => "list"
  | .scr _ => "list"
  | .dic _ _ => "dict"
  | .ref _ => "list"
  | .exc _ _ _ => ""
  | .rfd _ => ""
  | .ntup _ => ""
def ixD (S : Sto) (d e : D) : Option D := match e with
  | .int i => (items S d).bind fun xs => atI xs i
  | _ => none
def cutD (xs : List D) (lo hi : Option Int) : List D := (xs.drop (HT.sIx xs.length 0 lo)).take (HT.sIx xs.length xs.length hi - HT.sIx xs.length 0 lo)
def slD (S : Sto) (d : D) (lo hi : Option Int) : Option D := match dr S d with
  | .tup xs => some (.tup (cutD xs lo hi))
  | .lst xs => some (.lst (cutD xs lo hi))
  | .scr xs => some (.lst (cutD xs lo hi))
  | _ => none
/-- b: the part is absent -/
def partD : Bool → D → Option (Option Int)
  | true, _ => some none
  | false, .int i => some (some i)
  | false, _ => none
def isNonC : C → Bool
  | .non => true
  | _ => false
/-! sorted(xs) -/
def tupC : PyData → Bool
  | .tuple (_ :: _) => true
  | _ => false
def atomC : PyData → Bool
  | .int _ => true
  | .str _ => true
  | _ => false
def srtOk (ps : List PyData) : Bool := ps.all (fun a => ps.all fun b => PySem.W.alike a b) && (ps.all tupC || ps.all atomC) && ps.all fun p => decide (p.depth ≤ 48)
/-- the key of a datum -/
def kD (d : D) : List (Int ⊕ List Nat) := match pd d with
  | some p => PySem.W.keyToks p
  | none => []
def srtD (xs : List D) : List D := xs.mergeSort (PySem.W.sortLe (PyProof.Rows.listOrd PyProof.Rows.itemOrd) false kD)
/-- the parts of a key -/
def keyD : List D → Option (List Key)
  | [] => some []
  | .int i :: r => (keyD r).map fun q => .inl i :: q
  | .str x :: r => (keyD r).map fun q => .inr x :: q
  | _ :: _ => none
def keyOf : List Key → List D
  | [] => []
  | .inl i :: r => .int i :: keyOf r
  | .inr x :: r => .str x :: keyOf r
def bltD (S : Sto) (f : String) (args : List D) : Option D :=
  if f = "len" then match args with
    | [.str x] => if x.length ≤ 16777216 then some (.int x.length) else none
    | [d] => (items S d).map fun xs => .int xs.length
    | _ => none
  else if f = "abs" then match args with
    | [.int i] => some (.int (if i < 0 then -i else i))
    | _ => none
  else if f = "int" then match args with
    | [.int i] => some (.int i)
    | [.bl b] => some (.int (if b then 1 else 0))
    | _ => none
  else if f = "all" then match args with
    | [d] => (litems S d).bind fun xs => (blsD xs).map fun bs => .bl (bs.all id)
    | _ => none
  else if f = "any" then match args with
    | [d] => (litems S d).bind fun xs => (blsD xs).map fun bs => .bl (bs.any id)
    | _ => none
  else if f = "tuple" then match args with
    | [d] => (items S d).map .tup
    | _ => none
  else if f = "list" then match args with
    | [d] => (items S d).map .lst
    | _ => none
  else if f = "divmod" then match args with
    | [.int i, .int j] => if 0 < j ∧ j < 1073741824 then some (.tup [.int (i / j), .int (i % j)]) else none
    | _ => none
  else if f = "min" then match args with
    | [.int i, .int j] => some (.int (if j < i then j else i))
    | _ => none
  else if f = "max" then match args with
    | [.int i, .int j] => some (.int (if j > i then j else i))
    | [d] => (litems S d).bind fun xs => (intsD xs).bind fun ns => match ns with
      | [] => none
      | n :: r => some (.int (r.foldl max n))
    | _ => none
  else if f = "gcd" then match args with
    | [.int i, .int j] => some (.int ((Nat.gcd i.natAbs j.natAbs : Nat) : Int))
    | _ => none
  else if f = "repr" then match args with
    | [d] => (rp (dr S d)).bind fun p => if (p.showable && decide (p.depth ≤ 64) && decide (p.shown.length ≤ 16777216)) = true then some (.str p.shown) else none
    | _ => none
  else if f = "str" then match args with
    | [.int i] => if i.natAbs.log2 < 1920 then some (.str (toString i : String)) else none
    | [.str x] => some (.str x)
    | [.bl b] => some (.str (if b = true then ("True" : Str) else ("False" : Str)))
    | _ => none
  else if f = "sorted" then match args with
    | [.rfd k] => (match S[k]? with
      | some (.dct _ ks _) => (pds (ks.map fun q => D.tup (keyOf q))).bind fun ps => if srtOk ps = true then some (.lst (srtD (ks.map fun q => .tup (keyOf q)))) else none
      | _ => none)
    | [d] => (litems S d).bind fun xs => (pds xs).bind fun ps => if srtOk ps = true then some (.lst (srtD xs)) else none
    | _ => none
  else if f = "sum" then match args with
    | [d] => (litems S d).bind fun xs => (intsD xs).map fun ns => .int ns.sum
    | _ => none
  else none
def methD (S : Sto) (m : String) (o : D) (args : List D) : Option (D × Sto) :=
  if m = "append" then match o, args with
    | .ref k, [x] => match S[k]? with
      | some (.lst kp xs) => if xs.length < 16777216 then some (.non, S.set k (.lst kp (xs ++ [x]))) else none
      | _ => none
    | _, _ => none
  else if m = "insert" then match o, args with
    | .ref k, [.int i, x] => match S[k]? with
      | some (.lst kp xs) => if xs.length < 16777216 ∧ 0 ≤ i ∧ i < 9223372036854775808 then some (.non, S.set k (.lst kp (xs.take i.toNat ++ [x] ++ xs.drop i.toNat))) else none
      | _ => none
    | _, _ => none
  else none
def putKs (ks : List (List Key)) (q : List Key) : List (List Key) := if (ks.any fun k => decide (k = q)) = true then ks else ks ++ [q]
def putXs {α : Type} (ks : List (List Key)) (xs : List α) (q : List Key) (d : α) : List α := if (ks.any fun k => decide (k = q)) = true then (ks.zip xs).map fun p => if p.1 = q then d else p.2 else xs ++ [d]
/-- o[i] = d -/
def setD (S : Sto) (o i d : D) : Option Sto := match o, i with
  | .ref k, .int j => match S[k]? with
    | some (.lst kp xs) => (ixN xs.length j).map fun n => S.set k (.lst kp (xs.set n d))
    | _ => none
  | .rfd k, .ntup is => match S[k]? with
    | some (.dct kp ks xs) => (keyD is).bind fun q => if ks.length < 16777215 then some (S.set k (.dct kp (putKs ks q) (putXs ks xs q d))) else none
    | _ => none
  | _, _ => none

/-! ### evaluation -/
/-- what is walked: its items, the object of the store that holds them -/
structure Wk where
  xs : List D
  src : Option Nat
def okW (w : Wk) (S : Sto) : Prop := ∀ k, w.src = some k → ∃ mo, S[k]? = some mo ∧ mo.xs = w.xs
/-- the text's tables: the module's data; what a call does -/
structure GE where
  data : List (Str × D)
  call : Str → List D → Sto → Option (D × Sto)
  /-- f with so many arguments and keywords: the arguments' places -/
  kw : Str → Nat → List Str → Option (List Nat)
def wipeD (δ : En) : List Nat → En
  | [] => δ
  | v :: vs => (wipeD δ vs).set v none
open Classical in
noncomputable def loopLc (w : Wk) (turn : D → Sto → Option (Option D × Sto)) : List D → Sto → Option (List D × Sto)
  | [], S => if okW w S then some ([], S) else none
  | x :: r, S => if okW w S then (turn x S).bind fun p => (loopLc w turn r p.2).map fun q => (p.1.toList ++ q.1, q.2) else none
open Classical in
noncomputable def loopLn (w : Wk) (turn : D → Sto → Option (List D × Sto)) : List D → Sto → Option (List D × Sto)
  | [], S => if okW w S then some ([], S) else none
  | x :: r, S => if okW w S then (turn x S).bind fun p => (loopLn w turn r p.2).map fun q => (p.1 ++ q.1, q.2) else none
def rngD (lo : Int) (n : Nat) : List D := (List.range n).map fun (i : Nat) => D.int (lo + i)
def enmD : Nat → List D → List D
  | _, [] => []
  | n, x :: r => .tup [.int n, x] :: enmD (n + 1) r
def zipD : List D → List D → List D
  | x :: r, y :: q => .tup [x, y] :: zipD r q
  | _, _ => []
def zipNt : List D → List D → List D
  | x :: r, y :: q => .ntup [x, y] :: zipNt r q
  | _, _ => []
def sprD : List D → List Bool → Option (List D)
  | [], [] => some []
  | d :: ds, b :: bs => (if b = true then (match d with
      | .tup xs => some xs
      | _ => none) else some [d]).bind fun xs => (sprD ds bs).map fun r => xs ++ r
  | _, _ => none
def srcOf : D → Option Nat
  | .ref k => some k
  | _ => none
def smallI (i : Int) : Bool := decide (-(2 ^ 62) ≤ i) && decide (i < 2 ^ 62)
def pick (xs : List D) : List Nat → Option (List D)
  | [] => some []
  | i :: r => (xs[i]?).bind fun x => (pick xs r).map fun q => x :: q
mutual
noncomputable def evE (G : GE) : C → En → Sto → Option (D × Sto)
  | .non, _, S => some (.non, S)
  | .bl b, _, S => some (.bl b, S)
  | .int i, _, S => some (.int i, S)
  | .str x, _, S => some (.str x, S)
  | .var i, δ, S => match δ[i]? with
    | some (some d) => some (d, S)
    | _ => none
  | .glo x, _, S => (G.data.lookup x).map fun d => (d, S)
  | .tup es, δ, S => (evEs G es δ S).bind fun p => if p.1.length ≤ 16777216 then some (.tup p.1, p.2) else none
  | .lst own es, δ, S => (evEs G es δ S).bind fun p => if p.1.length ≤ 16777216 then (match own with
    | none => some (.lst p.1, p.2)
    | some kp => some (.ref p.2.length, p.2 ++ [.lst kp p.1])) else none
  | .dicT kp, _, S => some (.rfd S.length, S ++ [.dct kp [] []])
  | .dic0, _, S => some (.dic [] [], S)
  | .dic1 k i, _, S => some (.dic [.inr k] [.int i], S)
  | .zipV t own a b, δ, S => (evE G a δ S).bind fun p => (evE G b δ p.2).bind fun q => match p.1, q.1 with
    | .tup xs, .tup ys => if t = true then some (.tup (zipD xs ys), q.2) else (match own with
      | none => some (.lst (zipD xs ys), q.2)
      | some kp => some (.ref q.2.length, q.2 ++ [.lst kp (zipD xs ys)]))
    | _, _ => none
  | .tupS es fl, δ, S => (evEs G es δ S).bind fun p => (sprD p.1 fl).bind fun ds => if ds.length ≤ 16777216 then some (.tup ds, p.2) else none
  | .din e _ kvs, δ, S => (evE G e δ S).bind fun p => match p.1 with
    | .str z => some (.bl (kvs.lookup z).isSome, p.2)
    | _ => none
  | .dix _ kvs e, δ, S => (evE G e δ S).bind fun p => match p.1 with
    | .str z => (kvs.lookup z).map fun i => (.int i, p.2)
    | _ => none
  | .mkx cn f es, δ, S => (evEs G es δ S).bind fun p => if p.1.length ≤ 1 then some (.exc cn f p.1, p.2) else none
  | .fld e f tab, δ, S => (evE G e δ S).bind fun p => match p.1 with
    | .exc C g [d] => if g = f ∧ tab.lookup C = some (some f) then some (d, p.2) else none
    | _ => none
  | .isx e _ cs tab, δ, S => (evE G e δ S).bind fun p => match p.1 with
    | .exc C _ _ => if (tab.lookup C).isSome = true then some (.bl (cs.contains C), p.2) else none
    | _ => none
  | .cat kp a b, δ, S => (evE G a δ S).bind fun p => (evE G b δ p.2).bind fun q => match dr q.2 p.1, dr q.2 q.1 with
    | .lst xs, .lst ys => if xs.length + ys.length ≤ 16777216 then some (.ref q.2.length, q.2 ++ [.lst kp (xs ++ ys)]) else none
    | _, _ => none
  | .bin o a b, δ, S => (evE G a δ S).bind fun p => (evE G b δ p.2).bind fun q => (binD o (dr q.2 p.1) (dr q.2 q.1)).map fun d => (d, q.2)
  | .neg a, δ, S => (evE G a δ S).bind fun p => match p.1 with
    | .int i => some (.int (-i), p.2)
    | _ => none
  | .not a, δ, S => (evE G a δ S).bind fun p => (truD p.2 p.1).map fun k => (.bl (!k), p.2)
  | .cmp o a b, δ, S => (evE G a δ S).bind fun p => (evE G b δ p.2).bind fun q => (cmpD q.2 o p.1 q.1).map fun k => (.bl k, q.2)
  | .cmp2 o o' a b c, δ, S => (evE G a δ S).bind fun p => (evE G b δ p.2).bind fun q => (cmpD q.2 o p.1 q.1).bind fun k =>
    if k = true then (evE G c δ q.2).bind fun r => (cmpD r.2 o' q.1 r.1).map fun k' => (.bl k', r.2) else some (.bl false, q.2)
  | .and a b, δ, S => (evE G a δ S).bind fun p => match p.1 with
    | .bl true => evE G b δ p.2
    | .bl false => some (.bl false, p.2)
    | _ => none
  | .or a b, δ, S => (evE G a δ S).bind fun p => match p.1 with
    | .bl false => evE G b δ p.2
    | .bl true => some (.bl true, p.2)
    | _ => none
  | .ite c a b, δ, S => (evT G c δ S).bind fun p => if p.1 = true then evE G a δ p.2 else evE G b δ p.2
  | .call f es, δ, S => (evEs G es δ S).bind fun p => G.call f p.1 p.2
  | .callK f es ks kes, δ, S => (evEs G es δ S).bind fun p => (evEs G kes δ p.2).bind fun q => (G.kw f es.length ks).bind fun pl =>
    (pick (p.1 ++ q.1) pl).bind fun ds => G.call f ds q.2
  | .blt f es, δ, S => (evEs G es δ S).bind fun p => (bltD p.2 f p.1).map fun d => (d, p.2)
  | .isi e T, δ, S => (evE G e δ S).bind fun p => (kitB (tyD p.1) T).map fun k => (.bl k, p.2)
  | .meth m o es, δ, S => (evE G o δ S).bind fun p => (evEs G es δ p.2).bind fun q => methD q.2 m p.1 q.1
  | .ix a b, δ, S => (evE G a δ S).bind fun p => (evE G b δ p.2).bind fun q => (ixD q.2 p.1 q.1).map fun d => (d, q.2)
  | .sl a lo hi, δ, S => (evE G a δ S).bind fun p => (evE G lo δ p.2).bind fun q => (evE G hi δ q.2).bind fun r =>
    (partD (isNonC lo) q.1).bind fun l => (partD (isNonC hi) r.1).bind fun h => (slD r.2 p.1 l h).map fun d => (d, r.2)
  | .rev a, δ, S => (evE G a δ S).bind fun p => match dr p.2 p.1 with
    | .tup xs => some (.tup xs.reverse, p.2)
    | .lst xs => some (.lst xs.reverse, p.2)
    | .scr xs => some (.lst xs.reverse, p.2)
    | _ => none
  | .stp a n, δ, S => (evE G a δ S).bind fun p => (evE G n δ p.2).bind fun q => match p.1, q.1 with
    | .tup xs, .int i => if i = 1 then some (.tup xs, q.2) else if i = -1 then some (.tup xs.reverse, q.2) else none
    | _, _ => none
  | .ntp es, δ, S => (evEs G es δ S).bind fun p => if p.1.length ≤ 16777216 then some (.ntup p.1, p.2) else none
  | .lc2 elt t it t2 it2 own own2, δ, S => (evI G it δ S).bind fun w => (loopLn w.1 (fun x S1 => (evT' G t x (wipeD δ own) S1).bind fun e =>
      (evI G it2 e.1 e.2).bind fun w2 => loopLc w2.1 (fun y S2 => (evT' G t2 y (wipeD e.1 own2) S2).bind fun e2 => (evE G elt e2.1 e2.2).map fun z => (some z.1, z.2)) w2.1.xs w2.2) w.1.xs w.2).bind fun q =>
      if q.1.length ≤ 16777216 then some (.lst q.1, q.2) else none
  | .lc elt t it ifs own, δ, S => (evI G it δ S).bind fun w => (loopLc w.1 (fun x S1 => (evT' G t x (wipeD δ own) S1).bind fun e =>
      (evIf G ifs e.1 e.2).bind fun b => if b.1 = true then (evE G elt e.1 b.2).map fun y => (some y.1, y.2) else some (none, b.2)) w.1.xs w.2).bind fun q =>
      if q.1.length ≤ 16777216 then some (.lst q.1, q.2) else none
noncomputable def evEs (G : GE) : List C → En → Sto → Option (List D × Sto)
  | [], _, S => some ([], S)
  | e :: es, δ, S => (evE G e δ S).bind fun p => (evEs G es δ p.2).map fun q => (p.1 :: q.1, q.2)
noncomputable def evT (G : GE) : C → En → Sto → Option (Bool × Sto)
  | .not a, δ, S => (evT G a δ S).map fun p => (!p.1, p.2)
  | .and a b, δ, S => (evT G a δ S).bind fun p => if p.1 = true then evT G b δ p.2 else some (false, p.2)
  | .or a b, δ, S => (evT G a δ S).bind fun p => if p.1 = true then some (true, p.2) else evT G b δ p.2
  | .bl b, _, S => some (b, S)
  | .ix a b, δ, S => (evE G a δ S).bind fun p => (evE G b δ p.2).bind fun q => (ixD q.2 p.1 q.1).bind fun d => (truD q.2 d).map fun k => (k, q.2)
  | .cmp o a b, δ, S => (evE G a δ S).bind fun p => (evE G b δ p.2).bind fun q => (cmpD q.2 o p.1 q.1).map fun k => (k, q.2)
  | .cmp2 o o' a b c, δ, S => (evE G a δ S).bind fun p => (evE G b δ p.2).bind fun q => (cmpD q.2 o p.1 q.1).bind fun k =>
    if k = true then (evE G c δ q.2).bind fun r => (cmpD r.2 o' q.1 r.1).map fun k' => (k', r.2) else some (false, q.2)
  | .call f es, δ, S => (evEs G es δ S).bind fun p => (G.call f p.1 p.2).bind fun r => (truD r.2 r.1).map fun k => (k, r.2)
  | .blt f es, δ, S => (evEs G es δ S).bind fun p => (bltD p.2 f p.1).bind fun d => (truD p.2 d).map fun k => (k, p.2)
  | .isi e T, δ, S => (evE G e δ S).bind fun p => (kitB (tyD p.1) T).map fun k => (k, p.2)
  | .din e _ kvs, δ, S => (evE G e δ S).bind fun p => match p.1 with
    | .str z => some ((kvs.lookup z).isSome, p.2)
    | _ => none
  | .var i, δ, S => match δ[i]? with
    | some (some d) => (truD S d).map fun k => (k, S)
    | _ => none
  | _, _, _ => none
noncomputable def evIf (G : GE) : List C → En → Sto → Option (Bool × Sto)
  | [], _, S => some (true, S)
  | c :: _, δ, S => evT G c δ S
noncomputable def evT' (G : GE) : CT → D → En → Sto → Option (En × Sto)
  | .name i, d, δ, S => some (δ.set i (some d), S)
  | .tup ts, d, δ, S => match d with
    | .tup xs => evTs G ts xs δ S
    | _ => none
  | .sub o i, d, δ, S => (evE G o δ S).bind fun p => (evE G i δ p.2).bind fun q => (setD q.2 p.1 q.1 d).map fun S' => (δ, S')
noncomputable def evTs (G : GE) : List CT → List D → En → Sto → Option (En × Sto)
  | [], [], δ, S => some (δ, S)
  | t :: ts, x :: xs, δ, S => (evT' G t x δ S).bind fun p => evTs G ts xs p.1 p.2
  | _, _, _, _ => none
noncomputable def evI (G : GE) : CI → En → Sto → Option (Wk × Sto)
  | .seq e, δ, S => (evE G e δ S).bind fun p => (items p.2 p.1).map fun xs => (⟨xs, srcOf p.1⟩, p.2)
  | .rng1 a, δ, S => (evE G a δ S).bind fun p => match p.1 with
    | .int j => if smallI j = true then some (⟨rngD 0 j.toNat, none⟩, p.2) else none
    | _ => none
  | .rng2 a b, δ, S => (evE G a δ S).bind fun p => (evE G b δ p.2).bind fun q => match p.1, q.1 with
    | .int i, .int j => if smallI i = true ∧ smallI j = true then some (⟨rngD i (j - i).toNat, none⟩, q.2) else none
    | _, _ => none
  | .enm e, δ, S => (evE G e δ S).bind fun p => match p.1 with
    | .lst xs => some (⟨enmD 0 xs, none⟩, p.2)
    | .scr xs => some (⟨enmD 0 xs, none⟩, p.2)
    | .tup xs => some (⟨enmD 0 xs, none⟩, p.2)
    | _ => none
  | .zip a b, δ, S => (evE G a δ S).bind fun p => (evE G b δ p.2).bind fun q => match p.1, q.1 with
    | .lst xs, .lst ys => some (⟨zipD xs ys, none⟩, q.2)
    | .tup xs, .tup ys => some (⟨zipD xs ys, none⟩, q.2)
    | _, _ => none
  | .zipN a b, δ, S => (evE G a δ S).bind fun p => (evE G b δ p.2).bind fun q => match p.1, q.1 with
    | .lst xs, .lst ys => some (⟨zipNt xs ys, none⟩, q.2)
    | _, _ => none
end
/-! ### statements -/
inductive Fl where
  | nx (δ : En) | rt (d : D) | bk (δ : En) | ct (δ : En)
open Classical in
noncomputable def loopFor (w : Wk) (turn : D → En → Sto → Option (Fl × Sto)) : List D → En → Sto → Option (Fl × Sto)
  | [], δ, S => if okW w S then some (.nx δ, S) else none
  | x :: r, δ, S => if okW w S then (turn x δ S).bind fun p => match p.1 with
    | .nx δ1 => loopFor w turn r δ1 p.2
    | .ct δ1 => loopFor w turn r δ1 p.2
    | .bk δ1 => some (.nx δ1, p.2)
    | .rt d => some (.rt d, p.2) else none
def whN (c : En → Sto → Option (Bool × Sto)) (b : En → Sto → Option (Fl × Sto)) : Nat → En → Sto → Option (Fl × Sto)
  | 0, _, _ => none
  | n + 1, δ, S => (c δ S).bind fun p => if p.1 = true then (b δ p.2).bind fun q => match q.1 with
    | .nx δ1 => whN c b n δ1 q.2
    | .ct δ1 => whN c b n δ1 q.2
    | .bk δ1 => some (.nx δ1, q.2)
    | .rt d => some (.rt d, q.2) else some (.nx δ, p.2)
theorem whN_succ {c : En → Sto → Option (Bool × Sto)} {b : En → Sto → Option (Fl × Sto)} : ∀ (n : Nat) (δ : En) (S : Sto) (r : Fl × Sto), whN c b n δ S = some r → whN c b (n + 1) δ S = some r
  | 0, _, _, _, h => by cases h
  | n + 1, δ, S, r, h => by
    unfold whN at h ⊢
    cases hc : c δ S with
    | none => rw [hc] at h; cases h
    | some p =>
      rw [hc] at h
      simp only [Option.bind_some] at h ⊢
      by_cases hp : p.1 = true
      · rw [if_pos hp] at h ⊢
        cases hb : b δ p.2 with
        | none => rw [hb] at h; cases h
        | some q =>
          rw [hb] at h
          simp only [Option.bind_some] at h ⊢
          obtain ⟨f, S2⟩ := q
          cases f with
          | nx δ1 => exact whN_succ n δ1 S2 r h
          | ct δ1 => exact whN_succ n δ1 S2 r h
          | bk δ1 => exact h
          | rt d => exact h
      · rw [if_neg hp] at h ⊢
        exact h
theorem whN_le {c : En → Sto → Option (Bool × Sto)} {b : En → Sto → Option (Fl × Sto)} {n m : Nat} {δ : En} {S : Sto} {r : Fl × Sto} (h : whN c b n δ S = some r) (hm : n ≤ m) : whN c b m δ S = some r := by
  induction hm with
  | refl => exact h
  | step _ ih => exact whN_succ _ _ _ _ ih
open Classical in
noncomputable def whD (c : En → Sto → Option (Bool × Sto)) (b : En → Sto → Option (Fl × Sto)) (δ : En) (S : Sto) : Option (Fl × Sto) :=
  if h : ∃ r n, whN c b n δ S = some r then some (Classical.choose h) else none
theorem whD_of {c : En → Sto → Option (Bool × Sto)} {b : En → Sto → Option (Fl × Sto)} {n : Nat} {δ : En} {S : Sto} {r : Fl × Sto} (h : whN c b n δ S = some r) : whD c b δ S = some r := by
  have hx : ∃ r n, whN c b n δ S = some r := ⟨r, n, h⟩
  unfold whD
  rw [dif_pos hx]
  obtain ⟨m, e⟩ := Classical.choose_spec hx
  have e1 := whN_le e (Nat.le_max_left m n)
  have e2 := whN_le h (Nat.le_max_right m n)
  rw [e1] at e2
  exact e2
theorem of_whD {c : En → Sto → Option (Bool × Sto)} {b : En → Sto → Option (Fl × Sto)} {δ : En} {S : Sto} {r : Fl × Sto} (h : whD c b δ S = some r) : ∃ n, whN c b n δ S = some r := by
  unfold whD at h
  split at h
  · rename_i hx
    obtain ⟨m, e⟩ := Classical.choose_spec hx
    rw [Option.some.inj h] at e
    exact ⟨m, e⟩
  · cases h
mutual
noncomputable def exS (G : GE) : CS → En → Sto → Option (Fl × Sto)
  | .expr e, δ, S => (evE G e δ S).map fun p => (.nx δ, p.2)
  | .asg t e, δ, S => (evE G e δ S).bind fun p => (evT' G t p.1 δ p.2).map fun q => (.nx q.1, q.2)
  | .par i j a b, δ, S => (evE G a δ S).bind fun p => (evE G b δ p.2).map fun q => (.nx ((δ.set i (some p.1)).set j (some q.1)), q.2)
  | .par3 i j l a b c, δ, S => (evE G a δ S).bind fun p => (evE G b δ p.2).bind fun q => (evE G c δ q.2).map fun r => (.nx (((δ.set i (some p.1)).set j (some q.1)).set l (some r.1)), r.2)
  | .ret e, δ, S => (evE G e δ S).map fun p => (.rt p.1, p.2)
  | .retN, δ, S => some (.rt .non, S)
  | .ife c a b, δ, S => (evT G c δ S).bind fun p => if p.1 = true then exSs G a δ p.2 else exSs G b δ p.2
  | .for_ t it body, δ, S => (evI G it δ S).bind fun w => loopFor w.1 (fun x δ1 S1 => (evT' G t x δ1 S1).bind fun q => exSs G body q.1 q.2) w.1.xs δ w.2
  | .whl c body, δ, S => whD (fun δ S => evT G c δ S) (fun δ S => exSs G body δ S) δ S
  | .aug i o e, δ, S => match δ[i]? with
    | some (some d) => (evE G e δ S).bind fun p => (match d with
      | .ref _ => none
      | d => (binD o d (dr p.2 p.1))).map fun r => (.nx (δ.set i (some r)), p.2)
    | _ => none
  | .pass, δ, S => some (.nx δ, S)
  | .brk, δ, S => some (.bk δ, S)
  | .cont, δ, S => some (.ct δ, S)
  | .never, _, _ => none
noncomputable def exSs (G : GE) : List CS → En → Sto → Option (Fl × Sto)
  | [], δ, S => some (.nx δ, S)
  | s :: r, δ, S => (exS G s δ S).bind fun p => match p.1 with
    | .nx δ1 => exSs G r δ1 p.2
    | f => some (f, p.2)
end

/-! ### calls -/
structure Fn where
  ps : List Str
  N : List Str
  body : List CS
mutual
/-- no object of the store from n on -/
def belowD (n : Nat) : D → Bool
  | .tup xs => belowDs n xs
  | .lst xs => belowDs n xs
  | .scr xs => belowDs n xs
  | .dic _ xs => belowDs n xs
  | .ref k => decide (k < n)
  | .exc _ _ xs => belowDs n xs
  | .rfd k => decide (k < n)
  | .ntup xs => belowDs n xs
  | _ => true
def belowDs (n : Nat) : List D → Bool
  | [] => true
  | d :: ds => belowD n d && belowDs n ds
end
mutual
/-- g: what an object of the store from n on becomes -/
def fzD (n : Nat) (g : Nat → Option D) : D → Option D
  | .tup xs => (fzDs n g xs).map .tup
  | .lst xs => (fzDs n g xs).map .lst
  | .scr xs => (fzDs n g xs).map .scr
  | .dic ks xs => (fzDs n g xs).map (.dic ks)
  | .ref k => if k < n then some (.ref k) else g k
  | .exc C f xs => (fzDs n g xs).map (.exc C f)
  | .rfd k => if k < n then some (.rfd k) else none
  | .ntup xs => (fzDs n g xs).map .ntup
  | .non => some .non
  | .bl b => some (.bl b)
  | .int i => some (.int i)
  | .str x => some (.str x)
def fzDs (n : Nat) (g : Nat → Option D) : List D → Option (List D)
  | [] => some []
  | d :: ds => (fzD n g d).bind fun x => (fzDs n g ds).map fun r => x :: r
end
def fzR (S : Sto) (n : Nat) : Nat → Nat → Option D
  | 0, _ => none
  | m + 1, k => match S[k]? with
    | some (.lst _ xs) => (fzDs n (fzR S n m) xs).map .lst
    | _ => none
def GcOk (n : Nat) (S S' : Sto) : Prop := ∀ k, k < n → S'[k]? = S[k]? ∨ ∃ mo, S'[k]? = some mo ∧ belowDs n mo.xs = true
open Classical in
noncomputable def gc (S : Sto) (d : D) (S' : Sto) : Option (D × Sto) :=
  if S'.length ≤ S.length then some (d, S')
  else if ((S'.drop S.length).any MO.keep) = true then some (d, S')
  else if GcOk S.length S S' then (fzD S.length (fzR S' S.length 4) d).map fun x => (x, S'.take S.length) else none
def kwOf (P : List (Str × Fn)) (f : Str) (n : Nat) (ks : List Str) : Option (List Nat) := (P.lookup f).bind fun fc =>
  if n + ks.length = fc.ps.length then some ((List.range fc.ps.length).map fun i => if i < n then i else n + ks.idxOf (fc.ps.getD i Str.empty)) else none
def startD (n : Nat) (ds : List D) : En := ds.map some ++ List.replicate (n - ds.length) none
noncomputable def callN (tb : List (Str × D)) (P : List (Str × Fn)) : Nat → Str → List D → Sto → Option (D × Sto)
  | 0, _, _, _ => none
  | n + 1, f, ds, S => (P.lookup f).bind fun fc => if ds.length = fc.ps.length then
      (exSs ⟨tb, callN tb P n, kwOf P⟩ fc.body (startD fc.N.length ds) S).bind fun p => match p.1 with
        | .rt d => gc S d p.2
        | .nx _ => gc S .non p.2
        | _ => none
    else none
noncomputable abbrev geN (tb : List (Str × D)) (P : List (Str × Fn)) (n : Nat) : GE := ⟨tb, callN tb P n, kwOf P⟩
end Dn

set_option maxHeartbeats 4000000
namespace Dn
open PySem PySem.Spec PyProof.Rows L2

/-! ### operations on values keep what they say -/
/-- what is wanted behind an expression -/
def Pst (K : PySem.W.Frag) (μ : Mu) (H : Hp) (S : Sto) (d : D) (Q : VK) : Prop := ∀ v H' μ', Ext μ H μ' H' → Rl K μ' H' S → Rep K μ' H' d v → Q v H'
section
variable {K : PySem.W.Frag} {μ μ' μ1 : Mu} {H H' H1 : Hp} {S S' : Sto} {d : D} {Q : VK} {v : V}
theorem Pst.at (h : Pst K μ H S d Q) (R : Rl K μ H S) (r : Rep K μ H d v) : Q v H := h v H μ Ext.refl R r
theorem Pst.ext (h : Pst K μ H S d Q) (E : Ext μ H μ1 H1) : Pst K μ1 H1 S d Q := fun v H' μ' E' R r => h v H' μ' (E.trans E') R r
theorem Pst.new (h : Pst K μ H S d Q) (R : Rl K μ H S) {p : Addr} {o : HO} (hp : H p = none) (r : Rep K μ (upd H p o) d v) : Q v (upd H p o) := h v _ μ (Ext.new hp) (R.new hp) r

theorem dr_non {d : D} (e : dr S d = .non) : d = .non := by
  cases d <;> simp only [dr] at e <;> first | rfl | exact e | (split at e <;> cases e) | cases e
theorem dr_int {d : D} {i : Int} (e : dr S d = .int i) : d = .int i := by
  cases d <;> simp only [dr] at e <;> first | exact e | (split at e <;> cases e) | cases e
theorem dr_bl {d : D} {i : Bool} (e : dr S d = .bl i) : d = .bl i := by
  cases d <;> simp only [dr] at e <;> first | exact e | (split at e <;> cases e) | cases e
theorem dr_str {d : D} {i : Str} (e : dr S d = .str i) : d = .str i := by
  cases d <;> simp only [dr] at e <;> first | exact e | (split at e <;> cases e) | cases e
theorem dr_tup {d : D} {i : List D} (e : dr S d = .tup i) : d = .tup i := by
  cases d <;> simp only [dr] at e <;> first | exact e | (split at e <;> cases e) | cases e
theorem dr_scr {d : D} {i : List D} (e : dr S d = .scr i) : d = .scr i := by
  cases d <;> simp only [dr] at e <;> first | exact e | (split at e <;> cases e) | cases e
theorem rep_int {i : Int} (h : Rep K μ H (.int i) v) : v = .int i := by simpa only [Rep] using h
theorem rep_bl {i : Bool} (h : Rep K μ H (.bl i) v) : v = .bl i := by simpa only [Rep] using h
theorem rep_str {i : Str} (h : Rep K μ H (.str i) v) : v = .str i := by simpa only [Rep] using h
theorem rep_non (h : Rep K μ H .non v) : v = .non := by simpa only [Rep] using h
theorem rep_tup {xs : List D} (h : Rep K μ H (.tup xs) v) : ∃ a vs, v = .ref a ∧ SqT K H a vs ∧ Reps K μ H xs vs := by simpa only [Rep] using h
theorem mk_int {i : Int} : Rep K μ H (.int i) (.int i) := by simp only [Rep]
theorem mk_bl {i : Bool} : Rep K μ H (.bl i) (.bl i) := by simp only [Rep]
theorem mk_str {i : Str} : Rep K μ H (.str i) (.str i) := by simp only [Rep]
theorem mk_non : Rep K μ H .non .non := by simp only [Rep]
theorem mk_tup {xs : List D} {a : Addr} {vs : List V} (h : SqT K H a vs) (r : Reps K μ H xs vs) : Rep K μ H (.tup xs) (.ref a) := by
  simp only [Rep]; exact ⟨a, vs, rfl, h, r⟩
theorem mk_lst {xs : List D} {a : Addr} {vs : List V} (h0 : μ.fz a) (h : H a = some (.lst vs)) (r : Reps K μ H xs vs) : Rep K μ H (.lst xs) (.ref a) := by
  simp only [Rep]; exact ⟨a, vs, rfl, h0, h, r⟩
theorem mk_ref {k : Nat} {a : Addr} (h : μ.ad[k]? = some a) (hl : IsL H a) : Rep K μ H (.ref k) (.ref a) := by
  simp only [Rep]; exact ⟨a, rfl, h, hl⟩
/-- a list that may be read and put together: frozen, or the store's -/
theorem rep_lst (R : Rl K μ H S) {xs : List D} (e : dr S d = .lst xs) (h : Rep K μ H d v) : ∃ a vs, v = .ref a ∧ H a = some (.lst vs) ∧ Reps K μ H xs vs := by
  cases d with
  | ref k =>
    simp only [dr] at e
    cases q : S[k]? with
    | none => rw [q] at e; cases e
    | some mo =>
      rw [q] at e
      cases e
      simp only [Rep] at h
      obtain ⟨a, rfl, h1, us, hl⟩ := h
      have z := R.at_ k mo a q h1
      cases mo with
      | lst kp ys =>
        obtain ⟨vs, e1, r⟩ := z
        exact ⟨a, vs, rfl, e1, r⟩
      | dct kp ks ys =>
        obtain ⟨vs, _, e1, r⟩ := z
        rw [hl] at e1
        cases e1
  | lst ys =>
    simp only [dr] at e
    cases e
    simp only [Rep] at h
    obtain ⟨a, vs, rfl, _, h1, h2⟩ := h
    exact ⟨a, vs, rfl, h1, h2⟩
  | _ => simp only [dr] at e <;> cases e
theorem ScrAt.sql {a : Addr} {vs : List V} (h : ScrAt K H a vs) : SqL K H a vs := by
  rcases h with ⟨o, h⟩ | h
  · exact .inl (.inr ⟨o, h⟩)
  · exact .inr h
theorem rep_litems (R : Rl K μ H S) {xs : List D} (e : litems S d = some xs) (h : Rep K μ H d v) : ∃ a vs, v = .ref a ∧ SqL K H a vs ∧ Reps K μ H xs vs := by
  cases d with
  | ref k =>
    simp only [litems] at e
    cases q : S[k]? with
    | none => rw [q] at e; cases e
    | some mo =>
      rw [q] at e
      have e2 : mo.xs = xs := Option.some.inj e
      obtain ⟨a, vs, h1, h2, h3⟩ := rep_lst (xs := xs) R (by simp only [dr, q, e2]) h
      exact ⟨a, vs, h1, SqL.of h2, h3⟩
  | lst ys =>
    simp only [litems, Option.some.injEq] at e
    subst e
    obtain ⟨a, vs, h1, h2, h3⟩ := rep_lst (xs := ys) R rfl h
    exact ⟨a, vs, h1, SqL.of h2, h3⟩
  | scr ys =>
    simp only [litems, Option.some.injEq] at e
    subst e
    simp only [Rep] at h
    obtain ⟨a, vs, rfl, h1, h2⟩ := h
    exact ⟨a, vs, rfl, h1.sql, h2⟩
  | _ => simp only [litems] at e <;> cases e
theorem rep_items (R : Rl K μ H S) {xs : List D} (e : items S d = some xs) (h : Rep K μ H d v) : ∃ a vs, v = .ref a ∧ (SqL K H a vs ∨ SqT K H a vs) ∧ Reps K μ H xs vs := by
  cases d with
  | tup ys =>
    simp only [items, Option.some.injEq] at e
    subst e
    obtain ⟨a, vs, h1, h2, h3⟩ := rep_tup h
    exact ⟨a, vs, h1, .inr h2, h3⟩
  | _ =>
    obtain ⟨a, vs, h1, h2, h3⟩ := rep_litems (xs := xs) R (by simpa only [items, litems] using e) h
    exact ⟨a, vs, h1, .inl h2, h3⟩
theorem Ext.refl' : Ext μ H μ H := Ext.refl
end

theorem mulOk_ok {i j : Int} (h : mulOk i j = true) : CMulW i j := by
  unfold mulOk at h
  have h2 : i.natAbs.log2 + j.natAbs.log2 < 1000000 := of_decide_eq_true h
  exact h2
section
variable {X : Cx}
/-- a two-place operation -/
def rBin (K : PySem.W.Frag) (o : Operator) : R2 := fun x y H Q => ∃ μ S d1 d2 d, Rl K μ H S ∧ Rep K μ H d1 x ∧ Rep K μ H d2 y ∧ binD o (dr S d1) (dr S d2) = some d ∧ Pst K μ H S d Q
theorem sizeL : (sizeLine : Nat) = 16777216 := sizeLine_eq
theorem op_fdivNW : OpR X (binaryOp .FloorDiv) (rI (fun _ j => j < 0 ∧ j.natAbs.log2 < 9000) fun i j => .int (i.fdiv j)) := opI fun i j _ _ _ _ _ hc q => by
  have h1 : j < 0 := hc.1
  exact floordiv_int (by omega) q (.inl (PyProof.noPylong_of_log2 hc.2))
theorem op_bin (o : Operator) : OpR X (binaryOp o) (rBin X.K o) := by
  intro pins s σ H x y v u Q I rx ry h
  obtain ⟨μ, S, d1, d2, d, R, r1, r2, e, q⟩ := h
  generalize e1 : dr S d1 = a1 at e
  generalize e2 : dr S d2 = a2 at e
  unfold binD at e
  split at e
  · have z1 := dr_int e1; have z2 := dr_int e2; subst z1 z2; cases e
    cases rep_int r1; cases rep_int r2
    exact op_add pins s σ H _ _ v u Q I rx ry ⟨_, _, rfl, rfl, q.at R mk_int⟩
  · have z1 := dr_int e1; have z2 := dr_int e2; subst z1 z2; cases e
    cases rep_int r1; cases rep_int r2
    exact op_sub pins s σ H _ _ v u Q I rx ry ⟨_, _, rfl, rfl, q.at R mk_int⟩
  · have z1 := dr_int e1; have z2 := dr_int e2; subst z1 z2
    split at e
    · rename_i hm
      cases e
      cases rep_int r1; cases rep_int r2
      exact op_mulW pins s σ H _ _ v u Q I rx ry ⟨_, _, rfl, rfl, mulOk_ok hm, q.at R mk_int⟩
    · cases e
  · have z1 := dr_int e1; have z2 := dr_int e2; subst z1 z2
    split at e
    · rename_i hm
      cases e
      cases rep_int r1; cases rep_int r2
      have hm2 := Bool.and_eq_true_iff.mp hm
      exact op_fdivW pins s σ H _ _ v u Q I rx ry ⟨_, _, rfl, rfl, ⟨of_decide_eq_true hm2.1, of_decide_eq_true hm2.2⟩, q.at R mk_int⟩
    · split at e
      · rename_i hm
        cases e
        cases rep_int r1; cases rep_int r2
        have hm2 := Bool.and_eq_true_iff.mp hm
        exact op_fdivNW pins s σ H _ _ v u Q I rx ry ⟨_, _, rfl, rfl, ⟨of_decide_eq_true hm2.1, of_decide_eq_true hm2.2⟩, q.at R mk_int⟩
      · cases e
  · have z1 := dr_int e1; have z2 := dr_int e2; subst z1 z2
    split at e
    · rename_i hm
      cases e
      cases rep_int r1; cases rep_int r2
      exact op_mod pins s σ H _ _ v u Q I rx ry ⟨_, _, rfl, rfl, hm, q.at R mk_int⟩
    · cases e
  · have z1 := dr_int e1; have z2 := dr_int e2; subst z1 z2
    split at e
    · rename_i hm
      cases e
      cases rep_int r1; cases rep_int r2
      exact op_pow pins s σ H _ _ v u Q I rx ry ⟨_, _, rfl, rfl, hm, q.at R mk_int⟩
    · cases e
  · have z1 := dr_str e1; have z2 := dr_str e2; subst z1 z2
    split at e
    · rename_i hm
      cases e
      cases rep_str r1; cases rep_str r2
      exact op_add_str pins s σ H _ _ v u Q I rx ry ⟨_, _, rfl, rfl, by rw [sizeL]; exact hm, q.at R mk_str⟩
    · cases e
  · rename_i xs ys
    have z1 := dr_tup e1; have z2 := dr_tup e2; subst z1 z2
    split at e
    · rename_i hm
      cases e
      obtain ⟨a, vs, rfl, h1, h2⟩ := rep_tup r1
      obtain ⟨b, us, rfl, h3, h4⟩ := rep_tup r2
      have l1 := h2.length
      have l2 := h4.length
      refine op_catA pins s σ H _ _ v u Q I rx ry ⟨a, b, vs, us, rfl, rfl, h1, h3, by rw [sizeL]; omega, fun z => ?_, fun z z2 => ?_, fun z z2 p hp => ?_⟩
      · subst z
        have x0 : xs = [] := List.eq_nil_of_length_eq_zero l1
        subst x0
        exact q.at R (mk_tup h3 h4)
      · subst z2
        have y0 : ys = [] := List.eq_nil_of_length_eq_zero l2
        subst y0
        rw [List.append_nil] at q
        exact q.at R (mk_tup h1 h2)
      · refine q.new R hp (mk_tup (SqT.of upd_same) ?_)
        exact (h2.append h4).mono R (Ext.new hp)
    · cases e
  · rename_i xs ys
    split at e
    · rename_i hm
      cases e
      obtain ⟨a, vs, rfl, h1, h2⟩ := rep_lst R e1 r1
      obtain ⟨b, us, rfl, h3, h4⟩ := rep_lst R e2 r2
      have l1 := h2.length
      have l2 := h4.length
      refine op_cat pins s σ H _ _ v u Q I rx ry ⟨a, b, vs, us, rfl, rfl, h1, h3, by rw [sizeL]; omega, fun p hp => ?_⟩
      refine q.new R hp (mk_lst (R.fz hp) upd_same ?_)
      exact (h2.append h4).mono R (Ext.new hp)
    · cases e
  · rename_i xs n
    have z2 := dr_int e2; subst z2
    split at e
    · rename_i hm
      obtain ⟨h0, h1, h2⟩ := hm
      cases e
      obtain ⟨a, vs, rfl, h3, h4⟩ := rep_lst R e1 r1
      cases rep_int r2
      have l1 := h4.length
      refine op_rep pins s σ H _ _ v u Q I rx ry ⟨a, n, vs, rfl, rfl, h3, by omega, by omega, by rw [sizeL, ← l1]; exact h2, fun p hp => ?_⟩
      refine q.new R hp (mk_lst (R.fz hp) upd_same ?_)
      exact (h4.rep n.toNat).mono R (Ext.new hp)
    · cases e
  · have z1 := dr_int e1; have z2 := dr_bl e2; subst z1 z2; cases e
    cases rep_int r1; cases rep_bl r2
    obtain ⟨t, rfl⟩ := rx; cases ry
    exact PySem.add_int_bool ⟨.int _, H, I.tok _, ⟨_, rfl⟩, q.at R mk_int⟩
  · have z1 := dr_int e1; have z2 := dr_bl e2; subst z1 z2; cases e
    cases rep_int r1; cases rep_bl r2
    obtain ⟨t, rfl⟩ := rx; cases ry
    exact PySem.IntBool.sub_int_bool ⟨.int _, H, I.tok _, ⟨_, rfl⟩, q.at R mk_int⟩
  · have z1 := dr_int e1; have z2 := dr_bl e2; subst z1 z2; cases e
    cases rep_int r1; cases rep_bl r2
    obtain ⟨t, rfl⟩ := rx; cases ry
    exact PySem.IntBool.mul_int_bool ⟨.int _, H, I.tok _, ⟨_, rfl⟩, q.at R mk_int⟩
  · have z1 := dr_bl e1; have z2 := dr_int e2; subst z1 z2; cases e
    cases rep_bl r1; cases rep_int r2
    cases rx; obtain ⟨t, rfl⟩ := ry
    exact PySem.IntBool.add_bool_int ⟨.int _, H, I.tok _, ⟨_, rfl⟩, q.at R mk_int⟩
  · have z1 := dr_bl e1; have z2 := dr_int e2; subst z1 z2; cases e
    cases rep_bl r1; cases rep_int r2
    cases rx; obtain ⟨t, rfl⟩ := ry
    exact PySem.IntBool.sub_bool_int ⟨.int _, H, I.tok _, ⟨_, rfl⟩, q.at R mk_int⟩
  · have z1 := dr_bl e1; have z2 := dr_int e2; subst z1 z2; cases e
    cases rep_bl r1; cases rep_int r2
    cases rx; obtain ⟨t, rfl⟩ := ry
    exact PySem.IntBool.mul_bool_int ⟨.int _, H, I.tok _, ⟨_, rfl⟩, q.at R mk_int⟩
  · have z1 := dr_bl e1; have z2 := dr_bl e2; subst z1 z2; cases e
    cases rep_bl r1; cases rep_bl r2
    cases rx; cases ry
    exact add_bool ⟨.int _, H, I.tok _, ⟨_, rfl⟩, q.at R mk_int⟩
  · have z1 := dr_bl e1; have z2 := dr_bl e2; subst z1 z2; cases e
    cases rep_bl r1; cases rep_bl r2
    cases rx; cases ry
    exact sub_bool ⟨.int _, H, I.tok _, ⟨_, rfl⟩, q.at R mk_int⟩
  · have z1 := dr_bl e1; have z2 := dr_bl e2; subst z1 z2; cases e
    cases rep_bl r1; cases rep_bl r2
    cases rx; cases ry
    exact mul_bool ⟨.int _, H, I.tok _, ⟨_, rfl⟩, q.at R mk_int⟩
  · cases e
end
/-! ### data as a whole -/
section
variable {K : PySem.W.Frag} {μ : Mu} {H : Hp} {S : Sto}
mutual
theorem dp_of : ∀ {d : D} {p : PyData} {v : V}, pd d = some p → Rep K μ H d v → Dp K H v p
  | .non, p, v, e, h => by simp only [pd, Option.some.injEq] at e; subst e; cases rep_non h; exact .non
  | .bl b, p, v, e, h => by simp only [pd, Option.some.injEq] at e; subst e; cases rep_bl h; exact .bl b
  | .int b, p, v, e, h => by simp only [pd, Option.some.injEq] at e; subst e; cases rep_int h; exact .int b
  | .str b, p, v, e, h => by simp only [pd, Option.some.injEq] at e; subst e; cases rep_str h; exact .str b
  | .tup xs, p, v, e, h => by
    simp only [pd] at e
    cases q : pds xs with
    | none => rw [q] at e; cases e
    | some ps =>
      rw [q] at e; cases e
      obtain ⟨a, vs, rfl, h1, h2⟩ := rep_tup h
      exact .tup h1 (dps_of q h2)
  | .lst xs, p, v, e, h => by
    simp only [pd] at e
    cases q : pds xs with
    | none => rw [q] at e; cases e
    | some ps =>
      rw [q] at e; cases e
      simp only [Rep] at h
      obtain ⟨a, vs, rfl, _, h1, h2⟩ := h
      exact .lst (SqL.of h1) (dps_of q h2)
  | .scr xs, p, v, e, h => by
    simp only [pd] at e
    cases q : pds xs with
    | none => rw [q] at e; cases e
    | some ps =>
      rw [q] at e; cases e
      simp only [Rep] at h
      obtain ⟨a, vs, rfl, h1, h2⟩ := h
      exact .lst h1.sql (dps_of q h2)
  | .dic _ _, p, v, e, h => by simp only [pd] at e; cases e
  | .ref _, p, v, e, h => by simp only [pd] at e; cases e
  | .exc _ _ _, p, v, e, h => by simp only [pd] at e; cases e
  | .rfd _, p, v, e, h => by simp only [pd] at e; cases e
  | .ntup _, p, v, e, h => by simp only [pd] at e; cases e
theorem dps_of : ∀ {ds : List D} {ps : List PyData} {vs : List V}, pds ds = some ps → Reps K μ H ds vs → DpAll K H vs ps
  | [], ps, vs, e, h => by simp only [pds, Option.some.injEq] at e; subst e; rw [reps_nil.mp h]; exact .nil
  | d :: ds, ps, vs, e, h => by
    simp only [pds] at e
    cases q : pd d with
    | none => rw [q] at e; cases e
    | some p =>
      rw [q] at e
      simp only [Option.bind_some] at e
      cases q2 : pds ds with
      | none => rw [q2] at e; cases e
      | some r =>
        rw [q2] at e; cases e
        obtain ⟨v, us, rfl, h1, h2⟩ := reps_cons.mp h
        exact .cons (dp_of q h1) (dps_of q2 h2)
end
theorem dp_dr (R : Rl K μ H S) {d : D} {p : PyData} {v : V} (e : pd (dr S d) = some p) (h : Rep K μ H d v) : Dp K H v p := by
  cases d with
  | ref k =>
    cases q : S[k]? with
    | none => simp only [dr, q] at e; simp only [pd] at e; cases e
    | some mo =>
      have e1 : dr S (.ref k) = .lst mo.xs := by simp only [dr, q]
      obtain ⟨a, vs, rfl, h1, h2⟩ := rep_lst R e1 h
      rw [e1] at e
      simp only [pd] at e
      cases q2 : pds mo.xs with
      | none => rw [q2] at e; cases e
      | some ps =>
        rw [q2] at e; cases e
        exact .lst (SqL.of h1) (dps_of q2 h2)
  | _ => exact dp_of (by simpa only [dr] using e) h
/-- a flat value is what it stands for -/
theorem flat_v {d : D} {v : V} (f : flatD d = true) (h : Rep K μ H d v) : v = vD d ∧ flatV v = true := by
  cases d with
  | non => cases rep_non h; exact ⟨rfl, rfl⟩
  | bl b => cases rep_bl h; exact ⟨rfl, rfl⟩
  | int b => cases rep_int h; exact ⟨rfl, rfl⟩
  | str b => cases rep_str h; exact ⟨rfl, rfl⟩
  | _ => cases f
theorem flats_v : ∀ {ds : List D} {vs : List V}, ds.all flatD = true → Reps K μ H ds vs → vs = ds.map vD ∧ vs.all flatV = true
  | [], vs, _, h => by rw [reps_nil.mp h]; exact ⟨rfl, rfl⟩
  | d :: ds, vs, f, h => by
    obtain ⟨v, us, rfl, h1, h2⟩ := reps_cons.mp h
    obtain ⟨f1, f2⟩ := Bool.and_eq_true_iff.mp (show (flatD d && ds.all flatD) = true from f)
    obtain ⟨e1, g1⟩ := flat_v f1 h1
    obtain ⟨e2, g2⟩ := flats_v f2 h2
    refine ⟨by rw [e1, e2]; rfl, ?_⟩
    show (flatV v && us.all flatV) = true
    rw [g1, g2]; rfl
theorem dr_flat {d : D} (f : flatD (dr S d) = true) : dr S d = d := by
  cases d with
  | ref k =>
    cases q : S[k]? with
    | none => simp only [dr, q]
    | some mo => simp only [dr, q] at f; cases f
  | _ => simp only [dr]
end

section
variable {X : Cx}
def rCmp (K : PySem.W.Frag) (o : CmpOp) : R2 := fun x y H Q => ∃ μ S d1 d2 k, Rl K μ H S ∧ Rep K μ H d1 x ∧ Rep K μ H d2 y ∧ cmpD S o d1 d2 = some k ∧ Q (.bl k) H
theorem tup_vals {pins : List (Addr × Obj)} {s : Shared} {σ : L2.St} {H : Hp} {μ : Mu} {xs : List D} {v : V} {u : Value} (I : Inv X pins σ H s) (h : Rep X.K μ H (.tup xs) v) (r : RelV v u) :
    ∃ (a : Addr) (its : List Value), v = .ref a ∧ u = .ref a ∧ its.length = xs.length ∧ s.heap.IsTuple a its.toArray := by
  obtain ⟨a, vs, rfl, h1, h2⟩ := rep_tup h
  obtain ⟨its, rv, ht, _⟩ := I.tuple h1
  exact ⟨a, its, rfl, r, by rw [← rv.length, h2.length], ht⟩
theorem emp_all (its its2 : List Value) (e : Nat → Bool) (h : its.length = 0 ∨ its2.length = 0) :
    ((List.range (min its.toArray.size its2.toArray.size)).all e && its.toArray.size == its2.toArray.size) = (its.isEmpty && its2.isEmpty) := by
  rcases h with h | h
  · have e0 : its = [] := List.eq_nil_of_length_eq_zero h
    subst e0
    cases its2 <;> simp
  · have e0 : its2 = [] := List.eq_nil_of_length_eq_zero h
    subst e0
    cases its <;> simp
theorem isEmpty_len {α β : Type} {xs : List α} {ys : List β} (h : xs.length = ys.length) : xs.isEmpty = ys.isEmpty := by
  cases xs <;> cases ys <;> simp at h ⊢
/-- == where one is an empty tuple -/
theorem eq_emp {pins : List (Addr × Obj)} {s : Shared} {σ : L2.St} {H : Hp} {μ : Mu} {xs ys : List D} {x y : V} {v u : Value} {Q : VK} (hu : X.A.units < cLine) (I : Inv X pins σ H s) (rx : RelV x v) (ry : RelV y u)
    (h1 : Rep X.K μ H (.tup xs) x) (h2 : Rep X.K μ H (.tup ys) y) (he : xs = [] ∨ ys = []) (q : Q (.bl (xs.isEmpty && ys.isEmpty)) H) : wpAny (model X.prog X.w) X.A (compareOp .Eq v u) (EP X pins σ Q) X.xe s := by
  obtain ⟨a, its, rfl, rfl, l1, t1⟩ := tup_vals I h1 rx
  obtain ⟨b, its2, rfl, rfl, l2, t2⟩ := tup_vals I h2 ry
  have he' : its.length = 0 ∨ its2.length = 0 := by
    rcases he with e | e
    · left; rw [l1, e]; rfl
    · right; rw [l2, e]; rfl
  refine SeqAt.eq_tupleAt (e := fun _ => true) t1 t2 hu (fun j j1 j2 => ?_) ?_
  · exfalso
    simp only [List.size_toArray] at j1 j2
    omega
  · rw [emp_all its its2 _ he', isEmpty_len l1, isEmpty_len l2]
    exact ⟨.bl _, H, I, rfl, q⟩
theorem ne_emp {pins : List (Addr × Obj)} {s : Shared} {σ : L2.St} {H : Hp} {μ : Mu} {xs ys : List D} {x y : V} {v u : Value} {Q : VK} (hu : X.A.units < cLine) (I : Inv X pins σ H s) (rx : RelV x v) (ry : RelV y u)
    (h1 : Rep X.K μ H (.tup xs) x) (h2 : Rep X.K μ H (.tup ys) y) (he : xs = [] ∨ ys = []) (q : Q (.bl (!(xs.isEmpty && ys.isEmpty))) H) : wpAny (model X.prog X.w) X.A (compareOp .NotEq v u) (EP X pins σ Q) X.xe s := by
  obtain ⟨a, its, rfl, rfl, l1, t1⟩ := tup_vals I h1 rx
  obtain ⟨b, its2, rfl, rfl, l2, t2⟩ := tup_vals I h2 ry
  have he' : its.length = 0 ∨ its2.length = 0 := by
    rcases he with e | e
    · left; rw [l1, e]; rfl
    · right; rw [l2, e]; rfl
  refine (SeqAt.RcNeAt.tuples (A := X.A) (s := s) (e := fun _ => true) t1 t2 hu (fun j j1 j2 => ?_)) X.prog X.w _ _ ?_
  · exfalso
    simp only [List.size_toArray] at j1 j2
    omega
  · rw [emp_all its its2 _ he', isEmpty_len l1, isEmpty_len l2]
    exact ⟨.bl _, H, I, rfl, q⟩
/-- what eqD says, taken apart -/
theorem eqD_ways {d e : D} {k : Bool} (h : eqD d e = some k) :
    (flatD d = true ∧ flatD e = true ∧ scal (vD d) (vD e) = true ∧ k = decide (vD d = vD e)) ∨ (∃ xs ys, d = .tup xs ∧ e = .tup ys ∧ (xs = [] ∨ ys = []) ∧ k = (xs.isEmpty && ys.isEmpty)) ∨
      ∃ p q, pd d = some p ∧ pd e = some q ∧ SeqAt.shaped p = true ∧ SeqAt.shaped q = true ∧ k = PyData.eqv p q := by
  unfold eqD at h
  split at h
  · rename_i c
    simp only [Bool.and_eq_true] at c
    exact .inl ⟨c.1.1, c.1.2, c.2, (Option.some.inj h).symm⟩
  · have go : ∀ {d e : D}, eqP d e = some k → ∃ p q, pd d = some p ∧ pd e = some q ∧ SeqAt.shaped p = true ∧ SeqAt.shaped q = true ∧ k = PyData.eqv p q := by
      intro d e h
      unfold eqP at h
      cases q1 : pd d with
      | none => rw [q1] at h; cases h
      | some p =>
        rw [q1] at h
        simp only [Option.bind_some] at h
        cases q2 : pd e with
        | none => rw [q2] at h; cases h
        | some q =>
          rw [q2] at h
          simp only [Option.bind_some] at h
          split at h
          · rename_i c
            simp only [Bool.and_eq_true] at c
            exact ⟨p, q, rfl, rfl, c.1, c.2, (Option.some.inj h).symm⟩
          · cases h
    split at h
    · exact .inr (.inl ⟨_, _, rfl, rfl, .inr rfl, by rw [← Option.some.inj h]; simp⟩)
    · exact .inr (.inl ⟨_, _, rfl, rfl, .inl rfl, by rw [← Option.some.inj h]; simp⟩)
    · exact .inr (.inr (go h))
theorem inD_ways {S : Sto} {d e : D} {k : Bool} (h : inD S d e = some k) : ∃ xs, items S e = some xs ∧
    ((flatD d = true ∧ xs.all flatD = true ∧ k = xs.any fun y => eqV (vD y) (vD d)) ∨
      ∃ p qs, pd d = some p ∧ pds xs = some qs ∧ SeqAt.shaped p = true ∧ SeqAt.shaped (.list qs) = true ∧ k = qs.any fun z => PyData.eqv z p) := by
  unfold inD at h
  cases q0 : items S e with
  | none => rw [q0] at h; cases h
  | some xs =>
    rw [q0] at h
    simp only [Option.bind_some] at h
    refine ⟨xs, rfl, ?_⟩
    split at h
    · rename_i c
      simp only [Bool.and_eq_true] at c
      exact .inl ⟨c.1, c.2, (Option.some.inj h).symm⟩
    · cases q1 : pd d with
      | none => rw [q1] at h; cases h
      | some p =>
        rw [q1] at h
        simp only [Option.bind_some] at h
        cases q2 : pds xs with
        | none => rw [q2] at h; cases h
        | some q =>
          rw [q2] at h
          simp only [Option.bind_some] at h
          split at h
          · rename_i c
            simp only [Bool.and_eq_true] at c
            exact .inr ⟨p, q, rfl, rfl, c.1, c.2, (Option.some.inj h).symm⟩
          · cases h
theorem op_inX (hu : X.A.units + 66 < cLine) {pins : List (Addr × Obj)} {s : Shared} {σ : L2.St} {H : Hp} {x y : V} {v u : Value} {Q : VK} {μ : Mu} {S : Sto} {d1 d2 : D} {k : Bool} (I : Inv X pins σ H s) (rx : RelV x v) (ry : RelV y u)
    (R : Rl X.K μ H S) (r1 : Rep X.K μ H d1 x) (r2 : Rep X.K μ H d2 y) (e : inD S d1 d2 = some k) :
    (Q (.bl k) H → wpAny (model X.prog X.w) X.A (compareOp .In v u) (EP X pins σ Q) X.xe s) ∧ (Q (.bl (!k)) H → wpAny (model X.prog X.w) X.A (compareOp .NotIn v u) (EP X pins σ Q) X.xe s) := by
  obtain ⟨xs, hi, h⟩ := inD_ways e
  obtain ⟨a, vs, rfl, hs, hr⟩ := rep_items R hi r2
  rcases h with ⟨f1, f2, rfl⟩ | ⟨p, qs, z1, z2, s1, s2, rfl⟩
  · obtain ⟨rfl, g1⟩ := flat_v f1 r1
    obtain ⟨rfl, g2⟩ := flats_v f2 hr
    have e3 : inV (vD d1) (xs.map vD) = xs.any fun y => eqV (vD y) (vD d1) := by unfold inV; rw [List.any_map]; rfl
    refine ⟨fun q => ?_, fun q => ?_⟩
    · refine op_in_seq pins s σ H _ _ v u Q I rx ry ⟨a, _, rfl, hs, g1, g2, ?_⟩
      rw [if_neg Bool.false_ne_true, e3]; exact q
    · refine op_notIn_seq pins s σ H _ _ v u Q I rx ry ⟨a, _, rfl, hs, g1, g2, ?_⟩
      rw [if_pos rfl, e3]; exact q
  · have dp := dp_of z1 r1
    have dps := dps_of z2 hr
    rcases hs with hs | hs
    · exact ⟨fun q => op_inD (by omega) pins s σ H _ _ v u Q I rx ry ⟨p, qs, dp, .lst hs dps, s1, s2, q⟩, fun q => op_notInD (by omega) pins s σ H _ _ v u Q I rx ry ⟨p, qs, dp, .lst hs dps, s1, s2, q⟩⟩
    · obtain ⟨as, w1⟩ := Dp.reads I p x v dp rx
      obtain ⟨bs, w2⟩ := Dp.reads I (.tuple qs) _ u (.tup hs dps) ry
      exact ⟨fun q => SeqAt.in_tuple_reads w2 w1 (SeqAt.canLay_of_shaped s2) (SeqAt.canLay_of_shaped s1) (room_in_shaped s1 (by omega)) ⟨.bl _, H, I, rfl, q⟩,
        fun q => SeqAt.notIn_tuple_reads w2 w1 (SeqAt.canLay_of_shaped s2) (SeqAt.canLay_of_shaped s1) (room_in_shaped s1 (by omega)) ⟨.bl _, H, I, rfl, q⟩⟩
theorem op_cmp (hu : X.A.units + 66 < cLine) (o : CmpOp) : OpR X (compareOp o) (rCmp X.K o) := by
  intro pins s σ H x y v u Q I rx ry h
  obtain ⟨μ, S, d1, d2, k, R, r1, r2, e, q⟩ := h
  cases o with
  | Eq =>
    have e' : eqD (dr S d1) (dr S d2) = some k := e
    rcases eqD_ways e' with ⟨f1, f2, sc, rfl⟩ | ⟨xs, ys, z1, z2, he, rfl⟩ | ⟨p, p', z1, z2, s1, s2, rfl⟩
    · have w1 := dr_flat f1; have w2 := dr_flat f2; rw [w1] at f1 sc q; rw [w2] at f2 sc q
      obtain ⟨rfl, _⟩ := flat_v f1 r1
      obtain ⟨rfl, _⟩ := flat_v f2 r2
      exact op_eq pins s σ H _ _ v u Q I rx ry ⟨sc, q⟩
    · have w1 := dr_tup z1; have w2 := dr_tup z2; subst w1 w2
      exact eq_emp (by omega) I rx ry r1 r2 he q
    · exact op_eqD (by omega) pins s σ H _ _ v u Q I rx ry ⟨p, p', dp_dr R z1 r1, dp_dr R z2 r2, s1, s2, q⟩
  | NotEq =>
    have e' : (eqD (dr S d1) (dr S d2)).map (!·) = some k := e
    cases e2 : eqD (dr S d1) (dr S d2) with
    | none => rw [e2] at e'; cases e'
    | some k' =>
      rw [e2] at e'
      have e3 : (!k') = k := Option.some.inj e'
      subst e3
      rcases eqD_ways e2 with ⟨f1, f2, sc, rfl⟩ | ⟨xs, ys, z1, z2, he, rfl⟩ | ⟨p, p', z1, z2, s1, s2, rfl⟩
      · have w1 := dr_flat f1; have w2 := dr_flat f2; rw [w1] at f1 sc q; rw [w2] at f2 sc q
        obtain ⟨rfl, _⟩ := flat_v f1 r1
        obtain ⟨rfl, _⟩ := flat_v f2 r2
        exact op_ne pins s σ H _ _ v u Q I rx ry ⟨sc, q⟩
      · have w1 := dr_tup z1; have w2 := dr_tup z2; subst w1 w2
        exact ne_emp (by omega) I rx ry r1 r2 he q
      · exact op_neD (by omega) pins s σ H _ _ v u Q I rx ry ⟨p, p', dp_dr R z1 r1, dp_dr R z2 r2, s1, s2, q⟩
  | Lt =>
    simp only [cmpD] at e
    split at e
    · cases rep_int r1; cases rep_int r2
      exact op_lt pins s σ H _ _ v u Q I rx ry ⟨_, _, rfl, rfl, by cases e; exact q⟩
    · cases e
  | LtE =>
    simp only [cmpD] at e
    split at e
    · cases rep_int r1; cases rep_int r2
      exact op_le pins s σ H _ _ v u Q I rx ry ⟨_, _, rfl, rfl, by cases e; exact q⟩
    · cases e
  | Gt =>
    simp only [cmpD] at e
    split at e
    · cases rep_int r1; cases rep_int r2
      exact op_gt pins s σ H _ _ v u Q I rx ry ⟨_, _, rfl, rfl, by cases e; exact q⟩
    · cases e
  | GtE =>
    simp only [cmpD] at e
    split at e
    · cases rep_int r1; cases rep_int r2
      exact op_ge pins s σ H _ _ v u Q I rx ry ⟨_, _, rfl, rfl, by cases e; exact q⟩
    · cases e
  | Is =>
    simp only [cmpD] at e
    split at e
    · cases rep_non r2
      refine op_isN pins s σ H _ _ v u Q I rx ry ⟨rfl, ?_⟩
      rw [← Option.some.inj e] at q
      revert q
      cases d1 <;> simp only [Rep] at r1 <;> first | (subst r1; intro q; simpa using q) | (obtain ⟨a, vs, rfl, _⟩ := r1; intro q; simpa using q) | (obtain ⟨a, rfl, _⟩ := r1; intro q; simpa using q) | (obtain ⟨a, c, vs, rfl, _⟩ := r1; intro q; simpa using q)
    · cases e
  | IsNot =>
    simp only [cmpD] at e
    split at e
    · cases rep_non r2
      refine op_notN pins s σ H _ _ v u Q I rx ry ⟨rfl, ?_⟩
      rw [← Option.some.inj e] at q
      revert q
      cases d1 <;> simp only [Rep] at r1 <;> first | (subst r1; intro q; simpa using q) | (obtain ⟨a, vs, rfl, _⟩ := r1; intro q; simpa using q) | (obtain ⟨a, rfl, _⟩ := r1; intro q; simpa using q) | (obtain ⟨a, c, vs, rfl, _⟩ := r1; intro q; simpa using q)
    · cases e
  | In => exact (op_inX hu I rx ry R r1 r2 (show inD S d1 d2 = some k from e)).1 q
  | NotIn =>
    have e' : (inD S d1 d2).map (!·) = some k := e
    cases e2 : inD S d1 d2 with
    | none => rw [e2] at e'; cases e'
    | some k' =>
      rw [e2] at e'
      have e3 : (!k') = k := Option.some.inj e'
      subst e3
      exact (op_inX hu I rx ry R r1 r2 e2).2 q
end
end Dn

set_option maxHeartbeats 4000000
namespace Dn
open PySem PySem.Spec PyProof.Rows L2

/-! ### what a def promises: its own evaluation -/
abbrev SpG := List V → Hp → VK → Prop
structure FnG (P : Program) (w : World) (K : PySem.W.Frag) (mg : Str → Option Value) (base : Heap) (k : Nat) (f : Addr) (fd : FuncData) (ps : List Str) (sp : SpG) : Prop where
  len : ∀ vs H Q, sp vs H Q → vs.length = ps.length
  run : ∀ (A : Around) (outer : List Env) (s : Shared) (H : Hp) (args : Args) (us : List Value) (vs : List V) (Q : VK), Room k A → A.guards = some [] → Env0 P w K mg base A outer s H → BindsTo s fd args (ps.zip us) → Vals vs us → sp vs H Q →
    codeAny (model P w) A (.call (.ref f) args) (CR CX0 outer P w H s Q E0) s
theorem FnG.mono {P : Program} {w : World} {K : PySem.W.Frag} {mg : Str → Option Value} {base : Heap} {j k : Nat} {f : Addr} {fd : FuncData} {ps : List Str} {sp : SpG} (F : FnG P w K mg base j f fd ps sp) (h : j ≤ k) : FnG P w K mg base k f fd ps sp :=
  ⟨F.len, fun A outer s H args us vs Q hr => F.run A outer s H args us vs Q (hr.mono h)⟩
/-- f at ds, in the store S -/
def spEv (K : PySem.W.Frag) (g : GE) (f : Str) : SpG := fun vs H Q => ∃ μ S ds d S', Rl K μ H S ∧ Reps K μ H ds vs ∧ g.call f ds S = some (d, S') ∧ Pst K μ H S' d Q
theorem fnG_of {P : Program} {w : World} {K : PySem.W.Frag} {mg : Str → Option Value} {base : Heap} {k : Nat} {f : Addr} {name qual : Str} {params : Arguments} {body : List Stmt} {scope : Scope} {dV kV doc pm cdv ct oc : Value} {an od : Option Addr}
    {osl : Array (Option Value)} {N ps : List Str} {sp : SpG} (lk : K.lookup f = some ⟨oc, od, .func (PySem.W.fnOf name qual params body scope dV kV doc pm an cdv ct), osl⟩) (hcd : PySem.W.codeIn K cdv qual = true) (S : FnScope N ps scope)
    (len : ∀ vs H Q, sp vs H Q → vs.length = ps.length)
    (hbody : ∀ (A : Around) (outer : List Env) (s : Shared) (H : Hp) (vs : List V) (Q : VK), Room k (A.deeper (envOfC qual scope s.heap.objs.size f cdv)) → A.guards = some [] → sp vs H Q →
      ∃ t, PSs (cxOf CX0 P w K mg base N qual scope f cdv A outer s H E0) body t ∧ t { nx := fun _ H' => Q .non H', rt := Q } (start N vs) H) :
    FnG P w K mg base (k + 1) f (PySem.W.fnOf name qual params body scope dV kV doc pm an cdv ct) ps sp := by
  refine ⟨len, fun A outer s H args us vs Q room guards at0 bound rel promise => ?_⟩
  have inBase := fun b o e => (at0.bs b o e).1
  have written : K.In s.heap := at0.mod.kin.keeps inBase
  have kinds : ∀ y ∈ ps.zip us, scope.names.lookup y.1 = some .local ∨ (scope.names.lookup y.1 = some .cell ∧ ((cellsFrom (s.heap.objs.size + 1) scope.names []).lookup y.1).isSome = true) := by
    rintro ⟨x, z⟩ hx
    cases S.par x (List.of_mem_zip hx).1 with
    | inl q => exact .inl q
    | inr q => exact .inr ⟨q, PySem.W.cellsFrom_some _ _ _ (.inl q)⟩
  apply codeAny_call_function room.depth (written _ _ lk) rfl S.co S.gen rfl (PySem.W.codeRec_of written hcd)
  apply bound
  apply wpAny_newFunctionEnv_cells S.kind kinds
  rintro env rfl s1 came
  refine ⟨(at0.mod.nolimit.keeps inBase).keeps came.toInCall.keep, codeAny_func ?_⟩
  obtain ⟨t, okB, atB⟩ := hbody A outer s H vs Q (room.deeper _) guards promise
  have J := inv_start (CX := CX0) (E := E0) S room.hd at0 (len _ _ _ promise) rel came
  apply wpAny_mono (okB.run [] s1 (start N vs) H _ J atB)
  · intro fl s2 ended
    cases fl with
    | ret u =>
      obtain ⟨z, σ2, H2, J2, rz, q⟩ := ended
      exact ⟨z, H2, J2.os, J2.bare, J2.base, J2.hok, rz, q⟩
    | next =>
      obtain ⟨σ2, H2, J2, q⟩ := ended
      exact ⟨V.non, H2, J2.os, J2.bare, J2.base, J2.hok, rfl, q⟩
    | brk => exact ended.elim fun _ h => h.elim fun _ h => h.2.elim
    | cont => exact ended.elim fun _ h => h.elim fun _ h => h.2.elim
  · exact fun _ _ h => h
/-! ### what stands around an expression -/
structure Kt where
  N : List Str
  sc : Scope
  /-- names whose cells are the block's own -/
  fl : Str → Bool
  /-- built-in names that the module leaves as they are -/
  free : List Str
  /-- built-in functions brought in -/
  bf : List (Str × String)
  fns : List Str
  /-- calls with keywords: the def, how many positional, the keywords -/
  kwl : List (Str × Nat × List Str)
  /-- the module's data that may be read -/
  dn : List Str
  /-- the module's dicts from texts to whole numbers -/
  dd : List (Str × List (Str × Int))
  /-- own exception classes: the field that __init__ keeps, if they have one -/
  cls : List (Str × Option Str)
  /-- isinstance with a class: those of the classes that stand under it -/
  isx : List (Str × List Str)
structure Kc extends Kt where
  g : GE
def pickV (xs : List Value) (pl : List Nat) : List Value := pl.map fun i => xs.getD i .none
/-- where a def stands, and what it keeps -/
structure CallOk (X : Cx) (k : Kc) (f : Str) (a : Addr) (fd : FuncData) (ps : List Str) (lv : Nat) : Prop where
  mg : X.mg f = some (.ref a)
  kp : PySem.W.keepIn X.K (.ref a) = true
  bd : Binds X.K fd ps []
  fn : FnG X.prog X.w X.K X.mg X.base lv a fd ps (spEv X.K k.g f)
  rm : Room lv X.A
  kw : ∀ (n : Nat) (ks : List Str) (pl : List Nat), (f, n, ks) ∈ k.kwl → k.g.kw f n ks = some pl → pl.length = ps.length ∧ ∀ (s : Shared) (us ws : List Value), us.length = n → ws.length = ks.length → BindsTo s fd ⟨us, ks.zip ws⟩ (ps.zip (pickV (us ++ ws) pl))
/-- a dict of the module -/
def Kdi (K : PySem.W.Frag) (w : World) (a : Addr) (kvs : List (Str × Int)) : Prop := ∃ es n, KDict K w a es n ∧ (∀ z i, kvs.lookup z = some i → ∃ u, PySem.W.nsIn K a z = some (some u) ∧ RelV (.int i) u) ∧ ∀ z, kvs.lookup z = none → PySem.W.nsIn K a z = some none
/-- what an own exception's __init__ does -/
def spIn (K : PySem.W.Frag) (f : Str) : SpG := fun vs H Q => ∃ (a C : Addr) (y : V), vs = [.ref a, y] ∧ OexC K C ∧ PySem.W.findIn K (.ref C) f = some none ∧ H a = some (exo a C none) ∧ ∀ dx, H dx = none → dx ≠ a → Q .non (upd (upd H dx (exd dx [(f, y)])) a (exo a C (some dx)))
structure InitOk (X : Cx) (c : Addr) (f : Str) (fI : Addr) (fd : FuncData) (me : Str) : Prop where
  iC : PySem.W.findIn X.K (.ref c) "__init__" = some (some (.ref fI))
  tI : PySem.W.typeIn X.K (.ref fI) = some (.type "function")
  fn : FnG X.prog X.w X.K X.mg X.base 1 fI fd [me, f] (spIn X.K f)
  b1 : ∀ (s : Shared) (a u : Value), BindsTo s fd ⟨[a, u], []⟩ [(me, a), (f, u)]
  b2 : ∀ (s : Shared) (a u : Value), BindsTo s fd ⟨[a], [(f, u)]⟩ [(me, a), (f, u)]
def veBase : List Value := [.type "ValueError", .type "Exception", .type "BaseException", .type "object"]
structure ClsOk (X : Cx) (cn : Str) (fo : Option Str) (c : Addr) : Prop where
  at_ : ClsAt X.K cn c
  mg : X.mg cn = some (.ref c)
  T : OexC X.K c
  xc : ExcC X.K c
  xf : XfC X.K c
  ini : ∀ f, fo = some f → PySem.W.findIn X.K (.ref c) f = some none ∧ ∃ fI fd self, InitOk X c f fI fd self
  bare : fo = none → PySem.W.excIn X.K c veBase "ValueError.__new__" = true
structure KcOk (X : Cx) (k : Kc) : Prop where
  N : k.N = X.N
  sc : k.sc = X.env.scope
  nd : X.N.Nodup
  calm : X.calm = true
  hu : X.A.units + 66 < cLine
  gd : X.A.guards = some []
  fl : ∀ x, k.fl x = true → X.fn x = true
  data : ∀ x d, k.g.data.lookup x = some d → ∃ u v, X.mg x = some u ∧ RelV v u ∧ ∀ μ H, Rep X.K μ H d v
  dn : ∀ x ∈ k.dn, (k.g.data.lookup x).isSome = true
  free : ∀ x ∈ k.free, X.mg x = none
  bf : ∀ x id, k.bf.lookup x = some id → X.mg x = some (.builtin id)
  call : ∀ f ∈ k.fns, ∃ a fd ps lv, CallOk X k f a fd ps lv
  dd : ∀ x kvs, k.dd.lookup x = some kvs → ∃ a, X.mg x = some (.ref a) ∧ Kdi X.K X.w a kvs
  sys : ∃ o, X.K.lookup sysModules = some o ∧ o.cls = .type "dict"
  r2 : Room 2 X.A
  cls : ∀ cn fo, k.cls.lookup cn = some fo → ∃ c, ClsOk X cn fo c
  isx : ∀ T cs, k.isx.lookup T = some cs → ∃ (tc : V) (tv : Value), (∀ u, RelV tc u → u = tv) ∧ ((X.mg T = some tv ∧ RelV tc tv) ∨ (X.mg T = none ∧ ∃ Ts : String, bootBuiltins T = some (.type Ts) ∧ tc = .ty Ts ∧ tv = .type Ts)) ∧
    ∀ cn fo c, k.cls.lookup cn = some fo → ClsAt X.K cn c → PySem.W.kitOne X.K (.ref c) tv = some (cs.contains cn)

/-! ### readings -/
def tEv (K : PySem.W.Frag) (G : GE) (c : C) : TE := fun σ H Q => ∃ μ δ S d S', RepEnv K μ H σ δ ∧ Rl K μ H S ∧ evE G c δ S = some (d, S') ∧ Pst K μ H S' d Q
def tTv (K : PySem.W.Frag) (G : GE) (c : C) : TT := fun σ H Q => ∃ μ δ S b S', RepEnv K μ H σ δ ∧ Rl K μ H S ∧ evT G c δ S = some (b, S') ∧ ∀ H' μ', Ext μ H μ' H' → Rl K μ' H' S' → Q b H'
def tEvs (K : PySem.W.Frag) (G : GE) (cs : List C) : TA := fun σ H Q => ∃ μ δ S ds S', RepEnv K μ H σ δ ∧ Rl K μ H S ∧ evEs G cs δ S = some (ds, S') ∧ ∀ vs H' μ', Ext μ H μ' H' → Rl K μ' H' S' → Reps K μ' H' ds vs → Q vs H'
section
variable {X : Cx} {k : Kc}
theorem _root_.L2.PE.imp {e : Expr} {t t' : TE} (h : PE X e t) (i : ∀ σ H Q, t' σ H Q → t σ H Q) : PE X e t' := ⟨fun pins s σ H Q I q => h.run pins s σ H Q I (i σ H Q q)⟩
theorem _root_.L2.PT.imp {e : Expr} {t t' : TT} (h : PT X e t) (i : ∀ σ H Q, t' σ H Q → t σ H Q) : PT X e t' := ⟨fun pins s σ H Q I q => h.run pins s σ H Q I (i σ H Q q)⟩
theorem _root_.L2.PW.imp {e : Expr} {t t' : TT} (h : PW X e t) (i : ∀ σ H Q, t' σ H Q → t σ H Q) : PW X e t' := ⟨fun w pins s σ H Q I q => h.run w pins s σ H Q I (i σ H Q q)⟩
theorem _root_.L2.PA.imp {es : List Expr} {t t' : TA} (h : PA X es t) (i : ∀ σ H Q, t' σ H Q → t σ H Q) : PA X es t' := ⟨fun pos pins s σ H Q I q => h.run pos pins s σ H Q I (i σ H Q q)⟩
theorem _root_.L2.PK.imp {es : List Keyword} {t t' : TA} (h : PK X es t) (i : ∀ σ H Q, t' σ H Q → t σ H Q) : PK X es t' := ⟨fun pos pins s σ H Q I q => h.run pos pins s σ H Q I (i σ H Q q)⟩
theorem _root_.L2.PS.imp {e : Stmt} {t t' : TS} (h : PS X e t) (i : ∀ D σ H, t' D σ H → t D σ H) : PS X e t' := ⟨fun pins s σ H D I q => h.run pins s σ H D I (i D σ H q)⟩
theorem _root_.L2.PSs.imp {e : List Stmt} {t t' : TS} (h : PSs X e t) (i : ∀ D σ H, t' D σ H → t D σ H) : PSs X e t' := ⟨fun pins s σ H D I q => h.run pins s σ H D I (i D σ H q)⟩
theorem bindS {α β : Type} {o : Option α} {f : α → Option β} {b : β} (h : o.bind f = some b) : ∃ a, o = some a ∧ f a = some b := by
  cases o with
  | none => cases h
  | some a => exact ⟨a, rfl, h⟩
theorem mapS {α β : Type} {o : Option α} {f : α → β} {b : β} (h : o.map f = some b) : ∃ a, o = some a ∧ f a = b := by
  cases o with
  | none => cases h
  | some a => exact ⟨a, rfl, Option.some.inj h⟩

/-! ### leaves -/
theorem e_const {e : Expr} {v : V} {c : C} {d : D} (h : PE X e (tC v)) (ev : ∀ δ S, evE k.g c δ S = some (d, S)) (r : ∀ μ H, Rep X.K μ H d v) : PE X e (tEv X.K k.g c) := h.imp fun σ H Q ⟨μ, δ, S, d', S', E, R, e1, q⟩ => by
  rw [ev] at e1; cases e1
  exact q.at R (r μ H)
theorem e_non {j pos} : PE X (.Constant .none j pos) (tEv X.K k.g .non) := e_const pe_non (fun _ _ => by simp only [evE]) fun _ _ => mk_non
theorem e_bl {b j pos} : PE X (.Constant (.bool b) j pos) (tEv X.K k.g (.bl b)) := e_const pe_bl (fun _ _ => by simp only [evE]) fun _ _ => mk_bl
theorem e_int {b j pos} : PE X (.Constant (.int b) j pos) (tEv X.K k.g (.int b)) := e_const pe_int (fun _ _ => by simp only [evE]) fun _ _ => mk_int
theorem e_str {b j pos} : PE X (.Constant (.str b) j pos) (tEv X.K k.g (.str b)) := e_const pe_str (fun _ _ => by simp only [evE]) fun _ _ => mk_str
def visB (sc : Scope) (x : Str) : Bool := match sc.names.lookup x with
  | some .local => true
  | some .cell => true
  | some .free => true
  | _ => false
theorem visB_ok {sc : Scope} {x : Str} (h : visB sc x = true) : Vis sc x := by
  unfold visB at h
  unfold Vis
  split at h
  · exact .inl (by assumption)
  · exact .inr (.inl (by assumption))
  · exact .inr (.inr (by assumption))
  · cases h
def glB (sc : Scope) (x : Str) : Bool := decide (sc.names.lookup x = some .globalImplicit)
theorem glB_ok (hk : KcOk X k) {x : Str} (h : glB k.sc x = true) : Gl X x := by
  have h2 : k.sc.names.lookup x = some .globalImplicit := of_decide_eq_true h
  rw [hk.sc] at h2
  exact h2
def nmB (x : Str) : Bool := !(x == ("__debug__" : Str)) && !(x == ("__classdict__" : Str)) && !(decide (x = ("__name__" : Str)))
theorem nmB_ok {x : Str} (h : nmB x = true) : (x == ("__debug__" : Str)) = false ∧ (x == ("__classdict__" : Str)) = false ∧ x ≠ ("__name__" : Str) := by
  unfold nmB at h
  simp only [Bool.and_eq_true, Bool.not_eq_true', decide_eq_false_iff_not] at h
  exact ⟨h.1.1, h.1.2, h.2⟩
theorem e_var (hk : KcOk X k) {i : Nat} {x : Str} {pos : Pos} (h1 : k.N[i]? = some x) (h2 : visB k.sc x = true) (h3 : nmB x = true) : PE X (.Name x pos) (tEv X.K k.g (.var i)) := by
  obtain ⟨n1, n2, _⟩ := nmB_ok h3
  refine (pe_var (X := X) (i := i) (by rw [← hk.N]; exact h1) (by rw [← hk.sc]; exact visB_ok h2) n1 n2).imp fun σ H Q ⟨μ, δ, S, d, S', E, R, e1, q⟩ => ?_
  simp only [evE] at e1
  cases e2 : δ[i]? with
  | none => rw [e2] at e1; cases e1
  | some o =>
    cases o with
    | none => rw [e2] at e1; cases e1
    | some d' =>
      rw [e2] at e1
      cases e1
      obtain ⟨v, e3, r⟩ := E.2 i _ e2
      exact ⟨v, e3, q.at R r⟩
theorem e_glo (hk : KcOk X k) {x : Str} {pos : Pos} (h1 : glB k.sc x = true) (h2 : nmB x = true) (h3 : (k.g.data.lookup x).isSome = true) : PE X (.Name x pos) (tEv X.K k.g (.glo x)) := by
  obtain ⟨d, hd⟩ := Option.isSome_iff_exists.mp h3
  obtain ⟨u, v, m, r, rp⟩ := hk.data x d hd
  refine e_const (pe_glob (glB_ok hk h1) m r (nmB_ok h2).1) (fun _ _ => ?_) rp
  simp only [evE, hd, Option.map_some]

/-! ### argument lists -/
/-- no starred, set, slice -/
def plainX : Expr → Bool
  | .Starred _ _ => false
  | .Set _ _ _ => false
  | .Slice _ _ _ _ => false
  | _ => true
theorem star_of {e : Expr} (h : plainX e = true) (es : List Expr) (env : Env) : starEach (e :: es) env = (false, eval e env) :: starEach es env := by
  cases e <;> first | rfl | cases h
theorem nostar : ∀ {es : List Expr}, es.all plainX = true → ∀ (pos : Pos) (env : Env), (backTo pos (starEach es env)).any (·.1) = false
  | [], _, _, _ => rfl
  | e :: es, h, pos, env => by
    obtain ⟨h1, h2⟩ := Bool.and_eq_true_iff.mp (show (plainX e && es.all plainX) = true from h)
    rw [star_of h1]
    show (false || (backTo pos (starEach es env)).any (·.1)) = false
    rw [nostar h2]; rfl
theorem as_nil : PA X [] (tEvs X.K k.g []) := pa_nil.imp fun σ H Q ⟨μ, δ, S, ds, S', E, R, e1, q⟩ => by
  simp only [evEs] at e1; cases e1
  exact q [] H μ Ext.refl R Reps.nil
theorem as_cons {e : Expr} {es : List Expr} {c : C} {cs : List C} (h1 : PE X e (tEv X.K k.g c)) (h2 : PA X es (tEvs X.K k.g cs)) (hp : plainX e = true) : PA X (e :: es) (tEvs X.K k.g (c :: cs)) := (pa_cons h1 h2 (star_of hp _ _)).imp fun σ H Q ⟨μ, δ, S, ds, S', E, R, e1, q⟩ => by
  simp only [evEs] at e1
  obtain ⟨⟨d, S1⟩, e2, e3⟩ := bindS e1
  obtain ⟨⟨r, S2⟩, e4, e5⟩ := mapS e3
  cases e5
  refine ⟨μ, δ, S, d, S1, E, R, e2, fun v H1 μ1 E1 R1 p1 => ⟨μ1, δ, S1, r, S2, E.mono R E1, R1, e4, fun vs H2 μ2 E2 R2 p2 => ?_⟩⟩
  exact q (v :: vs) H2 μ2 (E1.trans E2) R2 (Reps.cons (p1.mono R1 E2) p2)
theorem ks_nil : PK X [] (tEvs X.K k.g []) := pk_nil.imp fun σ H Q ⟨μ, δ, S, ds, S', E, R, e1, q⟩ => by
  simp only [evEs] at e1; cases e1
  exact q [] H μ Ext.refl R Reps.nil
theorem ks_cons {e : Expr} {es : List Keyword} {c : C} {cs : List C} {nm : Option Str} {kp : Pos} (h1 : PE X e (tEv X.K k.g c)) (h2 : PK X es (tEvs X.K k.g cs)) : PK X (⟨nm, e, kp⟩ :: es) (tEvs X.K k.g (c :: cs)) := (pk_cons h1 h2).imp fun σ H Q ⟨μ, δ, S, ds, S', E, R, e1, q⟩ => by
  simp only [evEs] at e1
  obtain ⟨⟨d, S1⟩, e2, e3⟩ := bindS e1
  obtain ⟨⟨r, S2⟩, e4, e5⟩ := mapS e3
  cases e5
  refine ⟨μ, δ, S, d, S1, E, R, e2, fun v H1 μ1 E1 R1 p1 => ⟨μ1, δ, S1, r, S2, E.mono R E1, R1, e4, fun vs H2 μ2 E2 R2 p2 => ?_⟩⟩
  exact q (v :: vs) H2 μ2 (E1.trans E2) R2 (Reps.cons (p1.mono R1 E2) p2)

/-! ### displays -/
theorem e_tup {es : List Expr} {cs : List C} {x1 pos} (h : PA X es (tEvs X.K k.g cs)) : PE X (.Tuple es x1 pos) (tEv X.K k.g (.tup cs)) := (pe_tup h).imp fun σ H Q ⟨μ, δ, S, d, S', E, R, e1, q⟩ => by
  simp only [evE] at e1
  obtain ⟨⟨ds, S1⟩, e2, e3⟩ := bindS e1
  split at e3
  · rename_i hl
    cases e3
    refine ⟨μ, δ, S, ds, _, E, R, e2, fun vs H1 μ1 E1 R1 p1 => ⟨by rw [sizeL, ← p1.length]; exact hl, fun p hp => ?_⟩⟩
    exact (q.ext E1).new R1 hp (mk_tup (SqT.of upd_same) (p1.mono R1 (Ext.new hp)))
  · cases e3
theorem e_lst {es : List Expr} {cs : List C} {own : Option Bool} {pos} (h : PA X es (tEvs X.K k.g cs)) : PE X (.List es pos) (tEv X.K k.g (.lst own cs)) := (pe_lst h).imp fun σ H Q ⟨μ, δ, S, d, S', E, R, e1, q⟩ => by
  simp only [evE] at e1
  obtain ⟨⟨ds, S1⟩, e2, e3⟩ := bindS e1
  split at e3
  · rename_i hl
    refine ⟨μ, δ, S, ds, S1, E, R, e2, fun vs H1 μ1 E1 R1 p1 => ⟨by rw [sizeL, ← p1.length]; exact hl, fun p hp => ?_⟩⟩
    cases own with
    | none =>
      cases e3
      exact (q.ext E1).new R1 hp (mk_lst (R1.fz hp) upd_same (p1.mono R1 (Ext.new hp)))
    | some kp =>
      cases e3
      refine q _ _ (μ1.push p) (E1.trans (Ext.push hp)) (R1.push hp p1) (mk_ref ?_ ⟨vs, upd_same⟩)
      show (μ1.ad ++ [p])[S1.length]? = some p
      rw [← R1.len, List.getElem?_append_right (Nat.le_refl _)]
      simp
  · cases e3
theorem e_dic0 {pos} : PE X (.Dict [] [] pos) (tEv X.K k.g .dic0) := pe_dnewK.imp fun σ H Q ⟨μ, δ, S, d, S', E, R, e1, q⟩ => by
  simp only [evE] at e1; cases e1
  intro p hp
  refine q.new R hp ?_
  simp only [Rep]
  exact ⟨p, [], rfl, R.fz hp, rfl, upd_same, Reps.nil⟩
theorem e_dicT {kp : Bool} {pos} : PE X (.Dict [] [] pos) (tEv X.K k.g (.dicT kp)) := pe_dnewT.imp fun σ H Q ⟨μ, δ, S, d, S', E, R, e1, q⟩ => by
  simp only [evE] at e1; cases e1
  intro p hp
  refine q _ _ (μ.push p) (Ext.push hp) (R.pushT hp) ?_
  simp only [Rep]
  refine ⟨p, rfl, ?_, [], upd_same⟩
  show (μ.ad ++ [p])[S.length]? = some p
  rw [← R.len, List.getElem?_append_right (Nat.le_refl _)]
  simp
theorem e_ntp {es : List Expr} {cs : List C} {x1 pos} (h : PA X es (tEvs X.K k.g cs)) : PE X (.Tuple es x1 pos) (tEv X.K k.g (.ntp cs)) := (pe_tup h).imp fun σ H Q ⟨μ, δ, S, d, S', E, R, e1, q⟩ => by
  simp only [evE] at e1
  obtain ⟨⟨ds, S1⟩, e2, e3⟩ := bindS e1
  split at e3
  · rename_i hl
    cases e3
    refine ⟨μ, δ, S, ds, _, E, R, e2, fun vs H1 μ1 E1 R1 p1 => ⟨by rw [sizeL, ← p1.length]; exact hl, fun p hp => ?_⟩⟩
    refine (q.ext E1).new R1 hp ?_
    simp only [Rep]
    exact ⟨p, vs, rfl, upd_same, p1.mono R1 (Ext.new hp)⟩
  · cases e3
theorem upd_twice {H : Hp} {p : Addr} {a b : HO} : upd (upd H p a) p b = upd H p b := by
  funext c
  by_cases e : c = p
  · subst e; rw [upd_same, upd_same]
  · rw [upd_ne e, upd_ne e, upd_ne e]
theorem e_dic1 {x : Str} {i : Int} {j1 j2 : Nat} {p1 p2 pos : Pos} : PE X (.Dict [some (.Constant (.str x) j1 p1)] [.Constant (.int i) j2 p2] pos) (tEv X.K k.g (.dic1 x i)) :=
  (pe_disp (pps_cons (pe_str (X := X)) (pe_int (X := X)) pps_nil) rfl rfl (by simp) (by simp)).imp fun σ H Q ⟨μ, δ, S, d, S', E, R, e1, q⟩ => by
  simp only [evE] at e1; cases e1
  intro p hp
  refine ⟨upd_same, [(.inr x, .int i)], rfl, by simp, ?_⟩
  rw [upd_twice]
  refine q.new R hp ?_
  simp only [Rep]
  exact ⟨p, [.int i], rfl, R.fz hp, rfl, upd_same, Reps.cons mk_int Reps.nil⟩
end
end Dn

set_option maxHeartbeats 4000000
namespace Dn
open PySem PySem.Spec PyProof.Rows L2

section
variable {K : PySem.W.Frag} {G : GE} {σ : L2.St} {H : Hp} {μ : Mu} {δ : En} {S S1 S2 S3 : Sto} {a b c : C} {d1 d2 d3 : D}
theorem ev1 (E : RepEnv K μ H σ δ) (R : Rl K μ H S) (ea : evE G a δ S = some (d1, S1)) {W : V → Hp → Prop}
    (go : ∀ x H1 μ1, Ext μ H μ1 H1 → Rl K μ1 H1 S1 → RepEnv K μ1 H1 σ δ → Rep K μ1 H1 d1 x → W x H1) : tEv K G a σ H W :=
  ⟨μ, δ, S, d1, S1, E, R, ea, fun v H1 μ1 E1 R1 p1 => go v H1 μ1 E1 R1 (E.mono R E1) p1⟩
theorem ev2 (E : RepEnv K μ H σ δ) (R : Rl K μ H S) (ea : evE G a δ S = some (d1, S1)) (eb : evE G b δ S1 = some (d2, S2)) {W : V → V → Hp → Prop}
    (go : ∀ x y H2 μ2, Ext μ H μ2 H2 → Rl K μ2 H2 S2 → RepEnv K μ2 H2 σ δ → Rep K μ2 H2 d1 x → Rep K μ2 H2 d2 y → W x y H2) : tEv K G a σ H fun x H1 => tEv K G b σ H1 fun y H2 => W x y H2 :=
  ev1 E R ea fun x H1 μ1 E1 R1 N1 p1 => ev1 N1 R1 eb fun y H2 μ2 E2 R2 N2 p2 => go x y H2 μ2 (E1.trans E2) R2 N2 (p1.mono R1 E2) p2
theorem evs1 {cs : List C} {ds : List D} (E : RepEnv K μ H σ δ) (R : Rl K μ H S) (ea : evEs G cs δ S = some (ds, S1)) {W : List V → Hp → Prop}
    (go : ∀ xs H1 μ1, Ext μ H μ1 H1 → Rl K μ1 H1 S1 → RepEnv K μ1 H1 σ δ → Reps K μ1 H1 ds xs → W xs H1) : tEvs K G cs σ H W :=
  ⟨μ, δ, S, ds, S1, E, R, ea, fun v H1 μ1 E1 R1 p1 => go v H1 μ1 E1 R1 (E.mono R E1) p1⟩
theorem tv1 {b : Bool} (E : RepEnv K μ H σ δ) (R : Rl K μ H S) (ea : evT G a δ S = some (b, S1)) {W : Bool → Hp → Prop}
    (go : ∀ H1 μ1, Ext μ H μ1 H1 → Rl K μ1 H1 S1 → RepEnv K μ1 H1 σ δ → W b H1) : tTv K G a σ H W :=
  ⟨μ, δ, S, b, S1, E, R, ea, fun H1 μ1 E1 R1 => go H1 μ1 E1 R1 (E.mono R E1)⟩
end

section
variable {X : Cx} {k : Kc} {x y z : Expr} {a b c : C} {pos : Pos}
theorem e_bin {o : Operator} (ha : PE X x (tEv X.K k.g a)) (hb : PE X y (tEv X.K k.g b)) : PE X (.BinOp x o y pos) (tEv X.K k.g (.bin o a b)) := (pe_op (op_bin o) ha hb).imp fun σ H Q ⟨μ, δ, S, d, S', E, R, e1, q⟩ => by
  simp only [evE] at e1
  obtain ⟨⟨d1, S1⟩, e2, e3⟩ := bindS e1
  obtain ⟨⟨d2, S2⟩, e4, e5⟩ := bindS e3
  obtain ⟨r, e6, e7⟩ := mapS e5
  cases e7
  exact ev2 E R e2 e4 fun x y H2 μ2 E2 R2 _ p1 p2 => ⟨μ2, S2, d1, d2, d, R2, p1, p2, e6, q.ext E2⟩
theorem e_neg (ha : PE X x (tEv X.K k.g a)) : PE X (.UnaryOp .USub x pos) (tEv X.K k.g (.neg a)) := (pe_un un_neg ha).imp fun σ H Q ⟨μ, δ, S, d, S', E, R, e1, q⟩ => by
  simp only [evE] at e1
  obtain ⟨⟨d1, S1⟩, e2, e3⟩ := bindS e1
  refine ev1 E R e2 fun x H1 μ1 E1 R1 _ p1 => ?_
  cases d1 with
  | int i =>
    cases e3
    cases rep_int p1
    exact ⟨i, rfl, (q.ext E1).at R1 mk_int⟩
  | _ => cases e3
theorem e_cmp (hk : KcOk X k) {o : CmpOp} (ha : PE X x (tEv X.K k.g a)) (hb : PE X y (tEv X.K k.g b)) (hm : plainX y = true) : PE X (.Compare x [o] [y] pos) (tEv X.K k.g (.cmp o a b)) :=
  (pe_cmpR (op_cmp hk.hu o) ha hb (by cases y <;> first | rfl | cases hm)).imp fun σ H Q ⟨μ, δ, S, d, S', E, R, e1, q⟩ => by
  simp only [evE] at e1
  obtain ⟨⟨d1, S1⟩, e2, e3⟩ := bindS e1
  obtain ⟨⟨d2, S2⟩, e4, e5⟩ := bindS e3
  obtain ⟨r, e6, e7⟩ := mapS e5
  cases e7
  exact ev2 E R e2 e4 fun x y H2 μ2 E2 R2 _ p1 p2 => ⟨μ2, S2, d1, d2, r, R2, p1, p2, e6, (q.ext E2).at R2 mk_bl⟩
theorem t_cmp (hk : KcOk X k) {o : CmpOp} (ha : PE X x (tEv X.K k.g a)) (hb : PE X y (tEv X.K k.g b)) (hm : plainX y = true) : PT X (.Compare x [o] [y] pos) (tTv X.K k.g (.cmp o a b)) :=
  (pt_cmpR (op_cmp hk.hu o) ha hb (by cases y <;> first | rfl | cases hm)).imp fun σ H Q ⟨μ, δ, S, d, S', E, R, e1, q⟩ => by
  simp only [evT] at e1
  obtain ⟨⟨d1, S1⟩, e2, e3⟩ := bindS e1
  obtain ⟨⟨d2, S2⟩, e4, e5⟩ := bindS e3
  obtain ⟨r, e6, e7⟩ := mapS e5
  cases e7
  exact ev2 E R e2 e4 fun x y H2 μ2 E2 R2 _ p1 p2 => ⟨μ2, S2, d1, d2, d, R2, p1, p2, e6, d, rfl, q H2 μ2 E2 R2⟩
theorem last2 {o o' : CmpOp} {y z : Expr} (hm : plainX z = true) : lastMarks [o, o'] [y, z] = false := by
  show behindInMarks o' z = false
  cases z <;> first | rfl | cases hm
theorem e_cmp2 (hk : KcOk X k) {o o' : CmpOp} (ha : PE X x (tEv X.K k.g a)) (hb : PE X y (tEv X.K k.g b)) (hc : PE X z (tEv X.K k.g c)) (hm : plainX z = true) : PE X (.Compare x [o, o'] [y, z] pos) (tEv X.K k.g (.cmp2 o o' a b c)) :=
  (pe_chain (op_cmp hk.hu o) (op_cmp hk.hu o') ha hb hc (last2 hm)).imp fun σ H Q ⟨μ, δ, S, d, S', E, R, e1, q⟩ => by
  simp only [evE] at e1
  obtain ⟨⟨d1, S1⟩, e2, e3⟩ := bindS e1
  obtain ⟨⟨d2, S2⟩, e4, e5⟩ := bindS e3
  obtain ⟨r, e6, e7⟩ := bindS e5
  refine ev2 E R e2 e4 fun x y H2 μ2 E2 R2 N2 p1 p2 => ⟨μ2, S2, d1, d2, r, R2, p1, p2, e6, r, rfl, ?_⟩
  cases r with
  | false =>
    rw [if_neg Bool.false_ne_true] at e7 ⊢
    cases e7
    exact (q.ext E2).at R2 mk_bl
  | true =>
    rw [if_pos rfl] at e7 ⊢
    obtain ⟨⟨d3, S3⟩, e8, e9⟩ := bindS e7
    obtain ⟨r', e10, e11⟩ := mapS e9
    cases e11
    exact ev1 N2 R2 e8 fun w H3 μ3 E3 R3 _ p3 => ⟨μ3, S3, d2, d3, r', R3, p2.mono R2 E3, p3, e10, (q.ext (E2.trans E3)).at R3 mk_bl⟩
theorem t_cmp2 (hk : KcOk X k) {o o' : CmpOp} (ha : PE X x (tEv X.K k.g a)) (hb : PE X y (tEv X.K k.g b)) (hc : PE X z (tEv X.K k.g c)) (hm : plainX z = true) : PT X (.Compare x [o, o'] [y, z] pos) (tTv X.K k.g (.cmp2 o o' a b c)) :=
  (pt_chain (op_cmp hk.hu o) (op_cmp hk.hu o') ha hb hc (last2 hm)).imp fun σ H Q ⟨μ, δ, S, d, S', E, R, e1, q⟩ => by
  simp only [evT] at e1
  obtain ⟨⟨d1, S1⟩, e2, e3⟩ := bindS e1
  obtain ⟨⟨d2, S2⟩, e4, e5⟩ := bindS e3
  obtain ⟨r, e6, e7⟩ := bindS e5
  refine ev2 E R e2 e4 fun x y H2 μ2 E2 R2 N2 p1 p2 => ⟨μ2, S2, d1, d2, r, R2, p1, p2, e6, r, rfl, ?_⟩
  cases r with
  | false =>
    rw [if_neg Bool.false_ne_true] at e7 ⊢
    cases e7
    exact ⟨false, rfl, q H2 μ2 E2 R2⟩
  | true =>
    rw [if_pos rfl] at e7 ⊢
    obtain ⟨⟨d3, S3⟩, e8, e9⟩ := bindS e7
    obtain ⟨r', e10, e11⟩ := mapS e9
    cases e11
    exact ev1 N2 R2 e8 fun w H3 μ3 E3 R3 _ p3 => ⟨μ3, S3, d2, d3, d, R3, p2.mono R2 E3, p3, e10, d, rfl, q H3 μ3 (E2.trans E3) R3⟩
/-! ### and, or, not, if -/
theorem t_not (ha : PT X x (tTv X.K k.g a)) : PT X (.UnaryOp .Not x pos) (tTv X.K k.g (.not a)) := (pt_not ha).imp fun σ H Q ⟨μ, δ, S, d, S', E, R, e1, q⟩ => by
  simp only [evT] at e1
  obtain ⟨⟨b, S1⟩, e2, e3⟩ := mapS e1
  cases e3
  exact tv1 E R e2 fun H1 μ1 E1 R1 _ => q H1 μ1 E1 R1
/-- the rest of a row of and, or -/
def restX (o : BoolOp) (pos : Pos) : List Expr → Expr
  | [y] => y
  | r => .BoolOp o r pos
theorem e_and {r : List Expr} (ha : PE X x (tEv X.K k.g a)) (hb : PE X (restX .And pos (y :: r)) (tEv X.K k.g b)) : PE X (.BoolOp .And (x :: y :: r) pos) (tEv X.K k.g (.and a b)) := by
  have hb' : PE X (.BoolOp .And (y :: r) pos) (tEv X.K k.g b) := by
    cases r with
    | nil => exact pe_one hb
    | cons z r => exact hb
  refine (pe_and ha hb').imp fun σ H Q ⟨μ, δ, S, d, S', E, R, e1, q⟩ => ?_
  simp only [evE] at e1
  obtain ⟨⟨d1, S1⟩, e2, e3⟩ := bindS e1
  refine ev1 E R e2 fun x H1 μ1 E1 R1 N1 p1 => ?_
  cases d1 with
  | bl t =>
    cases rep_bl p1
    cases t with
    | true =>
      refine ⟨true, rfl, ?_⟩
      rw [if_pos rfl]
      exact ⟨μ1, δ, S1, d, S', N1, R1, e3, q.ext E1⟩
    | false =>
      cases e3
      refine ⟨false, rfl, ?_⟩
      rw [if_neg Bool.false_ne_true]
      exact (q.ext E1).at R1 mk_bl
  | _ => cases e3
theorem e_or {r : List Expr} (ha : PE X x (tEv X.K k.g a)) (hb : PE X (restX .Or pos (y :: r)) (tEv X.K k.g b)) : PE X (.BoolOp .Or (x :: y :: r) pos) (tEv X.K k.g (.or a b)) := by
  have hb' : PE X (.BoolOp .Or (y :: r) pos) (tEv X.K k.g b) := by
    cases r with
    | nil => exact pe_one hb
    | cons z r => exact hb
  refine (pe_or ha hb').imp fun σ H Q ⟨μ, δ, S, d, S', E, R, e1, q⟩ => ?_
  simp only [evE] at e1
  obtain ⟨⟨d1, S1⟩, e2, e3⟩ := bindS e1
  refine ev1 E R e2 fun x H1 μ1 E1 R1 N1 p1 => ?_
  cases d1 with
  | bl t =>
    cases rep_bl p1
    cases t with
    | false =>
      refine ⟨false, rfl, ?_⟩
      rw [if_neg Bool.false_ne_true]
      exact ⟨μ1, δ, S1, d, S', N1, R1, e3, q.ext E1⟩
    | true =>
      cases e3
      refine ⟨true, rfl, ?_⟩
      rw [if_pos rfl]
      exact (q.ext E1).at R1 mk_bl
  | _ => cases e3
theorem pt_pw {o : BoolOp} {r : List Expr} {t : TT} (h : PT X (restX o pos (y :: r)) t) : PW X (.BoolOp o (y :: r) pos) t := by
  cases r with
  | nil =>
    cases o with
    | And => exact pw_and1 h
    | Or => exact pw_or1 h
  | cons z r =>
    refine ⟨fun wh pins s σ H Q I q => ?_⟩
    have := h.run pins s σ H Q I q
    cases o <;> exact this
theorem t_and {r : List Expr} (ha : PT X x (tTv X.K k.g a)) (hb : PT X (restX .And pos (y :: r)) (tTv X.K k.g b)) : PT X (.BoolOp .And (x :: y :: r) pos) (tTv X.K k.g (.and a b)) := by
  refine ((pw_and ha (pt_pw hb)).pt).imp fun σ H Q ⟨μ, δ, S, d, S', E, R, e1, q⟩ => ?_
  simp only [evT] at e1
  obtain ⟨⟨t, S1⟩, e2, e3⟩ := bindS e1
  refine tv1 E R e2 fun H1 μ1 E1 R1 N1 => ?_
  cases t with
  | true =>
    rw [if_pos rfl] at e3 ⊢
    exact tv1 N1 R1 e3 fun H2 μ2 E2 R2 _ => q H2 μ2 (E1.trans E2) R2
  | false =>
    rw [if_neg Bool.false_ne_true] at e3 ⊢
    cases e3
    exact q H1 μ1 E1 R1
theorem t_or {r : List Expr} (ha : PT X x (tTv X.K k.g a)) (hb : PT X (restX .Or pos (y :: r)) (tTv X.K k.g b)) : PT X (.BoolOp .Or (x :: y :: r) pos) (tTv X.K k.g (.or a b)) := by
  refine ((pw_or ha (pt_pw hb)).pt).imp fun σ H Q ⟨μ, δ, S, d, S', E, R, e1, q⟩ => ?_
  simp only [evT] at e1
  obtain ⟨⟨t, S1⟩, e2, e3⟩ := bindS e1
  refine tv1 E R e2 fun H1 μ1 E1 R1 N1 => ?_
  cases t with
  | true =>
    rw [if_pos rfl] at e3 ⊢
    cases e3
    exact q H1 μ1 E1 R1
  | false =>
    rw [if_neg Bool.false_ne_true] at e3 ⊢
    exact tv1 N1 R1 e3 fun H2 μ2 E2 R2 _ => q H2 μ2 (E1.trans E2) R2
theorem e_ite (hc : PT X z (tTv X.K k.g c)) (ha : PE X x (tEv X.K k.g a)) (hb : PE X y (tEv X.K k.g b)) : PE X (.IfExp z x y pos) (tEv X.K k.g (.ite c a b)) := (pe_ifExp hc ha hb).imp fun σ H Q ⟨μ, δ, S, d, S', E, R, e1, q⟩ => by
  simp only [evE] at e1
  obtain ⟨⟨t, S1⟩, e2, e3⟩ := bindS e1
  refine tv1 E R e2 fun H1 μ1 E1 R1 N1 => ?_
  cases t with
  | true =>
    rw [if_pos rfl] at e3 ⊢
    exact ⟨μ1, δ, S1, d, S', N1, R1, e3, q.ext E1⟩
  | false =>
    rw [if_neg Bool.false_ne_true] at e3 ⊢
    exact ⟨μ1, δ, S1, d, S', N1, R1, e3, q.ext E1⟩
end
end Dn

set_option maxHeartbeats 4000000
namespace Dn
open PySem PySem.Spec PyProof.Rows L2

/-! ### truth -/
section
variable {K : PySem.W.Frag} {μ : Mu} {H : Hp} {S : Sto}
theorem isEmpty_rep {ds : List D} {vs : List V} (h : Reps K μ H ds vs) : (!vs.isEmpty) = !ds.isEmpty := by
  rw [isEmpty_len h.length]
theorem tru_v (R : Rl K μ H S) {d : D} {v : V} {b : Bool} (e : truD S d = some b) (h : Rep K μ H d v) : TruV K v H b := by
  cases d with
  | non => cases rep_non h; cases e; rfl
  | bl t => cases rep_bl h; cases e; rfl
  | int i => cases rep_int h; cases e; rfl
  | str x =>
    cases rep_str h
    simp only [truD] at e
    split at e
    · rename_i hl
      cases e
      exact ⟨by rw [sizeL]; exact hl, rfl⟩
    · cases e
  | tup xs =>
    obtain ⟨a, vs, rfl, h1, h2⟩ := rep_tup h
    cases e
    exact .inr (.inl ⟨vs, h1, (isEmpty_rep h2).symm⟩)
  | lst xs =>
    obtain ⟨a, vs, rfl, h1, h2⟩ := rep_litems (S := S) R (xs := xs) rfl h
    cases e
    exact .inl ⟨vs, h1, (isEmpty_rep h2).symm⟩
  | scr xs =>
    obtain ⟨a, vs, rfl, h1, h2⟩ := rep_litems (S := S) R (xs := xs) rfl h
    cases e
    exact .inl ⟨vs, h1, (isEmpty_rep h2).symm⟩
  | ref n =>
    simp only [truD] at e
    obtain ⟨mo, e1, e2⟩ := mapS e
    obtain ⟨a, vs, rfl, h1, h2⟩ := rep_litems (S := S) R (xs := mo.xs) (by simp only [litems, e1, Option.map_some]) h
    subst e2
    exact .inl ⟨vs, h1, (isEmpty_rep h2).symm⟩
  | dic _ _ => cases e
  | exc _ _ _ => cases e
  | rfd _ => cases e
  | ntup _ => cases e
end
section
variable {X : Cx} {k : Kc} {x y z : Expr} {a b c : C} {pos : Pos}
theorem e_not (ha : PE X x (tEv X.K k.g a)) : PE X (.UnaryOp .Not x pos) (tEv X.K k.g (.not a)) := (pe_notT ha).imp fun σ H Q ⟨μ, δ, S, d, S', E, R, e1, q⟩ => by
  simp only [evE] at e1
  obtain ⟨⟨d1, S1⟩, e2, e3⟩ := bindS e1
  obtain ⟨b, e4, e5⟩ := mapS e3
  cases e5
  exact ev1 E R e2 fun x H1 μ1 E1 R1 _ p1 => ⟨b, tru_v R1 e4 p1, (q.ext E1).at R1 mk_bl⟩
/-- a test that is its value's truth -/
theorem t_val (ha : PE X x (tEv X.K k.g a)) (he : ∀ whole, isTrue x X.env whole = (do let v ← whole; standAt x.pos; holding [v] (truthy v)))
    (ev : ∀ δ S b S', evT k.g a δ S = some (b, S') → ∃ d, evE k.g a δ S = some (d, S') ∧ truD S' d = some b) : PT X x (tTv X.K k.g a) := (pt_truth ha he).imp fun σ H Q ⟨μ, δ, S, b, S', E, R, e1, q⟩ => by
  obtain ⟨d, e2, e3⟩ := ev δ S b S' e1
  exact ev1 E R e2 fun x H1 μ1 E1 R1 _ p1 => ⟨b, tru_v R1 e3 p1, q H1 μ1 E1 R1⟩
theorem t_var {x : Str} {i : Nat} (ha : PE X (.Name x pos) (tEv X.K k.g (.var i))) : PT X (.Name x pos) (tTv X.K k.g (.var i)) := t_val ha (fun _ => rfl) fun δ S b S' e => by
  simp only [evT] at e
  simp only [evE]
  cases e2 : δ[i]? with
  | none => rw [e2] at e; cases e
  | some o =>
    cases o with
    | none => rw [e2] at e; cases e
    | some d =>
      rw [e2] at e
      obtain ⟨t, e3, e4⟩ := mapS e
      cases e4
      exact ⟨d, rfl, e3⟩
theorem t_call {f : Expr} {es : List Expr} {kw : List Keyword} {g : Str} {cs : List C} (ha : PE X (.Call f es kw pos) (tEv X.K k.g (.call g cs))) : PT X (.Call f es kw pos) (tTv X.K k.g (.call g cs)) := t_val ha (fun _ => rfl) fun δ S b S' e => by
  simp only [evT] at e
  simp only [evE]
  obtain ⟨⟨ds, S1⟩, e2, e3⟩ := bindS e
  obtain ⟨⟨d, S2⟩, e4, e5⟩ := bindS e3
  obtain ⟨t, e6, e7⟩ := mapS e5
  cases e7
  exact ⟨d, by rw [e2]; exact e4, e6⟩
theorem t_blt {f : Expr} {es : List Expr} {kw : List Keyword} {g : String} {cs : List C} (ha : PE X (.Call f es kw pos) (tEv X.K k.g (.blt g cs))) : PT X (.Call f es kw pos) (tTv X.K k.g (.blt g cs)) := t_val ha (fun _ => rfl) fun δ S b S' e => by
  simp only [evT] at e
  simp only [evE]
  obtain ⟨⟨ds, S1⟩, e2, e3⟩ := bindS e
  obtain ⟨d, e4, e5⟩ := bindS e3
  obtain ⟨t, e6, e7⟩ := mapS e5
  cases e7
  exact ⟨d, by rw [e2, Option.bind_some, e4]; rfl, e6⟩
theorem t_isi {f : Expr} {es : List Expr} {kw : List Keyword} {T : String} (ha : PE X (.Call f es kw pos) (tEv X.K k.g (.isi a T))) : PT X (.Call f es kw pos) (tTv X.K k.g (.isi a T)) := t_val ha (fun _ => rfl) fun δ S b S' e => by
  simp only [evT] at e
  simp only [evE]
  obtain ⟨⟨d, S1⟩, e2, e3⟩ := bindS e
  obtain ⟨t, e6, e7⟩ := mapS e3
  cases e7
  exact ⟨.bl b, by rw [e2, Option.bind_some, e6]; rfl, rfl⟩
theorem t_bl {b : Bool} {j : Nat} (ha : PE X (.Constant (.bool b) j pos) (tEv X.K k.g (.bl b))) : PT X (.Constant (.bool b) j pos) (tTv X.K k.g (.bl b)) := t_val ha (fun _ => rfl) fun δ S b' S' e => by
  simp only [evT] at e
  cases e
  simp only [evE]
  exact ⟨.bl b, rfl, rfl⟩
theorem t_ix {x y : Expr} {b : C} (ha : PE X (.Subscript x y pos) (tEv X.K k.g (.ix a b))) : PT X (.Subscript x y pos) (tTv X.K k.g (.ix a b)) := t_val ha (fun _ => rfl) fun δ S b' S' e => by
  simp only [evT] at e
  simp only [evE]
  obtain ⟨⟨d, S1⟩, e2, e3⟩ := bindS e
  obtain ⟨⟨d2, S2⟩, e4, e5⟩ := bindS e3
  obtain ⟨d3, e6, e7⟩ := bindS e5
  obtain ⟨t, e8, e9⟩ := mapS e7
  cases e9
  exact ⟨d3, by rw [e2, Option.bind_some, e4, Option.bind_some, e6]; rfl, e8⟩

/-! ### calls of defs -/
theorem run_g {f : Addr} {fd : FuncData} {ps : List Str} {lv : Nat} {sp : SpG} {pins : List (Addr × Obj)} {σ : L2.St} {H : Hp} {s : Shared} {Q : VK} {args : Args} {us : List Value} {vs : List V} (hk : KcOk X k)
    (F : FnG X.prog X.w X.K X.mg X.base lv f fd ps sp) (hr : Room lv X.A) (I : Inv X pins σ H s) (hb : BindsTo s fd args (ps.zip us)) (r : Vals vs us) (h : sp vs H Q) :
    codeAny (model X.prog X.w) X.A (.call (.ref f) args) (fun r s' => match r with
      | .ok (.ret u) => EP X pins σ Q u s'
      | .ok _ => False
      | .error e => X.xe e s') s := by
  refine codeAny_mono (F.run X.A X.stack s H args us vs Q hr hk.gd I.env0 hb r h) fun r s' hq => ?_
  cases r with
  | error e => exact hq.elim
  | ok fl =>
    cases fl with
    | ret u => exact I.after hq
    | next => exact hq.elim
    | brk => exact hq.elim
    | cont => exact hq.elim
theorem run_g' {f : Addr} {fd : FuncData} {ps : List Str} {lv : Nat} {sp : SpG} {pins : List (Addr × Obj)} {σ : L2.St} {H : Hp} {s : Shared} {Q : VK} {xs : List Value} {kw : List (Str × Value)} {us : List Value} {vs : List V} (hk : KcOk X k)
    (F : FnG X.prog X.w X.K X.mg X.base lv f fd ps sp) (hr : Room lv X.A) (I : Inv X pins σ H s) (hb : BindsTo s fd ⟨xs, kw⟩ (ps.zip us)) (r : Vals vs us) (h : sp vs H Q) :
    wpAny (model X.prog X.w) X.A (call (.ref f) xs kw) (EP X pins σ Q) X.xe s := by
  refine wpAny_call (codeAny_mono (run_g hk F hr I hb r h) fun r s' hq => ?_)
  cases r with
  | error e => exact hq
  | ok fl =>
    cases fl with
    | ret u => exact hq
    | next => exact hq.elim
    | brk => exact hq.elim
    | cont => exact hq.elim
theorem e_call (hk : KcOk X k) {f : Str} {e : Expr} {es : List Expr} {cs : List C} {p : Pos} (ha : PA X (e :: es) (tEvs X.K k.g cs)) (hp : (e :: es).all plainX = true) (hf : f ∈ k.fns) (hg : glB k.sc f = true) (hn : nmB f = true) :
    PE X (.Call (.Name f p) (e :: es) [] pos) (tEv X.K k.g (.call f cs)) := by
  obtain ⟨a, fd, ps, lv, O⟩ := hk.call f hf
  obtain ⟨h1, h2⟩ := Bool.and_eq_true_iff.mp (show (plainX e && es.all plainX) = true from hp)
  refine ⟨fun pins s σ H Q I ⟨μ, δ, S, d, S', E, R, e1, q⟩ => ?_⟩
  simp only [evE] at e1
  obtain ⟨⟨ds, S1⟩, e2, e3⟩ := bindS e1
  refine wpAny_Call_Name_kw (ld_glob I (glB_ok hk hg) O.mg ?_ (nmB_ok hn).1)
  refine PySem.W.callWith_K (h₀ := X.base) I.ok.mod.kin O.kp ?_ (star_of h1 _ _) (nostar h2 _ _)
  refine thn (ha.run pos pins s σ H _ I (evs1 E R e2 (W := fun xs H1 => spEv X.K k.g f xs H1 Q) fun xs H1 μ1 E1 R1 _ p1 => ⟨μ1, S1, ds, d, S', R1, p1, e3, q.ext E1⟩)) fun us s1 ⟨vs, H1, I1, r1, q1⟩ => ⟨I1.kIn, ?_⟩
  have hb := O.bd s1 us I1.kIn (by rw [List.append_nil, ← r1.length]; exact O.fn.len _ _ _ q1)
  rw [List.append_nil] at hb
  exact run_g' hk O.fn O.rm I1 hb r1 q1
theorem e_call0 (hk : KcOk X k) {f : Str} {p : Pos} (hf : f ∈ k.fns) (hg : glB k.sc f = true) (hn : nmB f = true) : PE X (.Call (.Name f p) [] [] pos) (tEv X.K k.g (.call f [])) := by
  obtain ⟨a, fd, ps, lv, O⟩ := hk.call f hf
  refine ⟨fun pins s σ H Q I ⟨μ, δ, S, d, S', E, R, e1, q⟩ => ?_⟩
  simp only [evE, evEs] at e1
  refine wpAny_Call_Name_kw (ld_glob I (glB_ok hk hg) O.mg ?_ (nmB_ok hn).1)
  refine PySem.W.callWith_K0 I.kIn O.kp ?_
  have q1 : spEv X.K k.g f [] H Q := ⟨μ, S, [], d, S', R, Reps.nil, e1, q⟩
  have hb := O.bd s [] I.kIn (by rw [List.append_nil]; exact O.fn.len _ _ _ q1)
  exact run_g' hk O.fn O.rm I hb .nil q1
theorem pick_ok {K : PySem.W.Frag} {μ : Mu} {H : Hp} {xs : List D} {vs : List V} {us : List Value} (h : Reps K μ H xs vs) (r : Vals vs us) : ∀ {pl : List Nat} {ds : List D}, pick xs pl = some ds → ∃ ws, Reps K μ H ds ws ∧ Vals ws (pickV us pl)
  | [], ds, e => by simp only [pick, Option.some.injEq] at e; subst e; exact ⟨[], Reps.nil, .nil⟩
  | i :: pl, ds, e => by
    simp only [pick] at e
    obtain ⟨d, e1, e2⟩ := bindS e
    obtain ⟨q, e3, e4⟩ := mapS e2
    subst e4
    obtain ⟨v, e5, p⟩ := h.get e1
    obtain ⟨u, e6, rv⟩ := r.get e5
    obtain ⟨ws, p2, r2⟩ := pick_ok h r e3
    refine ⟨v :: ws, Reps.cons p p2, ?_⟩
    show Vals (v :: ws) (us.getD i .none :: pickV us pl)
    rw [List.getD_eq_getElem?_getD, e6]
    exact .cons rv r2
theorem kw_names : ∀ (kws : List Keyword) (ks : List Str) (pos : Pos) (env : Env), kws.map (·.arg) = ks.map some →
    (backToKw pos (keywordEach kws env)).all (·.1.isSome) = true ∧ (backToKw pos (keywordEach kws env)).filterMap (·.1) = ks ∧ (backToKw pos (keywordEach kws env)).any (·.1.isNone) = false
  | [], ks, _, _, h => by cases ks with
    | nil => exact ⟨rfl, rfl, rfl⟩
    | cons _ _ => simp at h
  | ⟨nm, e, kp⟩ :: kws, ks, pos, env, h => by
    cases ks with
    | nil => simp at h
    | cons x r =>
      simp only [List.map_cons, List.cons.injEq] at h
      obtain ⟨h1, h2⟩ := h
      subst h1
      obtain ⟨q1, q2, q3⟩ := kw_names kws r pos env h2
      refine ⟨?_, ?_, ?_⟩
      · show (true && (backToKw pos (keywordEach kws env)).all (·.1.isSome)) = true
        rw [q1]; rfl
      · show x :: (backToKw pos (keywordEach kws env)).filterMap (·.1) = x :: r
        rw [q2]
      · show (false || (backToKw pos (keywordEach kws env)).any (·.1.isNone)) = false
        rw [q3]; rfl
theorem evEs_len {G : GE} : ∀ {cs : List C} {δ : En} {S S' : Sto} {ds : List D}, evEs G cs δ S = some (ds, S') → ds.length = cs.length
  | [], δ, S, S', ds, e => by simp only [evEs] at e; cases e; rfl
  | c :: cs, δ, S, S', ds, e => by
    simp only [evEs] at e
    obtain ⟨⟨d, S1⟩, e2, e3⟩ := bindS e
    obtain ⟨⟨r, S2⟩, e4, e5⟩ := mapS e3
    cases e5
    rw [List.length_cons, List.length_cons, evEs_len e4]
theorem e_callK (hk : KcOk X k) {f : Str} {es : List Expr} {kws : List Keyword} {cs ckw : List C} {ks : List Str} {p : Pos} (ha : PA X es (tEvs X.K k.g cs)) (hkw : PK X kws (tEvs X.K k.g ckw)) (hp : es.all plainX = true)
    (hks : kws.map (·.arg) = ks.map some) (hl : ks.length = ckw.length) (hE : es.length = cs.length) (hf : f ∈ k.fns) (hkl : (f, cs.length, ks) ∈ k.kwl) (hg : glB k.sc f = true) (hn : nmB f = true) :
    PE X (.Call (.Name f p) es kws pos) (tEv X.K k.g (.callK f cs ks ckw)) := by
  obtain ⟨a, fd, ps, lv, O⟩ := hk.call f hf
  obtain ⟨w1, w2, w3⟩ := kw_names kws ks pos X.env hks
  refine ⟨fun pins s σ H Q I ⟨μ, δ, S, d, S', E, R, e1, q⟩ => ?_⟩
  simp only [evE] at e1
  obtain ⟨⟨ds, S1⟩, e2, e3⟩ := bindS e1
  obtain ⟨⟨dk, S2⟩, e4, e5⟩ := bindS e3
  obtain ⟨pl, e6, e7⟩ := bindS e5
  obtain ⟨as, e8, e9⟩ := bindS e7
  have l1 := evEs_len e2
  have l2 := evEs_len e4
  obtain ⟨lp, hb⟩ := O.kw _ _ pl hkl e6
  have go : ∀ (us : List Value) (s1 : Shared) (vs : List V) (H1 : Hp) (μ1 : Mu), Inv X pins σ H1 s1 → Vals vs us → Ext μ H μ1 H1 → Rl X.K μ1 H1 S1 → RepEnv X.K μ1 H1 σ δ → Reps X.K μ1 H1 ds vs →
      wpAny (model X.prog X.w) X.A (evalAll ((backToKw pos (keywordEach kws X.env)).map (·.2))) (fun ws s₂ => X.K.In s₂.heap ∧ wpAny (model X.prog X.w) X.A (call (.ref a) ([] ++ us) (((backToKw pos (keywordEach kws X.env)).filterMap (·.1)).zip ws)) (EP X pins σ Q) X.xe s₂) X.xe s1 := by
    intro us s1 vs H1 μ1 I1 r1 E1 R1 N1 p1
    refine thn (hkw.run pos pins s1 σ H1 _ I1 (evs1 N1 R1 e4 (W := fun zs H2 => ∃ μ2, Ext μ1 H1 μ2 H2 ∧ Rl X.K μ2 H2 S2 ∧ Reps X.K μ2 H2 dk zs) fun xs H2 μ2 E2 R2 _ p2 => ⟨μ2, E2, R2, p2⟩)) fun ws s2 ⟨zs, H2, I2, r2, μ2, E2, R2, p2⟩ => ⟨I2.kIn, ?_⟩
    rw [w2]
    have pv := (p1.mono R1 E2).append p2
    obtain ⟨vv, pp, rr⟩ := pick_ok pv (r1.append r2) e8
    refine run_g' hk O.fn O.rm I2 (hb s2 us ws (by rw [← r1.length, ← p1.length, l1]) (by rw [← r2.length, ← p2.length, l2, hl])) rr ?_
    exact ⟨μ2, S2, as, d, S', R2, pp, e9, q.ext (E1.trans E2)⟩
  refine wpAny_Call_Name_kw (ld_glob I (glB_ok hk hg) O.mg ?_ (nmB_ok hn).1)
  cases es with
  | nil =>
    have ec : cs = [] := by
      cases cs with
      | nil => rfl
      | cons c cs =>
        cases hE
    subst ec
    simp only [evEs] at e2
    cases e2
    exact PySem.W.callWith_KW0 (h₀ := X.base) I.ok.mod.kin O.kp w1 (go [] s [] H μ I .nil Ext.refl R E Reps.nil) (by rw [w3]; rfl)
  | cons e es =>
    obtain ⟨h1, h2⟩ := Bool.and_eq_true_iff.mp (show (plainX e && es.all plainX) = true from hp)
    refine PySem.W.callWith_KW (h₀ := X.base) I.ok.mod.kin O.kp w1 ?_ (by rw [w3, nostar hp]; rfl) (star_of h1 _ _)
    exact thn (ha.run pos pins s σ H _ I (evs1 E R e2 (W := fun zs H2 => ∃ μ2, Ext μ H μ2 H2 ∧ Rl X.K μ2 H2 S1 ∧ RepEnv X.K μ2 H2 σ δ ∧ Reps X.K μ2 H2 ds zs) fun xs H2 μ2 E2 R2 N2 p2 => ⟨μ2, E2, R2, N2, p2⟩)) fun us s1 ⟨vs, H1, I1, r1, μ1, E1, R1, N1, p1⟩ => go us s1 vs H1 μ1 I1 r1 E1 R1 N1 p1
end
end Dn

set_option maxHeartbeats 4000000
namespace PySem.W
open PySem PySem.Calls PyProof.Rows
section
variable {prog : Program} {w : World} {A : Around} {E : Value → Shared → Prop} {s : Shared} {T : String} {r d : Addr} {n : Nat} {P : Nat → Value → Prop} {OK : Heap → Prop} {K : Type} {Q : Value → Shared → Prop}
/-- sorted of what can be collected -/
theorem sorted_src (Z : KdlSrc prog w T r d n P OK) (hh : A.handled = none) (hok : OK s.heap) (hn : n ≤ sizeLine)
    (h : ∀ (h' : Heap) (tk : Nat) (acc : Array Value), (∀ b o, s.heap.get? b = some o → h'.get? b = some o) → ItemsOf P acc n →
      wpAny (model prog w) A.in1.in1 (Builtin.«list.sort» ⟨[.ref h'.objs.size], []⟩) (fun f s' => f = .done (.ret .none) ∧ Q (.ref h'.objs.size) s') E { s with heap := h'.push (seqObj "list" acc 0), toks := tk }) :
    wpAny (model prog w) A (call (.builtin "sorted") [.ref r]) Q E s := by
  refine call_function_entry_kw kind_sorted plain_sorted entry_sorted (args_sorted1 _) ?_
  unfold Builtin.«sorted»
  refine wpAny_bind (m := checkCount "sorted" 1 1 _) (wpAny_pure ?_)
  refine wpAny_bind (kdu_collect (A := A.in1) Z hh hok hn fun h' tk acc kp it => ?_)
  have hL : acc.toList.length ≤ sizeLine := by rw [Array.length_toList, it.1]; exact hn
  refine wpAny_bind (wpAny_newList ?_ hL)
  have ea : acc.toList.toArray = acc := by simp
  show wpAny _ _ _ _ _ { s with heap := h'.push (seqObj "list" acc.toList.toArray 0), toks := tk }
  rw [ea]
  refine wpAny_bind (wpAny_holding (wpAny_call_entry_kw slot_list_sort ⟨_, Heap.get?_push_size _ rfl, rfl⟩ entry_list_sort ?body (args_list_sort _)))
  case body =>
    refine wpAny_mono (h h' tk acc kp it) (fun f s' hf => ?_) fun _ _ e => e
    obtain ⟨rfl, hq⟩ := hf
    exact ⟨_, rfl, wpAny_pure ⟨_, rfl, hq⟩⟩
end
end PySem.W

set_option maxHeartbeats 4000000
namespace Dn
open PySem PySem.Spec PyProof.Rows L2

/-! ### built-in functions -/
def rBlt (K : PySem.W.Frag) (f : String) : List V → Hp → VK → Prop := fun xs H Q => ∃ μ S ds d, Rl K μ H S ∧ Reps K μ H ds xs ∧ bltD S f ds = some d ∧ Pst K μ H S d Q
section
variable {K : PySem.W.Frag} {μ : Mu} {H : Hp} {S : Sto}
theorem reps1 {d : D} {xs : List V} (h : Reps K μ H [d] xs) : ∃ v, xs = [v] ∧ Rep K μ H d v := by
  obtain ⟨v, r, rfl, p, t⟩ := reps_cons.mp h
  rw [reps_nil.mp t]
  exact ⟨v, rfl, p⟩
theorem reps2 {d e : D} {xs : List V} (h : Reps K μ H [d, e] xs) : ∃ v u, xs = [v, u] ∧ Rep K μ H d v ∧ Rep K μ H e u := by
  obtain ⟨v, r, rfl, p, t⟩ := reps_cons.mp h
  obtain ⟨u, rfl, p2⟩ := reps1 t
  exact ⟨v, u, rfl, p, p2⟩
theorem bls_rep : ∀ {ds : List D} {bs : List Bool} {vs : List V}, blsD ds = some bs → Reps K μ H ds vs → vs = bs.map V.bl
  | [], bs, vs, e, h => by simp only [blsD, Option.some.injEq] at e; subst e; exact reps_nil.mp h
  | d :: ds, bs, vs, e, h => by
    obtain ⟨v, r, rfl, p, t⟩ := reps_cons.mp h
    cases d with
    | bl b =>
      simp only [blsD] at e
      obtain ⟨q, e1, e2⟩ := mapS e
      subst e2
      cases rep_bl p
      rw [bls_rep e1 t]; rfl
    | _ => simp only [blsD] at e; cases e
theorem ints_rep : ∀ {ds : List D} {ns : List Int} {vs : List V}, intsD ds = some ns → Reps K μ H ds vs → vs = ns.map V.int
  | [], bs, vs, e, h => by simp only [intsD, Option.some.injEq] at e; subst e; exact reps_nil.mp h
  | d :: ds, bs, vs, e, h => by
    obtain ⟨v, r, rfl, p, t⟩ := reps_cons.mp h
    cases d with
    | int b =>
      simp only [intsD] at e
      obtain ⟨q, e1, e2⟩ := mapS e
      subst e2
      cases rep_int p
      rw [ints_rep e1 t]; rfl
    | _ => simp only [intsD] at e; cases e
theorem foldl_max_ge : ∀ (r : List Int) (n y : Int), (y = n ∨ y ∈ r) → y ≤ r.foldl max n
  | [], n, y, h => by rcases h with h | h; exact Int.le_of_eq h; cases h
  | x :: r, n, y, h => by
    show y ≤ r.foldl max (max n x)
    rcases h with h | h
    · subst h
      exact Int.le_trans (Int.le_max_left _ _) (foldl_max_ge r _ _ (.inl rfl))
    · rcases List.mem_cons.mp h with h | h
      · subst h
        exact Int.le_trans (Int.le_max_right _ _) (foldl_max_ge r _ _ (.inl rfl))
      · exact foldl_max_ge r _ y (.inr h)
theorem foldl_max_mem : ∀ (r : List Int) (n : Int), r.foldl max n ∈ n :: r
  | [], n => List.mem_cons_self ..
  | x :: r, n => by
    show r.foldl max (max n x) ∈ n :: x :: r
    have h := foldl_max_mem r (max n x)
    rcases List.mem_cons.mp h with h | h
    · rw [h]
      by_cases q : n ≤ x
      · rw [Int.max_eq_right q]; exact List.mem_cons_of_mem _ (List.mem_cons_self ..)
      · rw [Int.max_eq_left (by omega)]; exact List.mem_cons_self ..
    · exact List.mem_cons_of_mem _ (List.mem_cons_of_mem _ h)
end
section
variable {X : Cx} {k : Kc}
theorem CallR.imp' {f : Value} {r r' : List V → Hp → VK → Prop} (h : CallR X f r) (i : ∀ xs H Q, r' xs H Q → r xs H Q) : CallR X f r' := fun pins s σ H xs us Q I rv q => h pins s σ H xs us Q I rv (i xs H Q q)
theorem cr_len : CallR X (.builtin "len") (rBlt X.K "len") := by
  intro pins s σ H xs us Q I rv ⟨μ, S, ds, d, R, p, e, q⟩
  simp only [bltD, ↓reduceIte] at e
  split at e
  · rename_i x
    obtain ⟨v, rfl, p1⟩ := reps1 p
    cases rep_str p1
    split at e
    · rename_i hl
      cases e
      exact call_len_str pins s σ H _ us Q I rv ⟨x, rfl, by rw [sizeL]; exact hl, q.at R mk_int⟩
    · cases e
  · obtain ⟨v, rfl, p1⟩ := reps1 p
    obtain ⟨ys, e1, e2⟩ := mapS e
    subst e2
    obtain ⟨a, vs, rfl, h1, h2⟩ := rep_items R e1 p1
    exact call_len_seq pins s σ H _ us Q I rv ⟨a, vs, rfl, h1, by rw [← h2.length]; exact q.at R mk_int⟩
  · cases e
theorem cr_abs : CallR X (.builtin "abs") (rBlt X.K "abs") := by
  intro pins s σ H xs us Q I rv ⟨μ, S, ds, d, R, p, e, q⟩
  simp only [bltD, String.reduceEq, ↓reduceIte] at e
  split at e
  · obtain ⟨v, rfl, p1⟩ := reps1 p
    cases rep_int p1
    cases e
    exact call_abs pins s σ H _ us Q I rv ⟨_, rfl, q.at R mk_int⟩
  · cases e
theorem cr_int : CallR X (.type "int") (rBlt X.K "int") := by
  intro pins s σ H xs us Q I rv ⟨μ, S, ds, d, R, p, e, q⟩
  simp only [bltD, String.reduceEq, ↓reduceIte] at e
  split at e
  · obtain ⟨v, rfl, p1⟩ := reps1 p
    cases rep_int p1
    cases e
    exact call_int1 pins s σ H _ us Q I rv (.inl ⟨_, rfl, q.at R mk_int⟩)
  · obtain ⟨v, rfl, p1⟩ := reps1 p
    cases rep_bl p1
    cases e
    exact call_int1 pins s σ H _ us Q I rv (.inr ⟨_, rfl, q.at R mk_int⟩)
  · cases e
theorem cr_allD (hk : KcOk X k) : CallR X (.builtin "all") (rBlt X.K "all") := by
  intro pins s σ H xs us Q I rv ⟨μ, S, ds, d, R, p, e, q⟩
  simp only [bltD, String.reduceEq, ↓reduceIte] at e
  split at e
  · obtain ⟨v, rfl, p1⟩ := reps1 p
    obtain ⟨ys, e1, e2⟩ := bindS e
    obtain ⟨bs, e3, e4⟩ := mapS e2
    subst e4
    obtain ⟨a, vs, rfl, h1, h2⟩ := rep_litems R e1 p1
    rw [bls_rep e3 h2] at h1
    exact cr_all hk.calm pins s σ H _ us Q I rv ⟨a, bs, rfl, h1, q.at R mk_bl⟩
  · cases e
theorem cr_anyD (hk : KcOk X k) : CallR X (.builtin "any") (rBlt X.K "any") := by
  intro pins s σ H xs us Q I rv ⟨μ, S, ds, d, R, p, e, q⟩
  simp only [bltD, String.reduceEq, ↓reduceIte] at e
  split at e
  · obtain ⟨v, rfl, p1⟩ := reps1 p
    obtain ⟨ys, e1, e2⟩ := bindS e
    obtain ⟨bs, e3, e4⟩ := mapS e2
    subst e4
    obtain ⟨a, vs, rfl, h1, h2⟩ := rep_litems R e1 p1
    rw [bls_rep e3 h2] at h1
    exact cr_any hk.calm pins s σ H _ us Q I rv ⟨a, bs, rfl, h1, q.at R mk_bl⟩
  · cases e
theorem cr_tuple : CallR X (.type "tuple") (rBlt X.K "tuple") := by
  intro pins s σ H xs us Q I rv ⟨μ, S, ds, d, R, p, e, q⟩
  simp only [bltD, String.reduceEq, ↓reduceIte] at e
  split at e
  · obtain ⟨v, rfl, p1⟩ := reps1 p
    obtain ⟨ys, e1, e2⟩ := mapS e
    subst e2
    obtain ⟨a, vs, rfl, h1, h2⟩ := rep_items R e1 p1
    refine call_tuple_of pins s σ H _ us Q I rv ⟨a, vs, rfl, ?_⟩
    rcases h1 with h1 | h1
    · exact .inl ⟨h1, fun l hl => q.new R hl (mk_tup (SqT.of upd_same) (h2.mono R (Ext.new hl)))⟩
    · exact .inr ⟨h1, q.at R (mk_tup h1 h2)⟩
  · cases e
theorem cr_list : CallR X (.type "list") (rBlt X.K "list") := by
  intro pins s σ H xs us Q I rv ⟨μ, S, ds, d, R, p, e, q⟩
  simp only [bltD, String.reduceEq, ↓reduceIte] at e
  split at e
  · obtain ⟨v, rfl, p1⟩ := reps1 p
    obtain ⟨ys, e1, e2⟩ := mapS e
    subst e2
    obtain ⟨a, vs, rfl, h1, h2⟩ := rep_items R e1 p1
    exact call_list_of pins s σ H _ us Q I rv ⟨a, vs, rfl, h1, fun l hl => q.new R hl (mk_lst (R.fz hl) upd_same (h2.mono R (Ext.new hl)))⟩
  · cases e
theorem cr_divmod : CallR X (.builtin "divmod") (rBlt X.K "divmod") := by
  intro pins s σ H xs us Q I rv ⟨μ, S, ds, d, R, p, e, q⟩
  simp only [bltD, String.reduceEq, ↓reduceIte] at e
  split at e
  · obtain ⟨v, u, rfl, p1, p2⟩ := reps2 p
    cases rep_int p1
    cases rep_int p2
    split at e
    · rename_i hc
      cases e
      exact call_divmod pins s σ H _ us Q I rv ⟨_, _, rfl, hc, fun l hl => q.new R hl (mk_tup (SqT.of upd_same) (Reps.cons mk_int (Reps.cons mk_int Reps.nil)))⟩
    · cases e
  · cases e
theorem cr_minD (hk : KcOk X k) : CallR X (.builtin "min") (rBlt X.K "min") := by
  intro pins s σ H xs us Q I rv ⟨μ, S, ds, d, R, p, e, q⟩
  simp only [bltD, String.reduceEq, ↓reduceIte] at e
  split at e
  · obtain ⟨v, u, rfl, p1, p2⟩ := reps2 p
    cases rep_int p1
    cases rep_int p2
    cases e
    exact call_min2 hk.calm pins s σ H _ us Q I rv ⟨_, _, rfl, q.at R mk_int⟩
  · cases e
theorem cr_maxD (hk : KcOk X k) : CallR X (.builtin "max") (rBlt X.K "max") := by
  intro pins s σ H xs us Q I rv ⟨μ, S, ds, d, R, p, e, q⟩
  simp only [bltD, String.reduceEq, ↓reduceIte] at e
  split at e
  · obtain ⟨v, u, rfl, p1, p2⟩ := reps2 p
    cases rep_int p1
    cases rep_int p2
    cases e
    exact call_max2 hk.calm pins s σ H _ us Q I rv ⟨_, _, rfl, q.at R mk_int⟩
  · obtain ⟨v, rfl, p1⟩ := reps1 p
    obtain ⟨ys, e1, e2⟩ := bindS e
    obtain ⟨ns, e3, e4⟩ := bindS e2
    obtain ⟨a, vs, rfl, h1, h2⟩ := rep_litems R e1 p1
    rw [ints_rep e3 h2] at h1
    cases ns with
    | nil => cases e4
    | cons n r =>
      cases e4
      refine cr_max hk.calm pins s σ H _ us Q I rv ⟨a, n :: r, rfl, h1, by simp, fun m hm hy => ?_⟩
      have e5 : m = r.foldl max n := Int.le_antisymm (foldl_max_ge r n m (List.mem_cons.mp hm)) (hy _ (foldl_max_mem r n))
      rw [e5]
      exact q.at R mk_int
  · cases e
theorem cr_gcdD : CallR X (.builtin "math.gcd") (rBlt X.K "gcd") := by
  intro pins s σ H xs us Q I rv ⟨μ, S, ds, d, R, p, e, q⟩
  simp only [bltD, String.reduceEq, ↓reduceIte] at e
  split at e
  · obtain ⟨v, u, rfl, p1, p2⟩ := reps2 p
    cases rep_int p1
    cases rep_int p2
    cases e
    exact cr_gcd pins s σ H _ us Q I rv ⟨_, _, rfl, q.at R mk_int⟩
  · cases e
/-! repr of data, dicts too -/
theorem keys_read {P : Program} {w : World} {h : Heap} : ∀ {es : List DictEntry} {kvs : List (Key × Value)}, Pairs (mixKind P w) es kvs → ReadsAll h (es.map (·.key)) (kvs.map fun q => kP q.1) []
  | _, _, .nil => .nil
  | e :: es, (kk, v) :: kvs, .cons h1 h2 t => by
    have r := keys_read (h := h) t
    rcases keyIs_shape (show keyIs kk e.key = true from h1) with ⟨i, tk, ek, ev⟩ | ⟨x, tk, ek, ev⟩
    · subst ek
      show ReadsAll h (e.key :: es.map (·.key)) (PyData.int i :: kvs.map fun q => kP q.1) ([] ++ [])
      rw [ev]
      exact .cons (.int i tk) r
    · subst ek
      show ReadsAll h (e.key :: es.map (·.key)) (PyData.str x :: kvs.map fun q => kP q.1) ([] ++ [])
      rw [ev]
      exact .cons (.str x tk) r
theorem vals_read {P : Program} {w : World} : ∀ {es : List DictEntry} {kvs : List (Key × Value)}, Pairs (mixKind P w) es kvs → es.map (·.val) = kvs.map (·.2)
  | _, _, .nil => rfl
  | e :: es, (kk, v) :: kvs, .cons h1 h2 t => by
    rw [List.map_cons, List.map_cons, vals_read t, h2]
theorem kv_split : ∀ {ks : List Key} {vs : List V} {rs : List (Key × Value)}, ks.length = vs.length → KV (ks.zip vs) rs → (rs.map fun q => kP q.1) = ks.map kP ∧ Vals vs (rs.map (·.2))
  | [], [], rs, _, h => by
    cases h
    exact ⟨rfl, .nil⟩
  | kk :: ks, v :: vs, rs, l, h => by
    cases h with
    | cons a b =>
      obtain ⟨h1, h2⟩ := kv_split (by simpa using l) b
      refine ⟨?_, .cons a.2 h2⟩
      rw [List.map_cons, List.map_cons, h1, ← a.1]
  | [], v :: vs, rs, l, h => by cases l
  | kk :: ks, [], rs, l, h => by cases l
theorem rps_len : ∀ {ds : List D} {ps : List PyData}, rps ds = some ps → ps.length = ds.length
  | [], ps, e => by simp only [rps, Option.some.injEq] at e; subst e; rfl
  | d :: ds, ps, e => by
    simp only [rps] at e
    obtain ⟨p, e1, e2⟩ := bindS e
    obtain ⟨r, e3, rfl⟩ := mapS e2
    rw [List.length_cons, List.length_cons, rps_len e3]
section
variable {pins : List (Addr × Obj)} {σ : L2.St} {H : Hp} {s : Shared} {μ : Mu}
theorem list_sys (hy : ∃ o, X.K.lookup sysModules = some o ∧ o.cls = .type "dict") (I : Inv X pins σ H s) {a : Addr} {o : Obj} (ho : s.heap.get? a = some o) (hc : o.cls = .type "list") : sysModules ≠ a := by
  intro q
  obtain ⟨o2, l, c⟩ := hy
  have w := I.kIn _ _ l
  rw [q, ho] at w
  cases w
  rw [hc] at c
  injection c with c
  exact absurd c (by decide)
mutual
theorem rd_of (hy : ∃ o, X.K.lookup sysModules = some o ∧ o.cls = .type "dict") (I : Inv X pins σ H s) : ∀ {d : D} {p : PyData} {v : V} {u : Value}, rp d = some p → Rep X.K μ H d v → RelV v u → ∃ as, Reads s.heap u p as ∧ sysModules ∉ as
  | .non, p, v, u, e, h, r => by simp only [rp, Option.some.injEq] at e; subst e; cases rep_non h; cases r; exact ⟨_, .none, by simp⟩
  | .bl b, p, v, u, e, h, r => by simp only [rp, Option.some.injEq] at e; subst e; cases rep_bl h; cases r; exact ⟨_, .bool b, by simp⟩
  | .int i, p, v, u, e, h, r => by simp only [rp, Option.some.injEq] at e; subst e; cases rep_int h; obtain ⟨t, rfl⟩ := r; exact ⟨_, .int i t, by simp⟩
  | .str x, p, v, u, e, h, r => by simp only [rp, Option.some.injEq] at e; subst e; cases rep_str h; obtain ⟨t, rfl⟩ := r; exact ⟨_, .str x t, by simp⟩
  | .tup ds, p, v, u, e, h, r => by
    simp only [rp] at e
    obtain ⟨ps, e1, rfl⟩ := mapS e
    obtain ⟨a, vs, rfl, h1, h2⟩ := rep_tup h
    cases r
    obtain ⟨its, rv, ⟨o, ho, hc, n, hd⟩, _⟩ := I.tuple h1
    obtain ⟨as, hr, hn⟩ := rds_of hy I e1 h2 rv
    exact ⟨_, .tuple ho hc hd hr, hn⟩
  | .lst ds, p, v, u, e, h, r => by
    simp only [rp] at e
    obtain ⟨ps, e1, rfl⟩ := mapS e
    simp only [Rep] at h
    obtain ⟨a, vs, rfl, _, h1, h2⟩ := h
    cases r
    obtain ⟨its, rv, ⟨o, n, ho, hc, _, hd⟩, _⟩ := I.list (SqL.of h1)
    obtain ⟨as, hr, hn⟩ := rds_of hy I e1 h2 rv
    refine ⟨_, .list ho hc hd hr, fun q => ?_⟩
    rcases List.mem_cons.mp q with q | q
    · exact list_sys hy I ho hc q
    · exact hn q
  | .scr ds, p, v, u, e, h, r => by
    simp only [rp] at e
    obtain ⟨ps, e1, rfl⟩ := mapS e
    simp only [Rep] at h
    obtain ⟨a, vs, rfl, h1, h2⟩ := h
    cases r
    obtain ⟨its, rv, ⟨o, n, ho, hc, _, hd⟩, _⟩ := I.list h1.sql
    obtain ⟨as, hr, hn⟩ := rds_of hy I e1 h2 rv
    refine ⟨_, .list ho hc hd hr, fun q => ?_⟩
    rcases List.mem_cons.mp q with q | q
    · exact list_sys hy I ho hc q
    · exact hn q
  | .dic ks ds, p, v, u, e, h, r => by
    simp only [rp] at e
    obtain ⟨ps, e1, rfl⟩ := mapS e
    simp only [Rep] at h
    obtain ⟨a, vs, rfl, _, hl, h1, h2⟩ := h
    cases r
    obtain ⟨_, hs, rs, kv, o, es, ep, ho, hx, hd, _, hp, _⟩ := I.hok a _ h1
    obtain ⟨k1, v1⟩ := kv_split hl kv
    obtain ⟨as, hr, hn⟩ := rds_of hy I e1 h2 v1
    have l1 := rps_len e1
    have l2 := h2.length
    refine ⟨_, Reads.dict (kvs := (ks.map kP).zip ps) (as := []) (bs := as) ho hx.1 hd ?_ ?_, fun q => ?_⟩
    · rw [List.map_fst_zip (by rw [List.length_map]; omega), ← k1]
      exact keys_read hp
    · rw [List.map_snd_zip (by rw [List.length_map]; omega), vals_read hp]
      exact hr
    · rcases List.mem_cons.mp q with q | q
      · rw [q, beq_self_eq_true] at hs
        cases hs
      · exact hn q
  | .ref _, p, v, u, e, h, r => by simp only [rp] at e; cases e
  | .exc _ _ _, p, v, u, e, h, r => by simp only [rp] at e; cases e
  | .rfd _, p, v, u, e, h, r => by simp only [rp] at e; cases e
  | .ntup _, p, v, u, e, h, r => by simp only [rp] at e; cases e
theorem rds_of (hy : ∃ o, X.K.lookup sysModules = some o ∧ o.cls = .type "dict") (I : Inv X pins σ H s) : ∀ {ds : List D} {ps : List PyData} {vs : List V} {us : List Value}, rps ds = some ps → Reps X.K μ H ds vs → Vals vs us → ∃ as, ReadsAll s.heap us ps as ∧ sysModules ∉ as
  | [], ps, vs, us, e, h, r => by
    simp only [rps, Option.some.injEq] at e; subst e
    rw [reps_nil.mp h] at r
    cases r
    exact ⟨_, .nil, by simp⟩
  | d :: ds, ps, vs, us, e, h, r => by
    simp only [rps] at e
    obtain ⟨p, e1, e2⟩ := bindS e
    obtain ⟨rr, e3, rfl⟩ := mapS e2
    obtain ⟨v, vr, rfl, h1, h2⟩ := reps_cons.mp h
    cases r with
    | cons r1 r2 =>
      obtain ⟨as, q1, n1⟩ := rd_of hy I e1 h1 r1
      obtain ⟨bs, q2, n2⟩ := rds_of hy I e3 h2 r2
      exact ⟨_, .cons q1 q2, fun z => (List.mem_append.mp z).elim n1 n2⟩
end
theorem rd_dr (hy : ∃ o, X.K.lookup sysModules = some o ∧ o.cls = .type "dict") (I : Inv X pins σ H s) {S : Sto} (R : Rl X.K μ H S) {d : D} {p : PyData} {v : V} {u : Value} (e : rp (dr S d) = some p) (h : Rep X.K μ H d v) (r : RelV v u) : ∃ as, Reads s.heap u p as ∧ sysModules ∉ as := by
  cases d with
  | ref n =>
    cases q : S[n]? with
    | none => simp only [dr, q] at e; simp only [rp] at e; cases e
    | some mo =>
      have e1 : dr S (.ref n) = .lst mo.xs := by simp only [dr, q]
      obtain ⟨a, vs, rfl, h1, h2⟩ := rep_lst R e1 h
      rw [e1] at e
      simp only [rp] at e
      obtain ⟨ps, e2, rfl⟩ := mapS e
      cases r
      obtain ⟨its, rv, ⟨o, n, ho, hc, _, hd⟩, _⟩ := I.list (SqL.of h1)
      obtain ⟨as, hr, hn⟩ := rds_of hy I e2 h2 rv
      refine ⟨_, .list ho hc hd hr, fun q => ?_⟩
      rcases List.mem_cons.mp q with q | q
      · exact list_sys hy I ho hc q
      · exact hn q
  | _ => exact rd_of hy I (by simpa only [dr] using e) h r
end
theorem cr_repr (hk : KcOk X k) : CallR X (.builtin "repr") (rBlt X.K "repr") := by
  intro pins s σ H xs us Q I rv ⟨μ, S, ds, d, R, p, e, q⟩
  simp only [bltD, String.reduceEq, ↓reduceIte] at e
  split at e
  · obtain ⟨v, rfl, p1⟩ := reps1 p
    obtain ⟨pdt, e1, e2⟩ := bindS e
    split at e2
    · rename_i hc
      cases e2
      simp only [Bool.and_eq_true, decide_eq_true_eq] at hc
      obtain ⟨⟨c1, c3⟩, c4⟩ := hc
      obtain ⟨u, rfl, rx⟩ := vals1 rv
      obtain ⟨as, rdd, hn⟩ := rd_dr hk.sys I R e1 p1 rx
      have hu := hk.hu
      have fin : ∀ a, u = .ref a → wpAny (model X.prog X.w) X.A (call (.builtin "repr") [u]) (EP X pins σ Q) X.xe s := fun a ea => by
        subst ea
        exact repr_of_reads' rdd c1 (fun _ => hn) hk.gd (by omega) (fun _ _ e => e) (fun h' u tk hk' => ⟨.str _, H, I.kept hk', ⟨_, rfl⟩, q.at R mk_str⟩) (by rw [sizeL]; exact c4)
      cases rdd with
      | none =>
        refine PySem.P.repr_of_none ⟨.str _, H, I.tok _, ⟨_, rfl⟩, ?_⟩
        have := q.at R mk_str
        simpa only [PyData.shown] using this
      | bool b =>
        refine PySem.P.repr_of_bool ⟨.str _, H, I.tok _, ⟨_, rfl⟩, ?_⟩
        have := q.at R mk_str
        cases b <;> simpa only [PyData.shown] using this
      | int i t =>
        refine PySem.P.repr_of_int (by simpa [PyData.showable] using c1) ⟨.str _, H, I.tok _, ⟨_, rfl⟩, ?_⟩
        have := q.at R mk_str
        simpa only [PyData.shown] using this
      | str z t =>
        refine PySem.P.repr_of_str ⟨.str _, H, I.tok _, ⟨_, rfl⟩, ?_⟩ (by rw [sizeL]; simpa only [PyData.shown] using c4)
        have := q.at R mk_str
        simpa only [PyData.shown] using this
      | list _ _ _ _ => exact fin _ rfl
      | tuple _ _ _ _ => exact fin _ rfl
      | dict _ _ _ _ _ => exact fin _ rfl
    · cases e2
  · cases e
theorem cr_str : CallR X (.type "str") (rBlt X.K "str") := by
  intro pins s σ H xs us Q I rv ⟨μ, S, ds, d, R, p, e, q⟩
  simp only [bltD, String.reduceEq, ↓reduceIte] at e
  split at e
  · obtain ⟨v, rfl, p1⟩ := reps1 p
    cases rep_int p1
    split at e
    · rename_i hz
      cases e
      exact call_str_int pins s σ H _ us Q I rv ⟨_, rfl, hz, q.at R mk_str⟩
    · cases e
  · obtain ⟨v, rfl, p1⟩ := reps1 p
    cases rep_str p1
    cases e
    exact SkE.call_str_str pins s σ H _ us Q I rv ⟨_, rfl, q.at R mk_str⟩
  · obtain ⟨v, rfl, p1⟩ := reps1 p
    cases rep_bl p1
    cases e
    obtain ⟨u, rfl, r1⟩ := vals1 rv
    cases r1
    exact PySem.P.str_of_bool ⟨.str _, H, I.tok _, ⟨_, rfl⟩, q.at R mk_str⟩
  · cases e
theorem cr_sumD (hk : KcOk X k) : CallR X (.builtin "sum") (rBlt X.K "sum") := by
  intro pins s σ H xs us Q I rv ⟨μ, S, ds, d, R, p, e, q⟩
  simp only [bltD, String.reduceEq, ↓reduceIte] at e
  split at e
  · obtain ⟨v, rfl, p1⟩ := reps1 p
    obtain ⟨ys, e1, e2⟩ := bindS e
    obtain ⟨ns, e3, e4⟩ := mapS e2
    subst e4
    obtain ⟨a, vs, rfl, h1, h2⟩ := rep_litems R e1 p1
    rw [ints_rep e3 h2] at h1
    exact cr_sum hk.calm pins s σ H _ us Q I rv ⟨a, ns, rfl, h1, q.at R mk_int⟩
  · cases e
/-! sorted -/
theorem tupC_is {p : PyData} (h : tupC p = true) : ∃ x r, p = .tuple (x :: r) := by
  cases p with
  | tuple xs =>
    cases xs with
    | nil => cases h
    | cons x r => exact ⟨x, r, rfl⟩
  | _ => cases h
theorem atomC_is {p : PyData} (h : atomC p = true) : p ≠ .none ∧ ∀ xs, p ≠ .tuple xs := by
  cases p <;> first | (cases h; done) | exact ⟨fun q => (by cases q), fun xs q => (by cases q)⟩
theorem srtOk_is {ps : List PyData} (h : srtOk ps = true) : PySem.W.AllAlike ps ∧ PySem.W.Sortable ps ∧ ∀ p ∈ ps, p.depth ≤ 48 := by
  unfold srtOk at h
  obtain ⟨h12, h3⟩ := Bool.and_eq_true_iff.mp h
  obtain ⟨h1, h2⟩ := Bool.and_eq_true_iff.mp h12
  refine ⟨fun d hd d' hd' => List.all_eq_true.mp (List.all_eq_true.mp h1 d hd) d' hd', ?_, fun p hp => of_decide_eq_true (List.all_eq_true.mp h3 p hp)⟩
  rcases Bool.or_eq_true_iff.mp h2 with h2 | h2
  · exact .inl fun d hd => tupC_is (List.all_eq_true.mp h2 d hd)
  · exact .inr fun d hd => atomC_is (List.all_eq_true.mp h2 d hd)
theorem each_of {K : PySem.W.Frag} {μ : Mu} {H : Hp} {P : Value → PyData → Prop} {ps0 : List PyData} : ∀ {ds : List D} {ps : List PyData} {vs : List V} {us : List Value}, pds ds = some ps → (∀ p ∈ ps, p ∈ ps0) → Reps K μ H ds vs → Vals vs us → PySem.W.EachIs P us ps →
    PySem.W.EachIs (fun u d => (∃ v, Rep K μ H d v ∧ RelV v u) ∧ ∃ p ∈ ps0, pd d = some p ∧ P u p) us ds
  | [], ps, vs, us, e, _, r, rv, ea => by
    rw [reps_nil.mp r] at rv
    cases rv
    exact .nil
  | d :: ds, ps, vs, us, e, hm, r, rv, ea => by
    simp only [pds] at e
    obtain ⟨p, e1, e2⟩ := bindS e
    obtain ⟨rs, e3, e4⟩ := mapS e2
    subst e4
    obtain ⟨v, vr, rfl, r1, r2⟩ := reps_cons.mp r
    cases rv with
    | cons a1 a2 =>
      cases ea with
      | cons b1 b2 => exact .cons ⟨⟨v, r1, a1⟩, p, hm p (List.mem_cons_self ..), e1, b1⟩ (each_of e3 (fun q hq => hm q (List.mem_cons_of_mem _ hq)) r2 a2 b2)
theorem reads_each {h : Heap} : ∀ {us : List Value} {ps : List PyData} {as : List Addr}, ReadsAll h us ps as → PySem.W.EachIs (fun v d => ∃ as, Reads h v d as) us ps
  | _, _, _, .nil => .nil
  | _, _, _, .cons a b => .cons ⟨_, a⟩ (reads_each b)
theorem each_vals {K : PySem.W.Frag} {μ : Mu} {H : Hp} : ∀ {us : List Value} {ds : List D}, PySem.W.EachIs (fun u d => (∃ v, Rep K μ H d v ∧ RelV v u)) us ds → ∃ vs, Reps K μ H ds vs ∧ Vals vs us
  | _, _, .nil => ⟨[], Reps.nil, .nil⟩
  | _, _, .cons ⟨v, a, b⟩ t => by
    obtain ⟨vs, r, q⟩ := each_vals t
    exact ⟨v :: vs, Reps.cons a r, .cons b q⟩
theorem srt_core (hk : KcOk X k) {pins : List (Addr × Obj)} {σ : L2.St} {H : Hp} {s : Shared} {μ : Mu} {S : Sto} {Q : VK} {ds : List D} {ps : List PyData} {vs : List V} {its : List Value} (I : Inv X pins σ H s) (R : Rl X.K μ H S) (e3 : pds ds = some ps) (c : srtOk ps = true)
    (h2 : Reps X.K μ H ds vs) (rvs : Vals vs its) (hL : its.length ≤ sizeLine) (q : Pst X.K μ H S (.lst (srtD ds)) Q) {hp : Heap} {a : Addr} {tk : Nat} (kp : ∀ b o, s.heap.get? b = some o → hp.get? b = some o) (ha : s.heap.objs.size ≤ a) (ho : hp.get? a = some (PyProof.Rows.seqObj "list" its.toArray 0))
    (E : Value → Shared → Prop) : wpAny (model X.prog X.w) X.A.in1.in1 (Builtin.«list.sort» ⟨[.ref a], []⟩) (fun f s' => f = .done (.ret .none) ∧ EP X pins σ Q (.ref a) s') E { s with heap := hp, toks := tk } := by
  obtain ⟨c1, c2, c3⟩ := srtOk_is c
  obtain ⟨as, rd⟩ := Dp.readsAll I ps vs its (dps_of e3 h2) rvs
  have hu := hk.hu
  have ne : ∀ {b : Addr} {o : Obj}, s.heap.get? b = some o → b ≠ a := fun {b o} z w => by
    have h1 := Heap.lt_size z
    rw [w] at h1
    exact absurd h1 (Nat.not_lt.mpr ha)
  have ea : PySem.W.EachIs (fun v d => ∃ as, Reads (PySem.W.sortingHeap hp a its) v d as) its ps := reads_each (PyProof.Rows.ReadsAll.keeps (h := s.heap) (fun b o z => PySem.W.sortingHeap_old (ne z) (kp b o z)) rd)
  refine PySem.W.list_sort_vals (s := { s with heap := hp, toks := tk }) (κ := PySem.W.dataKind (PySem.W.sortingHeap hp a its) ps) ho (PySem.W.SortsAt.data (s := { s with heap := PySem.W.sortingHeap hp a its, toks := tk }) ea c1 c2 fun d hd => ?_) hL ⟨rfl, ?_⟩
  · have := c3 d hd
    show X.A.units + 1 + 1 + d.depth < cLine
    omega
  · have eb := each_of (ps0 := ps) e3 (fun _ z => z) h2 rvs ea
    have ek : PySem.W.EachIs (fun v b => (PySem.W.dataKind (PySem.W.sortingHeap hp a its) ps).keyOf v = some (kD b)) its ds := eb.mono fun u d ⟨_, p, hp, e5, as, r5⟩ => by
      rw [PySem.W.dataKind_some c1 hp r5]
      unfold kD
      rw [e5]
    have eo := PySem.W.sortVals_each (κ := PySem.W.dataKind (PySem.W.sortingHeap hp a its) ps) (rev := false) kD (eb.mono fun u d z => z.1) ek
    obtain ⟨vo, ro, rvo⟩ := each_vals eo
    have hlen : vo.length ≤ sizeLine := by
      rw [rvo.length, PySem.W.sortVals_length _ rfl]
      exact hL
    obtain ⟨ep, he'⟩ := PyProof.Rows.sortedHeap_at (out := (PySem.W.sortVals (PySem.W.dataKind (PySem.W.sortingHeap hp a its) ps) false its its).toArray) ho
    have hf := I.hok.fresh ha
    exact ⟨.ref _, upd H a (.lst vo), I.laid (t' := tk) (fun b o z => (PyProof.Rows.sortedHeap_old (ne z) (Heap.lt_size (kp b o z))).trans (kp b o z)) ha ⟨hlen, _, ep, rvo, he'⟩, rfl, q.new R hf (mk_lst (R.fz hf) upd_same (ro.mono R (Ext.new hf)))⟩
theorem keyOf_rep {K : PySem.W.Frag} {μ : Mu} {H : Hp} : ∀ {q : List Key}, Reps K μ H (keyOf q) (q.map kV)
  | [] => by simp only [keyOf, List.map_nil]; exact Reps.nil
  | .inl i :: r => by simp only [keyOf, List.map_cons]; exact Reps.cons mk_int keyOf_rep
  | .inr x :: r => by simp only [keyOf, List.map_cons]; exact Reps.cons mk_str keyOf_rep
theorem keys_rep {K : PySem.W.Frag} {μ : Mu} {H : Hp} : ∀ {ks : List (List Key)} {vs : List V} {bs : List Addr}, ks.length = vs.length → IsKeys H (ks.zip vs) bs → Reps K μ H (ks.map fun q => D.tup (keyOf q)) (bs.map V.ref)
  | [], [], bs, _, h => by cases h; exact Reps.nil
  | q :: ks, v :: vs, bs, l, h => by
    cases h with
    | cons a b =>
      rw [List.map_cons, List.map_cons]
      exact Reps.cons (mk_tup (SqT.of a) keyOf_rep) (keys_rep (by simpa using l) b)
  | [], v :: vs, bs, l, h => by cases l
  | q :: ks, [], bs, l, h => by cases l
theorem cr_sortedD (hk : KcOk X k) : CallR X (.builtin "sorted") (rBlt X.K "sorted") := by
  intro pins s σ H xs us Q I rv ⟨μ, S, ds, d, R, p, e, q⟩
  simp only [bltD, String.reduceEq, ↓reduceIte] at e
  split at e
  · rename_i kk
    obtain ⟨v, rfl, p1⟩ := reps1 p
    split at e
    · rename_i kp ks ys eS
      obtain ⟨ps, e3, e4⟩ := bindS e
      split at e4
      · rename_i c
        cases e4
        simp only [Rep] at p1
        obtain ⟨a, rfl, hka, _⟩ := p1
        obtain ⟨vs, hl, hT, _⟩ := R.at_ kk _ a eS hka
        obtain ⟨z, hs, kxs, pr, o, es, ep, ho, hx, hdt, he, hn⟩ := (show ObjOk X.prog X.w H s.heap a (.dT (ks.zip vs)) from I.hok a _ hT)
        rw [Vals.ref1 rv]
        have l1 : es.size = kxs.length := size_of_entries he
        have l2 : (ks.zip vs).length = kxs.length := Paired.length pr
        have hz : es.size ≤ sizeLine := by rw [l1, ← l2]; exact z
        refine PySem.W.sorted_src (kdl_raw hs hx hdt) (I.ok.hd hk.calm) ho hz fun h' tk acc kp' it => ?_
        have eacc : acc.toList = (kxs.map fun x => x.2.1).map Value.ref := by
          have hl2 : acc.toList.length = kxs.length := by rw [Array.length_toList, it.1]; exact l1
          apply List.ext_getElem?
          intro j
          rw [List.map_map, List.getElem?_map]
          cases hj : acc.toList[j]? with
          | none =>
            have h1 := List.getElem?_eq_none_iff.mp hj
            rw [List.getElem?_eq_none (by omega)]
            rfl
          | some u =>
            obtain ⟨en, h3, h4⟩ := it.2 j u (by rw [← Array.getElem?_toList]; exact hj)
            have h5 := entry_at he j
            rw [h3] at h5
            cases h6 : kxs[j]? with
            | none => rw [h6] at h5; cases h5
            | some y =>
              rw [h6] at h5
              have h7 : en = entryOfKey (tupleKind (mixKind X.prog X.w)) y := Option.some.inj h5
              rw [h4, h7]
              rfl
        have I1 : Inv X pins σ H { s with heap := h', toks := tk } := I.kept kp'
        have rk := keys_rep (K := X.K) (μ := μ) hl (isKeys_of pr)
        have rvs := vals_refs (kxs.map fun x => x.2.1)
        rw [← eacc] at rvs
        have eaa : acc.toList.toArray = acc := by simp
        exact srt_core hk (s := { s with heap := h', toks := tk }) (hp := h'.push (PyProof.Rows.seqObj "list" acc 0)) (a := h'.objs.size) (tk := tk) I1 R e3 c rk rvs (by rw [Array.length_toList, it.1]; exact hz) q (fun b o e => Heap.get?_push_of_some _ e) (Nat.le_refl _) (by rw [eaa]; exact Heap.get?_push_size _ rfl) _
      · cases e4
    · cases e
  · obtain ⟨v, rfl, p1⟩ := reps1 p
    obtain ⟨ys, e1, e2⟩ := bindS e
    obtain ⟨ps, e3, e4⟩ := bindS e2
    split at e4
    · rename_i c
      cases e4
      obtain ⟨a, vs, rfl, h1, h2⟩ := rep_litems R e1 p1
      obtain ⟨its, rvs, hl, hz⟩ := I.list h1
      rw [Vals.ref1 rv]
      have hL : its.length ≤ sizeLine := by rw [← rvs.length]; exact hz
      exact PySem.W.sorted_of_sort hl.isList hL (args_sorted1 _) (fun _ => args_list_sort _) fun E' => srt_core hk (tk := s.toks) I R e3 c h2 rvs hL q (fun b o z => PySem.W.copyHeap_old z) (Nat.le_succ _) (PySem.W.copyHeap_at s.heap its) E'
    · cases e4
  · cases e
/-- the value of a built-in name -/
inductive BV where
  | fn (id : String) | ty (T : String)
def bltT : List (String × BV) := [("len", .fn "len"), ("abs", .fn "abs"), ("int", .ty "int"), ("all", .fn "all"), ("any", .fn "any"), ("tuple", .ty "tuple"), ("list", .ty "list"), ("divmod", .fn "divmod"), ("min", .fn "min"), ("max", .fn "max"), ("repr", .fn "repr"), ("str", .ty "str"), ("sum", .fn "sum"), ("sorted", .fn "sorted")]
def bltV (f : String) : Option BV := bltT.lookup f
theorem lookup_memS {α : Type} {x : String} {d : α} : ∀ {l : List (String × α)}, l.lookup x = some d → (x, d) ∈ l
  | [], h => by cases h
  | (y, e) :: l, h => by
    rw [List.lookup_cons] at h
    split at h
    · rename_i q
      cases h
      rw [eq_of_beq q]
      exact List.mem_cons_self ..
    · exact List.mem_cons_of_mem _ (lookup_memS h)
theorem bltV_ok (hk : KcOk X k) {f : String} {b : BV} (h : bltV f = some b) : match b with
    | .fn id => bootBuiltins (Str.ofString f) = some (.builtin id) ∧ CallR X (.builtin id) (rBlt X.K f)
    | .ty T => bootBuiltins (Str.ofString f) = some (.type T) ∧ CallR X (.type T) (rBlt X.K f) := by
  have hm := lookup_memS h
  simp only [bltT, List.mem_cons, Prod.mk.injEq, List.not_mem_nil, or_false] at hm
  rcases hm with ⟨rfl, rfl⟩ | ⟨rfl, rfl⟩ | ⟨rfl, rfl⟩ | ⟨rfl, rfl⟩ | ⟨rfl, rfl⟩ | ⟨rfl, rfl⟩ | ⟨rfl, rfl⟩ | ⟨rfl, rfl⟩ | ⟨rfl, rfl⟩ | ⟨rfl, rfl⟩ | ⟨rfl, rfl⟩ | ⟨rfl, rfl⟩ | ⟨rfl, rfl⟩ | ⟨rfl, rfl⟩
  · exact ⟨by decide +kernel, cr_len⟩
  · exact ⟨by decide +kernel, cr_abs⟩
  · exact ⟨by decide +kernel, cr_int⟩
  · exact ⟨by decide +kernel, cr_allD hk⟩
  · exact ⟨by decide +kernel, cr_anyD hk⟩
  · exact ⟨by decide +kernel, cr_tuple⟩
  · exact ⟨by decide +kernel, cr_list⟩
  · exact ⟨by decide +kernel, cr_divmod⟩
  · exact ⟨by decide +kernel, cr_minD hk⟩
  · exact ⟨by decide +kernel, cr_maxD hk⟩
  · exact ⟨by decide +kernel, cr_repr hk⟩
  · exact ⟨by decide +kernel, cr_str⟩
  · exact ⟨by decide +kernel, cr_sumD hk⟩
  · exact ⟨by decide +kernel, cr_sortedD hk⟩
theorem e_blt (hk : KcOk X k) {f : String} {x : Str} {e : Expr} {es : List Expr} {cs : List C} {p pos : Pos} (ha : PA X (e :: es) (tEvs X.K k.g cs)) (hp : (e :: es).all plainX = true) (hx : x = Str.ofString f)
    (hf : (bltV f).isSome = true) (hfree : x ∈ k.free) (hg : glB k.sc x = true) (hn : nmB x = true) : PE X (.Call (.Name x p) (e :: es) [] pos) (tEv X.K k.g (.blt f cs)) := by
  obtain ⟨b, hb⟩ := Option.isSome_iff_exists.mp hf
  obtain ⟨h1, h2⟩ := Bool.and_eq_true_iff.mp (show (plainX e && es.all plainX) = true from hp)
  obtain ⟨n1, _, n3⟩ := nmB_ok hn
  have w := bltV_ok hk hb
  have step : ∀ {r : List V → Hp → VK → Prop}, (∀ xs H Q, rBlt X.K f xs H Q → r xs H Q) → ∀ σ H Q, tEv X.K k.g (.blt f cs) σ H Q → tCB r (tEvs X.K k.g cs) σ H Q := fun {r} i σ H Q ⟨μ, δ, S, d, S', E, R, e1, q⟩ => by
    simp only [evE] at e1
    obtain ⟨⟨ds, S1⟩, e2, e3⟩ := bindS e1
    obtain ⟨d', e4, e5⟩ := mapS e3
    cases e5
    exact evs1 E R e2 fun xs H1 μ1 E1 R1 _ p1 => i _ _ _ ⟨μ1, _, ds, _, R1, p1, e4, q.ext E1⟩
  subst hx
  cases b with
  | fn id => exact (pe_callB w.2 (glB_ok hk hg) (hk.free _ hfree) w.1 ha n3 n1 (star_of h1 _ _) (nostar h2 _ _)).imp (step fun _ _ _ z => z)
  | ty T => exact (pe_callTy w.2 (glB_ok hk hg) (hk.free _ hfree) w.1 ha n3 n1 (star_of h1 _ _) (nostar h2 _ _)).imp (step fun _ _ _ z => z)
theorem e_gcd (hk : KcOk X k) {x : Str} {e : Expr} {es : List Expr} {cs : List C} {p pos : Pos} (ha : PA X (e :: es) (tEvs X.K k.g cs)) (hp : (e :: es).all plainX = true)
    (hb : k.bf.lookup x = some "math.gcd") (hg : glB k.sc x = true) (hn : nmB x = true) : PE X (.Call (.Name x p) (e :: es) [] pos) (tEv X.K k.g (.blt "gcd" cs)) := by
  obtain ⟨h1, h2⟩ := Bool.and_eq_true_iff.mp (show (plainX e && es.all plainX) = true from hp)
  obtain ⟨n1, _, n3⟩ := nmB_ok hn
  exact (pe_callBfun cr_gcdD (glB_ok hk hg) (hk.bf _ _ hb) ha n1 (star_of h1 _ _) (nostar h2 _ _)).imp fun σ H Q ⟨μ, δ, S, d, S', E, R, e1, q⟩ => by
    simp only [evE] at e1
    obtain ⟨⟨ds, S1⟩, e2, e3⟩ := bindS e1
    obtain ⟨d', e4, e5⟩ := mapS e3
    cases e5
    exact evs1 E R e2 fun xs H1 μ1 E1 R1 _ p1 => ⟨μ1, _, ds, _, R1, p1, e4, q.ext E1⟩

/-! ### isinstance with a built-in class -/
theorem tyx_of {K : PySem.W.Frag} {μ : Mu} {H : Hp} {S : Sto} (R : Rl K μ H S) {d : D} {v : V} (h : Rep K μ H d v) (hr : ∀ n, d = .ref n → n < S.length) (hx : tyD d ≠ "") : TyX K H v (.type (tyD d)) := by
  cases d with
  | non => cases rep_non h; exact .base .non
  | bl b => cases rep_bl h; exact .base (.bl b)
  | int b => cases rep_int h; exact .base (.int b)
  | str b => cases rep_str h; exact .base (.str b)
  | tup xs =>
    obtain ⟨a, vs, rfl, h1, h2⟩ := rep_tup h
    rcases h1 with (h1 | ⟨o, h1⟩) | ⟨o, its, n, h1, h3, _⟩
    · exact .base (.tup h1)
    · exact .fTuple h1
    · exact .kTuple h1 h3
  | lst xs =>
    simp only [Rep] at h
    obtain ⟨a, vs, rfl, _, h1, _⟩ := h
    exact .base (.lst h1)
  | scr xs =>
    simp only [Rep] at h
    obtain ⟨a, vs, rfl, h1, _⟩ := h
    rcases h1 with ⟨o, h1⟩ | ⟨o, its, n, h1, h3, _⟩
    · exact .base (.frz h1)
    · exact .kList h1 h3
  | dic ks xs =>
    simp only [Rep] at h
    obtain ⟨a, vs, rfl, _, _, h1, _⟩ := h
    exact .base (.dK h1)
  | ref n =>
    simp only [Rep] at h
    obtain ⟨a, rfl, h1, vs, e⟩ := h
    exact .base (.lst e)
  | exc _ _ _ => exact absurd rfl hx
  | rfd _ => exact absurd rfl hx
  | ntup _ => exact absurd rfl hx
def tyNames : List String := ["int", "str", "bool", "tuple", "list", "dict"]
theorem kit_no {T : String} (h : T ∈ tyNames) : kitB "" T = none := by
  simp only [tyNames, List.mem_cons, List.not_mem_nil, or_false] at h
  rcases h with rfl | rfl | rfl | rfl | rfl | rfl <;> decide +kernel
theorem tyNames_ok {T : String} (h : T ∈ tyNames) : bootBuiltins (Str.ofString T) = some (.type T) := by
  simp only [tyNames, List.mem_cons, List.not_mem_nil, or_false] at h
  rcases h with rfl | rfl | rfl | rfl | rfl | rfl <;> decide +kernel
theorem e_isi (hk : KcOk X k) {T : String} {x t : Str} {e : Expr} {c : C} {p p2 pos : Pos} (ha : PE X e (tEv X.K k.g c)) (hp : plainX e = true) (hx : x = Str.ofString "isinstance") (ht : t = Str.ofString T) (hT : T ∈ tyNames)
    (hf1 : x ∈ k.free) (hf2 : t ∈ k.free) (hg1 : glB k.sc x = true) (hg2 : glB k.sc t = true) (hn : nmB t = true) : PE X (.Call (.Name x p) [e, .Name t p2] [] pos) (tEv X.K k.g (.isi c T)) := by
  subst hx
  obtain ⟨n1, _, n3⟩ := nmB_ok hn
  have hb := tyNames_ok hT
  rw [← ht] at hb
  have hN : PE X (.Name t p2) (tC (.ty T)) := pe_bltn (glB_ok hk hg2) (hk.free _ hf2) hb rfl n3 n1
  refine (pe_callB call_isi (glB_ok hk hg1) (hk.free _ hf1) (by decide +kernel) (pa_cons ha (pa_cons hN pa_nil) (star_of hp _ _)) (by decide +kernel) (by decide +kernel) (star_of hp _ _) rfl).imp fun σ H Q ⟨μ, δ, S, d, S', E, R, e1, q⟩ => ?_
  simp only [evE] at e1
  obtain ⟨⟨d1, S1⟩, e2, e3⟩ := bindS e1
  obtain ⟨b, e4, e5⟩ := mapS e3
  cases e5
  refine ev1 E R e2 fun x H1 μ1 E1 R1 _ p1 => ⟨x, .ty T, _, _, b, rfl, .ty T, tyx_of R1 p1 (fun n en => ?_) (fun z => by dsimp only at e4; rw [z, kit_no hT] at e4; cases e4), kit_ty e4, (q.ext E1).at R1 mk_bl⟩
  subst en
  simp only [Rep] at p1
  obtain ⟨a, _, h1, _⟩ := p1
  rw [← R1.len]
  exact (List.getElem?_eq_some_iff.mp h1).1

/-! ### subscripts, slices -/
theorem at_rep {K : PySem.W.Frag} {μ : Mu} {H : Hp} {ds : List D} {vs : List V} (h : Reps K μ H ds vs) {i : Int} {d : D} (e : atI ds i = some d) : ∃ v, atI vs i = some v ∧ Rep K μ H d v := by
  unfold atI at e ⊢
  obtain ⟨j, e1, e2⟩ := bindS e
  obtain ⟨v, e3, p⟩ := h.get e2
  refine ⟨v, ?_, p⟩
  rw [← h.length, e1]
  exact e3
theorem e_ix (hk : KcOk X k) {x y : Expr} {a b : C} {pos : Pos} (ha : PE X x (tEv X.K k.g a)) (hb : PE X y (tEv X.K k.g b)) (hp : plainX y = true) : PE X (.Subscript x y pos) (tEv X.K k.g (.ix a b)) :=
  (pe_ix ix_seq ha hb (fun _ _ => by cases y <;> first | rfl | cases hp)).imp fun σ H Q ⟨μ, δ, S, d, S', E, R, e1, q⟩ => by
  simp only [evE] at e1
  obtain ⟨⟨d1, S1⟩, e2, e3⟩ := bindS e1
  obtain ⟨⟨d2, S2⟩, e4, e5⟩ := bindS e3
  obtain ⟨r, e6, e7⟩ := mapS e5
  cases e7
  refine ev2 E R e2 e4 fun x y H2 μ2 E2 R2 _ p1 p2 => ?_
  cases d2 with
  | int i =>
    cases rep_int p2
    obtain ⟨xs, e8, e9⟩ := bindS e6
    obtain ⟨a, vs, rfl, h1, h2⟩ := rep_items R2 e8 p1
    obtain ⟨v, e10, p3⟩ := at_rep h2 e9
    rcases h1 with h1 | h1
    · exact .inl ⟨a, vs, i, v, rfl, rfl, h1, e10, (q.ext E2).at R2 p3⟩
    · exact .inr (.inl ⟨a, vs, i, v, rfl, rfl, h1, e10, (q.ext E2).at R2 p3⟩)
  | _ => cases e6
theorem cut_rep {K : PySem.W.Frag} {μ : Mu} {H : Hp} {ds : List D} {vs : List V} (h : Reps K μ H ds vs) (lo hi : Option Int) : Reps K μ H (cutD ds lo hi) (cutV vs lo hi) := by
  unfold cutD cutV
  rw [h.length]
  exact (h.drop _).take _
theorem cut_whole {ds : List D} {lo hi : Option Int} (h : HT.sIx ds.length 0 lo = 0 ∧ HT.sIx ds.length ds.length hi = ds.length) : cutD ds lo hi = ds := by
  unfold cutD
  rw [h.1, h.2, List.drop_zero, Nat.sub_zero, List.take_length]
def rSlD (K : PySem.W.Frag) : V → Option Int → Option Int → Hp → VK → Prop := fun x lo hi H Q => ∃ μ S d1 d, Rl K μ H S ∧ Rep K μ H d1 x ∧ slD S d1 lo hi = some d ∧ Pst K μ H S d Q
theorem sl_D : SlR X (rSlD X.K) := by
  intro pins s σ H x v vl vu lo hi sl Q I rx hs pl pu ⟨μ, S, d1, d, R, p1, e, q⟩
  unfold slD at e
  split at e
  · rename_i xs e1
    have z := dr_tup e1; subst z
    obtain ⟨a, vs, rfl, h1, h2⟩ := rep_tup p1
    cases e
    refine sl_tupA pins s σ H _ v vl vu lo hi sl Q I rx hs pl pu ⟨a, vs, rfl, h1, fun w => ?_, fun w p hp => ?_⟩
    · rw [← h2.length] at w
      rw [cut_whole w] at q
      exact q.at R (mk_tup h1 h2)
    · exact q.new R hp (mk_tup (SqT.of upd_same) ((cut_rep h2 lo hi).mono R (Ext.new hp)))
  · rename_i xs e1
    obtain ⟨a, vs, rfl, h1, h2⟩ := rep_lst R e1 p1
    cases e
    exact sl_list pins s σ H _ v vl vu lo hi sl Q I rx hs pl pu ⟨a, vs, rfl, SqL.of h1, fun p hp => q.new R hp (mk_lst (R.fz hp) upd_same ((cut_rep h2 lo hi).mono R (Ext.new hp)))⟩
  · rename_i xs e1
    have z := dr_scr e1; subst z
    simp only [Rep] at p1
    obtain ⟨a, vs, rfl, h1, h2⟩ := p1
    cases e
    exact sl_list pins s σ H _ v vl vu lo hi sl Q I rx hs pl pu ⟨a, vs, rfl, h1.sql, fun p hp => q.new R hp (mk_lst (R.fz hp) upd_same ((cut_rep h2 lo hi).mono R (Ext.new hp)))⟩
  · cases e
theorem e_rev {x : Expr} {a : C} {kk : Nat} {p1 p2 p3 pos : Pos} (ha : PE X x (tEv X.K k.g a)) : PE X (.Subscript x (.Slice none none (some (.UnaryOp .USub (.Constant (.int 1) kk p1) p2)) p3) pos) (tEv X.K k.g (.rev a)) := (pe_back ha).imp fun σ H Q ⟨μ, δ, S, d, S', E, R, e1, q⟩ => by
  simp only [evE] at e1
  obtain ⟨⟨d1, S1⟩, e2, e3⟩ := bindS e1
  refine ev1 E R e2 fun x H1 μ1 E1 R1 N1 q1 => ?_
  simp only at e3
  split at e3
  · rename_i xs e4
    cases e3
    have z := dr_tup e4; subst z
    obtain ⟨a, vs, rfl, h1, h2⟩ := rep_tup q1
    exact ⟨a, vs, rfl, .inr ⟨h1, fun p hp => (q.ext E1).new R1 hp (mk_tup (SqT.of upd_same) (h2.reverse.mono R1 (Ext.new hp)))⟩⟩
  · rename_i xs e4
    cases e3
    obtain ⟨a, vs, rfl, h1, h2⟩ := rep_lst R1 e4 q1
    exact ⟨a, vs, rfl, .inl ⟨SqL.of h1, fun p hp => (q.ext E1).new R1 hp (mk_lst (R1.fz hp) upd_same (h2.reverse.mono R1 (Ext.new hp)))⟩⟩
  · rename_i xs e4
    cases e3
    have z := dr_scr e4; subst z
    simp only [Rep] at q1
    obtain ⟨a, vs, rfl, h1, h2⟩ := q1
    exact ⟨a, vs, rfl, .inl ⟨h1.sql, fun p hp => (q.ext E1).new R1 hp (mk_lst (R1.fz hp) upd_same (h2.reverse.mono R1 (Ext.new hp)))⟩⟩
  · cases e3
/-- a part of a slice -/
def tPt (K : PySem.W.Frag) (G : GE) (c : C) : TO := fun σ H Q => ∃ μ δ S d o S', RepEnv K μ H σ δ ∧ Rl K μ H S ∧ evE G c δ S = some (d, S') ∧ partD (isNonC c) d = some o ∧ ∀ H' μ', Ext μ H μ' H' → Rl K μ' H' S' → Q o H'
theorem o_none : PO X none (tPt X.K k.g .non) := ⟨fun pins s σ H Q I ⟨μ, δ, S, d, o, S', E, R, e1, e2, q⟩ => by
  simp only [evE] at e1; cases e1
  simp only [isNonC, partD] at e2; cases e2
  exact po_none.run pins s σ H Q I (q H μ Ext.refl R)⟩
theorem o_some {e : Expr} {c : C} (h : PE X e (tEv X.K k.g c)) (hc : isNonC c = false) : PO X (some e) (tPt X.K k.g c) := ⟨fun pins s σ H Q I ⟨μ, δ, S, d, o, S', E, R, e1, e2, q⟩ => by
  refine (po_some h).run pins s σ H Q I ?_
  refine ev1 E R e1 fun x H1 μ1 E1 R1 _ p1 => ?_
  rw [hc] at e2
  cases d with
  | int i => cases e2; cases rep_int p1; exact ⟨i, rfl, q H1 μ1 E1 R1⟩
  | _ => cases e2⟩
theorem e_sl {x : Expr} {lo hi : Option Expr} {a l h : C} {pos p2 : Pos} (ha : PE X x (tEv X.K k.g a)) (hl : PO X lo (tPt X.K k.g l)) (hh : PO X hi (tPt X.K k.g h)) : PE X (.Subscript x (.Slice lo hi none p2) pos) (tEv X.K k.g (.sl a l h)) :=
  (pe_slice sl_D ha hl hh).imp fun σ H Q ⟨μ, δ, S, d, S', E, R, e1, q⟩ => by
  simp only [evE] at e1
  obtain ⟨⟨d1, S1⟩, e2, e3⟩ := bindS e1
  obtain ⟨⟨d2, S2⟩, e4, e5⟩ := bindS e3
  obtain ⟨⟨d3, S3⟩, e6, e7⟩ := bindS e5
  obtain ⟨o1, e8, e9⟩ := bindS e7
  obtain ⟨o2, e10, e11⟩ := bindS e9
  obtain ⟨r, e12, e13⟩ := mapS e11
  cases e13
  refine ev1 E R e2 fun x H1 μ1 E1 R1 N1 p1 => ⟨μ1, δ, S1, d2, o1, S2, N1, R1, e4, e8, fun H2 μ2 E2 R2 => ⟨μ2, δ, S2, d3, o2, S3, N1.mono R1 E2, R2, e6, e10, fun H3 μ3 E3 R3 => ?_⟩⟩
  exact ⟨μ3, S3, d1, d, R3, (p1.mono R1 E2).mono R2 E3, e12, q.ext ((E1.trans E2).trans E3)⟩

/-! ### methods of lists -/
theorem e_append {x e : Expr} {a : C} {cs : List C} {m : Str} {apos cpos : Pos} (ha : PE X x (tEv X.K k.g a)) (hb : PA X [e] (tEvs X.K k.g cs)) (hx : ∃ n p, x = .Name n p) (hm : m = Str.ofString "append") (hp : plainX e = true)
    (hline : (apos.endLine == cpos.line) = true) : PE X (.Call (.Attribute x m apos) [e] [] cpos) (tEv X.K k.g (.meth "append" a cs)) := by
  obtain ⟨n, p, rfl⟩ := hx
  subst hm
  refine (pe_bm PySem.F.plainAttrs_list PySem.F.slot_list_append PySem.F.type_list_append mt_append ha hb (by rfl) ?_ hline (star_of hp _ _) rfl).imp fun σ H Q ⟨μ, δ, S, d, S', E, R, e1, q⟩ => ?_
  · rw [star_of hp]; rfl
  · simp only [evE] at e1
    obtain ⟨⟨d1, S1⟩, e2, e3⟩ := bindS e1
    obtain ⟨⟨ds, S2⟩, e4, e5⟩ := bindS e3
    simp only [methD, ↓reduceIte] at e5
    split at e5
    · rename_i n' x'
      split at e5
      · rename_i kp xs hS
        split at e5
        · rename_i hl
          cases e5
          refine ev1 E R e2 fun x H1 μ1 E1 R1 N1 p1 => ?_
          have pr : ∃ a, x = .ref a ∧ μ1.ad[n']? = some a ∧ IsL H1 a := by simpa only [Rep] using p1
          obtain ⟨a, rfl, h1, vs1, e6⟩ := pr
          refine ⟨.inl ⟨rfl, vs1, SqL.of e6⟩, evs1 N1 R1 e4 fun ys H2 μ2 E2 R2 N2 p2 => ?_⟩
          obtain ⟨y, rfl, p3⟩ := reps1 p2
          have h2 := E2.ad h1
          obtain ⟨vs, e7, r7⟩ := R2.at_ n' _ a hS h2
          refine ⟨a, vs, y, rfl, rfl, e7, by rw [sizeL, ← r7.length]; exact hl, ?_⟩
          exact q .non _ μ2 ((E1.trans E2).trans (Ext.put (List.mem_of_getElem? h2) (Kp.putL ⟨_, e7⟩))) (R2.put h2 ⟨_, e7⟩ (r7.append (Reps.cons p3 Reps.nil))) mk_non
        · cases e5
      · cases e5
    · cases e5
theorem e_insert {x e e' : Expr} {a : C} {cs : List C} {m : Str} {apos cpos : Pos} (ha : PE X x (tEv X.K k.g a)) (hb : PA X [e, e'] (tEvs X.K k.g cs)) (hx : ∃ n p, x = .Name n p) (hm : m = Str.ofString "insert") (hp : plainX e = true) (hp' : plainX e' = true)
    (hline : (apos.endLine == cpos.line) = true) : PE X (.Call (.Attribute x m apos) [e, e'] [] cpos) (tEv X.K k.g (.meth "insert" a cs)) := by
  obtain ⟨n, p, rfl⟩ := hx
  subst hm
  refine (pe_bm PySem.F.plainAttrs_list PySem.F.slot_list_insert PySem.F.type_list_insert mt_insert ha hb (by rfl) ?_ hline (star_of hp _ _) (by rw [star_of hp']; rfl)).imp fun σ H Q ⟨μ, δ, S, d, S', E, R, e1, q⟩ => ?_
  · rw [star_of hp, star_of hp']; rfl
  · simp only [evE] at e1
    obtain ⟨⟨d1, S1⟩, e2, e3⟩ := bindS e1
    obtain ⟨⟨ds, S2⟩, e4, e5⟩ := bindS e3
    simp only [methD, String.reduceEq, ↓reduceIte] at e5
    split at e5
    · rename_i n' i' x'
      split at e5
      · rename_i kp xs hS
        split at e5
        · rename_i hl
          cases e5
          refine ev1 E R e2 fun x H1 μ1 E1 R1 N1 p1 => ?_
          have pr : ∃ a, x = .ref a ∧ μ1.ad[n']? = some a ∧ IsL H1 a := by simpa only [Rep] using p1
          obtain ⟨a, rfl, h1, vs1, e6⟩ := pr
          refine ⟨.inl ⟨rfl, vs1, SqL.of e6⟩, evs1 N1 R1 e4 fun ys H2 μ2 E2 R2 N2 p2 => ?_⟩
          obtain ⟨w, y, rfl, p4, p3⟩ := reps2 p2
          cases rep_int p4
          have h2 := E2.ad h1
          obtain ⟨vs, e7, r7⟩ := R2.at_ n' _ a hS h2
          refine ⟨a, vs, i', y, rfl, rfl, e7, by rw [sizeL, ← r7.length]; exact hl.1, hl.2.1, hl.2.2, ?_⟩
          exact q .non _ μ2 ((E1.trans E2).trans (Ext.put (List.mem_of_getElem? h2) (Kp.putL ⟨_, e7⟩))) (R2.put h2 ⟨_, e7⟩ (((r7.take _).append (Reps.cons p3 Reps.nil)).append (r7.drop _))) mk_non
        · cases e5
      · cases e5
    · cases e5
end
end Dn

set_option maxHeartbeats 4000000
namespace Zn
open PySem
open PySem.Sem (wp)
open PySem.W (KdxIt kdx_alive)
/-- a zip, whatever it gave out last -/
abbrev ZG (g : Heap) (z TI TO : Addr) (f0 : Value) (b0 : Bool) : Prop := g.get? z = some { cls := .type "zip", dict := none, data := .fields #[f0, .bool b0, .bool false, .ref TI, .ref TO], slots := #[] }
section
variable {prog : Program} {w : World} {A : Around} {E : Value → Shared → Prop} {s : Shared} {z TI TO p q u v : Addr} {m n : Nat} {xs ys : Array Value} {a b c d f0 : Value} {b0 : Bool}
/-- the tuple is free: one turn -/
theorem turn_free {Q : Value → Shared → Prop} (D : ZipApart z TI TO p q u v) (hz : ZG s.heap z TI TO f0 b0)
    (free : ∀ (R : Bool → Shared → Prop), R true s → wpAny (model prog w) A (Builtin.SmallTypes.ownedTupleIsFree (.ref z)) R E s)
    (hi : IsPair s.heap TI (.ref p) (.ref q)) (ho : IsPair s.heap TO a b) (hp : s.heap.IsListIter p u m) (hq : s.heap.IsListIter q v n) (hu : s.heap.IsList u xs) (hv : s.heap.IsList v ys) (ex : xs[m]? = some c) (ey : ys[n]? = some d)
    (k : ∀ g, ZG g z TI TO (rawInt s.heap.objs.size) false → IsPair g TO c d → g.IsListIter p u (m + 1) → g.IsListIter q v (n + 1) → IsPair g s.heap.objs.size c d → g.objs.size = s.heap.objs.size + 1 →
      (∀ e o, e ≠ z → e ≠ TO → e ≠ p → e ≠ q → s.heap.get? e = some o → g.get? e = some o) → Q (.ref s.heap.objs.size) { s with heap := g }) :
    wpAny (model prog w) A (Builtin.«zip.__next__» ⟨[.ref z], []⟩) (fun fin s' => ∃ r, fin = .done (.ret r) ∧ Q r s') E s := by
  show wpAny _ _ (field (.ref z) 2 >>= _) _ _ _
  refine wpAny_bind (wpAny_field hz rfl (x := .bool false) rfl ?_)
  show wpAny _ _ (field (.ref z) 3 >>= _) _ _ _
  refine wpAny_bind (wpAny_field hz rfl (x := .ref TI) rfl (wpAny_bind (wpAny_seqItems hi rfl ?_)))
  show wpAny _ _ (Builtin.SmallTypes.ownedTupleIsFree (.ref z) >>= _) _ _ _
  refine wpAny_bind (free _ ?_)
  simp only [if_true]
  refine wpAny_bind (wpAny_rule (wpAny_bind (wpAny_field hz rfl (x := .ref TO) rfl (wpAny_bind (wpAny_setField_rec hz (by simp) fun g1 z1 t1 => ?_)))))
  replace z1 : ZG g1 z TI TO .ellipsis b0 := z1
  refine wpAny_bind ?_
  simp only [List.zipIdx_cons, List.zipIdx_nil, List.forIn_cons, List.forIn_nil]
  refine wpAny_bind (wpAny_bind (wpAny_onRaise ?_))
  show wpAny _ _ (Builtin.SmallTypes.nextOf (.ref p) >>= _) _ _ _
  refine wpAny_bind (wpAny_nextOf_list_item (hp.extBut t1.extBut D.i1z) (hu.extBut t1.extBut D.l1z) ex fun g2 p2 t2 => wpAny_pure ?_)
  have o2 : IsPair g2 TO a b := t2.extBut _ _ D.TOi1 (t1.extBut _ _ D.TOz ho)
  refine wpAny_bind (wpAny_seqItems o2 rfl (wpAny_bind (wpAny_updateSeq_pair o2 fun g3 o3 t3 => ?_)))
  replace o3 : IsPair g3 TO c b := o3
  refine wpAny_bind (wpAny_letGo (wpAny_pure (wpAny_bind (wpAny_bind (wpAny_onRaise ?_)))))
  show wpAny _ _ (Builtin.SmallTypes.nextOf (.ref q) >>= _) _ _ _
  refine wpAny_bind (wpAny_nextOf_list_item (((hq.extBut t1.extBut D.i2z).extBut t2.extBut D.i12.symm).extBut t3.extBut D.TOi2.symm) (((hv.extBut t1.extBut D.l2z).extBut t2.extBut D.l2i1).extBut t3.extBut D.l2TO) ey fun g4 q4 t4 => wpAny_pure ?_)
  have o4 : IsPair g4 TO c b := t4.extBut _ _ D.TOi2 o3
  refine wpAny_bind (wpAny_seqItems o4 rfl (wpAny_bind (wpAny_updateSeq_pair o4 fun g5 o5 t5 => ?_)))
  replace o5 : IsPair g5 TO c d := o5
  refine wpAny_bind (wpAny_letGo (wpAny_pure (wpAny_pure (wpAny_bind (wpAny_seqItems o5 rfl (wpAny_bind (wpAny_newTuple ?_)))))))
  have len : g5.objs.size = s.heap.objs.size := by rw [t5.1, t4.1, t3.1, t2.1, t1.1]
  have z5 : ZG g5 z TI TO .ellipsis b0 := t5.extBut _ _ D.TOz.symm (t4.extBut _ _ D.i2z.symm (t3.extBut _ _ D.TOz.symm (t2.extBut _ _ D.i1z.symm z1)))
  have old : ∀ e o, e ≠ z → e ≠ TO → e ≠ p → e ≠ q → s.heap.get? e = some o → g5.get? e = some o := fun e o n1 n2 n3 n4 r => t5.extBut _ _ n2 (t4.extBut _ _ n4 (t3.extBut _ _ n2 (t2.extBut _ _ n3 (t1.extBut _ _ n1 r))))
  have p5 : g5.IsListIter p u (m + 1) := ((p2.extBut t3.extBut D.TOi1.symm).extBut t4.extBut D.i12).extBut t5.extBut D.TOi1.symm
  have q5 : g5.IsListIter q v (n + 1) := q4.extBut t5.extBut D.TOi2.symm
  have lz : z < g5.objs.size := Heap.lt_size z5
  show wpAny _ _ (Builtin.SmallTypes.ownedTupleHandOut (.ref z) (.ref g5.objs.size) >>= _) _ _ _
  refine wpAny_bind ?_
  unfold Builtin.SmallTypes.ownedTupleHandOut
  have z6 : ZG (g5.push { cls := .type "tuple", data := .seq #[c, d] }) z TI TO .ellipsis b0 := Heap.get?_push_of_some _ z5
  refine wpAny_bind (wpAny_setField_rec z6 (by simp) fun g7 z7 t7 => ?_)
  replace z7 : ZG g7 z TI TO (rawInt g5.objs.size) b0 := z7
  refine wpAny_setField_rec z7 (by simp) fun g8 z8 t8 => ?_
  replace z8 : ZG g8 z TI TO (rawInt g5.objs.size) false := z8
  have up : ∀ e o, e ≠ z → g5.get? e = some o → g8.get? e = some o := fun e o n1 r => t8.extBut _ _ n1 (t7.extBut _ _ n1 (Heap.get?_push_of_some _ r))
  have new : IsPair g8 g5.objs.size c d := t8.extBut _ _ (Nat.ne_of_gt lz) (t7.extBut _ _ (Nat.ne_of_gt lz) (Heap.get?_push_size _ rfl))
  have len8 : g8.objs.size = g5.objs.size + 1 := by rw [t8.1, t7.1, Heap.size_push]
  rw [len] at z8 new len8
  refine wpAny_pure ⟨_, rfl, ?_⟩
  show Q (.ref g5.objs.size) _
  rw [len]
  exact k g8 z8 (up _ _ D.TOz o5) (p5.at fun o r => up _ o D.i1z r) (q5.at fun o r => up _ o D.i2z r) new len8 fun e o n1 n2 n3 n4 r => up e o n1 (old e o n1 n2 n3 n4 r)
/-- the tuple is free: the end -/
theorem end_free {Q : Fin → Shared → Prop} (hh : A.handled = none) (D : ZipApart z TI TO p q u v) (hz : ZG s.heap z TI TO f0 b0)
    (free : ∀ (R : Bool → Shared → Prop), R true s → wpAny (model prog w) A (Builtin.SmallTypes.ownedTupleIsFree (.ref z)) R E s)
    (hi : IsPair s.heap TI (.ref p) (.ref q)) (ho : IsPair s.heap TO a b) (hp : s.heap.IsListIter p u m) (hq : s.heap.IsListIter q v n) (hu : s.heap.IsList u xs) (hv : s.heap.IsList v ys) (none_ : xs[m]? = none ∨ ys[n]? = none)
    (k : ∀ g e, (∀ c o, c ≠ z → c ≠ TO → c ≠ p → c ≠ q → s.heap.get? c = some o → g.get? c = some o) → (∃ o, g.get? e = some o ∧ o.cls = .type "StopIteration") → E (.ref e) { s with heap := g }) :
    wpAny (model prog w) A (Builtin.«zip.__next__» ⟨[.ref z], []⟩) Q E s := by
  show wpAny _ _ (field (.ref z) 2 >>= _) _ _ _
  refine wpAny_bind (wpAny_field hz rfl (x := .bool false) rfl ?_)
  show wpAny _ _ (field (.ref z) 3 >>= _) _ _ _
  refine wpAny_bind (wpAny_field hz rfl (x := .ref TI) rfl (wpAny_bind (wpAny_seqItems hi rfl ?_)))
  show wpAny _ _ (Builtin.SmallTypes.ownedTupleIsFree (.ref z) >>= _) _ _ _
  refine wpAny_bind (free _ ?_)
  simp only [if_true]
  refine wpAny_bind (wpAny_rule (wpAny_bind (wpAny_field hz rfl (x := .ref TO) rfl (wpAny_bind (wpAny_setField_rec hz (by simp) fun g1 z1 t1 => ?_)))))
  replace z1 : ZG g1 z TI TO .ellipsis b0 := z1
  refine wpAny_bind ?_
  simp only [List.zipIdx_cons, List.zipIdx_nil, List.forIn_cons, List.forIn_nil]
  refine wpAny_bind (wpAny_bind (wpAny_onRaise ?_))
  show wpAny _ _ (Builtin.SmallTypes.nextOf (.ref p) >>= _) _ _ _
  cases ex : xs[m]? with
  | none =>
    refine wpAny_bind (wpAny_nextOf_list_end hh (hp.extBut t1.extBut D.i1z) (hu.extBut t1.extBut D.l1z) ex fun g2 e t2 he => ?_)
    obtain ⟨oe, h1, h2⟩ := he
    have z2 : ZG g2 z TI TO .ellipsis b0 := t2 _ _ D.i1z.symm z1
    have ne : e ≠ z := fun w => by subst w; rw [z2] at h1; cases h1; simp at h2
    exact wpAny_setField_rec z2 (by simp) fun g3 _ t3 => k g3 e (fun c o n1 _ n3 _ r => t3.extBut _ _ n1 (t2 _ _ n3 (t1.extBut _ _ n1 r))) ⟨oe, t3.extBut _ _ ne h1, h2⟩
  | some c =>
    have ey : ys[n]? = none := by rcases none_ with h | h; rw [ex] at h; cases h; exact h
    refine wpAny_bind (wpAny_nextOf_list_item (hp.extBut t1.extBut D.i1z) (hu.extBut t1.extBut D.l1z) ex fun g2 p2 t2 => wpAny_pure ?_)
    have o2 : IsPair g2 TO a b := t2.extBut _ _ D.TOi1 (t1.extBut _ _ D.TOz ho)
    refine wpAny_bind (wpAny_seqItems o2 rfl (wpAny_bind (wpAny_updateSeq_pair o2 fun g3 o3 t3 => ?_)))
    refine wpAny_bind (wpAny_letGo (wpAny_pure (wpAny_bind (wpAny_bind (wpAny_onRaise ?_)))))
    show wpAny _ _ (Builtin.SmallTypes.nextOf (.ref q) >>= _) _ _ _
    refine wpAny_bind (wpAny_nextOf_list_end hh (((hq.extBut t1.extBut D.i2z).extBut t2.extBut D.i12.symm).extBut t3.extBut D.TOi2.symm) (((hv.extBut t1.extBut D.l2z).extBut t2.extBut D.l2i1).extBut t3.extBut D.l2TO) ey fun g4 e t4 he => ?_)
    obtain ⟨oe, h1, h2⟩ := he
    have z4 : ZG g4 z TI TO .ellipsis b0 := t4 _ _ D.i2z.symm (t3.extBut _ _ D.TOz.symm (t2.extBut _ _ D.i1z.symm z1))
    have ne : e ≠ z := fun w => by subst w; rw [z4] at h1; cases h1; simp at h2
    exact wpAny_setField_rec z4 (by simp) fun g5 _ t5 => k g5 e (fun c o n1 n2 n3 n4 r => t5.extBut _ _ n1 (t4 _ _ n4 (t3.extBut _ _ n2 (t2.extBut _ _ n3 (t1.extBut _ _ n1 r))))) ⟨oe, t5.extBut _ _ ne h1, h2⟩
theorem free_none {R : Bool → Shared → Prop} (hz : ZG s.heap z TI TO .none b0) (h : R true s) : wpAny (model prog w) A (Builtin.SmallTypes.ownedTupleIsFree (.ref z)) R E s := by
  unfold Builtin.SmallTypes.ownedTupleIsFree
  exact wpAny_bind (wpAny_field hz rfl (x := .none) rfl (wpAny_pure h))
theorem alive_none {t : Addr} {R : Option Obj → Shared → Prop} (ht : s.heap.get? t = none) (h : R none s) : wpAny (model prog w) A (loadIfAlive t) R E s := by
  have h' : R (s.heap.get? t) s := by rw [ht]; exact h
  exact fun _ _ _ => h'
theorem free_dead {t : Addr} {R : Bool → Shared → Prop} (hz : ZG s.heap z TI TO (rawInt t) b0) (ht : s.heap.get? t = none) (h : R true s) : wpAny (model prog w) A (Builtin.SmallTypes.ownedTupleIsFree (.ref z)) R E s := by
  unfold Builtin.SmallTypes.ownedTupleIsFree
  refine wpAny_bind (wpAny_field hz rfl (x := rawInt t) rfl ?_)
  show wpAny _ _ (loadIfAlive ((t : Int).toNat) >>= _) _ _ _
  rw [Int.toNat_natCast]
  exact wpAny_bind (alive_none ht (wpAny_pure h))
/-- how the zip stands -/
def ZN (g : Heap) (z TI TO : Addr) : Prop := (∃ b0, ZG g z TI TO .none b0) ∨ ∃ (t : Addr) (b0 : Bool), ZG g z TI TO (rawInt t) b0
theorem next_item {Q : Option Value → Shared → Prop} (D : ZipApart z TI TO p q u v) (hz : ZN s.heap z TI TO) (hi : IsPair s.heap TI (.ref p) (.ref q)) (ho : IsPair s.heap TO a b) (hp : s.heap.IsListIter p u m) (hq : s.heap.IsListIter q v n)
    (hu : s.heap.IsList u xs) (hv : s.heap.IsList v ys) (ex : xs[m]? = some c) (ey : ys[n]? = some d)
    (k : ∀ g, ZN g z TI TO → (∃ a b, IsPair g TO a b) → g.IsListIter p u (m + 1) → g.IsListIter q v (n + 1) → IsPair g s.heap.objs.size c d → g.objs.size = s.heap.objs.size + 1 →
      (∀ e o, e ≠ z → e ≠ TO → e ≠ p → e ≠ q → s.heap.get? e = some o → g.get? e = some o) → Q (some (.ref s.heap.objs.size)) { s with heap := g }) :
    wpAny (model prog w) A (pyNext (.ref z)) Q E s := by
  have fin : ∀ {f0 : Value} {b0 : Bool}, ZG s.heap z TI TO f0 b0 → (∀ {A : Around} {E : Value → Shared → Prop} (R : Bool → Shared → Prop), R true s → wpAny (model prog w) A (Builtin.SmallTypes.ownedTupleIsFree (.ref z)) R E s) → wpAny (model prog w) A (pyNext (.ref z)) Q E s := fun {f0 b0} hz fr => by
    have hT : s.TypeIs (.ref z) "zip" := ⟨_, hz, rfl⟩
    unfold pyNext
    exact wpAny_bind (wpAny_attempt (wpAny_callSpecial?_slot (name := Str.ofString "__next__") hT F.slot_zip_next (wpAny_call_entry F.slot_zip_next hT F.entry_zip_next
      (turn_free D hz fr hi ho hp hq hu hv ex ey fun g a1 a2 a3 a4 a5 a6 a7 => wpAny_pure (k g (.inr ⟨_, _, a1⟩) ⟨_, _, a2⟩ a3 a4 a5 a6 a7)) (F.args_zip_next_1 _))))
  rcases hz with ⟨b0, hz⟩ | ⟨t, b0, hz⟩
  · exact fin hz fun R h => free_none hz h
  · cases ht : s.heap.get? t with
    | none => exact fin hz fun R h => free_dead hz ht h
    | some o =>
      refine wpAny_pyNext_zip_item_held D hz ht hi hp hq hu hv ex ey fun g a1 a3 a4 a5 a6 a7 => ?_
      exact k g (.inr ⟨_, _, a1⟩) ⟨_, _, a7 _ _ D.TOz D.TOi1 D.TOi2 ho⟩ a3 a4 a5 a6 fun e o n1 _ n3 n4 r => a7 e o n1 n3 n4 r
theorem next_end {Q : Option Value → Shared → Prop} (hh : A.handled = none) (D : ZipApart z TI TO p q u v) (hz : ZN s.heap z TI TO) (hi : IsPair s.heap TI (.ref p) (.ref q)) (ho : IsPair s.heap TO a b) (hp : s.heap.IsListIter p u m) (hq : s.heap.IsListIter q v n)
    (hu : s.heap.IsList u xs) (hv : s.heap.IsList v ys) (none_ : xs[m]? = none ∨ ys[n]? = none)
    (k : ∀ g, (∀ e o, e ≠ z → e ≠ TO → e ≠ p → e ≠ q → s.heap.get? e = some o → g.get? e = some o) → Q none { s with heap := g }) :
    wpAny (model prog w) A (pyNext (.ref z)) Q E s := by
  have fin : ∀ {f0 : Value} {b0 : Bool}, ZG s.heap z TI TO f0 b0 → (∀ {A : Around} {E : Value → Shared → Prop} (R : Bool → Shared → Prop), R true s → wpAny (model prog w) A (Builtin.SmallTypes.ownedTupleIsFree (.ref z)) R E s) → wpAny (model prog w) A (pyNext (.ref z)) Q E s := fun {f0 b0} hz fr => by
    have hT : s.TypeIs (.ref z) "zip" := ⟨_, hz, rfl⟩
    unfold pyNext
    refine wpAny_bind (wpAny_attempt (wpAny_callSpecial?_slot (name := Str.ofString "__next__") hT F.slot_zip_next (wpAny_call_entry F.slot_zip_next hT F.entry_zip_next
      (end_free hh D hz fr hi ho hp hq hu hv none_ fun g e a1 a2 => ?_) (F.args_zip_next_1 _))))
    obtain ⟨o, h1, h2⟩ := a2
    refine wpAny_bind (wpAny_isInstance (T := "StopIteration") (b := true) ⟨o, h1, h2⟩ isSubtype_stop ?_)
    exact wpAny_pure (k _ a1)
  rcases hz with ⟨b0, hz⟩ | ⟨t, b0, hz⟩
  · exact fin hz fun R h => free_none hz h
  · cases ht : s.heap.get? t with
    | none => exact fin hz fun R h => free_dead hz ht h
    | some o => exact wpAny_pyNext_zip_end_held hh D hz ht hi hp hq hu hv none_ fun g a => k g fun e o n1 _ n3 n4 r => a e o n1 n3 n4 r
end
end Zn
namespace Zn
open PySem PySem.Spec PyProof.Rows L2
theorem zn_type {g : Heap} {z TI TO : Addr} (h : ZN g z TI TO) : ∃ f0 b0, ZG g z TI TO f0 b0 := by
  rcases h with ⟨b0, h⟩ | ⟨t, b0, h⟩ <;> exact ⟨_, _, h⟩
theorem zn_at {g g' : Heap} {z TI TO : Addr} (h : ZN g z TI TO) (k : ∀ o, g.get? z = some o → g'.get? z = some o) : ZN g' z TI TO := by
  rcases h with ⟨b0, h⟩ | ⟨t, b0, h⟩
  · exact .inl ⟨b0, k _ h⟩
  · exact .inr ⟨t, b0, k _ h⟩
theorem iter_self {prog : Program} {w : World} {A : Around} {E : Value → Shared → Prop} {s : Shared} {z TI TO : Addr} {f0 : Value} {b0 : Bool} {Q : Value → Shared → Prop} (hz : ZG s.heap z TI TO f0 b0) (h : Q (.ref z) s) : wpAny (model prog w) A (pyIter (.ref z)) Q E s := by
  have ty : s.TypeIs (.ref z) "zip" := ⟨_, hz, rfl⟩
  refine wpAny_pyIter_slot ty F.slot_zip_iter (wpAny_call_entry F.slot_zip_iter ty F.entry_zip_iter ?_ (F.args_zip_iter_1 _))
  show wpAny _ _ (ret (.ref z)) _ _ s
  exact wpAny_pure ⟨_, rfl, "zip", _, ty, F.slot_zip_next.lookup, h⟩
theorem turn_zipN {P : Program} {w : World} {K : PySem.W.Frag} {x : Str} {tpos : Pos} {a b z TI TO i1 i2 : Addr} (D : ZipApart z TI TO i1 i2 a b) :
    Turn P w K (.Name x tpos) (Itz K a b) [z, TI, TO, i1, i2] z (fun i h => ZN h z TI TO ∧ IsPair h TI (.ref i1) (.ref i2) ∧ (∃ x y, IsPair h TO x y) ∧ h.IsListIter i1 a i ∧ h.IsListIter i2 b i) where
  mem := by simp
  obj := fun i h st c hc => by
    obtain ⟨hz, hTI, ⟨x, y, hTO⟩, ⟨o1, e1, _, d1⟩, ⟨o2, e2, _, d2⟩⟩ := st
    obtain ⟨f0, b0, hz⟩ := zn_type hz
    have e' : c = z ∨ c = TI ∨ c = TO ∨ c = i1 ∨ c = i2 := by simpa using hc
    rcases e' with q | q | q | q | q <;> rw [q]
    · exact ⟨_, hz, fun v q => nomatch q⟩
    · exact ⟨_, hTI, fun v q => nomatch q⟩
    · exact ⟨_, hTO, fun v q => nomatch q⟩
    · exact ⟨o1, e1, fun v q => by rw [d1] at q; cases q⟩
    · exact ⟨o2, e2, fun v q => by rw [d2] at q; cases q⟩
  keep := fun i h h' st k => by
    obtain ⟨hz, hTI, ⟨x, y, hTO⟩, h1, h2⟩ := st
    exact ⟨zn_at hz fun o q => k z (by simp) o q, k TI (by simp) _ hTI, ⟨x, y, k TO (by simp) _ hTO⟩, h1.at fun o q => k i1 (by simp) o q, h2.at fun o q => k i2 (by simp) o q⟩
  item := by
    intro X hP hw hK hc i pins s σ H E I hf st hg
    subst hP hw hK
    obtain ⟨hz, hTI, ⟨x0, y0, hTO⟩, h1, h2⟩ := st
    obtain ⟨xs, ys, x, y, hqx, hqy, hx, hy⟩ := hg
    obtain ⟨its, rv, p, _⟩ := I.list hqx
    obtain ⟨its2, rv2, p2, _⟩ := I.list hqy
    obtain ⟨u, hu, ru⟩ := rv.get hx
    obtain ⟨u2, hu2, ru2⟩ := rv2.get hy
    obtain ⟨f0, b0, hz'⟩ := zn_type hz
    have hzl : z < s.heap.objs.size := Heap.lt_size hz'
    refine next_item D hz hTI hTO h1 h2 p.isList p2.isList (c := u) (d := u2) (by simpa using hu) (by simpa using hu2) fun h' z' TO' h1' h2' hT hsz hk => ?_
    refine ⟨_, rfl, ?_⟩
    unfold letOwnedTupleGo
    refine wpAny_pure ?_
    have new : ObjOk X.prog X.w (upd H s.heap.objs.size (.tup [x, y])) h' s.heap.objs.size (.tup [x, y]) := ⟨by show 2 ≤ sizeLine; decide, [u, u2], .cons ru (.cons ru2 .nil), ⟨_, hT, rfl, _, rfl⟩⟩
    have I1 : Inv X pins σ (upd H s.heap.objs.size (.tup [x, y])) { s with heap := h' } :=
      I.turnedNew (t' := s.toks) (ch := [z, TI, TO, i1, i2]) (fun c o hb q => hk c o (fun q' => hb (by simp [q'])) (fun q' => hb (by simp [q'])) (fun q' => hb (by simp [q'])) (fun q' => hb (by simp [q'])) q) hf (Nat.le_refl _) new
    refine ⟨.ref s.heap.objs.size, _, I1, rfl, ⟨_, x, y, rfl, I.hok.fresh (Nat.le_refl _), rfl, fun l hl => by rw [I.list_inj hl hqx]; exact hx, fun l hl => by rw [I.list_inj hl hqy]; exact hy⟩, ⟨z', hk _ _ D.TIz D.TITO D.TIi1 D.TIi2 hTI, TO', h1', h2'⟩, fun c hcm => ?_⟩
    have hlt : c < s.heap.objs.size := by
      have e' : c = z ∨ c = TI ∨ c = TO ∨ c = i1 ∨ c = i2 := by simpa using hcm
      rcases e' with q | q | q | q | q <;> rw [q]
      · exact hzl
      · exact Heap.lt_size hTI
      · exact Heap.lt_size hTO
      · obtain ⟨_, e1, _⟩ := h1; exact Heap.lt_size e1
      · obtain ⟨_, e2, _⟩ := h2; exact Heap.lt_size e2
    rw [upd_ne (Nat.ne_of_lt hlt)]
    exact (hf c hcm).1
  done := by
    intro X hP hw hK hc i pins s σ H E I hf st hg
    subst hP hw hK
    obtain ⟨hz, hTI, ⟨x0, y0, hTO⟩, h1, h2⟩ := st
    obtain ⟨xs, ys, hqx, hqy, hend⟩ := hg
    obtain ⟨its, rv, p, _⟩ := I.list hqx
    obtain ⟨its2, rv2, p2, _⟩ := I.list hqy
    have l1 := rv.length
    have l2 := rv2.length
    have he : its.toArray[i]? = none ∨ its2.toArray[i]? = none := by
      rcases hend with q | q
      · exact .inl (by simp; omega)
      · exact .inr (by simp; omega)
    exact next_end (I.ok.hd hc) D hz hTI hTO h1 h2 p.isList p2.isList he fun h' hk => ⟨rfl, I.turnedL (t' := s.toks) (ch := [z, TI, TO, i1, i2]) (fun c o hb q =>
      hk c o (fun q' => hb (by simp [q'])) (fun q' => hb (by simp [q'])) (fun q' => hb (by simp [q'])) (fun q' => hb (by simp [q'])) q) hf⟩
  self := fun A i s Q E st h => by
    obtain ⟨f0, b0, hz⟩ := zn_type st.1
    exact iter_self hz h
theorem pi_zipN {X : Cx} {e e2 : Expr} {ta : TA} {y : Str} {p pos tpos : Pos} (hg : Gl X "zip") (hm : X.mg "zip" = none) (ha : PA X [e, e2] ta)
    (hs : starEach [e, e2] X.env = (false, eval e X.env) :: starEach [e2] X.env := by rfl) (hpl : (backTo pos (starEach [e2] X.env)).any (·.1) = false := by rfl) :
    PI X (.Name y tpos) (.Call (.Name "zip" p) [e, e2] [] pos) (iZip X.K ta) := by
  refine ⟨fun pins s σ H R I h => ?_⟩
  refine Call_ (ld_blt I hg hm PyProof.Rows.boot_zip (PyProof.Rows.callWith_type1 (thn (ha.run pos pins s σ H _ I h) fun us s1 ⟨vs, H1, I1, r1, q1⟩ => ?_) hs hpl))
  obtain ⟨a, b, xs, ys, ex, hqx, hqy, q⟩ := q1
  subst ex
  cases r1 with
  | cons r rr =>
    cases rr with
    | cons r' rr =>
      cases rr
      cases r
      cases r'
      obtain ⟨its, rv, p1, _⟩ := I1.list hqx
      obtain ⟨its2, rv2, p2, _⟩ := I1.list hqy
      have la : a < s1.heap.objs.size := p1.lt
      have lb : b < s1.heap.objs.size := p2.lt
      refine call_zip_2 p1.isList p2.isList fun h' hz hTI hTO h1 h2 hsz hk => iter_self (b0 := false) hz ?_
      have I2 : Inv X pins σ H1 { s1 with heap := h' } := I1.kept (t' := s1.toks) hk
      refine ⟨s1.heap.objs.size + 4, [s1.heap.objs.size + 4, s1.heap.objs.size + 2, s1.heap.objs.size + 3, s1.heap.objs.size, s1.heap.objs.size + 1], _, _, H1, rfl, I2, turn_zipN (PySem.W.ktu_apart _ a b la lb), ⟨.inl ⟨false, hz⟩, hTI, ⟨_, _, hTO⟩, h1, h2⟩, fun c hcm => ?_, q⟩
      have hle : s1.heap.objs.size ≤ c := by
        simp only [List.mem_cons, List.not_mem_nil, or_false] at hcm
        rcases hcm with z | z | z | z | z <;> rw [z] <;> first | exact Nat.le_add_right _ _ | exact Nat.le_refl _
      exact I1.fpOk hle (I1.hok.fresh hle)
end Zn

set_option maxHeartbeats 4000000
namespace Dn
open PySem PySem.Spec PyProof.Rows L2

/-! ### targets -/
mutual
/-- the slots that a target fills -/
def tsl : CT → List Nat
  | .name i => [i]
  | .tup ts => tsls ts
  | .sub _ _ => []
def tsls : List CT → List Nat
  | [] => []
  | t :: ts => tsl t ++ tsls ts
end
def gEv (K : PySem.W.Frag) (G : GE) (t : CT) : TG := fun v σ H Q => ∃ μ δ S d δ' S', RepEnv K μ H σ δ ∧ Rl K μ H S ∧ Rep K μ H d v ∧ evT' G t d δ S = some (δ', S') ∧
  ∀ σ' H' μ', Ext μ H μ' H' → Rl K μ' H' S' → RepEnv K μ' H' σ' δ' → (∀ vs, (∀ i ∈ tsl t, i ∈ vs) → wipe σ' vs = wipe σ vs) → Q σ' H'
def gEvs (K : PySem.W.Frag) (G : GE) (ts : List CT) : TGs := fun xs σ H Q => ∃ μ δ S ds δ' S', RepEnv K μ H σ δ ∧ Rl K μ H S ∧ Reps K μ H ds xs ∧ evTs G ts ds δ S = some (δ', S') ∧
  ∀ σ' H' μ', Ext μ H μ' H' → Rl K μ' H' S' → RepEnv K μ' H' σ' δ' → (∀ vs, (∀ i ∈ tsls ts, i ∈ vs) → wipe σ' vs = wipe σ vs) → Q σ' H'
theorem wipe_set (σ : L2.St) (i : Nat) (x : Option V) : ∀ vs : List Nat, wipe (σ.set i x) vs = if i ∈ vs then wipe σ vs else (wipe σ vs).set i x
  | [] => by simp [wipe]
  | v :: vs => by
    have ih := wipe_set σ i x vs
    unfold wipe
    rw [ih]
    by_cases h : i = v
    · subst h
      rw [if_pos (List.mem_cons_self ..)]
      split
      · rfl
      · rw [List.set_set]
    · by_cases h2 : i ∈ vs
      · rw [if_pos h2, if_pos (List.mem_cons_of_mem _ h2)]
      · rw [if_neg h2, if_neg (fun z => (List.mem_cons.mp z).elim h h2), List.set_comm _ _ h]
theorem _root_.L2.PG.imp {X : Cx} {e : Expr} {t t' : TG} (h : PG X e t) (i : ∀ v σ H Q, t' v σ H Q → t v σ H Q) : PG X e t' := ⟨fun pins s σ H v u Q I r q => h.run pins s σ H v u Q I r (i v σ H Q q)⟩
theorem _root_.L2.PGs.imp {X : Cx} {e : List Expr} {t t' : TGs} (h : PGs X e t) (i : ∀ v σ H Q, t' v σ H Q → t v σ H Q) : PGs X e t' := ⟨fun pins s σ H v u Q I r q => h.run pins s σ H v u Q I r (i v σ H Q q)⟩
def locB (k : Kt) (x : Str) : Bool := match k.sc.names.lookup x with
  | some .local => true
  | some .cell => k.fl x
  | _ => false
section
variable {X : Cx} {k : Kc} {pos : Pos}
theorem locB_ok (hk : KcOk X k) {x : Str} (h : locB k.toKt x = true) : Loc X.env.scope x ∧ (X.fn x = true ∨ X.env.scope.names.lookup x = some .local) := by
  unfold locB at h
  rw [hk.sc] at h
  split at h
  · rename_i e; exact ⟨.inl e, .inr e⟩
  · rename_i e; exact ⟨.inr e, .inl (hk.fl x h)⟩
  · cases h
theorem g_name (hk : KcOk X k) {i : Nat} {x : Str} (h1 : k.N[i]? = some x) (h2 : locB k.toKt x = true) : PG X (.Name x pos) (gEv X.K k.g (.name i)) := by
  obtain ⟨l1, l2⟩ := locB_ok hk h2
  refine (pg_name (i := i) hk.nd (by rw [← hk.N]; exact h1) l1 l2).imp fun v σ H Q ⟨μ, δ, S, d, δ', S', E, R, r, e, q⟩ => ?_
  simp only [evT'] at e
  cases e
  refine q _ H μ Ext.refl R (E.set r) fun vs hv => ?_
  rw [wipe_set, if_pos (hv i (by simp [tsl]))]
theorem gs_nil : PGs X [] (gEvs X.K k.g []) := pgs_nil.imp fun v σ H Q ⟨μ, δ, S, ds, δ', S', E, R, r, e, q⟩ => by
  cases ds with
  | nil =>
    simp only [evTs] at e; cases e
    exact ⟨reps_nil.mp r, q σ H μ Ext.refl R E fun _ _ => rfl⟩
  | cons d ds => simp only [evTs] at e; cases e
theorem assign_star {e : Expr} (h : plainX e = true) (es : List Expr) (env : Env) : assignEach (e :: es) env = (false, assign e env) :: assignEach es env := by
  cases e <;> first | rfl | cases h
theorem gs_cons {e : Expr} {es : List Expr} {t : CT} {ts : List CT} (h1 : PG X e (gEv X.K k.g t)) (h2 : PGs X es (gEvs X.K k.g ts)) (hp : plainX e = true) : PGs X (e :: es) (gEvs X.K k.g (t :: ts)) :=
  (pgs_cons h1 h2 (by rw [assign_star hp]; rfl)).imp fun v σ H Q ⟨μ, δ, S, ds, δ', S', E, R, r, e, q⟩ => by
  cases ds with
  | nil => simp only [evTs] at e; cases e
  | cons d ds =>
    obtain ⟨x, xs, rfl, r1, r2⟩ := reps_cons.mp r
    simp only [evTs] at e
    obtain ⟨⟨δ1, S1⟩, e1, e2⟩ := bindS e
    refine ⟨x, xs, rfl, μ, δ, S, d, δ1, S1, E, R, r1, e1, fun σ1 H1 μ1 E1 R1 N1 w1 => ⟨μ1, δ1, S1, ds, δ', S', N1, R1, r2.mono R E1, e2, fun σ2 H2 μ2 E2 R2 N2 w2 => ?_⟩⟩
    refine q σ2 H2 μ2 (E1.trans E2) R2 N2 fun vs hv => ?_
    rw [w2 vs fun i hi => hv i (by simp [tsls, hi]), w1 vs fun i hi => hv i (by simp [tsls, hi])]
theorem assign_len : ∀ {es : List Expr}, es.all plainX = true → ∀ env : Env, (assignEach es env).length = es.length ∧ (assignEach es env).findIdx? (·.1) = none
  | [], _, _ => ⟨rfl, rfl⟩
  | e :: es, h, env => by
    obtain ⟨h1, h2⟩ := Bool.and_eq_true_iff.mp (show (plainX e && es.all plainX) = true from h)
    obtain ⟨q1, q2⟩ := assign_len h2 env
    rw [assign_star h1]
    refine ⟨by rw [List.length_cons, List.length_cons, q1], ?_⟩
    rw [List.findIdx?_cons, q2]
    rfl
theorem evTs_len {G : GE} : ∀ {ts : List CT} {ds : List D} {δ δ' : En} {S S' : Sto}, evTs G ts ds δ S = some (δ', S') → ds.length = ts.length
  | [], [], _, _, _, _, _ => rfl
  | [], _ :: _, _, _, _, _, e => by simp only [evTs] at e; cases e
  | _ :: _, [], _, _, _, _, e => by simp only [evTs] at e; cases e
  | t :: ts, d :: ds, δ, δ', S, S', e => by
    simp only [evTs] at e
    obtain ⟨⟨δ1, S1⟩, e1, e2⟩ := bindS e
    rw [List.length_cons, List.length_cons, evTs_len e2]
theorem g_tup (hk : KcOk X k) {es : List Expr} {ts : List CT} {kk : Nat} (h : PGs X es (gEvs X.K k.g ts)) (hp : es.all plainX = true) (hl : es.length = ts.length) : PG X (.Tuple es kk pos) (gEv X.K k.g (.tup ts)) := by
  obtain ⟨q1, q2⟩ := assign_len hp X.env
  refine (pg_tup hk.calm h q1 q2).imp fun v σ H Q ⟨μ, δ, S, d, δ', S', E, R, r, e, q⟩ => ?_
  cases d with
  | tup xs =>
    simp only [evT'] at e
    obtain ⟨a, vs, rfl, h1, h2⟩ := rep_tup r
    refine ⟨a, vs, rfl, h1, by rw [← h2.length, evTs_len e, hl], μ, δ, S, xs, δ', S', E, R, h2, e, fun σ1 H1 μ1 E1 R1 N1 w1 => q σ1 H1 μ1 E1 R1 N1 fun vs hv => w1 vs fun i hi => hv i (by simpa [tsl] using hi)⟩
  | _ => simp only [evT'] at e; cases e
theorem set_ld (hk : KcOk X k) : PSet X (fun o i v H Q => rSetL o i v H Q ∨ rSetD o i v H Q) := fun pins s σ H o i v ov iv u Q I ro ri rv h => h.elim (set_list pins s σ H o i v ov iv u Q I ro ri rv) (set_dict (by have := hk.hu; omega) pins s σ H o i v ov iv u Q I ro ri rv)
theorem keyD_vals {K : PySem.W.Frag} {μ : Mu} {H : Hp} : ∀ {is : List D} {q : List Key} {vs : List V}, keyD is = some q → Reps K μ H is vs → vs = q.map kV
  | [], q, vs, e, h => by simp only [keyD, Option.some.injEq] at e; subst e; rw [reps_nil.mp h]; rfl
  | d :: is, q, vs, e, h => by
    obtain ⟨v, r, rfl, p, t⟩ := reps_cons.mp h
    cases d with
    | int i =>
      simp only [keyD] at e
      obtain ⟨q', e1, rfl⟩ := mapS e
      cases rep_int p
      rw [keyD_vals e1 t]; rfl
    | str x =>
      simp only [keyD] at e
      obtain ⟨q', e1, rfl⟩ := mapS e
      cases rep_str p
      rw [keyD_vals e1 t]; rfl
    | _ => simp only [keyD] at e; cases e
theorem any_zip {α : Type} {q : List Key} : ∀ {ks : List (List Key)} {vs : List α}, ks.length = vs.length → ((ks.zip vs).any fun kv => decide (kv.1 = q)) = ks.any fun k => decide (k = q)
  | [], [], _ => rfl
  | k :: ks, v :: vs, l => by
    rw [List.zip_cons_cons, List.any_cons, List.any_cons, any_zip (by simpa using l)]
  | [], _ :: _, l => by cases l
  | _ :: _, [], l => by cases l
theorem put_map {α : Type} {q : List Key} {v : α} : ∀ {ks : List (List Key)} {vs : List α}, ks.length = vs.length → ((ks.zip vs).map fun kv => if kv.1 = q then (kv.1, v) else kv) = ks.zip ((ks.zip vs).map fun p => if p.1 = q then v else p.2)
  | [], [], _ => rfl
  | k :: ks, u :: vs, l => by
    simp only [List.zip_cons_cons, List.map_cons, put_map (q := q) (v := v) (by simpa using l : ks.length = vs.length)]
    congr 1
    split <;> rfl
  | [], _ :: _, l => by cases l
  | _ :: _, [], l => by cases l
theorem putK_zip {ks : List (List Key)} {vs : List V} {q : List Key} {v : V} (l : ks.length = vs.length) : putK (ks.zip vs) q v = (putKs ks q).zip (putXs ks vs q v) := by
  unfold putK putKs putXs
  rw [any_zip l]
  split
  · exact put_map l
  · rw [List.zip_append l]; rfl
theorem putXs_len {α : Type} {ks : List (List Key)} {vs : List α} {q : List Key} {d : α} (l : ks.length = vs.length) : (putKs ks q).length = (putXs ks vs q d).length := by
  unfold putKs putXs
  split
  · rw [List.length_map, List.length_zip, ← l, Nat.min_self]
  · rw [List.length_append, List.length_append, l]; rfl
theorem map_put_rep {K : PySem.W.Frag} {μ : Mu} {H : Hp} {q : List Key} {d : D} {v : V} (r : Rep K μ H d v) : ∀ {ks : List (List Key)} {xs : List D} {vs : List V}, ks.length = vs.length → Reps K μ H xs vs → Reps K μ H ((ks.zip xs).map fun p => if p.1 = q then d else p.2) ((ks.zip vs).map fun p => if p.1 = q then v else p.2)
  | [], xs, vs, l, h => by
    rw [List.zip_nil_left, List.zip_nil_left]; exact Reps.nil
  | k :: ks, [], vs, l, h => by
    rw [reps_nil.mp h] at l; cases l
  | k :: ks, x :: xs, vs, l, h => by
    obtain ⟨u, us, rfl, p, t⟩ := reps_cons.mp h
    simp only [List.zip_cons_cons, List.map_cons]
    refine Reps.cons ?_ (map_put_rep r (by simpa using l) t)
    split
    · exact r
    · exact p
theorem putXs_rep {K : PySem.W.Frag} {μ : Mu} {H : Hp} {ks : List (List Key)} {xs : List D} {vs : List V} {q : List Key} {d : D} {v : V} (l : ks.length = vs.length) (h : Reps K μ H xs vs) (r : Rep K μ H d v) : Reps K μ H (putXs ks xs q d) (putXs ks vs q v) := by
  unfold putXs
  split
  · exact map_put_rep r l h
  · exact h.append (Reps.cons r Reps.nil)
theorem g_sub (hk : KcOk X k) {o i : Expr} {a b : C} (ha : PE X o (tEv X.K k.g a)) (hb : PE X i (tEv X.K k.g b)) (hp : plainX i = true) : PG X (.Subscript o i pos) (gEv X.K k.g (.sub a b)) :=
  (pg_sub ha hb (set_ld hk) (by intro v; cases i <;> first | rfl | cases hp)).imp fun v σ H Q ⟨μ, δ, S, d, δ', S', E, R, r, e, q⟩ => by
  simp only [evT'] at e
  obtain ⟨⟨d1, S1⟩, e1, e2⟩ := bindS e
  obtain ⟨⟨d2, S2⟩, e3, e4⟩ := bindS e2
  obtain ⟨S3, e5, e6⟩ := mapS e4
  cases e6
  refine ev2 E R e1 e3 fun x y H2 μ2 E2 R2 N2 p1 p2 => ?_
  cases d1 with
  | ref n =>
    cases d2 with
    | int j =>
      simp only [setD] at e5
      cases hS : S2[n]? with
      | none => rw [hS] at e5; cases e5
      | some mo =>
        cases mo with
        | lst kp xs =>
          rw [hS] at e5
          obtain ⟨m, e7, e8⟩ := mapS e5
          subst e8
          cases rep_int p2
          simp only [Rep] at p1
          obtain ⟨a', rfl, h1, _⟩ := p1
          obtain ⟨vs, e9, r9⟩ := R2.at_ n _ a' hS h1
          refine .inl ⟨a', vs, j, m, rfl, rfl, e9, by rw [← r9.length]; exact e7, ?_⟩
          have E3 : Ext μ2 H2 μ2 (upd H2 a' (.lst (vs.set m v))) := Ext.put (List.mem_of_getElem? h1) (Kp.putL ⟨_, e9⟩)
          exact q σ _ μ2 (E2.trans E3) (R2.put h1 ⟨_, e9⟩ (r9.set m (r.mono R E2))) (N2.mono R2 E3) fun _ _ => rfl
        | dct kp ks xs => rw [hS] at e5; cases e5
    | _ => simp only [setD] at e5; cases e5
  | rfd n =>
    cases d2 with
    | ntup is =>
      simp only [setD] at e5
      cases hS : S2[n]? with
      | none => rw [hS] at e5; cases e5
      | some mo =>
        cases mo with
        | lst kp xs => rw [hS] at e5; cases e5
        | dct kp ks xs =>
          rw [hS] at e5
          obtain ⟨kq, e7, e8⟩ := bindS e5
          split at e8
          · rename_i hl
            cases e8
            simp only [Rep] at p1 p2
            obtain ⟨a', rfl, h1, _⟩ := p1
            obtain ⟨b', us, rfl, h2, r2⟩ := p2
            have eus := keyD_vals e7 r2
            subst eus
            obtain ⟨vs, l9, e9, r9⟩ := R2.at_ n _ a' hS h1
            have rv := r.mono R E2
            have pz := putK_zip (q := kq) (v := v) l9
            refine .inr ⟨a', _, rfl, DPut.t e9 h2 (by rw [List.length_zip, sizeL]; omega), ?_⟩
            rw [pz]
            have rx := putXs_rep (q := kq) l9 r9 rv
            have lx := putXs_len (q := kq) (d := v) l9
            have E3 : Ext μ2 H2 μ2 (upd H2 a' (.dT ((putKs ks kq).zip (putXs ks vs kq v)))) := Ext.put (List.mem_of_getElem? h1) (Kp.putT ⟨_, e9⟩)
            exact q σ _ μ2 (E2.trans E3) (R2.putT h1 ⟨_, e9⟩ lx rx) (N2.mono R2 E3) fun _ _ => rfl
          · cases e8
    | _ => simp only [setD] at e5; cases e5
  | _ => simp only [setD] at e5; cases e5

/-! ### what is walked -/
def WalkOk (K : PySem.W.Frag) (μ : Mu) (H : Hp) (w : Wk) (J : L2.It) : Prop := ∀ μ1 H1 S1, ExtH μ H μ1 H1 → Rl K μ1 H1 S1 → okW w S1 → ∀ i,
  (∀ d, w.xs[i]? = some d → J.go i H1 ∧ ∀ x H2, J.yld i H1 x H2 → Ext μ1 H1 μ1 H2 ∧ Rl K μ1 H2 S1 ∧ Rep K μ1 H2 d x) ∧ (w.xs.length ≤ i → J.stop i H1)
theorem WalkOk.ext {K : PySem.W.Frag} {μ μ' : Mu} {H H' : Hp} {w : Wk} {J : L2.It} (h : WalkOk K μ H w J) (E : Ext μ H μ' H') : WalkOk K μ' H' w J := fun μ1 H1 S1 E1 R1 o => h μ1 H1 S1 (E.toH.trans E1) R1 o
def tIt (K : PySem.W.Frag) (G : GE) (it : CI) : TI := fun σ H R => ∃ μ δ S w S', RepEnv K μ H σ δ ∧ Rl K μ H S ∧ evI G it δ S = some (w, S') ∧ ∀ J H' μ', Ext μ H μ' H' → Rl K μ' H' S' → WalkOk K μ' H' w J → R J H'
theorem _root_.L2.PI.imp {tg e : Expr} {t t' : TI} (h : PI X tg e t) (i : ∀ σ H Q, t' σ H Q → t σ H Q) : PI X tg e t' := ⟨fun pins s σ H Q I q => h.run pins s σ H Q I (i σ H Q q)⟩
theorem sq_back {K : PySem.W.Frag} {μ μ1 : Mu} {H H1 : Hp} {S S1 : Sto} {d : D} {v : V} {xs : List D} (R : Rl K μ H S) (e : items S d = some xs) (h : Rep K μ H d v) (E : ExtH μ H μ1 H1) (R1 : Rl K μ1 H1 S1) (o : okW ⟨xs, srcOf d⟩ S1) :
    items S1 d = some xs ∧ Rep K μ1 H1 d v := by
  refine ⟨?_, h.monoH R E⟩
  cases d with
  | ref n =>
    obtain ⟨mo, e1, e2⟩ := o n rfl
    simp only [items, e1, Option.map_some, e2]
  | _ => simpa only [items] using e
theorem get_lt {α : Type} {xs : List α} {i : Nat} {x : α} (h : xs[i]? = some x) : i < xs.length := (List.getElem?_eq_some_iff.mp h).1
theorem i_seq {tg l : Expr} {a : C} (ha : PE X l (tEv X.K k.g a)) : PI X tg l (tIt X.K k.g (.seq a)) := ⟨fun pins s σ H R I ⟨μ, δ, S, w, S', E, Rr, e1, q⟩ => by
  simp only [evI] at e1
  obtain ⟨⟨d, S1⟩, e2, e3⟩ := bindS e1
  obtain ⟨xs, e4, e5⟩ := mapS e3
  cases e5
  by_cases ht : isTup d = true
  · cases d with
    | tup ys =>
      simp only [items, Option.some.injEq] at e4
      subst e4
      refine (pi_tup ha).run pins s σ H R I (ev1 E Rr e2 fun x H1 μ1 E1 R1 _ p1 => ?_)
      obtain ⟨b, vs, rfl, h1, h2⟩ := rep_tup p1
      refine ⟨b, rfl, ⟨vs, h1⟩, q _ H1 μ1 E1 R1 fun μ2 H2 S2 E2 R2 o i => ⟨fun d hd => ?_, fun hi => ?_⟩⟩
      · have h1' := E2.sqT R1 h1
        obtain ⟨v, e6, p3⟩ := h2.get hd
        refine ⟨⟨vs, v, h1', e6⟩, fun x H3 y => ?_⟩
        obtain ⟨rfl, y2⟩ := y
        have e7 := (y2 vs h1').symm.trans e6
        cases e7
        exact ⟨Ext.refl, R2, p3.monoH R1 E2⟩
      · exact ⟨vs, E2.sqT R1 h1, by rw [← h2.length]; exact hi⟩
    | _ => cases ht
  · refine (pi_list ha).run pins s σ H R I (ev1 E Rr e2 fun x H1 μ1 E1 R1 _ p1 => ?_)
    have e4' : litems S1 d = some xs := by
      cases d with
      | tup ys => exact absurd rfl ht
      | _ => simpa only [items, litems] using e4
    obtain ⟨b, vs, rfl, h1, h2⟩ := rep_litems R1 e4' p1
    refine ⟨b, rfl, ⟨vs, h1⟩, q _ H1 μ1 E1 R1 fun μ2 H2 S2 E2 R2 o i => ?_⟩
    have back : ∃ us, SqL X.K H2 b us ∧ Reps X.K μ2 H2 xs us := by
      obtain ⟨w1, w2⟩ := sq_back R1 e4 p1 E2 R2 o
      have w1' : litems S2 d = some xs := by
        cases d with
        | tup ys => exact absurd rfl ht
        | _ => simpa only [items, litems] using w1
      obtain ⟨b', us, eb, h3, h4⟩ := rep_litems R2 w1' w2
      cases eb
      exact ⟨us, h3, h4⟩
    obtain ⟨us, h3, h4⟩ := back
    refine ⟨fun d hd => ?_, fun hi => ⟨us, h3, by rw [← h4.length]; exact hi⟩⟩
    obtain ⟨v, e6, p3⟩ := h4.get hd
    refine ⟨⟨us, v, h3, e6⟩, fun x H3 y => ?_⟩
    obtain ⟨rfl, y2⟩ := y
    have e7 := (y2 us h3).symm.trans e6
    cases e7
    exact ⟨Ext.refl, R2, p3⟩⟩
theorem rng_get {lo : Int} {n i : Nat} {d : D} (h : (rngD lo n)[i]? = some d) : i < n ∧ d = .int (lo + i) := by
  unfold rngD at h
  rw [List.getElem?_map] at h
  obtain ⟨j, e1, e2⟩ := mapS h
  obtain ⟨h1, h2⟩ := List.getElem?_eq_some_iff.mp e1
  rw [List.length_range] at h1
  rw [List.getElem_range] at h2
  subst h2
  exact ⟨h1, e2.symm⟩
theorem rng_len {lo : Int} {n : Nat} : (rngD lo n).length = n := by unfold rngD; rw [List.length_map, List.length_range]
theorem walk_rng {K : PySem.W.Frag} {μ : Mu} {H : Hp} {lo : Int} {n : Nat} : WalkOk K μ H ⟨rngD lo n, none⟩ (Itr lo n) := fun μ1 H1 S1 E1 R1 o i => ⟨fun d hd => by
  obtain ⟨h1, rfl⟩ := rng_get hd
  exact ⟨h1, fun x H2 ⟨y1, y2⟩ => by subst y1 y2; exact ⟨Ext.refl, R1, mk_int⟩⟩, fun hi => by rw [rng_len] at hi; exact hi⟩
theorem smallI_ok {i : Int} (h : smallI i = true) : -(2 ^ 62) ≤ i ∧ i < 2 ^ 62 := by
  unfold smallI at h
  simp only [Bool.and_eq_true, decide_eq_true_eq] at h
  exact h
theorem i_rng1 (hk : KcOk X k) {tg e : Expr} {x : Str} {a : C} {p : Pos} (ha : PE X e (tEv X.K k.g a)) (hp : plainX e = true) (hx : x = ("range" : Str)) (hf : x ∈ k.free) (hg : glB k.sc x = true) :
    PI X tg (.Call (.Name x p) [e] [] pos) (tIt X.K k.g (.rng1 a)) := by
  subst hx
  refine (pi_range1 (glB_ok hk hg) (hk.free _ hf) (pa_cons ha pa_nil (star_of hp _ _)) (star_of hp _ _)).imp fun σ H R ⟨μ, δ, S, w, S', E, Rr, e1, q⟩ => ?_
  simp only [evI] at e1
  obtain ⟨⟨d, S1⟩, e2, e3⟩ := bindS e1
  refine ev1 E Rr e2 fun x H1 μ1 E1 R1 _ p1 => ?_
  cases d with
  | int j =>
    simp only at e3
    split at e3
    · rename_i hj
      cases e3
      cases rep_int p1
      obtain ⟨j1, j2⟩ := smallI_ok hj
      exact ⟨j, rfl, j1, j2, q _ H1 μ1 E1 R1 walk_rng⟩
    · cases e3
  | _ => cases e3
theorem i_rng2 (hk : KcOk X k) {tg e e' : Expr} {x : Str} {a b : C} {p : Pos} (ha : PE X e (tEv X.K k.g a)) (hb : PE X e' (tEv X.K k.g b)) (hp : plainX e = true) (hp' : plainX e' = true) (hx : x = ("range" : Str)) (hf : x ∈ k.free) (hg : glB k.sc x = true) :
    PI X tg (.Call (.Name x p) [e, e'] [] pos) (tIt X.K k.g (.rng2 a b)) := by
  subst hx
  refine (pi_range2 (glB_ok hk hg) (hk.free _ hf) (pa_cons ha (pa_cons hb pa_nil (star_of hp' _ _)) (star_of hp _ _)) (by rw [star_of hp, star_of hp']; rfl) (star_of hp' _ _)).imp fun σ H R ⟨μ, δ, S, w, S', E, Rr, e1, q⟩ => ?_
  simp only [evI] at e1
  obtain ⟨⟨d, S1⟩, e2, e3⟩ := bindS e1
  obtain ⟨⟨d2, S2⟩, e4, e5⟩ := bindS e3
  refine ev2 E Rr e2 e4 fun x y H1 μ1 E1 R1 _ p1 p2 => ?_
  cases d with
  | int i =>
    cases d2 with
    | int j =>
      simp only at e5
      split at e5
      · rename_i hj
        cases e5
        cases rep_int p1
        cases rep_int p2
        obtain ⟨i1, i2⟩ := smallI_ok hj.1
        obtain ⟨j1, j2⟩ := smallI_ok hj.2
        exact ⟨i, j, rfl, ⟨i1, i2, j1, j2⟩, q _ H1 μ1 E1 R1 walk_rng⟩
      · cases e5
    | _ => cases e5
  | _ => cases e5
theorem enm_get : ∀ {xs : List D} {n i : Nat} {d : D}, (enmD n xs)[i]? = some d → ∃ x, xs[i]? = some x ∧ d = .tup [.int ((n + i : Nat) : Int), x]
  | [], n, i, d, h => by simp [enmD] at h
  | x :: xs, n, 0, d, h => by
    simp [enmD] at h
    exact ⟨x, rfl, h.symm⟩
  | x :: xs, n, i + 1, d, h => by
    simp only [enmD, List.getElem?_cons_succ] at h
    obtain ⟨y, e1, e2⟩ := enm_get h
    refine ⟨y, by simpa using e1, ?_⟩
    rw [e2]
    congr 3
    omega
theorem enm_len : ∀ {xs : List D} {n : Nat}, (enmD n xs).length = xs.length
  | [], _ => rfl
  | x :: xs, n => by simp [enmD, enm_len]
theorem walk_enm {K : PySem.W.Frag} {μ : Mu} {H : Hp} {a : Addr} {xs : List D} {vs : List V} {S : Sto} (R : Rl K μ H S) (hs : ∀ μ1 H1 S1, ExtH μ H μ1 H1 → Rl K μ1 H1 S1 → SqL K H1 a vs) (hr : Reps K μ H xs vs) : WalkOk K μ H ⟨enmD 0 xs, none⟩ (Ite K a) := fun μ1 H1 S1 E1 R1 o i => ⟨fun d hd => by
  obtain ⟨x, e1, rfl⟩ := enm_get hd
  obtain ⟨v, e2, p⟩ := hr.get e1
  have h1 := hs μ1 H1 S1 E1 R1
  refine ⟨⟨vs, v, h1, e2⟩, fun y H2 ⟨T, z, y1, y2, y3, y4⟩ => ?_⟩
  have e3 := (y4 vs h1).symm.trans e2
  cases e3
  subst y1 y3
  refine ⟨Ext.new y2, R1.new y2, mk_tup (SqT.of upd_same) (Reps.cons ?_ (Reps.cons ((p.monoH R E1).mono R1 (Ext.new y2)) Reps.nil))⟩
  rw [Nat.zero_add]
  exact mk_int, fun hi => ⟨vs, hs μ1 H1 S1 E1 R1, by rw [← hr.length]; rw [enm_len] at hi; exact hi⟩⟩
theorem walk_enmT {K : PySem.W.Frag} {μ : Mu} {H : Hp} {a : Addr} {xs : List D} {vs : List V} {S : Sto} (R : Rl K μ H S) (hs : ∀ μ1 H1 S1, ExtH μ H μ1 H1 → Rl K μ1 H1 S1 → SqT K H1 a vs) (hr : Reps K μ H xs vs) : WalkOk K μ H ⟨enmD 0 xs, none⟩ (IteT K a) := fun μ1 H1 S1 E1 R1 o i => ⟨fun d hd => by
  obtain ⟨x, e1, rfl⟩ := enm_get hd
  obtain ⟨v, e2, p⟩ := hr.get e1
  have h1 := hs μ1 H1 S1 E1 R1
  refine ⟨⟨vs, v, h1, e2⟩, fun y H2 ⟨T, z, y1, y2, y3, y4⟩ => ?_⟩
  have e3 := (y4 vs h1).symm.trans e2
  cases e3
  subst y1 y3
  refine ⟨Ext.new y2, R1.new y2, mk_tup (SqT.of upd_same) (Reps.cons ?_ (Reps.cons ((p.monoH R E1).mono R1 (Ext.new y2)) Reps.nil))⟩
  rw [Nat.zero_add]
  exact mk_int, fun hi => ⟨vs, hs μ1 H1 S1 E1 R1, by rw [← hr.length]; rw [enm_len] at hi; exact hi⟩⟩
theorem i_enm (hk : KcOk X k) {e : Expr} {x : Str} {a : C} {p tpos : Pos} {elts : List Expr} {kk : Nat} (ha : PE X e (tEv X.K k.g a)) (hp : plainX e = true) (hx : x = ("enumerate" : Str)) (hf : x ∈ k.free) (hg : glB k.sc x = true) :
    PI X (.Tuple elts kk tpos) (.Call (.Name x p) [e] [] pos) (tIt X.K k.g (.enm a)) := by
  subst hx
  refine (pi_enumA (glB_ok hk hg) (hk.free _ hf) (pa_cons ha pa_nil (star_of hp _ _)) (star_of hp _ _)).imp fun σ H R ⟨μ, δ, S, w, S', E, Rr, e1, q⟩ => ?_
  simp only [evI] at e1
  obtain ⟨⟨d, S1⟩, e2, e3⟩ := bindS e1
  refine ev1 E Rr e2 fun x H1 μ1 E1 R1 _ p1 => ?_
  cases d with
  | lst xs =>
    cases e3
    simp only [Rep] at p1
    obtain ⟨b, vs, rfl, h0, h1, h2⟩ := p1
    exact ⟨b, vs, rfl, .inl ⟨SqL.of h1, q _ H1 μ1 E1 R1 (walk_enm R1 (fun μ2 H2 S2 E2 R2 => SqL.of (E2.keep b _ h0.1 h0.2 h1)) h2)⟩⟩
  | scr xs =>
    cases e3
    simp only [Rep] at p1
    obtain ⟨b, vs, rfl, h1, h2⟩ := p1
    exact ⟨b, vs, rfl, .inl ⟨h1.sql, q _ H1 μ1 E1 R1 (walk_enm R1 (fun μ2 H2 S2 E2 R2 => (E2.scr R1 h1).sql) h2)⟩⟩
  | tup xs =>
    cases e3
    obtain ⟨b, vs, rfl, h1, h2⟩ := rep_tup p1
    exact ⟨b, vs, rfl, .inr ⟨h1, q _ H1 μ1 E1 R1 (walk_enmT R1 (fun μ2 H2 S2 E2 R2 => E2.sqT R1 h1) h2)⟩⟩
  | _ => cases e3
theorem zip_get : ∀ {xs ys : List D} {i : Nat} {d : D}, (zipD xs ys)[i]? = some d → ∃ x y, xs[i]? = some x ∧ ys[i]? = some y ∧ d = .tup [x, y]
  | [], ys, i, d, h => by cases ys <;> simp [zipD] at h
  | x :: xs, [], i, d, h => by simp [zipD] at h
  | x :: xs, y :: ys, 0, d, h => by
    simp [zipD] at h
    exact ⟨x, y, rfl, rfl, h.symm⟩
  | x :: xs, y :: ys, i + 1, d, h => by
    simp only [zipD, List.getElem?_cons_succ] at h
    obtain ⟨u, v, e1, e2, e3⟩ := zip_get h
    exact ⟨u, v, by simpa using e1, by simpa using e2, e3⟩
theorem zip_len : ∀ {xs ys : List D}, (zipD xs ys).length = min xs.length ys.length
  | [], ys => by cases ys <;> simp [zipD]
  | x :: xs, [] => by simp [zipD]
  | x :: xs, y :: ys => by simp only [zipD, List.length_cons, zip_len]; omega
theorem i_zip (hk : KcOk X k) {e e' : Expr} {x : Str} {a b : C} {p tpos : Pos} {elts : List Expr} {kk : Nat} (ha : PE X e (tEv X.K k.g a)) (hb : PE X e' (tEv X.K k.g b)) (hp : plainX e = true) (hp' : plainX e' = true) (hx : x = ("zip" : Str)) (hf : x ∈ k.free) (hg : glB k.sc x = true) :
    PI X (.Tuple elts kk tpos) (.Call (.Name x p) [e, e'] [] pos) (tIt X.K k.g (.zip a b)) := by
  subst hx
  refine (RZ.pi_zipA (glB_ok hk hg) (hk.free _ hf) (pa_cons ha (pa_cons hb pa_nil (star_of hp' _ _)) (star_of hp _ _)) (star_of hp _ _) (nostar (es := [e']) (by show (plainX e' && true) = true; rw [hp']; rfl) _ _)).imp fun σ H R ⟨μ, δ, S, w, S', E, Rr, e1, q⟩ => ?_
  simp only [evI] at e1
  obtain ⟨⟨d, S1⟩, e2, e3⟩ := bindS e1
  obtain ⟨⟨d2, S2⟩, e4, e5⟩ := bindS e3
  refine ev2 E Rr e2 e4 fun x y H1 μ1 E1 R1 _ p1 p2 => ?_
  cases d with
  | lst xs =>
    cases d2 with
    | lst ys =>
      cases e5
      simp only [Rep] at p1 p2
      obtain ⟨b1, vs1, rfl, f0, f1, f2⟩ := p1
      obtain ⟨b2, vs2, rfl, g0, g1, g2⟩ := p2
      refine ⟨b1, b2, vs1, vs2, rfl, .inl ⟨SqL.of f1, SqL.of g1, q _ H1 μ1 E1 R1 fun μ2 H2 S2 E2 R2 o i => ?_⟩⟩
      have f1' : SqL X.K H2 b1 vs1 := SqL.of (E2.keep b1 _ f0.1 f0.2 f1)
      have g1' : SqL X.K H2 b2 vs2 := SqL.of (E2.keep b2 _ g0.1 g0.2 g1)
      refine ⟨fun d hd => ?_, fun hi => ⟨vs1, vs2, f1', g1', ?_⟩⟩
      · obtain ⟨x, y, e6, e7, rfl⟩ := zip_get hd
        obtain ⟨v1, e8, p3⟩ := f2.get e6
        obtain ⟨v2, e9, p4⟩ := g2.get e7
        refine ⟨⟨vs1, vs2, v1, v2, f1', g1', e8, e9⟩, fun y H3 ⟨T, z1, z2, y1, y2, y3, y4, y5⟩ => ?_⟩
        have w1 := (y4 vs1 f1').symm.trans e8
        have w2 := (y5 vs2 g1').symm.trans e9
        cases w1; cases w2
        subst y1 y3
        exact ⟨Ext.new y2, R2.new y2, mk_tup (SqT.of upd_same) (Reps.cons ((p3.monoH R1 E2).mono R2 (Ext.new y2)) (Reps.cons ((p4.monoH R1 E2).mono R2 (Ext.new y2)) Reps.nil))⟩
      · have hi' : min xs.length ys.length ≤ i := by rw [← zip_len]; exact hi
        rw [← f2.length, ← g2.length]
        omega
    | _ => cases e5
  | tup xs =>
    cases d2 with
    | tup ys =>
      cases e5
      obtain ⟨b1, vs1, rfl, f1, f2⟩ := rep_tup p1
      obtain ⟨b2, vs2, rfl, g1, g2⟩ := rep_tup p2
      refine ⟨b1, b2, vs1, vs2, rfl, .inr ⟨f1, g1, q _ H1 μ1 E1 R1 fun μ2 H2 S2 E2 R2 o i => ?_⟩⟩
      have f1' : SqT X.K H2 b1 vs1 := E2.sqT R1 f1
      have g1' : SqT X.K H2 b2 vs2 := E2.sqT R1 g1
      refine ⟨fun d hd => ?_, fun hi => ⟨vs1, vs2, f1', g1', ?_⟩⟩
      · obtain ⟨x, y, e6, e7, rfl⟩ := zip_get hd
        obtain ⟨v1, e8, p3⟩ := f2.get e6
        obtain ⟨v2, e9, p4⟩ := g2.get e7
        refine ⟨⟨vs1, vs2, v1, v2, f1', g1', e8, e9⟩, fun y H3 ⟨T, z1, z2, y1, y2, y3, y4, y5⟩ => ?_⟩
        have w1 := (y4 vs1 f1').symm.trans e8
        have w2 := (y5 vs2 g1').symm.trans e9
        cases w1; cases w2
        subst y1 y3
        exact ⟨Ext.new y2, R2.new y2, mk_tup (SqT.of upd_same) (Reps.cons ((p3.monoH R1 E2).mono R2 (Ext.new y2)) (Reps.cons ((p4.monoH R1 E2).mono R2 (Ext.new y2)) Reps.nil))⟩
      · have hi' : min xs.length ys.length ≤ i := by rw [← zip_len]; exact hi
        rw [← f2.length, ← g2.length]
        omega
    | _ => cases e5
  | _ => cases e5
theorem zipn_get : ∀ {xs ys : List D} {i : Nat} {d : D}, (zipNt xs ys)[i]? = some d → ∃ x y, xs[i]? = some x ∧ ys[i]? = some y ∧ d = .ntup [x, y]
  | [], ys, i, d, h => by cases ys <;> simp [zipNt] at h
  | x :: xs, [], i, d, h => by simp [zipNt] at h
  | x :: xs, y :: ys, 0, d, h => by
    simp [zipNt] at h
    exact ⟨x, y, rfl, rfl, h.symm⟩
  | x :: xs, y :: ys, i + 1, d, h => by
    simp only [zipNt, List.getElem?_cons_succ] at h
    obtain ⟨u, v, e1, e2, e3⟩ := zipn_get h
    exact ⟨u, v, by simpa using e1, by simpa using e2, e3⟩
theorem zipn_len : ∀ {xs ys : List D}, (zipNt xs ys).length = min xs.length ys.length
  | [], ys => by cases ys <;> simp [zipNt]
  | x :: xs, [] => by simp [zipNt]
  | x :: xs, y :: ys => by simp only [zipNt, List.length_cons, zipn_len]; omega
theorem i_zipN (hk : KcOk X k) {e e' : Expr} {x y : Str} {a b : C} {p tpos : Pos} (ha : PE X e (tEv X.K k.g a)) (hb : PE X e' (tEv X.K k.g b)) (hp : plainX e = true) (hp' : plainX e' = true) (hx : x = ("zip" : Str)) (hf : x ∈ k.free) (hg : glB k.sc x = true) :
    PI X (.Name y tpos) (.Call (.Name x p) [e, e'] [] pos) (tIt X.K k.g (.zipN a b)) := by
  subst hx
  refine (Zn.pi_zipN (glB_ok hk hg) (hk.free _ hf) (pa_cons ha (pa_cons hb pa_nil (star_of hp' _ _)) (star_of hp _ _)) (star_of hp _ _) (nostar (es := [e']) (by show (plainX e' && true) = true; rw [hp']; rfl) _ _)).imp fun σ H R ⟨μ, δ, S, w, S', E, Rr, e1, q⟩ => ?_
  simp only [evI] at e1
  obtain ⟨⟨d, S1⟩, e2, e3⟩ := bindS e1
  obtain ⟨⟨d2, S2⟩, e4, e5⟩ := bindS e3
  refine ev2 E Rr e2 e4 fun x y H1 μ1 E1 R1 _ p1 p2 => ?_
  cases d with
  | lst xs =>
    cases d2 with
    | lst ys =>
      cases e5
      simp only [Rep] at p1 p2
      obtain ⟨b1, vs1, rfl, f0, f1, f2⟩ := p1
      obtain ⟨b2, vs2, rfl, g0, g1, g2⟩ := p2
      refine ⟨b1, b2, vs1, vs2, rfl, SqL.of f1, SqL.of g1, q _ H1 μ1 E1 R1 fun μ2 H2 S2 E2 R2 o i => ?_⟩
      have f1' : SqL X.K H2 b1 vs1 := SqL.of (E2.keep b1 _ f0.1 f0.2 f1)
      have g1' : SqL X.K H2 b2 vs2 := SqL.of (E2.keep b2 _ g0.1 g0.2 g1)
      refine ⟨fun d hd => ?_, fun hi => ⟨vs1, vs2, f1', g1', ?_⟩⟩
      · obtain ⟨x, y, e6, e7, rfl⟩ := zipn_get hd
        obtain ⟨v1, e8, p3⟩ := f2.get e6
        obtain ⟨v2, e9, p4⟩ := g2.get e7
        refine ⟨⟨vs1, vs2, v1, v2, f1', g1', e8, e9⟩, fun y H3 ⟨T, z1, z2, y1, y2, y3, y4, y5⟩ => ?_⟩
        have w1 := (y4 vs1 f1').symm.trans e8
        have w2 := (y5 vs2 g1').symm.trans e9
        cases w1; cases w2
        subst y1 y3
        refine ⟨Ext.new y2, R2.new y2, ?_⟩
        simp only [Rep]
        exact ⟨T, _, rfl, upd_same, Reps.cons ((p3.monoH R1 E2).mono R2 (Ext.new y2)) (Reps.cons ((p4.monoH R1 E2).mono R2 (Ext.new y2)) Reps.nil)⟩
      · have hi' : min xs.length ys.length ≤ i := by rw [← zipn_len]; exact hi
        rw [← f2.length, ← g2.length]
        omega
    | _ => cases e5
  | _ => cases e5
end
end Dn

set_option maxHeartbeats 4000000
namespace Dn
open PySem PySem.Spec PyProof.Rows L2

/-! ### list comprehensions -/
section
variable {K : PySem.W.Frag} {G : GE} {μ μ' : Mu} {H H' : Hp} {S : Sto} {σ : L2.St} {δ : En}
theorem wipeD_length (δ : En) : ∀ vs : List Nat, (wipeD δ vs).length = δ.length
  | [] => rfl
  | v :: vs => by unfold wipeD; rw [List.length_set, wipeD_length δ vs]
theorem wipe_rep (h : RepEnv K μ H σ δ) : ∀ vs : List Nat, RepEnv K μ H (wipe σ vs) (wipeD δ vs)
  | [] => h
  | v :: vs => by
    have ih := wipe_rep h vs
    unfold wipe wipeD
    refine ⟨by rw [List.length_set, List.length_set]; exact ih.1, fun i d e => ?_⟩
    by_cases hv : v = i
    · subst hv
      have hi : v < (wipeD δ vs).length := by
        have := (List.getElem?_eq_some_iff.mp e).1
        rwa [List.length_set] at this
      rw [List.getElem?_set_self hi] at e
      cases e
    · rw [List.getElem?_set_ne hv] at e
      rw [List.getElem?_set_ne hv]
      exact ih.2 i d e
def tIfv (K : PySem.W.Frag) (G : GE) (ifs : List C) : TT := fun σ H Q => ∃ μ δ S b S', RepEnv K μ H σ δ ∧ Rl K μ H S ∧ evIf G ifs δ S = some (b, S') ∧ ∀ H' μ', Ext μ H μ' H' → Rl K μ' H' S' → Q b H'
theorem Ext.off {p : Addr} {o : HO} (E : Ext μ H μ' H') (hp : H p = none) : Ext μ H μ' (upd H' p o) := by
  refine ⟨E.hid, E.pre, fun a u ha e => ?_, fun a e => ?_, fun a => ?_⟩
  · rw [upd_ne (show a ≠ p from fun z => by rw [z, hp] at e; cases e)]
    exact E.keep a u ha e
  · by_cases h : a = p
    · rw [h, upd_same]; simp
    · rw [upd_ne h]; exact E.live a e
  · by_cases h : a = p
    · subst h
      exact ⟨fun ⟨vs, z⟩ => (by rw [hp] at z; cases z), fun ⟨vs, z⟩ => (by rw [hp] at z; cases z)⟩
    · exact ⟨fun z => by obtain ⟨vs, q⟩ := (E.kp a).1 z; exact ⟨vs, by rw [upd_ne h]; exact q⟩, fun z => by obtain ⟨vs, q⟩ := (E.kp a).2 z; exact ⟨vs, by rw [upd_ne h]; exact q⟩⟩
theorem Ext.memHid (E : Ext μ H μ' H') {p : Addr} (h : p ∈ μ.hid) : p ∈ μ'.hid := by
  obtain ⟨ξ, e, _⟩ := E.hid
  rw [e]
  exact List.mem_append_right _ h
theorem drop_cons {α : Type} {xs : List α} {i : Nat} (h : i < xs.length) : xs.drop i = xs[i] :: xs.drop (i + 1) := List.drop_eq_getElem_cons h
theorem wipe_mem (σ : L2.St) (v : Nat) : ∀ us : List Nat, v ∈ us → (wipe σ us).set v none = wipe σ us
  | [], h => by cases h
  | u :: us, h => by
    unfold wipe
    by_cases e : u = v
    · subst e; rw [List.set_set]
    · rw [List.set_comm _ _ e]
      rcases List.mem_cons.mp h with q | q
      · exact absurd q.symm e
      · rw [wipe_mem σ v us q]
theorem wipe_twice (σ : L2.St) : ∀ vs us : List Nat, (∀ v ∈ vs, v ∈ us) → wipe (wipe σ us) vs = wipe σ us
  | [], _, _ => rfl
  | v :: vs, us, h => by
    show (wipe (wipe σ us) vs).set v none = _
    rw [wipe_twice σ vs us fun z hz => h z (List.mem_cons_of_mem _ hz)]
    exact wipe_mem σ v us (h v (List.mem_cons_self ..))
theorem lc_imp {elt : C} {t : CT} {it : CI} {ifs : List C} {own : List Nat} (ht : ∀ i ∈ tsl t, i ∈ own) {Q : VK} (h : tEv K G (.lc elt t it ifs own) σ H Q) :
    tLc (tIt K G it) (gEv K G t) (tIfv K G ifs) (tEv K G elt) own σ H Q := by
  obtain ⟨μ, δ, S, d, S', E, R, e1, q⟩ := h
  simp only [evE] at e1
  obtain ⟨⟨w, S1⟩, e2, e3⟩ := bindS e1
  obtain ⟨⟨ys, S2⟩, e4, e5⟩ := bindS e3
  generalize hturn : (fun (x : D) (S1 : Sto) => (evT' G t x (wipeD δ own) S1).bind fun e => (evIf G ifs e.1 e.2).bind fun b => if b.1 = true then (evE G elt e.1 b.2).map fun y => (some y.1, y.2) else some (none, b.2)) = turn at e4
  split at e5
  · rename_i hlen
    replace hlen : ys.length ≤ 16777216 := hlen
    cases e5
    refine ⟨μ, δ, S, w, S1, E, R, e2, fun J H1 μ1 E1 R1 wk Dl hD => ?_⟩
    refine ⟨fun i m H' => i + m = w.xs.length ∧ ∃ μ' S' acc accD, Ext μ1 H1 μ' H' ∧ Rl K μ' H' S' ∧ Dl ∈ μ'.hid ∧ H' Dl = some (.lst acc) ∧ Reps K μ' H' accD acc ∧ ∃ rest, loopLc w turn (w.xs.drop i) S' = some (rest, S2) ∧ accD ++ rest = ys,
      ⟨w.xs.length, by simp, μ1.hide Dl, S1, [], [], Ext.hide hD, R1.hide hD, List.mem_cons_self .., upd_same, Reps.nil, ys, by simpa using e4, rfl⟩, ?_⟩
    rintro i m H' ⟨him, μ', S', acc, accD, E', R', hid, hacc, racc, rest, e6, e7⟩
    have N' : RepEnv K μ' H' σ δ := (E.mono R E1).mono R1 E'
    by_cases hi : i < w.xs.length
    · rw [drop_cons hi] at e6
      unfold loopLc at e6
      split at e6
      · rename_i ok
        obtain ⟨⟨o, S3⟩, e8, e9⟩ := bindS e6
        obtain ⟨⟨rest', S4⟩, e10, e11⟩ := mapS e9
        obtain ⟨z1, z2⟩ := Prod.mk.inj e11
        replace z2 := z2.symm
        subst z2
        subst z1
        obtain ⟨wgo, _⟩ := wk μ' H' S' E'.toH R' ok i
        obtain ⟨go, yl⟩ := wgo _ (List.getElem?_eq_getElem hi)
        refine .inr ⟨go, fun H'' => ∃ μ' S' acc accD, Ext μ1 H1 μ' H'' ∧ Rl K μ' H'' S' ∧ Dl ∈ μ'.hid ∧ H'' Dl = some (.lst acc) ∧ Reps K μ' H'' accD acc ∧ ∃ rest, loopLc w turn (w.xs.drop (i + 1)) S' = some (rest, S2) ∧ accD ++ rest = ys,
          fun H'' n => ⟨m - 1, by omega, by omega, n⟩, fun x H2 y => ?_⟩
        obtain ⟨E2, R2, p2⟩ := yl x H2 y
        subst hturn
        obtain ⟨⟨δ3, T3⟩, f1, f2⟩ := bindS e8
        obtain ⟨⟨b, T4⟩, f3, f4⟩ := bindS f2
        refine ⟨μ', wipeD δ own, S', _, δ3, T3, wipe_rep (N'.mono R' E2) own, R2, p2, f1, fun σ3 H3 μ3 E3 R3 N3 w3 => ⟨?_, ?_⟩⟩
        · rw [w3 own ht]
          exact wipe_twice σ own own fun _ h => h
        · refine ⟨μ3, δ3, T3, b, T4, N3, R3, f3, fun H4 μ4 E4 R4 => ?_⟩
          have E24 : Ext μ' H' μ4 H4 := (E2.trans E3).trans E4
          have N4 := N3.mono R3 E4
          cases b with
          | true =>
            simp only [↓reduceIte] at f4
            refine iteT ?_
            obtain ⟨⟨y1, T5⟩, f5, f6⟩ := mapS f4
            cases f6
            refine ev1 N4 R4 f5 fun v H5 μ5 E5 R5 _ p5 => ?_
            have E25 : Ext μ' H' μ5 H5 := E24.trans E5
            have hk5 : H5 Dl = some (.lst acc) := E25.keep Dl _ (R'.sep Dl hid) hacc
            have hid5 : Dl ∈ μ5.hid := E25.memHid hid
            have hz : ¬ μ5.fz Dl := fun z => z.2 hid5
            have racc5 := racc.mono R' E25
            have hl : accD.length < 16777216 := by
              have : (accD ++ (some y1).toList ++ rest').length = ys.length := by rw [← e7]; simp
              simp at this
              omega
            refine ⟨acc, hk5, by rw [sizeL, ← racc.length]; exact hl, μ5, T5, acc ++ [v], accD ++ [y1], (E'.trans E25).off hD, R5.off hid5 hk5, hid5, upd_same, ?_, rest', e10, ?_⟩
            · exact (Reps.off hz hk5 racc5).append (Reps.cons (Rep.off hz hk5 p5) Reps.nil)
            · rw [← e7]; simp
          | false =>
            simp only [Bool.false_eq_true, ↓reduceIte] at f4
            refine iteF ?_
            cases f4
            exact ⟨μ4, _, acc, accD, E'.trans E24, R4, E24.memHid hid, E24.keep Dl _ (R'.sep Dl hid) hacc, racc.mono R' E24, rest', e10, by rw [← e7]; simp⟩
      · cases e6
    · have e8 : w.xs.drop i = [] := List.drop_eq_nil_of_le (by omega)
      rw [e8] at e6
      unfold loopLc at e6
      split at e6
      · rename_i ok
        cases e6
        rw [List.append_nil] at e7
        subst e7
        obtain ⟨_, stop⟩ := wk μ' H' _ E'.toH R' ok i
        refine .inl ⟨stop (by omega), ?_⟩
        have hh : ∀ a ∈ μ1.hid, a ∈ μ'.hid := fun a ha => E'.memHid ha
        have E'' : Ext μ1 H1 (μ'.show μ1.hid) H' := ⟨⟨[], rfl, fun _ h => nomatch h⟩, E'.pre, E'.keep, E'.live, E'.kp⟩
        refine q (.ref Dl) H' (μ'.show μ1.hid) (E1.trans E'') (R'.shown hh) (mk_lst ⟨R'.sep Dl hid, fun z => (R1.fz hD).2 z⟩ hacc (Reps.shown hh racc))
      · cases e6
  · cases e5
theorem loop_head {w : Wk} {turn : D → Sto → Option (List D × Sto)} {S S2 : Sto} {x : D} {r ys : List D} (h : loopLn w turn (x :: r) S = some (ys, S2)) : okW w S ∧ ∃ zs S3 rest, turn x S = some (zs, S3) ∧ loopLn w turn r S3 = some (rest, S2) ∧ ys = zs ++ rest := by
  unfold loopLn at h
  split at h
  · rename_i ok
    obtain ⟨⟨zs, S3⟩, e8, e9⟩ := bindS h
    obtain ⟨⟨rest, S4⟩, e10, e11⟩ := mapS e9
    cases e11
    exact ⟨ok, zs, S3, rest, e8, e10, rfl⟩
  · cases h
theorem loop_head1 {w : Wk} {turn : D → Sto → Option (Option D × Sto)} {S S2 : Sto} {x : D} {r ys : List D} (h : loopLc w turn (x :: r) S = some (ys, S2)) : okW w S ∧ ∃ o S3 rest, turn x S = some (o, S3) ∧ loopLc w turn r S3 = some (rest, S2) ∧ ys = o.toList ++ rest := by
  unfold loopLc at h
  split at h
  · rename_i ok
    obtain ⟨⟨zs, S3⟩, e8, e9⟩ := bindS h
    obtain ⟨⟨rest, S4⟩, e10, e11⟩ := mapS e9
    cases e11
    exact ⟨ok, zs, S3, rest, e8, e10, rfl⟩
  · cases h
theorem loop_nil {w : Wk} {turn : D → Sto → Option (List D × Sto)} {S S2 : Sto} {ys : List D} (h : loopLn w turn [] S = some (ys, S2)) : okW w S ∧ ys = [] ∧ S2 = S := by
  unfold loopLn at h
  split at h
  · rename_i ok; cases h; exact ⟨ok, rfl, rfl⟩
  · cases h
theorem loop_nil1 {w : Wk} {turn : D → Sto → Option (Option D × Sto)} {S S2 : Sto} {ys : List D} (h : loopLc w turn [] S = some (ys, S2)) : okW w S ∧ ys = [] ∧ S2 = S := by
  unfold loopLc at h
  split at h
  · rename_i ok; cases h; exact ⟨ok, rfl, rfl⟩
  · cases h
theorem lc2_imp {elt : C} {t t2 : CT} {it it2 : CI} {own own2 : List Nat} (ht : ∀ i ∈ tsl t, i ∈ own) (ht2 : ∀ i ∈ tsl t2, i ∈ own2) {Q : VK} (h : tEv K G (.lc2 elt t it t2 it2 own own2) σ H Q) :
    tLc2 (tIt K G it) (gEv K G t) (tIfv K G []) (tIt K G it2) (gEv K G t2) (tIfv K G []) (tEv K G elt) own own2 σ H Q := by
  obtain ⟨μ, δ, S, d, S', E, R, e1, q⟩ := h
  simp only [evE] at e1
  obtain ⟨⟨w, S1⟩, e2, e3⟩ := bindS e1
  obtain ⟨⟨ys, S2⟩, e4, e5⟩ := bindS e3
  generalize hturn : (fun (x : D) (S1 : Sto) => (evT' G t x (wipeD δ own) S1).bind fun e => (evI G it2 e.1 e.2).bind fun w2 => loopLc w2.1 (fun y S2 => (evT' G t2 y (wipeD e.1 own2) S2).bind fun e2 => (evE G elt e2.1 e2.2).map fun z => (some z.1, z.2)) w2.1.xs w2.2) = turn at e4
  split at e5
  · rename_i hlen
    replace hlen : ys.length ≤ 16777216 := hlen
    cases e5
    refine ⟨μ, δ, S, w, S1, E, R, e2, fun J H1 μ1 E1 R1 wk Dl hD => ?_⟩
    let Z : Hp → Sto → List D → Prop := fun H' S' accD => ∃ μ' acc, Ext μ1 H1 μ' H' ∧ Rl K μ' H' S' ∧ Dl ∈ μ'.hid ∧ H' Dl = some (.lst acc) ∧ Reps K μ' H' accD acc
    refine ⟨fun i m H' => i + m = w.xs.length ∧ ∃ S' accD, Z H' S' accD ∧ ∃ rest, loopLn w turn (w.xs.drop i) S' = some (rest, S2) ∧ accD ++ rest = ys,
      ⟨w.xs.length, by simp, S1, [], ⟨μ1.hide Dl, [], Ext.hide hD, R1.hide hD, List.mem_cons_self .., upd_same, Reps.nil⟩, ys, by simpa using e4, rfl⟩, ?_⟩
    rintro i m H' ⟨him, S', accD, ⟨μ', acc, E', R', hid, hacc, racc⟩, rest, e6, e7⟩
    have N' : RepEnv K μ' H' σ δ := (E.mono R E1).mono R1 E'
    by_cases hi : i < w.xs.length
    · rw [drop_cons hi] at e6
      obtain ⟨ok, zs, S3, rest', e8, e10, z1⟩ := loop_head e6
      subst z1
      obtain ⟨wgo, _⟩ := wk μ' H' S' E'.toH R' ok i
      obtain ⟨go, yl⟩ := wgo _ (List.getElem?_eq_getElem hi)
      refine .inr ⟨go, fun H'' => ∃ S' accD, Z H'' S' accD ∧ ∃ rest, loopLn w turn (w.xs.drop (i + 1)) S' = some (rest, S2) ∧ accD ++ rest = ys,
        fun H'' n => ⟨m - 1, by omega, by omega, n⟩, fun x H2 y => ?_⟩
      obtain ⟨E2, R2, p2⟩ := yl x H2 y
      subst hturn
      obtain ⟨⟨δ3, T3⟩, f1, f2⟩ := bindS e8
      obtain ⟨⟨w2, T4⟩, f3, f4⟩ := bindS f2
      refine ⟨μ', wipeD δ own, S', _, δ3, T3, wipe_rep (N'.mono R' E2) own, R2, p2, f1, fun σ3 H3 μ3 E3 R3 N3 w3 => ⟨?_, ?_⟩⟩
      · rw [w3 own ht]
        exact wipe_twice σ own own fun _ h => h
      · refine ⟨μ3, δ3, T3, true, T3, N3, R3, by simp only [evIf], fun H4 μ4 E4 R4 => ?_⟩
        refine iteT ?_
        have N4 := N3.mono R3 E4
        refine ⟨μ4, δ3, T3, w2, T4, N4, R4, f3, fun J1 H5 μ5 E5 R5 wk2 => ?_⟩
        have E25 : Ext μ' H' μ5 H5 := ((E2.trans E3).trans E4).trans E5
        have N5 := N4.mono R4 E5
        dsimp only at f4
        generalize hturn2 : (fun (y : D) (S2 : Sto) => (evT' G t2 y (wipeD δ3 own2) S2).bind fun e2 => (evE G elt e2.1 e2.2).map fun z => (some z.1, z.2)) = turn2 at f4
        refine ⟨fun j k H6 => j + k = w2.xs.length ∧ ∃ S6 accD6 μ6 acc6, ExtH μ5 H5 μ6 H6 ∧ Ext μ1 H1 μ6 H6 ∧ Rl K μ6 H6 S6 ∧ Dl ∈ μ6.hid ∧ H6 Dl = some (.lst acc6) ∧ Reps K μ6 H6 accD6 acc6 ∧ ∃ r2, loopLc w2 turn2 (w2.xs.drop j) S6 = some (r2, S3) ∧ accD6 ++ (r2 ++ rest') = ys, ⟨w2.xs.length, by simp, T4, accD, μ5, acc, Ext.refl.toH, E'.trans E25, R5, E25.memHid hid, E25.keep Dl _ (R'.sep Dl hid) hacc, racc.mono R' E25, zs, by simpa using f4, e7⟩, ?_⟩
        rintro j k H6 ⟨hjk, S6, accD6, μ6, acc6, E6, Eo, R6, hid6, hacc6, racc6, r2, g1, g2⟩
        by_cases hj : j < w2.xs.length
        · rw [drop_cons hj] at g1
          obtain ⟨ok2, o, S7, r3, g3, g4, z2⟩ := loop_head1 g1
          subst z2
          obtain ⟨wgo2, _⟩ := wk2 μ6 H6 S6 E6 R6 ok2 j
          obtain ⟨go2, yl2⟩ := wgo2 _ (List.getElem?_eq_getElem hj)
          refine .inr ⟨go2, fun H'' => ∃ S6 accD6 μ6 acc6, ExtH μ5 H5 μ6 H'' ∧ Ext μ1 H1 μ6 H'' ∧ Rl K μ6 H'' S6 ∧ Dl ∈ μ6.hid ∧ H'' Dl = some (.lst acc6) ∧ Reps K μ6 H'' accD6 acc6 ∧ ∃ r2, loopLc w2 turn2 (w2.xs.drop (j + 1)) S6 = some (r2, S3) ∧ accD6 ++ (r2 ++ rest') = ys,
            fun H'' n => ⟨k - 1, by omega, by omega, n⟩, fun x2 H7 y2 => ?_⟩
          obtain ⟨E7, R7, p7⟩ := yl2 x2 H7 y2
          subst hturn2
          obtain ⟨⟨δ8, T8⟩, k1, k2⟩ := bindS g3
          obtain ⟨⟨yv, T9⟩, k3, k4⟩ := mapS k2
          cases k4
          refine ⟨μ6, wipeD δ3 own2, S6, _, δ8, T8, wipe_rep ((N5.monoH R5 E6).mono R6 E7) own2, R7, p7, k1, fun σ9 H9 μ9 E9 R9 N9 w9 => ⟨?_, ?_⟩⟩
          · rw [w9 own2 ht2]
            exact wipe_twice σ3 own2 own2 fun _ h => h
          · refine ⟨μ9, δ8, T8, true, T8, N9, R9, by simp only [evIf], fun H10 μ10 E10 R10 => ?_⟩
            refine iteT ?_
            have N10 := N9.mono R9 E10
            refine ev1 N10 R10 k3 fun v H11 μ11 E11 R11 _ p11 => ?_
            have Eb : Ext μ6 H6 μ11 H11 := ((E7.trans E9).trans E10).trans E11
            have hk5 : H11 Dl = some (.lst acc6) := Eb.keep Dl _ (R6.sep Dl hid6) hacc6
            have hid5 : Dl ∈ μ11.hid := Eb.memHid hid6
            have hz : ¬ μ11.fz Dl := fun z => z.2 hid5
            have racc5 := racc6.mono R6 Eb
            have hl : accD6.length < 16777216 := by
              have : (accD6 ++ ((some yv).toList ++ r3 ++ rest')).length = ys.length := by rw [← g2]
              simp at this
              omega
            refine ⟨acc6, hk5, by rw [sizeL, ← racc6.length]; exact hl, _, accD6 ++ [yv], μ11, acc6 ++ [v], (E6.trans Eb.toH).trans (ExtH.hput hid5 hk5), (Eo.trans Eb).off hD, R11.off hid5 hk5, hid5, upd_same, ?_, r3, g4, ?_⟩
            · exact (Reps.off hz hk5 racc5).append (Reps.cons (Rep.off hz hk5 p11) Reps.nil)
            · rw [← g2]; simp
        · have e8 : w2.xs.drop j = [] := List.drop_eq_nil_of_le (by omega)
          rw [e8] at g1
          obtain ⟨ok2, z1, z2⟩ := loop_nil1 g1
          subst z1 z2
          obtain ⟨_, stop⟩ := wk2 μ6 H6 _ E6 R6 ok2 j
          exact .inl ⟨stop (by omega), S3, accD6, ⟨μ6, acc6, Eo, R6, hid6, hacc6, racc6⟩, rest', e10, by simpa using g2⟩
    · have e8 : w.xs.drop i = [] := List.drop_eq_nil_of_le (by omega)
      rw [e8] at e6
      obtain ⟨ok, z1, z2⟩ := loop_nil e6
      subst z1 z2
      rw [List.append_nil] at e7
      subst e7
      obtain ⟨_, stop⟩ := wk μ' H' _ E'.toH R' ok i
      refine .inl ⟨stop (by omega), ?_⟩
      have E'' : Ext μ1 H1 (μ'.show μ1.hid) H' := ⟨⟨[], rfl, fun _ h => nomatch h⟩, E'.pre, E'.keep, E'.live, E'.kp⟩
      have hh : ∀ a ∈ μ1.hid, a ∈ μ'.hid := fun a ha => E'.memHid ha
      refine q (.ref Dl) H' (μ'.show μ1.hid) (E1.trans E'') (R'.shown hh) (mk_lst ⟨R'.sep Dl hid, fun z => (R1.fz hD).2 z⟩ hacc (Reps.shown hh racc))
  · cases e5
end
theorem lc_mono {K : PySem.W.Frag} {wi : TI} {g : TG} {tt : TT} {te : TE} {vs : List Nat} {σ : L2.St} {H : Hp} {Q Q' : VK} (h : tLc wi g tt te vs σ H Q) (i : ∀ x H, Q x H → Q' x H)
    (hw : ∀ (R R' : L2.It → Hp → Prop), (∀ J H, R J H → R' J H) → wi σ H R → wi σ H R') : tLc wi g tt te vs σ H Q' := by
  refine hw _ _ (fun J H1 hr Dl hD => ?_) h
  obtain ⟨W, w0, st⟩ := hr Dl hD
  refine ⟨W, w0, fun i' m H' hW => ?_⟩
  rcases st i' m H' hW with ⟨z, q⟩ | z
  · exact .inl ⟨z, i _ _ q⟩
  · exact .inr z
section
variable {X : Cx} {k : Kc} {pos : Pos}
/-- the block of a comprehension -/
def Kt.blk (k : Kt) (scope : Scope) : Kt := { k with sc := relS scope k.sc, fl := fun x => scope.names.lookup x == some .cell }
def Kc.blk (k : Kc) (scope : Scope) : Kc := ⟨k.toKt.blk scope, k.g⟩
theorem KcOk.blk (hk : KcOk X k) {s : Shared} {H : Hp} {scope : Scope} {C : Addr} {cl : List (Str × Addr)} {fp : List Addr} : KcOk (X.blk s H scope (compEnvC scope cl C X.env) fp) (k.blk scope) where
  N := hk.N
  sc := by
    show relS scope k.sc = (compEnvC scope cl C X.env).scope
    rw [hk.sc]; rfl
  nd := hk.nd
  calm := hk.calm
  hu := hk.hu
  gd := hk.gd
  fl := fun x h => h
  data := hk.data
  dn := hk.dn
  free := hk.free
  bf := hk.bf
  dd := hk.dd
  call := fun f hf => by
    obtain ⟨a, fd, ps, lv, O⟩ := hk.call f hf
    exact ⟨a, fd, ps, lv, O.mg, O.kp, O.bd, O.fn, O.rm, O.kw⟩
  sys := hk.sys
  r2 := hk.r2
  cls := fun cn fo h => by
    obtain ⟨c, O⟩ := hk.cls cn fo h
    refine ⟨c, O.at_, O.mg, O.T, O.xc, O.xf, fun f e => ?_, O.bare⟩
    obtain ⟨h1, fI, fd, self, N⟩ := O.ini f e
    exact ⟨h1, fI, fd, self, N.iC, N.tI, N.fn, N.b1, N.b2⟩
  isx := hk.isx
theorem if_nil : PTs X [] (tIfv X.K k.g []) := ⟨fun pins s σ H Q I ⟨μ, δ, S, b, S', E, R, e, q⟩ => by
  simp only [evIf] at e; cases e
  exact pts_nil.run pins s σ H Q I (q H μ Ext.refl R)⟩
theorem if_one {c : Expr} {a : C} (h : PT X c (tTv X.K k.g a)) : PTs X [c] (tIfv X.K k.g [a]) := ⟨fun pins s σ H Q I ⟨μ, δ, S, b, S', E, R, e, q⟩ => by
  simp only [evIf] at e
  exact (pts_one h).run pins s σ H Q I ⟨μ, δ, S, b, S', E, R, e, q⟩⟩
theorem fold_set {e : Expr} (h : plainX e = true) (env : Env) (x : Value) : foldedSetIterable e env x = pure x := by cases e <;> first | rfl | cases h
theorem e_lc (hk : KcOk X k) {elt tg iter : Expr} {ifs : List Expr} {scope : Scope} {own : List (Str × Nat)} {c : C} {t : CT} {it : CI} {cs : List C} (hi : PI X tg iter (tIt X.K k.g it)) (hp : plainX iter = true) (hb : blkC k.N k.sc scope own = true)
    (hg : ∀ (s : Shared) (H : Hp) (C : Addr) (cl : List (Str × Addr)) (fp : List Addr), PG (X.blk s H scope (compEnvC scope cl C X.env) fp) tg (gEv X.K k.g t)) (ht : ∀ (s : Shared) (H : Hp) (C : Addr) (cl : List (Str × Addr)) (fp : List Addr), PTs (X.blk s H scope (compEnvC scope cl C X.env) fp) ifs (tIfv X.K k.g cs))
    (he : ∀ (s : Shared) (H : Hp) (C : Addr) (cl : List (Str × Addr)) (fp : List Addr), PE (X.blk s H scope (compEnvC scope cl C X.env) fp) elt (tEv X.K k.g c)) (hs : ∀ i ∈ tsl t, i ∈ own.map (·.2)) :
    PE X (.ListComp elt [⟨tg, iter, ifs, 0⟩] scope pos) (tEv X.K k.g (.lc c t it cs (own.map (·.2)))) := by
  refine (pe_lc hk.calm hk.nd hi ?_ hg ht he (fold_set hp _)).imp fun σ H Q h => lc_imp hs h
  rw [hk.N, hk.sc] at hb
  exact blkOk_by hb
theorem e_lc2 (hk : KcOk X k) {elt tg iter tg1 iter1 : Expr} {scope : Scope} {own : List (Str × Nat)} {own2 : List Nat} {c : C} {t t2 : CT} {it it2 : CI} (hi : PI X tg iter (tIt X.K k.g it)) (hp : plainX iter = true) (hp1 : plainX iter1 = true) (hb : blkC k.N k.sc scope own = true)
    (hg : ∀ (s : Shared) (H : Hp) (C : Addr) (cl : List (Str × Addr)) (fp : List Addr), PG (X.blk s H scope (compEnvC scope cl C X.env) fp) tg (gEv X.K k.g t)) (hi1 : ∀ (s : Shared) (H : Hp) (C : Addr) (cl : List (Str × Addr)) (fp : List Addr), PI (X.blk s H scope (compEnvC scope cl C X.env) fp) tg1 iter1 (tIt X.K k.g it2))
    (hg1 : ∀ (s : Shared) (H : Hp) (C : Addr) (cl : List (Str × Addr)) (fp : List Addr), PG (X.blk s H scope (compEnvC scope cl C X.env) fp) tg1 (gEv X.K k.g t2))
    (he : ∀ (s : Shared) (H : Hp) (C : Addr) (cl : List (Str × Addr)) (fp : List Addr), PE (X.blk s H scope (compEnvC scope cl C X.env) fp) elt (tEv X.K k.g c)) (hs : ∀ i ∈ tsl t, i ∈ own.map (·.2)) (hs2 : ∀ i ∈ tsl t2, i ∈ own2) (hv : ∀ i ∈ own2, i ∈ own.map (·.2)) :
    PE X (.ListComp elt [⟨tg, iter, [], 0⟩, ⟨tg1, iter1, [], 0⟩] scope pos) (tEv X.K k.g (.lc2 c t it t2 it2 (own.map (·.2)) own2)) := by
  refine (pe_lc2 hk.calm hk.nd hi ?_ hv hg (fun s H C cl fp => if_nil (k := k)) hi1 hg1 (fun s H C cl fp => if_nil (k := k)) he (fold_set hp _) (fun env x => fold_set hp1 env x)).imp fun σ H Q h => lc2_imp hs hs2 h
  rw [hk.N, hk.sc] at hb
  exact blkOk_by hb
end
end Dn

set_option maxHeartbeats 4000000
namespace Dn
open PySem PySem.Spec PyProof.Rows L2

/-! ### statements -/
def Fk (K : PySem.W.Frag) (μ : Mu) (H : Hp) (S : Sto) (D : Ends) : Fl → Prop
  | .nx δ => ∀ σ' H' μ', Ext μ H μ' H' → Rl K μ' H' S → RepEnv K μ' H' σ' δ → D.nx σ' H'
  | .ct δ => ∀ σ' H' μ', Ext μ H μ' H' → Rl K μ' H' S → RepEnv K μ' H' σ' δ → D.ct σ' H'
  | .bk δ => ∀ σ' H' μ', Ext μ H μ' H' → Rl K μ' H' S → RepEnv K μ' H' σ' δ → D.bk σ' H'
  | .rt d => Pst K μ H S d D.rt
theorem Fk.ext {K : PySem.W.Frag} {μ μ1 : Mu} {H H1 : Hp} {S : Sto} {D : Ends} {f : Fl} (h : Fk K μ H S D f) (E : Ext μ H μ1 H1) : Fk K μ1 H1 S D f := by
  cases f with
  | nx δ => exact fun σ' H' μ' E' R N => h σ' H' μ' (E.trans E') R N
  | ct δ => exact fun σ' H' μ' E' R N => h σ' H' μ' (E.trans E') R N
  | bk δ => exact fun σ' H' μ' E' R N => h σ' H' μ' (E.trans E') R N
  | rt d => exact Pst.ext h E
def tSt (K : PySem.W.Frag) (G : GE) (s : CS) : TS := fun D σ H => ∃ μ δ S f S', RepEnv K μ H σ δ ∧ Rl K μ H S ∧ exS G s δ S = some (f, S') ∧ Fk K μ H S' D f
def tSts (K : PySem.W.Frag) (G : GE) (ss : List CS) : TS := fun D σ H => ∃ μ δ S f S', RepEnv K μ H σ δ ∧ Rl K μ H S ∧ exSs G ss δ S = some (f, S') ∧ Fk K μ H S' D f
/-- no comprehension -/
def noLc : Expr → Bool
  | .ListComp _ _ _ _ => false
  | .SetComp _ _ _ _ => false
  | .DictComp _ _ _ _ _ => false
  | _ => true
theorem sw_plain {e : Expr} (h : noLc e = true) (t : Option Expr) (l : Nat) (env : Env) : swapsWith e t l env = pure false := by
  cases e <;> first | rfl | cases h
def isStar : Expr → Bool
  | .Starred _ _ => true
  | _ => false
/-- the names that are stored from the right; none: not said -/
def swName (sc : Scope) (l : Nat) : Expr → Option Str
  | .Name id pos => if (sc.names.lookup id == some .local && pos.line == l) = true then some id else none
  | _ => none
def swNames (sc : Scope) (ts : List Expr) : List Str := ts.filterMap (swName sc ((ts.head?.map (·.pos.line)).getD 0))
def swOf (sc : Scope) (ts vs : List Expr) : Option (Option (List Str)) :=
  if (!(ts.length == 2 || ts.length == 3) || vs.length != ts.length) = true then some none else
  if (vs.any isStar) = true then some none else
  if ((swNames sc ts).length != ts.length || (swNames sc ts).eraseDups.length != (swNames sc ts).length) = true then some none else
  if (vs.all (foldedForSure 8)) = true then some none else
  if (vs.all (constantsAlone 8)) = true then none else
  some (some (swNames sc ts))
theorem any_f {f : Expr → Bool} {vs : List Expr} (h : ∀ e, f e = isStar e) : vs.any f = vs.any isStar := by rw [funext h]
theorem fm_f {f : Expr → Option Str} {ts : List Expr} {sc : Scope} (h : ∀ e, f e = swName sc ((ts.head?.map (·.pos.line)).getD 0) e) : ts.filterMap f = swNames sc ts := by rw [funext h]; rfl
theorem sw_of {sc : Scope} {ts vs : List Expr} {r : Option (List Str)} {env : Env} {k k2 : Nat} {p p2 : Pos} (hs : env.scope = sc) (hk : env.scope.kind = .function) (h : swOf sc ts vs = some r) :
    swappedStores [.Tuple ts k p] (.Tuple vs k2 p2) env = pure r := by
  have hb : env.blockKind = .function := by unfold Env.blockKind; rw [hk]; rfl
  subst hs
  have hb2 : (env.blockKind != ScopeKind.function) = false := by rw [hb]; rfl
  unfold swOf at h
  unfold swappedStores
  dsimp only
  rw [hb2, Bool.or_false, any_f (vs := vs) (by intro e; cases e <;> rfl), fm_f (ts := ts) (sc := env.scope) (by intro e; cases e <;> rfl)]
  split at h
  · rename_i c; cases h; rw [if_pos c]
  · rename_i c; rw [if_neg c]
    split at h
    · rename_i c; cases h; rw [if_pos c]
    · rename_i c; rw [if_neg c]
      split at h
      · rename_i c; cases h; rw [if_pos c]
      · rename_i c; rw [if_neg c]
        split at h
        · rename_i c; cases h; rw [if_pos c]
        · rename_i c; rw [if_neg c]
          split at h
          · cases h
          · rename_i c; cases h; rw [if_neg c]
/-- one target, or a value that is no tuple -/
def isTupX : Expr → Bool
  | .Tuple _ _ _ => true
  | _ => false
theorem sw_one {t e : Expr} {env : Env} (h : isTupX t = false ∨ isTupX e = false) (hl : ∀ es p, t ≠ .List es p) : swappedStores [t] e env = pure none := by
  rcases h with h | h
  · cases t <;> cases e <;> first | rfl | (cases h; done) | exact absurd rfl (hl _ _)
  · cases e <;> cases t <;> first | rfl | (cases h; done) | exact absurd rfl (hl _ _)

section
variable {X : Cx} {k : Kc} {pos : Pos}
theorem ss_nil : PSs X [] (tSts X.K k.g []) := pss_nil.imp fun D σ H ⟨μ, δ, S, f, S', E, R, e, q⟩ => by
  simp only [exSs] at e; cases e
  exact q σ H μ Ext.refl R E
theorem ss_cons {st : Stmt} {sts : List Stmt} {s : CS} {ss : List CS} (h1 : PS X st (tSt X.K k.g s)) (h2 : PSs X sts (tSts X.K k.g ss)) : PSs X (st :: sts) (tSts X.K k.g (s :: ss)) := (pss_cons h1 h2).imp fun D σ H ⟨μ, δ, S, f, S', E, R, e, q⟩ => by
  simp only [exSs] at e
  obtain ⟨⟨f1, S1⟩, e1, e2⟩ := bindS e
  refine ⟨μ, δ, S, f1, S1, E, R, e1, ?_⟩
  cases f1 with
  | nx δ1 => exact fun σ1 H1 μ1 E1 R1 N1 => ⟨μ1, δ1, S1, f, S', N1, R1, e2, q.ext E1⟩
  | rt d => cases e2; exact q
  | bk δ1 => cases e2; exact q
  | ct δ1 => cases e2; exact q
theorem s_expr {e : Expr} {c : C} (he : PE X e (tEv X.K k.g c)) (hl : noLc e = true) : PS X (.Expr e pos) (tSt X.K k.g (.expr c)) := (ps_expr he (sw_plain hl _ _ _)).imp fun D σ H ⟨μ, δ, S, f, S', E, R, e, q⟩ => by
  simp only [exS] at e
  obtain ⟨⟨d, S1⟩, e1, e2⟩ := mapS e
  cases e2
  exact ev1 E R e1 fun x H1 μ1 E1 R1 N1 _ => q σ H1 μ1 E1 R1 N1
theorem asg_imp {c : C} {t : CT} {D : Ends} {σ : L2.St} {H : Hp} {K : PySem.W.Frag} {G : GE} (h : tSt K G (.asg t c) D σ H) : tAsg (tEv K G c) (gEv K G t) D σ H := by
  obtain ⟨μ, δ, S, f, S', E, R, e, q⟩ := h
  simp only [exS] at e
  obtain ⟨⟨d, S1⟩, e1, e2⟩ := bindS e
  obtain ⟨⟨δ2, S2⟩, e3, e4⟩ := mapS e2
  cases e4
  exact ev1 E R e1 fun x H1 μ1 E1 R1 N1 p1 => ⟨μ1, δ, S1, d, δ2, _, N1, R1, p1, e3, fun σ2 H2 μ2 E2 R2 N2 _ => q σ2 H2 μ2 (E1.trans E2) R2 N2⟩
theorem s_asg {tg e : Expr} {c : C} {t : CT} (hg : PG X tg (gEv X.K k.g t)) (he : PE X e (tEv X.K k.g c)) (hl : noLc e = true) (hp : plainX tg = true) (hw : isTupX tg = false ∨ isTupX e = false) (hL : ∀ es p, tg ≠ .List es p) :
    PS X (.Assign [tg] e pos) (tSt X.K k.g (.asg t c)) :=
  (ps_asg he hg (sw_plain hl _ _ _) (sw_one hw hL) (by rw [assign_star hp]; rfl)).imp fun D σ H h => asg_imp h
/-- a tuple into a tuple, stored from the left -/
theorem s_asgT {ts vs : List Expr} {k1 k2 : Nat} {p1 p2 : Pos} {c : C} {t : CT} (hk : KcOk X k) (hg : PG X (.Tuple ts k1 p1) (gEv X.K k.g t)) (he : PE X (.Tuple vs k2 p2) (tEv X.K k.g c)) (hw : swOf k.sc ts vs = some none) :
    PS X (.Assign [.Tuple ts k1 p1] (.Tuple vs k2 p2) pos) (tSt X.K k.g (.asg t c)) := ⟨fun pins s σ H D I h =>
  (ps_asg he hg (hw := sw_of hk.sc.symm I.ok.kind hw)).run pins s σ H D I (asg_imp h)⟩
/-- a, b = x, y: plain local names, stored from the right -/
theorem s_par {x y : Str} {a b : Expr} {i j : Nat} {ca cb : C} {px py p1 p2 : Pos} {k1 k2 : Nat} (hk : KcOk X k) (ha : PE X a (tEv X.K k.g ca)) (hb : PE X b (tEv X.K k.g cb)) (hpa : plainX a = true) (hpb : plainX b = true) (hi : k.N[i]? = some x) (hj : k.N[j]? = some y) (hij : i ≠ j)
    (hx : k.sc.names.lookup x = some .local) (hy : k.sc.names.lookup y = some .local) (hw : swOf k.sc [.Name x px, .Name y py] [a, b] = some (some [x, y])) :
    PS X (.Assign [.Tuple [.Name x px, .Name y py] k1 p1] (.Tuple [a, b] k2 p2) pos) (tSt X.K k.g (.par i j ca cb)) := ⟨fun pins s σ H D I ⟨μ, δ, S, f, S', E, R, e, q⟩ => by
  have hA : PA X [a, b] (tCons (tEv X.K k.g ca) (tCons (tEv X.K k.g cb) tNil)) := pa_cons ha (pa_cons hb pa_nil (star_of hpb _ _)) (star_of hpa _ _)
  refine (ps_par (i := i) (j := j) hk.calm hk.nd (by rw [← hk.N]; exact hi) (by rw [← hk.N]; exact hj) hij (by rw [← hk.sc]; exact hx) (by rw [← hk.sc]; exact hy) hA (sw_of hk.sc.symm I.ok.kind hw)).run pins s σ H D I ?_
  simp only [exS] at e
  obtain ⟨⟨d1, S1⟩, e1, e2⟩ := bindS e
  obtain ⟨⟨d2, S2⟩, e3, e4⟩ := mapS e2
  cases e4
  exact ev2 E R e1 e3 fun x y H2 μ2 E2 R2 N2 r1 r2 => ⟨x, y, rfl, q _ H2 μ2 E2 R2 ((N2.set r1).set r2)⟩⟩
/-- three plain local names, stored from the right -/
theorem s_par3 {x y z : Str} {a b c : Expr} {i j l : Nat} {ca cb cc : C} {px py pz p1 p2 : Pos} {k1 k2 : Nat} (hk : KcOk X k) (ha : PE X a (tEv X.K k.g ca)) (hb : PE X b (tEv X.K k.g cb)) (hc : PE X c (tEv X.K k.g cc)) (hpa : plainX a = true) (hpb : plainX b = true) (hpc : plainX c = true)
    (hi : k.N[i]? = some x) (hj : k.N[j]? = some y) (hl : k.N[l]? = some z) (hij : i ≠ j) (hil : i ≠ l) (hjl : j ≠ l)
    (hx : k.sc.names.lookup x = some .local) (hy : k.sc.names.lookup y = some .local) (hz : k.sc.names.lookup z = some .local) (hw : swOf k.sc [.Name x px, .Name y py, .Name z pz] [a, b, c] = some (some [x, y, z])) :
    PS X (.Assign [.Tuple [.Name x px, .Name y py, .Name z pz] k1 p1] (.Tuple [a, b, c] k2 p2) pos) (tSt X.K k.g (.par3 i j l ca cb cc)) := ⟨fun pins s σ H D I ⟨μ, δ, S, f, S', E, R, e, q⟩ => by
  have hA : PA X [a, b, c] (tCons (tEv X.K k.g ca) (tCons (tEv X.K k.g cb) (tCons (tEv X.K k.g cc) tNil))) := pa_cons ha (pa_cons hb (pa_cons hc pa_nil (star_of hpc _ _)) (star_of hpb _ _)) (star_of hpa _ _)
  refine (ps_par3 (i := i) (j := j) (l := l) hk.calm hk.nd (by rw [← hk.N]; exact hi) (by rw [← hk.N]; exact hj) (by rw [← hk.N]; exact hl) hij hil hjl (by rw [← hk.sc]; exact hx) (by rw [← hk.sc]; exact hy) (by rw [← hk.sc]; exact hz) hA (sw_of hk.sc.symm I.ok.kind hw)).run pins s σ H D I ?_
  simp only [exS] at e
  obtain ⟨⟨d1, S1⟩, e1, e2⟩ := bindS e
  obtain ⟨⟨d2, S2⟩, e3, e4⟩ := bindS e2
  obtain ⟨⟨d3, S3⟩, e5, e6⟩ := mapS e4
  cases e6
  exact ev2 E R e1 e3 fun x y H2 μ2 E2 R2 N2 r1 r2 => ev1 N2 R2 e5 fun z H3 μ3 E3 R3 N3 r3 => ⟨x, y, z, rfl, q _ H3 μ3 (E2.trans E3) R3 (((N3.set (r1.mono R2 E3)).set (r2.mono R2 E3)).set r3)⟩⟩
/-- name = [.. for ..] -/
theorem s_lc (hk : KcOk X k) {elt tg iter : Expr} {ifs : List Expr} {scope : Scope} {own : List (Str × Nat)} {c : C} {t : CT} {it : CI} {cs : List C} {i : Nat} {y : Str} {py spos : Pos} (hi : PI X tg iter (tIt X.K k.g it)) (hp : plainX iter = true) (hb : blkC k.N k.sc scope own = true)
    (hg : ∀ (s : Shared) (H : Hp) (C : Addr) (cl : List (Str × Addr)) (fp : List Addr), PG (X.blk s H scope (compEnvC scope cl C X.env) fp) tg (gEv X.K k.g t)) (ht : ∀ (s : Shared) (H : Hp) (C : Addr) (cl : List (Str × Addr)) (fp : List Addr), PTs (X.blk s H scope (compEnvC scope cl C X.env) fp) ifs (tIfv X.K k.g cs))
    (he : ∀ (s : Shared) (H : Hp) (C : Addr) (cl : List (Str × Addr)) (fp : List Addr), PE (X.blk s H scope (compEnvC scope cl C X.env) fp) elt (tEv X.K k.g c)) (hs : ∀ i ∈ tsl t, i ∈ own.map (·.2))
    (hy : k.N[i]? = some y) (hyl : k.sc.names.lookup y = some .local) (hln : (py.line == pos.line) = true) (hnm : (scope.names.any fun (n, kd) => n == y && (kd == .local || kd == .cell)) = false) :
    PS X (.Assign [.Name y py] (.ListComp elt [⟨tg, iter, ifs, 0⟩] scope pos) spos) (tSt X.K k.g (.asg (.name i) (.lc c t it cs (own.map (·.2))))) := by
  have hb' := hb
  rw [hk.N, hk.sc] at hb'
  have hyl' : X.env.scope.names.lookup y = some .local := by rw [← hk.sc]; exact hyl
  refine ⟨fun pins s σ H D I h => ?_⟩
  refine (ps_setLc (i := i) hk.calm hk.nd (by rw [← hk.N]; exact hy) hyl' (sw_true I.ok.kind hyl' hln hnm) hi (blkOk_by hb') hg ht he (fold_set hp _)).run pins s σ H D I ?_
  have h2 := asg_imp h
  have h3 := lc_imp hs (Q := fun x H1 => gEv X.K k.g (.name i) x σ H1 D.nx) h2
  refine lc_mono (K := X.K) h3 (fun x H1 ⟨μ, δ, S, d, δ', S', E, R, r, e, q⟩ => ?_) fun P P' hp ⟨μ, δ, S, w, S', E, R, e, q⟩ => ⟨μ, δ, S, w, S', E, R, e, fun J H' μ' E' R' wk => hp J H' (q J H' μ' E' R' wk)⟩
  simp only [evT'] at e
  cases e
  refine q _ H1 μ Ext.refl R (E.set r) fun vs hv => ?_
  rw [wipe_set, if_pos (hv i (by simp [tsl]))]
theorem s_ret {e : Expr} {c : C} (he : PE X e (tEv X.K k.g c)) : PS X (.Return (some e) pos) (tSt X.K k.g (.ret c)) := (ps_ret he).imp fun D σ H ⟨μ, δ, S, f, S', E, R, e, q⟩ => by
  simp only [exS] at e
  obtain ⟨⟨d, S1⟩, e1, e2⟩ := mapS e
  cases e2
  exact ⟨μ, δ, S, d, S1, E, R, e1, q⟩
theorem s_retN : PS X (.Return none pos) (tSt X.K k.g .retN) := ps_retN.imp fun D σ H ⟨μ, δ, S, f, S', E, R, e, q⟩ => by
  simp only [exS] at e; cases e
  exact Pst.at q R mk_non
theorem s_pass : PS X (.Pass pos) (tSt X.K k.g .pass) := ps_pass.imp fun D σ H ⟨μ, δ, S, f, S', E, R, e, q⟩ => by
  simp only [exS] at e; cases e
  exact q σ H μ Ext.refl R E
theorem s_brk : PS X (.Break pos) (tSt X.K k.g .brk) := ps_break.imp fun D σ H ⟨μ, δ, S, f, S', E, R, e, q⟩ => by
  simp only [exS] at e; cases e
  exact q σ H μ Ext.refl R E
theorem s_cont : PS X (.Continue pos) (tSt X.K k.g .cont) := ps_continue.imp fun D σ H ⟨μ, δ, S, f, S', E, R, e, q⟩ => by
  simp only [exS] at e; cases e
  exact q σ H μ Ext.refl R E
theorem s_never {st : Stmt} : PS X st (tSt X.K k.g .never) := ps_never.imp fun D σ H ⟨μ, δ, S, f, S', E, R, e, q⟩ => by
  simp only [exS] at e; cases e
theorem s_if {c : Expr} {a b : List Stmt} {cc : C} {ca cb : List CS} (hc : PT X c (tTv X.K k.g cc)) (ha : PSs X a (tSts X.K k.g ca)) (hb : PSs X b (tSts X.K k.g cb)) : PS X (.If c a b pos) (tSt X.K k.g (.ife cc ca cb)) := (ps_if hc ha hb).imp fun D σ H ⟨μ, δ, S, f, S', E, R, e, q⟩ => by
  simp only [exS] at e
  obtain ⟨⟨t, S1⟩, e2, e3⟩ := bindS e
  refine tv1 E R e2 fun H1 μ1 E1 R1 N1 => ?_
  cases t with
  | true =>
    simp only [↓reduceIte] at e3
    exact iteT ⟨μ1, δ, S1, f, S', N1, R1, e3, q.ext E1⟩
  | false =>
    simp only [Bool.false_eq_true, ↓reduceIte] at e3
    exact iteF ⟨μ1, δ, S1, f, S', N1, R1, e3, q.ext E1⟩
theorem s_for {tg iter : Expr} {body : List Stmt} {t : CT} {it : CI} {cb : List CS} (hk : KcOk X k) (hx : X.xe = fun _ _ => False) (hi : PI X tg iter (tIt X.K k.g it)) (hg : PG X tg (gEv X.K k.g t)) (hb : PSs X body (tSts X.K k.g cb)) (hp : plainX iter = true) :
    PS X (.For tg iter body [] pos) (tSt X.K k.g (.for_ t it cb)) := (ps_for (by rw [hx]; exact PassesOwn.never) hk.calm hi hg hb (fold_set hp _)).imp fun D σ H ⟨μ, δ, S, f, S', E, R, e, q⟩ => by
  simp only [exS] at e
  obtain ⟨⟨w, S1⟩, e1, e2⟩ := bindS e
  generalize hturn : (fun (x : Dn.D) (δ1 : En) (S1 : Sto) => (evT' k.g t x δ1 S1).bind fun q => exSs k.g cb q.1 q.2) = turn at e2
  refine ⟨μ, δ, S, w, S1, E, R, e1, fun J H1 μ1 E1 R1 wk => ?_⟩
  refine ⟨fun i m σ' H' => i + m = w.xs.length ∧ ∃ μ' δ' S2, Ext μ1 H1 μ' H' ∧ Rl X.K μ' H' S2 ∧ RepEnv X.K μ' H' σ' δ' ∧ loopFor w turn (w.xs.drop i) δ' S2 = some (f, S'),
    ⟨w.xs.length, by simp, μ1, δ, S1, Ext.refl, R1, E.mono R E1, by simpa using e2⟩, ?_⟩
  rintro i m σ' H' ⟨him, μ', δ', S2, E', R', N', e6⟩
  by_cases hi : i < w.xs.length
  · rw [drop_cons hi] at e6
    unfold loopFor at e6
    split at e6
    · rename_i ok
      obtain ⟨⟨f1, S3⟩, e8, e9⟩ := bindS e6
      obtain ⟨wgo, _⟩ := wk μ' H' S2 E'.toH R' ok i
      obtain ⟨go, yl⟩ := wgo _ (List.getElem?_eq_getElem hi)
      refine .inr ⟨go, fun σ'' H'' => ∃ μ' δ' S2, Ext μ1 H1 μ' H'' ∧ Rl X.K μ' H'' S2 ∧ RepEnv X.K μ' H'' σ'' δ' ∧ loopFor w turn (w.xs.drop (i + 1)) δ' S2 = some (f, S'), fun σ'' H'' n => ⟨m - 1, by omega, by omega, n⟩, fun x H2 y => ?_⟩
      obtain ⟨E2, R2, p2⟩ := yl x H2 y
      subst hturn
      obtain ⟨⟨δ3, T3⟩, f1', f2⟩ := bindS e8
      refine ⟨μ', δ', S2, _, δ3, T3, N'.mono R' E2, R2, p2, f1', fun σ3 H3 μ3 E3 R3 N3 _ => ⟨μ3, δ3, T3, f1, S3, N3, R3, f2, ?_⟩⟩
      have E13 : Ext μ H μ3 H3 := ((E1.trans E').trans E2).trans E3
      cases f1 with
      | nx δ1 => exact fun σ4 H4 μ4 E4 R4 N4 => ⟨μ4, δ1, S3, ((E'.trans E2).trans E3).trans E4, R4, N4, e9⟩
      | ct δ1 => exact fun σ4 H4 μ4 E4 R4 N4 => ⟨μ4, δ1, S3, ((E'.trans E2).trans E3).trans E4, R4, N4, e9⟩
      | bk δ1 => cases e9; exact fun σ4 H4 μ4 E4 R4 N4 => q σ4 H4 μ4 (E13.trans E4) R4 N4
      | rt d => cases e9; exact Pst.ext q E13
    · cases e6
  · have e8 : w.xs.drop i = [] := List.drop_eq_nil_of_le (by omega)
    rw [e8] at e6
    unfold loopFor at e6
    split at e6
    · rename_i ok
      cases e6
      obtain ⟨_, stop⟩ := wk μ' H' _ E'.toH R' ok i
      exact .inl ⟨stop (by omega), q σ' H' μ' (E1.trans E') R' N'⟩
    · cases e6
theorem s_whl {c : Expr} {body : List Stmt} {cc : C} {cb : List CS} (hx : X.xe = fun _ _ => False) (hc : PT X c (tTv X.K k.g cc)) (hb : PSs X body (tSts X.K k.g cb)) : PS X (.While c body [] pos) (tSt X.K k.g (.whl cc cb)) := (ps_while (by rw [hx]; exact PassesOwn.never) hc hb).imp fun D σ H ⟨μ, δ, S, f, S', E, R, e, q⟩ => by
  simp only [exS] at e
  obtain ⟨n, en⟩ := of_whD e
  refine ⟨fun m σ' H' => ∃ μ' δ' S2, Ext μ H μ' H' ∧ Rl X.K μ' H' S2 ∧ RepEnv X.K μ' H' σ' δ' ∧ whN (fun δ S => evT k.g cc δ S) (fun δ S => exSs k.g cb δ S) m δ' S2 = some (f, S'), ⟨n, μ, δ, S, Ext.refl, R, E, en⟩, ?_⟩
  rintro m σ' H' ⟨μ', δ', S2, E', R', N', e6⟩
  cases m with
  | zero => cases e6
  | succ m =>
    unfold whN at e6
    obtain ⟨⟨b, S3⟩, e7, e8⟩ := bindS e6
    refine tv1 N' R' e7 fun H1 μ1 E1 R1 N1 => ?_
    cases b with
    | true =>
      simp only [↓reduceIte] at e8
      refine iteT ⟨fun σ'' H'' => ∃ μ' δ' S2, Ext μ H μ' H'' ∧ Rl X.K μ' H'' S2 ∧ RepEnv X.K μ' H'' σ'' δ' ∧ whN (fun δ S => evT k.g cc δ S) (fun δ S => exSs k.g cb δ S) m δ' S2 = some (f, S'), fun σ'' H'' n => ⟨m, Nat.lt_succ_self _, n⟩, ?_⟩
      obtain ⟨⟨f1, S4⟩, e9, e10⟩ := bindS e8
      refine ⟨μ1, δ', S3, f1, S4, N1, R1, e9, ?_⟩
      have E13 : Ext μ H μ1 H1 := E'.trans E1
      cases f1 with
      | nx δ1 => exact fun σ4 H4 μ4 E4 R4 N4 => ⟨μ4, δ1, S4, E13.trans E4, R4, N4, e10⟩
      | ct δ1 => exact fun σ4 H4 μ4 E4 R4 N4 => ⟨μ4, δ1, S4, E13.trans E4, R4, N4, e10⟩
      | bk δ1 => cases e10; exact fun σ4 H4 μ4 E4 R4 N4 => q σ4 H4 μ4 (E13.trans E4) R4 N4
      | rt d => cases e10; exact Pst.ext q E13
    | false =>
      simp only [Bool.false_eq_true, ↓reduceIte] at e8
      cases e8
      exact iteF (q σ' H1 μ1 (E'.trans E1) R1 N1)
end
end Dn

set_option maxHeartbeats 4000000
namespace Zp
open PySem
open PySem.Sem (wp)
open PySem.W (KdxIt kdx_alive)
section
variable {prog : Program} {w : World} {A : Around} {E : Value → Shared → Prop} {s : Shared}
/-! ### zip of two tuples whose tuples stay: one turn -/
theorem zipT_next_item_held {z TI TO T i1 i2 l1 l2 : Addr} {f : Bool} {oT : Obj} {k1 k2 : Nat} {xs ys : Array Value} {x y : Value} {Q : Value → Shared → Prop} (D : ZipApart z TI TO i1 i2 l1 l2)
    (hz : IsZipHeld s.heap z TI TO T f) (hT : s.heap.get? T = some oT) (hTI : IsPair s.heap TI (.ref i1) (.ref i2))
    (h1 : s.heap.IsTupleIter i1 l1 k1) (h2 : s.heap.IsTupleIter i2 l2 k2) (hl1 : s.heap.IsTuple l1 xs) (hl2 : s.heap.IsTuple l2 ys) (hx : xs[k1]? = some x) (hy : ys[k2]? = some y)
    (hQ : ∀ h', IsZipHeld h' z TI TO T true → h'.IsTupleIter i1 l1 (k1 + 1) → h'.IsTupleIter i2 l2 (k2 + 1) → IsPair h' s.heap.objs.size x y → h'.objs.size = s.heap.objs.size + 1 →
      (∀ c o, c ≠ z → c ≠ i1 → c ≠ i2 → s.heap.get? c = some o → h'.get? c = some o) → Q (.ref s.heap.objs.size) { s with heap := h' }) :
    wpAny (model prog w) A (Builtin.«zip.__next__» ⟨[.ref z], []⟩) (fun fin s' => ∃ v, fin = .done (.ret v) ∧ Q v s') E s := by
  show wpAny _ _ (field (.ref z) 2 >>= _) _ _ _
  refine wpAny_bind (wpAny_field hz rfl (x := .bool false) rfl ?_)
  show wpAny _ _ (field (.ref z) 3 >>= _) _ _ _
  refine wpAny_bind (wpAny_field hz rfl (x := .ref TI) rfl ?_)
  refine wpAny_bind (wpAny_seqItems hTI rfl ?_)
  show wpAny _ _ (Builtin.SmallTypes.ownedTupleIsFree (.ref z) >>= _) _ _ _
  refine wpAny_bind (wpAny_tupleHeld_zip hz hT fun h₁ hz₁ hs₁ => ?_)
  simp only [Bool.false_eq_true, if_false]
  refine wpAny_bind ?_
  rw [← Array.forIn_toList]
  simp only [List.forIn_cons, List.forIn_nil]
  refine wpAny_bind (wpAny_bind (wpAny_holding ?_))
  show wpAny _ _ (Builtin.SmallTypes.nextOf (.ref i1) >>= _) _ _ _
  refine wpAny_bind (RZ.nextOf_tuple_item (s := { s with heap := h₁ }) (h1.extBut hs₁.extBut D.i1z) (hl1.extBut hs₁.extBut D.l1z) hx fun h₂ h1₂ hs₂ => wpAny_pure ?_)
  refine wpAny_pure ?_
  refine wpAny_bind (wpAny_bind (wpAny_holding ?_))
  show wpAny _ _ (Builtin.SmallTypes.nextOf (.ref i2) >>= _) _ _ _
  refine wpAny_bind (RZ.nextOf_tuple_item (s := { s with heap := h₂ }) ((h2.extBut hs₁.extBut D.i2z).extBut hs₂.extBut D.i12.symm) ((hl2.extBut hs₁.extBut D.l2z).extBut hs₂.extBut D.l2i1) hy fun h₃ h2₃ hs₃ => wpAny_pure ?_)
  refine wpAny_pure (wpAny_pure ?_)
  show wpAny _ _ (newTuple [x, y] >>= _) _ _ _
  refine wpAny_bind (wpAny_newTuple ?_)
  have hsz : h₃.objs.size = s.heap.objs.size := by rw [hs₃.1, hs₂.1, hs₁.1]
  have hz₃ : IsZipHeld h₃ z TI TO T true := hs₃.extBut _ _ D.i2z.symm (hs₂.extBut _ _ D.i1z.symm hz₁)
  have hk : ∀ c o, c ≠ z → c ≠ i1 → c ≠ i2 → s.heap.get? c = some o → h₃.get? c = some o := fun c o c1 c2 c3 e => hs₃.extBut _ _ c3 (hs₂.extBut _ _ c2 (hs₁.extBut _ _ c1 e))
  have h1₃ : h₃.IsTupleIter i1 l1 (k1 + 1) := h1₂.extBut hs₃.extBut D.i12
  refine wpAny_pure ⟨_, rfl, ?_⟩
  show Q (.ref h₃.objs.size) _
  have hp : IsPair (h₃.push { cls := .type "tuple", data := .seq #[x, y] }) h₃.objs.size x y := Heap.get?_push_size _ rfl
  have hz4 : (h₃.push { cls := .type "tuple", data := .seq #[x, y] }).objs.size = h₃.objs.size + 1 := Heap.size_push ..
  rw [hsz] at hp hz4 ⊢
  exact hQ _ (Heap.get?_push_of_some _ hz₃) (h1₃.at fun o e => Heap.get?_push_of_some _ e) (h2₃.at fun o e => Heap.get?_push_of_some _ e) hp hz4 fun c o c1 c2 c3 e => Heap.get?_push_of_some _ (hk c o c1 c2 c3 e)

theorem zipT_next_end_held {z TI TO T i1 i2 l1 l2 : Addr} {f : Bool} {oT : Obj} {k1 k2 : Nat} {xs ys : Array Value} {Q : Fin → Shared → Prop} (hh : A.handled = none) (D : ZipApart z TI TO i1 i2 l1 l2)
    (hz : IsZipHeld s.heap z TI TO T f) (hT : s.heap.get? T = some oT) (hTI : IsPair s.heap TI (.ref i1) (.ref i2))
    (h1 : s.heap.IsTupleIter i1 l1 k1) (h2 : s.heap.IsTupleIter i2 l2 k2) (hl1 : s.heap.IsTuple l1 xs) (hl2 : s.heap.IsTuple l2 ys) (hend : xs[k1]? = none ∨ ys[k2]? = none)
    (hE : ∀ h' e, (∀ c o, c ≠ z → c ≠ i1 → c ≠ i2 → s.heap.get? c = some o → h'.get? c = some o) → (∃ o, h'.get? e = some o ∧ o.cls = .type "StopIteration") → E (.ref e) { s with heap := h' }) :
    wpAny (model prog w) A (Builtin.«zip.__next__» ⟨[.ref z], []⟩) Q E s := by
  show wpAny _ _ (field (.ref z) 2 >>= _) _ _ _
  refine wpAny_bind (wpAny_field hz rfl (x := .bool false) rfl ?_)
  show wpAny _ _ (field (.ref z) 3 >>= _) _ _ _
  refine wpAny_bind (wpAny_field hz rfl (x := .ref TI) rfl ?_)
  refine wpAny_bind (wpAny_seqItems hTI rfl ?_)
  show wpAny _ _ (Builtin.SmallTypes.ownedTupleIsFree (.ref z) >>= _) _ _ _
  refine wpAny_bind (wpAny_tupleHeld_zip hz hT fun h₁ hz₁ hs₁ => ?_)
  simp only [Bool.false_eq_true, if_false]
  refine wpAny_bind ?_
  rw [← Array.forIn_toList]
  simp only [List.forIn_cons, List.forIn_nil]
  refine wpAny_bind (wpAny_bind (wpAny_holding ?_))
  show wpAny _ _ (Builtin.SmallTypes.nextOf (.ref i1) >>= _) _ _ _
  cases hx : xs[k1]? with
  | none =>
    refine wpAny_bind (RZ.nextOf_tuple_end (s := { s with heap := h₁ }) hh (h1.extBut hs₁.extBut D.i1z) (hl1.extBut hs₁.extBut D.l1z) hx fun h₂ e hs₂ he => ?_)
    exact hE h₂ e (fun c o c1 c2 _ x => hs₂ _ _ c2 (hs₁.extBut _ _ c1 x)) he
  | some x =>
    have hy : ys[k2]? = none := by rcases hend with h | h; rw [hx] at h; cases h; exact h
    refine wpAny_bind (RZ.nextOf_tuple_item (s := { s with heap := h₁ }) (h1.extBut hs₁.extBut D.i1z) (hl1.extBut hs₁.extBut D.l1z) hx fun h₂ h1₂ hs₂ => wpAny_pure ?_)
    refine wpAny_pure ?_
    refine wpAny_bind (wpAny_bind (wpAny_holding ?_))
    show wpAny _ _ (Builtin.SmallTypes.nextOf (.ref i2) >>= _) _ _ _
    refine wpAny_bind (RZ.nextOf_tuple_end (s := { s with heap := h₂ }) hh ((h2.extBut hs₁.extBut D.i2z).extBut hs₂.extBut D.i12.symm) ((hl2.extBut hs₁.extBut D.l2z).extBut hs₂.extBut D.l2i1) hy fun h₃ e hs₃ he => ?_)
    exact hE h₃ e (fun c o c1 c2 c3 x => hs₃ _ _ c3 (hs₂.extBut _ _ c2 (hs₁.extBut _ _ c1 x))) he

theorem pyNext_zipT_item_held {z TI TO T i1 i2 l1 l2 : Addr} {f : Bool} {oT : Obj} {k1 k2 : Nat} {xs ys : Array Value} {x y : Value} {Q : Option Value → Shared → Prop} (D : ZipApart z TI TO i1 i2 l1 l2)
    (hz : IsZipHeld s.heap z TI TO T f) (hT : s.heap.get? T = some oT) (hTI : IsPair s.heap TI (.ref i1) (.ref i2))
    (h1 : s.heap.IsTupleIter i1 l1 k1) (h2 : s.heap.IsTupleIter i2 l2 k2) (hl1 : s.heap.IsTuple l1 xs) (hl2 : s.heap.IsTuple l2 ys) (hx : xs[k1]? = some x) (hy : ys[k2]? = some y)
    (hQ : ∀ h', IsZipHeld h' z TI TO T true → h'.IsTupleIter i1 l1 (k1 + 1) → h'.IsTupleIter i2 l2 (k2 + 1) → IsPair h' s.heap.objs.size x y → h'.objs.size = s.heap.objs.size + 1 →
      (∀ c o, c ≠ z → c ≠ i1 → c ≠ i2 → s.heap.get? c = some o → h'.get? c = some o) → Q (some (.ref s.heap.objs.size)) { s with heap := h' }) :
    wpAny (model prog w) A (pyNext (.ref z)) Q E s := by
  have hTy : s.TypeIs (.ref z) "zip" := ⟨_, hz, rfl⟩
  unfold pyNext
  exact wpAny_bind (wpAny_attempt (wpAny_callSpecial?_slot (name := Str.ofString "__next__") hTy F.slot_zip_next
    (wpAny_call_entry F.slot_zip_next hTy F.entry_zip_next
      (zipT_next_item_held D hz hT hTI h1 h2 hl1 hl2 hx hy fun h' a1 a3 a4 a5 a6 a7 => wpAny_pure (hQ h' a1 a3 a4 a5 a6 a7)) (F.args_zip_next_1 _))))
theorem pyNext_zipT_end_held {z TI TO T i1 i2 l1 l2 : Addr} {f : Bool} {oT : Obj} {k1 k2 : Nat} {xs ys : Array Value} {Q : Option Value → Shared → Prop} (hh : A.handled = none) (D : ZipApart z TI TO i1 i2 l1 l2)
    (hz : IsZipHeld s.heap z TI TO T f) (hT : s.heap.get? T = some oT) (hTI : IsPair s.heap TI (.ref i1) (.ref i2))
    (h1 : s.heap.IsTupleIter i1 l1 k1) (h2 : s.heap.IsTupleIter i2 l2 k2) (hl1 : s.heap.IsTuple l1 xs) (hl2 : s.heap.IsTuple l2 ys) (hend : xs[k1]? = none ∨ ys[k2]? = none)
    (hQ : ∀ h', (∀ c o, c ≠ z → c ≠ i1 → c ≠ i2 → s.heap.get? c = some o → h'.get? c = some o) → Q none { s with heap := h' }) : wpAny (model prog w) A (pyNext (.ref z)) Q E s := by
  have hTy : s.TypeIs (.ref z) "zip" := ⟨_, hz, rfl⟩
  unfold pyNext
  refine wpAny_bind (wpAny_attempt (wpAny_callSpecial?_slot (name := Str.ofString "__next__") hTy F.slot_zip_next
    (wpAny_call_entry F.slot_zip_next hTy F.entry_zip_next (zipT_next_end_held hh D hz hT hTI h1 h2 hl1 hl2 hend fun h' e hk he => ?_) (F.args_zip_next_1 _))))
  obtain ⟨o, ho, hc⟩ := he
  refine wpAny_bind (wpAny_isInstance (T := "StopIteration") (b := true) ⟨o, ho, hc⟩ isSubtype_stop ?_)
  exact wpAny_pure (hQ _ hk)

end
end Zp

set_option maxHeartbeats 4000000
namespace Zp
open PySem
open PySem.Sem (wp)
/-! ### list(zip(a, b)), tuple(zip(a, b)) of tuples: the loop -/
/-- the zip z stands before turn i -/
structure ZS (h : Heap) (z TI TO i1 i2 l1 l2 S : Addr) (xs ys : Array Value) (i : Nat) : Prop where
  ti : IsPair h TI (.ref i1) (.ref i2)
  h1 : h.IsTupleIter i1 l1 i
  h2 : h.IsTupleIter i2 l2 i
  t1 : h.IsTuple l1 xs
  t2 : h.IsTuple l2 ys
  st : (IsZip h z TI TO .none ∧ ∃ a b, IsPair h TO a b) ∨ ∃ T f, T ≠ z ∧ T ≠ i1 ∧ T ≠ i2 ∧ T ≠ S ∧ IsZipHeld h z TI TO T f ∧ ∃ o, h.get? T = some o
/-- the cells that the loop writes -/
def Out (z TO i1 i2 S c : Addr) : Prop := c ≠ z ∧ c ≠ TO ∧ c ≠ i1 ∧ c ≠ i2 ∧ c ≠ S
structure ZA (z TI TO i1 i2 l1 l2 S : Addr) : Prop where
  D : ZipApart z TI TO i1 i2 l1 l2
  TI : Out z TO i1 i2 S TI
  l1 : Out z TO i1 i2 S l1
  l2 : Out z TO i1 i2 S l2
  Sz : S ≠ z
  STO : S ≠ TO
  Si1 : S ≠ i1
  Si2 : S ≠ i2
theorem ZS.keep {h h' : Heap} {z TI TO i1 i2 l1 l2 S : Addr} {xs ys : Array Value} {i : Nat} (Z : ZS h z TI TO i1 i2 l1 l2 S xs ys i) (k : ∀ c o, c ≠ S → h.get? c = some o → h'.get? c = some o) (A : ZA z TI TO i1 i2 l1 l2 S) : ZS h' z TI TO i1 i2 l1 l2 S xs ys i := by
  obtain ⟨a, b, c, d, e, f⟩ := Z
  refine ⟨k _ _ A.TI.2.2.2.2 a, b.at fun o q => k _ o A.Si1.symm q, c.at fun o q => k _ o A.Si2.symm q, ?_, ?_, ?_⟩
  · obtain ⟨o, q, r⟩ := d; exact ⟨o, k _ o A.l1.2.2.2.2 q, r⟩
  · obtain ⟨o, q, r⟩ := e; exact ⟨o, k _ o A.l2.2.2.2.2 q, r⟩
  · rcases f with ⟨f1, x, y, f2⟩ | ⟨T, f, n1, n2, n3, n4, f1, o, f2⟩
    · exact .inl ⟨k _ _ A.Sz.symm f1, x, y, k _ _ A.STO.symm f2⟩
    · exact .inr ⟨T, f, n1, n2, n3, n4, k _ _ A.Sz.symm f1, o, k _ o n4 f2⟩
section
variable {prog : Program} {w : World} {A : Around} {E : Value → Shared → Prop} {s : Shared}
/-- one turn -/
theorem next_item {z TI TO i1 i2 l1 l2 S : Addr} {xs ys : Array Value} {i : Nat} {x y : Value} {Q : Option Value → Shared → Prop} (B : ZA z TI TO i1 i2 l1 l2 S) (Z : ZS s.heap z TI TO i1 i2 l1 l2 S xs ys i) (hS : ∃ o, s.heap.get? S = some o) (hx : xs[i]? = some x) (hy : ys[i]? = some y)
    (hQ : ∀ h', ZS h' z TI TO i1 i2 l1 l2 S xs ys (i + 1) → IsPair h' s.heap.objs.size x y → h'.objs.size = s.heap.objs.size + 1 → (∀ c o, c ≠ z → c ≠ TO → c ≠ i1 → c ≠ i2 → s.heap.get? c = some o → h'.get? c = some o) → Q (some (.ref s.heap.objs.size)) { s with heap := h' }) :
    wpAny (model prog w) A (pyNext (.ref z)) Q E s := by
  obtain ⟨a, b, c, d, e, f⟩ := Z
  have keepT : ∀ {h' : Heap} {l : Addr} {zs : Array Value}, Out z TO i1 i2 S l → (∀ c o, c ≠ z → c ≠ TO → c ≠ i1 → c ≠ i2 → s.heap.get? c = some o → h'.get? c = some o) → s.heap.IsTuple l zs → h'.IsTuple l zs := fun n k ⟨o, q, r⟩ => ⟨o, k _ o n.1 n.2.1 n.2.2.1 n.2.2.2.1 q, r⟩
  rcases f with ⟨f1, u, v, f2⟩ | ⟨T, f, n1, n2, n3, n4, f1, o, f2⟩
  · refine RZ.pyNext_zipT_item B.D f1 a f2 b c d e hx hy fun h' a1 a2 a3 a4 a5 a6 a7 => ?_
    have lt : ∀ {c o}, s.heap.get? c = some o → s.heap.objs.size ≠ c := fun q => Nat.ne_of_gt (Heap.lt_size q)
    obtain ⟨o1, q1, _⟩ := id b
    obtain ⟨o2, q2, _⟩ := id c
    obtain ⟨oS, qS⟩ := hS
    exact hQ h' ⟨a7 _ _ B.TI.1 B.TI.2.1 B.TI.2.2.1 B.TI.2.2.2.1 a, a3, a4, keepT B.l1 a7 d, keepT B.l2 a7 e, .inr ⟨s.heap.objs.size, false, lt f1, lt q1, lt q2, lt qS, a1, _, a5⟩⟩ a5 a6 a7
  · refine pyNext_zipT_item_held B.D f1 f2 a b c d e hx hy fun h' a1 a3 a4 a5 a6 a7 => ?_
    have a8 : ∀ c o, c ≠ z → c ≠ TO → c ≠ i1 → c ≠ i2 → s.heap.get? c = some o → h'.get? c = some o := fun c o h1 _ h3 h4 q => a7 c o h1 h3 h4 q
    exact hQ h' ⟨a8 _ _ B.TI.1 B.TI.2.1 B.TI.2.2.1 B.TI.2.2.2.1 a, a3, a4, keepT B.l1 a8 d, keepT B.l2 a8 e, .inr ⟨T, true, n1, n2, n3, n4, a1, _, a7 _ _ n1 n2 n3 f2⟩⟩ a5 a6 a8
theorem next_end {z TI TO i1 i2 l1 l2 S : Addr} {xs ys : Array Value} {i : Nat} {Q : Option Value → Shared → Prop} (hh : A.handled = none) (B : ZA z TI TO i1 i2 l1 l2 S) (Z : ZS s.heap z TI TO i1 i2 l1 l2 S xs ys i) (hend : xs[i]? = none ∨ ys[i]? = none)
    (hQ : ∀ h', (∀ c o, c ≠ z → c ≠ TO → c ≠ i1 → c ≠ i2 → s.heap.get? c = some o → h'.get? c = some o) → Q none { s with heap := h' }) :
    wpAny (model prog w) A (pyNext (.ref z)) Q E s := by
  obtain ⟨a, b, c, d, e, f⟩ := Z
  rcases f with ⟨f1, u, v, f2⟩ | ⟨T, f, n1, n2, n3, n4, f1, o, f2⟩
  · exact RZ.pyNext_zipT_end hh B.D f1 a f2 b c d e hend hQ
  · exact pyNext_zipT_end_held hh B.D f1 f2 a b c d e hend fun h' k => hQ h' fun c o h1 _ h3 h4 q => k c o h1 h3 h4 q
/-- the pairs so far -/
structure Got (N0 : Nat) (h : Heap) (xs ys acc : Array Value) (i : Nat) : Prop where
  sz : acc.size = i
  at_ : ∀ j, j < i → ∃ (a : Addr) (x y : Value), acc[j]? = some (Value.ref a) ∧ N0 ≤ a ∧ IsPair h a x y ∧ xs[j]? = some x ∧ ys[j]? = some y
  inj : ∀ (j k : Nat) (a : Addr), acc[j]? = some (Value.ref a) → acc[k]? = some (Value.ref a) → j = k
theorem Got.nil {N0 : Nat} {h : Heap} {xs ys : Array Value} : Got N0 h xs ys #[] 0 := ⟨rfl, fun j q => absurd q (Nat.not_lt_zero _), fun j k a q => by simp at q⟩
theorem Got.push {N0 : Nat} {h h' : Heap} {xs ys acc : Array Value} {i : Nat} {x y : Value} {a : Addr} (g : Got N0 h xs ys acc i) (k : ∀ c o, N0 ≤ c → h.get? c = some o → h'.get? c = some o) (ha : N0 ≤ a) (hz : h.objs.size ≤ a) (hp : IsPair h' a x y) (hx : xs[i]? = some x) (hy : ys[i]? = some y) : Got N0 h' xs ys (acc.push (Value.ref a)) (i + 1) := by
  obtain ⟨g1, g2, g3⟩ := g
  have old : ∀ j (b : Addr), acc[j]? = some (Value.ref b) → b ≠ a := fun j b q => by
    have hj : j < i := by rw [← g1]; exact (Array.getElem?_eq_some_iff.mp q).1
    obtain ⟨c, u, v, q1, _, q2, _⟩ := g2 j hj
    rw [q] at q1
    cases q1
    exact Nat.ne_of_lt (Nat.lt_of_lt_of_le (Heap.lt_size q2) hz)
  refine ⟨by rw [Array.size_push, g1], fun j hj => ?_, fun j l b q1 q2 => ?_⟩
  · by_cases e : j = i
    · subst e
      exact ⟨a, x, y, by rw [← g1, Array.getElem?_push_size], ha, hp, hx, hy⟩
    · obtain ⟨c, u, v, q1, q2, q3, q4⟩ := g2 j (by omega)
      exact ⟨c, u, v, by rw [Array.getElem?_push, if_neg (by rw [g1]; exact e)]; exact q1, q2, k _ _ q2 q3, q4⟩
  · rw [Array.getElem?_push] at q1 q2
    split at q1 <;> split at q2
    · omega
    · cases q1; exact absurd rfl (old _ _ q2)
    · cases q2; exact absurd rfl (old _ _ q1)
    · exact g3 j l b q1 q2
theorem loopZ {R : Result → Shared → Prop} (hh : A.handled = none) {z TI TO i1 i2 l1 l2 S : Addr} {xs ys : Array Value} (B : ZA z TI TO i1 i2 l1 l2 S) (res : Value) {N0 n : Nat} (hn : n = min xs.size ys.size) (hz : n ≤ sizeLine) (b1 : z < N0) (b2 : TO < N0) (b3 : i1 < N0) (b4 : i2 < N0) (b5 : S < N0) :
    ∀ (k i : Nat) (s : Shared) (acc : Array Value) (c : Nat), n - i = k → i ≤ n → ZS s.heap z TI TO i1 i2 l1 l2 S xs ys i → N0 ≤ s.heap.objs.size → s.heap.get? S = some { cls := .type "list", dict := none, data := .seq acc c, slots := #[] } → Got N0 s.heap xs ys acc i →
    (∀ h' acc' c', (∀ b o, Out z TO i1 i2 S b → s.heap.get? b = some o → h'.get? b = some o) → h'.get? S = some { cls := .type "list", dict := none, data := .seq acc' c', slots := #[] } → Got N0 h' xs ys acc' n → R (.ok (.ret res)) { s with heap := h' }) →
    codeAny (model prog w) A (.builtin "list.extend.loop" ⟨[.ref S, .ref z, res], []⟩) R s := by
  have out : ∀ c : Nat, N0 ≤ c → Out z TO i1 i2 S c := fun c hc => ⟨Nat.ne_of_gt (Nat.lt_of_lt_of_le b1 hc), Nat.ne_of_gt (Nat.lt_of_lt_of_le b2 hc), Nat.ne_of_gt (Nat.lt_of_lt_of_le b3 hc), Nat.ne_of_gt (Nat.lt_of_lt_of_le b4 hc), Nat.ne_of_gt (Nat.lt_of_lt_of_le b5 hc)⟩
  intro k
  induction k with
  | zero =>
    intro i s acc c hk hi Z hN hS hg hR
    have hin : i = n := by omega
    subst hin
    have hend : xs[i]? = none ∨ ys[i]? = none := by
      rcases Nat.le_total xs.size ys.size with q | q
      · exact .inl (Array.getElem?_eq_none (by omega))
      · exact .inr (Array.getElem?_eq_none (by omega))
    refine codeAny_builtin F.entry_extend_loop ?_
    rw [Around.under_plainId F.plain_extend_loop _]
    show wpAny _ A.in1 (pyNext (.ref z) >>= _) _ _ s
    refine wpAny_bind (next_end (A := A.in1) hh B Z hend fun h' kp => ?_)
    refine wpAny_pure (hR h' acc c (fun b o q e => kp b o q.1 q.2.1 q.2.2.1 q.2.2.2.1 e) (kp S _ B.Sz B.STO B.Si1 B.Si2 hS) ⟨hg.sz, fun j hj => ?_, hg.inj⟩)
    obtain ⟨a, x, y, q1, q2, q3, q4⟩ := hg.at_ j hj
    have := out a q2
    exact ⟨a, x, y, q1, q2, kp _ _ this.1 this.2.1 this.2.2.1 this.2.2.2.1 q3, q4⟩
  | succ k ih =>
    intro i s acc c hk hi Z hN hS hg hR
    have hlt : i < n := by omega
    have hx : xs[i]? = some xs[i] := Array.getElem?_eq_getElem (by omega)
    have hy : ys[i]? = some ys[i] := Array.getElem?_eq_getElem (by omega)
    refine codeAny_builtin F.entry_extend_loop ?_
    rw [Around.under_plainId F.plain_extend_loop _]
    show wpAny _ A.in1 (pyNext (.ref z) >>= _) _ _ s
    refine wpAny_bind (next_item (A := A.in1) B Z ⟨_, hS⟩ hx hy fun h' Z' hp hs kp => ?_)
    have hS' := kp S _ B.Sz B.STO B.Si1 B.Si2 hS
    show wpAny _ A.in1 (updateSeq S (·.push (.ref s.heap.objs.size)) >>= _) _ _ _
    refine wpAny_bind ?_
    have oth : ∀ b o, b ≠ S → h'.get? b = some o → (h'.update S (Obj.mapSeq (·.push (.ref s.heap.objs.size)))).get? b = some o := fun b o hb e => (Heap.get?_update_other _ _ (Ne.symm hb)).trans e
    have hsz : (h'.update S (Obj.mapSeq (·.push (.ref s.heap.objs.size)))).objs.size = s.heap.objs.size + 1 := by rw [Heap.size_update, hs]
    refine wpAny_updateSeq (s := { s with heap := h' }) hS' rfl (wpAny_pure ⟨plainId_quiet F.plain_extend_loop _, ih (i + 1) _ (acc.push (.ref s.heap.objs.size)) _ (by omega) hlt (Z'.keep (fun c o hc e => oth c o hc e) B) ?_ (Heap.get?_update_self _ hS' rfl) ?_ fun h'' acc' c' kp' hS'' hg' => ?_⟩)
      (by rw [hg.sz]; omega) (by show (acc.push (.ref s.heap.objs.size)).size ≤ sizeLine + 1; rw [Array.size_push, hg.sz]; omega)
    · show N0 ≤ (h'.update S _).objs.size
      rw [hsz]; exact Nat.le_succ_of_le hN
    · refine hg.push (fun c o hc e => ?_) hN (Nat.le_refl _) (oth _ _ (Nat.ne_of_gt (Nat.lt_of_lt_of_le b5 hN)) hp) hx hy
      have := out c hc
      exact oth _ _ this.2.2.2.2 (kp _ _ this.1 this.2.1 this.2.2.1 this.2.2.2.1 e)
    · exact hR h'' acc' c' (fun b o q e => kp' b o q (oth _ _ q.2.2.2.2 (kp b o q.1 q.2.1 q.2.2.1 q.2.2.2.1 e))) hS'' hg'
end
end Zp

set_option maxHeartbeats 4000000
namespace Zp
open PySem
open PySem.Sem (wp)
theorem zip_no_len : typeLookup (.type "zip") "__len__" = pure none := by rw [typeLookup_type, builtinLookup_eq_fast]; kernel_rfl
theorem zip_no_hint : typeLookup (.type "zip") "__length_hint__" = pure none := by rw [typeLookup_type, builtinLookup_eq_fast]; kernel_rfl
section
variable {prog : Program} {w : World} {A : Around} {E : Value → Shared → Prop} {s : Shared}
/-- the zip as it comes: its cells; old: what stood ahead of it -/
structure Zp0 (s : Shared) (N : Nat) (l1 l2 : Addr) (xs ys : Array Value) : Prop where
  hz : IsZip s.heap (N + 4) (N + 2) (N + 3) .none
  ti : IsPair s.heap (N + 2) (.ref N) (.ref (N + 1))
  to : IsPair s.heap (N + 3) .none .none
  h1 : s.heap.IsTupleIter N l1 0
  h2 : s.heap.IsTupleIter (N + 1) l2 0
  t1 : s.heap.IsTuple l1 xs
  t2 : s.heap.IsTuple l2 ys
  b1 : l1 < N
  b2 : l2 < N
theorem Zp0.keep {s s' : Shared} {N : Nat} {l1 l2 : Addr} {xs ys : Array Value} (Z : Zp0 s N l1 l2 xs ys) (k : ∀ b o, s.heap.get? b = some o → s'.heap.get? b = some o) : Zp0 s' N l1 l2 xs ys := by
  obtain ⟨a, b, c, d, e, f, g, h, i⟩ := Z
  obtain ⟨o1, q1, r1⟩ := f
  obtain ⟨o2, q2, r2⟩ := g
  exact ⟨k _ _ a, k _ _ b, k _ _ c, d.at fun o q => k _ o q, e.at fun o q => k _ o q, ⟨o1, k _ _ q1, r1⟩, ⟨o2, k _ _ q2, r2⟩, h, i⟩
theorem za {N : Nat} {l1 l2 S : Nat} (b1 : l1 < N) (b2 : l2 < N) (hS : N + 5 ≤ S) : ZA (N + 4) (N + 2) (N + 3) N (N + 1) l1 l2 S := by
  have ne : ∀ {a b : Nat}, a < b → (a : Addr) ≠ b := fun h => Nat.ne_of_lt h
  have ne' : ∀ {a b : Nat}, b < a → (a : Addr) ≠ b := fun h => Nat.ne_of_gt h
  exact ⟨PySem.W.ktu_apart N l1 l2 b1 b2, ⟨ne (by omega), ne (by omega), ne' (by omega), ne' (by omega), ne (by omega)⟩, ⟨ne (by omega), ne (by omega), ne (by omega), ne (by omega), ne (by omega)⟩, ⟨ne (by omega), ne (by omega), ne (by omega), ne (by omega), ne (by omega)⟩, ne' (by omega), ne' (by omega), ne' (by omega), ne' (by omega)⟩
theorem extend_zip {R : Result → Shared → Prop} {N : Nat} {l1 l2 : Addr} {xs ys : Array Value} (hh : A.handled = none) (Z : Zp0 s N l1 l2 xs ys) (hx : xs.size ≤ sizeLine) (S : Nat) (hNS : N + 5 ≤ S) (res : Value) (c₀ : Nat) (hS : s.heap.get? S = some { cls := .type "list", data := .seq #[] c₀ })
    (hR : ∀ h' acc' c', (∀ b o, b < N → s.heap.get? b = some o → h'.get? b = some o) → h'.get? S = some { cls := .type "list", dict := none, data := .seq acc' c', slots := #[] } →
      Got (S + 1) h' xs ys acc' (min xs.size ys.size) → R (.ok (.ret res)) { s with heap := h' }) :
    wpAny (model prog w) A.in1 (Builtin.List.listExtendWith (.ref S) (.ref (N + 4)) res)
      (fun fin s' => match fin with | .done f => R (.ok f) s' | .again c' => c'.quiet = true ∧ codeAny (model prog w) A c' R s') (fun e s' => R (.error e) s') s := by
  have hSlt : S < s.heap.objs.size := Heap.lt_size hS
  have hT : ∀ {h : Heap}, IsZip h (N + 4) (N + 2) (N + 3) .none → (({ s with heap := h } : Shared)).TypeIs (.ref (N + 4)) "zip" := fun q => ⟨_, q, rfl⟩
  unfold Builtin.List.listExtendWith
  refine wpAny_bind (wpAny_typeOf (T := "zip") ⟨_, Z.hz, rfl⟩ ?_)
  have hne : ¬ (S : Addr) = N + 4 := Nat.ne_of_gt (show N + 4 < S by omega)
  have h1 : Builtin.List.listSameRef (.ref S) (.ref (N + 4)) = false := by
    show ((S : Addr) == (N + 4 : Nat)) = false
    exact beq_false_of_ne hne
  have h2 : (Value.type "zip" == Value.type "list") = false := by decide
  have h3 : (Value.type "zip" == Value.type "tuple") = false := by decide
  simp only [h1, h2, h3, Bool.or_false, Bool.false_eq_true, if_false]
  refine wpAny_bind (wpAny_pyIter_zip Z.hz ?_)
  refine wpAny_bind (wpAny_holding ?_)
  unfold Builtin.List.listLengthHint
  refine wpAny_bind (wpAny_specialOf (T := "zip") ⟨_, Z.hz, rfl⟩ zip_no_len ?_)
  show wpAny _ A.in1 (specialOf (Value.ref (N + 4)) (Str.ofString "__length_hint__") >>= _) _ _ _
  refine wpAny_bind (wpAny_specialOf (T := "zip") ⟨_, Z.hz, rfl⟩ zip_no_hint ?_)
  refine wpAny_pure ?_
  show wpAny _ A.in1 (rule "list.extend.makes-room" >>= fun _ => Builtin.List.listTouch (.ref S) >>= fun _ =>
    again (.builtin "list.extend.loop" ⟨[.ref S, .ref (N + 4), res], []⟩)) _ _ _
  refine wpAny_bind (wpAny_rule ?_)
  refine wpAny_bind ?_
  show wpAny _ A.in1 (updateSeq S (·.push .none) >>= fun _ => updateSeq S (·.pop)) _ _ _
  refine wpAny_bind (wpAny_updateSeq hS rfl ?_)
  have hS₂ := Heap.get?_update_self (Obj.mapSeq (·.push Value.none)) hS rfl
  refine wpAny_updateSeq (hz := by seq_fits) hS₂ rfl ?_
  have hS₃ := Heap.get?_update_self (Obj.mapSeq (·.pop)) hS₂ rfl
  have oth : ∀ b o, b ≠ S → s.heap.get? b = some o → ((s.heap.update S (Obj.mapSeq (·.push Value.none))).update S (Obj.mapSeq (·.pop))).get? b = some o :=
    fun b o hb e => (Heap.get?_update_other _ _ (Ne.symm hb)).trans ((Heap.get?_update_other _ _ (Ne.symm hb)).trans e)
  have B := za (S := S) Z.b1 Z.b2 hNS
  have Z1 : ZS s.heap (N + 4) (N + 2) (N + 3) N (N + 1) l1 l2 S xs ys 0 := ⟨Z.ti, Z.h1, Z.h2, Z.t1, Z.t2, .inl ⟨Z.hz, _, _, Z.to⟩⟩
  refine wpAny_pure ⟨plainId_quiet F.plain_extend_loop _, loopZ hh B res (N0 := S + 1) (n := min xs.size ys.size) rfl (Nat.le_trans (Nat.min_le_left _ _) hx) (show N + 4 < S + 1 by omega) (show N + 3 < S + 1 by omega) (show N < S + 1 by omega) (show N + 1 < S + 1 by omega) (Nat.lt_succ_self S) _ 0 _ #[] _ rfl (Nat.zero_le _) (Z1.keep (fun c o hc e => oth c o hc e) B) ?_ hS₃ Got.nil fun h' acc' c' hk hS' hg => ?_⟩
  · show S + 1 ≤ ((s.heap.update S _).update S _).objs.size
    rw [Heap.size_update, Heap.size_update]; exact hSlt
  · refine hR h' acc' c' (fun b o hb e => hk b o ⟨Nat.ne_of_lt (show b < N + 4 by omega), Nat.ne_of_lt (show b < N + 3 by omega), Nat.ne_of_lt hb, Nat.ne_of_lt (show b < N + 1 by omega), Nat.ne_of_lt (show b < S by omega)⟩ (oth b o (Nat.ne_of_lt (show b < S by omega)) e)) hS' hg
/-- list(z) -/
theorem call_list_zip {N : Nat} {l1 l2 : Addr} {xs ys : Array Value} {Q : Value → Shared → Prop} (hh : A.handled = none) (Z : Zp0 s N l1 l2 xs ys) (hx : xs.size ≤ sizeLine)
    (hQ : ∀ h' acc c, (∀ b o, b < N → s.heap.get? b = some o → h'.get? b = some o) → h'.get? s.heap.objs.size = some { cls := .type "list", dict := none, data := .seq acc c, slots := #[] } → Got (s.heap.objs.size + 1) h' xs ys acc (min xs.size ys.size) → Q (.ref s.heap.objs.size) { s with heap := h' }) :
    wpAny (model prog w) A (call (.type "list") [.ref (N + 4)]) Q E s := by
  have lt : N + 4 < s.heap.objs.size := Heap.lt_size Z.hz
  refine callType_codes (Q₁ := fun obj s₁ => obj = .ref s.heap.objs.size ∧ s₁ = { s with heap := s.heap.push { cls := .type "list", data := .seq #[] } }) F.called_list (F.typeCall_list_1 _) F.entry_list_init
    (code_list_new _ ⟨rfl, rfl⟩) fun obj s₁ h₁ => ?_
  obtain ⟨rfl, rfl⟩ := h₁
  have hS : (s.heap.push { cls := .type "list", data := .seq #[] }).get? s.heap.objs.size = some { cls := .type "list", data := .seq #[] } := Heap.get?_push_size _ rfl
  refine ⟨⟨_, hS, rfl⟩, F.args_list_init_2 _ _, ?_⟩
  show wpAny _ _ (do let old ← Builtin.List.listItems (.ref s.heap.objs.size); Builtin.List.listUpdate (.ref s.heap.objs.size) (fun _ => #[]); letGo old.toList.reverse; Builtin.List.listExtendWith (.ref s.heap.objs.size) (.ref (N + 4)) .none) _ _ _
  refine wpAny_bind ?_
  unfold Builtin.List.listItems
  refine wpAny_bind (wpAny_seqItems hS rfl (wpAny_pure ?_))
  show wpAny _ _ (updateSeq s.heap.objs.size (fun _ => #[]) >>= fun _ => letGo (#[] : Array Value).toList.reverse >>= fun _ => Builtin.List.listExtendWith (.ref s.heap.objs.size) (.ref (N + 4)) .none) _ _ _
  refine wpAny_bind (wpAny_updateSeq hS rfl ?_)
  have hS₂ := Heap.get?_update_self (Obj.mapSeq (fun _ => (#[] : Array Value))) hS rfl
  have oth : ∀ b o, s.heap.get? b = some o → ((s.heap.push { cls := .type "list", data := .seq #[] }).update s.heap.objs.size (Obj.mapSeq (fun _ => (#[] : Array Value)))).get? b = some o :=
    fun b o e => (Heap.get?_update_other _ _ (Nat.ne_of_gt (Heap.lt_size e))).trans (Heap.get?_push_of_some _ e)
  refine wpAny_bind (wpAny_letGo ?_)
  refine extend_zip (A := A.in1) hh (Z.keep oth) hx s.heap.objs.size lt .none _ hS₂ fun h' acc' c' hk hS' hg => ?_
  exact ⟨rfl, hQ h' acc' c' (fun b o hb e => hk b o hb (oth b o e)) hS' hg⟩
theorem collect_zip {N : Nat} {l1 l2 : Addr} {xs ys : Array Value} {Q : List Value → Shared → Prop} (hh : A.handled = none) (Z : Zp0 s N l1 l2 xs ys) (hx : xs.size ≤ sizeLine)
    (hQ : ∀ h' acc, (∀ b o, b < N → s.heap.get? b = some o → h'.get? b = some o) → Got (s.heap.objs.size + 1) h' xs ys acc (min xs.size ys.size) → Q acc.toList { s with heap := h' }) :
    wpAny (model prog w) A (collect (.ref (N + 4))) Q E s := by
  have lt : N + 4 < s.heap.objs.size := Heap.lt_size Z.hz
  unfold collect
  refine wpAny_bind (wpAny_runValue (codeAny_builtin F.entry_proto_collect ?_))
  rw [Around.under_plainId F.plain_proto_collect _]
  show wpAny _ A.in1 (newList [] >>= fun l => again (.builtin "list.__iadd__" ⟨[l, .ref (N + 4)], []⟩)) _ _ s
  refine wpAny_bind (wpAny_newObj_type ?_)
  refine wpAny_pure ⟨plainId_quiet F.plain_list_iadd _, codeAny_builtin F.entry_list_iadd ?_⟩
  rw [Around.under_plainId F.plain_list_iadd _]
  show wpAny _ A.in1 (Builtin.List.listExtendWith (.ref s.heap.objs.size) (.ref (N + 4)) (.ref s.heap.objs.size)) _ _ _
  have hS : (s.heap.push { cls := .type "list", data := .seq ([] : List Value).toArray }).get? s.heap.objs.size = some { cls := .type "list", data := .seq #[] 0 } := Heap.get?_push_size _ rfl
  refine wpAny_mono (extend_zip (A := A) (R := fun rr s' => rr = .ok (.ret (.ref s.heap.objs.size)) ∧ ∃ (h' : Heap) (acc : Array Value) (c' : Nat), s' = { s with heap := h' } ∧
      (∀ b o, b < N → s.heap.get? b = some o → h'.get? b = some o) ∧ h'.get? s.heap.objs.size = some { cls := .type "list", dict := none, data := .seq acc c', slots := #[] } ∧ Got (s.heap.objs.size + 1) h' xs ys acc (min xs.size ys.size))
    (s := { s with heap := s.heap.push { cls := .type "list", data := .seq ([] : List Value).toArray } }) hh (Z.keep fun b o e => Heap.get?_push_of_some _ e) hx s.heap.objs.size lt _ 0 hS
    (fun h' acc c' hk e hi => ⟨rfl, h', acc, c', rfl, fun b o hb q => hk b o hb (Heap.get?_push_of_some _ q), e, hi⟩)) (fun fin s' h => ?_) (fun e s' h => ?_)
  · cases fin with
    | done f =>
      obtain ⟨e, h', acc, c', rfl, hk, hS', hi⟩ := h
      cases e
      show wpAny _ A (load s.heap.objs.size >>= _) _ _ _
      exact wpAny_bind (wpAny_load hS' (wpAny_pure (hQ h' acc hk hi)))
    | again c' =>
      refine ⟨h.1, codeAny_mono h.2 fun rr s'' hr' => ?_⟩
      obtain ⟨rfl, h', acc, c', rfl, hk, hS', hi⟩ := hr'
      show wpAny _ A (load s.heap.objs.size >>= _) _ _ _
      exact wpAny_bind (wpAny_load hS' (wpAny_pure (hQ h' acc hk hi)))
  · exact absurd h.1 (by simp)
theorem code_tuple_new_zip {N : Nat} {l1 l2 : Addr} {xs ys : Array Value} {Q₁ : Value → Shared → Prop} (hh : A.handled = none) (Z : Zp0 s N l1 l2 xs ys) (hx : xs.size ≤ sizeLine)
    (h : ∀ h' acc, (∀ b o, b < N → s.heap.get? b = some o → h'.get? b = some o) → Got (s.heap.objs.size + 1) h' xs ys acc (min xs.size ys.size) → Q₁ (.ref h'.objs.size) { s with heap := h'.push { cls := .type "tuple", data := .seq acc } }) :
    codeAny (model prog w) A (.call (.builtin "tuple.__new__") ⟨[.type "tuple", .ref (N + 4)], []⟩) (wants Q₁ E) s := by
  refine codeAny_of_tree ?_
  show wpAny _ A.in1 (do checkBuiltinCall "tuple.__new__" ⟨[.type "tuple", .ref (N + 4)], []⟩; again (.builtin "tuple.__new__" ⟨[.type "tuple", .ref (N + 4)], []⟩)) _ _ s
  refine wpAny_bind (wpAny_of_eq (F.newCall_tuple_1 _) (wpAny_pure ⟨plainId_quiet F.plain_tuple_new _, codeAny_builtin F.entry_tuple_new ?_⟩))
  rw [Around.under_plainId F.plain_tuple_new _]
  have hsub := sub_tuple_self
  have hinit := init_tuple_lookup
  have hmh := madeHere_tuple
  have hTI : s.TypeIs (.ref (N + 4)) "zip" := ⟨_, Z.hz, rfl⟩
  have hh1 : A.in1.handled = none := hh
  wp_walk using wpAny_typeOf hTI, collect_zip (A := A.in1) hh1 Z hx
  intro h' acc hk hacc
  show wpAny _ _ (Builtin.Tuple.tupleExact acc.toList.toArray >>= fun v => ret v) _ _ _
  unfold Builtin.Tuple.tupleExact
  refine wpAny_bind (wpAny_newObj_type ?_ (by show acc.toList.toArray.size ≤ sizeLine; simp only [Array.toArray_toList]; rw [hacc.sz]; exact Nat.le_trans (Nat.min_le_left _ _) hx))
  refine wpAny_pure ?_
  have e : acc.toList.toArray = acc := by simp
  rw [e]
  exact h h' acc hk hacc
/-- tuple(z) -/
theorem call_tuple_zip {N : Nat} {l1 l2 : Addr} {xs ys : Array Value} {Q : Value → Shared → Prop} (hh : A.handled = none) (Z : Zp0 s N l1 l2 xs ys) (hx : xs.size ≤ sizeLine)
    (hQ : ∀ h' acc, (∀ b o, b < N → s.heap.get? b = some o → h'.get? b = some o) → Got (s.heap.objs.size + 1) h' xs ys acc (min xs.size ys.size) → Q (.ref h'.objs.size) { s with heap := h'.push { cls := .type "tuple", data := .seq acc } }) :
    wpAny (model prog w) A (call (.type "tuple") [.ref (N + 4)]) Q E s := by
  refine callType_codes (Q₁ := fun obj s₁ => s₁.TypeIs obj "tuple" ∧ Q obj s₁) F.called_tuple (F.typeCall_tuple_1 _) F.entry_object_init
    (code_tuple_new_zip (A := A.in1) hh Z hx fun h' acc hk hacc => ⟨⟨_, Heap.get?_push_size _ rfl, rfl⟩, hQ h' acc hk hacc⟩) fun obj s₁ h₁ => ?_
  exact ⟨h₁.1, F.args_object_init_2 obj _, object_init_meets F.called_tuple.init.lookup F.called_tuple.made (by decide) prog w A.in1 _ s₁ ⟨h₁.1, rfl, h₁.2⟩⟩
end
end Zp

set_option maxHeartbeats 4000000
namespace L2
open PySem PySem.Spec PyProof.Rows Zp
/-! ### the pairs in the abstract heap -/
def layT (H : Hp) : List (Addr × V × V) → Hp
  | [] => H
  | e :: r => upd (layT H r) e.1 (.tup [e.2.1, e.2.2])
theorem layT_off {H : Hp} : ∀ {L : List (Addr × V × V)} {c : Addr}, (∀ e ∈ L, e.1 ≠ c) → layT H L c = H c
  | [], _, _ => rfl
  | e :: r, c, h => by
    show upd (layT H r) e.1 _ c = H c
    rw [upd_ne (fun z => h e (List.mem_cons_self ..) z.symm)]
    exact layT_off fun x hx => h x (List.mem_cons_of_mem _ hx)
theorem layT_at {H : Hp} : ∀ {L : List (Addr × V × V)} {e : Addr × V × V}, (L.map (·.1)).Nodup → e ∈ L → layT H L e.1 = some (.tup [e.2.1, e.2.2])
  | x :: r, e, nd, he => by
    obtain ⟨n1, n2⟩ := List.nodup_cons.mp (show (x.1 :: r.map (·.1)).Nodup from nd)
    show upd (layT H r) x.1 _ e.1 = _
    rcases List.mem_cons.mp he with rfl | he'
    · exact upd_same
    · rw [upd_ne (fun z => n1 (by rw [← z]; exact List.mem_map.mpr ⟨e, he', rfl⟩))]
      exact layT_at n2 he'
theorem hok_layT {P : Program} {w : World} {H : Hp} {h : Heap} (x : HOk P w H h) : ∀ {L : List (Addr × V × V)}, (L.map (·.1)).Nodup → (∀ e ∈ L, H e.1 = none ∧ ∃ u v, RelV e.2.1 u ∧ RelV e.2.2 v ∧ IsPair h e.1 u v) → HOk P w (layT H L) h
  | [], _, _ => x
  | e :: r, nd, he => by
    obtain ⟨n1, n2⟩ := List.nodup_cons.mp (show (e.1 :: r.map (·.1)).Nodup from nd)
    obtain ⟨h0, u, v, r1, r2, hp⟩ := he e (List.mem_cons_self ..)
    refine (hok_layT x n2 fun y hy => he y (List.mem_cons_of_mem _ hy)).laidN (fun _ _ q => q) ?_ ?_
    · rw [layT_off fun y hy z => n1 (by rw [← z]; exact List.mem_map.mpr ⟨y, hy, rfl⟩)]; exact h0
    · exact ⟨by rw [sizeLine_eq]; show 2 ≤ 16777216; decide, [u, v], .cons r1 (.cons r2 .nil), ⟨_, hp, rfl, _, rfl⟩⟩
section
variable {X : Cx}
theorem Inv.layT {pins : List (Addr × Obj)} {s : Shared} {σ : St} {H : Hp} {h' : Heap} {t' : Nat} (I : Inv X pins σ H s) (k : ∀ b u, s.heap.get? b = some u → h'.get? b = some u) {L : List (Addr × V × V)} (nd : (L.map (·.1)).Nodup)
    (he : ∀ e ∈ L, s.heap.get? e.1 = none ∧ H e.1 = none ∧ ∃ u v, RelV e.2.1 u ∧ RelV e.2.2 v ∧ IsPair h' e.1 u v) : Inv X pins σ (L2.layT H L) { s with heap := h', toks := t' } := by
  have off : ∀ {b : Addr}, (∀ e ∈ L, e.1 ≠ b) → L2.layT H L b = H b := fun h => layT_off h
  have old : ∀ {b : Addr} {u : HO}, H b = some u → L2.layT H L b = some u := fun {b u} q => by
    rw [off fun e m z => by rw [← z, (he e m).2.1] at q; cases q]; exact q
  refine I.un ⟨fun b u q _ _ _ => k b u q, fun b u q _ _ _ => ⟨u.slots, k b u q⟩, fun b u q n _ => ?_, fun b u q _ => ⟨u, k b u q⟩, fun b xs q => old q, fun b o u q => old q, fun b ps q => ⟨#[], by rw [old q]; simp⟩⟩ ((hok_layT (I.hok.kept k) nd) fun e m => (he e m).2)
  rw [off fun e m z => by have f := (he e m).1; rw [z, q] at f; cases f]
  exact n
theorem refs_ofZ : ∀ (l : List Value), (∀ v ∈ l, ∃ a, v = Value.ref a) → ∃ ps : List Addr, l = ps.map Value.ref
  | [], _ => ⟨[], rfl⟩
  | v :: l, h => by
    obtain ⟨a, rfl⟩ := h v (List.mem_cons_self ..)
    obtain ⟨ps, rfl⟩ := refs_ofZ l fun u hu => h u (List.mem_cons_of_mem _ hu)
    exact ⟨a :: ps, rfl⟩
theorem vals_refsZ : ∀ (ps : List Addr), Vals (ps.map V.ref) (ps.map Value.ref)
  | [] => .nil
  | p :: ps => .cons rfl (vals_refsZ ps)
/-- what the pairs are behind the loop -/
theorem got_L {N0 n : Nat} {h : Heap} {xs ys acc : Array Value} {us vs : List V} (g : Got N0 h xs ys acc n) (r1 : Vals us xs.toList) (r2 : Vals vs ys.toList) (hn : n = min xs.size ys.size) :
    ∃ (ps : List Addr), acc.toList = ps.map Value.ref ∧ ps.length = min us.length vs.length ∧ ((ps.zip (us.zip vs)).map (·.1)).Nodup ∧ (ps.zip (us.zip vs)).map (·.1) = ps ∧
      ∀ e ∈ ps.zip (us.zip vs), N0 ≤ e.1 ∧ ∃ u v, RelV e.2.1 u ∧ RelV e.2.2 v ∧ IsPair h e.1 u v := by
  have l1 : us.length = xs.size := by rw [r1.length, Array.length_toList]
  have l2 : vs.length = ys.size := by rw [r2.length, Array.length_toList]
  obtain ⟨ps, hps⟩ := refs_ofZ acc.toList fun v hv => by
    obtain ⟨j, hj, e⟩ := List.mem_iff_getElem.mp hv
    obtain ⟨a, x, y, q, _⟩ := g.at_ j (by rw [← g.sz, ← Array.length_toList]; exact hj)
    refine ⟨a, ?_⟩
    rw [← Array.getElem?_toList, List.getElem?_eq_getElem hj, e] at q
    exact Option.some.inj q
  have pl : ps.length = n := by
    have := congrArg List.length hps
    rw [Array.length_toList, List.length_map, g.sz] at this
    exact this.symm
  have pm : ps.length = min us.length vs.length := by rw [pl, hn, l1, l2]
  have at_ : ∀ j (p : Addr), ps[j]? = some p → acc[j]? = some (Value.ref p) := fun j p q => by
    rw [← Array.getElem?_toList, hps, List.getElem?_map, q]; rfl
  have fs : (ps.zip (us.zip vs)).map (·.1) = ps := by
    rw [← List.unzip_fst, List.unzip_zip_left (by rw [List.length_zip]; omega)]
  have nd : ps.Nodup := by
    rw [List.nodup_iff_pairwise_ne, List.pairwise_iff_getElem]
    intro i j hi hj hij e
    have := g.inj i j ps[i] (at_ i _ (List.getElem?_eq_getElem hi)) (at_ j _ (by rw [List.getElem?_eq_getElem hj, e]))
    omega
  refine ⟨ps, hps, pm, by rw [fs]; exact nd, fs, fun e he => ?_⟩
  obtain ⟨j, hj, e1⟩ := List.mem_iff_getElem.mp he
  rw [List.length_zip, List.length_zip] at hj
  rw [List.getElem_zip, List.getElem_zip] at e1
  subst e1
  have hjp : j < ps.length := by omega
  obtain ⟨a, x, y, q1, q2, q3, q4, q5⟩ := g.at_ j (by omega)
  rw [at_ j _ (List.getElem?_eq_getElem hjp)] at q1
  cases q1
  obtain ⟨u, e2, s2⟩ := r1.get (i := j) (List.getElem?_eq_getElem (by omega))
  obtain ⟨v, e3, s3⟩ := r2.get (i := j) (List.getElem?_eq_getElem (by omega))
  rw [Array.getElem?_toList, q4] at e2
  rw [Array.getElem?_toList, q5] at e3
  cases e2; cases e3
  exact ⟨q2, x, y, s2, s3, q3⟩
/-- list(zip(a, b)), tuple(zip(a, b)) of tuples: mk says which -/
def tZip (K : PySem.W.Frag) (mk : List V → HO) (ta : TA) : TE := fun σ H Q => ta σ H fun vs H1 => ∃ a b xs ys, vs = [.ref a, .ref b] ∧ SqT K H1 a xs ∧ SqT K H1 b ys ∧
  ∀ (L : List (Addr × V × V)) (p : Addr), (L.map (·.1)).Nodup → L.map (·.2) = xs.zip ys → (∀ e ∈ L, H1 e.1 = none) → layT H1 L p = none → Q (.ref p) (upd (layT H1 L) p (mk ((L.map (·.1)).map V.ref)))
theorem zip_snd {ps : List Addr} {us vs : List V} (h : ps.length = min us.length vs.length) : (ps.zip (us.zip vs)).map (·.2) = us.zip vs := by
  rw [← List.unzip_snd, List.unzip_zip_right (by rw [List.length_zip]; omega)]
variable {e e2 : Expr} {ta : TA} {p p2 pos pos2 : Pos}
theorem pe_listZip (hc : X.calm = true) (hg : Gl X "list") (hm : X.mg "list" = none) (hg2 : Gl X "zip") (hm2 : X.mg "zip" = none) (ha : PA X [e, e2] ta)
    (hs : starEach [e, e2] X.env = (false, eval e X.env) :: starEach [e2] X.env := by rfl) (hpl : (backTo pos2 (starEach [e2] X.env)).any (·.1) = false := by rfl)
    (hs2 : starEach [.Call (.Name "zip" p2) [e, e2] [] pos2] X.env = (false, eval (.Call (.Name "zip" p2) [e, e2] [] pos2) X.env) :: starEach [] X.env := by rfl) :
    PE X (.Call (.Name "list" p) [.Call (.Name "zip" p2) [e, e2] [] pos2] [] pos) (tZip X.K .lst ta) := by
  refine ⟨fun pins s σ H Q I h => ?_⟩
  refine Call_ (ld_blt I hg hm boot_list (PyProof.Rows.callWith_type1 (args_cons (Call_ (ld_blt I hg2 hm2 PyProof.Rows.boot_zip (PyProof.Rows.callWith_type1 (thn (ha.run pos2 pins s σ H _ I h) fun us s1 ⟨vs, H1, I1, r1, q1⟩ => ?_) hs hpl))) hs2) hs2 rfl))
  obtain ⟨a, b, xs, ys, ex, hqx, hqy, q⟩ := q1
  subst ex
  cases r1 with
  | cons r rr =>
    cases rr with
    | cons r' rr =>
      cases rr
      cases r
      cases r'
      obtain ⟨its, rv, p1, z1⟩ := I1.tuple hqx
      obtain ⟨its2, rv2, p2', _⟩ := I1.tuple hqy
      obtain ⟨o1, ho1, _⟩ := id p1
      obtain ⟨o2, ho2, _⟩ := id p2'
      refine RZ.call_zipT (show s1.heap.IsTuple a its.toArray from p1) (show s1.heap.IsTuple b its2.toArray from p2') fun h' hz hTI hTO h1 h2 hsz hk => args_nil ?_
      have Z : Zp0 { s1 with heap := h' } s1.heap.objs.size a b its.toArray its2.toArray := ⟨hz, hTI, hTO, h1, h2, by obtain ⟨o, q1, q2⟩ := (show s1.heap.IsTuple a its.toArray from p1); exact ⟨o, hk _ _ q1, q2⟩, by obtain ⟨o, q1, q2⟩ := (show s1.heap.IsTuple b its2.toArray from p2'); exact ⟨o, hk _ _ q1, q2⟩, Heap.lt_size ho1, Heap.lt_size ho2⟩
      refine call_list_zip (s := { s1 with heap := h' }) (I1.ok.hd hc) Z (by rw [List.size_toArray, ← rv.length]; exact z1) fun h'' acc c hk2 hS hg => ?_
      obtain ⟨ps, eps, pm, nd, fs, hL⟩ := got_L hg (us := xs) (vs := ys) (by simpa using rv) (by simpa using rv2) rfl
      have hk3 : ∀ c o, s1.heap.get? c = some o → h''.get? c = some o := fun c o q1 => hk2 c o (Heap.lt_size q1) (hk c o q1)
      have sz : (h' : Heap).objs.size = s1.heap.objs.size + 5 := hsz
      have fr : ∀ c : Nat, s1.heap.objs.size ≤ c → s1.heap.get? c = none ∧ H1 c = none := fun c hcc => ⟨by
        cases q1 : s1.heap.get? c with
        | none => rfl
        | some o => exact absurd (Heap.lt_size q1) (Nat.not_lt_of_le hcc), I1.hok.fresh hcc⟩
      have I2 : Inv X pins σ (layT H1 (ps.zip (xs.zip ys))) { s1 with heap := h'', toks := s1.toks } := I1.layT hk3 nd fun e m => by
        obtain ⟨g1, g2⟩ := hL e m
        have g3 : h'.objs.size + 1 ≤ e.1 := g1
        have f := fr e.1 (show s1.heap.objs.size ≤ e.1 by omega)
        exact ⟨f.1, f.2, g2⟩
      have fp := fr h'.objs.size (show s1.heap.objs.size ≤ h'.objs.size by omega)
      have np : layT H1 (ps.zip (xs.zip ys)) h'.objs.size = none := by
        rw [layT_off fun e m z => ?_]
        · exact fp.2
        · have g3 : h'.objs.size + 1 ≤ e.1 := (hL e m).1
          rw [z] at g3
          exact absurd g3 (Nat.not_succ_le_self _)
      have hz2 : ((ps.map V.ref).length) ≤ sizeLine := by rw [List.length_map, pm]; exact Nat.le_trans (Nat.min_le_left _ _) z1
      refine ⟨.ref h'.objs.size, upd (layT H1 (ps.zip (xs.zip ys))) h'.objs.size (.lst (ps.map V.ref)), ?_, rfl, ?_⟩
      · have e1 : ({ s1 with heap := h'', toks := s1.toks } : Shared) = { s1 with heap := h'' } := rfl
        refine I1.un (H' := upd (layT H1 (ps.zip (xs.zip ys))) h'.objs.size (.lst (ps.map V.ref))) (t' := s1.toks) ?_ ?_
        · have off : ∀ {b : Addr}, s1.heap.get? b ≠ none ∨ H1 b ≠ none → upd (layT H1 (ps.zip (xs.zip ys))) h'.objs.size (.lst (ps.map V.ref)) b = H1 b := fun {b} q1 => by
            have nb : ∀ c : Nat, s1.heap.objs.size ≤ c → (c : Addr) ≠ b := fun c hcc z => by
              have f := fr c hcc
              rw [z] at f
              rcases q1 with q1 | q1
              · exact q1 f.1
              · exact q1 f.2
            rw [upd_ne (nb _ (show s1.heap.objs.size ≤ h'.objs.size by omega)).symm, layT_off fun e m => nb e.1 (by have g3 : h'.objs.size + 1 ≤ e.1 := (hL e m).1; omega)]
          have old : ∀ {b : Addr} {u : HO}, H1 b = some u → upd (layT H1 (ps.zip (xs.zip ys))) h'.objs.size (.lst (ps.map V.ref)) b = some u := fun {b u} q1 => by rw [off (.inr (by rw [q1]; simp))]; exact q1
          exact ⟨fun b u q _ _ _ => hk3 b u q, fun b u q _ _ _ => ⟨u.slots, hk3 b u q⟩, fun b u q n _ => by rw [off (.inl (by rw [q]; simp))]; exact n, fun b u q _ => ⟨u, hk3 b u q⟩, fun b xs q => old q, fun b o u q => old q, fun b ps q => ⟨#[], by rw [old q]; simp⟩⟩
        · exact I2.hok.laidN (fun _ _ q => q) np ⟨hz2, acc.toList, c, by rw [eps]; exact vals_refsZ ps, by rw [Array.toArray_toList]; exact hS⟩
      · have := q (ps.zip (xs.zip ys)) h'.objs.size nd (zip_snd pm) (fun e m => (fr e.1 (by have g3 : h'.objs.size + 1 ≤ e.1 := (hL e m).1; omega)).2) np
        rw [fs] at this
        exact this
theorem pe_tupZip (hc : X.calm = true) (hg : Gl X "tuple") (hm : X.mg "tuple" = none) (hg2 : Gl X "zip") (hm2 : X.mg "zip" = none) (ha : PA X [e, e2] ta)
    (hs : starEach [e, e2] X.env = (false, eval e X.env) :: starEach [e2] X.env := by rfl) (hpl : (backTo pos2 (starEach [e2] X.env)).any (·.1) = false := by rfl)
    (hs2 : starEach [.Call (.Name "zip" p2) [e, e2] [] pos2] X.env = (false, eval (.Call (.Name "zip" p2) [e, e2] [] pos2) X.env) :: starEach [] X.env := by rfl) :
    PE X (.Call (.Name "tuple" p) [.Call (.Name "zip" p2) [e, e2] [] pos2] [] pos) (tZip X.K .tup ta) := by
  refine ⟨fun pins s σ H Q I h => ?_⟩
  refine Call_ (ld_blt I hg hm boot_tuple (PyProof.Rows.callWith_type1 (args_cons (Call_ (ld_blt I hg2 hm2 PyProof.Rows.boot_zip (PyProof.Rows.callWith_type1 (thn (ha.run pos2 pins s σ H _ I h) fun us s1 ⟨vs, H1, I1, r1, q1⟩ => ?_) hs hpl))) hs2) hs2 rfl))
  obtain ⟨a, b, xs, ys, ex, hqx, hqy, q⟩ := q1
  subst ex
  cases r1 with
  | cons r rr =>
    cases rr with
    | cons r' rr =>
      cases rr
      cases r
      cases r'
      obtain ⟨its, rv, p1, z1⟩ := I1.tuple hqx
      obtain ⟨its2, rv2, p2', _⟩ := I1.tuple hqy
      obtain ⟨o1, ho1, _⟩ := id p1
      obtain ⟨o2, ho2, _⟩ := id p2'
      refine RZ.call_zipT (show s1.heap.IsTuple a its.toArray from p1) (show s1.heap.IsTuple b its2.toArray from p2') fun h' hz hTI hTO h1 h2 hsz hk => args_nil ?_
      have Z : Zp0 { s1 with heap := h' } s1.heap.objs.size a b its.toArray its2.toArray := ⟨hz, hTI, hTO, h1, h2, by obtain ⟨o, q1, q2⟩ := (show s1.heap.IsTuple a its.toArray from p1); exact ⟨o, hk _ _ q1, q2⟩, by obtain ⟨o, q1, q2⟩ := (show s1.heap.IsTuple b its2.toArray from p2'); exact ⟨o, hk _ _ q1, q2⟩, Heap.lt_size ho1, Heap.lt_size ho2⟩
      refine call_tuple_zip (s := { s1 with heap := h' }) (I1.ok.hd hc) Z (by rw [List.size_toArray, ← rv.length]; exact z1) fun h'' acc hk2 hg => ?_
      obtain ⟨ps, eps, pm, nd, fs, hL⟩ := got_L hg (us := xs) (vs := ys) (by simpa using rv) (by simpa using rv2) rfl
      have hk3 : ∀ c o, s1.heap.get? c = some o → h''.get? c = some o := fun c o q1 => hk2 c o (Heap.lt_size q1) (hk c o q1)
      have sz : (h' : Heap).objs.size = s1.heap.objs.size + 5 := hsz
      have fr : ∀ c : Nat, s1.heap.objs.size ≤ c → s1.heap.get? c = none ∧ H1 c = none := fun c hcc => ⟨by
        cases q1 : s1.heap.get? c with
        | none => rfl
        | some o => exact absurd (Heap.lt_size q1) (Nat.not_lt_of_le hcc), I1.hok.fresh hcc⟩
      have I2 : Inv X pins σ (layT H1 (ps.zip (xs.zip ys))) { s1 with heap := h'', toks := s1.toks } := I1.layT hk3 nd fun e m => by
        obtain ⟨g1, g2⟩ := hL e m
        have g3 : h'.objs.size + 1 ≤ e.1 := g1
        have f := fr e.1 (show s1.heap.objs.size ≤ e.1 by omega)
        exact ⟨f.1, f.2, g2⟩
      have hz2 : ((ps.map V.ref).length) ≤ sizeLine := by rw [List.length_map, pm]; exact Nat.le_trans (Nat.min_le_left _ _) z1
      have np : layT H1 (ps.zip (xs.zip ys)) h''.objs.size = none := I2.hok.fresh (Nat.le_refl _)
      refine ⟨.ref h''.objs.size, upd (layT H1 (ps.zip (xs.zip ys))) h''.objs.size (.tup (ps.map V.ref)), ?_, rfl, ?_⟩
      · exact I2.laid (t' := s1.toks) (fun b o e => Heap.get?_push_of_some _ e) (Nat.le_refl _) (show ObjOk X.prog X.w _ _ _ (.tup (ps.map V.ref)) from ⟨hz2, acc.toList, by rw [eps]; exact vals_refsZ ps, by rw [Array.toArray_toList]; exact IsTup.new _ _⟩)
      · have := q (ps.zip (xs.zip ys)) h''.objs.size nd (zip_snd pm) (fun e m => (fr e.1 (by have g3 : h'.objs.size + 1 ≤ e.1 := (hL e m).1; omega)).2) np
        rw [fs] at this
        exact this
end
end L2

set_option maxHeartbeats 4000000
namespace Dn
open PySem PySem.Spec PyProof.Rows L2
variable {X : Cx} {k : Kc}
/-! ### zip as a value -/
theorem reps_zip {K : PySem.W.Frag} {μ : Mu} {H : Hp} : ∀ {xs ys : List D} {us vs : List V} {L : List (Addr × V × V)}, Reps K μ H xs us → Reps K μ H ys vs → L.map (·.2) = us.zip vs → (∀ e ∈ L, H e.1 = some (.tup [e.2.1, e.2.2])) → Reps K μ H (zipD xs ys) ((L.map (·.1)).map V.ref)
  | [], ys, us, vs, L, h1, _, e, _ => by
    rw [reps_nil.mp h1] at e
    have : L = [] := by cases L with
      | nil => rfl
      | cons l r => simp at e
    subst this
    rw [show zipD [] ys = [] by cases ys <;> rfl]
    exact Reps.nil
  | x :: xs, [], us, vs, L, _, h2, e, _ => by
    rw [reps_nil.mp h2] at e
    have : L = [] := by cases L with
      | nil => rfl
      | cons l r => simp at e
    subst this
    exact Reps.nil
  | x :: xs, y :: ys, us, vs, L, h1, h2, e, h => by
    obtain ⟨u, us', rfl, p1, t1⟩ := reps_cons.mp h1
    obtain ⟨v, vs', rfl, p2, t2⟩ := reps_cons.mp h2
    cases L with
    | nil => cases e
    | cons l L =>
      simp only [List.map_cons, List.zip_cons_cons, List.cons.injEq] at e
      obtain ⟨e1, e2⟩ := e
      have hl := h l (List.mem_cons_self ..)
      rw [e1] at hl
      exact Reps.cons (mk_tup (SqT.of hl) (Reps.cons p1 (Reps.cons p2 Reps.nil))) (reps_zip t1 t2 e2 fun z hz => h z (List.mem_cons_of_mem _ hz))
theorem zip_len_le {xs ys : List D} {n : Nat} (h : xs.length ≤ n) : (zipD xs ys).length ≤ n := by rw [zip_len]; omega
theorem e_lzip (hk : KcOk X k) {x y : Expr} {a b : C} {own : Option Bool} {p p2 pos pos2 : Pos} (ha : PE X x (tEv X.K k.g a)) (hb : PE X y (tEv X.K k.g b)) (hp : plainX x = true) (hp' : plainX y = true) (hg : glB k.sc "list" = true) (hf : ("list" : Str) ∈ k.free) (hg2 : glB k.sc "zip" = true) (hf2 : ("zip" : Str) ∈ k.free) :
    PE X (.Call (.Name "list" p) [.Call (.Name "zip" p2) [x, y] [] pos2] [] pos) (tEv X.K k.g (.zipV false own a b)) := by
  refine (pe_listZip hk.calm (glB_ok hk hg) (hk.free _ hf) (glB_ok hk hg2) (hk.free _ hf2) (as_cons ha (as_cons hb as_nil hp') hp) (star_of hp _ _) (nostar (es := [y]) (by show (plainX y && true) = true; rw [hp']; rfl) _ _)).imp fun σ H Q ⟨μ, δ, S, d, S', E, R, e1, q⟩ => ?_
  simp only [evE] at e1
  obtain ⟨⟨d1, S1⟩, e2, e3⟩ := bindS e1
  obtain ⟨⟨d2, S2⟩, e4, e5⟩ := bindS e3
  refine ⟨μ, δ, S, [d1, d2], S2, E, R, by simp only [evEs, e2, e4, Option.bind_some, Option.map_some], fun vs H1 μ1 E1 R1 p1 => ?_⟩
  obtain ⟨u, r1, rfl, q1, t1⟩ := reps_cons.mp p1
  obtain ⟨v, r2, rfl, q2, t2⟩ := reps_cons.mp t1
  obtain rfl := reps_nil.mp t2
  cases d1 with
  | tup xs =>
    cases d2 with
    | tup ys =>
      obtain ⟨b1, us, rfl, f1, f2⟩ := rep_tup q1
      obtain ⟨b2, ws, rfl, g1, g2⟩ := rep_tup q2
      refine ⟨b1, b2, us, ws, rfl, f1, g1, fun L p nd eL h0 hp => ?_⟩
      have E2 : Ext μ1 H1 μ1 (layT H1 L) := Ext.grow fun c o e => by rw [layT_off fun l hl z => by rw [← z, h0 l hl] at e; cases e]; exact e
      have R2 : Rl X.K μ1 (layT H1 L) S2 := R1.grow fun c o e => by rw [layT_off fun l hl z => by rw [← z, h0 l hl] at e; cases e]; exact e
      have pz := reps_zip (f2.mono R1 E2) (g2.mono R1 E2) eL fun l hl => layT_at nd hl
      dsimp only at e5
      rw [if_neg (by decide)] at e5
      cases own with
      | none =>
        cases e5
        exact (q.ext (E1.trans E2)).new R2 hp (mk_lst (R2.fz hp) upd_same (pz.mono R2 (Ext.new hp)))
      | some kp =>
        cases e5
        refine q _ _ (μ1.push p) ((E1.trans E2).trans (Ext.push hp)) (R2.push hp pz) (mk_ref ?_ ⟨_, upd_same⟩)
        show (μ1.ad ++ [p])[S2.length]? = some p
        rw [← R2.len, List.getElem?_append_right (Nat.le_refl _)]
        simp
    | _ => cases e5
  | _ => cases e5
theorem e_tzip (hk : KcOk X k) {x y : Expr} {a b : C} {own : Option Bool} {p p2 pos pos2 : Pos} (ha : PE X x (tEv X.K k.g a)) (hb : PE X y (tEv X.K k.g b)) (hp : plainX x = true) (hp' : plainX y = true) (hg : glB k.sc "tuple" = true) (hf : ("tuple" : Str) ∈ k.free) (hg2 : glB k.sc "zip" = true) (hf2 : ("zip" : Str) ∈ k.free) :
    PE X (.Call (.Name "tuple" p) [.Call (.Name "zip" p2) [x, y] [] pos2] [] pos) (tEv X.K k.g (.zipV true own a b)) := by
  refine (pe_tupZip hk.calm (glB_ok hk hg) (hk.free _ hf) (glB_ok hk hg2) (hk.free _ hf2) (as_cons ha (as_cons hb as_nil hp') hp) (star_of hp _ _) (nostar (es := [y]) (by show (plainX y && true) = true; rw [hp']; rfl) _ _)).imp fun σ H Q ⟨μ, δ, S, d, S', E, R, e1, q⟩ => ?_
  simp only [evE] at e1
  obtain ⟨⟨d1, S1⟩, e2, e3⟩ := bindS e1
  obtain ⟨⟨d2, S2⟩, e4, e5⟩ := bindS e3
  refine ⟨μ, δ, S, [d1, d2], S2, E, R, by simp only [evEs, e2, e4, Option.bind_some, Option.map_some], fun vs H1 μ1 E1 R1 p1 => ?_⟩
  obtain ⟨u, r1, rfl, q1, t1⟩ := reps_cons.mp p1
  obtain ⟨v, r2, rfl, q2, t2⟩ := reps_cons.mp t1
  obtain rfl := reps_nil.mp t2
  cases d1 with
  | tup xs =>
    cases d2 with
    | tup ys =>
      obtain ⟨b1, us, rfl, f1, f2⟩ := rep_tup q1
      obtain ⟨b2, ws, rfl, g1, g2⟩ := rep_tup q2
      refine ⟨b1, b2, us, ws, rfl, f1, g1, fun L p nd eL h0 hp => ?_⟩
      have E2 : Ext μ1 H1 μ1 (layT H1 L) := Ext.grow fun c o e => by rw [layT_off fun l hl z => by rw [← z, h0 l hl] at e; cases e]; exact e
      have R2 : Rl X.K μ1 (layT H1 L) S2 := R1.grow fun c o e => by rw [layT_off fun l hl z => by rw [← z, h0 l hl] at e; cases e]; exact e
      have pz := reps_zip (f2.mono R1 E2) (g2.mono R1 E2) eL fun l hl => layT_at nd hl
      dsimp only at e5
      rw [if_pos True.intro] at e5
      cases e5
      exact (q.ext (E1.trans E2)).new R2 hp (mk_tup (SqT.of upd_same) (pz.mono R2 (Ext.new hp)))
    | _ => cases e5
  | _ => cases e5
theorem e_cat {x y : Expr} {a b : C} {kp : Bool} {pos : Pos} (ha : PE X x (tEv X.K k.g a)) (hb : PE X y (tEv X.K k.g b)) : PE X (.BinOp x .Add y pos) (tEv X.K k.g (.cat kp a b)) := (pe_op op_cat ha hb).imp fun σ H Q ⟨μ, δ, S, d, S', E, R, e1, q⟩ => by
  simp only [evE] at e1
  obtain ⟨⟨d1, S1⟩, e2, e3⟩ := bindS e1
  obtain ⟨⟨d2, S2⟩, e4, e5⟩ := bindS e3
  refine ev2 E R e2 e4 fun x y H2 μ2 E2 R2 _ p1 p2 => ?_
  dsimp only at e5
  split at e5
  · rename_i xs ys z1 z2
    split at e5
    · rename_i hl
      cases e5
      obtain ⟨b1, us, rfl, f1, f2⟩ := rep_lst R2 z1 p1
      obtain ⟨b2, vs, rfl, g1, g2⟩ := rep_lst R2 z2 p2
      refine ⟨b1, b2, us, vs, rfl, rfl, f1, g1, by rw [sizeL, ← f2.length, ← g2.length]; exact hl, fun p hp => ?_⟩
      refine q _ _ (μ2.push p) (E2.trans (Ext.push hp)) (R2.push hp (f2.append g2)) (mk_ref ?_ ⟨_, upd_same⟩)
      show (μ2.ad ++ [p])[S2.length]? = some p
      rw [← R2.len, List.getElem?_append_right (Nat.le_refl _)]
      simp
    · cases e5
  · cases e5
/-! ### displays with starred parts -/
def tEvS (K : PySem.W.Frag) (G : GE) (cs : List C) (fl : List Bool) : TA := fun σ H Q => ∃ μ δ S ds S' xs, RepEnv K μ H σ δ ∧ Rl K μ H S ∧ evEs G cs δ S = some (ds, S') ∧ sprD ds fl = some xs ∧ ∀ vs H' μ', Ext μ H μ' H' → Rl K μ' H' S' → Reps K μ' H' xs vs → Q vs H'
theorem sps_nil : PA X [] (tEvS X.K k.g [] []) := pa_nil.imp fun σ H Q ⟨μ, δ, S, ds, S', xs, E, R, e1, e2, q⟩ => by
  simp only [evEs] at e1; cases e1
  simp only [sprD] at e2; cases e2
  exact q [] H μ Ext.refl R Reps.nil
theorem sps_cons {e : Expr} {es : List Expr} {c : C} {cs : List C} {fl : List Bool} (h1 : PE X e (tEv X.K k.g c)) (h2 : PA X es (tEvS X.K k.g cs fl)) (hp : plainX e = true) : PA X (e :: es) (tEvS X.K k.g (c :: cs) (false :: fl)) := (pa_cons h1 h2 (star_of hp _ _)).imp fun σ H Q ⟨μ, δ, S, ds, S', xs, E, R, e1, ex, q⟩ => by
  simp only [evEs] at e1
  obtain ⟨⟨d, S1⟩, e2, e3⟩ := bindS e1
  obtain ⟨⟨r, S2⟩, e4, e5⟩ := mapS e3
  cases e5
  simp only [sprD, Bool.false_eq_true, ↓reduceIte, Option.bind_some] at ex
  obtain ⟨ys, e6, e7⟩ := mapS ex
  subst e7
  refine ⟨μ, δ, S, d, S1, E, R, e2, fun v H1 μ1 E1 R1 p1 => ⟨μ1, δ, S1, r, S2, ys, E.mono R E1, R1, e4, e6, fun vs H2 μ2 E2 R2 p2 => ?_⟩⟩
  exact q (v :: vs) H2 μ2 (E1.trans E2) R2 (Reps.cons (p1.mono R1 E2) p2)
theorem sps_star {e : Expr} {es : List Expr} {c : C} {cs : List C} {fl : List Bool} {p : Pos} (h1 : PE X e (tEv X.K k.g c)) (h2 : PA X es (tEvS X.K k.g cs fl)) : PA X (.Starred e p :: es) (tEvS X.K k.g (c :: cs) (true :: fl)) := (StX.pa_star h1 h2).imp fun σ H Q ⟨μ, δ, S, ds, S', xs, E, R, e1, ex, q⟩ => by
  simp only [evEs] at e1
  obtain ⟨⟨d, S1⟩, e2, e3⟩ := bindS e1
  obtain ⟨⟨r, S2⟩, e4, e5⟩ := mapS e3
  cases e5
  simp only [sprD, ↓reduceIte] at ex
  obtain ⟨zs, e8, e9⟩ := bindS ex
  obtain ⟨ys, e6, e7⟩ := mapS e9
  subst e7
  cases d with
  | tup ws =>
    cases e8
    refine ⟨μ, δ, S, _, S1, E, R, e2, fun v H1 μ1 E1 R1 p1 => ?_⟩
    obtain ⟨a, us, rfl, f1, f2⟩ := rep_tup p1
    exact ⟨a, us, rfl, .inl f1, μ1, δ, S1, r, S2, ys, E.mono R E1, R1, e4, e6, fun vs H2 μ2 E2 R2 p2 => q (us ++ vs) H2 μ2 (E1.trans E2) R2 ((f2.mono R1 E2).append p2)⟩
  | _ => cases e8
theorem e_tupS {es : List Expr} {cs : List C} {fl : List Bool} {x1 pos} (h : PA X es (tEvS X.K k.g cs fl)) : PE X (.Tuple es x1 pos) (tEv X.K k.g (.tupS cs fl)) := (pe_tup h).imp fun σ H Q ⟨μ, δ, S, d, S', E, R, e1, q⟩ => by
  simp only [evE] at e1
  obtain ⟨⟨ds, S1⟩, e2, e3⟩ := bindS e1
  obtain ⟨xs, e4, e5⟩ := bindS e3
  split at e5
  · rename_i hl
    cases e5
    refine ⟨μ, δ, S, ds, _, xs, E, R, e2, e4, fun vs H1 μ1 E1 R1 p1 => ⟨by rw [sizeL, ← p1.length]; exact hl, fun p hp => ?_⟩⟩
    exact (q.ext E1).new R1 hp (mk_tup (SqT.of upd_same) (p1.mono R1 (Ext.new hp)))
  · cases e5
/-! ### dicts of the module -/
theorem e_din (hk : KcOk X k) {e : Expr} {c : C} {x : Str} {kvs : List (Str × Int)} {p pos : Pos} (he : PE X e (tEv X.K k.g c)) (h1 : glB k.sc x = true) (h2 : nmB x = true) (h3 : k.dd.lookup x = some kvs) : PE X (.Compare e [.In] [.Name x p] pos) (tEv X.K k.g (.din c x kvs)) := by
  obtain ⟨a, m, es, n, D, y, z⟩ := hk.dd x kvs h3
  refine (pe_cmpR (op_in_kd D) he (pe_glob (v := .ref a) (glB_ok hk h1) m rfl (nmB_ok h2).1) rfl).imp fun σ H Q ⟨μ, δ, S, d, S', E, R, e1, q⟩ => ?_
  simp only [evE] at e1
  obtain ⟨⟨d1, S1⟩, e2, e3⟩ := bindS e1
  refine ev1 E R e2 fun v H1 μ1 E1 R1 N1 p1 => ?_
  cases d1 with
  | str w =>
    cases e3
    obtain rfl := rep_str p1
    cases hl : kvs.lookup w with
    | none => exact ⟨w, _, rfl, rfl, z w hl, by rw [hl] at q; exact (q.ext E1).at R1 mk_bl⟩
    | some i =>
      obtain ⟨u, yu, _⟩ := y w i hl
      exact ⟨w, _, rfl, rfl, yu, by rw [hl] at q; exact (q.ext E1).at R1 mk_bl⟩
  | _ => cases e3
theorem t_din (hk : KcOk X k) {e : Expr} {c : C} {x : Str} {kvs : List (Str × Int)} {p pos : Pos} (he : PE X e (tEv X.K k.g c)) (h1 : glB k.sc x = true) (h2 : nmB x = true) (h3 : k.dd.lookup x = some kvs) : PT X (.Compare e [.In] [.Name x p] pos) (tTv X.K k.g (.din c x kvs)) := by
  obtain ⟨a, m, es, n, D, y, z⟩ := hk.dd x kvs h3
  refine (pt_cmpR (op_in_kd D) he (pe_glob (v := .ref a) (glB_ok hk h1) m rfl (nmB_ok h2).1) rfl).imp fun σ H Q ⟨μ, δ, S, d, S', E, R, e1, q⟩ => ?_
  simp only [evT] at e1
  obtain ⟨⟨d1, S1⟩, e2, e3⟩ := bindS e1
  refine ev1 E R e2 fun v H1 μ1 E1 R1 N1 p1 => ?_
  cases d1 with
  | str w =>
    cases e3
    obtain rfl := rep_str p1
    cases hl : kvs.lookup w with
    | none => exact ⟨w, _, rfl, rfl, z w hl, _, rfl, by rw [hl] at q; exact q H1 μ1 E1 R1⟩
    | some i =>
      obtain ⟨u, yu, _⟩ := y w i hl
      exact ⟨w, _, rfl, rfl, yu, _, rfl, by rw [hl] at q; exact q H1 μ1 E1 R1⟩
  | _ => cases e3
theorem e_dix (hk : KcOk X k) {e : Expr} {c : C} {x : Str} {kvs : List (Str × Int)} {p pos : Pos} (he : PE X e (tEv X.K k.g c)) (hp : plainX e = true) (h1 : glB k.sc x = true) (h2 : nmB x = true) (h3 : k.dd.lookup x = some kvs) : PE X (.Subscript (.Name x p) e pos) (tEv X.K k.g (.dix x kvs c)) := by
  obtain ⟨a, m, es, n, D, y, z⟩ := hk.dd x kvs h3
  refine (pe_ix ix_kdict (pe_glob (v := .ref a) (glB_ok hk h1) m rfl (nmB_ok h2).1) he (fun _ _ => by cases e <;> first | rfl | cases hp)).imp fun σ H Q ⟨μ, δ, S, d, S', E, R, e1, q⟩ => ?_
  simp only [evE] at e1
  obtain ⟨⟨d1, S1⟩, e2, e3⟩ := bindS e1
  refine ev1 E R e2 fun v H1 μ1 E1 R1 N1 p1 => ?_
  cases d1 with
  | str w =>
    obtain ⟨i, e4, e5⟩ := mapS e3
    cases e5
    obtain rfl := rep_str p1
    obtain ⟨u, yu, ru⟩ := y w i e4
    exact ⟨a, w, .int i, rfl, rfl, ⟨es, n, u, D.at_, D.lit, yu, ru⟩, (q.ext E1).at R1 mk_int⟩
  | _ => cases e3
end Dn

set_option maxHeartbeats 4000000
namespace Dn
open PySem PySem.Spec PyProof.Rows L2
/-! ### t[::n], n 1 or -1 by value -/
section
variable {prog : Program} {w : World} {A : Around} {E : Value → Shared → Prop} {s : Shared}
theorem fwd_parts (n : Nat) : Builtin.Slice.sliceAdjust none none 1 (n : Int) = (0, (n : Int)) := by
  unfold Builtin.Slice.sliceAdjust
  simp
theorem fwd_places (n : Nat) : Builtin.Slice.slicePlaces 0 (n : Int) 1 = n := by
  unfold Builtin.Slice.slicePlaces
  simp only [show ((1 : Int) > 0) by omega, if_true]
  split
  · rw [Int.ediv_one]; omega
  · omega
theorem fwd_applied {sl : Addr} {t : Tok} {n : Nat} {Q : Int × Int × Nat → Shared → Prop} (hs : s.heap.IsSliceOf sl .none .none (.int 1 t)) (h : Q (0, 1, n) s) :
    wpAny (model prog w) A (Builtin.Slice.sliceApplied (.ref sl) (pure (n : Int))) Q E s := by
  obtain ⟨os, hos, hcs, hds⟩ := id hs
  unfold Builtin.Slice.sliceApplied Builtin.Slice.sliceFields
  refine wpAny_bind (wpAny_bind (wpAny_field hos hds (x := .none) rfl (wpAny_bind (wpAny_field hos hds (x := .none) rfl (wpAny_bind (wpAny_field hos hds (x := .int 1 t) rfl (wpAny_pure ?_)))))))
  refine wpAny_bind (slicePart_int ?_)
  show wpAny _ _ (if ((1 : Int) == 0) = true then _ else _) _ _ s
  rw [if_neg (by decide)]
  refine wpAny_bind (slicePart_none (wpAny_bind (slicePart_none (wpAny_bind (wpAny_pure ?_)))))
  show wpAny _ _ (match Builtin.Slice.sliceAdjust none none 1 (n : Int) with | (lo, hi) => pure (lo, (1 : Int), Builtin.Slice.slicePlaces lo hi 1)) _ _ s
  rw [fwd_parts n]
  show wpAny _ _ (pure ((0 : Int), (1 : Int), Builtin.Slice.slicePlaces 0 (n : Int) 1)) _ _ s
  rw [fwd_places]
  exact wpAny_pure h
theorem fwd_tuple {t sl : Addr} {tk : Tok} {items : Array Value} {Q : Value → Shared → Prop} (ht : IsTup s.heap t items) (hs : s.heap.IsSliceOf sl .none .none (.int 1 tk))
    (h : Q (.ref t) s) : wpAny (model prog w) A (getItem (.ref t) (.ref sl)) Q E s := by
  obtain ⟨os, hos, hcs, hds⟩ := id hs
  have hT : s.TypeIs (.ref sl) "slice" := ⟨os, hos, hcs⟩
  unfold getItem
  try with_reducible refine wpAny_holding ?_
  first | refine wpAny_bind (wpAny_pure ?_) | skip
  refine wpAny_bind (wpAny_sequenceKey ht.typeIs (by decide) ?_)
  refine wpAny_bind (wpAny_callSpecial?_slot (name := Str.ofString "__getitem__") ht.typeIs PyProof.Rows.slot_tuple_getitem
    (wpAny_call_entry PyProof.Rows.slot_tuple_getitem ht.typeIs entry_tuple_getitem ?_ (args_tuple_getitem _ _)))
  show wpAny _ _ (Builtin.Tuple.tupleItemsOf (.ref t) >>= _) _ _ s
  refine wpAny_bind (tupleItemsOf_ ht ?_)
  refine wpAny_bind (wpAny_typeOf hT ?_)
  rw [if_pos (by decide)]
  refine wpAny_bind (fwd_applied hs ?_)
  show wpAny _ _ (if ((0 : Int) == 0 && (1 : Int) == 1 && items.size == items.size) = true then _ else _) _ _ s
  rw [if_pos (by simp)]
  unfold Builtin.Tuple.tupleIsExact
  refine wpAny_bind (wpAny_bind (wpAny_typeOf ht.typeIs (wpAny_pure ?_)))
  rw [if_pos (by decide)]
  first
    | exact wpAny_bind (wpAny_rule (wpAny_pure ⟨_, rfl, wpAny_pure h⟩))
    | exact wpAny_bind (wpAny_rule (wpAny_bind (wpAny_pure (wpAny_pure ⟨_, rfl, wpAny_pure h⟩))))
end
/-- a[::n], a a tuple -/
def tStp (K : PySem.W.Frag) (te tn : TE) : TE := fun σ H Q => te σ H fun x H1 => tPart tn σ H1 fun o H2 => ∃ (a : Addr) (xs : List V) (n : Int), x = .ref a ∧ o = some n ∧ SqT K H2 a xs ∧ ((n = 1 ∧ Q (.ref a) H2) ∨ (n = -1 ∧ ∀ p, H2 p = none → Q (.ref p) (upd H2 p (.tup xs.reverse))))
theorem pe_stp {X : Cx} {e f : Expr} {es : List Expr} {kw : List Keyword} {te tn : TE} {p2 p3 pos : Pos} (he : PE X e te) (hn : PE X (.Call f es kw p2) tn) : PE X (.Subscript e (.Slice none none (some (.Call f es kw p2)) p3) pos) (tStp X.K te tn) := by
  refine ⟨fun pins s σ H Q I h => ?_⟩
  refine Subscript_ (thn (he.run pins s σ H _ I h) fun v s1 ⟨x, H1, I1, r1, q1⟩ => ?_)
  have hst : PO X (some (.Call f es kw p2)) (tPart tn) := po_some hn
  refine wpAny_Slice (thn (po_none.run pins s1 σ H1 (fun o H2 => o = none ∧ H2 = H1) I1 ⟨rfl, rfl⟩) fun vl s2 ⟨l, H2, I2, pl, el, e2⟩ => ?_)
  subst el e2
  refine thn (po_none.run pins s2 σ H2 (fun o H3 => o = none ∧ H3 = H2) I2 ⟨rfl, rfl⟩) fun vu s3 ⟨u, H3, I3, pu, eu, e3⟩ => ?_
  subst eu e3
  refine thn (hst.run pins s3 σ H3 (fun o H4 => ∃ (a : Addr) (xs : List V) (n : Int), x = .ref a ∧ o = some n ∧ SqT X.K H4 a xs ∧ ((n = 1 ∧ Q (.ref a) H4) ∨ (n = -1 ∧ ∀ p, H4 p = none → Q (.ref p) (upd H4 p (.tup xs.reverse))))) I3 q1) fun vs s4 ⟨o, H4, I4, ps, a, xs, n, ex, eo, hx, q⟩ => ?_
  · subst ex eo
    cases r1
    have I5 : Inv X pins σ H4 { s4 with heap := s4.heap.push { cls := .type "slice", data := .fields #[vl, vu, vs] } } := I4.kept (t' := s4.toks) fun b ob q => Heap.get?_push_of_some _ q
    show wpAny (model X.prog X.w) X.A (subscriptTail e (.Slice none none (some (.Call f es kw p2)) p3) (.ref a) (.ref s4.heap.objs.size)) (EP X pins σ Q) X.xe { s4 with heap := s4.heap.push { cls := .type "slice", data := .fields #[vl, vu, vs] } }
    obtain ⟨its, r, ht, hz⟩ := I5.tuple hx
    have hlen := r.length
    refine tail_any (ops := [.ref a, .ref s4.heap.objs.size]) ht.typeIs (PyProof.Rows.slot_tuple_getitem.lookup) ?_ (by with_unfolding_all rfl)
    cases pl
    cases pu
    cases ps
    rcases q with ⟨rfl, q⟩ | ⟨rfl, q⟩
    · exact fwd_tuple ht (Heap.IsSliceOf.new _ .none .none _) ⟨.ref a, H4, I5, rfl, q⟩
    · refine back_tuple ht (Heap.IsSliceOf.new _ .none .none _) ?_ (by rw [List.size_toArray]; omega)
      refine ⟨.ref _, _, I5.laid (t' := s4.toks) (o := .tup xs.reverse) (fun b ob q => Heap.get?_push_of_some _ q) (Nat.le_refl _) ?_, rfl, q _ (I5.hok.fresh (Nat.le_refl _))⟩
      exact ⟨by rw [List.length_reverse]; exact hz, _, r.reverse, IsTup.new _ _⟩
end Dn

set_option maxHeartbeats 4000000
namespace Dn
open PySem PySem.Spec PyProof.Rows L2
variable {X : Cx} {k : Kc}
theorem e_stp {x f : Expr} {es : List Expr} {kw : List Keyword} {a n : C} {p2 p3 pos : Pos} (ha : PE X x (tEv X.K k.g a)) (hn : PE X (.Call f es kw p2) (tEv X.K k.g n)) : PE X (.Subscript x (.Slice none none (some (.Call f es kw p2)) p3) pos) (tEv X.K k.g (.stp a n)) := (pe_stp ha hn).imp fun σ H Q ⟨μ, δ, S, d, S', E, R, e1, q⟩ => by
  simp only [evE] at e1
  obtain ⟨⟨d1, S1⟩, e2, e3⟩ := bindS e1
  obtain ⟨⟨d2, S2⟩, e4, e5⟩ := bindS e3
  refine ev2 E R e2 e4 fun x y H2 μ2 E2 R2 _ p1 p2 => ?_
  dsimp only at e5
  split at e5
  · rename_i xs i
    simp only [Rep] at p2
    subst p2
    refine ⟨i, rfl, ?_⟩
    obtain ⟨a, vs, rfl, h1, h2⟩ := rep_tup p1
    refine ⟨a, vs, i, rfl, rfl, h1, ?_⟩
    split at e5
    · rename_i hi
      cases e5
      exact .inl ⟨hi, q _ _ μ2 E2 R2 p1⟩
    · split at e5
      · rename_i hi
        cases e5
        exact .inr ⟨hi, fun p hp => (q.ext E2).new R2 hp (mk_tup (SqT.of upd_same) (h2.reverse.mono R2 (Ext.new hp)))⟩
      · cases e5
  · cases e5
end Dn

set_option maxHeartbeats 4000000
namespace Dn
open PySem PySem.Spec PyProof.Rows L2

/-! ### that a core term is the given text -/
def notListX : Expr → Bool
  | .List _ _ => false
  | _ => true
/-- cannot be None -/
def intC : C → Bool
  | .int _ => true
  | .neg _ => true
  | .bin _ _ _ => true
  | .var _ => false
  | _ => false
def nilE : List Expr → Bool
  | [] => true
  | _ => false
mutual
def ckE : C → Kt → Expr → Bool
  | .non, _, e => match e with
    | .Constant .none _ _ => true
    | _ => false
  | .bl b, _, e => match e with
    | .Constant (.bool b') _ _ => b == b'
    | _ => false
  | .int i, _, e => match e with
    | .Constant (.int j) _ _ => decide (i = j)
    | _ => false
  | .str x, _, e => match e with
    | .Constant (.str y) _ _ => decide (x = y)
    | _ => false
  | .var i, k, e => match e with
    | .Name x _ => decide (k.N[i]? = some x) && visB k.sc x && nmB x
    | _ => false
  | .glo x, k, e => match e with
    | .Name y _ => decide (x = y) && glB k.sc y && nmB y && decide (y ∈ k.dn)
    | _ => false
  | .tup cs, k, e => match e with
    | .Tuple es _ _ => ckEs cs k es
    | _ => false
  | .lst _ cs, k, e => match e with
    | .List es _ => ckEs cs k es
    | _ => false
  | .dic0, _, e => match e with
    | .Dict [] [] _ => true
    | _ => false
  | .dicT _, _, e => match e with
    | .Dict [] [] _ => true
    | _ => false
  | .ntp cs, k, e => match e with
    | .Tuple es _ _ => ckEs cs k es
    | _ => false
  | .stp a n, k, e => match e with
    | .Subscript x (.Slice none none (some (.Call f es kw p)) _) _ => ckE a k x && ckE n k (.Call f es kw p)
    | _ => false
  | .lc2 c t it t2 it2 own own2, k, e => match e with
    | .ListComp elt [⟨tg, iter, [], 0⟩, ⟨tg1, iter1, [], 0⟩] scope _ => blkC k.N k.sc scope (own.map fun i => (k.N.getD i Str.empty, i)) && ckI it k tg iter && ckG t (k.blk scope) tg && ckI it2 (k.blk scope) tg1 iter1 && ckG t2 (k.blk scope) tg1 && ckE c (k.blk scope) elt && ((tsl t).all fun i => decide (i ∈ own)) && ((tsl t2).all fun i => decide (i ∈ own2)) && (own2.all fun i => decide (i ∈ own))
    | _ => false
  | .dic1 x i, _, e => match e with
    | .Dict [some (.Constant (.str y) _ _)] [.Constant (.int j) _ _] _ => decide (x = y) && decide (i = j)
    | _ => false
  | .zipV t _ a b, k, e => match e with
    | .Call (.Name f _) [.Call (.Name z _) [x, y] [] _] [] _ => decide (f = (if t = true then ("tuple" : Str) else ("list" : Str))) && decide (z = ("zip" : Str)) && glB k.sc f && decide (f ∈ k.free) && glB k.sc z && decide (z ∈ k.free) && ckE a k x && ckE b k y
    | _ => false
  | .tupS cs fl, k, e => match e with
    | .Tuple es _ _ => ckSp cs fl k es
    | _ => false
  | .din c x kvs, k, e => match e with
    | .Compare y [.In] [.Name z _] _ => decide (z = x) && ckE c k y && glB k.sc x && nmB x && decide (k.dd.lookup x = some kvs)
    | _ => false
  | .dix x kvs c, k, e => match e with
    | .Subscript (.Name z _) y _ => decide (z = x) && ckE c k y && glB k.sc x && nmB x && decide (k.dd.lookup x = some kvs)
    | _ => false
  | .mkx cn f cs, k, e => match cs, e with
    | [c], .Call (.Name x _) [y] [] _ => decide (x = cn) && decide (k.cls.lookup cn = some (some f)) && glB k.sc cn && nmB cn && ckE c k y
    | [c], .Call (.Name x _) [] [⟨some g, y, _⟩] _ => decide (x = cn) && decide (g = f) && decide (k.cls.lookup cn = some (some f)) && glB k.sc cn && nmB cn && ckE c k y
    | [], .Call (.Name x _) [] [] _ => decide (x = cn) && decide (k.cls.lookup cn = some none) && glB k.sc cn && nmB cn
    | _, _ => false
  | .fld c f tab, k, e => match e with
    | .Attribute (.Name x p) g _ => decide (g = f) && decide (tab = k.cls) && ckE c k (.Name x p)
    | _ => false
  | .isx c T cs tab, k, e => match e with
    | .Call (.Name x _) [a, .Name t _] [] _ => decide (x = Str.ofString "isinstance") && decide (t = T) && decide (tab = k.cls) && decide (k.isx.lookup T = some cs) && decide (x ∈ k.free) && glB k.sc x && glB k.sc t && nmB t && ckE c k a
    | _ => false
  | .cat _ a b, k, e => match e with
    | .BinOp x .Add y _ => ckE a k x && ckE b k y
    | _ => false
  | .bin o a b, k, e => match e with
    | .BinOp x o' y _ => decide (o = o') && ckE a k x && ckE b k y
    | _ => false
  | .neg a, k, e => match e with
    | .UnaryOp .USub x _ => ckE a k x
    | _ => false
  | .not a, k, e => match e with
    | .UnaryOp .Not x _ => ckE a k x
    | _ => false
  | .cmp o a b, k, e => match e with
    | .Compare x [o'] [y] _ => decide (o = o') && ckE a k x && ckE b k y
    | _ => false
  | .cmp2 o p a b c, k, e => match e with
    | .Compare x [o', p'] [y, z] _ => decide (o = o') && decide (p = p') && ckE a k x && ckE b k y && ckE c k z
    | _ => false
  | .and a b, k, e => match e with
    | .BoolOp .And (x :: y :: r) pos => ckE a k x && ckE b k (restX .And pos (y :: r))
    | _ => false
  | .or a b, k, e => match e with
    | .BoolOp .Or (x :: y :: r) pos => ckE a k x && ckE b k (restX .Or pos (y :: r))
    | _ => false
  | .ite c a b, k, e => match e with
    | .IfExp z x y _ => ckE c k z && ckE a k x && ckE b k y
    | _ => false
  | .call f cs, k, e => match e with
    | .Call (.Name x _) es [] _ => decide (x = f) && decide (f ∈ k.fns) && glB k.sc f && nmB f && ckEs cs k es
    | _ => false
  | .callK f cs ks kcs, k, e => match e with
    | .Call (.Name x _) es kws _ => decide (x = f) && decide (f ∈ k.fns) && glB k.sc f && nmB f && decide (kws.map (·.arg) = ks.map some) && decide (ks.length = kcs.length) && decide ((f, cs.length, ks) ∈ k.kwl) && ckEs cs k es && ckEs kcs k (kws.map (·.value))
    | _ => false
  | .blt f cs, k, e => match e with
    | .Call (.Name x _) es [] _ => glB k.sc x && nmB x && ckEs cs k es && !nilE es && (if f = "gcd" then decide (k.bf.lookup x = some "math.gcd") else decide (x = Str.ofString f) && (bltV f).isSome && decide (x ∈ k.free))
    | _ => false
  | .isi c T, k, e => match e with
    | .Call (.Name x _) [a, .Name t _] [] _ => decide (x = Str.ofString "isinstance") && decide (t = Str.ofString T) && decide (T ∈ tyNames) && decide (x ∈ k.free) && decide (t ∈ k.free) && glB k.sc x && glB k.sc t && nmB t && ckE c k a
    | _ => false
  | .meth m o cs, k, e => match e with
    | .Call (.Attribute (.Name n p) a apos) [y, z] [] cpos => decide (m = "insert") && decide (a = Str.ofString "insert") && ckE o k (.Name n p) && ckEs cs k [y, z] && (apos.endLine == cpos.line)
    | .Call (.Attribute (.Name n p) a apos) [y] [] cpos => decide (m = "append") && decide (a = Str.ofString "append") && ckE o k (.Name n p) && ckEs cs k [y] && (apos.endLine == cpos.line)
    | _ => false
  | .ix a b, k, e => match e with
    | .Subscript x y _ => ckE a k x && ckE b k y
    | _ => false
  | .sl a lo hi, k, e => match e with
    | .Subscript x (.Slice l h none _) _ => ckE a k x && (match l with | none => isNonC lo | some y => ckE lo k y && !isNonC lo) && (match h with | none => isNonC hi | some y => ckE hi k y && !isNonC hi)
    | _ => false
  | .rev a, k, e => match e with
    | .Subscript x (.Slice none none (some (.UnaryOp .USub (.Constant (.int 1) _ _) _)) _) _ => ckE a k x
    | _ => false
  | .lc c t it ifs own, k, e => match e with
    | .ListComp elt [⟨tg, iter, cs, 0⟩] scope _ => blkC k.N k.sc scope (own.map fun i => (k.N.getD i Str.empty, i)) && ckI it k tg iter && ckG t (k.blk scope) tg && ckIf ifs (k.blk scope) cs && ckE c (k.blk scope) elt && (tsl t).all fun i => decide (i ∈ own)
    | _ => false
def ckEs : List C → Kt → List Expr → Bool
  | [], _, es => match es with
    | [] => true
    | _ => false
  | c :: cs, k, es => match es with
    | e :: es => ckE c k e && ckEs cs k es
    | [] => false
def ckSp : List C → List Bool → Kt → List Expr → Bool
  | [], fl, _, es => match fl, es with
    | [], [] => true
    | _, _ => false
  | c :: cs, fl, k, es => match fl, es with
    | true :: fl, .Starred e _ :: es => ckE c k e && ckSp cs fl k es
    | false :: fl, e :: es => ckE c k e && ckSp cs fl k es
    | _, _ => false
def ckIf : List C → Kt → List Expr → Bool
  | [], _, es => match es with
    | [] => true
    | _ => false
  | c :: cs, k, es => match es with
    | [e] => ckE c k e && cs.isEmpty
    | _ => false
def ckG : CT → Kt → Expr → Bool
  | .name i, k, e => match e with
    | .Name x _ => decide (k.N[i]? = some x) && locB k x
    | _ => false
  | .tup ts, k, e => match e with
    | .Tuple es _ _ => ckGs ts k es
    | _ => false
  | .sub a b, k, e => match e with
    | .Subscript o i _ => ckE a k o && ckE b k i
    | _ => false
def ckGs : List CT → Kt → List Expr → Bool
  | [], _, es => match es with
    | [] => true
    | _ => false
  | t :: ts, k, es => match es with
    | e :: es => ckG t k e && ckGs ts k es
    | [] => false
def ckI : CI → Kt → Expr → Expr → Bool
  | .seq a, k, _, e => ckE a k e
  | .rng1 a, k, _, e => match e with
    | .Call (.Name x _) [y] [] _ => decide (x = ("range" : Str)) && decide (x ∈ k.free) && glB k.sc x && ckE a k y
    | _ => false
  | .rng2 a b, k, _, e => match e with
    | .Call (.Name x _) [y, z] [] _ => decide (x = ("range" : Str)) && decide (x ∈ k.free) && glB k.sc x && ckE a k y && ckE b k z
    | _ => false
  | .enm a, k, tg, e => match tg, e with
    | .Tuple _ _ _, .Call (.Name x _) [y] [] _ => decide (x = ("enumerate" : Str)) && decide (x ∈ k.free) && glB k.sc x && ckE a k y
    | _, _ => false
  | .zip a b, k, tg, e => match tg, e with
    | .Tuple _ _ _, .Call (.Name x _) [y, z] [] _ => decide (x = ("zip" : Str)) && decide (x ∈ k.free) && glB k.sc x && ckE a k y && ckE b k z
    | _, _ => false
  | .zipN a b, k, tg, e => match tg, e with
    | .Name _ _, .Call (.Name x _) [y, z] [] _ => decide (x = ("zip" : Str)) && decide (x ∈ k.free) && glB k.sc x && ckE a k y && ckE b k z
    | _, _ => false
end
theorem ckE_plain : ∀ {c : C} {k : Kt} {e : Expr}, ckE c k e = true → plainX e = true := by
  intro c k e h
  cases e with
  | Starred _ _ => cases c <;> simp only [ckE] at h <;> cases h
  | Set _ _ _ => cases c <;> simp only [ckE] at h <;> cases h
  | Slice _ _ _ _ => cases c <;> simp only [ckE] at h <;> cases h
  | _ => rfl
theorem ckG_plain : ∀ {c : CT} {k : Kt} {e : Expr}, ckG c k e = true → plainX e = true := by
  intro c k e h
  cases e with
  | Starred _ _ => cases c <;> simp only [ckG] at h <;> cases h
  | Set _ _ _ => cases c <;> simp only [ckG] at h <;> cases h
  | Slice _ _ _ _ => cases c <;> simp only [ckG] at h <;> cases h
  | _ => rfl
section
variable {X : Cx} {k : Kc}
theorem t_none {e : Expr} {c : C} (h : ∀ δ S, evT k.g c δ S = none) : PT X e (tTv X.K k.g c) := ⟨fun pins s σ H Q I ⟨μ, δ, S, b, S', E, R, e1, q⟩ => by rw [h] at e1; cases e1⟩
theorem not_non {c : C} (h : isNonC c = false) {G : GE} : True := True.intro
end
end Dn

set_option maxHeartbeats 4000000
/-! an own exception made by a call with any arguments, keywords too -/
namespace DnX
open PySem PySem.W PySem.Calls PyProof.Rows PySem.HandSPX
section
variable {prog : Program} {w : World} {A : Around} {R : Result → Shared → Prop} {h : Heap} {g : Array GenState} {d : Drawn} {t : Nat} {os : OsState} {kw : List (Str × Value)}
variable {nm q : Str} {C N : Addr} {bs bm tl : List Value} {hd : Bool} {sn : List Str} {sub : List Value} {ab : Bool} {col : Option Bool} {dd : Option Addr} {k0 k1 k2 k3 k5 : Option Value} {B nw ini : String}
theorem new_check {M : Model} {E : Value → Shared → Prop} (F : ExcBaseFacts B nw ini tl) (hT : ∀ Z : String, bm.contains (.type Z) = tl.contains (.type Z)) {us : List Value} {Q : Unit → Shared → Prop}
    (hC : h.get? C = some (excClassObj nm q C N bs bm hd sn sub ab col dd k0 k1 k2 k3 k5 nw)) (hq : Q () ⟨h, g, d, t, os⟩) : wpAny M A (checkBuiltinCall nw ⟨.ref C :: us, kw⟩) Q E ⟨h, g, d, t, os⟩ := by
  have h1 : (Value.ref C :: bm).contains (.type B) = true := by rw [List.contains_cons, hT, F.hasB, Bool.or_true]
  have h2 := F.noStar
  simp only [checkBuiltinCall, F.newKind, F.newSplit, F.newRow]
  repeat (first | refine wpAny_loadPart_at hC ?_ | (refine wpAny_isSubtype_exc hC ?_; rw [h1]) | refine wpAny_staticBase_exc hC ?_ | refine wpAny_madeBy_exc hC ?_ | simp only [bne_self_eq_false, Bool.false_eq_true, if_false] | wp_step)
  exact hq
theorem new_made (F : ExcBaseFacts B nw ini tl) (hT : ∀ Z : String, bm.contains (.type Z) = tl.contains (.type Z)) {us : List Value} (hC : h.get? C = some (excClassObj nm q C N bs bm hd sn sub ab col dd k0 k1 k2 k3 k5 nw))
    (hl : us.length ≤ sizeLine) (hq : R (.ok (.ret (.ref (h.objs.size + 1)))) ⟨(h.push (kdv_tup us)).push (excO C h.objs.size), g, d, t, os⟩) : codeAny (model prog w) A (.builtin nw ⟨.ref C :: us, kw⟩) R ⟨h, g, d, t, os⟩ := by
  have z0 := F.ends
  have z1 : (Value.ref C :: bm).contains (.type B) = true := by rw [List.contains_cons, hT, F.hasB, Bool.or_true]
  have z2 : (Value.ref C :: bm).contains (.type "AttributeError") = false := by rw [List.contains_cons, hT, F.noAttr]; rfl
  have z3 : (Value.ref C :: bm).contains (.type "NameError") = false := by rw [List.contains_cons, hT, F.noName]; rfl
  refine codeAny_builtinAt F.entry ?_
  unfold Builtin.«BaseException.__new__»
  refine PySem.wpAt_bind ?_
  show PySem.wpAt _ _ _ (stack >>= _) _ _ _
  refine PySem.wpAt_bind (PySem.wpAt_stack fun p below => PySem.wpAt_of_wpAny ?_)
  wp_walk
  refine PySem.wpAt_of_wpAny ?_
  rw [F.owner]
  repeat (first | with_reducible refine wpAny_madeHere_exc F.canon hC ?_ | with_reducible refine wpAny_loadPart_at hC ?_ | (with_reducible refine wpAny_isSubtype_exc hC ?_; first | rw [z1] | rw [z2] | rw [z3]) | wp_step)
  show R _ _
  rw [Heap.size_push]
  exact hq
theorem made_type (F : ExcBaseFacts B nw ini tl) (hT : ∀ Z : String, bm.contains (.type Z) = tl.contains (.type Z)) {us : List Value} {fI : Addr} {E : Value → Shared → Prop} {Q : Fin → Shared → Prop} (hC : h.get? C = some (excClassObj nm q C N bs bm hd sn sub ab col dd k0 k1 k2 k3 k5 nw))
    (hi : Looks (model prog w) h (typeLookup (.ref C) "__init__") (some (.ref fI))) (hb : ∀ self, Looks (model prog w) h (bindSpecial (.ref fI) self) (.ref fI, [self])) (hl : us.length ≤ sizeLine)
    (hq : codeAny (model prog w) A (.call (.ref fI) ⟨.ref (h.objs.size + 1) :: us, kw⟩) (fun r s' => match r with | .ok (.ret v) => v = .none ∧ Q (.done (.ret (.ref (h.objs.size + 1)))) s' | .ok _ => False | .error e => E e s')
      ⟨(h.push (kdv_tup us)).push (excO C h.objs.size), g, d, t, os⟩) : wpAny (model prog w) A (Builtin.«type.__call__» ⟨.ref C :: us, kw⟩) Q E ⟨h, g, d, t, os⟩ := by
  repeat (first | with_reducible refine wpAny_loadPart_at hC ?_ | with_reducible refine wpAny_madeBy_exc hC ?_ | wp_step)
  refine codeAny_call_builtin_code (Code.quiet_builtin _ F.quiet) (new_check F hT hC (new_made F hT hC hl ?_))
  show wpAny _ _ _ _ _ _
  have kk : ∀ b o, h.get? b = some o → ((h.push (kdv_tup us)).push (excO C h.objs.size)).get? b = some o := fun b o e => Heap.get?_push_of_some _ (Heap.get?_push_of_some _ e)
  have hC2 := kk _ _ hC
  have hg : ((h.push (kdv_tup us)).push (excO C h.objs.size)).get? (h.objs.size + 1) = some (excO C h.objs.size) := by heap_get
  have hcc : (Value.ref C :: bm).contains (.ref C) = true := by simp
  have i2 := hi.keeps kk
  have b2 := (hb (.ref (h.objs.size + 1))).keeps kk
  unfold isInstance
  repeat (first | with_reducible refine wpAny_loadPart_at hg ?_ | (with_reducible refine wpAny_isSubtype_exc hC2 ?_; rw [hcc]) | wp_step)
  show wpAny _ _ (typeLookup (.ref C) _) _ _ _
  refine i2.at (wpAny_holding (wpAny_bind (b2.at (wpAny_bind (wpAny_call (codeAny_mono hq fun r s' z => ?_))))))
  rcases r with e | (v | _ | _ | _) <;> first | exact z | exact z.elim | skip
  obtain ⟨rfl, z⟩ := z
  first
    | exact wpAny_pure (wpAny_pure z)
    | (wp_walk; exact z)
theorem made (F : ExcBaseFacts B nw ini tl) (hT : ∀ Z : String, bm.contains (.type Z) = tl.contains (.type Z)) {us : List Value} {fI : Addr} (hC : h.get? C = some (excClassObj nm q C N bs bm hd sn sub ab col dd k0 k1 k2 k3 k5 nw))
    (hi : Looks (model prog w) h (typeLookup (.ref C) "__init__") (some (.ref fI))) (hb : ∀ self, Looks (model prog w) h (bindSpecial (.ref fI) self) (.ref fI, [self])) (hl : us.length ≤ sizeLine)
    (hq : codeAny (model prog w) (A.under (.builtin "type.__call__" ⟨.ref C :: us, kw⟩)) (.call (.ref fI) ⟨.ref (h.objs.size + 1) :: us, kw⟩) (InitBack (h.objs.size + 1) R)
      ⟨(h.push (kdv_tup us)).push (excO C h.objs.size), g, d, t, os⟩) : codeAny (model prog w) A (.call (.ref C) ⟨us, kw⟩) R ⟨h, g, d, t, os⟩ := by
  have y1 := tc_lookup
  have y2 := tc_bind (.ref C)
  have y3 : (⟨h, g, d, t, os⟩ : Shared).TypeIs (.ref C) "type" := ⟨_, hC, rfl⟩
  refine codeAny_of_tree ?_
  show wpAny _ _ (callAny (.ref C) _) _ _ _
  repeat (any_goals (first | assumption | with_reducible refine wpAny_loadPart_at hC ?_ | wp_step))
  refine ⟨rfl, codeAny_call_builtin_at (Code.quiet_builtin _ (by decide +kernel)) entry_typeCall (wpAny_check_type_call_sub hC (made_type F hT hC hi hb hl (codeAny_mono hq fun r s' z => ?_)))⟩
  rcases r with e | (v | _ | _ | _) <;> exact z
end
end DnX

set_option maxHeartbeats 4000000
namespace Dn
open PySem PySem.Spec PyProof.Rows L2
/-! ### an own exception's __init__(self, f): self.f = f -/
theorem init_fn {P : Program} {w : World} {K : PySem.W.Frag} {mg : Str → Option Value} {base : Heap} {k : Nat} {fI : Addr} {f self name qual : Str} {params : Arguments} {scope : Scope} {dV kV doc pm cdv ct oc : Value} {an od : Option Addr} {osl : Array (Option Value)} {p1 p2 p3 p4 : Pos}
    (lk : K.lookup fI = some ⟨oc, od, .func (PySem.W.fnOf name qual params [.Assign [.Attribute (.Name self p1) f p2] (.Name f p3) p4] scope dV kV doc pm an cdv ct), osl⟩) (hcd : PySem.W.codeIn K cdv qual = true) (S : FnScope [self, f] [self, f] scope)
    (v1 : visB scope self = true) (v2 : visB scope f = true) (n1 : nmB self = true) (n2 : nmB f = true) :
    FnG P w K mg base (k + 1) fI (PySem.W.fnOf name qual params [.Assign [.Attribute (.Name self p1) f p2] (.Name f p3) p4] scope dV kV doc pm an cdv ct) [self, f] (spIn K f) := by
  refine fnG_of lk hcd S (fun vs H Q ⟨a, C, y, e, _⟩ => by rw [e]; rfl) fun A outer s H vs Q hr hg ⟨a, C, y, e, T, hno, ha, q⟩ => ?_
  subst e
  have x1 := nmB_ok n1
  have x2 := nmB_ok n2
  refine ⟨_, pss_cons (ps_ost (pe_var (X := cxOf CX0 P w K mg base [self, f] qual scope fI cdv A outer s H E0) (i := 0) rfl (visB_ok v1) x1.1 x1.2.1) (pe_var (i := 1) rfl (visB_ok v2) x2.1 x2.2.1)) pss_nil, ?_⟩
  refine ⟨y, rfl, .ref a, rfl, a, C, rfl, T, hno, .inl ⟨ha, fun dx h1 h2 => q dx h1 h2⟩⟩
end Dn

set_option maxHeartbeats 4000000
namespace Dn
open PySem PySem.Spec PyProof.Rows L2
section
variable {X : Cx} {pins : List (Addr × Obj)} {σ : L2.St} {H : Hp} {s : Shared}
theorem upd3 {a dx : Addr} {o u v : HO} (h : dx ≠ a) : upd (upd (upd H a o) dx u) a v = upd (upd H dx u) a v := by
  funext b
  by_cases e : b = a
  · rw [e, upd_same, upd_same]
  · rw [upd_ne e, upd_ne e]
    by_cases e2 : b = dx
    · rw [e2, upd_same, upd_same]
    · rw [upd_ne e2, upd_ne e2, upd_ne e]
/-- C(..) of an own exception class that has its own __init__ -/
theorem mk_call {C fI : Addr} {lv : Nat} {fd : FuncData} {self f : Str} {us : List Value} {kw : List (Str × Value)} {u : Value} {y : V} {Q : VK} (I : Inv X pins σ H s) (T : OexC X.K C) (iC : PySem.W.findIn X.K (.ref C) "__init__" = some (some (.ref fI)))
    (tI : PySem.W.typeIn X.K (.ref fI) = some (.type "function")) (hno : PySem.W.findIn X.K (.ref C) f = some none) (F : FnG X.prog X.w X.K X.mg X.base lv fI fd [self, f] (spIn X.K f)) (hr : Room (lv + 1) X.A) (hg : X.A.guards = some [])
    (hb : ∀ (s : Shared) (a : Value), BindsTo s fd ⟨a :: us, kw⟩ [(self, a), (f, u)]) (ry : RelV y u) (hl : us.length ≤ sizeLine)
    (h : ∀ a dx, H a = none → H dx = none → dx ≠ a → Q (.ref a) (upd (upd H dx (exd dx [(f, y)])) a (exo a C (some dx)))) : wpAny (model X.prog X.w) X.A (call (.ref C) us kw) (EP X pins σ Q) X.xe s := by
  obtain ⟨nm, q, N, bs, bm, sn, sub, ab, col, dd, k0, k1, k2, k3, k5, hC, hbm⟩ := T.cls
  obtain ⟨hp, g, dr, tk, os⟩ := s
  have z1 : hp.objs.size ≤ hp.objs.size + 1 := Nat.le_succ _
  have hn : H (hp.objs.size + 1) = none := I.hok.fresh z1
  have kk : ∀ b o, hp.get? b = some o → ((hp.push (PySem.W.kdv_tup us)).push (PySem.HandSPX.excO C hp.objs.size)).get? b = some o := fun b o e => Heap.get?_push_of_some _ (Heap.get?_push_of_some _ e)
  have hget : ((hp.push (PySem.W.kdv_tup us)).push (PySem.HandSPX.excO C hp.objs.size)).get? (hp.objs.size + 1) = some (PySem.HandSPX.excO C hp.objs.size) := by heap_get
  have J : Inv X pins σ (upd H (hp.objs.size + 1) (exo (hp.objs.size + 1) C none)) ⟨(hp.push (PySem.W.kdv_tup us)).push (PySem.HandSPX.excO C hp.objs.size), g, dr, tk, os⟩ :=
    I.laid (t' := tk) (a := hp.objs.size + 1) (o := exo (hp.objs.size + 1) C none) (h' := (hp.push (PySem.W.kdv_tup us)).push (PySem.HandSPX.excO C hp.objs.size)) kk z1 (exo_ok hget)
  have spec : spIn X.K f [.ref (hp.objs.size + 1), y] (upd H (hp.objs.size + 1) (exo (hp.objs.size + 1) C none)) (fun v H2 => v = .non ∧ Q (.ref (hp.objs.size + 1)) H2) := by
    refine ⟨_, C, y, rfl, T, hno, upd_same, fun dx h1 h2 => ⟨rfl, ?_⟩⟩
    rw [upd3 h2]
    exact h _ dx hn (by rwa [upd_ne h2] at h1) h2
  refine wpAny_call (DnX.made PySem.F.excBase_ValueError (fun Y => PySem.HandSPX.refsVE_contains Y bm hbm) (I.kIn _ _ hC) (PySem.W.looks_findIn I.kIn iC) (fun self => PySem.W.bind_fn I.kIn self tI) hl
    (codeAny_mono (F.run _ X.stack _ _ ⟨Value.ref (hp.objs.size + 1) :: us, kw⟩ [Value.ref (hp.objs.size + 1), u] _ _ (hr.make C us kw) hg (J.env0.make C us kw) (hb _ _) (Paired.cons (show RelV (V.ref (hp.objs.size + 1)) (Value.ref (hp.objs.size + 1)) from rfl) (.cons ry .nil)) spec) fun r s' hq => ?_))
  cases r with
  | error e => exact hq.elim
  | ok fl =>
    cases fl with
    | ret r' =>
      obtain ⟨v, H2, J2, rv, ev, q2⟩ := J.after hq
      subst ev
      exact ⟨rv, V.ref (hp.objs.size + 1), H2, J2, rfl, q2⟩
    | next => exact hq.elim
    | brk => exact hq.elim
    | cont => exact hq.elim
end
end Dn

set_option maxHeartbeats 4000000
namespace Dn
open PySem PySem.Spec PyProof.Rows L2
section
variable {X : Cx} {k : Kc} {pins : List (Addr × Obj)} {σ : L2.St} {H : Hp} {s : Shared}
theorem cls_uniq {K : PySem.W.Frag} {C : Str} {a b : Addr} (h : ClsAt K C a) (g : ClsAt K C b) : a = b := by
  unfold ClsAt at h g
  rw [h] at g
  exact Value.ref.inj (Option.some.inj (Option.some.inj g))
/-- a new exception with a field is what it says -/
theorem mkx_end {μ μ1 : Mu} {H1 : Hp} {S : Sto} {cn f : Str} {d : D} {y : V} {Q : VK} {a c dx : Addr} (q : Pst X.K μ H S (.exc cn f [d]) Q) (E1 : Ext μ H μ1 H1) (R1 : Rl X.K μ1 H1 S) (hc : ClsAt X.K cn c) (p : Rep X.K μ1 H1 d y)
    (h1 : H1 a = none) (h2 : H1 dx = none) (h3 : dx ≠ a) : Q (.ref a) (upd (upd H1 dx (exd dx [(f, y)])) a (exo a c (some dx))) := by
  have h1' : upd H1 dx (exd dx [(f, y)]) a = none := by rw [upd_ne (Ne.symm h3)]; exact h1
  have Ea : Ext μ1 H1 μ1 (upd H1 dx (exd dx [(f, y)])) := Ext.new h2
  have Ra := R1.new (o := exd dx [(f, y)]) h2
  have Eb : Ext μ1 (upd H1 dx (exd dx [(f, y)])) μ1 (upd (upd H1 dx (exd dx [(f, y)])) a (exo a c (some dx))) := Ext.new h1'
  refine q _ _ μ1 (E1.trans (Ea.trans Eb)) (Ra.new h1') ?_
  simp only [Rep]
  exact ⟨a, c, [y], rfl, hc, .inr ⟨y, dx, rfl, upd_same, by rw [upd_ne h3, upd_same]⟩, Reps.cons (p.mono R1 (Ea.trans Eb)) Reps.nil⟩
theorem evEs_one {G : GE} {c : C} {δ : En} {S S' : Sto} {ds : List D} (h : evEs G [c] δ S = some (ds, S')) : ∃ d, ds = [d] := by
  have := evEs_len h
  match ds, this with
  | [d], _ => exact ⟨d, rfl⟩
theorem vals_one {vs : List V} {us : List Value} {y : V} (e : vs = [y]) (r : Vals vs us) : ∃ u, us = [u] ∧ RelV y u := by
  subst e
  cases r with
  | cons a b => cases b; exact ⟨_, rfl, a⟩
theorem e_mkx1 (hk : KcOk X k) {cn f : Str} {e : Expr} {c : C} {p pos : Pos} (ha : PA X [e] (tEvs X.K k.g [c])) (hp : plainX e = true) (hc : k.cls.lookup cn = some (some f)) (hg : glB k.sc cn = true) (hn : nmB cn = true) :
    PE X (.Call (.Name cn p) [e] [] pos) (tEv X.K k.g (.mkx cn f [c])) := by
  obtain ⟨a, O⟩ := hk.cls cn _ hc
  obtain ⟨hno, fI, fd, self, N⟩ := O.ini f rfl
  refine ⟨fun pins s σ H Q I ⟨μ, δ, S, d, S', E, R, e1, q⟩ => ?_⟩
  simp only [evE] at e1
  obtain ⟨⟨ds, S1⟩, e2, e3⟩ := bindS e1
  obtain ⟨d1, rfl⟩ := evEs_one e2
  dsimp only at e3
  rw [if_pos (by simp)] at e3
  cases e3
  refine wpAny_Call_Name_kw (ld_glob I (glB_ok hk hg) O.mg ?_ (nmB_ok hn).1)
  refine PySem.W.callWith_K (h₀ := X.base) I.ok.mod.kin O.T.kC ?_ (star_of hp _ _) (nostar rfl _ _)
  refine thn (ha.run pos pins s σ H _ I (evs1 E R e2 (W := fun zs H2 => ∃ y μ2, zs = [y] ∧ Ext μ H μ2 H2 ∧ Rl X.K μ2 H2 S' ∧ Rep X.K μ2 H2 d1 y) fun xs H2 μ2 E2 R2 N2 p2 => ?_)) fun us s1 ⟨vs, H1, I1, r1, y, μ1, ev, E1, R1, p1⟩ => ⟨I1.kIn, ?_⟩
  · obtain ⟨y, r, rfl, p3, p4⟩ := reps_cons.mp p2
    rw [reps_nil.mp p4]
    exact ⟨y, μ2, rfl, E2, R2, p3⟩
  · obtain ⟨u, rfl, ry⟩ := vals_one ev r1
    exact mk_call I1 O.T N.iC N.tI hno N.fn hk.r2 hk.gd (fun s a => N.b1 s a u) ry (by show 1 ≤ sizeLine; rw [sizeL]; omega) fun a dx h1 h2 h3 => mkx_end q E1 R1 O.at_ p1 h1 h2 h3
theorem e_mkxK (hk : KcOk X k) {cn f : Str} {e : Expr} {c : C} {kp p pos : Pos} (ha : PK X [⟨some f, e, kp⟩] (tEvs X.K k.g [c])) (hc : k.cls.lookup cn = some (some f)) (hg : glB k.sc cn = true) (hn : nmB cn = true) :
    PE X (.Call (.Name cn p) [] [⟨some f, e, kp⟩] pos) (tEv X.K k.g (.mkx cn f [c])) := by
  obtain ⟨a, O⟩ := hk.cls cn _ hc
  obtain ⟨hno, fI, fd, self, N⟩ := O.ini f rfl
  obtain ⟨w1, w2, w3⟩ := kw_names [⟨some f, e, kp⟩] [f] pos X.env rfl
  refine ⟨fun pins s σ H Q I ⟨μ, δ, S, d, S', E, R, e1, q⟩ => ?_⟩
  simp only [evE] at e1
  obtain ⟨⟨ds, S1⟩, e2, e3⟩ := bindS e1
  obtain ⟨d1, rfl⟩ := evEs_one e2
  dsimp only at e3
  rw [if_pos (by simp)] at e3
  cases e3
  refine wpAny_Call_Name_kw (ld_glob I (glB_ok hk hg) O.mg ?_ (nmB_ok hn).1)
  refine PySem.W.callWith_KW0 (h₀ := X.base) I.ok.mod.kin O.T.kC w1 ?_ (by rw [w3]; rfl)
  refine thn (ha.run pos pins s σ H _ I (evs1 E R e2 (W := fun zs H2 => ∃ y μ2, zs = [y] ∧ Ext μ H μ2 H2 ∧ Rl X.K μ2 H2 S' ∧ Rep X.K μ2 H2 d1 y) fun xs H2 μ2 E2 R2 N2 p2 => ?_)) fun us s1 ⟨vs, H1, I1, r1, y, μ1, ev, E1, R1, p1⟩ => ⟨I1.kIn, ?_⟩
  · obtain ⟨y, r, rfl, p3, p4⟩ := reps_cons.mp p2
    rw [reps_nil.mp p4]
    exact ⟨y, μ2, rfl, E2, R2, p3⟩
  · obtain ⟨u, rfl, ry⟩ := vals_one ev r1
    rw [w2]
    exact mk_call I1 O.T N.iC N.tI hno N.fn hk.r2 hk.gd (fun s a => N.b2 s a u) ry (by show 0 ≤ sizeLine; omega) fun a dx h1 h2 h3 => mkx_end q E1 R1 O.at_ p1 h1 h2 h3
theorem e_mkx0 (hk : KcOk X k) {cn f : Str} {p pos : Pos} (hc : k.cls.lookup cn = some none) (hg : glB k.sc cn = true) (hn : nmB cn = true) :
    PE X (.Call (.Name cn p) [] [] pos) (tEv X.K k.g (.mkx cn f [])) := by
  obtain ⟨c, O⟩ := hk.cls cn _ hc
  refine ⟨fun pins s σ H Q I ⟨μ, δ, S, d, S', E, R, e1, q⟩ => ?_⟩
  simp only [evE, evEs, Option.bind_some] at e1
  rw [if_pos (by simp)] at e1
  cases e1
  refine wpAny_Call_Name_kw (ld_glob I (glB_ok hk hg) O.mg ?_ (nmB_ok hn).1)
  refine PySem.W.callWith_K0 I.kIn O.T.kC ?_
  obtain ⟨bm, N, nm, qn, bs, hdct, sn, sub, ab, col, dd, k0, k1, k2, k3, k5, mN, hC, hN, hni, T⟩ := exc_obj I.kIn (O.bare rfl)
  refine wpAny_call_exc_subT PySem.F.excBase_ValueError T hC hN hni (fun h' a hm => ?_) (by show 0 ≤ sizeLine; omega)
  have hn : H a = none := I.hok.gone hm.new
  obtain ⟨t, ht, _, _⟩ := hm.there
  refine ⟨.ref a, upd H a (exo a c none), I.laidN hm.keeps hm.new hn (exo_ok ht), rfl, q.new R hn ?_⟩
  simp only [Rep]
  exact ⟨a, c, [], rfl, O.at_, .inl ⟨rfl, upd_same⟩, Reps.nil⟩
/-- e.f -/
theorem e_fld (hk : KcOk X k) {x f : Str} {c : C} {p pos : Pos} (ha : PE X (.Name x p) (tEv X.K k.g c)) : PE X (.Attribute (.Name x p) f pos) (tEv X.K k.g (.fld c f k.cls)) := by
  refine ⟨fun pins s σ H Q I ⟨μ, δ, S, d, S', E, R, e1, q⟩ => ?_⟩
  simp only [evE] at e1
  obtain ⟨⟨d1, S1⟩, e2, e3⟩ := bindS e1
  cases d1 with
  | exc C g ds =>
    rcases ds with _ | ⟨d2, _ | ⟨d3, r⟩⟩ <;> dsimp only at e3 <;> first | (cases e3; done) | skip
    split at e3
    · rename_i hc
      obtain ⟨rfl, hc⟩ := hc
      cases e3
      obtain ⟨c0, O⟩ := hk.cls C _ hc
      obtain ⟨hno, _⟩ := O.ini g rfl
      refine attr_of rfl (thn (ha.run pins s σ H _ I (ev1 E R e2 (W := fun z H1 => ∃ a dx y μ1, z = .ref a ∧ H1 a = some (exo a c0 (some dx)) ∧ H1 dx = some (exd dx [(g, y)]) ∧ Ext μ H μ1 H1 ∧ Rl X.K μ1 H1 S' ∧ Rep X.K μ1 H1 d y) fun z H1 μ1 E1 R1 _ p1 => ?_)) fun u s1 hh => ?_)
      · simp only [Rep] at p1
        obtain ⟨a, c1, vs, rfl, h1, h2, h3⟩ := p1
        have := cls_uniq h1 O.at_
        subst this
        obtain ⟨y, r, rfl, p3, p4⟩ := reps_cons.mp h3
        rcases h2 with ⟨z, _⟩ | ⟨y2, dx, e4, h4, h5⟩
        · cases z
        · cases e4
          exact ⟨a, dx, y, μ1, rfl, h4, h5, E1, R1, p3⟩
      · obtain ⟨z, H1, I1, rx, a, dx, y, μ1, rfl, h4, h5, E1, R1, p3⟩ := hh
        obtain rfl : u = Value.ref a := rx
        obtain ⟨⟨t1, hget⟩, _, _⟩ := I1.hok a _ h4
        obtain ⟨⟨mA, hns, hr⟩, _, _⟩ := I1.hok dx _ h5
        obtain ⟨od, ho, hl⟩ := lookIn_ns hns
        obtain ⟨u, hu, ru⟩ := RelO.some_of (v := y) (o := mA g) (by have := hr g; rwa [List.lookup_cons, beq_self_eq_true] at this)
        have J : PySem.W.InstAt s1.heap a _ c0 (some od) := ⟨hget, rfl, rfl, ho⟩
        exact HandSPX.exc_get I1.kIn J O.xf.ga O.xf.gg O.xf.exC (PySem.W.findObj_own O.xf.hdC hno rfl (by rw [hl, hu])) (handed_of ru) ⟨y, H1, I1.tok _, ru, (q.ext E1).at R1 p3⟩
    · cases e3
  | _ => cases e3
/-- isinstance(e, T) -/
def rIsX (K : PySem.W.Frag) : List V → Hp → VK → Prop := fun xs H Q => ∃ (a c : Addr) (f : Str) (vs : List V) (tc : V) (tv : Value) (b : Bool), xs = [.ref a, tc] ∧ ExAt H a c f vs ∧ ExcC K c ∧ (∀ u, RelV tc u → u = tv) ∧ PySem.W.kitOne K (.ref c) tv = some b ∧ Q (.bl b) H
theorem call_isX : CallR X (.builtin "isinstance") (rIsX X.K) := by
  intro pins s σ H xs us Q I r h
  obtain ⟨a, c, f, vs, tc, tv, b, rfl, hx, C, hcv, e, q⟩ := h
  cases r with
  | cons rx rr =>
    cases rr with
    | cons rt rr =>
      cases rr
      cases rx
      have ec := hcv _ rt
      subst ec
      have J : ∃ oe od, PySem.W.InstAt s.heap a oe c od := by
        rcases hx with ⟨_, h⟩ | ⟨y, dx, _, h, h2⟩
        · obtain ⟨⟨t1, hget⟩, _, _⟩ := I.hok a _ h
          exact ⟨_, none, hget, rfl, rfl, trivial⟩
        · obtain ⟨⟨t1, hget⟩, _, _⟩ := I.hok a _ h
          obtain ⟨⟨mA, hns, hr⟩, _, _⟩ := I.hok dx _ h2
          obtain ⟨od, ho, hl⟩ := lookIn_ns hns
          exact ⟨_, some od, hget, rfl, rfl, ho⟩
      obtain ⟨oe, od, J⟩ := J
      obtain ⟨cd, hcd, _⟩ := PySem.W.any_some C.hd
      exact PySem.W.kia_one (PySem.W.kitx_exc (by rw [hcd]; rfl) C.hg C.hk C.hs C.ha C.hn C.ht C.hm) I.kIn J e (fun z => nomatch z) fun tk => ⟨.bl b, H, I.kept (t' := tk) fun _ _ z => z, rfl, q⟩
theorem e_isx (hk : KcOk X k) {x T : Str} {cs : List Str} {e : Expr} {c : C} {p p2 pos : Pos} (ha : PE X e (tEv X.K k.g c)) (hp : plainX e = true) (hx : x = Str.ofString "isinstance") (hi : k.isx.lookup T = some cs)
    (hf1 : x ∈ k.free) (hg1 : glB k.sc x = true) (hg2 : glB k.sc T = true) (hn : nmB T = true) : PE X (.Call (.Name x p) [e, .Name T p2] [] pos) (tEv X.K k.g (.isx c T cs k.cls)) := by
  subst hx
  obtain ⟨n1, _, n3⟩ := nmB_ok hn
  obtain ⟨tc, tv, hcv, hv, hs⟩ := hk.isx T cs hi
  have hN : PE X (.Name T p2) (tC tc) := by
    rcases hv with ⟨m, r⟩ | ⟨m, Ts, hb, rfl, rfl⟩
    · exact pe_glob (glB_ok hk hg2) m r n1
    · exact pe_bltn (glB_ok hk hg2) m hb rfl n3 n1
  refine (pe_callB call_isX (glB_ok hk hg1) (hk.free _ hf1) (by decide +kernel) (pa_cons ha (pa_cons hN pa_nil) (star_of hp _ _)) (by decide +kernel) (by decide +kernel) (star_of hp _ _) rfl).imp fun σ H Q ⟨μ, δ, S, d, S', E, R, e1, q⟩ => ?_
  simp only [evE] at e1
  obtain ⟨⟨d1, S1⟩, e2, e3⟩ := bindS e1
  cases d1 with
  | exc C g ds =>
    dsimp only at e3
    split at e3
    · rename_i hc
      cases e3
      obtain ⟨fo, hfo⟩ := Option.isSome_iff_exists.mp hc
      obtain ⟨c0, O⟩ := hk.cls C _ hfo
      refine ev1 E R e2 fun x H1 μ1 E1 R1 _ p1 => ?_
      simp only [Rep] at p1
      obtain ⟨a, c1, vs, rfl, h1, h2, h3⟩ := p1
      have := cls_uniq h1 O.at_
      subst this
      exact ⟨a, c1, g, vs, tc, tv, _, rfl, h2, O.xc, hcv, hs C fo c1 hfo h1, (q.ext E1).at R1 mk_bl⟩
    · cases e3
  | _ => cases e3
end
end Dn

set_option maxHeartbeats 4000000
namespace Dn
open PySem PySem.Spec PyProof.Rows L2
theorem own_map (N : List Str) (own : List Nat) : (own.map fun i => (N.getD i Str.empty, i)).map (·.2) = own := by
  induction own with
  | nil => rfl
  | cons i r ih => rw [List.map_cons, List.map_cons, ih]
theorem ckEs_plain : ∀ {cs : List C} {k : Kt} {es : List Expr}, ckEs cs k es = true → es.all plainX = true ∧ es.length = cs.length
  | [], k, [], h => ⟨rfl, rfl⟩
  | [], k, _ :: _, h => by simp only [ckEs] at h; cases h
  | c :: cs, k, [], h => by simp only [ckEs] at h; cases h
  | c :: cs, k, e :: es, h => by
    simp only [ckEs, Bool.and_eq_true] at h
    obtain ⟨h1, h2⟩ := ckEs_plain h.2
    exact ⟨by rw [List.all_cons, ckE_plain h.1, h1]; rfl, by rw [List.length_cons, List.length_cons, h2]⟩
theorem ckGs_plain : ∀ {cs : List CT} {k : Kt} {es : List Expr}, ckGs cs k es = true → es.all plainX = true ∧ es.length = cs.length
  | [], k, [], h => ⟨rfl, rfl⟩
  | [], k, _ :: _, h => by simp only [ckGs] at h; cases h
  | c :: cs, k, [], h => by simp only [ckGs] at h; cases h
  | c :: cs, k, e :: es, h => by
    simp only [ckGs, Bool.and_eq_true] at h
    obtain ⟨h1, h2⟩ := ckGs_plain h.2
    exact ⟨by rw [List.all_cons, ckG_plain h.1, h1]; rfl, by rw [List.length_cons, List.length_cons, h2]⟩
theorem nostarI {e : Expr} {p : Pos} {ct : CI} {k : Kt} {tg : Expr} (h : ckI ct k tg e = true) : plainX e = true := by
  cases e with
  | Starred _ _ => cases ct <;> simp only [ckI] at h <;> first | (cases h; done) | exact ckE_plain h | (cases tg <;> simp at h)
  | Set _ _ _ => cases ct <;> simp only [ckI] at h <;> first | (cases h; done) | exact ckE_plain h | (cases tg <;> simp at h)
  | Slice _ _ _ _ => cases ct <;> simp only [ckI] at h <;> first | (cases h; done) | exact ckE_plain h | (cases tg <;> simp at h)
  | _ => rfl
theorem ks_of {X : Cx} {k : Kc} : ∀ {kws : List Keyword} {cs : List C}, PA X (kws.map (·.value)) (tEvs X.K k.g cs) → True := fun _ => trivial
def OkE (c : C) : Prop := ∀ {X : Cx} {k : Kc} {e : Expr}, KcOk X k → ckE c k.toKt e = true → PE X e (tEv X.K k.g c) ∧ PT X e (tTv X.K k.g c)
def OkEs (cs : List C) : Prop := ∀ {X : Cx} {k : Kc} {es : List Expr}, KcOk X k → ckEs cs k.toKt es = true → PA X es (tEvs X.K k.g cs)
def OkKs (cs : List C) : Prop := ∀ {X : Cx} {k : Kc} {es : List Keyword}, KcOk X k → ckEs cs k.toKt (es.map (·.value)) = true → PK X es (tEvs X.K k.g cs)
def OkIf (cs : List C) : Prop := ∀ {X : Cx} {k : Kc} {es : List Expr}, KcOk X k → ckIf cs k.toKt es = true → PTs X es (tIfv X.K k.g cs)
def OkG (t : CT) : Prop := ∀ {X : Cx} {k : Kc} {e : Expr}, KcOk X k → ckG t k.toKt e = true → PG X e (gEv X.K k.g t)
def OkGs (ts : List CT) : Prop := ∀ {X : Cx} {k : Kc} {es : List Expr}, KcOk X k → ckGs ts k.toKt es = true → PGs X es (gEvs X.K k.g ts)
def OkI (it : CI) : Prop := ∀ {X : Cx} {k : Kc} {tg e : Expr}, KcOk X k → ckI it k.toKt tg e = true → PI X tg e (tIt X.K k.g it)
section
open Lean.Parser.Tactic
theorem okE_non : OkE .non := fun {X k e} hk h => by
  simp only [ckE] at h
  split at h
  · exact ⟨e_non, t_none fun δ S => by simp only [evT]⟩
  · cases h
theorem okE_bl {b : Bool} : OkE (.bl b) := fun {X k e} hk h => by
  simp only [ckE] at h
  split at h
  · simp only [beq_iff_eq] at h
    subst h
    exact ⟨e_bl, t_bl e_bl⟩
  · cases h
theorem okE_int {b : Int} : OkE (.int b) := fun {X k e} hk h => by
  simp only [ckE] at h
  split at h
  · simp only [decide_eq_true_eq] at h
    subst h
    exact ⟨e_int, t_none fun δ S => by simp only [evT]⟩
  · cases h
theorem okE_str {b : Str} : OkE (.str b) := fun {X k e} hk h => by
  simp only [ckE] at h
  split at h
  · simp only [decide_eq_true_eq] at h
    subst h
    exact ⟨e_str, t_none fun δ S => by simp only [evT]⟩
  · cases h
theorem okE_var {i : Nat} : OkE (.var i) := fun {X k e} hk h => by
  simp only [ckE] at h
  split at h
  · simp only [Bool.and_eq_true, decide_eq_true_eq] at h
    have w := e_var (pos := by assumption) hk h.1.1 h.1.2 h.2
    exact ⟨w, t_var w⟩
  · cases h
theorem okE_glo {x : Str} : OkE (.glo x) := fun {X k e} hk h => by
  simp only [ckE] at h
  split at h
  · simp only [Bool.and_eq_true, decide_eq_true_eq] at h
    obtain ⟨⟨⟨rfl, h1⟩, h2⟩, h3⟩ := h
    exact ⟨e_glo hk h1 h2 (hk.dn _ h3), t_none fun δ S => by simp only [evT]⟩
  · cases h
theorem okE_tup {cs : List C} (I : OkEs cs) : OkE (.tup cs) := fun {X k e} hk h => by
  simp only [ckE] at h
  split at h
  · exact ⟨e_tup (I hk h), t_none fun δ S => by simp only [evT]⟩
  · cases h
theorem okE_lst {own : Option Bool} {cs : List C} (I : OkEs cs) : OkE (.lst own cs) := fun {X k e} hk h => by
  simp only [ckE] at h
  split at h
  · exact ⟨e_lst (I hk h), t_none fun δ S => by simp only [evT]⟩
  · cases h
theorem okE_dic0 : OkE .dic0 := fun {X k e} hk h => by
  simp only [ckE] at h
  split at h
  · exact ⟨e_dic0, t_none fun δ S => by simp only [evT]⟩
  · cases h
theorem okE_dicT {kp : Bool} : OkE (.dicT kp) := fun {X k e} hk h => by
  simp only [ckE] at h
  split at h
  · exact ⟨e_dicT, t_none fun δ S => by simp only [evT]⟩
  · cases h
theorem okE_ntp {cs : List C} (I : OkEs cs) : OkE (.ntp cs) := fun {X k e} hk h => by
  simp only [ckE] at h
  split at h
  · exact ⟨e_ntp (I hk h), t_none fun δ S => by simp only [evT]⟩
  · cases h
theorem okE_stp {a n : C} (A : OkE a) (B : OkE n) : OkE (.stp a n) := fun {X k e} hk h => by
  simp only [ckE] at h
  split at h
  · simp only [Bool.and_eq_true] at h
    exact ⟨e_stp (A hk h.1).1 (B hk h.2).1, t_none fun δ S => by simp only [evT]⟩
  · cases h
theorem okE_dic1 {x : Str} {i : Int} : OkE (.dic1 x i) := fun {X k e} hk h => by
  simp only [ckE] at h
  split at h
  · simp only [Bool.and_eq_true, decide_eq_true_eq] at h
    obtain ⟨rfl, rfl⟩ := h
    exact ⟨e_dic1, t_none fun δ S => by simp only [evT]⟩
  · cases h
theorem okE_zipV {t : Bool} {own : Option Bool} {a b : C} (A : OkE a) (B : OkE b) : OkE (.zipV t own a b) := fun {X k e} hk h => by
  simp only [ckE] at h
  split at h
  · simp only [Bool.and_eq_true, decide_eq_true_eq] at h
    obtain ⟨⟨⟨⟨⟨⟨⟨h1, h2⟩, h3⟩, h4⟩, h5⟩, h6⟩, h7⟩, h8⟩ := h
    subst h2
    cases t with
    | true =>
      rw [if_pos rfl] at h1
      subst h1
      exact ⟨e_tzip hk (A hk h7).1 (B hk h8).1 (ckE_plain h7) (ckE_plain h8) h3 h4 h5 h6, t_none fun δ S => by simp only [evT]⟩
    | false =>
      rw [if_neg (by decide)] at h1
      subst h1
      exact ⟨e_lzip hk (A hk h7).1 (B hk h8).1 (ckE_plain h7) (ckE_plain h8) h3 h4 h5 h6, t_none fun δ S => by simp only [evT]⟩
  · cases h
def OkSp (cs : List C) : Prop := ∀ {X : Cx} {k : Kc} {fl : List Bool} {es : List Expr}, KcOk X k → ckSp cs fl k.toKt es = true → PA X es (tEvS X.K k.g cs fl)
theorem okE_tupS {cs : List C} {fl : List Bool} (I : OkSp cs) : OkE (.tupS cs fl) := fun {X k e} hk h => by
  simp only [ckE] at h
  split at h
  · exact ⟨e_tupS (I hk h), t_none fun δ S => by simp only [evT]⟩
  · cases h
theorem okSp_nil : OkSp [] := fun {X k fl es} hk h => by
  simp only [ckSp] at h
  split at h
  · exact sps_nil
  · cases h
theorem okSp_cons {c : C} {cs : List C} (A : OkE c) (B : OkSp cs) : OkSp (c :: cs) := fun {X k fl es} hk h => by
  simp only [ckSp] at h
  split at h
  · simp only [Bool.and_eq_true] at h
    exact sps_star (A hk h.1).1 (B hk h.2)
  · simp only [Bool.and_eq_true] at h
    exact sps_cons (A hk h.1).1 (B hk h.2) (ckE_plain h.1)
  · cases h
theorem okE_din {c : C} {x : Str} {kvs : List (Str × Int)} (A : OkE c) : OkE (.din c x kvs) := fun {X k e} hk h => by
  simp only [ckE] at h
  split at h
  · simp only [Bool.and_eq_true, decide_eq_true_eq] at h
    obtain ⟨⟨⟨⟨rfl, h2⟩, h3⟩, h4⟩, h5⟩ := h
    exact ⟨e_din hk (A hk h2).1 h3 h4 h5, t_din hk (A hk h2).1 h3 h4 h5⟩
  · cases h
theorem okE_dix {c : C} {x : Str} {kvs : List (Str × Int)} (A : OkE c) : OkE (.dix x kvs c) := fun {X k e} hk h => by
  simp only [ckE] at h
  split at h
  · simp only [Bool.and_eq_true, decide_eq_true_eq] at h
    obtain ⟨⟨⟨⟨rfl, h2⟩, h3⟩, h4⟩, h5⟩ := h
    exact ⟨e_dix hk (A hk h2).1 (ckE_plain h2) h3 h4 h5, t_none fun δ S => by simp only [evT]⟩
  · cases h
theorem okE_mkxK' {cn f : Str} {cs : List C} (A : OkEs cs) (B : OkKs cs) : OkE (.mkx cn f cs) := fun {X k e} hk h => by
  refine ⟨?_, t_none fun δ S => by simp only [evT]⟩
  unfold ckE at h
  split at h
  · rename_i c x p1 y p2
    simp only [Bool.and_eq_true, decide_eq_true_eq] at h
    obtain ⟨⟨⟨⟨rfl, h1⟩, h2⟩, h3⟩, h4⟩ := h
    have w : ckEs [c] k.toKt [y] = true := by simp only [ckEs, h4, Bool.and_self]
    exact e_mkx1 hk (A hk w) (ckE_plain h4) h1 h2 h3
  · rename_i c x p1 g y kp p2
    simp only [Bool.and_eq_true, decide_eq_true_eq] at h
    obtain ⟨⟨⟨⟨⟨rfl, rfl⟩, h1⟩, h2⟩, h3⟩, h4⟩ := h
    have w : ckEs [c] k.toKt ([(⟨some g, y, kp⟩ : Keyword)].map (·.value)) = true := by simp only [List.map_cons, List.map_nil, ckEs, h4, Bool.and_self]
    exact e_mkxK hk (B hk w) h1 h2 h3
  · simp only [Bool.and_eq_true, decide_eq_true_eq] at h
    obtain ⟨⟨⟨rfl, h1⟩, h2⟩, h3⟩ := h
    exact e_mkx0 hk h1 h2 h3
  · cases h
theorem okE_fld {c : C} {f : Str} {tab : List (Str × Option Str)} (A : OkE c) : OkE (.fld c f tab) := fun {X k e} hk h => by
  refine ⟨?_, t_none fun δ S => by simp only [evT]⟩
  simp only [ckE] at h
  split at h
  · simp only [Bool.and_eq_true, decide_eq_true_eq] at h
    obtain ⟨⟨rfl, rfl⟩, h1⟩ := h
    exact e_fld hk (A hk h1).1
  · cases h
theorem okE_isx {c : C} {T : Str} {cs : List Str} {tab : List (Str × Option Str)} (A : OkE c) : OkE (.isx c T cs tab) := fun {X k e} hk h => by
  refine ⟨?_, t_none fun δ S => by simp only [evT]⟩
  simp only [ckE] at h
  split at h
  · simp only [Bool.and_eq_true, decide_eq_true_eq] at h
    obtain ⟨⟨⟨⟨⟨⟨⟨⟨h1, rfl⟩, rfl⟩, h4⟩, h5⟩, h6⟩, h7⟩, h8⟩, h9⟩ := h
    exact e_isx hk (A hk h9).1 (ckE_plain h9) h1 h4 h5 h6 h7 h8
  · cases h
theorem okE_cat {kp : Bool} {a b : C} (A : OkE a) (B : OkE b) : OkE (.cat kp a b) := fun {X k e} hk h => by
  simp only [ckE] at h
  split at h
  · simp only [Bool.and_eq_true] at h
    exact ⟨e_cat (A hk h.1).1 (B hk h.2).1, t_none fun δ S => by simp only [evT]⟩
  · cases h
theorem okE_bin {o : Operator} {a b : C} (A : OkE a) (B : OkE b) : OkE (.bin o a b) := fun {X k e} hk h => by
  simp only [ckE] at h
  split at h
  · simp only [Bool.and_eq_true, decide_eq_true_eq] at h
    obtain ⟨⟨rfl, h1⟩, h2⟩ := h
    exact ⟨e_bin (A hk h1).1 (B hk h2).1, t_none fun δ S => by simp only [evT]⟩
  · cases h
theorem okE_neg {a : C} (A : OkE a) : OkE (.neg a) := fun {X k e} hk h => by
  simp only [ckE] at h
  split at h
  · exact ⟨e_neg (A hk h).1, t_none fun δ S => by simp only [evT]⟩
  · cases h
theorem okE_not {a : C} (A : OkE a) : OkE (.not a) := fun {X k e} hk h => by
  simp only [ckE] at h
  split at h
  · exact ⟨e_not (A hk h).1, t_not (A hk h).2⟩
  · cases h
theorem okE_cmp {o : CmpOp} {a b : C} (A : OkE a) (B : OkE b) : OkE (.cmp o a b) := fun {X k e} hk h => by
  simp only [ckE] at h
  split at h
  · simp only [Bool.and_eq_true, decide_eq_true_eq] at h
    obtain ⟨⟨rfl, h1⟩, h2⟩ := h
    exact ⟨e_cmp hk (A hk h1).1 (B hk h2).1 (ckE_plain h2), t_cmp hk (A hk h1).1 (B hk h2).1 (ckE_plain h2)⟩
  · cases h
theorem okE_cmp2 {o p : CmpOp} {a b c : C} (A : OkE a) (B : OkE b) (D : OkE c) : OkE (.cmp2 o p a b c) := fun {X k e} hk h => by
  simp only [ckE] at h
  split at h
  · simp only [Bool.and_eq_true, decide_eq_true_eq] at h
    obtain ⟨⟨⟨⟨rfl, rfl⟩, h1⟩, h2⟩, h3⟩ := h
    exact ⟨e_cmp2 hk (A hk h1).1 (B hk h2).1 (D hk h3).1 (ckE_plain h3), t_cmp2 hk (A hk h1).1 (B hk h2).1 (D hk h3).1 (ckE_plain h3)⟩
  · cases h
theorem okE_and {a b : C} (A : OkE a) (B : OkE b) : OkE (.and a b) := fun {X k e} hk h => by
  simp only [ckE] at h
  split at h
  · simp only [Bool.and_eq_true] at h
    exact ⟨e_and (A hk h.1).1 (B hk h.2).1, t_and (A hk h.1).2 (B hk h.2).2⟩
  · cases h
theorem okE_or {a b : C} (A : OkE a) (B : OkE b) : OkE (.or a b) := fun {X k e} hk h => by
  simp only [ckE] at h
  split at h
  · simp only [Bool.and_eq_true] at h
    exact ⟨e_or (A hk h.1).1 (B hk h.2).1, t_or (A hk h.1).2 (B hk h.2).2⟩
  · cases h
theorem okE_ite {c a b : C} (A : OkE c) (B : OkE a) (D : OkE b) : OkE (.ite c a b) := fun {X k e} hk h => by
  simp only [ckE] at h
  split at h
  · simp only [Bool.and_eq_true] at h
    exact ⟨e_ite (A hk h.1.1).2 (B hk h.1.2).1 (D hk h.2).1, t_none fun δ S => by simp only [evT]⟩
  · cases h
theorem okE_call {f : Str} {cs : List C} (A : OkEs cs) : OkE (.call f cs) := fun {X k e} hk h => by
  simp only [ckE] at h
  split at h
  · simp only [Bool.and_eq_true, decide_eq_true_eq] at h
    obtain ⟨⟨⟨⟨rfl, h1⟩, h2⟩, h3⟩, h4⟩ := h
    rename_i es _
    obtain ⟨p1, p2⟩ := ckEs_plain h4
    cases es with
    | nil =>
      cases cs with
      | nil => exact ⟨e_call0 hk h1 h2 h3, t_call (e_call0 hk h1 h2 h3)⟩
      | cons c cs => cases p2
    | cons e es => exact ⟨e_call hk (A hk h4) p1 h1 h2 h3, t_call (e_call hk (A hk h4) p1 h1 h2 h3)⟩
  · cases h
theorem okE_callK {f : Str} {cs : List C} {ks : List Str} {kes : List C} (A : OkEs cs) (B : OkKs kes) : OkE (.callK f cs ks kes) := fun {X k e} hk h => by
  simp only [ckE] at h
  split at h
  · simp only [Bool.and_eq_true, decide_eq_true_eq] at h
    obtain ⟨⟨⟨⟨⟨⟨⟨⟨rfl, h1⟩, h2⟩, h3⟩, h4⟩, h5⟩, h6⟩, h7⟩, h8⟩ := h
    obtain ⟨p1, p2⟩ := ckEs_plain h7
    exact ⟨e_callK hk (A hk h7) (B hk h8) p1 h4 h5 p2 h1 h6 h2 h3, t_none fun δ S => by simp only [evT]⟩
  · cases h
theorem okE_blt {f : String} {cs : List C} (A : OkEs cs) : OkE (.blt f cs) := fun {X k e} hk h => by
  simp only [ckE] at h
  split at h
  · simp only [Bool.and_eq_true] at h
    obtain ⟨⟨⟨⟨h1, h2⟩, h3⟩, h4⟩, h5⟩ := h
    rename_i x p es pos
    obtain ⟨p1, p2⟩ := ckEs_plain h3
    have w : PE X (.Call (.Name x p) es [] pos) (tEv X.K k.g (.blt f cs)) := by
      cases es with
      | nil => simp [nilE] at h4
      | cons e es =>
        split at h5
        · subst_vars
          simp only [decide_eq_true_eq] at h5
          exact e_gcd hk (A hk h3) p1 h5 h1 h2
        · simp only [Bool.and_eq_true, decide_eq_true_eq] at h5
          exact e_blt hk (A hk h3) p1 h5.1.1 h5.1.2 h5.2 h1 h2
    exact ⟨w, t_blt w⟩
  · cases h
theorem okE_isi {c : C} {T : String} (A : OkE c) : OkE (.isi c T) := fun {X k e} hk h => by
  simp only [ckE] at h
  split at h
  · simp only [Bool.and_eq_true, decide_eq_true_eq] at h
    obtain ⟨⟨⟨⟨⟨⟨⟨⟨h1, h2⟩, h3⟩, h4⟩, h5⟩, h6⟩, h7⟩, h8⟩, h9⟩ := h
    have w := fun p p2 pos => e_isi (p := p) (p2 := p2) (pos := pos) hk (A hk h9).1 (ckE_plain h9) h1 h2 h3 h4 h5 h6 h7 h8
    exact ⟨w _ _ _, t_isi (w _ _ _)⟩
  · cases h
theorem okE_meth {m : String} {o : C} {cs : List C} (A : OkE o) (B : OkEs cs) : OkE (.meth m o cs) := fun {X k e} hk h => by
  simp only [ckE] at h
  split at h
  · simp only [Bool.and_eq_true, decide_eq_true_eq] at h
    obtain ⟨⟨⟨⟨rfl, h2⟩, h3⟩, h4⟩, h5⟩ := h
    have p1 := (ckEs_plain h4).1
    simp only [List.all_cons, List.all_nil, Bool.and_true, Bool.and_eq_true] at p1
    exact ⟨e_insert (A hk h3).1 (B hk h4) ⟨_, _, rfl⟩ h2 p1.1 p1.2 h5, t_none fun δ S => by simp only [evT]⟩
  · simp only [Bool.and_eq_true, decide_eq_true_eq] at h
    obtain ⟨⟨⟨⟨rfl, h2⟩, h3⟩, h4⟩, h5⟩ := h
    have p1 := (ckEs_plain h4).1
    refine ⟨e_append (A hk h3).1 (B hk h4) ⟨_, _, rfl⟩ h2 ?_ h5, t_none fun δ S => by simp only [evT]⟩
    simpa using p1
  · cases h
theorem okE_ix {a b : C} (A : OkE a) (B : OkE b) : OkE (.ix a b) := fun {X k e} hk h => by
  simp only [ckE] at h
  split at h
  · simp only [Bool.and_eq_true] at h
    have w := fun p => e_ix (pos := p) hk (A hk h.1).1 (B hk h.2).1 (ckE_plain h.2)
    exact ⟨w _, t_ix (w _)⟩
  · cases h
theorem okE_sl {a l u : C} (A : OkE a) (B : OkE l) (D : OkE u) : OkE (.sl a l u) := fun {X k e} hk h => by
  simp only [ckE] at h
  split at h
  · simp only [Bool.and_eq_true] at h
    obtain ⟨⟨h1, h2⟩, h3⟩ := h
    have part : ∀ {l : C} {o : Option Expr}, OkE l → (match o with | none => isNonC l | some y => ckE l k.toKt y && !isNonC l) = true → PO X o (tPt X.K k.g l) := fun {l o} B h => by
      cases o with
      | none =>
        cases l <;> simp only [isNonC] at h <;> first | exact o_none | cases h
      | some y =>
        simp only [Bool.and_eq_true, Bool.not_eq_true'] at h
        exact o_some (B hk h.1).1 h.2
    exact ⟨e_sl (A hk h1).1 (part B h2) (part D h3), t_none fun δ S => by simp only [evT]⟩
  · cases h
theorem lc_parts {c : C} {t : CT} {it : CI} {ifs : List C} {own : List Nat} {k : Kt} {elt tg iter : Expr} {cs : List Expr} {scope : Scope} {pos : Pos} (h : ckE (.lc c t it ifs own) k (.ListComp elt [⟨tg, iter, cs, 0⟩] scope pos) = true) :
    blkC k.N k.sc scope (own.map fun i => (k.N.getD i Str.empty, i)) = true ∧ ckI it k tg iter = true ∧ ckG t (k.blk scope) tg = true ∧ ckIf ifs (k.blk scope) cs = true ∧ ckE c (k.blk scope) elt = true ∧ ∀ i ∈ tsl t, i ∈ own := by
  simp only [ckE, Bool.and_eq_true, List.all_eq_true, decide_eq_true_eq] at h
  obtain ⟨⟨⟨⟨⟨h1, h2⟩, h3⟩, h4⟩, h5⟩, h6⟩ := h
  exact ⟨h1, h2, h3, h4, h5, h6⟩
theorem okE_lc {c : C} {t : CT} {it : CI} {ifs : List C} {own : List Nat} (A : OkE c) (T : OkG t) (I : OkI it) (F : OkIf ifs) : OkE (.lc c t it ifs own) := fun {X k e} hk h => by
  refine ⟨?_, t_none fun δ S => by simp only [evT]⟩
  have h' := h
  simp only [ckE] at h
  split at h
  · obtain ⟨h1, h2, h3, h4, h5, h6⟩ := lc_parts h'
    have w := e_lc (pos := by assumption) hk (I hk h2) (nostarI (p := by assumption) h2) h1 (fun s H C cl fp => T (X := X.blk s H _ (compEnvC _ cl C X.env) fp) (k := k.blk _) hk.blk h3) (fun s H C cl fp => F (X := X.blk s H _ (compEnvC _ cl C X.env) fp) (k := k.blk _) hk.blk h4)
      (fun s H C cl fp => (A (X := X.blk s H _ (compEnvC _ cl C X.env) fp) (k := k.blk _) hk.blk h5).1) (by rw [own_map]; exact h6)
    rw [own_map] at w
    exact w
  · cases h
theorem lc2_parts {c : C} {t t2 : CT} {it it2 : CI} {own own2 : List Nat} {k : Kt} {elt tg iter tg1 iter1 : Expr} {scope : Scope} {pos : Pos} (h : ckE (.lc2 c t it t2 it2 own own2) k (.ListComp elt [⟨tg, iter, [], 0⟩, ⟨tg1, iter1, [], 0⟩] scope pos) = true) :
    blkC k.N k.sc scope (own.map fun i => (k.N.getD i Str.empty, i)) = true ∧ ckI it k tg iter = true ∧ ckG t (k.blk scope) tg = true ∧ ckI it2 (k.blk scope) tg1 iter1 = true ∧ ckG t2 (k.blk scope) tg1 = true ∧ ckE c (k.blk scope) elt = true ∧ (∀ i ∈ tsl t, i ∈ own) ∧ (∀ i ∈ tsl t2, i ∈ own2) ∧ ∀ i ∈ own2, i ∈ own := by
  simp only [ckE, Bool.and_eq_true, List.all_eq_true, decide_eq_true_eq] at h
  obtain ⟨⟨⟨⟨⟨⟨⟨⟨h1, h2⟩, h3⟩, h4⟩, h5⟩, h6⟩, h7⟩, h8⟩, h9⟩ := h
  exact ⟨h1, h2, h3, h4, h5, h6, h7, h8, h9⟩
theorem okE_lc2 {c : C} {t t2 : CT} {it it2 : CI} {own own2 : List Nat} (A : OkE c) (T : OkG t) (I : OkI it) (T2 : OkG t2) (I2 : OkI it2) : OkE (.lc2 c t it t2 it2 own own2) := fun {X k e} hk h => by
  refine ⟨?_, t_none fun δ S => by simp only [evT]⟩
  have h' := h
  simp only [ckE] at h
  split at h
  · obtain ⟨h1, h2, h3, h4, h5, h6, h7, h8, h9⟩ := lc2_parts h'
    have w := e_lc2 (pos := by assumption) hk (I hk h2) (nostarI (p := by assumption) h2) (nostarI (p := by assumption) h4) h1 (fun s H C cl fp => T (X := X.blk s H _ (compEnvC _ cl C X.env) fp) (k := k.blk _) hk.blk h3)
      (fun s H C cl fp => I2 (X := X.blk s H _ (compEnvC _ cl C X.env) fp) (k := k.blk _) hk.blk h4) (fun s H C cl fp => T2 (X := X.blk s H _ (compEnvC _ cl C X.env) fp) (k := k.blk _) hk.blk h5)
      (fun s H C cl fp => (A (X := X.blk s H _ (compEnvC _ cl C X.env) fp) (k := k.blk _) hk.blk h6).1) (by rw [own_map]; exact h7) h8 (by rw [own_map]; exact h9)
    rw [own_map] at w
    exact w
  · cases h
theorem okE_rev {a : C} (A : OkE a) : OkE (.rev a) := fun {X k e} hk h => by
  simp only [ckE] at h
  split at h
  · exact ⟨e_rev (A hk h).1, t_none fun δ S => by simp only [evT]⟩
  · cases h
theorem okEs_nil : OkEs [] := fun {X k es} hk h => by
  cases es with
  | nil => exact as_nil
  | cons e es => simp only [ckEs] at h; cases h
theorem okEs_cons {c : C} {cs : List C} (A : OkE c) (B : OkEs cs) : OkEs (c :: cs) := fun {X k es} hk h => by
  cases es with
  | nil => simp only [ckEs] at h; cases h
  | cons e es =>
    simp only [ckEs, Bool.and_eq_true] at h
    exact as_cons (A hk h.1).1 (B hk h.2) (ckE_plain h.1)
theorem okKs_nil : OkKs [] := fun {X k es} hk h => by
  cases es with
  | nil => exact ks_nil
  | cons e es => simp only [List.map_cons, ckEs] at h; cases h
theorem okKs_cons {c : C} {cs : List C} (A : OkE c) (B : OkKs cs) : OkKs (c :: cs) := fun {X k es} hk h => by
  cases es with
  | nil => simp only [List.map_nil, ckEs] at h; cases h
  | cons e es =>
    obtain ⟨n, e, p⟩ := e
    simp only [List.map_cons, ckEs, Bool.and_eq_true] at h
    exact ks_cons (A hk h.1).1 (B hk h.2)
theorem okIf_nil : OkIf [] := fun {X k es} hk h => by
  cases es with
  | nil => exact if_nil
  | cons e es => simp only [ckIf] at h; cases h
theorem okIf_cons {c : C} {cs : List C} (A : OkE c) : OkIf (c :: cs) := fun {X k es} hk h => by
  simp only [ckIf] at h
  split at h
  · simp only [Bool.and_eq_true, List.isEmpty_iff] at h
    obtain ⟨h1, rfl⟩ := h
    exact if_one (A hk h1).2
  · cases h
theorem okG_name {i : Nat} : OkG (.name i) := fun {X k e} hk h => by
  simp only [ckG] at h
  split at h
  · simp only [Bool.and_eq_true, decide_eq_true_eq] at h
    exact g_name hk h.1 h.2
  · cases h
theorem okG_tup {ts : List CT} (A : OkGs ts) : OkG (.tup ts) := fun {X k e} hk h => by
  simp only [ckG] at h
  split at h
  · obtain ⟨p1, p2⟩ := ckGs_plain h
    exact g_tup hk (A hk h) p1 p2
  · cases h
theorem okG_sub {a b : C} (A : OkE a) (B : OkE b) : OkG (.sub a b) := fun {X k e} hk h => by
  simp only [ckG] at h
  split at h
  · simp only [Bool.and_eq_true] at h
    exact g_sub hk (A hk h.1).1 (B hk h.2).1 (ckE_plain h.2)
  · cases h
theorem okGs_nil : OkGs [] := fun {X k es} hk h => by
  cases es with
  | nil => exact gs_nil
  | cons e es => simp only [ckGs] at h; cases h
theorem okGs_cons {c : CT} {cs : List CT} (A : OkG c) (B : OkGs cs) : OkGs (c :: cs) := fun {X k es} hk h => by
  cases es with
  | nil => simp only [ckGs] at h; cases h
  | cons e es =>
    simp only [ckGs, Bool.and_eq_true] at h
    exact gs_cons (A hk h.1) (B hk h.2) (ckG_plain h.1)
theorem okI_seq {a : C} (A : OkE a) : OkI (.seq a) := fun {X k tg e} hk h => by
  simp only [ckI] at h
  exact i_seq (A hk h).1
theorem okI_rng1 {a : C} (A : OkE a) : OkI (.rng1 a) := fun {X k tg e} hk h => by
  simp only [ckI] at h
  split at h
  · simp only [Bool.and_eq_true, decide_eq_true_eq] at h
    obtain ⟨⟨⟨h1, h2⟩, h3⟩, h4⟩ := h
    exact i_rng1 hk (A hk h4).1 (ckE_plain h4) h1 h2 h3
  · cases h
theorem okI_rng2 {a b : C} (A : OkE a) (B : OkE b) : OkI (.rng2 a b) := fun {X k tg e} hk h => by
  simp only [ckI] at h
  split at h
  · simp only [Bool.and_eq_true, decide_eq_true_eq] at h
    obtain ⟨⟨⟨⟨h1, h2⟩, h3⟩, h4⟩, h5⟩ := h
    exact i_rng2 hk (A hk h4).1 (B hk h5).1 (ckE_plain h4) (ckE_plain h5) h1 h2 h3
  · cases h
theorem okI_enm {a : C} (A : OkE a) : OkI (.enm a) := fun {X k tg e} hk h => by
  simp only [ckI] at h
  split at h
  · simp only [Bool.and_eq_true, decide_eq_true_eq] at h
    obtain ⟨⟨⟨h1, h2⟩, h3⟩, h4⟩ := h
    exact i_enm hk (A hk h4).1 (ckE_plain h4) h1 h2 h3
  · cases h
theorem okI_zip {a b : C} (A : OkE a) (B : OkE b) : OkI (.zip a b) := fun {X k tg e} hk h => by
  simp only [ckI] at h
  split at h
  · simp only [Bool.and_eq_true, decide_eq_true_eq] at h
    obtain ⟨⟨⟨⟨h1, h2⟩, h3⟩, h4⟩, h5⟩ := h
    exact i_zip hk (A hk h4).1 (B hk h5).1 (ckE_plain h4) (ckE_plain h5) h1 h2 h3
  · cases h
theorem okI_zipN {a b : C} (A : OkE a) (B : OkE b) : OkI (.zipN a b) := fun {X k tg e} hk h => by
  simp only [ckI] at h
  split at h
  · simp only [Bool.and_eq_true, decide_eq_true_eq] at h
    obtain ⟨⟨⟨⟨h1, h2⟩, h3⟩, h4⟩, h5⟩ := h
    exact i_zipN hk (A hk h4).1 (B hk h5).1 (ckE_plain h4) (ckE_plain h5) h1 h2 h3
  · cases h
mutual
theorem okE : ∀ c : C, OkE c
  | .non => okE_non
  | .bl b => okE_bl
  | .int i => okE_int
  | .str x => okE_str
  | .var i => okE_var
  | .glo x => okE_glo
  | .tup es => okE_tup (okEs es)
  | .lst own es => okE_lst (okEs es)
  | .dic0 => okE_dic0
  | .dicT kp => okE_dicT
  | .ntp es => okE_ntp (okEs es)
  | .stp a n => okE_stp (okE a) (okE n)
  | .lc2 elt t it t2 it2 own own2 => okE_lc2 (okE elt) (okG t) (okI it) (okG t2) (okI it2)
  | .dic1 x i => okE_dic1
  | .zipV t own a b => okE_zipV (okE a) (okE b)
  | .tupS es fl => okE_tupS (okSp es)
  | .din e x kvs => okE_din (okE e)
  | .dix x kvs e => okE_dix (okE e)
  | .mkx cn f es => okE_mkxK' (okEs es) (okKs es)
  | .fld e f tab => okE_fld (okE e)
  | .isx e T cs tab => okE_isx (okE e)
  | .cat kp a b => okE_cat (okE a) (okE b)
  | .bin o a b => okE_bin (okE a) (okE b)
  | .neg a => okE_neg (okE a)
  | .not a => okE_not (okE a)
  | .cmp o a b => okE_cmp (okE a) (okE b)
  | .cmp2 o p a b c => okE_cmp2 (okE a) (okE b) (okE c)
  | .and a b => okE_and (okE a) (okE b)
  | .or a b => okE_or (okE a) (okE b)
  | .ite c a b => okE_ite (okE c) (okE a) (okE b)
  | .call f es => okE_call (okEs es)
  | .callK f es ks kes => okE_callK (okEs es) (okKs kes)
  | .blt f es => okE_blt (okEs es)
  | .isi e T => okE_isi (okE e)
  | .meth m o es => okE_meth (okE o) (okEs es)
  | .ix a b => okE_ix (okE a) (okE b)
  | .sl a lo hi => okE_sl (okE a) (okE lo) (okE hi)
  | .rev a => okE_rev (okE a)
  | .lc elt t it ifs own => okE_lc (okE elt) (okG t) (okI it) (okIf ifs)
theorem okEs : ∀ cs : List C, OkEs cs
  | [] => okEs_nil
  | c :: cs => okEs_cons (okE c) (okEs cs)
theorem okSp : ∀ cs : List C, OkSp cs
  | [] => okSp_nil
  | c :: cs => okSp_cons (okE c) (okSp cs)
theorem okKs : ∀ cs : List C, OkKs cs
  | [] => okKs_nil
  | c :: cs => okKs_cons (okE c) (okKs cs)
theorem okIf : ∀ cs : List C, OkIf cs
  | [] => okIf_nil
  | c :: cs => okIf_cons (okE c)
theorem okG : ∀ t : CT, OkG t
  | .name i => okG_name
  | .tup ts => okG_tup (okGs ts)
  | .sub a b => okG_sub (okE a) (okE b)
theorem okGs : ∀ ts : List CT, OkGs ts
  | [] => okGs_nil
  | t :: ts => okGs_cons (okG t) (okGs ts)
theorem okI : ∀ it : CI, OkI it
  | .seq e => okI_seq (okE e)
  | .rng1 a => okI_rng1 (okE a)
  | .rng2 a b => okI_rng2 (okE a) (okE b)
  | .enm e => okI_enm (okE e)
  | .zip a b => okI_zip (okE a) (okE b)
  | .zipN a b => okI_zipN (okE a) (okE b)
end
end
end Dn

set_option maxHeartbeats 4000000
namespace Dn
open PySem PySem.Spec PyProof.Rows L2
def lcOfX : Expr → Option (Scope × Pos)
  | .ListComp _ _ scope pos => some (scope, pos)
  | _ => none
def isLcC : C → Bool
  | .lc _ _ _ _ _ => true
  | _ => false
def tupsX : Expr → Option (List Expr)
  | .Tuple es _ _ => some es
  | _ => none
mutual
def ckS : CS → Kt → Stmt → Bool
  | .expr c, k, st => match st with
    | .Expr e _ => ckE c k e && noLc e
    | _ => false
  | .asg t c, k, st => match st with
    | .Assign [tg] e _ => ckG t k tg && ckE c k e && (match lcOfX e with
      | some (scope, pos) => (match tg with
        | .Name y py => isLcC c && decide (k.sc.names.lookup y = some .local) && (py.line == pos.line) && !(scope.names.any fun (n, kd) => n == y && (kd == .local || kd == .cell))
        | _ => false)
      | none => noLc e && (match tupsX tg, tupsX e with
        | some ts, some vs => (match swOf k.sc ts vs with
          | some none => true
          | _ => false)
        | _, _ => true))
    | _ => false
  | .par i j a b, k, st => match st with
    | .Assign [.Tuple [.Name x px, .Name y py] _ _] (.Tuple [ea, eb] _ _) _ => ckE a k ea && ckE b k eb && decide (k.N[i]? = some x) && decide (k.N[j]? = some y) && decide (i ≠ j) && decide (k.sc.names.lookup x = some .local) && decide (k.sc.names.lookup y = some .local)
      && decide (swOf k.sc [.Name x px, .Name y py] [ea, eb] = some (some [x, y]))
    | _ => false
  | .par3 i j l a b c, k, st => match st with
    | .Assign [.Tuple [.Name x px, .Name y py, .Name z pz] _ _] (.Tuple [ea, eb, ec] _ _) _ => ckE a k ea && ckE b k eb && ckE c k ec && decide (k.N[i]? = some x) && decide (k.N[j]? = some y) && decide (k.N[l]? = some z) && decide (i ≠ j) && decide (i ≠ l) && decide (j ≠ l)
      && decide (k.sc.names.lookup x = some .local) && decide (k.sc.names.lookup y = some .local) && decide (k.sc.names.lookup z = some .local) && decide (swOf k.sc [.Name x px, .Name y py, .Name z pz] [ea, eb, ec] = some (some [x, y, z]))
    | _ => false
  | .ret c, k, st => match st with
    | .Return (some e) _ => ckE c k e
    | _ => false
  | .retN, _, st => match st with
    | .Return none _ => true
    | _ => false
  | .ife c a b, k, st => match st with
    | .If e x y _ => ckE c k e && ckSs a k x && ckSs b k y
    | _ => false
  | .for_ t it body, k, st => match st with
    | .For tg iter b [] _ => ckI it k tg iter && ckG t k tg && ckSs body k b
    | _ => false
  | .whl c body, k, st => match st with
    | .While e b [] _ => ckE c k e && ckSs body k b
    | _ => false
  | .aug _ _ _, _, _ => false
  | .pass, _, st => match st with
    | .Pass _ => true
    | _ => false
  | .brk, _, st => match st with
    | .Break _ => true
    | _ => false
  | .cont, _, st => match st with
    | .Continue _ => true
    | _ => false
  | .never, _, _ => true
def ckSs : List CS → Kt → List Stmt → Bool
  | [], _, sts => match sts with
    | [] => true
    | _ => false
  | s :: ss, k, sts => match sts with
    | st :: r => ckS s k st && ckSs ss k r
    | [] => false
end
def OkS (s : CS) : Prop := ∀ {X : Cx} {k : Kc} {st : Stmt}, KcOk X k → X.xe = (fun _ _ => False) → ckS s k.toKt st = true → PS X st (tSt X.K k.g s)
def OkSs (ss : List CS) : Prop := ∀ {X : Cx} {k : Kc} {sts : List Stmt}, KcOk X k → X.xe = (fun _ _ => False) → ckSs ss k.toKt sts = true → PSs X sts (tSts X.K k.g ss)
theorem okS_expr {c : C} : OkS (.expr c) := fun {X k st} hk hx h => by
  simp only [ckS] at h
  split at h
  · simp only [Bool.and_eq_true] at h
    exact s_expr (okE c hk h.1).1 h.2
  · cases h
theorem okS_asg {t : CT} {c : C} : OkS (.asg t c) := fun {X k st} hk hx h => by
  simp only [ckS] at h
  split at h
  · rename_i tg e p
    simp only [Bool.and_eq_true] at h
    obtain ⟨⟨h1, h2⟩, h3⟩ := h
    split at h3
    · rename_i scope pos hl
      split at h3
      · rename_i y py
        simp only [Bool.and_eq_true, decide_eq_true_eq, Bool.not_eq_true'] at h3
        obtain ⟨⟨⟨h4, h5⟩, h6⟩, h7⟩ := h3
        cases c <;> simp only [isLcC] at h4 <;> first | (cases h4; done) | skip
        rename_i c tt it ifs own
        cases e <;> simp only [lcOfX] at hl <;> first | (cases hl; done) | skip
        cases hl
        have h2' := h2
        simp only [ckE] at h2
        split at h2
        · rename_i heq
          cases heq
          obtain ⟨g1, g2, g3, g4, g5, g6⟩ := lc_parts h2'
          cases t with
          | name i =>
            simp only [ckG, Bool.and_eq_true, decide_eq_true_eq] at h1
            have w := s_lc (pos := _) (spos := p) (py := py) hk (okI it hk g2) (nostarI (p := py) g2) g1 (fun s H C cl fp => okG tt (X := X.blk s H _ (compEnvC _ cl C X.env) fp) (k := k.blk _) hk.blk g3) (fun s H C cl fp => okIf ifs (X := X.blk s H _ (compEnvC _ cl C X.env) fp) (k := k.blk _) hk.blk g4)
              (fun s H C cl fp => (okE c (X := X.blk s H _ (compEnvC _ cl C X.env) fp) (k := k.blk _) hk.blk g5).1) (by rw [own_map]; exact g6) h1.1 h5 h6 h7
            rw [own_map] at w
            exact w
          | tup ts => simp only [ckG] at h1; cases h1
          | sub a b => simp only [ckG] at h1; cases h1
        · cases h2
      · cases h3
    · simp only [Bool.and_eq_true] at h3
      obtain ⟨h4, h5⟩ := h3
      have hL : ∀ es p, tg ≠ .List es p := by
        rintro es p rfl
        cases t <;> simp only [ckG] at h1 <;> cases h1
      split at h5
      · rename_i ts vs e1 e2
        split at h5
        · rename_i hw
          cases tg <;> simp only [tupsX] at e1 <;> first | (cases e1; done) | skip
          cases e <;> simp only [tupsX] at e2 <;> first | (cases e2; done) | skip
          cases e1; cases e2
          exact s_asgT hk (okG t hk h1) (okE c hk h2).1 hw
        · cases h5
      · rename_i hn
        refine s_asg (okG t hk h1) (okE c hk h2).1 h4 (ckG_plain h1) ?_ hL
        cases tg <;> first | exact .inl rfl | skip
        cases e <;> first | exact .inr rfl | skip
        exact absurd rfl (hn _ _ rfl)
  · cases h
theorem okS_par {i j : Nat} {a b : C} : OkS (.par i j a b) := fun {X k st} hk hx h => by
  simp only [ckS] at h
  split at h
  · simp only [Bool.and_eq_true, decide_eq_true_eq] at h
    obtain ⟨⟨⟨⟨⟨⟨⟨h1, h2⟩, h3⟩, h4⟩, h5⟩, h6⟩, h7⟩, h8⟩ := h
    exact s_par hk (okE a hk h1).1 (okE b hk h2).1 (ckE_plain h1) (ckE_plain h2) h3 h4 h5 h6 h7 h8
  · cases h
theorem okS_par3 {i j l : Nat} {a b c : C} : OkS (.par3 i j l a b c) := fun {X k st} hk hx h => by
  simp only [ckS] at h
  split at h
  · simp only [Bool.and_eq_true, decide_eq_true_eq] at h
    obtain ⟨⟨⟨⟨⟨⟨⟨⟨⟨⟨⟨⟨h1, h2⟩, h3⟩, h4⟩, h5⟩, h6⟩, h7⟩, h8⟩, h9⟩, g1⟩, g2⟩, g3⟩, g4⟩ := h
    exact s_par3 hk (okE a hk h1).1 (okE b hk h2).1 (okE c hk h3).1 (ckE_plain h1) (ckE_plain h2) (ckE_plain h3) h4 h5 h6 h7 h8 h9 g1 g2 g3 g4
  · cases h
theorem okS_ret {c : C} : OkS (.ret c) := fun {X k st} hk hx h => by
  simp only [ckS] at h
  split at h
  · exact s_ret (okE c hk h).1
  · cases h
theorem okS_retN : OkS .retN := fun {X k st} hk hx h => by
  simp only [ckS] at h
  split at h
  · exact s_retN
  · cases h
theorem okS_pass : OkS .pass := fun {X k st} hk hx h => by
  simp only [ckS] at h
  split at h
  · exact s_pass
  · cases h
theorem okS_brk : OkS .brk := fun {X k st} hk hx h => by
  simp only [ckS] at h
  split at h
  · exact s_brk
  · cases h
theorem okS_cont : OkS .cont := fun {X k st} hk hx h => by
  simp only [ckS] at h
  split at h
  · exact s_cont
  · cases h
theorem okS_never : OkS .never := fun {X k st} hk hx h => s_never
theorem okS_aug {i : Nat} {o : Operator} {c : C} : OkS (.aug i o c) := fun {X k st} hk hx h => by
  simp only [ckS] at h
  cases h
theorem okS_ife {c : C} {a b : List CS} (A : OkSs a) (B : OkSs b) : OkS (.ife c a b) := fun {X k st} hk hx h => by
  simp only [ckS] at h
  split at h
  · simp only [Bool.and_eq_true] at h
    exact s_if (okE c hk h.1.1).2 (A hk hx h.1.2) (B hk hx h.2)
  · cases h
theorem okS_for {t : CT} {it : CI} {a : List CS} (A : OkSs a) : OkS (.for_ t it a) := fun {X k st} hk hx h => by
  simp only [ckS] at h
  split at h
  · rename_i p
    simp only [Bool.and_eq_true] at h
    exact s_for hk hx (okI it hk h.1.1) (okG t hk h.1.2) (A hk hx h.2) (nostarI (p := p) h.1.1)
  · cases h
theorem okS_whl {c : C} {a : List CS} (A : OkSs a) : OkS (.whl c a) := fun {X k st} hk hx h => by
  simp only [ckS] at h
  split at h
  · simp only [Bool.and_eq_true] at h
    exact s_whl hx (okE c hk h.1).2 (A hk hx h.2)
  · cases h
theorem okSs_nil : OkSs [] := fun {X k sts} hk hx h => by
  cases sts with
  | nil => exact ss_nil
  | cons e es => simp only [ckSs] at h; cases h
theorem okSs_cons {s : CS} {ss : List CS} (A : OkS s) (B : OkSs ss) : OkSs (s :: ss) := fun {X k sts} hk hx h => by
  cases sts with
  | nil => simp only [ckSs] at h; cases h
  | cons e es =>
    simp only [ckSs, Bool.and_eq_true] at h
    exact ss_cons (A hk hx h.1) (B hk hx h.2)
mutual
theorem okS : ∀ s : CS, OkS s
  | .expr e => okS_expr
  | .asg t e => okS_asg
  | .par i j a b => okS_par
  | .par3 i j l a b c => okS_par3
  | .ret e => okS_ret
  | .retN => okS_retN
  | .ife c a b => okS_ife (okSs a) (okSs b)
  | .for_ t it body => okS_for (okSs body)
  | .whl c body => okS_whl (okSs body)
  | .aug i o e => okS_aug
  | .pass => okS_pass
  | .brk => okS_brk
  | .cont => okS_cont
  | .never => okS_never
theorem okSs : ∀ ss : List CS, OkSs ss
  | [] => okSs_nil
  | s :: ss => okSs_cons (okS s) (okSs ss)
end
end Dn

set_option maxHeartbeats 4000000
namespace Dn
open PySem PySem.Spec PyProof.Rows L2
/-! ### the end of a call: its own objects are let go or frozen -/
def Mu.cut (μ : Mu) (n : Nat) : Mu := ⟨μ.ad.take n, μ.hid⟩
section
variable {K : PySem.W.Frag} {μ μ' : Mu} {H H' : Hp} {S S' S2 : Sto} {n : Nat}
theorem cut_fz {a : Addr} (h : μ.fz a) : (μ.cut n).fz a := ⟨fun q => h.1 (List.mem_of_mem_take q), h.2⟩
mutual
theorem Rep.below : ∀ {d : D} {v : V}, Rep K μ H d v → belowD μ.ad.length d = true
  | .non, v, h => rfl
  | .bl b, v, h => rfl
  | .int i, v, h => rfl
  | .str x, v, h => rfl
  | .tup ds, v, h => by
    simp only [Rep] at h; obtain ⟨a, vs, _, _, r⟩ := h
    simp only [belowD]; exact Reps.below r
  | .lst ds, v, h => by
    simp only [Rep] at h; obtain ⟨a, vs, _, _, _, r⟩ := h
    simp only [belowD]; exact Reps.below r
  | .scr ds, v, h => by
    simp only [Rep] at h; obtain ⟨a, vs, _, _, r⟩ := h
    simp only [belowD]; exact Reps.below r
  | .dic ks ds, v, h => by
    simp only [Rep] at h; obtain ⟨a, vs, _, _, _, _, r⟩ := h
    simp only [belowD]; exact Reps.below r
  | .exc C f ds, v, h => by
    simp only [Rep] at h; obtain ⟨a, c, vs, _, _, _, r⟩ := h
    simp only [belowD]; exact Reps.below r
  | .ref k, v, h => by
    simp only [Rep] at h; obtain ⟨a, _, e, _⟩ := h
    simp only [belowD, decide_eq_true_eq]
    exact (List.getElem?_eq_some_iff.mp e).1
  | .rfd k, v, h => by
    simp only [Rep] at h; obtain ⟨a, _, e, _⟩ := h
    simp only [belowD, decide_eq_true_eq]
    exact (List.getElem?_eq_some_iff.mp e).1
  | .ntup ds, v, h => by
    simp only [Rep] at h; obtain ⟨a, vs, _, _, r⟩ := h
    simp only [belowD]; exact Reps.below r
theorem Reps.below : ∀ {ds : List D} {vs : List V}, Reps K μ H ds vs → belowDs μ.ad.length ds = true
  | [], vs, h => by simp only [belowDs]
  | d :: ds, vs, h => by
    obtain ⟨v, r, rfl, p, t⟩ := reps_cons.mp h
    simp only [belowDs, Bool.and_eq_true]
    exact ⟨Rep.below p, Reps.below t⟩
end
mutual
theorem Rep.cut : ∀ {d : D} {v : V}, belowD n d = true → Rep K μ H d v → Rep K (μ.cut n) H d v
  | .non, v, b, h => by simpa only [Rep] using h
  | .bl _, v, b, h => by simpa only [Rep] using h
  | .int i, v, b, h => by simpa only [Rep] using h
  | .str x, v, b, h => by simpa only [Rep] using h
  | .tup ds, v, b, h => by
    simp only [Rep] at h ⊢; obtain ⟨a, vs, h1, h2, r⟩ := h
    simp only [belowD] at b; exact ⟨a, vs, h1, h2, Reps.cut b r⟩
  | .lst ds, v, b, h => by
    simp only [Rep] at h ⊢; obtain ⟨a, vs, h1, h2, h3, r⟩ := h
    simp only [belowD] at b; exact ⟨a, vs, h1, cut_fz h2, h3, Reps.cut b r⟩
  | .scr ds, v, b, h => by
    simp only [Rep] at h ⊢; obtain ⟨a, vs, h1, h2, r⟩ := h
    simp only [belowD] at b; exact ⟨a, vs, h1, h2, Reps.cut b r⟩
  | .dic ks ds, v, b, h => by
    simp only [Rep] at h ⊢; obtain ⟨a, vs, h1, h2, h3, h4, r⟩ := h
    simp only [belowD] at b; exact ⟨a, vs, h1, cut_fz h2, h3, h4, Reps.cut b r⟩
  | .exc C f ds, v, b, h => by
    simp only [Rep] at h ⊢; obtain ⟨a, c, vs, h1, h2, h3, r⟩ := h
    simp only [belowD] at b; exact ⟨a, c, vs, h1, h2, h3, Reps.cut b r⟩
  | .ref k, v, b, h => by
    simp only [Rep] at h ⊢; obtain ⟨a, h1, e, h2⟩ := h
    simp only [belowD, decide_eq_true_eq] at b
    refine ⟨a, h1, ?_, h2⟩
    show (μ.ad.take n)[k]? = some a
    rw [List.getElem?_take, if_pos b]; exact e
  | .rfd k, v, b, h => by
    simp only [Rep] at h ⊢; obtain ⟨a, h1, e, h2⟩ := h
    simp only [belowD, decide_eq_true_eq] at b
    refine ⟨a, h1, ?_, h2⟩
    show (μ.ad.take n)[k]? = some a
    rw [List.getElem?_take, if_pos b]; exact e
  | .ntup ds, v, b, h => by
    simp only [Rep] at h ⊢; obtain ⟨a, vs, h1, h2, r⟩ := h
    simp only [belowD] at b; exact ⟨a, vs, h1, h2, Reps.cut b r⟩
theorem Reps.cut : ∀ {ds : List D} {vs : List V}, belowDs n ds = true → Reps K μ H ds vs → Reps K (μ.cut n) H ds vs
  | [], vs, b, h => by rw [reps_nil.mp h]; exact Reps.nil
  | d :: ds, vs, b, h => by
    obtain ⟨v, r, rfl, p, t⟩ := reps_cons.mp h
    simp only [belowDs, Bool.and_eq_true] at b
    exact Reps.cons (Rep.cut b.1 p) (Reps.cut b.2 t)
end
mutual
theorem fz_ok {g : Nat → Option D} (hg : ∀ k d v, n ≤ k → g k = some d → Rep K μ H (.ref k) v → Rep K (μ.cut n) H d v) : ∀ {d x : D} {v : V}, fzD n g d = some x → Rep K μ H d v → Rep K (μ.cut n) H x v
  | .non, x, v, e, h => by simp only [fzD] at e; cases e; exact Rep.cut rfl h
  | .bl _, x, v, e, h => by simp only [fzD] at e; cases e; exact Rep.cut rfl h
  | .int i, x, v, e, h => by simp only [fzD] at e; cases e; exact Rep.cut rfl h
  | .str _, x, v, e, h => by simp only [fzD] at e; cases e; exact Rep.cut rfl h
  | .tup ds, x, v, e, h => by
    simp only [fzD] at e
    obtain ⟨xs, e1, rfl⟩ := mapS e
    simp only [Rep] at h ⊢; obtain ⟨a, vs, h1, h2, r⟩ := h
    exact ⟨a, vs, h1, h2, fzs_ok hg e1 r⟩
  | .lst ds, x, v, e, h => by
    simp only [fzD] at e
    obtain ⟨xs, e1, rfl⟩ := mapS e
    simp only [Rep] at h ⊢; obtain ⟨a, vs, h1, h2, h3, r⟩ := h
    exact ⟨a, vs, h1, cut_fz h2, h3, fzs_ok hg e1 r⟩
  | .scr ds, x, v, e, h => by
    simp only [fzD] at e
    obtain ⟨xs, e1, rfl⟩ := mapS e
    simp only [Rep] at h ⊢; obtain ⟨a, vs, h1, h2, r⟩ := h
    exact ⟨a, vs, h1, h2, fzs_ok hg e1 r⟩
  | .dic ks ds, x, v, e, h => by
    simp only [fzD] at e
    obtain ⟨xs, e1, rfl⟩ := mapS e
    simp only [Rep] at h ⊢; obtain ⟨a, vs, h1, h2, h3, h4, r⟩ := h
    exact ⟨a, vs, h1, cut_fz h2, h3, h4, fzs_ok hg e1 r⟩
  | .exc C f ds, x, v, e, h => by
    simp only [fzD] at e
    obtain ⟨xs, e1, rfl⟩ := mapS e
    simp only [Rep] at h ⊢; obtain ⟨a, c, vs, h1, h2, h3, r⟩ := h
    exact ⟨a, c, vs, h1, h2, h3, fzs_ok hg e1 r⟩
  | .ref k, x, v, e, h => by
    simp only [fzD] at e
    split at e
    · rename_i hk
      cases e
      exact Rep.cut (by simp only [belowD, decide_eq_true_eq]; exact hk) h
    · rename_i hk
      exact hg k x v (Nat.le_of_not_lt hk) e h
  | .rfd k, x, v, e, h => by
    simp only [fzD] at e
    split at e
    · rename_i hk
      cases e
      exact Rep.cut (by simp only [belowD, decide_eq_true_eq]; exact hk) h
    · cases e
  | .ntup ds, x, v, e, h => by
    simp only [fzD] at e
    obtain ⟨xs, e1, rfl⟩ := mapS e
    simp only [Rep] at h ⊢; obtain ⟨a, vs, h1, h2, r⟩ := h
    exact ⟨a, vs, h1, h2, fzs_ok hg e1 r⟩
theorem fzs_ok {g : Nat → Option D} (hg : ∀ k d v, n ≤ k → g k = some d → Rep K μ H (.ref k) v → Rep K (μ.cut n) H d v) : ∀ {ds xs : List D} {vs : List V}, fzDs n g ds = some xs → Reps K μ H ds vs → Reps K (μ.cut n) H xs vs
  | [], xs, vs, e, h => by simp only [fzDs] at e; cases e; rw [reps_nil.mp h]; exact Reps.nil
  | d :: ds, xs, vs, e, h => by
    simp only [fzDs] at e
    obtain ⟨x, e1, e2⟩ := bindS e
    obtain ⟨r, e3, rfl⟩ := mapS e2
    obtain ⟨v, us, rfl, p, t⟩ := reps_cons.mp h
    exact Reps.cons (fz_ok hg e1 p) (fzs_ok hg e3 t)
end
theorem fzR_ok (R : Rl K μ H S) : ∀ (m k : Nat) (d : D) (v : V), n ≤ k → fzR S n m k = some d → Rep K μ H (.ref k) v → Rep K (μ.cut n) H d v
  | 0, k, d, v, hk, e, h => by cases e
  | m + 1, k, d, v, hk, e, h => by
    simp only [fzR] at e
    split at e
    · rename_i kp xs hS
      obtain ⟨ys, e1, rfl⟩ := mapS e
      simp only [Rep] at h ⊢
      obtain ⟨a, rfl, ha, _⟩ := h
      obtain ⟨vs, h1, h2⟩ := R.at_ k _ a hS ha
      refine ⟨a, vs, rfl, ⟨fun q => ?_, fun q => R.sep a q (List.mem_of_getElem? ha)⟩, h1, fzs_ok (fun k d v hk e h => fzR_ok R m k d v hk e h) e1 h2⟩
      obtain ⟨j, hj, ej⟩ := List.mem_iff_getElem.mp (show a ∈ μ.ad.take n from q)
      rw [List.getElem_take] at ej
      have hj2 : j < n := by rw [List.length_take] at hj; omega
      have hk2 := (List.getElem?_eq_some_iff.mp ha)
      obtain ⟨hk3, ek⟩ := hk2
      exact List.pairwise_iff_getElem.mp R.nd j k (by rw [List.length_take] at hj; omega) hk3 (by omega) (ej.trans ek.symm)
    · cases e
theorem gc_ok {d0 d : D} {Q : VK} (R : Rl K μ H S) (e : gc S d0 S2 = some (d, S')) (q : Pst K μ H S' d Q) : Pst K μ H S2 d0 Q := by
  unfold gc at e
  split at e
  · cases e; exact q
  split at e
  · cases e; exact q
  split at e
  · rename_i h1 h2 hg
    obtain ⟨x, e1, e2⟩ := mapS e
    cases e2
    intro v H' μ' E' R' r
    obtain ⟨ν, en, nn⟩ := E'.pre
    have hcut : (μ'.cut S.length).ad = μ.ad := by
      show μ'.ad.take S.length = μ.ad
      rw [en, ← R.len, List.take_left]
    refine q v H' (μ'.cut S.length) ⟨E'.hid, ⟨[], by rw [hcut]; simp, fun _ h => nomatch h⟩, E'.keep, E'.live, E'.kp⟩ ?_ (fz_ok (fun k d v hk e h => fzR_ok R' 4 k d v hk e h) e1 r)
    refine ⟨by rw [hcut, R.len, List.length_take]; omega, by rw [hcut]; exact R.nd, fun k mo a hk ha => ?_, R'.hid, fun a ha hq => R'.sep a ha (List.mem_of_mem_take hq)⟩
    rw [List.getElem?_take] at hk
    split at hk
    · rename_i hl
      have ha' : μ'.ad[k]? = some a := by
        have : (μ'.ad.take S.length)[k]? = some a := ha
        rw [List.getElem?_take, if_pos hl] at this
        exact this
      have M := R'.at_ k mo a hk ha'
      have hb : belowDs S.length mo.xs = true := by
        rcases hg k hl with h | ⟨mo', h, hb⟩
        · rw [hk] at h
          obtain ⟨a2, _, M2⟩ := R.get h.symm
          cases mo with
          | lst kp xs =>
            obtain ⟨vs, _, r2⟩ := M2
            have := Reps.below r2
            rw [R.len] at this
            exact this
          | dct kp ks xs =>
            obtain ⟨vs, _, _, r2⟩ := M2
            have := Reps.below r2
            rw [R.len] at this
            exact this
        · rw [hk] at h; cases h; exact hb
      cases mo with
      | lst kp xs =>
        obtain ⟨vs, h3, r2⟩ := M
        exact ⟨vs, h3, Reps.cut hb r2⟩
      | dct kp ks xs =>
        obtain ⟨vs, h3, h4, r2⟩ := M
        exact ⟨vs, h3, h4, Reps.cut hb r2⟩
    · cases hk
  · cases e
end
end Dn

set_option maxHeartbeats 4000000
namespace Dn
open PySem PySem.Spec PyProof.Rows L2
/-! ### a program: its defs -/
structure Dfn where
  nm : Str
  fc : Fn
  st : Stmt
abbrev Dfn.fd (d : Dfn) (kV doc pm : Value) (an : Option Addr) (cdv ct : Value) : FuncData := PySem.W.fnOf d.nm d.nm (defArgs d.st) (defBody d.st) (defScope d.st) .none kV doc pm an cdv ct
/-- its parameters, one behind another -/
def Dfn.Bn (d : Dfn) : Prop := ∀ (kV doc pm : Value) (an : Option Addr) (cdv ct : Value) (us : List Value), us.length = d.fc.ps.length → bindArgs (d.fd kV doc pm an cdv ct) ⟨us, []⟩ = pure (d.fc.ps.zip us)
/-- a call with keywords -/
def kwPl (ps : List Str) (n : Nat) (ks : List Str) : List Nat := (List.range ps.length).map fun i => if i < n then i else n + ks.idxOf (ps.getD i Str.empty)
def Dfn.BnK (d : Dfn) (n : Nat) (ks : List Str) : Prop := ∀ (kV doc pm : Value) (an : Option Addr) (cdv ct : Value) (us ws : List Value), us.length = n → ws.length = ks.length →
  bindArgs (d.fd kV doc pm an cdv ct) ⟨us, ks.zip ws⟩ = pure (d.fc.ps.zip (pickV (us ++ ws) (kwPl d.fc.ps n ks)))
def scB (N ps : List Str) (sc : Scope) : Bool := decide (sc.kind = .function) && !sc.isCoroutine && !sc.isGenerator && decide N.Nodup && decide (N.take ps.length = ps) &&
  (ps.all fun x => decide (sc.names.lookup x = some .local) || decide (sc.names.lookup x = some .cell)) && sc.names.all fun y => !decide (y.2 = .free)
theorem scB_ok {N ps : List Str} {sc : Scope} (h : scB N ps sc = true) : FnScope N ps sc := by
  unfold scB at h
  simp only [Bool.and_eq_true, decide_eq_true_eq, Bool.not_eq_true', List.all_eq_true, Bool.or_eq_true, decide_eq_false_iff_not] at h
  obtain ⟨⟨⟨⟨⟨⟨h1, h2⟩, h3⟩, h4⟩, h5⟩, h6⟩, h7⟩ := h
  exact ⟨h1, h2, h3, h4, h5, h6, h7⟩
/-- an own exception class: its name, the field that its __init__ keeps, its text -/
structure Xcl where
  cn : Str
  fo : Option Str
  st : Stmt
def clsBody : Stmt → List Stmt
  | .ClassDef _ _ _ b _ _ _ _ _ _ _ => b
  | _ => []
def Xcl.ini (x : Xcl) : Stmt := (clsBody x.st).getD 0 (.Pass ⟨0, 0, 0, 0⟩)
def Xcl.qual (x : Xcl) : Str := x.cn ++ (".__init__" : Str)
abbrev Xcl.fd (x : Xcl) (kV doc pm : Value) (an : Option Addr) (cdv ct : Value) : FuncData := PySem.W.fnOf "__init__" x.qual (defArgs x.ini) (defBody x.ini) (defScope x.ini) .none kV doc pm an cdv ct
def Xcl.Bn (x : Xcl) (f : Str) : Prop := ∀ (kV doc pm : Value) (an : Option Addr) (cdv ct : Value) (a u : Value),
  bindArgs (x.fd kV doc pm an cdv ct) ⟨[a, u], []⟩ = pure [(("self" : Str), a), (f, u)] ∧ bindArgs (x.fd kV doc pm an cdv ct) ⟨[a], [(f, u)]⟩ = pure [(("self" : Str), a), (f, u)]
def iniB (f : Str) (st : Stmt) : Bool := match defBody st with
  | [.Assign [.Attribute (.Name s _) g _] (.Name h _) _] => decide (s = ("self" : Str)) && decide (g = f) && decide (h = f) && scB ["self", f] ["self", f] (defScope st) && visB (defScope st) "self" && visB (defScope st) f && nmB "self" && nmB f
  | _ => false
theorem iniB_ok {f : Str} {st : Stmt} (h : iniB f st = true) : ∃ p1 p2 p3 p4, defBody st = [.Assign [.Attribute (.Name "self" p1) f p2] (.Name f p3) p4] ∧ FnScope ["self", f] ["self", f] (defScope st) ∧ visB (defScope st) "self" = true ∧ visB (defScope st) f = true ∧ nmB "self" = true ∧ nmB f = true := by
  unfold iniB at h
  split at h
  · rename_i s p1 g p2 z p3 p4 e
    simp only [Bool.and_eq_true, decide_eq_true_eq] at h
    obtain ⟨⟨⟨⟨⟨⟨⟨rfl, rfl⟩, rfl⟩, h4⟩, h5⟩, h6⟩, h7⟩, h8⟩ := h
    exact ⟨p1, p2, p3, p4, e, scB_ok h4, h5, h6, h7, h8⟩
  · cases h
def Xcl.ok (x : Xcl) : Bool := match x.fo with
  | some f => iniB f x.ini
  | none => true
/-- what all defs share -/
structure Mk where
  free : List Str
  bf : List (Str × String)
  fns : List Str
  kwl : List (Str × Nat × List Str)
  dn : List Str
  dd : List (Str × List (Str × Int))
  /-- own exception classes -/
  xs : List Xcl := []
  isx : List (Str × List Str) := []
def Mk.cls (m : Mk) : List (Str × Option Str) := m.xs.map fun x => (x.cn, x.fo)
def Mk.kt (m : Mk) (d : Dfn) : Kt := ⟨d.fc.N, defScope d.st, fun _ => true, m.free, m.bf, m.fns, m.kwl, m.dn, m.dd, m.cls, m.isx⟩
def ckD (m : Mk) (d : Dfn) : Bool := scB d.fc.N d.fc.ps (defScope d.st) && ckSs d.fc.body (m.kt d) (defBody d.st)
def tabOf (ds : List Dfn) : List (Str × Fn) := ds.map fun d => (d.nm, d.fc)
theorem tab_get : ∀ {ds : List Dfn} {d : Dfn}, (ds.map Dfn.nm).Nodup → d ∈ ds → (tabOf ds).lookup d.nm = some d.fc
  | [], d, _, h => by cases h
  | e :: ds, d, hn, h => by
    have hn' := List.nodup_cons.mp (show (e.nm :: ds.map Dfn.nm).Nodup from hn)
    show ((e.nm, e.fc) :: tabOf ds).lookup d.nm = some d.fc
    rcases List.mem_cons.mp h with rfl | h
    · simp [List.lookup]
    · have ne : (d.nm == e.nm) = false := by
        rw [beq_eq_false_iff_ne]
        intro q
        exact hn'.1 (by rw [← q]; exact List.mem_map.mpr ⟨d, h, rfl⟩)
      rw [List.lookup_cons, ne]
      exact tab_get hn'.2 h
structure PrOk (w : World) (K : PySem.W.Frag) (mg : Str → Option Value) (ds : List Dfn) (tb : List (Str × D)) (m : Mk) : Prop where
  nd : (ds.map Dfn.nm).Nodup
  ck : ∀ d ∈ ds, ckD m d = true
  fn : ∀ d ∈ ds, ∃ f fd, mg d.nm = some (.ref f) ∧ FunD K d.nm d.nm (defArgs d.st) (defBody d.st) (defScope d.st) [] [] f fd
  bn : ∀ d ∈ ds, d.Bn
  bk : ∀ p ∈ m.kwl, ∀ d ∈ ds, d.nm = p.1 → d.BnK p.2.1 p.2.2
  fns : ∀ x ∈ m.fns, ∃ d ∈ ds, d.nm = x
  data : ∀ x d, tb.lookup x = some d → ∃ u v, mg x = some u ∧ RelV v u ∧ ∀ μ H, Rep K μ H d v
  dn : ∀ x ∈ m.dn, (tb.lookup x).isSome = true
  free : ∀ x ∈ m.free, mg x = none
  bf : ∀ x id, m.bf.lookup x = some id → mg x = some (.builtin id)
  dd : ∀ x kvs, m.dd.lookup x = some kvs → ∃ a, mg x = some (.ref a) ∧ Kdi K w a kvs
  sys : ∃ o, K.lookup sysModules = some o ∧ o.cls = .type "dict"
  xs : ∀ x ∈ m.xs, ∃ c, ClsAt K x.cn c ∧ mg x.cn = some (.ref c) ∧ OexC K c ∧ ExcC K c ∧ XfC K c ∧
    (∀ f, x.fo = some f → PySem.W.findIn K (.ref c) f = some none ∧ iniB f x.ini = true ∧ x.Bn f ∧ ∃ fI fd, PySem.W.findIn K (.ref c) "__init__" = some (some (.ref fI)) ∧ PySem.W.typeIn K (.ref fI) = some (.type "function") ∧
      FunD K "__init__" x.qual (defArgs x.ini) (defBody x.ini) (defScope x.ini) [] [] fI fd) ∧ (x.fo = none → PySem.W.excIn K c veBase "ValueError.__new__" = true)
  isx : ∀ T cs, m.isx.lookup T = some cs → ∃ (tc : V) (tv : Value), (∀ u, RelV tc u → u = tv) ∧ ((mg T = some tv ∧ RelV tc tv) ∨ (mg T = none ∧ ∃ Ts : String, bootBuiltins T = some (.type Ts) ∧ tc = .ty Ts ∧ tv = .type Ts)) ∧
    ∀ cn fo c, m.cls.lookup cn = some fo → ClsAt K cn c → PySem.W.kitOne K (.ref c) tv = some (cs.contains cn)
theorem lookup_memD {α : Type} {x : Str} {d : α} : ∀ {l : List (Str × α)}, l.lookup x = some d → (x, d) ∈ l
  | [], h => by cases h
  | (y, e) :: l, h => by
    rw [List.lookup_cons] at h
    split at h
    · rename_i q
      cases h
      rw [eq_of_beq q]
      exact List.mem_cons_self ..
    · exact List.mem_cons_of_mem _ (lookup_memD h)
theorem rep_start {K : PySem.W.Frag} {μ : Mu} {H : Hp} {N : List Str} {ds : List D} {vs : List V} (h : Reps K μ H ds vs) : RepEnv K μ H (start N vs) (startD N.length ds) := by
  have hl := h.length
  refine ⟨?_, fun i d e => ?_⟩
  · unfold L2.start startD
    simp only [List.length_append, List.length_map, List.length_replicate]
    omega
  · unfold startD at e
    unfold L2.start
    by_cases hi : i < ds.length
    · rw [List.getElem?_append_left (by rw [List.length_map]; exact hi), List.getElem?_map] at e
      cases e2 : ds[i]? with
      | none => rw [e2] at e; cases e
      | some d' =>
        rw [e2] at e
        cases e
        obtain ⟨v, e3, r⟩ := h.get e2
        exact ⟨v, by rw [List.getElem?_append_left (by rw [List.length_map, ← hl]; exact hi), List.getElem?_map, e3]; rfl, r⟩
    · rw [List.getElem?_append_right (by rw [List.length_map]; omega)] at e
      have := List.mem_of_getElem? e
      rw [List.mem_replicate] at this
      cases this.2
theorem kwOf_get {Pt : List (Str × Fn)} {f : Str} {n : Nat} {ks : List Str} {pl : List Nat} {fc : Fn} (hf : Pt.lookup f = some fc) (h : kwOf Pt f n ks = some pl) : pl = kwPl fc.ps n ks := by
  unfold kwOf at h
  rw [hf] at h
  simp only [Option.bind_some] at h
  split at h
  · cases h; rfl
  · cases h
theorem prog_ok {P : Program} {w : World} {K : PySem.W.Frag} {mg : Str → Option Value} {base : Heap} {ds : List Dfn} {tb : List (Str × D)} {m : Mk} (O : PrOk w K mg ds tb m) :
    ∀ (n : Nat) (d : Dfn) (f : Addr) (fd : FuncData), d ∈ ds → mg d.nm = some (.ref f) → FunD K d.nm d.nm (defArgs d.st) (defBody d.st) (defScope d.st) [] [] f fd →
      FnG P w K mg base (n + 2) f fd d.fc.ps (spEv K (geN tb (tabOf ds) n) d.nm)
  | 0, d, f, fd, hd, hm, F => ⟨fun vs H Q ⟨μ, S, as, x, S', R, p, e, q⟩ => (by cases e), fun A outer s H args us vs Q r g e0 b v ⟨μ, S, as, x, S', R, p, e, q⟩ => (by cases e)⟩
  | n + 1, d, f, fd, hd, hm, F => by
    have hl := tab_get O.nd hd
    have hc := O.ck d hd
    unfold ckD at hc
    rw [Bool.and_eq_true] at hc
    have S := scB_ok hc.1
    obtain ⟨oc, od, dV, kV, doc, pm, an, cdv, ct, osl, rfl, lk, hcd, _, _⟩ := F.ex
    have un : ∀ {vs : List V} {H : Hp} {Q : VK}, spEv K (geN tb (tabOf ds) (n + 1)) d.nm vs H Q → ∃ μ S as, Rl K μ H S ∧ Reps K μ H as vs ∧ as.length = d.fc.ps.length ∧ ∃ fl S2, exSs (geN tb (tabOf ds) n) d.fc.body (startD d.fc.N.length as) S = some (fl, S2) ∧
        Fk K μ H S2 { nx := fun _ H' => Q .non H', rt := Q } fl := by
      rintro vs H Q ⟨μ, S, as, x, S', R, p, e, q⟩
      replace e : callN tb (tabOf ds) (n + 1) d.nm as S = some (x, S') := e
      unfold callN at e
      rw [hl] at e
      simp only [Option.bind_some] at e
      split at e
      · rename_i hlen
        obtain ⟨⟨fl, S2⟩, e1, e2⟩ := bindS e
        refine ⟨μ, S, as, R, p, hlen, fl, S2, e1, ?_⟩
        cases fl with
        | rt d0 => exact gc_ok R e2 q
        | nx δ => exact fun σ' H' μ' E' R' N' => gc_ok R e2 q .non H' μ' E' R' mk_non
        | bk δ => cases e2
        | ct δ => cases e2
      · cases e
    refine fnG_of lk hcd S (fun vs H Q h => ?_) fun A outer s H vs Q hr hg h => ?_
    · obtain ⟨μ, S, as, R, p, hlen, _⟩ := un h
      rw [← p.length, hlen]
    · obtain ⟨μ, S0, as, R, p, hlen, fl, S2, e1, q⟩ := un h
      refine ⟨_, PSs.nox (okSs d.fc.body (X := (cxOf CX0 P w K mg base d.fc.N d.nm (defScope d.st) f cdv A outer s H E0).nox) (k := ⟨m.kt d, geN tb (tabOf ds) n⟩) ?_ rfl hc.2), μ, _, S0, fl, S2, rep_start p, R, e1, q⟩
      refine ⟨rfl, rfl, S.nd, rfl, ?_, hg, fun _ _ => rfl, O.data, O.dn, O.free, O.bf, fun x hx => ?_, O.dd, O.sys, hr.mono (Nat.le_add_left 2 n), fun cn fo hc => ?_, O.isx⟩
      · have := hr.un
        show (A.deeper (envOfC d.nm (defScope d.st) s.heap.objs.size f cdv)).units + 66 < cLine
        omega
      · obtain ⟨d', hd', rfl⟩ := O.fns x hx
        obtain ⟨f', fd', hm', F'⟩ := O.fn d' hd'
        refine ⟨f', fd', d'.fc.ps, n + 2, hm', F'.kp, F'.bindsN (O.bn d' hd'), prog_ok O n d' f' fd' hd' hm' F', hr, fun j ks pl hkl hpl => ?_⟩
        have e := kwOf_get (tab_get O.nd hd') hpl
        subst e
        refine ⟨by unfold kwPl; simp, fun s us ws h1 h2 => ?_⟩
        obtain ⟨oc, od, dV, kV, doc, pm, an, cdv, ct, osl, rfl, lk, hcd, hD, hK⟩ := F'.ex
        rcases hD with ⟨_, rfl⟩ | ⟨e, _⟩
        · exact .of_eq (O.bk _ hkl d' hd' rfl kV doc pm an cdv ct us ws h1 h2)
        · exact absurd rfl e
      · obtain ⟨x, hx, e⟩ := List.mem_map.mp (lookup_memD hc)
        cases e
        obtain ⟨c, h1, h2, h3, h4, h5, h6, h7⟩ := O.xs x hx
        refine ⟨c, h1, h2, h3, h4, h5, fun f ef => ?_, h7⟩
        obtain ⟨g1, g2, g3, fI, fd2, g4, g5, g6⟩ := h6 f ef
        obtain ⟨oc, od, dV, kV, doc, pm, an, cdv, ct, osl, rfl, lk, hcd, hD, hK⟩ := g6.ex
        obtain ⟨p1, p2, p3, p4, eb, S2, v1, v2, n1, n2⟩ := iniB_ok g2
        rcases hD with ⟨_, rfl⟩ | ⟨e, _⟩
        · refine ⟨g1, fI, _, "self", g4, g5, ?_, fun s a u => .of_eq (g3 kV doc pm an cdv ct a u).1, fun s a u => .of_eq (g3 kV doc pm an cdv ct a u).2⟩
          show FnG P w K mg base 1 fI (PySem.W.fnOf "__init__" x.qual (defArgs x.ini) (defBody x.ini) (defScope x.ini) .none kV doc pm an cdv ct) ["self", f] (spIn K f)
          rw [eb] at lk ⊢
          exact init_fn (k := 0) lk hcd S2 v1 v2 n1 n2
        · exact absurd rfl e
/-! ### the module's data -/
mutual
def datB (K : PySem.W.Frag) : D → Value → Bool
  | .tup xs, u => match u with
    | .ref a => match K.lookup a with
      | some ⟨.type c, _, .seq its _, _⟩ => decide (c = "tuple") && decide (its.size ≤ sizeLine) && datsB K xs its.toList
      | _ => false
    | _ => false
  | .scr xs, u => match u with
    | .ref a => match K.lookup a with
      | some ⟨.type c, none, .seq its _, _⟩ => decide (c = "list") && decide (its.size ≤ sizeLine) && datsB K xs its.toList
      | _ => false
    | _ => false
  | .lst _, _ => false
  | .dic _ _, _ => false
  | .ref _, _ => false
  | .rfd _, _ => false
  | .ntup _, _ => false
  | .exc _ _ _, _ => false
  | .non, u => He.relB .non u
  | .bl b, u => He.relB (.bl b) u
  | .int i, u => He.relB (.int i) u
  | .str x, u => He.relB (.str x) u
def datsB (K : PySem.W.Frag) : List D → List Value → Bool
  | [], us => us.isEmpty
  | d :: ds, us => match us with
    | u :: r => datB K d u && datsB K ds r
    | [] => false
end
mutual
theorem dat_ok {K : PySem.W.Frag} : ∀ {d : D} {u : Value}, datB K d u = true → ∃ v, RelV v u ∧ ∀ μ H, Rep K μ H d v
  | .tup xs, u, h => by
    simp only [datB] at h
    split at h
    · split at h
      · rename_i a _ c od its n osl hl
        simp only [Bool.and_eq_true, decide_eq_true_eq] at h
        obtain ⟨⟨rfl, h2⟩, h3⟩ := h
        obtain ⟨vs, r, p⟩ := dats_ok h3
        refine ⟨.ref a, rfl, fun μ H => ?_⟩
        simp only [Rep]
        exact ⟨a, vs, rfl, .inr ⟨_, its, n, hl, rfl, rfl, h2, r⟩, p μ H⟩
      · cases h
    · cases h
  | .scr xs, u, h => by
    simp only [datB] at h
    split at h
    · split at h
      · rename_i a _ c its n osl hl
        simp only [Bool.and_eq_true, decide_eq_true_eq] at h
        obtain ⟨⟨rfl, h2⟩, h3⟩ := h
        obtain ⟨vs, r, p⟩ := dats_ok h3
        refine ⟨.ref a, rfl, fun μ H => ?_⟩
        simp only [Rep]
        exact ⟨a, vs, rfl, .inr ⟨_, its, n, hl, rfl, rfl, rfl, h2, r⟩, p μ H⟩
      · cases h
    · cases h
  | .lst _, u, h => by simp only [datB] at h; cases h
  | .dic _ _, u, h => by simp only [datB] at h; cases h
  | .ref _, u, h => by simp only [datB] at h; cases h
  | .rfd _, u, h => by simp only [datB] at h; cases h
  | .ntup _, u, h => by simp only [datB] at h; cases h
  | .exc _ _ _, u, h => by simp only [datB] at h; cases h
  | .non, u, h => by simp only [datB] at h; exact ⟨_, He.relB_ok h, fun μ H => mk_non⟩
  | .bl b, u, h => by simp only [datB] at h; exact ⟨_, He.relB_ok h, fun μ H => mk_bl⟩
  | .int i, u, h => by simp only [datB] at h; exact ⟨_, He.relB_ok h, fun μ H => mk_int⟩
  | .str x, u, h => by simp only [datB] at h; exact ⟨_, He.relB_ok h, fun μ H => mk_str⟩
theorem dats_ok {K : PySem.W.Frag} : ∀ {ds : List D} {us : List Value}, datsB K ds us = true → ∃ vs, Vals vs us ∧ ∀ μ H, Reps K μ H ds vs
  | [], us, h => by
    simp only [datsB, List.isEmpty_iff] at h
    subst h
    exact ⟨[], .nil, fun μ H => Reps.nil⟩
  | d :: ds, us, h => by
    cases us with
    | nil => simp only [datsB] at h; cases h
    | cons u us =>
      simp only [datsB, Bool.and_eq_true] at h
      obtain ⟨v, r, p⟩ := dat_ok h.1
      obtain ⟨vs, rs, ps⟩ := dats_ok h.2
      exact ⟨v :: vs, .cons r rs, fun μ H => Reps.cons (p μ H) (ps μ H)⟩
end
/-! ### the facts by the Hook -/
def Dfn.at_ (d : Dfn) : He.DefD := ⟨(d.nm, none), d.nm, d.nm, defArgs d.st, defBody d.st, defScope d.st, [], []⟩
def gloIs (K : PySem.W.Frag) (x : Str) (t : Value → Bool) : Bool := match PySem.W.nsIn K mainGlobals x with
  | some (some u) => t u
  | _ => false
def bltIs (id : String) : Value → Bool
  | .builtin i => decide (i = id)
  | _ => false
def kdB (K : PySem.W.Frag) (x : Str) (kvs : List (Str × Int)) : Bool := match PySem.W.nsIn K mainGlobals x with
  | some (some (.ref a)) => kvs.all fun q => match PySem.W.nsIn K a q.1 with
    | some (some u) => He.relB (.int q.2) u
    | _ => false
  | _ => false
def dadr (K : PySem.W.Frag) (x : Str) : Addr := match PySem.W.nsIn K mainGlobals x with
  | some (some (.ref a)) => a
  | _ => 0
def sysB (K : PySem.W.Frag) : Bool := match K.lookup sysModules with
  | some o => decide (o.cls = .type "dict")
  | none => false
def oexB (K : PySem.W.Frag) (C : Addr) : Bool := (match K.lookup C with
  | some ⟨.type "type", _, .cls cd, sl⟩ => (match cd.mro, sl.toList with
    | .ref C' :: bm, [_, _, _, _, some (.builtin n), _] => C' == C && n == "ValueError.__new__" && !cd.hasDel && cd.hasDict && PySem.HandSPX.refsVE bm
    | _, _ => false)
  | _ => false) && (decide (PySem.W.findIn K (.ref C) "__setattr__" = some (some (.builtin "object.__setattr__"))) && (decide (PySem.W.typeIn K (.ref C) = some (.type "type")) && PySem.W.keepIn K (.ref C)))
theorem oexB_ok {K : PySem.W.Frag} {C : Addr} (h : oexB K C = true) (hs : PySem.W.subIn K (.ref C) (.type "BaseException") = some true) : OexC K C := by
  unfold oexB at h
  obtain ⟨q, h⟩ := Bool.and_eq_true_iff.mp h
  obtain ⟨h2, h⟩ := Bool.and_eq_true_iff.mp h
  obtain ⟨h3, h4⟩ := Bool.and_eq_true_iff.mp h
  refine ⟨?_, of_decide_eq_true h2, hs, of_decide_eq_true h3, h4⟩
  split at q
  · rename_i dd cd sl ho
    split at q
    · rename_i C' bm k0 k1 k2 k3 n k5 hm hs
      simp only [Bool.and_eq_true, beq_iff_eq, Bool.not_eq_true'] at q
      obtain ⟨⟨⟨⟨rfl, rfl⟩, hdel⟩, hdict⟩, ht⟩ := q
      obtain ⟨nm, bs, mro, ns, qn, hd, sn, sub, ab, col, del⟩ := cd
      dsimp only at hm hdel hdict
      subst hm hdel hdict
      have hsl : sl = #[k0, k1, k2, k3, some (.builtin "ValueError.__new__"), k5] := by
        obtain ⟨l⟩ := sl
        simp only at hs
        rw [hs]
      subst hsl
      exact ⟨nm, qn, ns, bs, bm, sn, sub, ab, col, dd, k0, k1, k2, k3, k5, ho, ht⟩
    · cases q
  · cases q
def excB (K : PySem.W.Frag) (D : Addr) : Bool := decide (PySem.W.findIn K (.ref D) "__getattribute__" = some (some (.builtin "BaseException.__getattribute__"))) && (decide (PySem.W.findIn K (.ref D) "__getattr__" = some none) && (decide (PySem.W.subIn K (.ref D) (.type "BaseException") = some true) &&
  (PySem.W.hasDictIn K D && (decide (PySem.W.findIn K (.ref D) "__class__" = some (some (.builtin "object.__class__"))) && (decide (PySem.W.specialIn K (.builtin "object.__class__") "__get__" = some (some (.builtin "getset_descriptor.__get__"))) &&
  (decide (PySem.W.takesIn K (.builtin "object.__class__") = some true) && decide (PySem.W.mroIn K D (.type "object") = some true)))))))
theorem excB_ok {K : PySem.W.Frag} {D : Addr} (h : excB K D = true) : ExcC K D := by
  unfold excB at h
  obtain ⟨h1, h⟩ := Bool.and_eq_true_iff.mp h
  obtain ⟨h2, h⟩ := Bool.and_eq_true_iff.mp h
  obtain ⟨h3, h⟩ := Bool.and_eq_true_iff.mp h
  obtain ⟨h4, h⟩ := Bool.and_eq_true_iff.mp h
  obtain ⟨h5, h⟩ := Bool.and_eq_true_iff.mp h
  obtain ⟨h6, h⟩ := Bool.and_eq_true_iff.mp h
  obtain ⟨h7, h8⟩ := Bool.and_eq_true_iff.mp h
  exact ⟨of_decide_eq_true h1, of_decide_eq_true h2, of_decide_eq_true h3, h4, of_decide_eq_true h5, of_decide_eq_true h6, of_decide_eq_true h7, of_decide_eq_true h8⟩
def Xcl.at_ (x : Xcl) : He.DefD := ⟨(x.cn, some "__init__"), "__init__", x.qual, defArgs x.ini, defBody x.ini, defScope x.ini, [], []⟩
def clsB (K : PySem.W.Frag) (x : Xcl) : Bool := (He.Fa.glo x.cn).ok K && (oexB K (He.ga K x.cn) && (excB K (He.ga K x.cn) && (L2.xfB K (He.ga K x.cn) && (match x.fo with
  | some f => decide (PySem.W.findIn K (.ref (He.ga K x.cn)) f = some none) && (decide (PySem.W.findIn K (.ref (He.ga K x.cn)) "__init__" = some (some (.ref (He.ma K (He.ga K x.cn) "__init__")))) && decide (PySem.W.typeIn K (.ref (He.ma K (He.ga K x.cn) "__init__")) = some (.type "function")))
  | none => PySem.W.excIn K (He.ga K x.cn) veBase "ValueError.__new__"))))
/-- the class that a name of an isinstance tells -/
def tvIn (K : PySem.W.Frag) (T : Str) : Option Value := match PySem.W.nsIn K mainGlobals T with
  | some (some (.ref a)) => some (.ref a)
  | some none => (match bootBuiltins T with
    | some (.type Ts) => some (.type Ts)
    | _ => none)
  | _ => none
def isxB (K : PySem.W.Frag) (cls : List (Str × Option Str)) (T : Str) (cs : List Str) : Bool := match tvIn K T with
  | some tv => cls.all fun q => decide (PySem.W.kitOne K (.ref (He.ga K q.1)) tv = some (cs.contains q.1))
  | none => false
theorem ga_at {K : PySem.W.Frag} {x : Str} {c : Addr} (h : ClsAt K x c) : He.ga K x = c := by
  unfold ClsAt at h
  unfold He.ga
  rw [h]
theorem isxB_ok {K : PySem.W.Frag} {h : Heap} {mg : Str → Option Value} (X : K.In h) (G : h.Ns mainGlobals mg) {cls : List (Str × Option Str)} {T : Str} {cs : List Str} (c : isxB K cls T cs = true) :
    ∃ (tc : V) (tv : Value), (∀ u, RelV tc u → u = tv) ∧ ((mg T = some tv ∧ RelV tc tv) ∨ (mg T = none ∧ ∃ Ts : String, bootBuiltins T = some (.type Ts) ∧ tc = .ty Ts ∧ tv = .type Ts)) ∧
    ∀ cn fo c, cls.lookup cn = some fo → ClsAt K cn c → PySem.W.kitOne K (.ref c) tv = some (cs.contains cn) := by
  unfold isxB at c
  split at c
  · rename_i tv e
    have fin : ∀ cn fo c, cls.lookup cn = some fo → ClsAt K cn c → PySem.W.kitOne K (.ref c) tv = some (cs.contains cn) := fun cn fo c0 hl hc => by
      have := of_decide_eq_true (List.all_eq_true.mp c _ (lookup_memD hl))
      rw [← ga_at hc]
      exact this
    unfold tvIn at e
    split at e
    · rename_i a hn
      cases e
      exact ⟨.ref a, _, fun u r => r, .inl ⟨PySem.W.mg_of X G hn, rfl⟩, fin⟩
    · rename_i hn
      split at e
      · rename_i Ts hb
        cases e
        exact ⟨.ty Ts, _, fun u r => r, .inr ⟨PySem.W.mg_none_of X G hn, Ts, hb, rfl, rfl⟩, fin⟩
      · cases e
    · cases e
  · cases c
/-- the defs, the classes' __init__s -/
def dfs (ds : List Dfn) (m : Mk) : List He.DefD := ds.map Dfn.at_ ++ (m.xs.filter (·.fo.isSome)).map Xcl.at_
def exB (ds : List Dfn) (tb : List (Str × D)) (m : Mk) (K : PySem.W.Frag) : Bool :=
  (ds.all fun d => (He.Fa.glo d.nm).ok K) && (m.free.all fun x => (He.Fa.free x).ok K) && (tb.all fun p => gloIs K p.1 (datB K p.2)) && (m.bf.all fun p => gloIs K p.1 (bltIs p.2)) && (m.dd.all fun p => kdB K p.1 p.2) && sysB K && (m.xs.all fun x => clsB K x) && m.isx.all fun p => isxB K m.cls p.1 p.2
abbrev AlN : Type := He.AlD × List (Option (List (Option (Str × Int))))
def obsN (ds : List Dfn) (tb : List (Str × D)) (m : Mk) (K : PySem.W.Frag) : AlN := ((exB ds tb m K && (dfs ds m).all fun d => d.ok K, (dfs ds m).map fun d => He.fnW K d.at_), m.dd.map fun p => He.dicW K (dadr K p.1))
def valN (ds : List Dfn) (m : Mk) (w : World) : AlN := ((true, (dfs ds m).map fun d => d.val), m.dd.map fun p => some (He.keysIn w.params (p.2.map (·.1))))
def obsNG (n : Nat) (ds : List Dfn) (tb : List (Str × D)) (m : Mk) (g : Addr → Option Obj) : AlN := obsN ds tb m (He.frG g (He.asD g n ++ [sysModules]))
def hookN (n : Nat) (ds : List Dfn) (tb : List (Str × D)) (m : Mk) : PySem.W.Hook where
  α := AlN
  obs s := obsNG n ds tb m s.heap.get?
  val w := valN ds m w
  says w h := ∃ F : PySem.W.Frag, F.In h ∧ obsN ds tb m F = valN ds m w
  of _ _ e := ⟨_, He.frG_in, e⟩
  keeps _ _ _ := fun ⟨F, hF, c⟩ k => ⟨F, PySem.W.Frag.In.keeps hF k, c⟩
theorem obsNG_eq {n : Nat} {ds : List Dfn} {tb : List (Str × D)} {m : Mk} {g : Addr → Option Obj} {s : Shared} (h : ∀ a, g a = s.heap.get? a) : obsNG n ds tb m g = (hookN n ds tb m).obs s := by
  rw [show g = s.heap.get? from funext h]; rfl
theorem gloIs_ok {K : PySem.W.Frag} {h : Heap} {mg : Str → Option Value} (X : K.In h) (G : h.Ns mainGlobals mg) {x : Str} {t : Value → Bool} (c : gloIs K x t = true) : ∃ u, mg x = some u ∧ t u = true := by
  unfold gloIs at c
  split at c
  · rename_i u e
    exact ⟨u, PySem.W.mg_of X G e, c⟩
  · cases c
theorem lookup_no {α : Type} {z : Str} : ∀ {l : List (Str × α)}, l.lookup z = none → z ∉ l.map (·.1)
  | [], _ => by simp
  | (y, e) :: l, h => by
    rw [List.lookup_cons] at h
    split at h
    · cases h
    · rename_i q
      rw [List.map_cons, List.mem_cons]
      rintro (c | c)
      · rw [c, beq_self_eq_true] at q; cases q
      · exact lookup_no h c
theorem nsIn_none {K : PySem.W.Frag} {a : Addr} {es : Array DictEntry} {n : Nat} {P : Params} {ks : List Str} {z : Str} (hl : K.lookup a = some ⟨.type "dict", none, .dict es n, #[]⟩) (hk : es.toList.map He.keyOf = He.keysIn P ks) (hz : z ∉ ks) : PySem.W.nsIn K a z = some none := by
  have ek : ∀ e ∈ es.toList, ∃ x t, e.key = .str x t ∧ x ∈ ks := fun e he => by
    have h1 : He.keyOf e ∈ He.keysIn P ks := by rw [← hk]; exact List.mem_map.mpr ⟨e, he, rfl⟩
    obtain ⟨y, hy, e1⟩ := List.mem_map.mp h1
    unfold He.keyOf at e1
    split at e1
    · rename_i x t q
      have e2 := Option.some.inj e1
      have e3 : y = x := (Prod.mk.inj e2).1
      exact ⟨x, t, q, by rw [← e3]; exact hy⟩
    · cases e1
  unfold PySem.W.nsIn
  rw [hl]
  dsimp only
  have h1 : es.toList.find? (·.key.isStr z) = none := by
    rw [List.find?_eq_none]
    intro e he
    obtain ⟨x, t, q, hx⟩ := ek e he
    rw [q]
    intro c
    have c2 : x = z := eq_of_beq c
    exact hz (by rw [← c2]; exact hx)
  have h2 : es.toList.any (·.refKey) = false := by
    rw [List.any_eq_false]
    intro e he
    obtain ⟨x, t, q, hx⟩ := ek e he
    unfold DictEntry.refKey
    rw [q]
    simp
  rw [h1, h2]
  rfl
theorem prOk_of {w : World} {K : PySem.W.Frag} {h : Heap} {mg : Str → Option Value} {ds : List Dfn} {tb : List (Str × D)} {m : Mk} (X : K.In h) (G : h.Ns mainGlobals mg) (c : obsN ds tb m K = valN ds m w) (nd : (ds.map Dfn.nm).Nodup) (ck : ∀ d ∈ ds, ckD m d = true)
    (bn : ∀ d ∈ ds, d.Bn) (bk : ∀ p ∈ m.kwl, ∀ d ∈ ds, d.nm = p.1 → d.BnK p.2.1 p.2.2) (fns : m.fns.all (fun x => ds.any fun d => decide (d.nm = x)) = true) (dn : m.dn.all (fun x => (tb.lookup x).isSome) = true)
    (xi : m.xs.all Xcl.ok = true) (xbn : ∀ x ∈ m.xs, ∀ f, x.fo = some f → x.Bn f) : PrOk w K mg ds tb m := by
  have c1 : (exB ds tb m K && (dfs ds m).all fun d => d.ok K) = true := congrArg (fun z : AlN => z.1.1) c
  have c2 : ((dfs ds m).map fun d => He.fnW K d.at_) = (dfs ds m).map fun d => d.val := congrArg (fun z : AlN => z.1.2) c
  have c3 : (m.dd.map fun p => He.dicW K (dadr K p.1)) = m.dd.map fun p => some (He.keysIn w.params (p.2.map (·.1))) := congrArg (fun z : AlN => z.2) c
  unfold exB at c1
  simp only [Bool.and_eq_true, List.all_eq_true] at c1
  obtain ⟨⟨⟨⟨⟨⟨⟨⟨g1, g2⟩, g3⟩, g4⟩, g6⟩, g7⟩, g8⟩, g9⟩, g5⟩ := c1
  refine ⟨nd, ck, fun d hd => ?_, bn, bk, fun x hx => ?_, fun x d e => ?_, fun x hx => List.all_eq_true.mp dn x hx, fun x hx => He.free_ok X G (g2 x hx), fun x id e => ?_, fun x kvs e => ?_, ?_, fun x hx => ?_, fun T cs e => isxB_ok X G (g9 _ (lookup_memD e))⟩
  · have hm : d.at_ ∈ dfs ds m := List.mem_append_left _ (List.mem_map.mpr ⟨d, hd, rfl⟩)
    have e : He.fnW K d.at_.at_ = d.at_.val := List.map_inj_left.mp c2 _ hm
    obtain ⟨fd, F⟩ := He.DefD.funD e (g5 _ hm)
    exact ⟨_, fd, He.glo_ok X G (g1 d hd), F⟩
  · have := List.all_eq_true.mp fns x hx
    obtain ⟨d, hd, e⟩ := List.any_eq_true.mp this
    exact ⟨d, hd, of_decide_eq_true e⟩
  · obtain ⟨u, e1, e2⟩ := gloIs_ok X G (g3 _ (lookup_memD e))
    obtain ⟨v, r, p⟩ := dat_ok e2
    exact ⟨u, v, e1, r, p⟩
  · obtain ⟨u, e1, e2⟩ := gloIs_ok X G (g4 _ (lookup_memD e))
    cases u <;> simp only [bltIs] at e2 <;> first | (cases e2; done) | skip
    rw [e1, of_decide_eq_true e2]
  · have hm := lookup_memD e
    have e1 := List.map_inj_left.mp c3 _ hm
    have e2 := g6 _ hm
    unfold kdB at e2
    split at e2
    · rename_i a hn
      have ea : dadr K x = a := by unfold dadr; rw [hn]
      rw [show dadr K (x, kvs).1 = a from ea] at e1
      obtain ⟨es, n, D⟩ := He.dicW_ok e1
      refine ⟨a, PySem.W.mg_of X G hn, es, n, D, fun z i hz => ?_, fun z hz => ?_⟩
      · have e3 := List.all_eq_true.mp e2 _ (lookup_memD hz)
        dsimp only at e3
        split at e3
        · rename_i u hu
          exact ⟨u, hu, He.relB_ok e3⟩
        · cases e3
      · refine nsIn_none D.at_ (P := w.params) (ks := kvs.map (·.1)) ?_ (lookup_no hz)
        unfold He.dicW at e1
        rw [D.at_] at e1
        dsimp only at e1
        split at e1
        · exact Option.some.inj e1
        · cases e1
    · cases e2
  · unfold sysB at g7
    split at g7
    · rename_i o ho
      exact ⟨o, ho, of_decide_eq_true g7⟩
    · cases g7
  · have q := g8 x hx
    unfold clsB at q
    obtain ⟨q1, q⟩ := Bool.and_eq_true_iff.mp q
    obtain ⟨q2, q⟩ := Bool.and_eq_true_iff.mp q
    obtain ⟨q3, q⟩ := Bool.and_eq_true_iff.mp q
    obtain ⟨q4, q5⟩ := Bool.and_eq_true_iff.mp q
    have x3 := excB_ok q3
    refine ⟨He.ga K x.cn, He.eqO_ok q1, He.glo_ok X G q1, oexB_ok q2 x3.hs, x3, xfB_ok q4, fun f ef => ?_, fun ef => ?_⟩
    · rw [ef] at q5
      dsimp only at q5
      obtain ⟨r1, r⟩ := Bool.and_eq_true_iff.mp q5
      obtain ⟨r2, r3⟩ := Bool.and_eq_true_iff.mp r
      have hm : x.at_ ∈ dfs ds m := List.mem_append_right _ (List.mem_map.mpr ⟨x, List.mem_filter.mpr ⟨hx, by rw [ef]; rfl⟩, rfl⟩)
      have e : He.fnW K x.at_.at_ = x.at_.val := List.map_inj_left.mp c2 _ hm
      obtain ⟨fd, F⟩ := He.DefD.funD e (g5 _ hm)
      have hi := List.all_eq_true.mp xi x hx
      unfold Xcl.ok at hi
      rw [ef] at hi
      exact ⟨of_decide_eq_true r1, hi, xbn x hx f ef, _, fd, of_decide_eq_true r2, of_decide_eq_true r3, F⟩
    · rw [ef] at q5
      exact q5
end Dn

set_option maxHeartbeats 4000000
namespace Dn
open PySem PySem.Spec PyProof.Rows L2
/-! ### the law's call -/
theorem law_g {P : Program} {w : World} {K : PySem.W.Frag} {mg mb : Str → Option Value} {k : Nat} {fa a : Addr} {fd : FuncData} {x : Str} {sp : SpG} {s₁ : Shared} {vs : List Value} {ns : List Int}
    (KX : K.In s₁.heap) (hns : s₁.heap.Ns mainGlobals mg) (hb : s₁.heap.Ns builtinsNs mb) (hbb : ∀ x : Str, x ≠ "__name__" → mb x = bootBuiltins x) (hlim : s₁.heap.NoLimit) (hg : s₁.gens = #[])
    (ha : s₁.heap.get? a = some { cls := .type "list", data := .seq vs.toArray }) (hi : IntsAre vs ns) (hl : ns.length ≤ sizeLine) (hr : Room k callerA)
    (F : ∀ base : Heap, FnG P w K mg base k fa fd [x] sp) (hbind : ∀ (s : Shared) (u : Value), BindsTo s fd ⟨[u], []⟩ [(x, u)])
    (hsp : ∀ H : Hp, ScrAt K H a (ns.map V.int) → sp [.ref a] H fun v _ => v = .bl true) :
    codeAny (model P w) callerA (.call (.ref fa) ⟨[.ref a], []⟩) (fun r s' => r = .ok (.ret (.bool true)) ∧ OldK s₁.heap s'.heap ∧ s'.os = s₁.os ∧ AllBare s'.gens) s₁ := by
  have rv := vals_ints hi
  have lenV := hi.length
  have main : ∀ H : Hp, (∀ b, H b = none ∨ ∃ o xs, H b = some (.frz o (.lst xs))) → ScrAt K H a (ns.map V.int) → HOk P w H s₁.heap → (∀ b, H b ≠ none → b = a) → (H a ≠ none → K.lookup a = none) →
      codeAny (model P w) callerA (.call (.ref fa) ⟨[.ref a], []⟩) (fun r s' => r = .ok (.ret (.bool true)) ∧ OldK s₁.heap s'.heap ∧ s'.os = s₁.os ∧ AllBare s'.gens) s₁ := by
    intro H hO hS hok hA hK
    have free : ∀ {b : Addr} {o : Obj}, s₁.heap.get? b = some o → (b = a → ∃ es ep, o.data = .dict es ep) → H b = none := fun {b o} e d => Classical.byContradiction fun q => by
      have e' := hA b q
      subst e'
      obtain ⟨es, ep, d'⟩ := d rfl
      rw [ha] at e
      cases e
      cases d'
    have ns0 : ∀ {b : Addr} {m : Str → Option Value}, s₁.heap.Ns b m → (hidT s₁.heap H).Ns b m := fun {b m} ⟨o, es, ep, e, d, r⟩ => ⟨o, es, ep, hidT_get e (free e fun _ => ⟨es, ep, d⟩), d, r⟩
    have kb : K.In (hidT s₁.heap H) := fun b o e => hidT_get (KX b o e) (Classical.byContradiction fun q => by
      have e' := hA b q
      subst e'
      rw [hK q] at e
      cases e)
    have md : Mod K mg (hidT s₁.heap H) := ⟨kb, ns0 hns, ⟨mb, ns0 hb, hbb⟩, let ⟨mc, h1, h2⟩ := hlim; ⟨mc, ns0 h1, h2⟩⟩
    have at0 : Env0 P w K mg (hidT s₁.heap H) callerA [] s₁ H := ⟨rfl, md, fun b o e => of_hidT e, Nat.le_of_eq (hidT_size _ _), trivial, fun b hb => absurd (show b ∈ ([] : List Addr) from hb) (by simp), hok, .of_eq hg⟩
    refine codeAny_mono ((F _).run callerA [] s₁ H ⟨[.ref a], []⟩ [.ref a] [.ref a] _ hr rfl at0 (hbind s₁ (.ref a)) (.cons rfl .nil) (hsp H hS)) fun r s' h => ?_
    cases r with
    | error e => exact h.elim
    | ok fl =>
      cases fl with
      | ret u =>
        obtain ⟨v, H', os, bare, un, hok', r', q⟩ := h
        have q' : v = .bl true := q
        subst q'
        obtain rfl : u = Value.bool true := r'
        refine ⟨rfl, OldK.of_keep fun b o e => ?_, os, bare⟩
        cases q : H b with
        | none => exact un.keep b o e q (by intro z; exact absurd (show b ∈ ([] : List Addr) from z) (by simp)) (by simp)
        | some u =>
          rcases hO b with z | ⟨ob, xs, z⟩
          · rw [q] at z; cases z
          · obtain ⟨e1, _⟩ := hok b _ z
            obtain ⟨e2, _⟩ := hok' b _ (un.frzs b ob _ z)
            rw [e] at e1; cases e1
            exact e2
      | next => exact False.elim h
      | brk => exact False.elim h
      | cont => exact False.elim h
  cases hk : K.lookup a with
  | some o =>
    have e := KX a o hk
    rw [ha] at e
    cases e
    exact main (fun _ => none) (fun _ => .inl rfl) (.inr ⟨_, vs.toArray, _, hk, rfl, rfl, rfl, by rw [List.size_toArray, lenV]; exact hl, by simpa using rv⟩) (fun b u z => by cases (show (none : Option HO) = some u from z)) (fun b z => absurd rfl z) fun z => absurd rfl z
  | none =>
    have one : ∀ b, (if b = a then some (HO.frz { cls := .type "list", data := .seq vs.toArray } (.lst (ns.map V.int))) else none) ≠ none → b = a := fun b z => Classical.byContradiction fun q => z (if_neg q)
    refine main (fun b => if b = a then some (.frz { cls := .type "list", data := .seq vs.toArray } (.lst (ns.map V.int))) else none) (fun b => ?_) (.inl ⟨_, if_pos rfl⟩) (fun b u z => ?_) one fun _ => hk
    · by_cases q : b = a
      · exact .inr ⟨_, _, if_pos q⟩
      · exact .inl (if_neg q)
    · have q := one b (by rw [show (if b = a then some (HO.frz { cls := .type "list", data := .seq vs.toArray } (.lst (ns.map V.int))) else none) = some u from z]; simp)
      have z' := (if_pos q).symm.trans z
      cases z'
      subst q
      exact ⟨ha, by rw [List.length_map]; exact hl, vs, _, rv, ha⟩
/-- the walk of the law's def, from what it answers -/
theorem law_of {l : PySem.W.OpenLaw} {n j k : Nat} {q : Program} {loose : List Str} {XP : (Str → Option Value) → Heap → Prop} {d : DefRec} {ds : List Dfn} {tb : List (Str × D)} {m : Mk} {dl : Dfn} {x : Str}
    (hn : l.most = some n) (hn2 : n ≤ sizeLine) (hdf : d.params.defaults = []) (hr : Room (k + 2) callerA) (hdl : dl ∈ ds) (hnm : d.name = dl.nm) (hps : dl.fc.ps = [x])
    (nd : (ds.map Dfn.nm).Nodup) (ck : ∀ d ∈ ds, ckD m d = true) (bn : ∀ d ∈ ds, d.Bn) (bk : ∀ p ∈ m.kwl, ∀ d ∈ ds, d.nm = p.1 → d.BnK p.2.1 p.2.2)
    (fns : m.fns.all (fun x => ds.any fun d => decide (d.nm = x)) = true) (dn : m.dn.all (fun x => (tb.lookup x).isSome) = true)
    (xi : m.xs.all Xcl.ok = true) (xbn : ∀ x ∈ m.xs, ∀ f, x.fo = some f → x.Bn f)
    (holds : ∀ ns : List Int, ns.length ≤ n → ∃ S, callN tb (tabOf ds) k dl.nm [.scr (ns.map .int)] [] = some (.bl true, S)) :
    PySem.W.WalkO q loose XP (hookN j ds tb m).says l.row.toRowW d [] (fun f vs => PySem.call f vs) := by
  refine Att.attach_call hn hdf fun w s₀ s₁ mg mb fa o pm cd doc a vs ns G Y ho hd hcd hmg hobj hints hlen hg => ?_
  obtain ⟨K, KX, c⟩ := Y
  have O : PrOk w K mg ds tb m := prOk_of KX G.T.g c nd ck bn bk fns dn xi xbn
  obtain ⟨f, fd, hm, F⟩ := O.fn dl hdl
  rw [hnm, hm] at hmg
  cases hmg
  have bs : ∀ (s : Shared) (u : Value), BindsTo s fd ⟨[u], []⟩ [(x, u)] := fun s u => by
    have := F.bindsA (ps := dl.fc.ps) (O.bn dl hdl) s [u] (by rw [hps]; rfl)
    rw [hps] at this
    exact this
  have FF := fun base => prog_ok (P := l.prog) (w := w) (base := base) O k dl fa fd hdl hm F
  rw [hps] at FF
  refine law_g KX G.T.g G.T.b G.T.builtins G.T.nolimit hg hobj hints (Nat.le_trans hlen hn2) hr FF bs fun H hS => ?_
  obtain ⟨S, e⟩ := holds ns hlen
  refine ⟨⟨[], []⟩, [], _, .bl true, S, ⟨rfl, List.nodup_nil, fun k mo a h => (by simp at h), fun a h => (by cases h), fun a h => (by cases h)⟩, Reps.cons (v := .ref a) (vs := []) ?_ Reps.nil, e, fun v H' μ' E R r => rep_bl r⟩
  simp only [Rep]
  refine ⟨a, _, rfl, hS, ?_⟩
  generalize ns = ms
  induction ms with
  | nil => exact Reps.nil
  | cons i r ih => exact Reps.cons mk_int ih
theorem name_one {ds : List Dfn} {d e : Dfn} (h : (ds.map Dfn.nm).Nodup) (hd : d ∈ ds) (he : e ∈ ds) (q : d.nm = e.nm) : d = e := by
  induction ds with
  | nil => cases hd
  | cons x r ih =>
    obtain ⟨h1, h2⟩ := List.nodup_cons.mp (show (x.nm :: r.map Dfn.nm).Nodup from h)
    rcases List.mem_cons.mp hd with rfl | hd'
    · rcases List.mem_cons.mp he with rfl | he'
      · rfl
      · exact absurd (List.mem_map.mpr ⟨e, he', q.symm⟩) h1
    · rcases List.mem_cons.mp he with rfl | he'
      · exact absurd (List.mem_map.mpr ⟨d, hd', q⟩) h1
      · exact ih h2 hd' he'
end Dn

set_option maxHeartbeats 4000000
namespace Dn
open PySem PySem.Spec PyProof.Rows L2
/-! ### evaluation in the order of the text: what follows is not looked into before its turn -/
def bnd {α β : Type} (o : Option α) [K : Inhabited (α → Option β)] : Option β := o.bind K.default
def mpd {α β : Type} (o : Option α) [K : Inhabited (α → β)] : Option β := o.map K.default
@[simp] theorem bnd_some {α β : Type} {a : α} {f : α → Option β} : @bnd α β (some a) ⟨f⟩ = f a := rfl
@[simp] theorem mpd_some {α β : Type} {a : α} {f : α → β} : @mpd α β (some a) ⟨f⟩ = some (f a) := rfl
def vr : En → Nat → Option D
  | [], _ => none
  | x :: _, 0 => x
  | _ :: r, i + 1 => vr r i
theorem vr_get : ∀ (δ : En) (i : Nat), vr δ i = match δ[i]? with
    | some (some d) => some d
    | _ => none
  | [], i => by simp [vr]
  | x :: r, 0 => by cases x <;> rfl
  | x :: r, i + 1 => by simp only [vr, List.getElem?_cons_succ]; exact vr_get r i
@[simp] theorem vr_0 {x : Option D} {r : En} : vr (x :: r) 0 = x := rfl
@[simp] theorem vr_s {x : Option D} {r : En} {i : Nat} : vr (x :: r) (i + 1) = vr r i := rfl
section
variable {G : GE} {δ : En} {S : Sto} {a b c lo hi e elt o' : C} {es kes ifs : List C} {t : CT} {ts : List CT} {it : CI} {i : Nat} {o op oq : Operator} {f : Str} {g T m : String} {d : D}
@[simp] theorem q_non : evE G .non δ S = some (.non, S) := by simp only [evE]
@[simp] theorem q_bl {b : Bool} : evE G (.bl b) δ S = some (.bl b, S) := by simp only [evE]
@[simp] theorem q_int {i : Int} : evE G (.int i) δ S = some (.int i, S) := by simp only [evE]
@[simp] theorem q_str {x : Str} : evE G (.str x) δ S = some (.str x, S) := by simp only [evE]
@[simp] theorem q_var : evE G (.var i) δ S = @mpd _ _ (vr δ i) ⟨fun d => (d, S)⟩ := by
  simp only [evE, mpd, vr_get]
  cases δ[i]? with
  | none => rfl
  | some o => cases o <;> rfl
@[simp] theorem q_glo {x : Str} : evE G (.glo x) δ S = @mpd _ _ (G.data.lookup x) ⟨fun d => (d, S)⟩ := by simp only [evE]; rfl
@[simp] theorem q_tup : evE G (.tup es) δ S = @bnd _ _ (evEs G es δ S) ⟨fun p => if p.1.length ≤ 16777216 then some (.tup p.1, p.2) else none⟩ := by simp only [evE]; rfl
@[simp] theorem q_lst {own : Option Bool} : evE G (.lst own es) δ S = @bnd _ _ (evEs G es δ S) ⟨fun p => if p.1.length ≤ 16777216 then (match own with
    | none => some (.lst p.1, p.2)
    | some kp => some (.ref p.2.length, p.2 ++ [.lst kp p.1])) else none⟩ := by simp only [evE]; rfl
@[simp] theorem q_dic : evE G .dic0 δ S = some (.dic [] [], S) := by simp only [evE]
@[simp] theorem q_dic1 {x : Str} {i : Int} : evE G (.dic1 x i) δ S = some (.dic [.inr x] [.int i], S) := by simp only [evE]
@[simp] theorem q_zipV {t : Bool} {own : Option Bool} : evE G (.zipV t own a b) δ S = @bnd _ _ (evE G a δ S) ⟨fun p => @bnd _ _ (evE G b δ p.2) ⟨fun q => match p.1, q.1 with
    | .tup xs, .tup ys => if t = true then some (.tup (zipD xs ys), q.2) else (match own with
      | none => some (.lst (zipD xs ys), q.2)
      | some kp => some (.ref q.2.length, q.2 ++ [.lst kp (zipD xs ys)]))
    | _, _ => none⟩⟩ := by simp only [evE]; rfl
@[simp] theorem q_tupS {fl : List Bool} : evE G (.tupS es fl) δ S = @bnd _ _ (evEs G es δ S) ⟨fun p => @bnd _ _ (sprD p.1 fl) ⟨fun ds => if ds.length ≤ 16777216 then some (.tup ds, p.2) else none⟩⟩ := by simp only [evE]; rfl
@[simp] theorem q_din {x : Str} {kvs : List (Str × Int)} : evE G (.din e x kvs) δ S = @bnd _ _ (evE G e δ S) ⟨fun p => match p.1 with
    | .str z => some (.bl (kvs.lookup z).isSome, p.2)
    | _ => none⟩ := by simp only [evE]; rfl
@[simp] theorem q_dix {x : Str} {kvs : List (Str × Int)} : evE G (.dix x kvs e) δ S = @bnd _ _ (evE G e δ S) ⟨fun p => match p.1 with
    | .str z => @mpd _ _ (kvs.lookup z) ⟨fun i => (.int i, p.2)⟩
    | _ => none⟩ := by simp only [evE]; rfl
@[simp] theorem q_mkx {cn f : Str} : evE G (.mkx cn f es) δ S = @bnd _ _ (evEs G es δ S) ⟨fun p => if p.1.length ≤ 1 then some (.exc cn f p.1, p.2) else none⟩ := by simp only [evE]; rfl
@[simp] theorem q_fld {f : Str} {tab : List (Str × Option Str)} : evE G (.fld e f tab) δ S = @bnd _ _ (evE G e δ S) ⟨fun p => match p.1 with
    | .exc C g [d] => if g = f ∧ tab.lookup C = some (some f) then some (d, p.2) else none
    | _ => none⟩ := by simp only [evE]; rfl
@[simp] theorem q_isx {T : Str} {cs : List Str} {tab : List (Str × Option Str)} : evE G (.isx e T cs tab) δ S = @bnd _ _ (evE G e δ S) ⟨fun p => match p.1 with
    | .exc C _ _ => if (tab.lookup C).isSome = true then some (.bl (cs.contains C), p.2) else none
    | _ => none⟩ := by simp only [evE]; rfl
@[simp] theorem q_cat {kp : Bool} : evE G (.cat kp a b) δ S = @bnd _ _ (evE G a δ S) ⟨fun p => @bnd _ _ (evE G b δ p.2) ⟨fun q => match dr q.2 p.1, dr q.2 q.1 with
    | .lst xs, .lst ys => if xs.length + ys.length ≤ 16777216 then some (.ref q.2.length, q.2 ++ [.lst kp (xs ++ ys)]) else none
    | _, _ => none⟩⟩ := by simp only [evE]; rfl
@[simp] theorem q_bin : evE G (.bin o a b) δ S = @bnd _ _ (evE G a δ S) ⟨fun p => @bnd _ _ (evE G b δ p.2) ⟨fun q => @mpd _ _ (binD o (dr q.2 p.1) (dr q.2 q.1)) ⟨fun d => (d, q.2)⟩⟩⟩ := by simp only [evE]; rfl
@[simp] theorem q_neg : evE G (.neg a) δ S = @bnd _ _ (evE G a δ S) ⟨fun p => match p.1 with
    | .int i => some (.int (-i), p.2)
    | _ => none⟩ := by simp only [evE]; rfl
@[simp] theorem q_not : evE G (.not a) δ S = @bnd _ _ (evE G a δ S) ⟨fun p => @mpd _ _ (truD p.2 p.1) ⟨fun k => (.bl (!k), p.2)⟩⟩ := by simp only [evE]; rfl
@[simp] theorem q_cmp {o : CmpOp} : evE G (.cmp o a b) δ S = @bnd _ _ (evE G a δ S) ⟨fun p => @bnd _ _ (evE G b δ p.2) ⟨fun q => @mpd _ _ (cmpD q.2 o p.1 q.1) ⟨fun k => (.bl k, q.2)⟩⟩⟩ := by simp only [evE]; rfl
@[simp] theorem q_cmp2 {o o' : CmpOp} : evE G (.cmp2 o o' a b c) δ S = @bnd _ _ (evE G a δ S) ⟨fun p => @bnd _ _ (evE G b δ p.2) ⟨fun q => @bnd _ _ (cmpD q.2 o p.1 q.1) ⟨fun k =>
    if k = true then @bnd _ _ (evE G c δ q.2) ⟨fun r => @mpd _ _ (cmpD r.2 o' q.1 r.1) ⟨fun k' => (.bl k', r.2)⟩⟩ else some (.bl false, q.2)⟩⟩⟩ := by simp only [evE]; rfl
@[simp] theorem q_and : evE G (.and a b) δ S = @bnd _ _ (evE G a δ S) ⟨fun p => match p.1 with
    | .bl true => evE G b δ p.2
    | .bl false => some (.bl false, p.2)
    | _ => none⟩ := by simp only [evE]; rfl
@[simp] theorem q_or : evE G (.or a b) δ S = @bnd _ _ (evE G a δ S) ⟨fun p => match p.1 with
    | .bl false => evE G b δ p.2
    | .bl true => some (.bl true, p.2)
    | _ => none⟩ := by simp only [evE]; rfl
@[simp] theorem q_ite : evE G (.ite c a b) δ S = @bnd _ _ (evT G c δ S) ⟨fun p => if p.1 = true then evE G a δ p.2 else evE G b δ p.2⟩ := by simp only [evE]; rfl
@[simp] theorem q_call : evE G (.call f es) δ S = @bnd _ _ (evEs G es δ S) ⟨fun p => G.call f p.1 p.2⟩ := by simp only [evE]; rfl
@[simp] theorem q_callK {ks : List Str} : evE G (.callK f es ks kes) δ S = @bnd _ _ (evEs G es δ S) ⟨fun p => @bnd _ _ (evEs G kes δ p.2) ⟨fun q => @bnd _ _ (G.kw f es.length ks) ⟨fun pl =>
    @bnd _ _ (pick (p.1 ++ q.1) pl) ⟨fun ds => G.call f ds q.2⟩⟩⟩⟩ := by simp only [evE]; rfl
@[simp] theorem q_blt : evE G (.blt g es) δ S = @bnd _ _ (evEs G es δ S) ⟨fun p => @mpd _ _ (bltD p.2 g p.1) ⟨fun d => (d, p.2)⟩⟩ := by simp only [evE]; rfl
@[simp] theorem q_isi : evE G (.isi e T) δ S = @bnd _ _ (evE G e δ S) ⟨fun p => @mpd _ _ (kitB (tyD p.1) T) ⟨fun k => (.bl k, p.2)⟩⟩ := by simp only [evE]; rfl
@[simp] theorem q_meth : evE G (.meth m o' es) δ S = @bnd _ _ (evE G o' δ S) ⟨fun p => @bnd _ _ (evEs G es δ p.2) ⟨fun q => methD q.2 m p.1 q.1⟩⟩ := by simp only [evE]; rfl
@[simp] theorem q_ix : evE G (.ix a b) δ S = @bnd _ _ (evE G a δ S) ⟨fun p => @bnd _ _ (evE G b δ p.2) ⟨fun q => @mpd _ _ (ixD q.2 p.1 q.1) ⟨fun d => (d, q.2)⟩⟩⟩ := by simp only [evE]; rfl
@[simp] theorem q_sl : evE G (.sl a lo hi) δ S = @bnd _ _ (evE G a δ S) ⟨fun p => @bnd _ _ (evE G lo δ p.2) ⟨fun q => @bnd _ _ (evE G hi δ q.2) ⟨fun r =>
    @bnd _ _ (partD (isNonC lo) q.1) ⟨fun l => @bnd _ _ (partD (isNonC hi) r.1) ⟨fun h => @mpd _ _ (slD r.2 p.1 l h) ⟨fun d => (d, r.2)⟩⟩⟩⟩⟩⟩ := by simp only [evE]; rfl
@[simp] theorem q_rev : evE G (.rev a) δ S = @bnd _ _ (evE G a δ S) ⟨fun p => match dr p.2 p.1 with
    | .tup xs => some (.tup xs.reverse, p.2)
    | .lst xs => some (.lst xs.reverse, p.2)
    | .scr xs => some (.lst xs.reverse, p.2)
    | _ => none⟩ := by simp only [evE]; rfl
@[simp] theorem q_dicT {kp : Bool} : evE G (.dicT kp) δ S = some (.rfd S.length, S ++ [.dct kp [] []]) := by simp only [evE]
@[simp] theorem q_ntp : evE G (.ntp es) δ S = @bnd _ _ (evEs G es δ S) ⟨fun p => if p.1.length ≤ 16777216 then some (.ntup p.1, p.2) else none⟩ := by simp only [evE]; rfl
@[simp] theorem q_stp : evE G (.stp a b) δ S = @bnd _ _ (evE G a δ S) ⟨fun p => @bnd _ _ (evE G b δ p.2) ⟨fun q => match p.1, q.1 with
    | .tup xs, .int i => if i = 1 then some (.tup xs, q.2) else if i = -1 then some (.tup xs.reverse, q.2) else none
    | _, _ => none⟩⟩ := by simp only [evE]; rfl
/-- a comprehension: one turn -/
noncomputable def lcTurn (G : GE) (elt : C) (t : CT) (ifs : List C) (own : List Nat) (δ : En) (x : D) (S : Sto) : Option (Option D × Sto) :=
  @bnd _ _ (evT' G t x (wipeD δ own) S) ⟨fun e => @bnd _ _ (evIf G ifs e.1 e.2) ⟨fun b => if b.1 = true then @mpd _ _ (evE G elt e.1 b.2) ⟨fun y => (some y.1, y.2)⟩ else some (none, b.2)⟩⟩
@[simp] theorem q_lc {own : List Nat} : evE G (.lc elt t it ifs own) δ S = @bnd _ _ (evI G it δ S) ⟨fun w => @bnd _ _ (loopLc w.1 (lcTurn G elt t ifs own δ) w.1.xs w.2) ⟨fun q =>
      if q.1.length ≤ 16777216 then some (.lst q.1, q.2) else none⟩⟩ := by simp only [evE]; rfl
/-- a comprehension in two steps: one turn of the inner, of the outer one -/
noncomputable def lcT2 (G : GE) (elt : C) (t2 : CT) (own2 : List Nat) (δ : En) (y : D) (S : Sto) : Option (Option D × Sto) :=
  @bnd _ _ (evT' G t2 y (wipeD δ own2) S) ⟨fun e2 => @mpd _ _ (evE G elt e2.1 e2.2) ⟨fun z => (some z.1, z.2)⟩⟩
noncomputable def lcT1 (G : GE) (elt : C) (t : CT) (t2 : CT) (it2 : CI) (own own2 : List Nat) (δ : En) (x : D) (S : Sto) : Option (List D × Sto) :=
  @bnd _ _ (evT' G t x (wipeD δ own) S) ⟨fun e => @bnd _ _ (evI G it2 e.1 e.2) ⟨fun w2 => loopLc w2.1 (lcT2 G elt t2 own2 e.1) w2.1.xs w2.2⟩⟩
@[simp] theorem q_lc2 {t2 : CT} {it2 : CI} {own own2 : List Nat} : evE G (.lc2 elt t it t2 it2 own own2) δ S = @bnd _ _ (evI G it δ S) ⟨fun w => @bnd _ _ (loopLn w.1 (lcT1 G elt t t2 it2 own own2 δ) w.1.xs w.2) ⟨fun q =>
      if q.1.length ≤ 16777216 then some (.lst q.1, q.2) else none⟩⟩ := by simp only [evE]; rfl
@[simp] theorem q_nil : evEs G [] δ S = some ([], S) := by simp only [evEs]
@[simp] theorem q_cons : evEs G (e :: es) δ S = @bnd _ _ (evE G e δ S) ⟨fun p => @mpd _ _ (evEs G es δ p.2) ⟨fun q => (p.1 :: q.1, q.2)⟩⟩ := by simp only [evEs]; rfl
@[simp] theorem qt_not : evT G (.not a) δ S = @mpd _ _ (evT G a δ S) ⟨fun p => (!p.1, p.2)⟩ := by simp only [evT]; rfl
@[simp] theorem qt_and : evT G (.and a b) δ S = @bnd _ _ (evT G a δ S) ⟨fun p => if p.1 = true then evT G b δ p.2 else some (false, p.2)⟩ := by simp only [evT]; rfl
@[simp] theorem qt_or : evT G (.or a b) δ S = @bnd _ _ (evT G a δ S) ⟨fun p => if p.1 = true then some (true, p.2) else evT G b δ p.2⟩ := by simp only [evT]; rfl
@[simp] theorem qt_bl {b : Bool} : evT G (.bl b) δ S = some (b, S) := by simp only [evT]
@[simp] theorem qt_ix : evT G (.ix a b) δ S = @bnd _ _ (evE G a δ S) ⟨fun p => @bnd _ _ (evE G b δ p.2) ⟨fun q => @bnd _ _ (ixD q.2 p.1 q.1) ⟨fun d => @mpd _ _ (truD q.2 d) ⟨fun k => (k, q.2)⟩⟩⟩⟩ := by simp only [evT]; rfl
@[simp] theorem qt_cmp {o : CmpOp} : evT G (.cmp o a b) δ S = @bnd _ _ (evE G a δ S) ⟨fun p => @bnd _ _ (evE G b δ p.2) ⟨fun q => @mpd _ _ (cmpD q.2 o p.1 q.1) ⟨fun k => (k, q.2)⟩⟩⟩ := by simp only [evT]; rfl
@[simp] theorem qt_cmp2 {o o' : CmpOp} : evT G (.cmp2 o o' a b c) δ S = @bnd _ _ (evE G a δ S) ⟨fun p => @bnd _ _ (evE G b δ p.2) ⟨fun q => @bnd _ _ (cmpD q.2 o p.1 q.1) ⟨fun k =>
    if k = true then @bnd _ _ (evE G c δ q.2) ⟨fun r => @mpd _ _ (cmpD r.2 o' q.1 r.1) ⟨fun k' => (k', r.2)⟩⟩ else some (false, q.2)⟩⟩⟩ := by simp only [evT]; rfl
@[simp] theorem qt_call : evT G (.call f es) δ S = @bnd _ _ (evEs G es δ S) ⟨fun p => @bnd _ _ (G.call f p.1 p.2) ⟨fun r => @mpd _ _ (truD r.2 r.1) ⟨fun k => (k, r.2)⟩⟩⟩ := by simp only [evT]; rfl
@[simp] theorem qt_blt : evT G (.blt g es) δ S = @bnd _ _ (evEs G es δ S) ⟨fun p => @bnd _ _ (bltD p.2 g p.1) ⟨fun d => @mpd _ _ (truD p.2 d) ⟨fun k => (k, p.2)⟩⟩⟩ := by simp only [evT]; rfl
@[simp] theorem qt_din {x : Str} {kvs : List (Str × Int)} : evT G (.din e x kvs) δ S = @bnd _ _ (evE G e δ S) ⟨fun p => match p.1 with
    | .str z => some ((kvs.lookup z).isSome, p.2)
    | _ => none⟩ := by simp only [evT]; rfl
@[simp] theorem qt_isi : evT G (.isi e T) δ S = @bnd _ _ (evE G e δ S) ⟨fun p => @mpd _ _ (kitB (tyD p.1) T) ⟨fun k => (k, p.2)⟩⟩ := by simp only [evT]; rfl
@[simp] theorem qt_var : evT G (.var i) δ S = @bnd _ _ (vr δ i) ⟨fun d => @mpd _ _ (truD S d) ⟨fun k => (k, S)⟩⟩ := by
  simp only [evT, bnd, vr_get]
  cases δ[i]? with
  | none => rfl
  | some o => cases o <;> rfl
@[simp] theorem qi_nil : evIf G [] δ S = some (true, S) := by simp only [evIf]
@[simp] theorem qi_one : evIf G [c] δ S = evT G c δ S := by simp only [evIf]
@[simp] theorem qg_name : evT' G (.name i) d δ S = some (δ.set i (some d), S) := by simp only [evT']
@[simp] theorem qg_tup {xs : List D} : evT' G (.tup ts) (.tup xs) δ S = evTs G ts xs δ S := by simp only [evT']
@[simp] theorem qg_sub : evT' G (.sub a b) d δ S = @bnd _ _ (evE G a δ S) ⟨fun p => @bnd _ _ (evE G b δ p.2) ⟨fun q => @mpd _ _ (setD q.2 p.1 q.1 d) ⟨fun S' => (δ, S')⟩⟩⟩ := by simp only [evT']; rfl
@[simp] theorem qg_nil : evTs G [] [] δ S = some (δ, S) := by simp only [evTs]
@[simp] theorem qg_cons {x : D} {xs : List D} : evTs G (t :: ts) (x :: xs) δ S = @bnd _ _ (evT' G t x δ S) ⟨fun p => evTs G ts xs p.1 p.2⟩ := by simp only [evTs]; rfl
@[simp] theorem qw_seq : evI G (.seq e) δ S = @bnd _ _ (evE G e δ S) ⟨fun p => @mpd _ _ (items p.2 p.1) ⟨fun xs => (⟨xs, srcOf p.1⟩, p.2)⟩⟩ := by simp only [evI]; rfl
@[simp] theorem qw_rng1 : evI G (.rng1 a) δ S = @bnd _ _ (evE G a δ S) ⟨fun p => match p.1 with
    | .int j => if smallI j = true then some (⟨rngD 0 j.toNat, none⟩, p.2) else none
    | _ => none⟩ := by simp only [evI]; rfl
@[simp] theorem qw_rng2 : evI G (.rng2 a b) δ S = @bnd _ _ (evE G a δ S) ⟨fun p => @bnd _ _ (evE G b δ p.2) ⟨fun q => match p.1, q.1 with
    | .int i, .int j => if smallI i = true ∧ smallI j = true then some (⟨rngD i (j - i).toNat, none⟩, q.2) else none
    | _, _ => none⟩⟩ := by simp only [evI]; rfl
@[simp] theorem qw_enm : evI G (.enm e) δ S = @bnd _ _ (evE G e δ S) ⟨fun p => match p.1 with
    | .lst xs => some (⟨enmD 0 xs, none⟩, p.2)
    | .scr xs => some (⟨enmD 0 xs, none⟩, p.2)
    | .tup xs => some (⟨enmD 0 xs, none⟩, p.2)
    | _ => none⟩ := by simp only [evI]; rfl
@[simp] theorem qw_zip : evI G (.zip a b) δ S = @bnd _ _ (evE G a δ S) ⟨fun p => @bnd _ _ (evE G b δ p.2) ⟨fun q => match p.1, q.1 with
    | .lst xs, .lst ys => some (⟨zipD xs ys, none⟩, q.2)
    | .tup xs, .tup ys => some (⟨zipD xs ys, none⟩, q.2)
    | _, _ => none⟩⟩ := by simp only [evI]; rfl
@[simp] theorem qw_zipN : evI G (.zipN a b) δ S = @bnd _ _ (evE G a δ S) ⟨fun p => @bnd _ _ (evE G b δ p.2) ⟨fun q => match p.1, q.1 with
    | .lst xs, .lst ys => some (⟨zipNt xs ys, none⟩, q.2)
    | _, _ => none⟩⟩ := by simp only [evI]; rfl
variable {ss tt body : List CS} {s : CS}
@[simp] theorem x_expr : exS G (.expr e) δ S = @mpd _ _ (evE G e δ S) ⟨fun p => (.nx δ, p.2)⟩ := by simp only [exS]; rfl
@[simp] theorem x_asg : exS G (.asg t e) δ S = @bnd _ _ (evE G e δ S) ⟨fun p => @mpd _ _ (evT' G t p.1 δ p.2) ⟨fun q => (.nx q.1, q.2)⟩⟩ := by simp only [exS]; rfl
@[simp] theorem x_par {i j : Nat} : exS G (.par i j a b) δ S = @bnd _ _ (evE G a δ S) ⟨fun p => @mpd _ _ (evE G b δ p.2) ⟨fun q => (.nx ((δ.set i (some p.1)).set j (some q.1)), q.2)⟩⟩ := by simp only [exS]; rfl
@[simp] theorem x_par3 {i j l : Nat} : exS G (.par3 i j l a b c) δ S = @bnd _ _ (evE G a δ S) ⟨fun p => @bnd _ _ (evE G b δ p.2) ⟨fun q => @mpd _ _ (evE G c δ q.2) ⟨fun r => (.nx (((δ.set i (some p.1)).set j (some q.1)).set l (some r.1)), r.2)⟩⟩⟩ := by simp only [exS]; rfl
@[simp] theorem x_ret : exS G (.ret e) δ S = @mpd _ _ (evE G e δ S) ⟨fun p => (.rt p.1, p.2)⟩ := by simp only [exS]; rfl
@[simp] theorem x_retN : exS G .retN δ S = some (.rt .non, S) := by simp only [exS]
@[simp] theorem x_if : exS G (.ife c ss tt) δ S = @bnd _ _ (evT G c δ S) ⟨fun p => if p.1 = true then exSs G ss δ p.2 else exSs G tt δ p.2⟩ := by simp only [exS]; rfl
/-- one turn of a for loop -/
noncomputable def forTurn (G : GE) (t : CT) (body : List CS) (x : D) (δ : En) (S : Sto) : Option (Fl × Sto) := @bnd _ _ (evT' G t x δ S) ⟨fun q => exSs G body q.1 q.2⟩
@[simp] theorem x_for : exS G (.for_ t it body) δ S = @bnd _ _ (evI G it δ S) ⟨fun w => loopFor w.1 (forTurn G t body) w.1.xs δ w.2⟩ := by simp only [exS]; rfl
/-- a while loop, not looked into -/
noncomputable def whX (G : GE) (c : C) (body : List CS) (δ : En) (S : Sto) : Option (Fl × Sto) := whD (fun δ S => evT G c δ S) (fun δ S => exSs G body δ S) δ S
@[simp] theorem x_whl : exS G (.whl c body) δ S = whX G c body δ S := by simp only [exS]; rfl
@[simp] theorem x_pass : exS G .pass δ S = some (.nx δ, S) := by simp only [exS]
@[simp] theorem x_brk : exS G .brk δ S = some (.bk δ, S) := by simp only [exS]
@[simp] theorem x_cont : exS G .cont δ S = some (.ct δ, S) := by simp only [exS]
@[simp] theorem x_nil : exSs G [] δ S = some (.nx δ, S) := by simp only [exSs]
@[simp] theorem x_cons : exSs G (s :: ss) δ S = @bnd _ _ (exS G s δ S) ⟨fun p => match p.1 with
    | .nx δ1 => exSs G ss δ1 p.2
    | f => some (f, p.2)⟩ := by simp only [exSs]; rfl
end
theorem q_of {tb : List (Str × D)} {P : List (Str × Fn)} {n : Nat} {f : Str} {ds : List D} {S : Sto} {fc : Fn} (h : P.lookup f = some fc) (hl : ds.length = fc.ps.length) :
    callN tb P (n + 1) f ds S = @bnd _ _ (exSs (geN tb P n) fc.body (startD fc.N.length ds) S) ⟨fun p => match p.1 with
      | .rt d => gc S d p.2
      | .nx _ => gc S .non p.2
      | _ => none⟩ := by
  unfold callN
  rw [h]
  simp only [Option.bind_some, hl, ↓reduceIte]
  rfl
theorem gc_same {S S' : Sto} {d : D} (h : S'.length ≤ S.length) : gc S d S' = some (d, S') := by
  unfold gc
  rw [if_pos h]
/-! ### bounds -/
theorem log_lt {n k : Nat} (h : n < 2 ^ k) (hk : 0 < k) : n.log2 < k := by
  by_cases h0 : n = 0
  · subst h0; simpa using hk
  · exact (Nat.log2_lt h0).mpr h
theorem mul_ok {i j : Int} (hi : i.natAbs < 2 ^ 400000) (hj : j.natAbs < 2 ^ 400000) : mulOk i j = true := by
  have h1 := log_lt hi (by omega)
  have h2 := log_lt hj (by omega)
  unfold mulOk
  rw [decide_eq_true_eq]
  omega
theorem nat_lt {i : Int} (h1 : 0 ≤ i) (h2 : i < 2 ^ 62) : i.natAbs < 2 ^ 400000 := by
  have : (2 : Nat) ^ 62 ≤ 2 ^ 400000 := Nat.pow_le_pow_right (by omega) (by omega)
  have h3 : i.natAbs < 2 ^ 62 := by omega
  omega
theorem div_ok {j : Int} (h1 : 0 < j) (h2 : j < 2 ^ 62) : divOk j = true := by
  have := log_lt (n := j.natAbs) (k := 62) (by omega) (by omega)
  unfold divOk
  simp only [Bool.and_eq_true, decide_eq_true_eq]
  omega
end Dn

set_option maxHeartbeats 4000000
namespace Dn
open PySem PySem.Spec PyProof.Rows L2
/-! ### classes of values; lists -/
@[simp] theorem kit_NoneType_int : kitB "NoneType" "int" = some false := by decide +kernel
@[simp] theorem kit_NoneType_str : kitB "NoneType" "str" = some false := by decide +kernel
@[simp] theorem kit_NoneType_bool : kitB "NoneType" "bool" = some false := by decide +kernel
@[simp] theorem kit_NoneType_tuple : kitB "NoneType" "tuple" = some false := by decide +kernel
@[simp] theorem kit_NoneType_list : kitB "NoneType" "list" = some false := by decide +kernel
@[simp] theorem kit_NoneType_dict : kitB "NoneType" "dict" = some false := by decide +kernel
@[simp] theorem kit_bool_int : kitB "bool" "int" = some true := by decide +kernel
@[simp] theorem kit_bool_str : kitB "bool" "str" = some false := by decide +kernel
@[simp] theorem kit_bool_bool : kitB "bool" "bool" = some true := by decide +kernel
@[simp] theorem kit_bool_tuple : kitB "bool" "tuple" = some false := by decide +kernel
@[simp] theorem kit_bool_list : kitB "bool" "list" = some false := by decide +kernel
@[simp] theorem kit_bool_dict : kitB "bool" "dict" = some false := by decide +kernel
@[simp] theorem kit_int_int : kitB "int" "int" = some true := by decide +kernel
@[simp] theorem kit_int_str : kitB "int" "str" = some false := by decide +kernel
@[simp] theorem kit_int_bool : kitB "int" "bool" = some false := by decide +kernel
@[simp] theorem kit_int_tuple : kitB "int" "tuple" = some false := by decide +kernel
@[simp] theorem kit_int_list : kitB "int" "list" = some false := by decide +kernel
@[simp] theorem kit_int_dict : kitB "int" "dict" = some false := by decide +kernel
@[simp] theorem kit_str_int : kitB "str" "int" = some false := by decide +kernel
@[simp] theorem kit_str_str : kitB "str" "str" = some true := by decide +kernel
@[simp] theorem kit_str_bool : kitB "str" "bool" = some false := by decide +kernel
@[simp] theorem kit_str_tuple : kitB "str" "tuple" = some false := by decide +kernel
@[simp] theorem kit_str_list : kitB "str" "list" = some false := by decide +kernel
@[simp] theorem kit_str_dict : kitB "str" "dict" = some false := by decide +kernel
@[simp] theorem kit_tuple_int : kitB "tuple" "int" = some false := by decide +kernel
@[simp] theorem kit_tuple_str : kitB "tuple" "str" = some false := by decide +kernel
@[simp] theorem kit_tuple_bool : kitB "tuple" "bool" = some false := by decide +kernel
@[simp] theorem kit_tuple_tuple : kitB "tuple" "tuple" = some true := by decide +kernel
@[simp] theorem kit_tuple_list : kitB "tuple" "list" = some false := by decide +kernel
@[simp] theorem kit_tuple_dict : kitB "tuple" "dict" = some false := by decide +kernel
@[simp] theorem kit_list_int : kitB "list" "int" = some false := by decide +kernel
@[simp] theorem kit_list_str : kitB "list" "str" = some false := by decide +kernel
@[simp] theorem kit_list_bool : kitB "list" "bool" = some false := by decide +kernel
@[simp] theorem kit_list_tuple : kitB "list" "tuple" = some false := by decide +kernel
@[simp] theorem kit_list_list : kitB "list" "list" = some true := by decide +kernel
@[simp] theorem kit_list_dict : kitB "list" "dict" = some false := by decide +kernel
@[simp] theorem kit_dict_int : kitB "dict" "int" = some false := by decide +kernel
@[simp] theorem kit_dict_str : kitB "dict" "str" = some false := by decide +kernel
@[simp] theorem kit_dict_bool : kitB "dict" "bool" = some false := by decide +kernel
@[simp] theorem kit_dict_tuple : kitB "dict" "tuple" = some false := by decide +kernel
@[simp] theorem kit_dict_list : kitB "dict" "list" = some false := by decide +kernel
@[simp] theorem kit_dict_dict : kitB "dict" "dict" = some true := by decide +kernel
theorem ok_none {xs : List D} {S : Sto} : okW ⟨xs, none⟩ S := fun k h => by cases h
/-- a comprehension whose turns leave the store -/
theorem loop_map {w : Wk} {turn : D → Sto → Option (Option D × Sto)} {S : Sto} {f : D → D} (hw : okW w S) : ∀ {xs : List D}, (∀ x ∈ xs, turn x S = some (some (f x), S)) → loopLc w turn xs S = some (xs.map f, S)
  | [], _ => by unfold loopLc; rw [if_pos hw]; rfl
  | x :: xs, h => by
    unfold loopLc
    rw [if_pos hw, h x (List.mem_cons_self ..), Option.bind_some, loop_map hw fun y hy => h y (List.mem_cons_of_mem _ hy)]
    rfl
theorem bls_map {α : Type} {g : α → Bool} : ∀ {xs : List α}, blsD (xs.map fun x => .bl (g x)) = some (xs.map g)
  | [] => rfl
  | x :: xs => by simp only [List.map_cons, blsD, bls_map, Option.map_some]
theorem ints_map {α : Type} {g : α → Int} : ∀ {xs : List α}, intsD (xs.map fun x => .int (g x)) = some (xs.map g)
  | [] => rfl
  | x :: xs => by simp only [List.map_cons, intsD, ints_map, Option.map_some]
theorem flat_map {α : Type} {g : α → Int} : ∀ {xs : List α}, (xs.map fun x => D.int (g x)).all flatD = true
  | [] => rfl
  | x :: xs => by simp only [List.map_cons, List.all_cons, flat_map, flatD, Bool.and_self]
theorem any_map {α : Type} {g : α → Int} {i : Int} : ∀ {xs : List α}, ((xs.map fun x => D.int (g x)).any fun y => eqV (vD y) (vD (.int i))) = decide (i ∈ xs.map g)
  | [] => rfl
  | x :: xs => by
    rw [List.map_cons, List.any_cons, any_map (xs := xs), List.map_cons]
    simp only [vD, eqV]
    by_cases h : g x = i
    · simp [h]
    · simp [h, Ne.symm h]
theorem in_ints {α : Type} {g : α → Int} {i : Int} {xs : List α} {S : Sto} : inD S (.int i) (.lst (xs.map fun x => .int (g x))) = some (decide (i ∈ xs.map g)) := by
  unfold inD
  simp only [items, Option.bind_some, flat_map, flatD, Bool.and_self, ↓reduceIte]
  rw [any_map]
theorem cut_tail {x : D} {xs : List D} : cutD (x :: xs) (some 1) none = xs := by
  unfold cutD
  simp [HT.sIx]
theorem at_nat {α : Type} {xs : List α} {i : Nat} (h : i < xs.length) : atI xs (i : Int) = some xs[i] := by
  unfold atI ixN
  rw [if_pos (by omega), if_pos (by omega)]
  simp [h]
end Dn

set_option maxHeartbeats 4000000
namespace K05
open PySem PySem.Spec PyProof.Rows L2 Dn
/-! ### the text: printed by gen.py -/
def top (i : Nat) : Stmt := PySem.Challenge.pw_bendatlas_k05_whole_vertices_and_edges_b.main.body.getD i (.Pass ⟨0, 0, 0, 0⟩)
def xcls : List (Str × Option Str) := [("BendError", none), ("InvalidSegments", some "index"), ("InvalidPoints", some "index")]
def xall : List Str := ["BendError", "InvalidSegments", "InvalidPoints"]
def c_p_is_whole : Fn := ⟨["value"], ["value"], [
  .ret (.and (.isi (.var 0) "int") (.not (.isi (.var 0) "bool")))]⟩
def d_p_is_whole : Dfn := ⟨"is_whole", c_p_is_whole, top 6⟩
def c_p_are_wholes : Fn := ⟨["value", "many"], ["value", "many", "each"], [
  .ret (.and (.isi (.var 0) "tuple") (.and (.cmp .Eq (.blt "len" [.var 0]) (.var 1)) (.blt "all" [.lc (.call "is_whole" [.var 2]) (.name 2) (.seq (.var 0)) [] [2]])))]⟩
def d_p_are_wholes : Dfn := ⟨"are_wholes", c_p_are_wholes, top 7⟩
def c_p_is_ratio : Fn := ⟨["value"], ["value"], [
  .ret (.and (.call "are_wholes" [.var 0, .int 2]) (.and (.cmp .Gt (.ix (.var 0) (.int 1)) (.int 0)) (.cmp .Eq (.blt "gcd" [.ix (.var 0) (.int 0), .ix (.var 0) (.int 1)]) (.int 1))))]⟩
def d_p_is_ratio : Dfn := ⟨"is_ratio", c_p_is_ratio, top 10⟩
def c_p_ratio : Fn := ⟨["top", "low"], ["top", "low", "part"], [
  .asg (.name 2) (.ite (.cmp .Gt (.var 1) (.int 0)) (.blt "gcd" [.var 0, .var 1]) (.neg (.blt "gcd" [.var 0, .var 1]))),
  .ret (.tup [.bin .FloorDiv (.var 0) (.var 2), .bin .FloorDiv (.var 1) (.var 2)])]⟩
def d_p_ratio : Dfn := ⟨"ratio", c_p_ratio, top 11⟩
def c_p_plus : Fn := ⟨["one", "two"], ["one", "two"], [
  .ret (.call "ratio" [.bin .Add (.bin .Mult (.ix (.var 0) (.int 0)) (.ix (.var 1) (.int 1))) (.bin .Mult (.ix (.var 1) (.int 0)) (.ix (.var 0) (.int 1))), .bin .Mult (.ix (.var 0) (.int 1)) (.ix (.var 1) (.int 1))])]⟩
def d_p_plus : Dfn := ⟨"plus", c_p_plus, top 12⟩
def c_p_minus : Fn := ⟨["one", "two"], ["one", "two"], [
  .ret (.call "ratio" [.bin .Sub (.bin .Mult (.ix (.var 0) (.int 0)) (.ix (.var 1) (.int 1))) (.bin .Mult (.ix (.var 1) (.int 0)) (.ix (.var 0) (.int 1))), .bin .Mult (.ix (.var 0) (.int 1)) (.ix (.var 1) (.int 1))])]⟩
def d_p_minus : Dfn := ⟨"minus", c_p_minus, top 13⟩
def c_p_times : Fn := ⟨["one", "two"], ["one", "two"], [
  .ret (.call "ratio" [.bin .Mult (.ix (.var 0) (.int 0)) (.ix (.var 1) (.int 0)), .bin .Mult (.ix (.var 0) (.int 1)) (.ix (.var 1) (.int 1))])]⟩
def d_p_times : Dfn := ⟨"times", c_p_times, top 14⟩
def c_p_over : Fn := ⟨["one", "two"], ["one", "two"], [
  .ret (.call "ratio" [.bin .Mult (.ix (.var 0) (.int 0)) (.ix (.var 1) (.int 1)), .bin .Mult (.ix (.var 0) (.int 1)) (.ix (.var 1) (.int 0))])]⟩
def d_p_over : Dfn := ⟨"over", c_p_over, top 15⟩
def c_p_sign_of : Fn := ⟨["one"], ["one"], [
  .ret (.bin .Sub (.cmp .Gt (.ix (.var 0) (.int 0)) (.int 0)) (.cmp .Lt (.ix (.var 0) (.int 0)) (.int 0)))]⟩
def d_p_sign_of : Dfn := ⟨"sign_of", c_p_sign_of, top 16⟩
def c_p_is_less : Fn := ⟨["one", "two"], ["one", "two"], [
  .ret (.cmp .Lt (.bin .Mult (.ix (.var 0) (.int 0)) (.ix (.var 1) (.int 1))) (.bin .Mult (.ix (.var 1) (.int 0)) (.ix (.var 0) (.int 1))))]⟩
def d_p_is_less : Dfn := ⟨"is_less", c_p_is_less, top 17⟩
def c_p_is_pointed : Fn := ⟨["value"], ["value", "each"], [
  .ret (.and (.isi (.var 0) "tuple") (.and (.cmp .Eq (.blt "len" [.var 0]) (.int 2)) (.blt "all" [.lc (.call "is_ratio" [.var 1]) (.name 1) (.seq (.var 0)) [] [1]])))]⟩
def d_p_is_pointed : Dfn := ⟨"is_pointed", c_p_is_pointed, top 19⟩
def c_p_is_segmented : Fn := ⟨["value"], ["value", "each"], [
  .ife (.or (.not (.isi (.var 0) "tuple")) (.or (.cmp .NotEq (.blt "len" [.var 0]) (.int 2)) (.not (.blt "all" [.lc (.call "is_pointed" [.var 1]) (.name 1) (.seq (.var 0)) [] [1]])))) [.ret (.bl false)] [],
  .ret (.cmp .NotEq (.ix (.var 0) (.int 0)) (.ix (.var 0) (.int 1)))]⟩
def d_p_is_segmented : Dfn := ⟨"is_segmented", c_p_is_segmented, top 20⟩
def c_p_step_of : Fn := ⟨["start", "end"], ["start", "end"], [
  .ret (.tup [.call "minus" [.ix (.var 1) (.int 0), .ix (.var 0) (.int 0)], .call "minus" [.ix (.var 1) (.int 1), .ix (.var 0) (.int 1)]])]⟩
def d_p_step_of : Dfn := ⟨"step_of", c_p_step_of, top 21⟩
def c_p_cross : Fn := ⟨["one", "two"], ["one", "two"], [
  .ret (.call "minus" [.call "times" [.ix (.var 0) (.int 0), .ix (.var 1) (.int 1)], .call "times" [.ix (.var 0) (.int 1), .ix (.var 1) (.int 0)]])]⟩
def d_p_cross : Dfn := ⟨"cross", c_p_cross, top 22⟩
def c_p_turn_by : Fn := ⟨["point", "other", "third"], ["point", "other", "third"], [
  .ret (.call "sign_of" [.call "cross" [.call "step_of" [.var 0, .var 1], .call "step_of" [.var 0, .var 2]]])]⟩
def d_p_turn_by : Dfn := ⟨"turn_by", c_p_turn_by, top 23⟩
def c_p_comes_first : Fn := ⟨["one", "two"], ["one", "two"], [
  .ret (.or (.call "is_less" [.ix (.var 0) (.int 0), .ix (.var 1) (.int 0)]) (.and (.cmp .Eq (.ix (.var 0) (.int 0)) (.ix (.var 1) (.int 0))) (.call "is_less" [.ix (.var 0) (.int 1), .ix (.var 1) (.int 1)])))]⟩
def d_p_comes_first : Dfn := ⟨"comes_first", c_p_comes_first, top 24⟩
def c_p_ascending : Fn := ⟨["segment"], ["segment"], [
  .ret (.ite (.call "comes_first" [.ix (.var 0) (.int 0), .ix (.var 0) (.int 1)]) (.var 0) (.rev (.var 0)))]⟩
def d_p_ascending : Dfn := ⟨"ascending", c_p_ascending, top 25⟩
def c_p_is_on_by : Fn := ⟨["segment", "point"], ["segment", "point", "low", "high"], [
  .asg (.tup [(.name 2), (.name 3)]) (.call "ascending" [.var 0]),
  .ife (.or (.call "comes_first" [.var 1, .var 2]) (.call "comes_first" [.var 3, .var 1])) [.ret (.bl false)] [],
  .ret (.cmp .Eq (.call "turn_by" [.var 2, .var 3, .var 1]) (.int 0))]⟩
def d_p_is_on_by : Dfn := ⟨"is_on_by", c_p_is_on_by, top 26⟩
def c_p_at_part : Fn := ⟨["start", "step", "part"], ["start", "step", "part"], [
  .ret (.tup [.call "plus" [.ix (.var 0) (.int 0), .call "times" [.var 2, .ix (.var 1) (.int 0)]], .call "plus" [.ix (.var 0) (.int 1), .call "times" [.var 2, .ix (.var 1) (.int 1)]]])]⟩
def d_p_at_part : Dfn := ⟨"at_part", c_p_at_part, top 27⟩
def c_p_shared_line : Fn := ⟨["segment", "other"], ["segment", "other", "low", "high", "one", "two", "three", "four"], [
  .asg (.tup [(.tup [(.name 4), (.name 5)]), (.tup [(.name 6), (.name 7)])]) (.tup [.call "ascending" [.var 0], .call "ascending" [.var 1]]),
  .asg (.name 2) (.ite (.call "comes_first" [.var 6, .var 4]) (.var 4) (.var 6)),
  .asg (.name 3) (.ite (.call "comes_first" [.var 5, .var 7]) (.var 5) (.var 7)),
  .ife (.cmp .Eq (.var 2) (.var 3)) [.ret (.tup [.var 2])] [],
  .ret (.ite (.call "comes_first" [.var 2, .var 3]) (.tup [.var 2, .var 3]) (.tup []))]⟩
def d_p_shared_line : Dfn := ⟨"shared_line", c_p_shared_line, top 28⟩
def c_p_common_by : Fn := ⟨["segment", "other"], ["segment", "other", "point", "first", "second", "gap", "whole"], [
  .par 3 4 (.call "step_of" [.ix (.var 0) (.int 0), .ix (.var 0) (.int 1)]) (.call "step_of" [.ix (.var 1) (.int 0), .ix (.var 1) (.int 1)]),
  .par 5 6 (.call "step_of" [.ix (.var 0) (.int 0), .ix (.var 1) (.int 0)]) (.call "cross" [.var 3, .var 4]),
  .ife (.cmp .Eq (.var 6) (.glo "ZERO")) [.ret (.ite (.cmp .Eq (.call "cross" [.var 3, .var 5]) (.glo "ZERO")) (.call "shared_line" [.var 0, .var 1]) (.tup []))] [],
  .asg (.name 2) (.call "at_part" [.ix (.var 0) (.int 0), .var 3, .call "over" [.call "cross" [.var 5, .var 4], .var 6]]),
  .ret (.ite (.and (.call "is_on_by" [.var 0, .var 2]) (.call "is_on_by" [.var 1, .var 2])) (.tup [.var 2]) (.tup []))]⟩
def d_p_common_by : Dfn := ⟨"common_by", c_p_common_by, top 29⟩
def c_p_with_point : Fn := ⟨["points", "point"], ["points", "point", "each", "at"], [
  .ife (.cmp .In (.var 1) (.var 0)) [.ret (.var 0)] [],
  .asg (.name 3) (.blt "len" [.lc (.var 2) (.name 2) (.seq (.var 0)) [.call "comes_first" [.var 2, .var 1]] [2]]),
  .ret (.bin .Add (.bin .Add (.sl (.var 0) .non (.var 3)) (.lst none [.var 1])) (.sl (.var 0) (.var 3) .non))]⟩
def d_p_with_point : Dfn := ⟨"with_point", c_p_with_point, top 30⟩
def c_p_all_vertices : Fn := ⟨["segments", "points"], ["segments", "points", "segment", "end", "found", "point", "index", "other"], [
  .asg (.name 4) (.lst none []),
  .for_ (.name 5) (.seq (.bin .Add (.lc2 (.var 3) (.name 2) (.seq (.var 0)) (.name 3) (.seq (.var 2)) [2, 3] [3]) (.blt "list" [.var 1]))) [.asg (.name 4) (.call "with_point" [.var 4, .var 5])],
  .for_ (.tup [(.name 6), (.name 2)]) (.enm (.var 0)) [.for_ (.name 7) (.seq (.sl (.var 0) .non (.var 6))) [.for_ (.name 5) (.seq (.call "common_by" [.var 2, .var 7])) [.asg (.name 4) (.call "with_point" [.var 4, .var 5])]]],
  .ret (.blt "tuple" [.var 4])]⟩
def d_p_all_vertices : Dfn := ⟨"all_vertices", c_p_all_vertices, top 32⟩
def c_p_all_edges : Fn := ⟨["segments", "vertices"], ["segments", "vertices", "index", "vertex", "found", "segment", "some", "pair"], [
  .asg (.name 4) (.dicT false),
  .for_ (.name 5) (.seq (.var 0)) [.asg (.name 6) (.lc (.var 2) (.tup [(.name 2), (.name 3)]) (.enm (.var 1)) [.call "is_on_by" [.var 5, .var 3]] [2, 3]), .for_ (.name 7) (.zipN (.var 6) (.sl (.var 6) (.int 1) .non)) [.asg (.sub (.var 4) (.var 7)) (.bl true)]],
  .ret (.blt "tuple" [.blt "sorted" [.var 4]])]⟩
def d_p_all_edges : Dfn := ⟨"all_edges", c_p_all_edges, top 33⟩
def c_p_check_points : Fn := ⟨["value"], ["value", "index", "each"], [
  .ife (.or (.not (.isi (.var 0) "tuple")) (.cmp .Gt (.blt "len" [.var 0]) (.glo "MOST_SEGMENTS"))) [.never] [],
  .for_ (.tup [(.name 1), (.name 2)]) (.enm (.var 0)) [.ife (.not (.call "is_pointed" [.var 2])) [.never] []]]⟩
def d_p_check_points : Dfn := ⟨"check_points", c_p_check_points, top 36⟩
def c_p_check_lines : Fn := ⟨["segments", "points"], ["segments", "points", "index", "each"], [
  .ife (.or (.not (.isi (.var 0) "tuple")) (.cmp .Gt (.blt "len" [.var 0]) (.glo "MOST_SEGMENTS"))) [.never] [],
  .for_ (.tup [(.name 2), (.name 3)]) (.enm (.var 0)) [.ife (.not (.call "is_segmented" [.var 3])) [.never] []],
  .expr (.call "check_points" [.var 1])]⟩
def d_p_check_lines : Dfn := ⟨"check_lines", c_p_check_lines, top 37⟩
def c_p_vertices_of : Fn := ⟨["segments", "points"], ["segments", "points"], [
  .expr (.call "check_lines" [.var 0, .var 1]),
  .ret (.call "all_vertices" [.var 0, .var 1])]⟩
def d_p_vertices_of : Dfn := ⟨"vertices_of", c_p_vertices_of, top 39⟩
def c_p_edges_of : Fn := ⟨["segments", "points"], ["segments", "points"], [
  .expr (.call "check_lines" [.var 0, .var 1]),
  .ret (.call "all_edges" [.var 0, .call "all_vertices" [.var 0, .var 1]])]⟩
def d_p_edges_of : Dfn := ⟨"edges_of", c_p_edges_of, top 40⟩
def c_law_spring : Fn := ⟨["script", "turn"], ["script", "turn", "mixed", "cell", "own"], [
  .asg (.name 2) (.bin .Add (.int 855091) (.bin .Mult (.int 9241) (.var 1))),
  .for_ (.name 3) (.seq (.sl (.var 0) .non (.int 9))) [.asg (.name 2) (.bin .Mod (.blt "int" [.bin .Add (.bin .Add (.bin .Mult (.var 2) (.int 58027)) (.bin .Mod (.blt "int" [.var 3]) (.int 2147483587))) (.int 19)]) (.int 2147483629))],
  .asg (.name 4) (.ite (.cmp .Lt (.var 1) (.blt "len" [.var 0])) (.blt "int" [.ix (.var 0) (.var 1)]) (.int 0)),
  .asg (.name 2) (.bin .Mod (.blt "int" [.bin .Add (.bin .Add (.bin .Mult (.var 2) (.int 61)) (.bin .Mult (.bin .Mod (.blt "int" [.var 4]) (.int 2147483587)) (.int 30011))) (.int 7)]) (.int 2147483629)),
  .ret (.lst (some true) [.ite (.or (.cmp .Lt (.var 4) (.int 0)) (.cmp .GtE (.var 4) (.bin .Pow (.int 10) (.int 15)))) (.blt "abs" [.var 4]) (.int 0), .var 2, .int 0])]⟩
def d_law_spring : Dfn := ⟨"_law_spring", c_law_spring, top 42⟩
def c_law_draw : Fn := ⟨["spring", "many"], ["spring", "many", "seed", "digit"], [
  .ife (.cmp .Gt (.ix (.var 0) (.int 0)) (.int 0)) [.asg (.tup [(.sub (.var 0) (.int 0)), (.name 3)]) (.blt "divmod" [.ix (.var 0) (.int 0), .var 1]), .ret (.var 3)] [],
  .asg (.sub (.var 0) (.int 2)) (.bin .Add (.ix (.var 0) (.int 2)) (.int 1)),
  .asg (.name 2) (.bin .Mod (.blt "int" [.bin .Add (.ix (.var 0) (.int 1)) (.bin .Mult (.int 70003) (.ix (.var 0) (.int 2)))]) (.int 2147483629)),
  .asg (.sub (.var 0) (.int 1)) (.bin .Mod (.blt "int" [.bin .Add (.bin .Mult (.var 2) (.bin .Add (.bin .Mod (.blt "int" [.var 2]) (.int 6007)) (.int 50021))) (.bin .Mult (.int 29) (.ix (.var 0) (.int 2)))]) (.int 2147483629)),
  .ret (.bin .Mod (.blt "int" [.bin .FloorDiv (.ix (.var 0) (.int 1)) (.int 769)]) (.var 1))]⟩
def d_law_draw : Dfn := ⟨"_law_draw", c_law_draw, top 43⟩
def c_law_one_of : Fn := ⟨["spring", "some"], ["spring", "some"], [
  .ret (.ix (.var 1) (.call "_law_draw" [.var 0, .blt "len" [.var 1]]))]⟩
def d_law_one_of : Dfn := ⟨"_law_one_of", c_law_one_of, top 44⟩
def c_law_divisor : Fn := ⟨["one", "two"], ["one", "two", "far", "rest"], [
  .par 2 3 (.blt "abs" [.var 0]) (.blt "abs" [.var 1]),
  .whl (.cmp .NotEq (.var 3) (.int 0)) [.par 2 3 (.var 3) (.bin .Mod (.blt "int" [.var 2]) (.var 3))],
  .ret (.var 2)]⟩
def d_law_divisor : Dfn := ⟨"_law_divisor", c_law_divisor, top 45⟩
def c_law_part : Fn := ⟨["top", "base"], ["top", "base", "far"], [
  .asg (.name 2) (.ite (.cmp .Gt (.var 1) (.int 0)) (.call "_law_divisor" [.var 0, .var 1]) (.bin .Sub (.int 0) (.call "_law_divisor" [.var 0, .var 1]))),
  .ret (.tup [.bin .FloorDiv (.var 0) (.var 2), .bin .FloorDiv (.var 1) (.var 2)])]⟩
def d_law_part : Dfn := ⟨"_law_part", c_law_part, top 46⟩
def c_law_place : Fn := ⟨["x", "y", "w"], ["x", "y", "w", "far"], [
  .asg (.name 3) (.ite (.cmp .Gt (.var 2) (.int 0)) (.call "_law_divisor" [.call "_law_divisor" [.var 0, .var 1], .var 2]) (.bin .Sub (.int 0) (.call "_law_divisor" [.call "_law_divisor" [.var 0, .var 1], .var 2]))),
  .ret (.tup [.bin .FloorDiv (.var 0) (.var 3), .bin .FloorDiv (.var 1) (.var 3), .bin .FloorDiv (.var 2) (.var 3)])]⟩
def d_law_place : Dfn := ⟨"_law_place", c_law_place, top 47⟩
def c_law_told : Fn := ⟨["place"], ["place"], [
  .ret (.tup [.call "_law_part" [.ix (.var 0) (.int 0), .ix (.var 0) (.int 2)], .call "_law_part" [.ix (.var 0) (.int 1), .ix (.var 0) (.int 2)]])]⟩
def d_law_told : Dfn := ⟨"_law_told", c_law_told, top 48⟩
def c_law_own : Fn := ⟨["told"], ["told", "a", "b", "c", "d"], [
  .asg (.tup [(.tup [(.name 1), (.name 2)]), (.tup [(.name 3), (.name 4)])]) (.var 0),
  .ret (.call "_law_place" [.bin .Mult (.var 1) (.var 4), .bin .Mult (.var 3) (.var 2), .bin .Mult (.var 2) (.var 4)])]⟩
def d_law_own : Dfn := ⟨"_law_own", c_law_own, top 49⟩
def c_law_side : Fn := ⟨["p", "q", "r"], ["p", "q", "r", "high"], [
  .asg (.name 3) (.bin .Sub (.bin .Mult (.ix (.var 0) (.int 0)) (.bin .Sub (.bin .Mult (.ix (.var 1) (.int 1)) (.ix (.var 2) (.int 2))) (.bin .Mult (.ix (.var 2) (.int 1)) (.ix (.var 1) (.int 2))))) (.bin .Mult (.ix (.var 0) (.int 1)) (.bin .Sub (.bin .Mult (.ix (.var 1) (.int 0)) (.ix (.var 2) (.int 2))) (.bin .Mult (.ix (.var 2) (.int 0)) (.ix (.var 1) (.int 2)))))),
  .ret (.bin .Add (.var 3) (.bin .Mult (.ix (.var 0) (.int 2)) (.bin .Sub (.bin .Mult (.ix (.var 1) (.int 0)) (.ix (.var 2) (.int 1))) (.bin .Mult (.ix (.var 2) (.int 0)) (.ix (.var 1) (.int 1))))))]⟩
def d_law_side : Dfn := ⟨"_law_side", c_law_side, top 50⟩
def c_law_is_less : Fn := ⟨["p", "q"], ["p", "q"], [
  .ife (.cmp .NotEq (.bin .Mult (.ix (.var 0) (.int 0)) (.ix (.var 1) (.int 2))) (.bin .Mult (.ix (.var 1) (.int 0)) (.ix (.var 0) (.int 2)))) [.ret (.cmp .Lt (.bin .Mult (.ix (.var 0) (.int 0)) (.ix (.var 1) (.int 2))) (.bin .Mult (.ix (.var 1) (.int 0)) (.ix (.var 0) (.int 2))))] [],
  .ret (.cmp .Lt (.bin .Mult (.ix (.var 0) (.int 1)) (.ix (.var 1) (.int 2))) (.bin .Mult (.ix (.var 1) (.int 1)) (.ix (.var 0) (.int 2))))]⟩
def d_law_is_less : Dfn := ⟨"_law_is_less", c_law_is_less, top 51⟩
def c_law_lies_on : Fn := ⟨["p", "q", "r"], ["p", "q", "r", "low", "high"], [
  .ife (.cmp .NotEq (.call "_law_side" [.var 0, .var 1, .var 2]) (.int 0)) [.ret (.bl false)] [],
  .asg (.tup [(.name 3), (.name 4)]) (.ite (.call "_law_is_less" [.var 0, .var 1]) (.tup [.var 0, .var 1]) (.tup [.var 1, .var 0])),
  .ret (.and (.not (.call "_law_is_less" [.var 2, .var 3])) (.not (.call "_law_is_less" [.var 4, .var 2])))]⟩
def d_law_lies_on : Dfn := ⟨"_law_lies_on", c_law_lies_on, top 52⟩
def c_law_bottom : Fn := ⟨["places"], ["places", "found", "each"], [
  .asg (.name 1) (.int 1),
  .for_ (.name 2) (.seq (.var 0)) [.asg (.name 1) (.bin .Mult (.bin .FloorDiv (.var 1) (.call "_law_divisor" [.var 1, .ix (.var 2) (.int 2)])) (.ix (.var 2) (.int 2)))],
  .ret (.var 1)]⟩
def d_law_bottom : Dfn := ⟨"_law_bottom", c_law_bottom, top 53⟩
def c_law_rising : Fn := ⟨["places"], ["places", "at", "each", "by", "some"], [
  .asg (.name 3) (.call "_law_bottom" [.var 0]),
  .asg (.name 4) (.blt "sorted" [.lc (.tup [.bin .Mult (.ix (.var 2) (.int 0)) (.bin .FloorDiv (.var 3) (.ix (.var 2) (.int 2))), .bin .Mult (.ix (.var 2) (.int 1)) (.bin .FloorDiv (.var 3) (.ix (.var 2) (.int 2))), .var 2]) (.name 2) (.seq (.var 0)) [] [2]]),
  .ret (.lc (.ix (.var 2) (.int 2)) (.tup [(.name 1), (.name 2)]) (.enm (.var 4)) [(.or (.cmp .Eq (.var 1) (.int 0)) (.cmp .NotEq (.ix (.var 4) (.bin .Sub (.var 1) (.int 1))) (.var 2)))] [1, 2])]⟩
def d_law_rising : Dfn := ⟨"_law_rising", c_law_rising, top 54⟩
def c_law_meet : Fn := ⟨["one", "two"], ["one", "two", "each", "a", "b", "c", "d", "ends", "p", "q", "r", "s"], [
  .asg (.tup [(.tup [(.name 8), (.name 9)]), (.tup [(.name 10), (.name 11)])]) (.tup [.var 0, .var 1]),
  .asg (.tup [(.name 3), (.name 4), (.name 5), (.name 6)]) (.tup [.call "_law_side" [.var 10, .var 11, .var 8], .call "_law_side" [.var 10, .var 11, .var 9], .call "_law_side" [.var 8, .var 9, .var 10], .call "_law_side" [.var 8, .var 9, .var 11]]),
  .ife (.and (.cmp .Eq (.var 5) (.int 0)) (.cmp .Eq (.var 6) (.int 0))) [.asg (.name 7) (.lc (.var 2) (.name 2) (.seq (.var 0)) [.call "_law_lies_on" [.var 10, .var 11, .var 2]] [2]), .ret (.call "_law_rising" [.bin .Add (.var 7) (.lc (.var 2) (.name 2) (.seq (.var 1)) [.call "_law_lies_on" [.var 8, .var 9, .var 2]] [2])])] [],
  .ife (.or (.cmp .Gt (.bin .Mult (.var 3) (.var 4)) (.int 0)) (.cmp .Gt (.bin .Mult (.var 5) (.var 6)) (.int 0))) [.ret (.lst none [])] [],
  .ret (.lst none [.call "_law_place" [.bin .Sub (.bin .Mult (.var 3) (.ix (.var 9) (.int 0))) (.bin .Mult (.var 4) (.ix (.var 8) (.int 0))), .bin .Sub (.bin .Mult (.var 3) (.ix (.var 9) (.int 1))) (.bin .Mult (.var 4) (.ix (.var 8) (.int 1))), .bin .Sub (.bin .Mult (.var 3) (.ix (.var 9) (.int 2))) (.bin .Mult (.var 4) (.ix (.var 8) (.int 2)))]])]⟩
def d_law_meet : Dfn := ⟨"_law_meet", c_law_meet, top 55⟩
def c_law_cut : Fn := ⟨["walls", "lone"], ["walls", "lone", "at", "each", "some", "one", "two", "corners", "found", "p", "q", "row", "here", "there"], [
  .asg (.name 4) (.blt "list" [.var 1]),
  .for_ (.tup [(.name 2), (.name 5)]) (.enm (.var 0)) [.asg (.name 4) (.bin .Add (.var 4) (.lst none [.ix (.var 5) (.int 0), .ix (.var 5) (.int 1)])), .for_ (.name 6) (.seq (.sl (.var 0) .non (.var 2))) [.asg (.name 4) (.bin .Add (.var 4) (.call "_law_meet" [.var 5, .var 6]))]],
  .par 7 8 (.call "_law_rising" [.var 4]) (.dicT false),
  .for_ (.tup [(.name 9), (.name 10)]) (.seq (.var 0)) [.asg (.name 11) (.lc (.var 2) (.tup [(.name 2), (.name 3)]) (.enm (.var 7)) [.call "_law_lies_on" [.var 9, .var 10, .var 3]] [2, 3]), .for_ (.tup [(.name 12), (.name 13)]) (.zip (.var 11) (.sl (.var 11) (.int 1) .non)) [.asg (.sub (.var 8) (.ntp [.var 12, .var 13])) (.bl true)]],
  .ret (.tup [.var 7, .blt "sorted" [.var 8]])]⟩
def d_law_cut : Dfn := ⟨"_law_cut", c_law_cut, top 56⟩
def c_law_frame : Fn := ⟨["spring"], ["spring", "wide", "x", "y", "step", "under"], [
  .asg (.name 1) (.call "_law_one_of" [.var 0, .tup [.int 3, .int 4, .int 5]]),
  .asg (.tup [(.name 2), (.name 3), (.name 4), (.name 5)]) (.call "_law_one_of" [.var 0, .tup [.tup [.int 0, .int 0, .int 1, .int 1], .tup [.int 0, .int 0, .int 1, .int 1], .tup [.neg (.int 2), .neg (.int 1), .int 1, .int 1], .tup [.neg (.int 3), .int 1, .int 1, .int 2], .tup [.int 0, .neg (.int 5), .int 2, .int 3], .tup [.int 1, .int 1, .int 5, .int 6], .tup [.neg (.int 700000), .int 250001, .int 100003, .int 1], .tup [.neg (.int 1), .neg (.int 2), .int 2, .int 1]]]),
  .ret (.tup [.var 2, .var 3, .var 4, .var 5, .var 1])]⟩
def d_law_frame : Dfn := ⟨"_law_frame", c_law_frame, top 57⟩
def c_law_grid : Fn := ⟨["frame", "i", "j", "n"], ["frame", "i", "j", "n", "x", "y", "step", "under", "wide"], [
  .asg (.tup [(.name 4), (.name 5), (.name 6), (.name 7), (.name 8)]) (.var 0),
  .ret (.tup [.call "_law_part" [.bin .Add (.bin .Mult (.var 4) (.var 3)) (.bin .Mult (.var 6) (.var 1)), .bin .Mult (.var 7) (.var 3)], .call "_law_part" [.bin .Add (.bin .Mult (.var 5) (.var 3)) (.bin .Mult (.var 6) (.var 2)), .bin .Mult (.var 7) (.var 3)]])]⟩
def d_law_grid : Dfn := ⟨"_law_grid", c_law_grid, top 58⟩
def c_law_dot : Fn := ⟨["spring", "frame"], ["spring", "frame", "n", "i", "j"], [
  .asg (.name 2) (.call "_law_one_of" [.var 0, .tup [.int 1, .int 1, .int 2, .int 2, .int 3]]),
  .par 3 4 (.call "_law_draw" [.var 0, .bin .Add (.bin .Mult (.var 2) (.ix (.var 1) (.int 4))) (.int 1)]) (.call "_law_draw" [.var 0, .bin .Add (.bin .Mult (.var 2) (.ix (.var 1) (.int 4))) (.int 1)]),
  .ret (.call "_law_grid" [.var 1, .var 3, .var 4, .var 2])]⟩
def d_law_dot : Dfn := ⟨"_law_dot", c_law_dot, top 59⟩
def c_law_row : Fn := ⟨["spring", "frame", "many", "is_closed"], ["spring", "frame", "many", "is_closed", "each", "wide", "found", "turn", "shut"], [
  .asg (.name 5) (.ix (.var 1) (.int 4)),
  .asg (.name 6) (.lst (some false) [.call "_law_draw" [.var 0, .bin .Mult (.var 5) (.var 5)]]),
  .for_ (.name 7) (.rng2 (.int 1) (.var 2)) [.asg (.name 8) (.ite (.and (.var 3) (.cmp .Eq (.var 7) (.bin .Sub (.var 2) (.int 1)))) (.lst none [.ix (.var 6) (.neg (.int 1)), .ix (.var 6) (.int 0)]) (.lst none [.ix (.var 6) (.neg (.int 1))])), .expr (.meth "append" (.var 6) [.call "_law_one_of" [.var 0, .lc (.var 4) (.name 4) (.rng1 (.bin .Mult (.var 5) (.var 5))) [.cmp .NotIn (.var 4) (.var 8)] [4]]])],
  .ret (.blt "tuple" [.lc (.call "_law_grid" [.var 1, .bin .FloorDiv (.var 4) (.var 5), .bin .Mod (.blt "int" [.var 4]) (.var 5), .int 1]) (.name 4) (.seq (.var 6)) [] [4]])]⟩
def d_law_row : Dfn := ⟨"_law_row", c_law_row, top 60⟩
def c_law_box : Fn := ⟨["spring", "frame"], ["spring", "frame", "row", "i", "j", "k", "m"], [
  .par 3 4 (.call "_law_draw" [.var 0, .bin .Sub (.ix (.var 1) (.int 4)) (.int 1)]) (.call "_law_draw" [.var 0, .bin .Sub (.ix (.var 1) (.int 4)) (.int 1)]),
  .par 5 6 (.bin .Add (.bin .Add (.var 3) (.int 1)) (.call "_law_draw" [.var 0, .bin .Sub (.bin .Sub (.ix (.var 1) (.int 4)) (.int 1)) (.var 3)])) (.bin .Add (.bin .Add (.var 4) (.int 1)) (.call "_law_draw" [.var 0, .bin .Sub (.bin .Sub (.ix (.var 1) (.int 4)) (.int 1)) (.var 4)])),
  .asg (.name 2) (.lst none [.call "_law_grid" [.var 1, .var 3, .var 4, .int 1], .call "_law_grid" [.var 1, .var 5, .var 4, .int 1], .call "_law_grid" [.var 1, .var 5, .var 6, .int 1], .call "_law_grid" [.var 1, .var 3, .var 6, .int 1]]),
  .ret (.blt "tuple" [.ite (.cmp .Gt (.call "_law_draw" [.var 0, .int 3]) (.int 0)) (.var 2) (.rev (.var 2))])]⟩
def d_law_box : Dfn := ⟨"_law_box", c_law_box, top 61⟩
def c_law_pairs : Fn := ⟨["row", "is_closed"], ["row", "is_closed", "found"], [
  .asg (.name 2) (.zipV false (some false) (.var 0) (.sl (.var 0) (.int 1) .non)),
  .ife (.var 1) [.expr (.meth "append" (.var 2) [.tup [.ix (.var 0) (.neg (.int 1)), .ix (.var 0) (.int 0)]])] [],
  .ret (.var 2)]⟩
def d_law_pairs : Dfn := ⟨"_law_pairs", c_law_pairs, top 62⟩
def c_law_lines : Fn := ⟨["spring", "frame", "most"], ["spring", "frame", "most", "turn", "found", "many", "branch", "end", "some"], [
  .par 4 5 (.lst (some false) []) (.bin .Sub (.var 2) (.call "_law_draw" [.var 0, .ite (.cmp .Gt (.call "_law_draw" [.var 0, .int 4]) (.int 0)) (.bin .Add (.bin .FloorDiv (.var 2) (.int 2)) (.int 1)) (.bin .Add (.var 2) (.int 1))])),
  .for_ (.name 3) (.rng1 (.var 5)) [.asg (.name 6) (.call "_law_draw" [.var 0, .int 8]), .ife (.and (.cmp .Eq (.var 6) (.int 0)) (.cmp .LtE (.bin .Add (.blt "len" [.var 4]) (.int 4)) (.var 5))) [.asg (.name 4) (.cat false (.var 4) (.call "_law_pairs" [.call "_law_box" [.var 0, .var 1], .bl true]))] [.ife (.and (.cmp .Lt (.var 6) (.int 3)) (.cmp .LtE (.bin .Add (.blt "len" [.var 4]) (.int 3)) (.var 5))) [.asg (.name 4) (.cat false (.var 4) (.call "_law_pairs" [.call "_law_row" [.var 0, .var 1, .int 3, .bl true], .bl true]))] [.ife (.and (.cmp .Lt (.var 6) (.int 5)) (.and (.cmp .NotEq (.var 4) (.lst none [])) (.cmp .Lt (.blt "len" [.var 4]) (.var 5)))) [.par 7 8 (.ix (.call "_law_one_of" [.var 0, .var 4]) (.int 1)) (.call "_law_row" [.var 0, .var 1, .int 2, .bl false]), .expr (.meth "append" (.var 4) [.tup [.var 7, .ite (.cmp .NotEq (.ix (.var 8) (.int 0)) (.var 7)) (.ix (.var 8) (.int 0)) (.ix (.var 8) (.int 1))]])] [.ife (.and (.cmp .Eq (.var 6) (.int 5)) (.and (.cmp .NotEq (.var 4) (.lst none [])) (.cmp .Lt (.blt "len" [.var 4]) (.var 5)))) [.expr (.meth "append" (.var 4) [.stp (.call "_law_one_of" [.var 0, .var 4]) (.call "_law_one_of" [.var 0, .tup [.int 1, .neg (.int 1)]])])] [.ife (.cmp .Lt (.blt "len" [.var 4]) (.var 5)) [.expr (.meth "append" (.var 4) [.call "_law_row" [.var 0, .var 1, .int 2, .bl false]])] []]]]]],
  .ret (.var 4)]⟩
def d_law_lines : Dfn := ⟨"_law_lines", c_law_lines, top 63⟩
def c_law_places : Fn := ⟨["lines"], ["lines", "each"], [
  .ret (.lc (.tup [.call "_law_own" [.ix (.var 1) (.int 0)], .call "_law_own" [.ix (.var 1) (.int 1)]]) (.name 1) (.seq (.var 0)) [] [1])]⟩
def d_law_places : Dfn := ⟨"_law_places", c_law_places, top 64⟩
def c_law_middle : Fn := ⟨["p", "q"], ["p", "q"], [
  .ret (.call "_law_place" [.bin .Add (.bin .Mult (.ix (.var 0) (.int 0)) (.ix (.var 1) (.int 2))) (.bin .Mult (.ix (.var 1) (.int 0)) (.ix (.var 0) (.int 2))), .bin .Add (.bin .Mult (.ix (.var 0) (.int 1)) (.ix (.var 1) (.int 2))) (.bin .Mult (.ix (.var 1) (.int 1)) (.ix (.var 0) (.int 2))), .bin .Mult (.bin .Mult (.int 2) (.ix (.var 0) (.int 2))) (.ix (.var 1) (.int 2))])]⟩
def d_law_middle : Dfn := ⟨"_law_middle", c_law_middle, top 65⟩
def c_law_any_place : Fn := ⟨["spring", "frame", "walls", "lone"], ["spring", "frame", "walls", "lone", "branch", "some", "one", "two"], [
  .asg (.name 4) (.call "_law_draw" [.var 0, .int 7]),
  .ife (.and (.cmp .Lt (.var 4) (.int 4)) (.cmp .NotEq (.var 2) (.lst none []))) [.par 6 7 (.call "_law_one_of" [.var 0, .var 2]) (.call "_law_one_of" [.var 0, .var 2]), .asg (.name 5) (.ite (.cmp .Eq (.var 4) (.int 2)) (.call "_law_meet" [.var 6, .var 7]) (.ite (.cmp .Eq (.var 4) (.int 1)) (.lst none [.ix (.var 6) (.int 0)]) (.lst none []))), .ife (.cmp .NotEq (.var 5) (.lst none [])) [.ret (.call "_law_one_of" [.var 0, .var 5])] [], .ret (.ite (.cmp .Eq (.var 4) (.int 0)) (.call "_law_middle" [.ix (.var 6) (.int 0), .ix (.var 6) (.int 1)]) (.call "_law_middle" [.ix (.var 7) (.int 0), .ix (.var 6) (.int 1)]))] [],
  .ife (.and (.cmp .Eq (.var 4) (.int 4)) (.cmp .NotEq (.var 3) (.lst none []))) [.ret (.call "_law_one_of" [.var 0, .var 3])] [],
  .ret (.call "_law_own" [.call "_law_dot" [.var 0, .var 1]])]⟩
def d_law_any_place : Dfn := ⟨"_law_any_place", c_law_any_place, top 66⟩
def c_law_right : Fn := ⟨["spring"], ["spring", "turn", "each", "frame", "lines", "walls", "lone", "dots", "due", "back", "corners", "edges"], [
  .asg (.name 3) (.call "_law_frame" [.var 0]),
  .asg (.name 4) (.blt "tuple" [.call "_law_lines" [.var 0, .var 3, .call "_law_one_of" [.var 0, .tup [.int 4, .int 6, .int 6, .int 8, .int 8, .int 12]]]]),
  .asg (.name 5) (.call "_law_places" [.var 4]),
  .asg (.name 6) (.lc (.call "_law_any_place" [.var 0, .var 3, .var 5, .lst none []]) (.name 1) (.rng1 (.call "_law_draw" [.var 0, .int 4])) [] [1]),
  .asg (.name 7) (.blt "tuple" [.lc (.call "_law_told" [.var 2]) (.name 2) (.seq (.var 6)) [] [2]]),
  .asg (.tup [(.name 10), (.name 11)]) (.call "_law_cut" [.var 5, .var 6]),
  .asg (.name 8) (.lst none [.blt "tuple" [.lc (.call "_law_told" [.var 2]) (.name 2) (.seq (.var 10)) [] [2]], .blt "tuple" [.var 11]]),
  .ife (.cmp .NotEq (.blt "repr" [.lst none [.call "vertices_of" [.var 4, .var 7], .call "edges_of" [.var 4, .var 7]]]) (.blt "repr" [.var 8])) [.ret (.bl false)] [],
  .asg (.name 9) (.blt "tuple" [.lc (.rev (.var 2)) (.name 2) (.seq (.rev (.var 4))) [] [2]]),
  .ret (.cmp .Eq (.blt "repr" [.lst none [.callK "vertices_of" [] ["points", "segments"] [.bin .Add (.var 7) (.var 7), .var 9], .callK "edges_of" [] ["points", "segments"] [.rev (.var 7), .var 9]]]) (.blt "repr" [.var 8]))]⟩
def d_law_right : Dfn := ⟨"_law_right", c_law_right, top 67⟩
def c_p_law : Fn := ⟨["script"], ["script", "turn"], [
  .ret (.blt "all" [.lc (.call "_law_right" [.call "_law_spring" [.var 0, .var 1]]) (.name 1) (.rng1 (.blt "max" [.int 1, .blt "min" [.blt "len" [.var 0], .int 3]])) [] [1]])]⟩
def d_p_law : Dfn := ⟨"law", c_p_law, top 68⟩
def defs : List Dfn := [d_p_is_whole, d_p_are_wholes, d_p_is_ratio, d_p_ratio, d_p_plus, d_p_minus, d_p_times, d_p_over, d_p_sign_of, d_p_is_less, d_p_is_pointed, d_p_is_segmented, d_p_step_of, d_p_cross, d_p_turn_by, d_p_comes_first, d_p_ascending, d_p_is_on_by, d_p_at_part, d_p_shared_line, d_p_common_by, d_p_with_point, d_p_all_vertices, d_p_all_edges, d_p_check_points, d_p_check_lines, d_p_vertices_of, d_p_edges_of, d_law_spring, d_law_draw, d_law_one_of, d_law_divisor, d_law_part, d_law_place, d_law_told, d_law_own, d_law_side, d_law_is_less, d_law_lies_on, d_law_bottom, d_law_rising, d_law_meet, d_law_cut, d_law_frame, d_law_grid, d_law_dot, d_law_row, d_law_box, d_law_pairs, d_law_lines, d_law_places, d_law_middle, d_law_any_place, d_law_right, d_p_law]
def tb : List (Str × D) := [("ZERO", .tup [.int 0, .int 1]),
  ("MOST_SEGMENTS", .int 24)]
def mk : Mk := ⟨["isinstance", "bool", "int", "all", "len", "tuple", "list", "enumerate", "zip", "sorted", "abs", "divmod", "range", "repr", "max", "min"],
  [("gcd", "math.gcd")],
  (["is_whole", "are_wholes", "ratio", "is_ratio", "is_pointed", "minus", "times", "sign_of", "cross", "step_of", "is_less", "comes_first", "ascending", "turn_by", "plus", "shared_line", "at_part", "over", "is_on_by", "with_point", "common_by", "is_segmented", "check_points", "check_lines"] : List Str) ++ (["all_vertices", "all_edges", "_law_draw", "_law_divisor", "_law_part", "_law_place", "_law_side", "_law_is_less", "_law_bottom", "_law_lies_on", "_law_rising", "_law_meet", "_law_one_of", "_law_grid", "_law_pairs", "_law_box", "_law_row", "_law_own", "_law_middle", "_law_dot", "_law_frame", "_law_lines", "_law_places", "_law_any_place"] : List Str) ++ (["_law_told", "_law_cut", "vertices_of", "edges_of", "_law_right", "_law_spring"] : List Str),
  [("vertices_of", 0, ["points", "segments"]), ("edges_of", 0, ["points", "segments"])],
  ["ZERO", "MOST_SEGMENTS"],
  [],
  [],
  []⟩
theorem ck_p_is_whole : ckD mk d_p_is_whole = true := by decide +kernel
theorem ck_p_are_wholes : ckD mk d_p_are_wholes = true := by decide +kernel
theorem ck_p_is_ratio : ckD mk d_p_is_ratio = true := by decide +kernel
theorem ck_p_ratio : ckD mk d_p_ratio = true := by decide +kernel
theorem ck_p_plus : ckD mk d_p_plus = true := by decide +kernel
theorem ck_p_minus : ckD mk d_p_minus = true := by decide +kernel
theorem ck_p_times : ckD mk d_p_times = true := by decide +kernel
theorem ck_p_over : ckD mk d_p_over = true := by decide +kernel
theorem ck_p_sign_of : ckD mk d_p_sign_of = true := by decide +kernel
theorem ck_p_is_less : ckD mk d_p_is_less = true := by decide +kernel
theorem ck_p_is_pointed : ckD mk d_p_is_pointed = true := by decide +kernel
theorem ck_p_is_segmented : ckD mk d_p_is_segmented = true := by decide +kernel
theorem ck_p_step_of : ckD mk d_p_step_of = true := by decide +kernel
theorem ck_p_cross : ckD mk d_p_cross = true := by decide +kernel
theorem ck_p_turn_by : ckD mk d_p_turn_by = true := by decide +kernel
theorem ck_p_comes_first : ckD mk d_p_comes_first = true := by decide +kernel
theorem ck_p_ascending : ckD mk d_p_ascending = true := by decide +kernel
theorem ck_p_is_on_by : ckD mk d_p_is_on_by = true := by decide +kernel
theorem ck_p_at_part : ckD mk d_p_at_part = true := by decide +kernel
theorem ck_p_shared_line : ckD mk d_p_shared_line = true := by decide +kernel
theorem ck_p_common_by : ckD mk d_p_common_by = true := by decide +kernel
theorem ck_p_with_point : ckD mk d_p_with_point = true := by decide +kernel
theorem ck_p_all_vertices : ckD mk d_p_all_vertices = true := by decide +kernel
theorem ck_p_all_edges : ckD mk d_p_all_edges = true := by decide +kernel
theorem ck_p_check_points : ckD mk d_p_check_points = true := by decide +kernel
theorem ck_p_check_lines : ckD mk d_p_check_lines = true := by decide +kernel
theorem ck_p_vertices_of : ckD mk d_p_vertices_of = true := by decide +kernel
theorem ck_p_edges_of : ckD mk d_p_edges_of = true := by decide +kernel
theorem ck_law_spring : ckD mk d_law_spring = true := by decide +kernel
theorem ck_law_draw : ckD mk d_law_draw = true := by decide +kernel
theorem ck_law_one_of : ckD mk d_law_one_of = true := by decide +kernel
theorem ck_law_divisor : ckD mk d_law_divisor = true := by decide +kernel
theorem ck_law_part : ckD mk d_law_part = true := by decide +kernel
theorem ck_law_place : ckD mk d_law_place = true := by decide +kernel
theorem ck_law_told : ckD mk d_law_told = true := by decide +kernel
theorem ck_law_own : ckD mk d_law_own = true := by decide +kernel
theorem ck_law_side : ckD mk d_law_side = true := by decide +kernel
theorem ck_law_is_less : ckD mk d_law_is_less = true := by decide +kernel
theorem ck_law_lies_on : ckD mk d_law_lies_on = true := by decide +kernel
theorem ck_law_bottom : ckD mk d_law_bottom = true := by decide +kernel
theorem ck_law_rising : ckD mk d_law_rising = true := by decide +kernel
theorem ck_law_meet : ckD mk d_law_meet = true := by decide +kernel
theorem ck_law_cut : ckD mk d_law_cut = true := by decide +kernel
theorem ck_law_frame : ckD mk d_law_frame = true := by decide +kernel
theorem ck_law_grid : ckD mk d_law_grid = true := by decide +kernel
theorem ck_law_dot : ckD mk d_law_dot = true := by decide +kernel
theorem ck_law_row : ckD mk d_law_row = true := by decide +kernel
theorem ck_law_box : ckD mk d_law_box = true := by decide +kernel
theorem ck_law_pairs : ckD mk d_law_pairs = true := by decide +kernel
theorem ck_law_lines : ckD mk d_law_lines = true := by decide +kernel
theorem ck_law_places : ckD mk d_law_places = true := by decide +kernel
theorem ck_law_middle : ckD mk d_law_middle = true := by decide +kernel
theorem ck_law_any_place : ckD mk d_law_any_place = true := by decide +kernel
theorem ck_law_right : ckD mk d_law_right = true := by decide +kernel
theorem ck_p_law : ckD mk d_p_law = true := by decide +kernel
theorem ck : ∀ d ∈ defs, ckD mk d = true := by
  simp only [defs, List.forall_mem_cons]
  exact ⟨ck_p_is_whole, ck_p_are_wholes, ck_p_is_ratio, ck_p_ratio, ck_p_plus, ck_p_minus, ck_p_times, ck_p_over, ck_p_sign_of, ck_p_is_less, ck_p_is_pointed, ck_p_is_segmented, ck_p_step_of, ck_p_cross, ck_p_turn_by, ck_p_comes_first, ck_p_ascending, ck_p_is_on_by, ck_p_at_part, ck_p_shared_line, ck_p_common_by, ck_p_with_point, ck_p_all_vertices, ck_p_all_edges, ck_p_check_points, ck_p_check_lines, ck_p_vertices_of, ck_p_edges_of, ck_law_spring, ck_law_draw, ck_law_one_of, ck_law_divisor, ck_law_part, ck_law_place, ck_law_told, ck_law_own, ck_law_side, ck_law_is_less, ck_law_lies_on, ck_law_bottom, ck_law_rising, ck_law_meet, ck_law_cut, ck_law_frame, ck_law_grid, ck_law_dot, ck_law_row, ck_law_box, ck_law_pairs, ck_law_lines, ck_law_places, ck_law_middle, ck_law_any_place, ck_law_right, ck_p_law, fun _ h => nomatch h⟩
theorem bn_p_is_whole : d_p_is_whole.Bn := fun _ _ _ _ _ _ us hl => match us, hl with | [_], _ => rfl
theorem bn_p_are_wholes : d_p_are_wholes.Bn := fun _ _ _ _ _ _ us hl => match us, hl with | [_, _], _ => rfl
theorem bn_p_is_ratio : d_p_is_ratio.Bn := fun _ _ _ _ _ _ us hl => match us, hl with | [_], _ => rfl
theorem bn_p_ratio : d_p_ratio.Bn := fun _ _ _ _ _ _ us hl => match us, hl with | [_, _], _ => rfl
theorem bn_p_plus : d_p_plus.Bn := fun _ _ _ _ _ _ us hl => match us, hl with | [_, _], _ => rfl
theorem bn_p_minus : d_p_minus.Bn := fun _ _ _ _ _ _ us hl => match us, hl with | [_, _], _ => rfl
theorem bn_p_times : d_p_times.Bn := fun _ _ _ _ _ _ us hl => match us, hl with | [_, _], _ => rfl
theorem bn_p_over : d_p_over.Bn := fun _ _ _ _ _ _ us hl => match us, hl with | [_, _], _ => rfl
theorem bn_p_sign_of : d_p_sign_of.Bn := fun _ _ _ _ _ _ us hl => match us, hl with | [_], _ => rfl
theorem bn_p_is_less : d_p_is_less.Bn := fun _ _ _ _ _ _ us hl => match us, hl with | [_, _], _ => rfl
theorem bn_p_is_pointed : d_p_is_pointed.Bn := fun _ _ _ _ _ _ us hl => match us, hl with | [_], _ => rfl
theorem bn_p_is_segmented : d_p_is_segmented.Bn := fun _ _ _ _ _ _ us hl => match us, hl with | [_], _ => rfl
theorem bn_p_step_of : d_p_step_of.Bn := fun _ _ _ _ _ _ us hl => match us, hl with | [_, _], _ => rfl
theorem bn_p_cross : d_p_cross.Bn := fun _ _ _ _ _ _ us hl => match us, hl with | [_, _], _ => rfl
theorem bn_p_turn_by : d_p_turn_by.Bn := fun _ _ _ _ _ _ us hl => match us, hl with | [_, _, _], _ => rfl
theorem bn_p_comes_first : d_p_comes_first.Bn := fun _ _ _ _ _ _ us hl => match us, hl with | [_, _], _ => rfl
theorem bn_p_ascending : d_p_ascending.Bn := fun _ _ _ _ _ _ us hl => match us, hl with | [_], _ => rfl
theorem bn_p_is_on_by : d_p_is_on_by.Bn := fun _ _ _ _ _ _ us hl => match us, hl with | [_, _], _ => rfl
theorem bn_p_at_part : d_p_at_part.Bn := fun _ _ _ _ _ _ us hl => match us, hl with | [_, _, _], _ => rfl
theorem bn_p_shared_line : d_p_shared_line.Bn := fun _ _ _ _ _ _ us hl => match us, hl with | [_, _], _ => rfl
theorem bn_p_common_by : d_p_common_by.Bn := fun _ _ _ _ _ _ us hl => match us, hl with | [_, _], _ => rfl
theorem bn_p_with_point : d_p_with_point.Bn := fun _ _ _ _ _ _ us hl => match us, hl with | [_, _], _ => rfl
theorem bn_p_all_vertices : d_p_all_vertices.Bn := fun _ _ _ _ _ _ us hl => match us, hl with | [_, _], _ => rfl
theorem bn_p_all_edges : d_p_all_edges.Bn := fun _ _ _ _ _ _ us hl => match us, hl with | [_, _], _ => rfl
theorem bn_p_check_points : d_p_check_points.Bn := fun _ _ _ _ _ _ us hl => match us, hl with | [_], _ => rfl
theorem bn_p_check_lines : d_p_check_lines.Bn := fun _ _ _ _ _ _ us hl => match us, hl with | [_, _], _ => rfl
theorem bn_p_vertices_of : d_p_vertices_of.Bn := fun _ _ _ _ _ _ us hl => match us, hl with | [_, _], _ => rfl
theorem bn_p_edges_of : d_p_edges_of.Bn := fun _ _ _ _ _ _ us hl => match us, hl with | [_, _], _ => rfl
theorem bn_law_spring : d_law_spring.Bn := fun _ _ _ _ _ _ us hl => match us, hl with | [_, _], _ => rfl
theorem bn_law_draw : d_law_draw.Bn := fun _ _ _ _ _ _ us hl => match us, hl with | [_, _], _ => rfl
theorem bn_law_one_of : d_law_one_of.Bn := fun _ _ _ _ _ _ us hl => match us, hl with | [_, _], _ => rfl
theorem bn_law_divisor : d_law_divisor.Bn := fun _ _ _ _ _ _ us hl => match us, hl with | [_, _], _ => rfl
theorem bn_law_part : d_law_part.Bn := fun _ _ _ _ _ _ us hl => match us, hl with | [_, _], _ => rfl
theorem bn_law_place : d_law_place.Bn := fun _ _ _ _ _ _ us hl => match us, hl with | [_, _, _], _ => rfl
theorem bn_law_told : d_law_told.Bn := fun _ _ _ _ _ _ us hl => match us, hl with | [_], _ => rfl
theorem bn_law_own : d_law_own.Bn := fun _ _ _ _ _ _ us hl => match us, hl with | [_], _ => rfl
theorem bn_law_side : d_law_side.Bn := fun _ _ _ _ _ _ us hl => match us, hl with | [_, _, _], _ => rfl
theorem bn_law_is_less : d_law_is_less.Bn := fun _ _ _ _ _ _ us hl => match us, hl with | [_, _], _ => rfl
theorem bn_law_lies_on : d_law_lies_on.Bn := fun _ _ _ _ _ _ us hl => match us, hl with | [_, _, _], _ => rfl
theorem bn_law_bottom : d_law_bottom.Bn := fun _ _ _ _ _ _ us hl => match us, hl with | [_], _ => rfl
theorem bn_law_rising : d_law_rising.Bn := fun _ _ _ _ _ _ us hl => match us, hl with | [_], _ => rfl
theorem bn_law_meet : d_law_meet.Bn := fun _ _ _ _ _ _ us hl => match us, hl with | [_, _], _ => rfl
theorem bn_law_cut : d_law_cut.Bn := fun _ _ _ _ _ _ us hl => match us, hl with | [_, _], _ => rfl
theorem bn_law_frame : d_law_frame.Bn := fun _ _ _ _ _ _ us hl => match us, hl with | [_], _ => rfl
theorem bn_law_grid : d_law_grid.Bn := fun _ _ _ _ _ _ us hl => match us, hl with | [_, _, _, _], _ => rfl
theorem bn_law_dot : d_law_dot.Bn := fun _ _ _ _ _ _ us hl => match us, hl with | [_, _], _ => rfl
theorem bn_law_row : d_law_row.Bn := fun _ _ _ _ _ _ us hl => match us, hl with | [_, _, _, _], _ => rfl
theorem bn_law_box : d_law_box.Bn := fun _ _ _ _ _ _ us hl => match us, hl with | [_, _], _ => rfl
theorem bn_law_pairs : d_law_pairs.Bn := fun _ _ _ _ _ _ us hl => match us, hl with | [_, _], _ => rfl
theorem bn_law_lines : d_law_lines.Bn := fun _ _ _ _ _ _ us hl => match us, hl with | [_, _, _], _ => rfl
theorem bn_law_places : d_law_places.Bn := fun _ _ _ _ _ _ us hl => match us, hl with | [_], _ => rfl
theorem bn_law_middle : d_law_middle.Bn := fun _ _ _ _ _ _ us hl => match us, hl with | [_, _], _ => rfl
theorem bn_law_any_place : d_law_any_place.Bn := fun _ _ _ _ _ _ us hl => match us, hl with | [_, _, _, _], _ => rfl
theorem bn_law_right : d_law_right.Bn := fun _ _ _ _ _ _ us hl => match us, hl with | [_], _ => rfl
theorem bn_p_law : d_p_law.Bn := fun _ _ _ _ _ _ us hl => match us, hl with | [_], _ => rfl
theorem bn : ∀ d ∈ defs, d.Bn := by
  simp only [defs, List.forall_mem_cons]
  exact ⟨bn_p_is_whole, bn_p_are_wholes, bn_p_is_ratio, bn_p_ratio, bn_p_plus, bn_p_minus, bn_p_times, bn_p_over, bn_p_sign_of, bn_p_is_less, bn_p_is_pointed, bn_p_is_segmented, bn_p_step_of, bn_p_cross, bn_p_turn_by, bn_p_comes_first, bn_p_ascending, bn_p_is_on_by, bn_p_at_part, bn_p_shared_line, bn_p_common_by, bn_p_with_point, bn_p_all_vertices, bn_p_all_edges, bn_p_check_points, bn_p_check_lines, bn_p_vertices_of, bn_p_edges_of, bn_law_spring, bn_law_draw, bn_law_one_of, bn_law_divisor, bn_law_part, bn_law_place, bn_law_told, bn_law_own, bn_law_side, bn_law_is_less, bn_law_lies_on, bn_law_bottom, bn_law_rising, bn_law_meet, bn_law_cut, bn_law_frame, bn_law_grid, bn_law_dot, bn_law_row, bn_law_box, bn_law_pairs, bn_law_lines, bn_law_places, bn_law_middle, bn_law_any_place, bn_law_right, bn_p_law, fun _ h => nomatch h⟩
theorem bk_0 : d_p_vertices_of.BnK 0 ["points", "segments"] := fun _ _ _ _ _ _ us ws hl hk => match us, ws, hl, hk with | [], [_, _], _, _ => rfl
theorem bk_1 : d_p_edges_of.BnK 0 ["points", "segments"] := fun _ _ _ _ _ _ us ws hl hk => match us, ws, hl, hk with | [], [_, _], _, _ => rfl
theorem nd : (defs.map Dfn.nm).Nodup := by decide +kernel
theorem bk : ∀ p ∈ mk.kwl, ∀ d ∈ defs, d.nm = p.1 → d.BnK p.2.1 p.2.2 := by
  intro p hp d hd e
  simp only [mk, List.mem_cons, List.not_mem_nil, or_false] at hp
  rcases hp with rfl | rfl
  · rw [show d = d_p_vertices_of from name_one nd hd (by simp only [defs, List.mem_cons, true_or, or_true]) e]; exact bk_0
  · rw [show d = d_p_edges_of from name_one nd hd (by simp only [defs, List.mem_cons, true_or, or_true]) e]; exact bk_1
theorem xi : mk.xs.all Xcl.ok = true := by decide +kernel
theorem xbn : ∀ x ∈ mk.xs, ∀ f, x.fo = some f → x.Bn f := by intro x hx; cases hx
end K05

set_option maxHeartbeats 0
namespace K05
open PySem PySem.Spec PyProof.Rows L2 Dn
abbrev R : PySem.W.OpenRow := PySem.W.OpenLaw.row PySem.Challenge.rw_bendatlas_k05_whole_vertices_and_edges_b
abbrev hk : PySem.W.Hook := hookN 4 defs tb mk
def ob (s : PySem.W.SharedT) : AlN := obsNG 4 defs tb mk (HandSHeadRun.getT s)
theorem ob_eq (s : PySem.W.SharedT) : ob s = hk.obs s.abs := obsNG_eq (HandSHeadRun.getT_eq s)
abbrev loose0 : List Str := ["__name__", "BendError", "InvalidSegments", "InvalidPoints", "is_whole", "are_wholes", "ZERO", "is_ratio", "ratio", "plus", "minus", "times", "over", "sign_of", "is_less", "is_pointed", "is_segmented", "step_of", "cross", "turn_by", "comes_first", "ascending", "is_on_by", "at_part", "shared_line", "common_by", "with_point", "all_vertices", "all_edges", "MOST_SEGMENTS"]
abbrev loose1 : List Str := ["check_points", "check_lines", "vertices_of", "edges_of", "_law_spring", "_law_draw", "_law_one_of", "_law_divisor", "_law_part", "_law_place", "_law_told", "_law_own", "_law_side", "_law_is_less", "_law_lies_on", "_law_bottom", "_law_rising", "_law_meet", "_law_cut", "_law_frame", "_law_grid", "_law_dot", "_law_row", "_law_box", "_law_pairs", "_law_lines", "_law_places", "_law_middle", "_law_any_place", "_law_right"]
abbrev loose : List Str := loose0 ++ loose1
theorem run (w : World) : HandSHeadRun.RunEqI R (PySem.W.view R.prog [0, 68]) hk ob 30000 loose w := by
  unfold HandSHeadRun.RunEqI
  kernel_rfl
end K05

set_option maxHeartbeats 4000000
namespace Dn
open PySem PySem.Spec PyProof.Rows L2
/-! ### while, without its count -/
theorem wh_stop {G : GE} {c : C} {body : List CS} {δ : En} {S S1 : Sto} (h : evT G c δ S = some (false, S1)) : whX G c body δ S = some (.nx δ, S1) :=
  whD_of (n := 1) (by unfold whN; rw [h]; rfl)
theorem wh_go {G : GE} {c : C} {body : List CS} {δ δ1 : En} {S S1 S2 : Sto} {r : Fl × Sto} (h : evT G c δ S = some (true, S1)) (h1 : exSs G body δ S1 = some (.nx δ1, S2)) (h2 : whX G c body δ1 S2 = some r) : whX G c body δ S = some r := by
  obtain ⟨n, e⟩ := of_whD h2
  refine whD_of (n := n + 1) ?_
  unfold whN
  rw [h]
  simp only [Option.bind_some, ↓reduceIte]
  rw [h1]
  exact e
/-! ### the store but for one object -/
def Same (k : Nat) (S S' : Sto) : Prop := S'.length = S.length ∧ ∀ i, i ≠ k → S'[i]? = S[i]?
theorem Same.refl {k : Nat} {S : Sto} : Same k S S := ⟨rfl, fun _ _ => rfl⟩
theorem Same.trans {k : Nat} {S S1 S2 : Sto} (a : Same k S S1) (b : Same k S1 S2) : Same k S S2 := ⟨b.1.trans a.1, fun i h => (b.2 i h).trans (a.2 i h)⟩
theorem Same.set {k : Nat} {S : Sto} {mo : MO} : Same k S (S.set k mo) := ⟨List.length_set, fun i h => List.getElem?_set_ne (Ne.symm h)⟩
/-- a spring at k, drawn from at most j times past its own digits -/
def Sp (k j : Nat) (S : Sto) : Prop := ∃ a b c : Int, S[k]? = some (.lst true [.int a, .int b, .int c]) ∧ 0 ≤ b ∧ b < 2147483648 ∧ 0 ≤ c ∧ c ≤ j
theorem Sp.mono {k j j' : Nat} {S : Sto} (h : Sp k j S) (hj : j ≤ j') : Sp k j' S := by
  obtain ⟨a, b, c, e, h1, h2, h3, h4⟩ := h
  exact ⟨a, b, c, e, h1, h2, h3, by omega⟩
def gcdI (x y : Int) : Int := ((Nat.gcd x.natAbs y.natAbs : Nat) : Int)
end Dn
namespace Geo
open PySem PySem.Spec PyProof.Rows L2 Dn
def g_draw : Fn := ⟨["spring", "many"], ["spring", "many", "seed", "digit"], [
  .ife (.cmp .Gt (.ix (.var 0) (.int 0)) (.int 0)) [.asg (.tup [(.sub (.var 0) (.int 0)), (.name 3)]) (.blt "divmod" [.ix (.var 0) (.int 0), .var 1]), .ret (.var 3)] [],
  .asg (.sub (.var 0) (.int 2)) (.bin .Add (.ix (.var 0) (.int 2)) (.int 1)),
  .asg (.name 2) (.bin .Mod (.blt "int" [.bin .Add (.ix (.var 0) (.int 1)) (.bin .Mult (.int 70003) (.ix (.var 0) (.int 2)))]) (.int 2147483629)),
  .asg (.sub (.var 0) (.int 1)) (.bin .Mod (.blt "int" [.bin .Add (.bin .Mult (.var 2) (.bin .Add (.bin .Mod (.blt "int" [.var 2]) (.int 6007)) (.int 50021))) (.bin .Mult (.int 29) (.ix (.var 0) (.int 2)))]) (.int 2147483629)),
  .ret (.bin .Mod (.blt "int" [.bin .FloorDiv (.ix (.var 0) (.int 1)) (.int 769)]) (.var 1))]⟩
def g_one_of : Fn := ⟨["spring", "some"], ["spring", "some"], [
  .ret (.ix (.var 1) (.call "_law_draw" [.var 0, .blt "len" [.var 1]]))]⟩
def g_divisor : Fn := ⟨["one", "two"], ["one", "two", "far", "rest"], [
  .par 2 3 (.blt "abs" [.var 0]) (.blt "abs" [.var 1]),
  .whl (.cmp .NotEq (.var 3) (.int 0)) [.par 2 3 (.var 3) (.bin .Mod (.blt "int" [.var 2]) (.var 3))],
  .ret (.var 2)]⟩
def g_part : Fn := ⟨["top", "base"], ["top", "base", "far"], [
  .asg (.name 2) (.ite (.cmp .Gt (.var 1) (.int 0)) (.call "_law_divisor" [.var 0, .var 1]) (.bin .Sub (.int 0) (.call "_law_divisor" [.var 0, .var 1]))),
  .ret (.tup [.bin .FloorDiv (.var 0) (.var 2), .bin .FloorDiv (.var 1) (.var 2)])]⟩
def g_place : Fn := ⟨["x", "y", "w"], ["x", "y", "w", "far"], [
  .asg (.name 3) (.ite (.cmp .Gt (.var 2) (.int 0)) (.call "_law_divisor" [.call "_law_divisor" [.var 0, .var 1], .var 2]) (.bin .Sub (.int 0) (.call "_law_divisor" [.call "_law_divisor" [.var 0, .var 1], .var 2]))),
  .ret (.tup [.bin .FloorDiv (.var 0) (.var 3), .bin .FloorDiv (.var 1) (.var 3), .bin .FloorDiv (.var 2) (.var 3)])]⟩
def g_told : Fn := ⟨["place"], ["place"], [
  .ret (.tup [.call "_law_part" [.ix (.var 0) (.int 0), .ix (.var 0) (.int 2)], .call "_law_part" [.ix (.var 0) (.int 1), .ix (.var 0) (.int 2)]])]⟩
def g_own : Fn := ⟨["told"], ["told", "a", "b", "c", "d"], [
  .asg (.tup [(.tup [(.name 1), (.name 2)]), (.tup [(.name 3), (.name 4)])]) (.var 0),
  .ret (.call "_law_place" [.bin .Mult (.var 1) (.var 4), .bin .Mult (.var 3) (.var 2), .bin .Mult (.var 2) (.var 4)])]⟩
def g_frame : Fn := ⟨["spring"], ["spring", "wide", "x", "y", "step", "under"], [
  .asg (.name 1) (.call "_law_one_of" [.var 0, .tup [.int 3, .int 4, .int 5]]),
  .asg (.tup [(.name 2), (.name 3), (.name 4), (.name 5)]) (.call "_law_one_of" [.var 0, .tup [.tup [.int 0, .int 0, .int 1, .int 1], .tup [.int 0, .int 0, .int 1, .int 1], .tup [.neg (.int 2), .neg (.int 1), .int 1, .int 1], .tup [.neg (.int 3), .int 1, .int 1, .int 2], .tup [.int 0, .neg (.int 5), .int 2, .int 3], .tup [.int 1, .int 1, .int 5, .int 6], .tup [.neg (.int 700000), .int 250001, .int 100003, .int 1], .tup [.neg (.int 1), .neg (.int 2), .int 2, .int 1]]]),
  .ret (.tup [.var 2, .var 3, .var 4, .var 5, .var 1])]⟩
def g_grid : Fn := ⟨["frame", "i", "j", "n"], ["frame", "i", "j", "n", "x", "y", "step", "under", "wide"], [
  .asg (.tup [(.name 4), (.name 5), (.name 6), (.name 7), (.name 8)]) (.var 0),
  .ret (.tup [.call "_law_part" [.bin .Add (.bin .Mult (.var 4) (.var 3)) (.bin .Mult (.var 6) (.var 1)), .bin .Mult (.var 7) (.var 3)], .call "_law_part" [.bin .Add (.bin .Mult (.var 5) (.var 3)) (.bin .Mult (.var 6) (.var 2)), .bin .Mult (.var 7) (.var 3)]])]⟩
def g_dot : Fn := ⟨["spring", "frame"], ["spring", "frame", "n", "i", "j"], [
  .asg (.name 2) (.call "_law_one_of" [.var 0, .tup [.int 1, .int 1, .int 2, .int 2, .int 3]]),
  .par 3 4 (.call "_law_draw" [.var 0, .bin .Add (.bin .Mult (.var 2) (.ix (.var 1) (.int 4))) (.int 1)]) (.call "_law_draw" [.var 0, .bin .Add (.bin .Mult (.var 2) (.ix (.var 1) (.int 4))) (.int 1)]),
  .ret (.call "_law_grid" [.var 1, .var 3, .var 4, .var 2])]⟩
def g_is_whole : Fn := ⟨["value"], ["value"], [
  .ret (.and (.isi (.var 0) "int") (.not (.isi (.var 0) "bool")))]⟩
def g_are_wholes : Fn := ⟨["value", "many"], ["value", "many", "each"], [
  .ret (.and (.isi (.var 0) "tuple") (.and (.cmp .Eq (.blt "len" [.var 0]) (.var 1)) (.blt "all" [.lc (.call "is_whole" [.var 2]) (.name 2) (.seq (.var 0)) [] [2]])))]⟩
def g_is_ratio : Fn := ⟨["value"], ["value"], [
  .ret (.and (.call "are_wholes" [.var 0, .int 2]) (.and (.cmp .Gt (.ix (.var 0) (.int 1)) (.int 0)) (.cmp .Eq (.blt "gcd" [.ix (.var 0) (.int 0), .ix (.var 0) (.int 1)]) (.int 1))))]⟩
def g_ratio : Fn := ⟨["top", "low"], ["top", "low", "part"], [
  .asg (.name 2) (.ite (.cmp .Gt (.var 1) (.int 0)) (.blt "gcd" [.var 0, .var 1]) (.neg (.blt "gcd" [.var 0, .var 1]))),
  .ret (.tup [.bin .FloorDiv (.var 0) (.var 2), .bin .FloorDiv (.var 1) (.var 2)])]⟩
def g_minus : Fn := ⟨["one", "two"], ["one", "two"], [
  .ret (.call "ratio" [.bin .Sub (.bin .Mult (.ix (.var 0) (.int 0)) (.ix (.var 1) (.int 1))) (.bin .Mult (.ix (.var 1) (.int 0)) (.ix (.var 0) (.int 1))), .bin .Mult (.ix (.var 0) (.int 1)) (.ix (.var 1) (.int 1))])]⟩
def g_times : Fn := ⟨["one", "two"], ["one", "two"], [
  .ret (.call "ratio" [.bin .Mult (.ix (.var 0) (.int 0)) (.ix (.var 1) (.int 0)), .bin .Mult (.ix (.var 0) (.int 1)) (.ix (.var 1) (.int 1))])]⟩
def g_is_pointed : Fn := ⟨["value"], ["value", "each"], [
  .ret (.and (.isi (.var 0) "tuple") (.and (.cmp .Eq (.blt "len" [.var 0]) (.int 2)) (.blt "all" [.lc (.call "is_ratio" [.var 1]) (.name 1) (.seq (.var 0)) [] [1]])))]⟩
def g_step_of : Fn := ⟨["start", "end"], ["start", "end"], [
  .ret (.tup [.call "minus" [.ix (.var 1) (.int 0), .ix (.var 0) (.int 0)], .call "minus" [.ix (.var 1) (.int 1), .ix (.var 0) (.int 1)]])]⟩
def g_cross : Fn := ⟨["one", "two"], ["one", "two"], [
  .ret (.call "minus" [.call "times" [.ix (.var 0) (.int 0), .ix (.var 1) (.int 1)], .call "times" [.ix (.var 0) (.int 1), .ix (.var 1) (.int 0)]])]⟩
structure HasD (PT : List (Str × Fn)) : Prop where
  draw : PT.lookup ("_law_draw" : Str) = some g_draw
  one_of : PT.lookup ("_law_one_of" : Str) = some g_one_of
  divisor : PT.lookup ("_law_divisor" : Str) = some g_divisor
  part : PT.lookup ("_law_part" : Str) = some g_part
structure Has (PT : List (Str × Fn)) : Prop extends HasD PT where
  place : PT.lookup ("_law_place" : Str) = some g_place
  told : PT.lookup ("_law_told" : Str) = some g_told
  own : PT.lookup ("_law_own" : Str) = some g_own
section
variable {tb : List (Str × D)} {PT : List (Str × Fn)} {n j k : Nat} {S : Sto}
theorem draw1 (T : HasD PT) {a b c m : Int} (hS : S[k]? = some (.lst true [.int a, .int b, .int c])) (ha : 0 < a) (hm : 0 < m) (hm2 : m < 1073741824) :
    callN tb PT (n + 1) "_law_draw" [.ref k, .int m] S = some (.int (a % m), S.set k (.lst true [.int (a / m), .int b, .int c])) := by
  have hk : k < S.length := (List.getElem?_eq_some_iff.mp hS).1
  have hset : ∀ v, (S.set k v)[k]? = some v := fun v => List.getElem?_set_self hk
  clear hk
  rw [q_of T.draw rfl]
  simp only [g_draw]
  simp [startD, MO.xs, gc_same, ixD, items, cmpD, atI, bltD, setD, ixN, hS, hset, ha, hm, hm2]
theorem draw2 (T : HasD PT) {a b c m : Int} (hS : S[k]? = some (.lst true [.int a, .int b, .int c])) (ha : ¬ 0 < a) (hm : 0 < m) (hb : 0 ≤ b ∧ b < 2147483648) (hc : 0 ≤ c ∧ c < 1000000000000) :
    ∃ b', 0 ≤ b' ∧ b' < 2147483648 ∧ callN tb PT (n + 1) "_law_draw" [.ref k, .int m] S = some (.int (b' / 769 % m), S.set k (.lst true [.int a, .int b', .int (c + 1)])) := by
  have hk : k < S.length := (List.getElem?_eq_some_iff.mp hS).1
  have m1 : mulOk 70003 (c + 1) = true := mul_ok (nat_lt (by omega) (by omega)) (nat_lt (by omega) (by omega))
  have m2 : mulOk 29 (c + 1) = true := mul_ok (nat_lt (by omega) (by omega)) (nat_lt (by omega) (by omega))
  generalize hs : (b + 70003 * (c + 1)) % 2147483629 = s
  have m3 : mulOk s (s % 6007 + 50021) = true := mul_ok (nat_lt (by omega) (by omega)) (nat_lt (by omega) (by omega))
  have d1 : divOk 769 = true := div_ok (by omega) (by omega)
  refine ⟨(s * (s % 6007 + 50021) + 29 * (c + 1)) % 2147483629, by omega, by omega, ?_⟩
  have hset : ∀ v, (S.set k v)[k]? = some v := fun v => List.getElem?_set_self hk
  clear hk
  rw [q_of T.draw rfl]
  simp only [g_draw]
  simp [startD, MO.xs, gc_same, ixD, items, cmpD, atI, bltD, setD, ixN, binD, dr, hS, hset, ha, hm, hs, m1, m2, m3, d1]
theorem draw (T : HasD PT) {m : Int} (h : Sp k j S) (hj : j < 100000000) (hm : 0 < m) (hm2 : m < 1073741824) :
    ∃ r S', callN tb PT (n + 1) "_law_draw" [.ref k, .int m] S = some (.int r, S') ∧ 0 ≤ r ∧ r < m ∧ Sp k (j + 1) S' ∧ Same k S S' := by
  obtain ⟨a, b, c, e, h1, h2, h3, h4⟩ := h
  have hk : k < S.length := (List.getElem?_eq_some_iff.mp e).1
  by_cases ha : 0 < a
  · exact ⟨_, _, draw1 T e ha hm hm2, Int.emod_nonneg _ (by omega), Int.emod_lt_of_pos _ hm, ⟨_, _, _, List.getElem?_set_self hk, h1, h2, h3, by omega⟩, Same.set⟩
  · obtain ⟨b', g1, g2, e'⟩ := draw2 (n := n) (tb := tb) T e ha hm ⟨h1, h2⟩ ⟨h3, by omega⟩
    exact ⟨_, _, e', Int.emod_nonneg _ (by omega), Int.emod_lt_of_pos _ hm, ⟨_, _, _, List.getElem?_set_self hk, g1, g2, by omega, by omega⟩, Same.set⟩
theorem at_in {xs : List D} {r : Int} (h0 : 0 ≤ r) (h1 : r < xs.length) : ∃ d ∈ xs, atI xs r = some d := by
  obtain ⟨i, rfl⟩ := Int.eq_ofNat_of_zero_le h0
  have hi : i < xs.length := by omega
  exact ⟨xs[i], List.getElem_mem hi, at_nat hi⟩
theorem one_of (T : HasD PT) {xs : List D} (h : Sp k j S) (hj : j < 100000000) (hx : 0 < xs.length) (hx2 : xs.length < 1073741824) :
    ∃ d ∈ xs, ∃ S', callN tb PT (n + 2) "_law_one_of" [.ref k, .tup xs] S = some (d, S') ∧ Sp k (j + 1) S' ∧ Same k S S' := by
  obtain ⟨r, S1, e, h0, h1, w1, s1⟩ := draw (tb := tb) (n := n) T h hj (m := xs.length) (by omega) (by omega)
  obtain ⟨d, hd, ed⟩ := at_in h0 h1
  refine ⟨d, hd, S1, ?_, w1, s1⟩
  rw [q_of T.one_of rfl]
  simp only [g_one_of]
  simp [startD, bltD, items, e, ixD, ed, gc_same, s1.1]
theorem one_of_l (T : HasD PT) {xs : List D} (h : Sp k j S) (hj : j < 100000000) (hx : 0 < xs.length) (hx2 : xs.length < 1073741824) :
    ∃ d ∈ xs, ∃ S', callN tb PT (n + 2) "_law_one_of" [.ref k, .lst xs] S = some (d, S') ∧ Sp k (j + 1) S' ∧ Same k S S' := by
  obtain ⟨r, S1, e, h0, h1, w1, s1⟩ := draw (tb := tb) (n := n) T h hj (m := xs.length) (by omega) (by omega)
  obtain ⟨d, hd, ed⟩ := at_in h0 h1
  refine ⟨d, hd, S1, ?_, w1, s1⟩
  rw [q_of T.one_of rfl]
  simp only [g_one_of]
  simp [startD, bltD, items, e, ixD, ed, gc_same, s1.1]
theorem div_loop {G : GE} {o t : Option D} : ∀ (r f : Nat), whX G (.cmp .NotEq (.var 3) (.int 0)) [.par 2 3 (.var 3) (.bin .Mod (.blt "int" [.var 2]) (.var 3))] [o, t, some (.int f), some (.int r)] S = some (.nx [o, t, some (.int (Nat.gcd f r : Nat)), some (.int 0)], S) := by
  intro r
  induction r using Nat.strongRecOn with
  | _ r ih =>
    intro f
    by_cases hr : r = 0
    · subst hr
      refine (wh_stop (S1 := S) (by simp [vr, cmpD, dr, eqD, flatD, scal, vD])).trans ?_
      simp
    · have hp : 0 < r := by omega
      have h0 : ¬ ((r : Int) = 0) := by omega
      refine wh_go (δ1 := [o, t, some (.int r), some (.int ((f % r : Nat) : Int))]) (S1 := S) (S2 := S) ?_ ?_ ?_
      · simp [vr, cmpD, dr, eqD, flatD, scal, vD, hr]
      · simp [vr, bltD, binD, dr, hp]
      · rw [ih (f % r) (Nat.mod_lt _ (by omega)) r, Nat.gcd_comm f r, Nat.gcd_rec r f, Nat.gcd_comm]
theorem divisor (T : HasD PT) {x y : Int} : callN tb PT (n + 1) "_law_divisor" [.int x, .int y] S = some (.int (gcdI x y), S) := by
  rw [q_of T.divisor rfl]
  simp only [g_divisor]
  have e := fun o t => div_loop (S := S) (G := geN tb PT n) (o := o) (t := t) y.natAbs x.natAbs
  have a1 : (if x < 0 then -x else x) = (x.natAbs : Int) := by split <;> omega
  have a2 : (if y < 0 then -y else y) = (y.natAbs : Int) := by split <;> omega
  simp [startD, bltD, a1, a2, e, gc_same, gcdI]
end
end Geo

set_option maxHeartbeats 4000000
namespace Dn
open PySem PySem.Spec PyProof.Rows L2
/-! ### sizes -/
def Lt (k : Nat) (i : Int) : Prop := i.natAbs < 2 ^ k
theorem Lt.mono {a b : Nat} {i : Int} (h : Lt a i) (hb : a ≤ b) : Lt b i := Nat.lt_of_lt_of_le h (Nat.pow_le_pow_right (by omega) hb)
theorem Lt.mul {a b : Nat} {i j : Int} (h : Lt a i) (g : Lt b j) : Lt (a + b) (i * j) := by
  unfold Lt
  rw [Int.natAbs_mul, Nat.pow_add]
  exact Nat.mul_lt_mul'' h g
theorem Lt.add {a : Nat} {i j : Int} (h : Lt a i) (g : Lt a j) : Lt (a + 1) (i + j) := by
  have h' : i.natAbs < 2 ^ a := h
  have g' : j.natAbs < 2 ^ a := g
  unfold Lt
  rw [Nat.pow_succ]
  omega
theorem Lt.sub {a : Nat} {i j : Int} (h : Lt a i) (g : Lt a j) : Lt (a + 1) (i - j) := by
  have h' : i.natAbs < 2 ^ a := h
  have g' : j.natAbs < 2 ^ a := g
  unfold Lt
  rw [Nat.pow_succ]
  omega
theorem Lt.of_le {a : Nat} {i j : Int} (h : Lt a i) (hj : j.natAbs ≤ i.natAbs) : Lt a j := Nat.lt_of_le_of_lt hj h
theorem Lt.ok {a b : Nat} {i j : Int} (h : Lt a i) (g : Lt b j) (ha : a ≤ 400000) (hb : b ≤ 400000) : mulOk i j = true := mul_ok (h.mono ha) (g.mono hb)
theorem Lt.dv {a : Nat} {j : Int} (h : Lt a j) (h0 : 0 < j) (ha : a ≤ 8000) : divOk j = true := by
  have := log_lt (n := j.natAbs) (k := 8000) (h.mono ha) (by omega)
  unfold divOk
  simp only [Bool.and_eq_true, decide_eq_true_eq]
  omega
/-! ### the greatest divisor -/
theorem gcdI_pos {x y : Int} (h : 0 < y) : 0 < gcdI x y := by
  have : 0 < Nat.gcd x.natAbs y.natAbs := Nat.gcd_pos_of_pos_right _ (by omega)
  unfold gcdI
  omega
theorem gcdI_nn {x y : Int} : 0 ≤ gcdI x y := by unfold gcdI; omega
theorem gcdI_dl {x y : Int} : gcdI x y ∣ x := by show (Int.gcd x y : Int) ∣ x; exact Int.gcd_dvd_left ..
theorem gcdI_dr {x y : Int} : gcdI x y ∣ y := by show (Int.gcd x y : Int) ∣ y; exact Int.gcd_dvd_right ..
theorem gcdI_le {x y : Int} (h : 0 < y) : gcdI x y ≤ y := Int.le_of_dvd h gcdI_dr
theorem gcdI_eq {x y : Int} : gcdI x y = (Int.gcd x y : Int) := rfl
/-! ### fractions in lowest terms -/
def red (t b : Int) : Int × Int := (t / gcdI t b, b / gcdI t b)
theorem red_fst {t b : Int} : (red t b).1 * gcdI t b = t := Int.ediv_mul_cancel gcdI_dl
theorem red_snd {t b : Int} : (red t b).2 * gcdI t b = b := Int.ediv_mul_cancel gcdI_dr
theorem red_pos {t b : Int} (h : 0 < b) : 0 < (red t b).2 := by
  have h1 := red_snd (t := t) (b := b)
  have h2 := gcdI_pos (x := t) h
  refine Classical.byContradiction fun q => ?_
  have h3 := Int.mul_le_mul_of_nonneg_right (show (red t b).2 ≤ 0 by omega) (Int.le_of_lt h2)
  rw [h1] at h3
  omega
theorem red_eq {t b : Int} : (red t b).1 * b = t * (red t b).2 := by
  have h1 := red_fst (t := t) (b := b)
  have h2 := red_snd (t := t) (b := b)
  generalize (red t b).1 = u at *
  generalize (red t b).2 = v at *
  generalize gcdI t b = g at *
  subst h1 h2
  grind
theorem red_cop {t b : Int} (h : 0 < b) : gcdI (red t b).1 (red t b).2 = 1 := by
  have hg : 0 < Int.gcd t b := Int.gcd_pos_of_ne_zero_right _ (by omega)
  have := Int.gcd_ediv_gcd_ediv_gcd (i := t) (j := b) hg
  unfold red
  rw [gcdI_eq, gcdI_eq]
  simp only
  rw [this]
  rfl
theorem div_le {t g : Int} (h : 0 < g) : (t / g).natAbs ≤ t.natAbs := by
  exact Int.natAbs_ediv_le_natAbs t g
theorem red_lt1 {k : Nat} {t b : Int} (h : 0 < b) (ht : Lt k t) : Lt k (red t b).1 := ht.of_le (div_le (gcdI_pos h))
theorem red_lt2 {k : Nat} {t b : Int} (h : 0 < b) (ht : Lt k b) : Lt k (red t b).2 := ht.of_le (div_le (gcdI_pos h))
def fD (p : Int × Int) : D := .tup [.int p.1, .int p.2]
end Dn
namespace Geo
open PySem PySem.Spec PyProof.Rows L2 Dn
section
variable {tb : List (Str × D)} {PT : List (Str × Fn)} {n j k : Nat} {S : Sto}
theorem part (T : HasD PT) {t b : Int} (hb : 0 < b) (hb2 : Lt 8000 b) : callN tb PT (n + 2) "_law_part" [.int t, .int b] S = some (fD (red t b), S) := by
  have g0 := gcdI_pos (x := t) hb
  have gd : divOk (gcdI t b) = true := Lt.dv (a := 8000) (hb2.of_le (by have := gcdI_le (x := t) hb; omega)) g0 (by omega)
  rw [q_of T.part rfl]
  simp only [g_part]
  simp [startD, cmpD, hb, divisor T, binD, dr, gd, gc_same, fD, red]
end
end Geo

set_option maxHeartbeats 4000000
namespace Dn
open PySem PySem.Spec PyProof.Rows L2
def red3 (x y w : Int) : Int × Int × Int := (x / gcdI (gcdI x y) w, y / gcdI (gcdI x y) w, w / gcdI (gcdI x y) w)
def lD (p : Int × Int × Int) : D := .tup [.int p.1, .int p.2.1, .int p.2.2]
abbrev Pnt : Type := (Int × Int) × (Int × Int)
def pD (P : Pnt) : D := .tup [fD P.1, fD P.2]
structure Fr (k : Nat) (p : Int × Int) : Prop where
  pos : 0 < p.2
  cop : gcdI p.1 p.2 = 1
  l1 : Lt k p.1
  l2 : Lt k p.2
theorem Fr.mono {a b : Nat} {p : Int × Int} (h : Fr a p) (hb : a ≤ b) : Fr b p := ⟨h.pos, h.cop, h.l1.mono hb, h.l2.mono hb⟩
theorem red_fr {k : Nat} {t b : Int} (h : 0 < b) (h1 : Lt k t) (h2 : Lt k b) : Fr k (red t b) := ⟨red_pos h, red_cop h, red_lt1 h h1, red_lt2 h h2⟩
def fsub (p q : Int × Int) : Int × Int := red (p.1 * q.2 - q.1 * p.2) (p.2 * q.2)
def fmul (p q : Int × Int) : Int × Int := red (p.1 * q.1) (p.2 * q.2)
theorem Fr.sub {k : Nat} {p q : Int × Int} (h : Fr k p) (g : Fr k q) : Fr (k + k + 1) (fsub p q) :=
  red_fr (Int.mul_pos h.pos g.pos) ((h.l1.mul g.l2).sub (g.l1.mul h.l2)) ((h.l2.mul g.l2).mono (by omega))
theorem Fr.mul {k : Nat} {p q : Int × Int} (h : Fr k p) (g : Fr k q) : Fr (k + k) (fmul p q) :=
  red_fr (Int.mul_pos h.pos g.pos) (h.l1.mul g.l1) (h.l2.mul g.l2)
def Pt (k : Nat) (P : Pnt) : Prop := Fr k P.1 ∧ Fr k P.2
def psub (P Q : Pnt) : Pnt := (fsub P.1 Q.1, fsub P.2 Q.2)
def pcross (P Q : Pnt) : Int × Int := fsub (fmul P.1 Q.2) (fmul P.2 Q.1)
end Dn
namespace Geo
open PySem PySem.Spec PyProof.Rows L2 Dn
section
variable {tb : List (Str × D)} {PT : List (Str × Fn)} {n j k : Nat} {S : Sto}
theorem place (T : Has PT) {x y w : Int} (hb : 0 < w) (hb2 : Lt 8000 w) : callN tb PT (n + 2) "_law_place" [.int x, .int y, .int w] S = some (lD (red3 x y w), S) := by
  have g0 := gcdI_pos (x := gcdI x y) hb
  have gd : divOk (gcdI (gcdI x y) w) = true := Lt.dv (a := 8000) (hb2.of_le (by have := gcdI_le (x := gcdI x y) hb; omega)) g0 (by omega)
  rw [q_of T.place rfl]
  simp only [g_place]
  simp [startD, cmpD, hb, divisor T.toHasD, binD, dr, gd, gc_same, lD, red3]
theorem told (T : Has PT) {p : Int × Int × Int} (hb : 0 < p.2.2) (hb2 : Lt 8000 p.2.2) : callN tb PT (n + 3) "_law_told" [lD p] S = some (.tup [fD (red p.1 p.2.2), fD (red p.2.1 p.2.2)], S) := by
  have e1 := fun t => part (tb := tb) (n := n) (S := S) T.toHasD (t := t) hb hb2
  rw [q_of T.told rfl]
  simp only [g_told]
  simp [startD, lD, ixD, items, atI, ixN, e1, gc_same]
theorem own (T : Has PT) {P : Pnt} {k : Nat} (h : Pt k P) (hk : k ≤ 3000) : callN tb PT (n + 3) "_law_own" [pD P] S = some (lD (red3 (P.1.1 * P.2.2) (P.2.1 * P.1.2) (P.1.2 * P.2.2)), S) := by
  obtain ⟨⟨a, b⟩, ⟨c, d⟩⟩ := P
  obtain ⟨h1, h2⟩ := h
  have m1 : mulOk a d = true := h1.l1.ok h2.l2 (by omega) (by omega)
  have m2 : mulOk c b = true := h2.l1.ok h1.l2 (by omega) (by omega)
  have m3 : mulOk b d = true := h1.l2.ok h2.l2 (by omega) (by omega)
  have e1 := fun x y => place (tb := tb) (n := n) (S := S) T (x := x) (y := y) (Int.mul_pos h1.pos h2.pos) ((h1.l2.mul h2.l2).mono (by omega))
  simp only at e1
  rw [q_of T.own rfl]
  simp only [g_own]
  simp [startD, pD, fD, binD, dr, m1, m2, m3, e1, gc_same]
/-! ### the program's fractions and points -/
structure HasQ (PT : List (Str × Fn)) : Prop where
  whole : PT.lookup ("is_whole" : Str) = some g_is_whole
  wholes : PT.lookup ("are_wholes" : Str) = some g_are_wholes
  is_ratio : PT.lookup ("is_ratio" : Str) = some g_is_ratio
  pointed : PT.lookup ("is_pointed" : Str) = some g_is_pointed
structure HasP (PT : List (Str × Fn)) : Prop extends HasQ PT where
  ratio : PT.lookup ("ratio" : Str) = some g_ratio
  minus : PT.lookup ("minus" : Str) = some g_minus
  times : PT.lookup ("times" : Str) = some g_times
  step_of : PT.lookup ("step_of" : Str) = some g_step_of
  cross : PT.lookup ("cross" : Str) = some g_cross
theorem ratio (T : HasP PT) {t b : Int} (hb : 0 < b) (hb2 : Lt 8000 b) : callN tb PT (n + 1) "ratio" [.int t, .int b] S = some (fD (red t b), S) := by
  have g0 := gcdI_pos (x := t) hb
  have gd : divOk (gcdI t b) = true := Lt.dv (a := 8000) (hb2.of_le (by have := gcdI_le (x := t) hb; omega)) g0 (by omega)
  have ge : ((t.natAbs.gcd b.natAbs : Nat) : Int) = gcdI t b := rfl
  rw [q_of T.ratio rfl]
  simp only [g_ratio]
  simp [startD, cmpD, hb, bltD, ge, binD, dr, gd, gc_same, fD, red]
theorem minus (T : HasP PT) {p q : Int × Int} {k : Nat} (h : Fr k p) (g : Fr k q) (hk : k ≤ 3000) : callN tb PT (n + 2) "minus" [fD p, fD q] S = some (fD (fsub p q), S) := by
  obtain ⟨a, b⟩ := p
  obtain ⟨c, d⟩ := q
  have m1 : mulOk a d = true := h.l1.ok g.l2 (by omega) (by omega)
  have m2 : mulOk c b = true := g.l1.ok h.l2 (by omega) (by omega)
  have m3 : mulOk b d = true := h.l2.ok g.l2 (by omega) (by omega)
  have e1 := fun x => ratio (tb := tb) (n := n) (S := S) T (t := x) (Int.mul_pos h.pos g.pos) ((h.l2.mul g.l2).mono (by omega))
  simp only at e1
  rw [q_of T.minus rfl]
  simp only [g_minus]
  simp [startD, fD, ixD, items, atI, ixN, binD, dr, m1, m2, m3, e1, gc_same, fsub]
theorem times (T : HasP PT) {p q : Int × Int} {k : Nat} (h : Fr k p) (g : Fr k q) (hk : k ≤ 3000) : callN tb PT (n + 2) "times" [fD p, fD q] S = some (fD (fmul p q), S) := by
  obtain ⟨a, b⟩ := p
  obtain ⟨c, d⟩ := q
  have m1 : mulOk a c = true := h.l1.ok g.l1 (by omega) (by omega)
  have m3 : mulOk b d = true := h.l2.ok g.l2 (by omega) (by omega)
  have e1 := fun x => ratio (tb := tb) (n := n) (S := S) T (t := x) (Int.mul_pos h.pos g.pos) ((h.l2.mul g.l2).mono (by omega))
  simp only at e1
  rw [q_of T.times rfl]
  simp only [g_times]
  simp [startD, fD, ixD, items, atI, ixN, binD, dr, m1, m3, e1, gc_same, fmul]
theorem step_of (T : HasP PT) {P Q : Pnt} {k : Nat} (h : Pt k P) (g : Pt k Q) (hk : k ≤ 3000) : callN tb PT (n + 3) "step_of" [pD P, pD Q] S = some (pD (psub Q P), S) := by
  have e1 := minus (tb := tb) (n := n) (S := S) T g.1 h.1 hk
  have e2 := minus (tb := tb) (n := n) (S := S) T g.2 h.2 hk
  rw [q_of T.step_of rfl]
  simp only [g_step_of]
  simp [startD, pD, ixD, items, atI, ixN, e1, e2, gc_same, psub]
theorem cross (T : HasP PT) {P Q : Pnt} {k : Nat} (h : Pt k P) (g : Pt k Q) (hk : k ≤ 1500) : callN tb PT (n + 3) "cross" [pD P, pD Q] S = some (fD (pcross P Q), S) := by
  have e1 := times (tb := tb) (n := n) (S := S) T h.1 g.2 (by omega)
  have e2 := times (tb := tb) (n := n) (S := S) T h.2 g.1 (by omega)
  have e3 := minus (tb := tb) (n := n) (S := S) T (h.1.mul g.2) (h.2.mul g.1) (by omega)
  rw [q_of T.cross rfl]
  simp only [g_cross]
  simp [startD, pD, ixD, items, atI, ixN, e1, e2, e3, gc_same, pcross]
theorem is_whole_i (T : HasP PT) {i : Int} : callN tb PT (n + 1) "is_whole" [.int i] S = some (.bl true, S) := by
  rw [q_of T.whole rfl]
  simp only [g_is_whole]
  simp [startD, tyD, gc_same, truD]
theorem wholes_fr (T : HasP PT) {p : Int × Int} : callN tb PT (n + 2) "are_wholes" [fD p, .int 2] S = some (.bl true, S) := by
  have lp : ∀ q : Option D, loopLc ⟨[.int p.1, .int p.2], none⟩ (lcTurn (geN tb PT (n + 1)) (.call "is_whole" [.var 2]) (.name 2) [] [2] [some (.tup [.int p.1, .int p.2]), some (.int 2), q]) [.int p.1, .int p.2] S = some ([D.int p.1, D.int p.2].map fun _ => D.bl true, S) := fun q => by
    refine loop_map ok_none fun x hx => ?_
    simp only [List.mem_cons, List.not_mem_nil, or_false] at hx
    rcases hx with rfl | rfl <;> simp [lcTurn, wipeD, is_whole_i T]
  rw [q_of T.wholes rfl]
  simp only [g_are_wholes]
  simp [startD, fD, tyD, bltD, items, litems, cmpD, dr, eqD, flatD, scal, vD, srcOf, lp, blsD, gc_same]
theorem is_ratio_fr (T : HasP PT) {k : Nat} {p : Int × Int} (h : Fr k p) : callN tb PT (n + 3) "is_ratio" [fD p] S = some (.bl true, S) := by
  have e1 := wholes_fr (tb := tb) (n := n) (S := S) T (p := p)
  have h1 := h.pos
  have h2 : ((p.1.natAbs.gcd p.2.natAbs : Nat) : Int) = 1 := h.cop
  have h3 : p.1.natAbs.gcd p.2.natAbs = 1 := by omega
  rw [q_of T.is_ratio rfl]
  simp only [g_is_ratio]
  simp [startD, e1, gc_same]
  simp [fD, ixD, items, atI, ixN, cmpD, h1, h2, h3, bltD, dr, eqD, flatD, scal, vD, gc_same]
theorem pointed_pt (T : HasP PT) {k : Nat} {P : Pnt} (h : Pt k P) : callN tb PT (n + 4) "is_pointed" [pD P] S = some (.bl true, S) := by
  have lp : ∀ q : Option D, loopLc ⟨[fD P.1, fD P.2], none⟩ (lcTurn (geN tb PT (n + 3)) (.call "is_ratio" [.var 1]) (.name 1) [] [1] [some (.tup [fD P.1, fD P.2]), q]) [fD P.1, fD P.2] S = some ([fD P.1, fD P.2].map fun _ => D.bl true, S) := fun q => by
    refine loop_map ok_none fun x hx => ?_
    simp only [List.mem_cons, List.not_mem_nil, or_false] at hx
    rcases hx with rfl | rfl
    · simp [lcTurn, wipeD, is_ratio_fr T h.1]
    · simp [lcTurn, wipeD, is_ratio_fr T h.2]
  rw [q_of T.pointed rfl]
  simp only [g_is_pointed]
  simp [startD, pD, tyD, bltD, items, litems, cmpD, dr, eqD, flatD, scal, vD, srcOf, lp, blsD, gc_same]
end
end Geo

set_option maxHeartbeats 4000000
namespace Geo
open PySem PySem.Spec PyProof.Rows L2 Dn
structure HasF (PT : List (Str × Fn)) : Prop where
  frame : PT.lookup ("_law_frame" : Str) = some g_frame
  grid : PT.lookup ("_law_grid" : Str) = some g_grid
  dot : PT.lookup ("_law_dot" : Str) = some g_dot
/-- a frame -/
structure Frm where
  x : Int
  y : Int
  step : Int
  under : Int
  wide : Int
def Frm.d (f : Frm) : D := .tup [.int f.x, .int f.y, .int f.step, .int f.under, .int f.wide]
structure FrmOk (f : Frm) : Prop where
  x : Lt 20 f.x
  y : Lt 20 f.y
  s0 : 0 < f.step
  s : f.step < 131072
  u0 : 0 < f.under
  u : f.under ≤ 6
  w0 : 3 ≤ f.wide
  w : f.wide ≤ 5
section
variable {tb : List (Str × D)} {PT : List (Str × Fn)} {n j k : Nat} {S : Sto}
theorem frame (T : HasD PT) (F : HasF PT) (h : Sp k j S) (hj : j + 2 < 100000000) : ∃ f S', callN tb PT (n + 3) "_law_frame" [.ref k] S = some (Frm.d f, S') ∧ FrmOk f ∧ Sp k (j + 2) S' ∧ Same k S S' := by
  obtain ⟨d, hd, S1, e1, w1, s1⟩ := one_of (tb := tb) (n := n) T h (by omega) (xs := [.int 3, .int 4, .int 5]) (by decide) (by decide)
  obtain ⟨q, hq, S2, e2, w2, s2⟩ := one_of (tb := tb) (n := n) T w1 (by omega) (xs := [.tup [.int 0, .int 0, .int 1, .int 1], .tup [.int 0, .int 0, .int 1, .int 1], .tup [.int (-2), .int (-1), .int 1, .int 1], .tup [.int (-3), .int 1, .int 1, .int 2], .tup [.int 0, .int (-5), .int 2, .int 3], .tup [.int 1, .int 1, .int 5, .int 6], .tup [.int (-700000), .int 250001, .int 100003, .int 1], .tup [.int (-1), .int (-2), .int 2, .int 1]]) (by decide) (by decide)
  have hw : ∃ w : Int, d = .int w ∧ 3 ≤ w ∧ w ≤ 5 := by
    simp only [List.mem_cons, List.not_mem_nil, or_false] at hd
    rcases hd with rfl | rfl | rfl
    · exact ⟨3, rfl, by omega, by omega⟩
    · exact ⟨4, rfl, by omega, by omega⟩
    · exact ⟨5, rfl, by omega, by omega⟩
  obtain ⟨w, rfl, h3, h5⟩ := hw
  have hx : ∃ x y s u : Int, q = .tup [.int x, .int y, .int s, .int u] ∧ x.natAbs < 2 ^ 20 ∧ y.natAbs < 2 ^ 20 ∧ 0 < s ∧ s < 131072 ∧ 0 < u ∧ u ≤ 6 := by
    simp only [List.mem_cons, List.not_mem_nil, or_false] at hq
    rcases hq with rfl | rfl | rfl | rfl | rfl | rfl | rfl | rfl <;> exact ⟨_, _, _, _, rfl, by decide, by decide, by decide, by decide, by decide, by decide⟩
  obtain ⟨x, y, s, u, rfl, a1, a2, a3, a4, a5, a6⟩ := hx
  refine ⟨⟨x, y, s, u, w⟩, S2, ?_, ⟨a1, a2, a3, a4, a5, a6, h3, h5⟩, w2, s1.trans s2⟩
  rw [q_of F.frame rfl]
  simp only [g_frame]
  simp [startD, e1, e2, gc_same, s1.1, s2.1, Frm.d]
/-- the point of the grid -/
def gridP (f : Frm) (i m l : Int) : Pnt := (red (f.x * l + f.step * i) (f.under * l), red (f.y * l + f.step * m) (f.under * l))
theorem lt_of {a : Nat} {i : Int} (h : i.natAbs < 2 ^ a) : Lt a i := h
theorem grid_pt {f : Frm} (h : FrmOk f) {i m l : Int} (hi : 0 ≤ i ∧ i < 64) (hm : 0 ≤ m ∧ m < 64) (hl : 1 ≤ l ∧ l < 4) : Pt 26 (gridP f i m l) := by
  have l1 : Lt 2 l := lt_of (by omega)
  have i1 : Lt 6 i := lt_of (by omega)
  have m1 : Lt 6 m := lt_of (by omega)
  have s1 : Lt 17 f.step := lt_of (by have := h.s0; have := h.s; omega)
  have u1 : Lt 3 f.under := lt_of (by have := h.u0; have := h.u; omega)
  have p : 0 < f.under * l := Int.mul_pos h.u0 (by omega)
  have u2 : Lt 26 (f.under * l) := (u1.mul l1).mono (by omega)
  exact ⟨red_fr p ((((h.x.mul l1).mono (show 22 ≤ 24 by omega)).add ((s1.mul i1).mono (show 23 ≤ 24 by omega))).mono (by omega)) u2, red_fr p ((((h.y.mul l1).mono (show 22 ≤ 24 by omega)).add ((s1.mul m1).mono (show 23 ≤ 24 by omega))).mono (by omega)) u2⟩
theorem grid (T : HasD PT) (F : HasF PT) {f : Frm} (h : FrmOk f) {i m l : Int} (hi : 0 ≤ i ∧ i < 64) (hm : 0 ≤ m ∧ m < 64) (hl : 1 ≤ l ∧ l < 4) : callN tb PT (n + 3) "_law_grid" [f.d, .int i, .int m, .int l] S = some (pD (gridP f i m l), S) := by
  have l1 : Lt 2 l := lt_of (by omega)
  have i1 : Lt 6 i := lt_of (by omega)
  have m1 : Lt 6 m := lt_of (by omega)
  have s1 : Lt 17 f.step := lt_of (by have := h.s0; have := h.s; omega)
  have u1 : Lt 3 f.under := lt_of (by have := h.u0; have := h.u; omega)
  have p : 0 < f.under * l := Int.mul_pos h.u0 (by omega)
  have k1 : mulOk f.x l = true := h.x.ok l1 (by omega) (by omega)
  have k2 : mulOk f.y l = true := h.y.ok l1 (by omega) (by omega)
  have k3 : mulOk f.step i = true := s1.ok i1 (by omega) (by omega)
  have k4 : mulOk f.step m = true := s1.ok m1 (by omega) (by omega)
  have k5 : mulOk f.under l = true := u1.ok l1 (by omega) (by omega)
  have e1 := fun t => part (tb := tb) (n := n) (S := S) T (t := t) p ((u1.mul l1).mono (by omega))
  rw [q_of F.grid rfl]
  simp only [g_grid]
  simp [startD, Frm.d, binD, dr, k1, k2, k3, k4, k5, e1, gc_same, pD, gridP]
theorem dot (T : HasD PT) (F : HasF PT) {f : Frm} (hf : FrmOk f) (h : Sp k j S) (hj : j + 3 < 100000000) : ∃ P S', callN tb PT (n + 4) "_law_dot" [.ref k, f.d] S = some (pD P, S') ∧ Pt 26 P ∧ Sp k (j + 3) S' ∧ Same k S S' := by
  obtain ⟨d, hd, S1, e1, w1, s1⟩ := one_of (tb := tb) (n := n + 1) T h (by omega) (xs := [.int 1, .int 1, .int 2, .int 2, .int 3]) (by decide) (by decide)
  have hw : ∃ w : Int, d = .int w ∧ 1 ≤ w ∧ w ≤ 3 := by
    simp only [List.mem_cons, List.not_mem_nil, or_false] at hd
    rcases hd with rfl | rfl | rfl | rfl | rfl
    · exact ⟨1, rfl, by omega, by omega⟩
    · exact ⟨1, rfl, by omega, by omega⟩
    · exact ⟨2, rfl, by omega, by omega⟩
    · exact ⟨2, rfl, by omega, by omega⟩
    · exact ⟨3, rfl, by omega, by omega⟩
  obtain ⟨w, rfl, h3, h5⟩ := hw
  have w0 := hf.w0
  have w5 := hf.w
  have hp : 0 < w * f.wide := Int.mul_pos (by omega) (by omega)
  have hq : w * f.wide ≤ 15 := by
    have h1 := Int.mul_le_mul (show w ≤ 3 by omega) w5 (by omega) (by omega)
    omega
  obtain ⟨i, S2, e2, i0, i1, w2, s2⟩ := draw (tb := tb) (n := n + 2) T w1 (by omega) (m := w * f.wide + 1) (by omega) (by omega)
  obtain ⟨m, S3, e3, m0, m1, w3, s3⟩ := draw (tb := tb) (n := n + 2) T w2 (by omega) (m := w * f.wide + 1) (by omega) (by omega)
  have e4 := grid (tb := tb) (n := n) (S := S3) T F hf (i := i) (m := m) (l := w) ⟨i0, by omega⟩ ⟨m0, by omega⟩ ⟨by omega, by omega⟩
  have k1 : mulOk w f.wide = true := (lt_of (a := 2) (show w.natAbs < 2 ^ 2 by omega)).ok (lt_of (a := 3) (show f.wide.natAbs < 2 ^ 3 by omega)) (by omega) (by omega)
  refine ⟨gridP f i m w, S3, ?_, grid_pt hf ⟨i0, by omega⟩ ⟨m0, by omega⟩ ⟨by omega, by omega⟩, w3, (s1.trans s2).trans s3⟩
  simp only [Frm.d] at e4
  rw [q_of F.dot rfl]
  simp only [g_dot]
  simp [startD, Frm.d, e1, ixD, items, atI, ixN, binD, dr, k1, e2, e3, e4, gc_same, s1.1, s2.1, s3.1]
end
end Geo

set_option maxHeartbeats 4000000
namespace Dn
open PySem PySem.Spec PyProof.Rows L2
/-! ### places: primitive triples -/
structure Prim (p : Int × Int × Int) : Prop where
  pos : 0 < p.2.2
  one : Nat.gcd (Nat.gcd p.1.natAbs p.2.1.natAbs) p.2.2.natAbs = 1
theorem red3_mul {x y w : Int} : (red3 x y w).1 * gcdI (gcdI x y) w = x ∧ (red3 x y w).2.1 * gcdI (gcdI x y) w = y ∧ (red3 x y w).2.2 * gcdI (gcdI x y) w = w :=
  ⟨Int.ediv_mul_cancel (Int.dvd_trans gcdI_dl gcdI_dl), Int.ediv_mul_cancel (Int.dvd_trans gcdI_dl gcdI_dr), Int.ediv_mul_cancel gcdI_dr⟩
theorem pos_of {a b : Int} (h : 0 < a * b) (hb : 0 < b) : 0 < a := by
  refine Classical.byContradiction fun q => ?_
  have h3 := Int.mul_le_mul_of_nonneg_right (show a ≤ 0 by omega) (Int.le_of_lt hb)
  omega
theorem red3_prim {x y w : Int} (h : 0 < w) : Prim (red3 x y w) := by
  obtain ⟨e1, e2, e3⟩ := red3_mul (x := x) (y := y) (w := w)
  have hg := gcdI_pos (x := gcdI x y) h
  have hp : 0 < (red3 x y w).2.2 := pos_of (by rw [e3]; exact h) hg
  refine ⟨hp, ?_⟩
  have gn : (gcdI (gcdI x y) w).natAbs = Nat.gcd (Nat.gcd x.natAbs y.natAbs) w.natAbs := rfl
  generalize hG : gcdI (gcdI x y) w = G at *
  generalize (red3 x y w).1 = u at *
  generalize (red3 x y w).2.1 = v at *
  generalize (red3 x y w).2.2 = t at *
  have n1 : x.natAbs = u.natAbs * G.natAbs := by rw [← e1, Int.natAbs_mul]
  have n2 : y.natAbs = v.natAbs * G.natAbs := by rw [← e2, Int.natAbs_mul]
  have n3 : w.natAbs = t.natAbs * G.natAbs := by rw [← e3, Int.natAbs_mul]
  rw [n1, n2, n3, Nat.gcd_mul_right, Nat.gcd_mul_right] at gn
  have g0 : 0 < G.natAbs := by omega
  exact Nat.eq_of_mul_eq_mul_right g0 (by rw [Nat.one_mul]; exact gn.symm)
theorem red3_eq {x y w : Int} : (red3 x y w).1 * w = x * (red3 x y w).2.2 ∧ (red3 x y w).2.1 * w = y * (red3 x y w).2.2 := by
  obtain ⟨e1, e2, e3⟩ := red3_mul (x := x) (y := y) (w := w)
  generalize gcdI (gcdI x y) w = G at *
  generalize (red3 x y w).1 = u at *
  generalize (red3 x y w).2.1 = v at *
  generalize (red3 x y w).2.2 = t at *
  subst e1 e2 e3
  constructor <;> grind
theorem prim_dvd {p q : Int × Int × Int} (hp : Prim p) (e1 : p.1 * q.2.2 = q.1 * p.2.2) (e2 : p.2.1 * q.2.2 = q.2.1 * p.2.2) : p.2.2.natAbs ∣ q.2.2.natAbs := by
  have d1 : p.2.2.natAbs ∣ p.1.natAbs * q.2.2.natAbs := by rw [← Int.natAbs_mul, e1, Int.natAbs_mul]; exact Nat.dvd_mul_left _ _
  have d2 : p.2.2.natAbs ∣ p.2.1.natAbs * q.2.2.natAbs := by rw [← Int.natAbs_mul, e2, Int.natAbs_mul]; exact Nat.dvd_mul_left _ _
  have d3 : p.2.2.natAbs ∣ p.2.2.natAbs * q.2.2.natAbs := Nat.dvd_mul_right _ _
  have := Nat.dvd_gcd (Nat.dvd_gcd d1 d2) d3
  rw [Nat.gcd_mul_right, Nat.gcd_mul_right, hp.one, Nat.one_mul] at this
  exact this
theorem prim_eq {p q : Int × Int × Int} (hp : Prim p) (hq : Prim q) (e1 : p.1 * q.2.2 = q.1 * p.2.2) (e2 : p.2.1 * q.2.2 = q.2.1 * p.2.2) : p = q := by
  have w : p.2.2.natAbs = q.2.2.natAbs := Nat.dvd_antisymm (prim_dvd hp e1 e2) (prim_dvd hq e1.symm e2.symm)
  have w' : p.2.2 = q.2.2 := by have := hp.pos; have := hq.pos; omega
  have h0 : q.2.2 ≠ 0 := by have := hq.pos; omega
  obtain ⟨a, b, c⟩ := p
  obtain ⟨a', b', c'⟩ := q
  simp only at *
  subst w'
  rw [Int.eq_of_mul_eq_mul_right h0 e1, Int.eq_of_mul_eq_mul_right h0 e2]
def toldP (p : Int × Int × Int) : Pnt := (red p.1 p.2.2, red p.2.1 p.2.2)
def ownP (P : Pnt) : Int × Int × Int := red3 (P.1.1 * P.2.2) (P.2.1 * P.1.2) (P.1.2 * P.2.2)
/-- own tells the place of the point -/
theorem own_eq {k : Nat} {P : Pnt} (h : Pt k P) : Prim (ownP P) ∧ (ownP P).1 * P.1.2 = P.1.1 * (ownP P).2.2 ∧ (ownP P).2.1 * P.2.2 = P.2.1 * (ownP P).2.2 := by
  have p := Int.mul_pos h.1.pos h.2.pos
  obtain ⟨e1, e2⟩ := red3_eq (x := P.1.1 * P.2.2) (y := P.2.1 * P.1.2) (w := P.1.2 * P.2.2)
  refine ⟨red3_prim p, ?_, ?_⟩
  · have h0 : P.2.2 ≠ 0 := by have := h.2.pos; omega
    refine Int.eq_of_mul_eq_mul_right h0 ?_
    show (red3 _ _ _).1 * P.1.2 * P.2.2 = P.1.1 * (red3 _ _ _).2.2 * P.2.2
    grind
  · have h0 : P.1.2 ≠ 0 := by have := h.1.pos; omega
    refine Int.eq_of_mul_eq_mul_right h0 ?_
    show (red3 _ _ _).2.1 * P.2.2 * P.1.2 = P.2.1 * (red3 _ _ _).2.2 * P.1.2
    grind
theorem told_pt {k : Nat} {p : Int × Int × Int} (h : 0 < p.2.2) (h1 : Lt k p.1) (h2 : Lt k p.2.1) (h3 : Lt k p.2.2) : Pt k (toldP p) := ⟨red_fr h h1 h3, red_fr h h2 h3⟩
theorem lt_self (i : Int) : Lt i.natAbs i := by
  unfold Lt
  exact Nat.lt_two_pow_self
theorem told_pt' {p : Int × Int × Int} (h : 0 < p.2.2) : ∃ k, Pt k (toldP p) :=
  ⟨_, told_pt (k := p.1.natAbs + p.2.1.natAbs + p.2.2.natAbs) h ((lt_self _).mono (by omega)) ((lt_self _).mono (by omega)) ((lt_self _).mono (by omega))⟩
theorem own_told {p : Int × Int × Int} (h : Prim p) : ownP (toldP p) = p := by
  obtain ⟨k, hk⟩ := told_pt' h.pos
  obtain ⟨q, e1, e2⟩ := own_eq hk
  have r1 := red_eq (t := p.1) (b := p.2.2)
  have r2 := red_eq (t := p.2.1) (b := p.2.2)
  have v1 : (red p.1 p.2.2).2 ≠ 0 := by have := red_pos (t := p.1) h.pos; omega
  have v2 : (red p.2.1 p.2.2).2 ≠ 0 := by have := red_pos (t := p.2.1) h.pos; omega
  have e1' : (ownP (toldP p)).1 * (red p.1 p.2.2).2 = (red p.1 p.2.2).1 * (ownP (toldP p)).2.2 := e1
  have e2' : (ownP (toldP p)).2.1 * (red p.2.1 p.2.2).2 = (red p.2.1 p.2.2).1 * (ownP (toldP p)).2.2 := e2
  refine prim_eq q h ?_ ?_
  · refine Int.eq_of_mul_eq_mul_right v1 ?_
    grind
  · refine Int.eq_of_mul_eq_mul_right v2 ?_
    grind
end Dn

set_option maxHeartbeats 4000000
namespace Dn
open PySem PySem.Spec PyProof.Rows L2
/-! ### directions -/
theorem sgn {a d l b : Int} (e : a * d = l * b) (hd : 0 < d) (hl : 0 < l) : (0 < a ↔ 0 < b) ∧ (a = 0 ↔ b = 0) := by
  have p1 : ∀ {x y : Int}, 0 < y → (0 < x * y ↔ 0 < x) := fun {x y} hy => ⟨fun h => pos_of h hy, fun h => Int.mul_pos h hy⟩
  have p2 : ∀ {x y : Int}, 0 < y → (x * y = 0 ↔ x = 0) := fun {x y} hy => ⟨fun h => by
    rcases Int.mul_eq_zero.mp h with h | h
    · exact h
    · omega, fun h => by rw [h, Int.zero_mul]⟩
  rw [Int.mul_comm l b] at e
  exact ⟨by rw [← p1 hd, e, p1 hl], by rw [← p2 hd, e, p2 hl]⟩
def vec (h f : Int × Int × Int) : Int × Int := (f.1 * h.2.2 - h.1 * f.2.2, f.2.1 * h.2.2 - h.2.1 * f.2.2)
def halfV (v : Int × Int) : Int := if 0 < v.2 ∨ (v.2 = 0 ∧ 0 < v.1) then 0 else 1
def crossV (u v : Int × Int) : Int := u.1 * v.2 - u.2 * v.1
def aheadV (u v : Int × Int) : Bool := decide (halfV u < halfV v) || (decide (halfV u = halfV v) && decide (0 < crossV u v))
def halfS (s : Pnt) : Int := if 0 < s.2.1 ∨ (s.2.1 = 0 ∧ 0 < s.1.1) then 0 else 1
def firstS (s t : Pnt) : Bool := if halfS s ≠ halfS t then decide (halfS s < halfS t) else decide (0 < (pcross s t).1)
/-- the step s goes as the vector v -/
structure Sim (v : Int × Int) (s : Pnt) : Prop where
  ex : ∃ l : Int, 0 < l ∧ v.1 * s.1.2 = l * s.1.1 ∧ v.2 * s.2.2 = l * s.2.1
  d1 : 0 < s.1.2
  d2 : 0 < s.2.2
theorem sim_of {k : Nat} {N Q : Pnt} (hN : Pt k N) (hQ : Pt k Q) : Sim (vec (ownP N) (ownP Q)) (psub Q N) := by
  obtain ⟨n0, n1, n2⟩ := own_eq hN
  obtain ⟨q0, q1, q2⟩ := own_eq hQ
  have r1 := red_eq (t := Q.1.1 * N.1.2 - N.1.1 * Q.1.2) (b := Q.1.2 * N.1.2)
  have r2 := red_eq (t := Q.2.1 * N.2.2 - N.2.1 * Q.2.2) (b := Q.2.2 * N.2.2)
  have p1 := Int.mul_pos hQ.1.pos hN.1.pos
  have p2 := Int.mul_pos hQ.2.pos hN.2.pos
  refine ⟨⟨(ownP Q).2.2 * (ownP N).2.2, Int.mul_pos q0.pos n0.pos, ?_, ?_⟩, red_pos p1, red_pos p2⟩
  · refine Int.eq_of_mul_eq_mul_right (show Q.1.2 * N.1.2 ≠ 0 by omega) ?_
    show ((ownP Q).1 * (ownP N).2.2 - (ownP N).1 * (ownP Q).2.2) * (red (Q.1.1 * N.1.2 - N.1.1 * Q.1.2) (Q.1.2 * N.1.2)).2 * (Q.1.2 * N.1.2) = (ownP Q).2.2 * (ownP N).2.2 * (red (Q.1.1 * N.1.2 - N.1.1 * Q.1.2) (Q.1.2 * N.1.2)).1 * (Q.1.2 * N.1.2)
    grind
  · refine Int.eq_of_mul_eq_mul_right (show Q.2.2 * N.2.2 ≠ 0 by omega) ?_
    show ((ownP Q).2.1 * (ownP N).2.2 - (ownP N).2.1 * (ownP Q).2.2) * (red (Q.2.1 * N.2.2 - N.2.1 * Q.2.2) (Q.2.2 * N.2.2)).2 * (Q.2.2 * N.2.2) = (ownP Q).2.2 * (ownP N).2.2 * (red (Q.2.1 * N.2.2 - N.2.1 * Q.2.2) (Q.2.2 * N.2.2)).1 * (Q.2.2 * N.2.2)
    grind
theorem half_sim {v : Int × Int} {s : Pnt} (h : Sim v s) : halfS s = halfV v := by
  obtain ⟨l, l0, e1, e2⟩ := h.ex
  have s1 := sgn e1 h.d1 l0
  have s2 := sgn e2 h.d2 l0
  unfold halfS halfV
  simp only [s1.1, s2.1, s2.2]
theorem cross_sim {v w : Int × Int} {s t : Pnt} (h : Sim v s) (g : Sim w t) : 0 < (pcross s t).1 ↔ 0 < crossV v w := by
  obtain ⟨l, l0, e1, e2⟩ := h.ex
  obtain ⟨m, m0, f1, f2⟩ := g.ex
  have b1 := Int.mul_pos h.d1 g.d2
  have b2 := Int.mul_pos h.d2 g.d1
  have r1 := red_eq (t := s.1.1 * t.2.1) (b := s.1.2 * t.2.2)
  have r2 := red_eq (t := s.2.1 * t.1.1) (b := s.2.2 * t.1.2)
  have c1 := red_pos (t := s.1.1 * t.2.1) b1
  have c2 := red_pos (t := s.2.1 * t.1.1) b2
  have hc : pcross s t = red ((fmul s.1 t.2).1 * (fmul s.2 t.1).2 - (fmul s.2 t.1).1 * (fmul s.1 t.2).2) ((fmul s.1 t.2).2 * (fmul s.2 t.1).2) := rfl
  have r3 := red_eq (t := (fmul s.1 t.2).1 * (fmul s.2 t.1).2 - (fmul s.2 t.1).1 * (fmul s.1 t.2).2) (b := (fmul s.1 t.2).2 * (fmul s.2 t.1).2)
  have c3 := Int.mul_pos c1 c2
  have c4 := red_pos (t := (fmul s.1 t.2).1 * (fmul s.2 t.1).2 - (fmul s.2 t.1).1 * (fmul s.1 t.2).2) (show 0 < (fmul s.1 t.2).2 * (fmul s.2 t.1).2 from c3)
  rw [hc]
  have i1 := (sgn (r3.trans (Int.mul_comm _ _)) c3 c4).1
  rw [i1]
  -- the sign of both is that of K
  have d0 := Int.mul_pos b1 b2
  have i2 := sgn (a := (fmul s.1 t.2).1 * (fmul s.2 t.1).2 - (fmul s.2 t.1).1 * (fmul s.1 t.2).2) (d := (s.1.2 * t.2.2) * (s.2.2 * t.1.2)) (l := (fmul s.1 t.2).2 * (fmul s.2 t.1).2) (b := s.1.1 * t.2.1 * (s.2.2 * t.1.2) - s.2.1 * t.1.1 * (s.1.2 * t.2.2)) (by
    show ((red (s.1.1 * t.2.1) (s.1.2 * t.2.2)).1 * (red (s.2.1 * t.1.1) (s.2.2 * t.1.2)).2 - (red (s.2.1 * t.1.1) (s.2.2 * t.1.2)).1 * (red (s.1.1 * t.2.1) (s.1.2 * t.2.2)).2) * ((s.1.2 * t.2.2) * (s.2.2 * t.1.2)) = (red (s.1.1 * t.2.1) (s.1.2 * t.2.2)).2 * (red (s.2.1 * t.1.1) (s.2.2 * t.1.2)).2 * (s.1.1 * t.2.1 * (s.2.2 * t.1.2) - s.2.1 * t.1.1 * (s.1.2 * t.2.2))
    grind) d0 c3
  have i3 := sgn (a := crossV v w) (d := (s.1.2 * t.2.2) * (s.2.2 * t.1.2)) (l := l * m) (b := s.1.1 * t.2.1 * (s.2.2 * t.1.2) - s.2.1 * t.1.1 * (s.1.2 * t.2.2)) (by
    unfold crossV
    grind) d0 (Int.mul_pos l0 m0)
  rw [i2.1, i3.1]
theorem first_sim {v w : Int × Int} {s t : Pnt} (h : Sim v s) (g : Sim w t) : firstS s t = aheadV v w := by
  unfold firstS aheadV
  rw [half_sim h, half_sim g]
  have c := cross_sim h g
  by_cases e : halfV v = halfV w
  · rw [if_neg (by simpa using e), e]
    simp [c]
  · rw [if_pos e]
    simp [e]
/-! ### the order of directions -/
theorem nz_half {v : Int × Int} (h : v ≠ (0, 0)) (g : halfV v ≠ 0) : v.2 < 0 ∨ (v.2 = 0 ∧ v.1 < 0) := by
  unfold halfV at g
  split at g
  · omega
  · rename_i q
    have : v.1 ≠ 0 ∨ v.2 ≠ 0 := by
      refine Classical.byContradiction fun z => h ?_
      have z1 : v.1 = 0 := by omega
      have z2 : v.2 = 0 := by omega
      exact Prod.ext z1 z2
    omega
theorem half_01 (v : Int × Int) : halfV v = 0 ∨ halfV v = 1 := by unfold halfV; split <;> simp
theorem cross_id (e a b : Int × Int) : crossV e a * b.2 = crossV e b * a.2 + crossV b a * e.2 := by unfold crossV; grind
theorem up_nt {e a b : Int × Int} (he : 0 < e.2 ∨ (e.2 = 0 ∧ 0 < e.1)) (ha : 0 < a.2 ∨ (a.2 = 0 ∧ 0 < a.1)) (hb : 0 < b.2 ∨ (b.2 = 0 ∧ 0 < b.1)) (h : 0 < crossV e a) : 0 < crossV e b ∨ 0 < crossV b a := by
  refine Classical.byContradiction fun q => ?_
  have q1 : crossV e b ≤ 0 := by omega
  have q2 : crossV b a ≤ 0 := by omega
  have id := cross_id e a b
  have n1 := Int.mul_le_mul_of_nonneg_right q1 (show 0 ≤ a.2 by omega)
  have n2 := Int.mul_le_mul_of_nonneg_right q2 (show 0 ≤ e.2 by omega)
  rcases hb with hb | ⟨b0, b1⟩
  · have := Int.mul_pos h hb
    omega
  · unfold crossV at q1 q2 h
    rw [b0] at q1 q2
    have z1 : a.2 ≤ 0 := by
      refine Classical.byContradiction fun z => ?_
      have := Int.mul_pos b1 (show 0 < a.2 by omega)
      omega
    have z2 : a.2 = 0 ∧ 0 < a.1 := by omega
    rw [z2.1] at h
    have := Int.mul_nonneg (show 0 ≤ e.2 by omega) (show 0 ≤ a.1 by omega)
    omega
theorem cross_neg (u v : Int × Int) : crossV (-u.1, -u.2) (-v.1, -v.2) = crossV u v := by unfold crossV; grind
theorem ahead_nt {e a b : Int × Int} (he : e ≠ (0, 0)) (ha : a ≠ (0, 0)) (hb : b ≠ (0, 0)) (h : aheadV e a = true) : aheadV e b = true ∨ aheadV b a = true := by
  unfold aheadV at h ⊢
  simp only [Bool.or_eq_true, Bool.and_eq_true, decide_eq_true_eq] at h ⊢
  have h1 := half_01 e
  have h2 := half_01 a
  have h3 := half_01 b
  by_cases s : halfV e = halfV b ∧ halfV b = halfV a
  · rcases h with h | ⟨_, h⟩
    · omega
    · have : 0 < crossV e b ∨ 0 < crossV b a := by
        by_cases z : halfV e = 0
        · have up : ∀ v : Int × Int, halfV v = 0 → 0 < v.2 ∨ (v.2 = 0 ∧ 0 < v.1) := fun v hv => by
            unfold halfV at hv
            split at hv
            · assumption
            · omega
          exact up_nt (up e z) (up a (by omega)) (up b (by omega)) h
        · have e1 := nz_half he z
          have a1 := nz_half ha (by omega)
          have b1 := nz_half hb (by omega)
          have r := up_nt (e := (-e.1, -e.2)) (a := (-a.1, -a.2)) (b := (-b.1, -b.2)) (by simp only; omega) (by simp only; omega) (by simp only; omega) (by rw [cross_neg]; exact h)
          rw [cross_neg, cross_neg] at r
          exact r
      rcases this with t | t
      · exact .inl (.inr ⟨s.1, t⟩)
      · exact .inr (.inr ⟨s.2, t⟩)
  · omega
theorem ahead_as {e a : Int × Int} (h : aheadV e a = true) : aheadV a e = false := by
  unfold aheadV at h ⊢
  have c : crossV a e = -crossV e a := by unfold crossV; grind
  simp only [Bool.or_eq_true, Bool.and_eq_true, decide_eq_true_eq] at h
  simp only [Bool.or_eq_false_iff, Bool.and_eq_false_iff, decide_eq_false_iff_not]
  omega
theorem vec_nz {h f : Int × Int × Int} (ph : Prim h) (pf : Prim f) (ne : f ≠ h) : vec h f ≠ (0, 0) := by
  intro q
  have q1 : f.1 * h.2.2 - h.1 * f.2.2 = 0 := congrArg Prod.fst q
  have q2 : f.2.1 * h.2.2 - h.2.1 * f.2.2 = 0 := congrArg Prod.snd q
  exact ne (prim_eq pf ph (by omega) (by omega))
end Dn

set_option maxHeartbeats 4000000
namespace Dn
open PySem PySem.Spec PyProof.Rows L2
theorem for_ind {w : Wk} {turn : D → En → Sto → Option (Fl × Sto)} {I : List D → En → Sto → Prop} (hw : ∀ pre δ S, I pre δ S → okW w S) : ∀ {xs pre : List D} {δ : En} {S : Sto},
    (∀ p x r δ S, xs = p ++ x :: r → I (pre ++ p) δ S → ∃ δ' S', turn x δ S = some (.nx δ', S') ∧ I (pre ++ p ++ [x]) δ' S') → I pre δ S → ∃ δ' S', loopFor w turn xs δ S = some (.nx δ', S') ∧ I (pre ++ xs) δ' S'
  | [], pre, δ, S, _, h0 => ⟨δ, S, by unfold loopFor; rw [if_pos (hw _ δ S h0)], by simpa using h0⟩
  | x :: xs, pre, δ, S, h, h0 => by
    obtain ⟨δ1, S1, e1, h1⟩ := h [] x xs δ S rfl (by simpa using h0)
    obtain ⟨δ2, S2, e2, h2⟩ := for_ind hw (xs := xs) (pre := pre ++ [x]) (δ := δ1) (S := S1) (fun p y r δ S e q => by
      have := h (x :: p) y r δ S (by rw [e]; rfl) (by simpa using q)
      simpa using this) (by simpa using h1)
    refine ⟨δ2, S2, ?_, by simpa using h2⟩
    unfold loopFor
    rw [if_pos (hw _ δ S h0), e1, Option.bind_some]
    exact e2
theorem loop_filter {w : Wk} {turn : D → Sto → Option (Option D × Sto)} {S : Sto} {f : D → D} {q : D → Bool} (hw : okW w S) : ∀ {xs : List D}, (∀ x ∈ xs, turn x S = some (if q x = true then some (f x) else none, S)) → loopLc w turn xs S = some ((xs.filter q).map f, S)
  | [], _ => by unfold loopLc; rw [if_pos hw]; rfl
  | x :: xs, h => by
    unfold loopLc
    rw [if_pos hw, h x (List.mem_cons_self ..), Option.bind_some, loop_filter hw fun y hy => h y (List.mem_cons_of_mem _ hy)]
    cases hq : q x <;> simp [hq, List.filter_cons]
/-! ### insertion behind all that are not past it -/
section
variable {lt : Nat → Nat → Bool}
def Srt (lt : Nat → Nat → Bool) (F : List Nat) : Prop := F.Pairwise fun a b => lt b a = false
theorem srt_split {e : Nat} : ∀ {F : List Nat}, Srt lt F → (∀ a ∈ F, ∀ b ∈ F, lt e a = true → lt e b = true ∨ lt b a = true) → ∃ A B, F = A ++ B ∧ (∀ a ∈ A, lt e a = false) ∧ ∀ b ∈ B, lt e b = true
  | [], _, _ => ⟨[], [], rfl, fun _ h => (by cases h), fun _ h => (by cases h)⟩
  | x :: r, h, nt => by
    obtain ⟨h1, h2⟩ := List.pairwise_cons.mp h
    cases hx : lt e x with
    | true =>
      refine ⟨[], x :: r, rfl, fun _ h => (by cases h), fun b hb => ?_⟩
      rcases List.mem_cons.mp hb with rfl | hb'
      · exact hx
      · rcases nt x (List.mem_cons_self ..) b hb hx with z | z
        · exact z
        · rw [h1 b hb'] at z; cases z
    | false =>
      obtain ⟨A, B, e1, e2, e3⟩ := srt_split h2 fun a ha b hb => nt a (List.mem_cons_of_mem _ ha) b (List.mem_cons_of_mem _ hb)
      refine ⟨x :: A, B, by rw [e1]; rfl, fun a ha => ?_, e3⟩
      rcases List.mem_cons.mp ha with rfl | ha
      · exact hx
      · exact e2 a ha
theorem srt_ins {e : Nat} {A B : List Nat} (h : Srt lt (A ++ B)) (hA : ∀ a ∈ A, lt e a = false) (hB : ∀ b ∈ B, lt e b = true) (as : ∀ b ∈ B, lt e b = true → lt b e = false) : Srt lt (A ++ [e] ++ B) := by
  obtain ⟨h1, h2, h3⟩ := List.pairwise_append.mp h
  refine List.pairwise_append.mpr ⟨List.pairwise_append.mpr ⟨h1, List.pairwise_singleton _ _, fun a ha b hb => ?_⟩, h2, fun a ha b hb => ?_⟩
  · rw [List.mem_singleton.mp hb]; exact hA a ha
  · rcases List.mem_append.mp ha with ha | ha
    · exact h3 a ha b hb
    · rw [List.mem_singleton.mp ha]; exact as b hb (hB b hb)
theorem filter_split {e : Nat} {A B : List Nat} (hA : ∀ a ∈ A, lt e a = false) (hB : ∀ b ∈ B, lt e b = true) : ((A ++ B).filter fun i => !lt e i) = A := by
  rw [List.filter_append, List.filter_eq_self.mpr fun a ha => by rw [hA a ha]; rfl, List.filter_eq_nil_iff.mpr fun b hb => by rw [hB b hb]; simp, List.append_nil]
/-- the order of 0 .. n-1 by insertion -/
inductive InsOf (lt : Nat → Nat → Bool) : Nat → List Nat → Prop where
  | nil : InsOf lt 0 []
  | cons {n : Nat} {A B : List Nat} : InsOf lt n (A ++ B) → (∀ a ∈ A, lt n a = false) → (∀ b ∈ B, lt n b = true) → InsOf lt (n + 1) (A ++ [n] ++ B)
theorem InsOf.mem {n : Nat} {F : List Nat} (h : InsOf lt n F) : ∀ i ∈ F, i < n := by
  induction h with
  | nil => intro i hi; cases hi
  | cons h hA hB ih =>
    intro i hi
    simp only [List.mem_append, List.mem_singleton] at hi
    rcases hi with (hi | rfl) | hi
    · have := ih i (List.mem_append_left _ hi); omega
    · omega
    · have := ih i (List.mem_append_right _ hi); omega
theorem InsOf.len {n : Nat} {F : List Nat} (h : InsOf lt n F) : F.length = n := by
  induction h with
  | nil => rfl
  | cons h hA hB ih =>
    simp only [List.length_append, List.length_singleton] at ih ⊢
    omega
/-- lt on what is below n: as of a strict order of ranks -/
structure LtOk (lt : Nat → Nat → Bool) (n : Nat) : Prop where
  nt : ∀ e a b, e < n → a < n → b < n → lt e a = true → lt e b = true ∨ lt b a = true
  as : ∀ e a, lt e a = true → lt a e = false
theorem InsOf.srt {n m : Nat} {F : List Nat} (L : LtOk lt m) (h : InsOf lt n F) (hn : n ≤ m) : Srt lt F := by
  induction h with
  | nil => exact List.Pairwise.nil
  | @cons n A B h hA hB ih => exact srt_ins (ih (by omega)) hA hB fun b hb q => L.as _ _ q
theorem InsOf.split {n m : Nat} {F : List Nat} (L : LtOk lt m) (h : InsOf lt n F) (hn : n < m) : ∃ A B, F = A ++ B ∧ (∀ a ∈ A, lt n a = false) ∧ ∀ b ∈ B, lt n b = true :=
  srt_split (h.srt L (by omega)) fun a ha b hb q => L.nt n a b hn (by have := h.mem a ha; omega) (by have := h.mem b hb; omega) q
theorem split_uniq {p : Nat → Bool} : ∀ {A B A' B' : List Nat}, A ++ B = A' ++ B' → (∀ a ∈ A, p a = false) → (∀ b ∈ B, p b = true) → (∀ a ∈ A', p a = false) → (∀ b ∈ B', p b = true) → A = A' ∧ B = B'
  | [], B, [], B', e, _, _, _, _ => ⟨rfl, e⟩
  | [], B, x :: A', B', e, _, hB, hA', _ => by
    have := hB x (by rw [show B = x :: (A' ++ B') from e]; exact List.mem_cons_self ..)
    rw [hA' x (List.mem_cons_self ..)] at this; cases this
  | x :: A, B, [], B', e, hA, _, _, hB' => by
    have := hB' x (by rw [← show x :: (A ++ B) = B' from e]; exact List.mem_cons_self ..)
    rw [hA x (List.mem_cons_self ..)] at this; cases this
  | x :: A, B, y :: A', B', e, hA, hB, hA', hB' => by
    injection e with e1 e2
    subst e1
    obtain ⟨r1, r2⟩ := split_uniq e2 (fun a h => hA a (List.mem_cons_of_mem _ h)) hB (fun a h => hA' a (List.mem_cons_of_mem _ h)) hB'
    exact ⟨by rw [r1], r2⟩
theorem InsOf.uniq {n : Nat} {F G : List Nat} (h : InsOf lt n F) (g : InsOf lt n G) : F = G := by
  induction h generalizing G with
  | nil => cases g; rfl
  | @cons n A B h hA hB ih =>
    generalize hm : n + 1 = m at g
    cases g with
    | nil => omega
    | @cons n' A' B' g hA' hB' =>
      have : n = n' := by omega
      subst this
      have e := ih g
      obtain ⟨r1, r2⟩ := split_uniq (p := lt n) e hA hB hA' hB'
      rw [r1, r2]
end
end Dn

set_option maxHeartbeats 4000000
namespace Dn
open PySem PySem.Spec PyProof.Rows L2
section
variable {α : Type} {w : Wk} {turn : D → Sto → Option (Option D × Sto)} {S : Sto}
theorem loop_map2 {g f : α → D} (hw : okW w S) : ∀ {ys : List α}, (∀ y ∈ ys, turn (g y) S = some (some (f y), S)) → loopLc w turn (ys.map g) S = some (ys.map f, S)
  | [], _ => by unfold loopLc; simp only [List.map_nil]; rw [if_pos hw]
  | y :: ys, h => by
    simp only [List.map_cons]
    unfold loopLc
    rw [if_pos hw, h y (List.mem_cons_self ..), Option.bind_some, loop_map2 hw fun z hz => h z (List.mem_cons_of_mem _ hz)]
    rfl
theorem loop_filter2 {g f : α → D} {q : α → Bool} (hw : okW w S) : ∀ {ys : List α}, (∀ y ∈ ys, turn (g y) S = some (if q y = true then some (f y) else none, S)) → loopLc w turn (ys.map g) S = some ((ys.filter q).map f, S)
  | [], _ => by unfold loopLc; simp only [List.map_nil]; rw [if_pos hw]; rfl
  | y :: ys, h => by
    simp only [List.map_cons]
    unfold loopLc
    rw [if_pos hw, h y (List.mem_cons_self ..), Option.bind_some, loop_filter2 hw fun z hz => h z (List.mem_cons_of_mem _ hz)]
    cases hq : q y <;> simp [hq, List.filter_cons]
/-- turns that leave J of the store -/
theorem loop_all {J : Sto → Prop} {f : α → D} {g : α → D} (hw : ∀ S, J S → okW w S) : ∀ {ys : List α} {S : Sto}, (∀ y ∈ ys, ∀ S, J S → ∃ S', turn (g y) S = some (some (f y), S') ∧ J S') → J S → ∃ S', loopLc w turn (ys.map g) S = some (ys.map f, S') ∧ J S'
  | [], S, _, h0 => ⟨S, by unfold loopLc; simp only [List.map_nil]; rw [if_pos (hw S h0)], h0⟩
  | y :: ys, S, h, h0 => by
    obtain ⟨S1, e1, h1⟩ := h y (List.mem_cons_self ..) S h0
    obtain ⟨S2, e2, h2⟩ := loop_all hw (fun z hz => h z (List.mem_cons_of_mem _ hz)) h1
    refine ⟨S2, ?_, h2⟩
    simp only [List.map_cons]
    unfold loopLc
    rw [if_pos (hw S h0), e1, Option.bind_some, e2]
    rfl
end
theorem cut_to {xs ys : List D} : cutD (xs ++ ys) none (some (xs.length : Int)) = xs := by
  unfold cutD
  rw [HT.sIx_none, HT.sIx_nat]
  simp
theorem cut_from {xs ys : List D} : cutD (xs ++ ys) (some (xs.length : Int)) none = ys := by
  unfold cutD
  rw [HT.sIx_none, HT.sIx_nat]
  simp
theorem enm_split {steps p r : List D} {x : D} {m : Nat} (h : enmD m steps = p ++ x :: r) : ∃ s, steps[p.length]? = some s ∧ x = .tup [.int ((m + p.length : Nat) : Int), s] := by
  have hx : (enmD m steps)[p.length]? = some x := by rw [h]; simp
  exact enm_get hx
def iD (i : Nat) : D := .int (i : Int)
end Dn
namespace Dn
open PySem PySem.Spec PyProof.Rows L2
/-! ### values without objects of the store -/
mutual
def plainD : D → Bool
  | .tup xs => plainDs xs
  | .lst xs => plainDs xs
  | .scr xs => plainDs xs
  | .dic _ xs => plainDs xs
  | .ref _ => false
  | .rfd _ => false
  | .ntup xs => plainDs xs
  | .exc _ _ xs => plainDs xs
  | _ => true
def plainDs : List D → Bool
  | [] => true
  | d :: ds => plainD d && plainDs ds
end
mutual
theorem fz_plain {n : Nat} {g : Nat → Option D} : ∀ {d : D}, plainD d = true → fzD n g d = some d
  | .tup xs, h => by simp only [plainD] at h; simp only [fzD, fzs_plain h, Option.map_some]
  | .lst xs, h => by simp only [plainD] at h; simp only [fzD, fzs_plain h, Option.map_some]
  | .scr xs, h => by simp only [plainD] at h; simp only [fzD, fzs_plain h, Option.map_some]
  | .dic ks xs, h => by simp only [plainD] at h; simp only [fzD, fzs_plain h, Option.map_some]
  | .ref k, h => by simp only [plainD] at h; cases h
  | .rfd k, h => by simp only [plainD] at h; cases h
  | .ntup xs, h => by simp only [plainD] at h; simp only [fzD, fzs_plain h, Option.map_some]
  | .exc C f xs, h => by simp only [plainD] at h; simp only [fzD, fzs_plain h, Option.map_some]
  | .non, h => by simp only [fzD]
  | .bl _, h => by simp only [fzD]
  | .int _, h => by simp only [fzD]
  | .str _, h => by simp only [fzD]
theorem fzs_plain {n : Nat} {g : Nat → Option D} : ∀ {ds : List D}, plainDs ds = true → fzDs n g ds = some ds
  | [], h => by simp only [fzDs]
  | d :: ds, h => by
    simp only [plainDs, Bool.and_eq_true] at h
    simp only [fzDs, fz_plain h.1, fzs_plain h.2, Option.bind_some, Option.map_some]
end
theorem plain_all : ∀ {ds : List D}, (∀ d ∈ ds, plainD d = true) → plainDs ds = true
  | [], _ => by simp only [plainDs]
  | d :: ds, h => by simp only [plainDs, h d (List.mem_cons_self ..), plain_all fun e he => h e (List.mem_cons_of_mem _ he), Bool.and_self]
/-- a local list is given back: it is frozen -/
theorem gc_one {S S1 : Sto} {xs : List D} (h : plainDs xs = true) (h1 : S1.length = S.length) (hg : GcOk S.length S (S1 ++ [.lst false xs])) : gc S (.ref S.length) (S1 ++ [.lst false xs]) = some (.lst xs, S1) := by
  unfold gc
  have e1 : ¬ (S1 ++ [MO.lst false xs]).length ≤ S.length := by simp; omega
  have e2 : (S1 ++ [MO.lst false xs]).drop S.length = [.lst false xs] := by rw [← h1]; simp
  have e3 : (S1 ++ [MO.lst false xs]).take S.length = S1 := by rw [← h1]; simp
  have e4 : (S1 ++ [MO.lst false xs])[S.length]? = some (.lst false xs) := by rw [← h1]; simp
  rw [if_neg e1, e2, if_neg (by simp [MO.keep]), if_pos hg, e3]
  simp only [fzD, Nat.lt_irrefl, ↓reduceIte, fzR, e4, fzs_plain h, Option.map_some]
/-- a local list is let go -/
theorem gc_let {S S1 : Sto} {xs : List D} {d : D} (h : plainD d = true) (h1 : S1.length = S.length) (hg : GcOk S.length S (S1 ++ [.lst false xs])) : gc S d (S1 ++ [.lst false xs]) = some (d, S1) := by
  unfold gc
  have e1 : ¬ (S1 ++ [MO.lst false xs]).length ≤ S.length := by simp; omega
  have e2 : (S1 ++ [MO.lst false xs]).drop S.length = [.lst false xs] := by rw [← h1]; simp
  have e3 : (S1 ++ [MO.lst false xs]).take S.length = S1 := by rw [← h1]; simp
  rw [if_neg e1, e2, if_neg (by simp [MO.keep]), if_pos hg, e3]
  simp only [fz_plain h, Option.map_some]
/-- a local dict is let go -/
theorem gc_letD {S S1 : Sto} {ks : List (List Key)} {xs : List D} {d : D} (h : plainD d = true) (h1 : S1.length = S.length) (hg : GcOk S.length S (S1 ++ [.dct false ks xs])) : gc S d (S1 ++ [.dct false ks xs]) = some (d, S1) := by
  unfold gc
  have e1 : ¬ (S1 ++ [MO.dct false ks xs]).length ≤ S.length := by simp; omega
  have e2 : (S1 ++ [MO.dct false ks xs]).drop S.length = [.dct false ks xs] := by rw [← h1]; simp
  have e3 : (S1 ++ [MO.dct false ks xs]).take S.length = S1 := by rw [← h1]; simp
  rw [if_neg e1, e2, if_neg (by simp [MO.keep]), if_pos hg, e3]
  simp only [fz_plain h, Option.map_some]
theorem gcok_mo {S : Sto} {mo : MO} : GcOk S.length S (S ++ [mo]) := fun k hk => .inl (List.getElem?_append_left hk)
theorem gcok_same {S : Sto} {xs : List D} : GcOk S.length S (S ++ [.lst false xs]) := fun k hk => .inl (List.getElem?_append_left hk)
theorem below_ints {n : Nat} {a b c : Int} : belowDs n [.int a, .int b, .int c] = true := by simp [belowDs, belowD]
theorem gcok_sp {S S1 : Sto} {xs : List D} {k j : Nat} (h : Same k S S1) (hs : Sp k j S1) : GcOk S.length S (S1 ++ [.lst false xs]) := fun i hi => by
  by_cases e : i = k
  · subst e
    obtain ⟨a, b, c, e1, _⟩ := hs
    refine .inr ⟨.lst true [.int a, .int b, .int c], ?_, below_ints⟩
    rw [List.getElem?_append_left (by rw [h.1]; exact hi)]; exact e1
  · refine .inl ?_
    rw [List.getElem?_append_left (by rw [h.1]; exact hi)]
    exact h.2 i e
theorem last_get {S : Sto} {mo : MO} : (S ++ [mo])[S.length]? = some mo := by simp
theorem last_set {S : Sto} {mo mo' : MO} : (S ++ [mo]).set S.length mo' = S ++ [mo'] := by
  rw [List.set_append_right _ _ (Nat.le_refl _)]; simp
end Dn

set_option maxHeartbeats 1000000
namespace K05
open PySem PySem.Spec PyProof.Rows L2 Dn
abbrev PT : List (Str × Fn) := tabOf defs
theorem lk {d : Dfn} (h : d ∈ defs) : PT.lookup d.nm = some d.fc := tab_get nd h
theorem hT : Geo.Has PT where
  draw := lk (d := d_law_draw) (by simp only [defs, List.mem_cons, true_or, or_true])
  one_of := lk (d := d_law_one_of) (by simp only [defs, List.mem_cons, true_or, or_true])
  divisor := lk (d := d_law_divisor) (by simp only [defs, List.mem_cons, true_or, or_true])
  part := lk (d := d_law_part) (by simp only [defs, List.mem_cons, true_or, or_true])
  place := lk (d := d_law_place) (by simp only [defs, List.mem_cons, true_or, or_true])
  told := lk (d := d_law_told) (by simp only [defs, List.mem_cons, true_or, or_true])
  own := lk (d := d_law_own) (by simp only [defs, List.mem_cons, true_or, or_true])
theorem hP : Geo.HasP PT where
  whole := lk (d := d_p_is_whole) (by simp only [defs, List.mem_cons, true_or, or_true])
  wholes := lk (d := d_p_are_wholes) (by simp only [defs, List.mem_cons, true_or, or_true])
  is_ratio := lk (d := d_p_is_ratio) (by simp only [defs, List.mem_cons, true_or, or_true])
  ratio := lk (d := d_p_ratio) (by simp only [defs, List.mem_cons, true_or, or_true])
  minus := lk (d := d_p_minus) (by simp only [defs, List.mem_cons, true_or, or_true])
  times := lk (d := d_p_times) (by simp only [defs, List.mem_cons, true_or, or_true])
  pointed := lk (d := d_p_is_pointed) (by simp only [defs, List.mem_cons, true_or, or_true])
  step_of := lk (d := d_p_step_of) (by simp only [defs, List.mem_cons, true_or, or_true])
  cross := lk (d := d_p_cross) (by simp only [defs, List.mem_cons, true_or, or_true])
theorem l_sign : PT.lookup ("sign_of" : Str) = some c_p_sign_of := lk (d := d_p_sign_of) (by simp only [defs, List.mem_cons, true_or, or_true])
theorem l_turn_by : PT.lookup ("turn_by" : Str) = some c_p_turn_by := lk (d := d_p_turn_by) (by simp only [defs, List.mem_cons, true_or, or_true])
theorem l_less : PT.lookup ("is_less" : Str) = some c_p_is_less := lk (d := d_p_is_less) (by simp only [defs, List.mem_cons, true_or, or_true])
variable {n k : Nat} {S : Sto}
def sgnI (i : Int) : Int := if 0 < i then 1 else if i = 0 then 0 else -1
theorem sign_eq {p : Int × Int} : callN tb PT (n + 1) "sign_of" [fD p] S = some (.int (sgnI p.1), S) := by
  obtain ⟨a, b⟩ := p
  rw [q_of l_sign rfl]
  simp only [c_p_sign_of]
  by_cases h : 0 < a
  · have h2 : ¬ a < 0 := by omega
    simp [startD, fD, ixD, items, atI, ixN, cmpD, h, h2, binD, dr, bI, gc_same, sgnI]
  · by_cases h2 : a = 0
    · subst h2
      simp [startD, fD, ixD, items, atI, ixN, cmpD, binD, dr, bI, gc_same, sgnI]
    · have h3 : a < 0 := by omega
      simp [startD, fD, ixD, items, atI, ixN, cmpD, h, h2, h3, binD, dr, bI, gc_same, sgnI]
theorem turn_by {P Q R : Pnt} {k : Nat} (hP' : Pt k P) (hQ : Pt k Q) (hR : Pt k R) (hk : k ≤ 700) : callN tb PT (n + 4) "turn_by" [pD P, pD Q, pD R] S = some (.int (sgnI (pcross (psub Q P) (psub R P)).1), S) := by
  have e1 := Geo.step_of (tb := tb) (n := n) (S := S) hP hP' hQ (by omega)
  have e2 := Geo.step_of (tb := tb) (n := n) (S := S) hP hP' hR (by omega)
  have e3 := Geo.cross (tb := tb) (n := n) (S := S) hP (P := psub Q P) (Q := psub R P) (k := k + k + 1) ⟨hQ.1.sub hP'.1, hQ.2.sub hP'.2⟩ ⟨hR.1.sub hP'.1, hR.2.sub hP'.2⟩ (by omega)
  have e4 := sign_eq (n := n + 2) (S := S) (p := pcross (psub Q P) (psub R P))
  rw [q_of l_turn_by rfl]
  simp only [c_p_turn_by]
  simp [startD, e1, e2, e3, e4, gc_same]
theorem less_eq {p q : Int × Int} {k : Nat} (h : Fr k p) (g : Fr k q) (hk : k ≤ 3000) : callN tb PT (n + 1) "is_less" [fD p, fD q] S = some (.bl (decide (p.1 * q.2 < q.1 * p.2)), S) := by
  have m1 : mulOk p.1 q.2 = true := h.l1.ok g.l2 (by omega) (by omega)
  have m2 : mulOk q.1 p.2 = true := g.l1.ok h.l2 (by omega) (by omega)
  rw [q_of l_less rfl]
  simp only [c_p_is_less]
  simp [startD, fD, ixD, items, atI, ixN, binD, dr, m1, m2, cmpD, gc_same]
end K05

set_option maxHeartbeats 1000000
namespace K05
open PySem PySem.Spec PyProof.Rows L2 Dn
variable {n k : Nat} {S : Sto}
theorem l_first : PT.lookup ("comes_first" : Str) = some c_p_comes_first := lk (d := d_p_comes_first) (by simp only [defs, List.mem_cons, true_or, or_true])
theorem l_asc : PT.lookup ("ascending" : Str) = some c_p_ascending := lk (d := d_p_ascending) (by simp only [defs, List.mem_cons, true_or, or_true])
theorem l_onby : PT.lookup ("is_on_by" : Str) = some c_p_is_on_by := lk (d := d_p_is_on_by) (by simp only [defs, List.mem_cons, true_or, or_true])
theorem eq_fD {p q : Int × Int} {S : Sto} : cmpD S .Eq (fD p) (fD q) = some (decide (p = q)) := by
  obtain ⟨a, b⟩ := p
  obtain ⟨x, y⟩ := q
  simp [cmpD, fD, dr, eqD, flatD, eqP, pd, pds, SeqAt.shaped, PyData.canLay0, PyData.canLayAll0, PyData.depth, PyData.depthAll, PyData.eqv, PyData.eqvAll]
  by_cases h1 : a = x <;> by_cases h2 : b = y <;> simp [h1, h2]
def firstP (P Q : Pnt) : Bool := decide (P.1.1 * Q.1.2 < Q.1.1 * P.1.2) || (decide (P.1 = Q.1) && decide (P.2.1 * Q.2.2 < Q.2.1 * P.2.2))
theorem first_eq {P Q : Pnt} {k : Nat} (h : Pt k P) (g : Pt k Q) (hk : k ≤ 3000) : callN tb PT (n + 2) "comes_first" [pD P, pD Q] S = some (.bl (firstP P Q), S) := by
  have e1 := less_eq (n := n) (S := S) h.1 g.1 hk
  have e2 := less_eq (n := n) (S := S) h.2 g.2 hk
  rw [q_of l_first rfl]
  simp only [c_p_comes_first]
  by_cases c1 : P.1.1 * Q.1.2 < Q.1.1 * P.1.2
  · simp [startD, pD, ixD, items, atI, ixN, e1, c1, gc_same, firstP]
  · by_cases c2 : P.1 = Q.1
    · have e3 : cmpD S .Eq (fD P.1) (fD Q.1) = some true := by rw [eq_fD, decide_eq_true c2]
      have ef : firstP P Q = decide (P.2.1 * Q.2.2 < Q.2.1 * P.2.2) := by
        unfold firstP
        rw [decide_eq_false c1, decide_eq_true c2, Bool.true_and, Bool.false_or]
      rw [ef]
      simp [startD, pD, ixD, items, atI, ixN, e1, c1, e3, e2, gc_same]
    · have e3 : cmpD S .Eq (fD P.1) (fD Q.1) = some false := by rw [eq_fD, decide_eq_false c2]
      simp [startD, pD, ixD, items, atI, ixN, e1, c1, e3, gc_same, firstP, c2]
theorem asc_eq {P Q : Pnt} {k : Nat} (h : Pt k P) (g : Pt k Q) (hk : k ≤ 3000) : callN tb PT (n + 3) "ascending" [.tup [pD P, pD Q]] S = some (if firstP P Q = true then .tup [pD P, pD Q] else .tup [pD Q, pD P], S) := by
  have e1 := first_eq (n := n) (S := S) h g hk
  rw [q_of l_asc rfl]
  simp only [c_p_ascending]
  cases c : firstP P Q <;> rw [c] at e1 <;> simp [startD, ixD, items, atI, ixN, e1, truD, dr, gc_same]
def onP (P Q R : Pnt) : Bool := !firstP R P && !firstP Q R && decide ((pcross (psub Q P) (psub R P)).1 = 0)
theorem sgn0 {i : Int} : (sgnI i = 0) = (i = 0) := by unfold sgnI; split <;> (try split) <;> simp <;> omega
theorem onby_eq {P Q R : Pnt} {k : Nat} (h : Pt k P) (g : Pt k Q) (f : Pt k R) (hk : k ≤ 700) : callN tb PT (n + 5) "is_on_by" [.tup [pD P, pD Q], pD R] S = some (.bl (if firstP P Q = true then onP P Q R else onP Q P R), S) := by
  have e0 := asc_eq (n := n + 1) (S := S) h g (by omega)
  have go : ∀ {A B : Pnt}, Pt k A → Pt k B → callN tb PT (n + 4) "ascending" [.tup [pD P, pD Q]] S = some (.tup [pD A, pD B], S) → callN tb PT (n + 5) "is_on_by" [.tup [pD P, pD Q], pD R] S = some (.bl (onP A B R), S) := by
    intro A B hA hB e
    have e1 := first_eq (n := n + 2) (S := S) f hA (by omega)
    have e2 := first_eq (n := n + 2) (S := S) hB f (by omega)
    have e3 := turn_by (n := n) (S := S) hA hB f hk
    rw [q_of l_onby rfl]
    simp only [c_p_is_on_by]
    cases c1 : firstP R A <;> rw [c1] at e1
    · cases c2 : firstP B R <;> rw [c2] at e2
      · simp [startD, e, e1, e2, e3, truD, cmpD, dr, eqD, flatD, scal, vD, gc_same, onP, c1, c2, sgn0]
      · simp [startD, e, e1, e2, truD, gc_same, onP, c1, c2]
    · simp [startD, e, e1, truD, gc_same, onP, c1]
  cases c : firstP P Q <;> rw [c] at e0
  · exact go g h e0
  · exact go h g e0
end K05

set_option maxHeartbeats 1000000
namespace K05
open PySem PySem.Spec PyProof.Rows L2 Dn
variable {n k : Nat} {S : Sto}
theorem l_segd : PT.lookup ("is_segmented" : Str) = some c_p_is_segmented := lk (d := d_p_is_segmented) (by simp only [defs, List.mem_cons, true_or, or_true])
theorem l_side : PT.lookup ("_law_side" : Str) = some c_law_side := lk (d := d_law_side) (by simp only [defs, List.mem_cons, true_or, or_true])
theorem l_lless : PT.lookup ("_law_is_less" : Str) = some c_law_is_less := lk (d := d_law_is_less) (by simp only [defs, List.mem_cons, true_or, or_true])
theorem l_lies : PT.lookup ("_law_lies_on" : Str) = some c_law_lies_on := lk (d := d_law_lies_on) (by simp only [defs, List.mem_cons, true_or, or_true])
theorem ne_pD {P Q : Pnt} {S : Sto} : cmpD S .NotEq (pD P) (pD Q) = some (!decide (P = Q)) := by
  obtain ⟨⟨a, b⟩, ⟨c, d⟩⟩ := P
  obtain ⟨⟨x, y⟩, ⟨z, w⟩⟩ := Q
  simp [cmpD, pD, fD, dr, eqD, flatD, eqP, pd, pds, SeqAt.shaped, PyData.canLay0, PyData.canLayAll0, PyData.depth, PyData.depthAll, PyData.eqv, PyData.eqvAll]
  by_cases h1 : a = x <;> by_cases h2 : b = y <;> by_cases h3 : c = z <;> by_cases h4 : d = w <;> simp [h1, h2, h3, h4]
theorem seg_eq {P Q : Pnt} (h : Pt k P) (g : Pt k Q) (ne : P ≠ Q) : callN tb PT (n + 5) "is_segmented" [.tup [pD P, pD Q]] S = some (.bl true, S) := by
  have lp : ∀ z : Option D, loopLc ⟨[pD P, pD Q], none⟩ (lcTurn (geN tb PT (n + 4)) (.call "is_pointed" [.var 1]) (.name 1) [] [1] [some (.tup [pD P, pD Q]), z]) [pD P, pD Q] S = some ([pD P, pD Q].map fun _ => D.bl true, S) := fun z => by
    refine loop_map ok_none fun x hx => ?_
    simp only [List.mem_cons, List.not_mem_nil, or_false] at hx
    rcases hx with rfl | rfl
    · simp [lcTurn, wipeD, Geo.pointed_pt hP h]
    · simp [lcTurn, wipeD, Geo.pointed_pt hP g]
  have e : cmpD S .NotEq (pD P) (pD Q) = some true := by rw [ne_pD, decide_eq_false ne]; rfl
  have e2 : ∀ T : Sto, cmpD T .NotEq (.int 2) (.int 2) = some false := fun T => by simp [cmpD, dr, eqD, flatD, scal, vD]
  rw [q_of l_segd rfl]
  simp only [c_p_is_segmented]
  simp [startD, tyD, bltD, items, litems, e2, srcOf, lp, blsD, truD, ixD, atI, ixN, e, gc_same]
/-! ### the law's own sums -/
abbrev Plc : Type := Int × Int × Int
structure POk (p : Plc) : Prop where
  a : Lt 400 p.1
  b : Lt 400 p.2.1
  c : Lt 400 p.2.2
def sideV (p q r : Plc) : Int := p.1 * (q.2.1 * r.2.2 - r.2.1 * q.2.2) - p.2.1 * (q.1 * r.2.2 - r.1 * q.2.2) + p.2.2 * (q.1 * r.2.1 - r.1 * q.2.1)
theorem side_eq {p q r : Plc} (h : POk p) (g : POk q) (f : POk r) : callN tb PT (n + 1) "_law_side" [lD p, lD q, lD r] S = some (.int (sideV p q r), S) := by
  have m1 : mulOk q.2.1 r.2.2 = true := g.b.ok f.c (by omega) (by omega)
  have m2 : mulOk r.2.1 q.2.2 = true := f.b.ok g.c (by omega) (by omega)
  have m3 : mulOk q.1 r.2.2 = true := g.a.ok f.c (by omega) (by omega)
  have m4 : mulOk r.1 q.2.2 = true := f.a.ok g.c (by omega) (by omega)
  have m5 : mulOk q.1 r.2.1 = true := g.a.ok f.b (by omega) (by omega)
  have m6 : mulOk r.1 q.2.1 = true := f.a.ok g.b (by omega) (by omega)
  have m7 : mulOk p.1 (q.2.1 * r.2.2 - r.2.1 * q.2.2) = true := h.a.ok ((g.b.mul f.c).sub (f.b.mul g.c)) (by omega) (by omega)
  have m8 : mulOk p.2.1 (q.1 * r.2.2 - r.1 * q.2.2) = true := h.b.ok ((g.a.mul f.c).sub (f.a.mul g.c)) (by omega) (by omega)
  have m9 : mulOk p.2.2 (q.1 * r.2.1 - r.1 * q.2.1) = true := h.c.ok ((g.a.mul f.b).sub (f.a.mul g.b)) (by omega) (by omega)
  rw [q_of l_side rfl]
  simp only [c_law_side]
  simp [startD, lD, ixD, items, atI, ixN, binD, dr, m1, m2, m3, m4, m5, m6, m7, m8, m9, gc_same, sideV]
end K05

set_option maxHeartbeats 4000000
namespace Dn
open PySem PySem.Spec PyProof.Rows L2
theorem cross_sim0 {v w : Int × Int} {s t : Pnt} (h : Sim v s) (g : Sim w t) : (pcross s t).1 = 0 ↔ crossV v w = 0 := by
  obtain ⟨l, l0, e1, e2⟩ := h.ex
  obtain ⟨m, m0, f1, f2⟩ := g.ex
  have b1 := Int.mul_pos h.d1 g.d2
  have b2 := Int.mul_pos h.d2 g.d1
  have r1 := red_eq (t := s.1.1 * t.2.1) (b := s.1.2 * t.2.2)
  have r2 := red_eq (t := s.2.1 * t.1.1) (b := s.2.2 * t.1.2)
  have c1 := red_pos (t := s.1.1 * t.2.1) b1
  have c2 := red_pos (t := s.2.1 * t.1.1) b2
  have hc : pcross s t = red ((fmul s.1 t.2).1 * (fmul s.2 t.1).2 - (fmul s.2 t.1).1 * (fmul s.1 t.2).2) ((fmul s.1 t.2).2 * (fmul s.2 t.1).2) := rfl
  have r3 := red_eq (t := (fmul s.1 t.2).1 * (fmul s.2 t.1).2 - (fmul s.2 t.1).1 * (fmul s.1 t.2).2) (b := (fmul s.1 t.2).2 * (fmul s.2 t.1).2)
  have c3 := Int.mul_pos c1 c2
  have c4 := red_pos (t := (fmul s.1 t.2).1 * (fmul s.2 t.1).2 - (fmul s.2 t.1).1 * (fmul s.1 t.2).2) (show 0 < (fmul s.1 t.2).2 * (fmul s.2 t.1).2 from c3)
  rw [hc]
  have i1 := (sgn (r3.trans (Int.mul_comm _ _)) c3 c4).2
  rw [i1]
  -- the sign of both is that of K
  have d0 := Int.mul_pos b1 b2
  have i2 := sgn (a := (fmul s.1 t.2).1 * (fmul s.2 t.1).2 - (fmul s.2 t.1).1 * (fmul s.1 t.2).2) (d := (s.1.2 * t.2.2) * (s.2.2 * t.1.2)) (l := (fmul s.1 t.2).2 * (fmul s.2 t.1).2) (b := s.1.1 * t.2.1 * (s.2.2 * t.1.2) - s.2.1 * t.1.1 * (s.1.2 * t.2.2)) (by
    show ((red (s.1.1 * t.2.1) (s.1.2 * t.2.2)).1 * (red (s.2.1 * t.1.1) (s.2.2 * t.1.2)).2 - (red (s.2.1 * t.1.1) (s.2.2 * t.1.2)).1 * (red (s.1.1 * t.2.1) (s.1.2 * t.2.2)).2) * ((s.1.2 * t.2.2) * (s.2.2 * t.1.2)) = (red (s.1.1 * t.2.1) (s.1.2 * t.2.2)).2 * (red (s.2.1 * t.1.1) (s.2.2 * t.1.2)).2 * (s.1.1 * t.2.1 * (s.2.2 * t.1.2) - s.2.1 * t.1.1 * (s.1.2 * t.2.2))
    grind) d0 c3
  have i3 := sgn (a := crossV v w) (d := (s.1.2 * t.2.2) * (s.2.2 * t.1.2)) (l := l * m) (b := s.1.1 * t.2.1 * (s.2.2 * t.1.2) - s.2.1 * t.1.1 * (s.1.2 * t.2.2)) (by
    unfold crossV
    grind) d0 (Int.mul_pos l0 m0)
  rw [i2.2, i3.2]
end Dn
namespace K05
open PySem PySem.Spec PyProof.Rows L2 Dn
variable {n k : Nat} {S : Sto}
theorem side_vec (p q r : Plc) : crossV (vec p q) (vec p r) = sideV p q r * p.2.2 := by
  unfold crossV vec sideV
  grind
theorem sgn_of {a b : Int} (h1 : 0 < a ↔ 0 < b) (h2 : a = 0 ↔ b = 0) : sgnI a = sgnI b := by
  unfold sgnI
  simp only [h1, h2]
/-- the program's turn is the sign of the law's sum -/
theorem turn_side {k : Nat} {P Q R : Pnt} (h : Pt k P) (g : Pt k Q) (f : Pt k R) : sgnI (pcross (psub Q P) (psub R P)).1 = sgnI (sideV (ownP P) (ownP Q) (ownP R)) := by
  have s1 := sim_of h g
  have s2 := sim_of h f
  have c1 := cross_sim s1 s2
  have c2 := cross_sim0 s1 s2
  have p0 := (own_eq h).1.pos
  have e := side_vec (ownP P) (ownP Q) (ownP R)
  have z := sgn (a := sideV (ownP P) (ownP Q) (ownP R)) (d := (ownP P).2.2) (l := 1) (b := crossV (vec (ownP P) (ownP Q)) (vec (ownP P) (ownP R))) (by rw [e, Int.one_mul]) p0 (by omega)
  exact sgn_of (c1.trans z.1.symm) (c2.trans z.2.symm)
def lessV (p q : Plc) : Bool := if p.1 * q.2.2 ≠ q.1 * p.2.2 then decide (p.1 * q.2.2 < q.1 * p.2.2) else decide (p.2.1 * q.2.2 < q.2.1 * p.2.2)
theorem lless_eq {p q : Plc} (h : POk p) (g : POk q) : callN tb PT (n + 1) "_law_is_less" [lD p, lD q] S = some (.bl (lessV p q), S) := by
  have m1 : mulOk p.1 q.2.2 = true := h.a.ok g.c (by omega) (by omega)
  have m2 : mulOk q.1 p.2.2 = true := g.a.ok h.c (by omega) (by omega)
  have m3 : mulOk p.2.1 q.2.2 = true := h.b.ok g.c (by omega) (by omega)
  have m4 : mulOk q.2.1 p.2.2 = true := g.b.ok h.c (by omega) (by omega)
  rw [q_of l_lless rfl]
  simp only [c_law_is_less]
  by_cases c : p.1 * q.2.2 = q.1 * p.2.2
  · simp [startD, lD, ixD, items, atI, ixN, binD, dr, m1, m2, m3, m4, cmpD, eqD, flatD, scal, vD, c, gc_same, lessV]
  · simp [startD, lD, ixD, items, atI, ixN, binD, dr, m1, m2, m3, m4, cmpD, eqD, flatD, scal, vD, c, gc_same, lessV]
def liesV (p q r : Plc) : Bool := if sideV p q r ≠ 0 then false else if lessV p q = true then !lessV r p && !lessV q r else !lessV r q && !lessV p r
theorem lies_eq {p q r : Plc} (h : POk p) (g : POk q) (f : POk r) : callN tb PT (n + 2) "_law_lies_on" [lD p, lD q, lD r] S = some (.bl (liesV p q r), S) := by
  have e0 := side_eq (n := n) (S := S) h g f
  have e1 := lless_eq (n := n) (S := S) h g
  have e2 := lless_eq (n := n) (S := S) f h
  have e3 := lless_eq (n := n) (S := S) g f
  have e4 := lless_eq (n := n) (S := S) f g
  have e5 := lless_eq (n := n) (S := S) h f
  rw [q_of l_lies rfl]
  simp only [c_law_lies_on]
  by_cases c : sideV p q r = 0
  · cases c1 : lessV p q <;> rw [c1] at e1
    · cases c2 : lessV r q <;> rw [c2] at e4 <;> simp [startD, e0, cmpD, dr, eqD, flatD, scal, vD, c, e1, truD, e4, e5, gc_same, liesV, c1, c2]
    · cases c2 : lessV r p <;> rw [c2] at e2 <;> simp [startD, e0, cmpD, dr, eqD, flatD, scal, vD, c, e1, truD, e2, e3, gc_same, liesV, c1, c2]
  · simp [startD, e0, cmpD, dr, eqD, flatD, scal, vD, c, gc_same, liesV]
end K05

set_option maxHeartbeats 1000000
namespace K05
open PySem PySem.Spec PyProof.Rows L2 Dn
variable {n k : Nat} {S : Sto}
theorem fr_uniq {a b : Nat} {p q : Int × Int} (h : Fr a p) (g : Fr b q) (e : p.1 * q.2 = q.1 * p.2) : p = q := by
  have pr : ∀ {c : Nat} {r : Int × Int}, Fr c r → Prim (r.1, r.1, r.2) := fun {c r} hr => ⟨hr.pos, by
    show Nat.gcd (Nat.gcd r.1.natAbs r.1.natAbs) r.2.natAbs = 1
    rw [Nat.gcd_self]
    have := hr.cop
    unfold gcdI at this
    omega⟩
  have z := prim_eq (pr h) (pr g) e e
  have z1 : p.1 = q.1 := congrArg (fun t : Int × Int × Int => t.1) z
  have z2 : p.2 = q.2 := congrArg (fun t : Int × Int × Int => t.2.2) z
  exact Prod.ext z1 z2
theorem part_cmp {x w x' w' : Int} {a b c d : Int} (e1 : x * b = a * w) (e2 : x' * d = c * w') (hb : 0 < b) (hd : 0 < d) (hw : 0 < w) (hw' : 0 < w') : (x * w' < x' * w ↔ a * d < c * b) ∧ (x * w' = x' * w ↔ a * d = c * b) := by
  have z := sgn (a := x' * w - x * w') (d := b * d) (l := w * w') (b := c * b - a * d) (by grind) (Int.mul_pos hb hd) (Int.mul_pos hw hw')
  constructor
  · constructor
    · intro h; have := z.1.mp (by omega); omega
    · intro h; have := z.1.mpr (by omega); omega
  · constructor
    · intro h; have := z.2.mp (by omega); omega
    · intro h; have := z.2.mpr (by omega); omega
theorem first_less {k : Nat} {P Q : Pnt} (h : Pt k P) (g : Pt k Q) : firstP P Q = lessV (ownP P) (ownP Q) := by
  obtain ⟨p0, p1, p2⟩ := own_eq h
  obtain ⟨q0, q1, q2⟩ := own_eq g
  have c1 := part_cmp p1 q1 h.1.pos g.1.pos p0.pos q0.pos
  have c2 := part_cmp p2 q2 h.2.pos g.2.pos p0.pos q0.pos
  unfold firstP lessV
  by_cases e : P.1.1 * Q.1.2 = Q.1.1 * P.1.2
  · have e' := c1.2.mpr e
    have eq : P.1 = Q.1 := fr_uniq h.1 g.1 e
    rw [if_neg (by simpa using e'), decide_eq_false (by omega), decide_eq_true eq, Bool.false_or, Bool.true_and]
    simp only [c2.1]
  · have e' : ¬ (ownP P).1 * (ownP Q).2.2 = (ownP Q).1 * (ownP P).2.2 := fun z => e (c1.2.mp z)
    have ne : ¬ P.1 = Q.1 := fun z => e (by rw [z])
    rw [if_pos (by simpa using e'), decide_eq_false ne, Bool.false_and, Bool.or_false]
    simp only [c1.1]
theorem sgn_zero {i j : Int} (h : sgnI i = sgnI j) : (i = 0) = (j = 0) := by
  rw [← sgn0 (i := i), ← sgn0 (i := j), h]
theorem side_swap (p q r : Plc) : sideV q p r = - sideV p q r := by
  unfold sideV
  grind
/-- the program's word is the law's -/
theorem on_lies {k : Nat} {P Q R : Pnt} (h : Pt k P) (g : Pt k Q) (f : Pt k R) : (if firstP P Q = true then onP P Q R else onP Q P R) = liesV (ownP P) (ownP Q) (ownP R) := by
  have z1 := sgn_zero (turn_side h g f)
  have z2 := sgn_zero (turn_side g h f)
  have f1 := first_less h g
  have f2 := first_less f h
  have f3 := first_less g f
  have f4 := first_less f g
  have f5 := first_less h f
  have sw := side_swap (ownP P) (ownP Q) (ownP R)
  unfold onP liesV
  rw [f1, f2, f3, f4, f5]
  simp only [z1, z2]
  by_cases c : sideV (ownP P) (ownP Q) (ownP R) = 0
  · have c' : sideV (ownP Q) (ownP P) (ownP R) = 0 := by omega
    simp [c, c']
  · have c' : ¬ sideV (ownP Q) (ownP P) (ownP R) = 0 := by omega
    simp [c, c']
end K05

set_option maxHeartbeats 1000000
/-! the plane of rationals: order, line, segment -/
namespace Geo
abbrev Q2 : Type := Rat × Rat
def lq (A B : Q2) : Prop := A.1 < B.1 ∨ (A.1 = B.1 ∧ A.2 < B.2)
def ori (A B C : Q2) : Rat := (B.1 - A.1) * (C.2 - A.2) - (B.2 - A.2) * (C.1 - A.1)
def On (A B z : Q2) : Prop := ori A B z = 0 ∧ ((¬ lq z A ∧ ¬ lq B z) ∨ (¬ lq z B ∧ ¬ lq A z))
/-- the place at the part t of the way -/
def at_ (A B : Q2) (t : Rat) : Q2 := (A.1 + t * (B.1 - A.1), A.2 + t * (B.2 - A.2))
theorem q2_ext {A B : Q2} : A = B ↔ A.1 = B.1 ∧ A.2 = B.2 := Prod.ext_iff
theorem lq_ir {A : Q2} : ¬ lq A A := by unfold lq; grind
theorem lq_as {A B : Q2} (h : lq A B) : ¬ lq B A := by unfold lq at *; grind
theorem lq_tr {A B C : Q2} (h : lq A B) (g : lq B C) : lq A C := by unfold lq at *; grind
theorem lq_tri (A B : Q2) : lq A B ∨ A = B ∨ lq B A := by rw [q2_ext]; unfold lq; grind
theorem lq_le {A B C : Q2} (h : ¬ lq B A) (g : ¬ lq C B) : ¬ lq C A := by unfold lq at *; grind
theorem lq_ge {A B : Q2} (h : ¬ lq B A) (g : ¬ lq A B) : A = B := by
  rcases lq_tri A B with q | q | q
  · exact absurd q g
  · exact q
  · exact absurd q h
theorem lq_ne {A B : Q2} (h : lq A B) : A ≠ B := fun e => by subst e; exact lq_ir h
theorem mulp {s d : Rat} (hd : 0 < d) : s * d < 0 ↔ s < 0 := by
  constructor
  · intro h
    refine Classical.byContradiction fun q => ?_
    have := Rat.mul_nonneg (a := s) (b := d) (by grind) (by grind)
    grind
  · intro h
    have := Rat.mul_pos (a := -s) (b := d) (by grind) hd
    grind
theorem mulp0 {s d : Rat} (hd : 0 < d) : s * d = 0 ↔ s = 0 := by
  constructor
  · intro h
    have : d ≠ 0 := by grind
    grind
  · rintro rfl; grind
theorem mulp' {s d : Rat} (hd : 0 < d) : 0 < s * d ↔ 0 < s := by
  have h1 := mulp (s := s) hd
  have h2 := mulp0 (s := s) hd
  grind
theorem at_0 {A B : Q2} : at_ A B 0 = A := by rw [q2_ext]; unfold at_; grind
theorem at_1 {A B : Q2} : at_ A B 1 = B := by rw [q2_ext]; unfold at_; grind
/-- of two places of a line, the one ahead -/
theorem lq_at {A B : Q2} (h : lq A B) {s t : Rat} : lq (at_ A B s) (at_ A B t) ↔ s < t := by
  unfold lq at h
  have e1 : (at_ A B t).1 - (at_ A B s).1 = (t - s) * (B.1 - A.1) := by unfold at_; grind
  have e2 : (at_ A B t).2 - (at_ A B s).2 = (t - s) * (B.2 - A.2) := by unfold at_; grind
  unfold lq
  rcases h with h | ⟨h, h2⟩
  · have k1 := mulp' (s := t - s) (d := B.1 - A.1) (by grind)
    have k2 := mulp0 (s := t - s) (d := B.1 - A.1) (by grind)
    constructor
    · rintro (q | ⟨q, q2⟩)
      · have := k1.mp (by grind)
        grind
      · have := k2.mp (by grind)
        rw [this] at e2
        grind
    · intro q
      have := k1.mpr (by grind)
      left; grind
  · have k1 := mulp' (s := t - s) (d := B.2 - A.2) (by grind)
    have e3 : (at_ A B t).1 = (at_ A B s).1 := by unfold at_; grind
    constructor
    · rintro (q | ⟨q, q2⟩)
      · grind
      · have := k1.mp (by grind)
        grind
    · intro q
      have := k1.mpr (by grind)
      right; grind
theorem at_rev {A B : Q2} {t : Rat} : at_ B A t = at_ A B (1 - t) := by rw [q2_ext]; unfold at_; grind
theorem ori_at {A B : Q2} {t : Rat} : ori A B (at_ A B t) = 0 := by unfold ori at_; grind
/-- what is on the line is at some part -/
theorem line_at {A B z : Q2} (ne : A ≠ B) (h : ori A B z = 0) : ∃ t, z = at_ A B t := by
  unfold ori at h
  by_cases hx : B.1 - A.1 = 0
  · have hy : B.2 - A.2 ≠ 0 := fun q => ne (by rw [q2_ext]; grind)
    refine ⟨(z.2 - A.2) / (B.2 - A.2), ?_⟩
    rw [q2_ext]; unfold at_
    constructor
    · have : (B.2 - A.2) * (z.1 - A.1) = 0 := by grind
      have : z.1 - A.1 = 0 := by grind
      grind
    · grind
  · refine ⟨(z.1 - A.1) / (B.1 - A.1), ?_⟩
    rw [q2_ext]; unfold at_
    constructor
    · grind
    · grind
theorem at_inj {A B : Q2} (ne : A ≠ B) {s t : Rat} (h : at_ A B s = at_ A B t) : s = t := by
  rcases lq_tri A B with q | q | q
  · rcases lq_tri (at_ A B s) (at_ A B t) with p | p | p
    · exact absurd h (lq_ne p)
    · have a := mt (lq_at q (s := s) (t := t)).mpr (by rw [h]; exact lq_ir)
      have b := mt (lq_at q (s := t) (t := s)).mpr (by rw [h]; exact lq_ir)
      grind
    · exact absurd h.symm (lq_ne p)
  · exact absurd q ne
  · have e1 : at_ A B s = at_ B A (1 - s) := at_rev
    have e2 : at_ A B t = at_ B A (1 - t) := at_rev
    rw [e1, e2] at h
    have a := mt (lq_at q (s := 1 - s) (t := 1 - t)).mpr (by rw [h]; exact lq_ir)
    have b := mt (lq_at q (s := 1 - t) (t := 1 - s)).mpr (by rw [h]; exact lq_ir)
    grind
theorem on_at1 {A B : Q2} (h : lq A B) {t : Rat} : On A B (at_ A B t) ↔ 0 ≤ t ∧ t ≤ 1 := by
  have a0 := lq_at h (s := t) (t := 0)
  have a1 := lq_at h (s := 1) (t := t)
  have b0 := lq_at h (s := t) (t := 1)
  have b1 := lq_at h (s := 0) (t := t)
  rw [at_0] at a0 b1
  rw [at_1] at a1 b0
  unfold On
  rw [a0, a1, b0, b1]
  constructor
  · rintro ⟨_, h | h⟩ <;> grind
  · intro h
    exact ⟨ori_at, .inl (by grind)⟩
theorem ori_flip {A B z : Q2} : ori B A z = - ori A B z := by unfold ori; grind
theorem on_comm {A B z : Q2} : On A B z ↔ On B A z := by
  unfold On
  rw [ori_flip (A := A) (B := B)]
  constructor
  · rintro ⟨h, g⟩; exact ⟨by grind, g.symm⟩
  · rintro ⟨h, g⟩; exact ⟨by grind, g.symm⟩
theorem on_at {A B : Q2} (ne : A ≠ B) {t : Rat} : On A B (at_ A B t) ↔ 0 ≤ t ∧ t ≤ 1 := by
  rcases lq_tri A B with q | q | q
  · exact on_at1 q
  · exact absurd q ne
  · rw [on_comm, at_rev (A := B) (B := A), on_at1 q]
    constructor <;> intro h <;> grind
theorem on_iff {A B z : Q2} (ne : A ≠ B) : On A B z ↔ ∃ t, 0 ≤ t ∧ t ≤ 1 ∧ z = at_ A B t := by
  constructor
  · intro h
    obtain ⟨t, rfl⟩ := line_at ne h.1
    have := (on_at ne).mp h
    exact ⟨t, this.1, this.2, rfl⟩
  · rintro ⟨t, h1, h2, rfl⟩
    exact (on_at ne).mpr ⟨h1, h2⟩
/-- another line of places of the line -/
theorem line_same {A B C D z : Q2} (ne : A ≠ B) (hC : ori A B C = 0) (hD : ori A B D = 0) (n2 : C ≠ D) : ori C D z = 0 ↔ ori A B z = 0 := by
  obtain ⟨s, rfl⟩ := line_at ne hC
  obtain ⟨t, rfl⟩ := line_at ne hD
  have st : t - s ≠ 0 := fun q => n2 (by rw [show s = t by grind])
  have e : ori (at_ A B s) (at_ A B t) z = (t - s) * ori A B z := by unfold ori at_; grind
  rw [e]
  constructor
  · intro h; grind
  · intro h; rw [h]; grind
end Geo

set_option maxHeartbeats 1000000
/-! what two segments have in common, told as places -/
namespace Geo
inductive Tells (P : Q2 → Prop) : List Q2 → Prop
  | none (h : ∀ z, ¬ P z) : Tells P []
  | one (Z : Q2) (h : ∀ z, P z ↔ z = Z) : Tells P [Z]
  | two (U V : Q2) (l : lq U V) (h : ∀ z, P z ↔ On U V z) : Tells P [U, V]
theorem on_l {U V : Q2} (l : lq U V) : On U V U := by
  have := (on_at (lq_ne l) (t := 0)).mpr (by grind)
  rwa [at_0] at this
theorem on_r {U V : Q2} (l : lq U V) : On U V V := by
  have := (on_at (lq_ne l) (t := 1)).mpr (by grind)
  rwa [at_1] at this
theorem on_btw {U V z : Q2} (l : lq U V) : On U V z ↔ ori U V z = 0 ∧ ¬ lq z U ∧ ¬ lq V z := by
  unfold On
  constructor
  · rintro ⟨h, g | ⟨g1, g2⟩⟩
    · exact ⟨h, g⟩
    · exact absurd l (lq_le g1 g2)
  · rintro ⟨h, g⟩
    exact ⟨h, .inl g⟩
theorem Tells.congr {P R : Q2 → Prop} {L : List Q2} (h : Tells P L) (e : ∀ z, R z ↔ P z) : Tells R L := by
  cases h with
  | none h => exact .none fun z q => h z ((e z).mp q)
  | one Z h => exact .one Z fun z => (e z).trans (h z)
  | two U V l h => exact .two U V l fun z => (e z).trans (h z)
theorem Tells.uniq {P : Q2 → Prop} {L M : List Q2} (h : Tells P L) (g : Tells P M) : L = M := by
  cases h with
  | none h =>
    cases g with
    | none => rfl
    | one Z g => exact absurd ((g Z).mpr rfl) (h Z)
    | two U V l g => exact absurd ((g U).mpr (on_l l)) (h U)
  | one Z h =>
    cases g with
    | none g => exact absurd ((h Z).mpr rfl) (g Z)
    | one W g => rw [(g Z).mp ((h Z).mpr rfl)]
    | two U V l g =>
      have a := (h U).mp ((g U).mpr (on_l l))
      have b := (h V).mp ((g V).mpr (on_r l))
      exact absurd (a.trans b.symm) (lq_ne l)
  | two U V l h =>
    cases g with
    | none g => exact absurd ((h U).mpr (on_l l)) (g U)
    | one Z g =>
      have a := (g U).mp ((h U).mpr (on_l l))
      have b := (g V).mp ((h V).mpr (on_r l))
      exact absurd (a.trans b.symm) (lq_ne l)
    | two U' V' l' g =>
      have k : ∀ z, On U V z ↔ On U' V' z := fun z => (h z).symm.trans (g z)
      have a := (on_btw l').mp ((k U).mp (on_l l))
      have b := (on_btw l').mp ((k V).mp (on_r l))
      have c := (on_btw l).mp ((k U').mpr (on_l l'))
      have d := (on_btw l).mp ((k V').mpr (on_r l'))
      rw [lq_ge a.2.1 c.2.1, lq_ge d.2.2 b.2.2]
def cr (u v : Q2) : Rat := u.1 * v.2 - u.2 * v.1
def sb (A B : Q2) : Q2 := (A.1 - B.1, A.2 - B.2)
theorem ori_cr {A B C : Q2} : ori A B C = cr (sb B A) (sb C A) := by unfold ori cr sb; grind
abbrev Com (A B C D : Q2) (z : Q2) : Prop := On A B z ∧ On C D z
variable {A B C D z : Q2}
theorem ori_add : ori A B D = ori A B C + cr (sb B A) (sb D C) := by unfold ori cr sb; grind
theorem ori_along {s : Rat} : ori A B (at_ C D s) = ori A B C + s * cr (sb B A) (sb D C) := by unfold ori cr sb at_; grind
/-- of one direction, not of one line -/
theorem tells_apart (n2 : C ≠ D) (w : cr (sb B A) (sb D C) = 0) (h : ori A B C ≠ 0) : Tells (Com A B C D) [] := .none fun z ⟨p, q⟩ => by
  obtain ⟨s, _, _, rfl⟩ := (on_iff n2).mp q
  have := p.1
  rw [ori_along, w] at this
  exact h (by grind)
def MaxOf (A C m : Q2) : Prop := (m = A ∨ m = C) ∧ ¬ lq m A ∧ ¬ lq m C
def MinOf (B D m : Q2) : Prop := (m = B ∨ m = D) ∧ ¬ lq B m ∧ ¬ lq D m
theorem max_le {A C m z : Q2} (h : MaxOf A C m) : ¬ lq z m ↔ ¬ lq z A ∧ ¬ lq z C := by
  obtain ⟨h1, h2, h3⟩ := h
  constructor
  · intro q
    exact ⟨lq_le h2 q, lq_le h3 q⟩
  · rintro ⟨q1, q2⟩
    rcases h1 with rfl | rfl
    · exact q1
    · exact q2
theorem min_ge {B D m z : Q2} (h : MinOf B D m) : ¬ lq m z ↔ ¬ lq B z ∧ ¬ lq D z := by
  obtain ⟨h1, h2, h3⟩ := h
  constructor
  · intro q
    exact ⟨lq_le q h2, lq_le q h3⟩
  · rintro ⟨q1, q2⟩
    rcases h1 with rfl | rfl
    · exact q1
    · exact q2
theorem com_col {lo hi : Q2} (l1 : lq A B) (l2 : lq C D) (hC : ori A B C = 0) (hD : ori A B D = 0) (m1 : MaxOf A C lo) (m2 : MinOf B D hi) : Com A B C D z ↔ ori A B z = 0 ∧ ¬ lq z lo ∧ ¬ lq hi z := by
  show On A B z ∧ On C D z ↔ _
  rw [on_btw l1, on_btw l2, line_same (lq_ne l1) hC hD (lq_ne l2), max_le m1, min_ge m2]
  constructor
  · rintro ⟨⟨a, b, c⟩, _, d, e⟩; exact ⟨a, ⟨b, d⟩, c, e⟩
  · rintro ⟨a, ⟨b, d⟩, c, e⟩; exact ⟨⟨a, b, c⟩, a, d, e⟩
theorem ori_l : ori A B A = 0 := by unfold ori; grind
theorem ori_r : ori A B B = 0 := by unfold ori; grind
/-- the lines of one line: low, high -/
theorem tells_col {lo hi : Q2} {L : List Q2} (l1 : lq A B) (l2 : lq C D) (hC : ori A B C = 0) (hD : ori A B D = 0) (m1 : MaxOf A C lo) (m2 : MinOf B D hi)
    (hL : (lo = hi ∧ L = [lo]) ∨ (lq lo hi ∧ L = [lo, hi]) ∨ (lq hi lo ∧ L = [])) : Tells (Com A B C D) L := by
  have k := fun z => com_col (z := z) l1 l2 hC hD m1 m2
  have olo : ori A B lo = 0 := by
    rcases m1.1 with e | e
    · rw [e]; exact ori_l
    · rw [e]; exact hC
  have ohi : ori A B hi = 0 := by
    rcases m2.1 with e | e
    · rw [e]; exact ori_r
    · rw [e]; exact hD
  rcases hL with ⟨e, rfl⟩ | ⟨l, rfl⟩ | ⟨l, rfl⟩
  · subst e
    refine .one lo fun z => (k z).trans ⟨fun ⟨_, a, b⟩ => lq_ge b a, ?_⟩
    rintro rfl
    exact ⟨olo, lq_ir, lq_ir⟩
  · refine .two lo hi l fun z => (k z).trans ?_
    rw [on_btw l, line_same (lq_ne l1) olo ohi (lq_ne l)]
  · refine .none fun z q => ?_
    obtain ⟨_, a, b⟩ := (k z).mp q
    exact lq_le a b l
/-- of unlike directions -/
theorem com_cross (ne : A ≠ B) (w : cr (sb B A) (sb D C) ≠ 0) (h : Com A B C D z) : z = at_ A B (cr (sb C A) (sb D C) / cr (sb B A) (sb D C)) := by
  obtain ⟨t, _, _, rfl⟩ := (on_iff ne).mp h.1
  have e := h.2.1
  have : ori C D (at_ A B t) = cr (sb C A) (sb D C) - t * cr (sb B A) (sb D C) := by unfold ori cr sb at_; grind
  rw [this] at e
  have : t = cr (sb C A) (sb D C) / cr (sb B A) (sb D C) := by grind
  rw [← this]
theorem tells_cross {L : List Q2} {Z : Q2} (ne : A ≠ B) (w : cr (sb B A) (sb D C) ≠ 0) (hZ : Z = at_ A B (cr (sb C A) (sb D C) / cr (sb B A) (sb D C))) (hL : (Com A B C D Z ∧ L = [Z]) ∨ (¬ Com A B C D Z ∧ L = [])) : Tells (Com A B C D) L := by
  rcases hL with ⟨h, rfl⟩ | ⟨h, rfl⟩
  · refine .one Z fun z => ⟨fun q => ?_, ?_⟩
    · rw [hZ]; exact com_cross ne w q
    · rintro rfl; exact h
  · refine .none fun z q => h ?_
    rw [hZ, ← com_cross ne w q]; exact q
end Geo

set_option maxHeartbeats 1000000
namespace K05
open PySem PySem.Spec PyProof.Rows L2 Dn Geo
variable {n k : Nat} {S : Sto}
/-! fractions: plus, over -/
def redS (t b : Int) : Int × Int := if 0 < b then red t b else red (-t) (-b)
def fadd (p q : Int × Int) : Int × Int := red (p.1 * q.2 + q.1 * p.2) (p.2 * q.2)
def fovr (p q : Int × Int) : Int × Int := redS (p.1 * q.2) (p.2 * q.1)
theorem lt_neg {a : Nat} {i : Int} (h : Lt a i) : Lt a (-i) := by unfold Lt at *; rw [Int.natAbs_neg]; exact h
theorem redS_fr {k : Nat} {t b : Int} (h : b ≠ 0) (h1 : Lt k t) (h2 : Lt k b) : Fr k (redS t b) := by
  unfold redS
  split
  · exact red_fr (by assumption) h1 h2
  · exact red_fr (by omega) (lt_neg h1) (lt_neg h2)
theorem fadd_fr {p q : Int × Int} (h : Fr k p) (g : Fr k q) : Fr (k + k + 1) (fadd p q) :=
  red_fr (Int.mul_pos h.pos g.pos) ((h.l1.mul g.l2).add (g.l1.mul h.l2)) ((h.l2.mul g.l2).mono (by omega))
theorem fovr_fr {p q : Int × Int} (h : Fr k p) (g : Fr k q) (nz : q.1 ≠ 0) : Fr (k + k) (fovr p q) :=
  redS_fr (fun z => by have := h.pos; rcases Int.mul_eq_zero.mp z with z | z <;> omega) (h.l1.mul g.l2) (h.l2.mul g.l1)
theorem gcd_neg {t b : Int} : gcdI (-t) (-b) = gcdI t b := by unfold gcdI; rw [Int.natAbs_neg, Int.natAbs_neg]
theorem fdiv_neg {t g : Int} (hd : g ∣ t) : t.fdiv (-g) = -t / g := by
  rw [Int.fdiv_eq_ediv_of_dvd (by exact (Int.neg_dvd).mpr hd), Int.ediv_neg, Int.neg_ediv_of_dvd hd]
theorem ratio_neg {t b : Int} (hb : b < 0) (hb2 : Lt 8000 b) : callN tb PT (n + 1) "ratio" [.int t, .int b] S = some (fD (red (-t) (-b)), S) := by
  have g0 : 0 < gcdI t b := by
    have := gcdI_pos (x := -t) (y := -b) (by omega)
    rwa [gcd_neg] at this
  have gl : Lt 8000 (gcdI t b) := hb2.of_le (by
    have := gcdI_le (x := -t) (y := -b) (by omega)
    rw [gcd_neg] at this
    omega)
  have gn : divOk (-gcdI t b) = false := by
    unfold divOk
    rw [Bool.and_eq_false_iff]
    exact .inl (decide_eq_false (by omega))
  have gd : divNk (-gcdI t b) = true := by
    have := Lt.dv (a := 8000) gl g0 (by omega)
    unfold divOk at this
    unfold divNk
    rw [Bool.and_eq_true, decide_eq_true_eq, decide_eq_true_eq] at this ⊢
    rw [Int.natAbs_neg]
    exact ⟨by omega, this.2⟩
  have ge : ((t.natAbs.gcd b.natAbs : Nat) : Int) = gcdI t b := rfl
  have hn : ¬ 0 < b := by omega
  have f1 := fdiv_neg (t := t) (g := gcdI t b) gcdI_dl
  have f2 := fdiv_neg (t := b) (g := gcdI t b) gcdI_dr
  rw [q_of hP.ratio rfl]
  simp only [g_ratio]
  simp [startD, cmpD, hn, bltD, ge, binD, dr, gd, gn, gc_same, fD, red, f1, f2, gcd_neg]
theorem ratioS {t b : Int} (hb : b ≠ 0) (hb2 : Lt 8000 b) : callN tb PT (n + 1) "ratio" [.int t, .int b] S = some (fD (redS t b), S) := by
  unfold redS
  split
  · exact Geo.ratio hP (by assumption) hb2
  · exact ratio_neg (by omega) hb2
theorem l_plus : PT.lookup ("plus" : Str) = some c_p_plus := lk (d := d_p_plus) (by simp only [defs, List.mem_cons, true_or, or_true])
theorem l_over : PT.lookup ("over" : Str) = some c_p_over := lk (d := d_p_over) (by simp only [defs, List.mem_cons, true_or, or_true])
theorem l_at : PT.lookup ("at_part" : Str) = some c_p_at_part := lk (d := d_p_at_part) (by simp only [defs, List.mem_cons, true_or, or_true])
theorem plus {p q : Int × Int} {k : Nat} (h : Fr k p) (g : Fr k q) (hk : k ≤ 3000) : callN tb PT (n + 2) "plus" [fD p, fD q] S = some (fD (fadd p q), S) := by
  obtain ⟨a, b⟩ := p
  obtain ⟨c, d⟩ := q
  have m1 : mulOk a d = true := h.l1.ok g.l2 (by omega) (by omega)
  have m2 : mulOk c b = true := g.l1.ok h.l2 (by omega) (by omega)
  have m3 : mulOk b d = true := h.l2.ok g.l2 (by omega) (by omega)
  have e1 := fun x => Geo.ratio (tb := tb) (n := n) (S := S) hP (t := x) (Int.mul_pos h.pos g.pos) ((h.l2.mul g.l2).mono (by omega))
  simp only at e1
  rw [q_of l_plus rfl]
  simp only [c_p_plus]
  simp [startD, fD, ixD, items, atI, ixN, binD, dr, m1, m2, m3, e1, gc_same, fadd]
theorem over {p q : Int × Int} {k : Nat} (h : Fr k p) (g : Fr k q) (nz : q.1 ≠ 0) (hk : k ≤ 3000) : callN tb PT (n + 2) "over" [fD p, fD q] S = some (fD (fovr p q), S) := by
  have e1 := fun x => ratioS (n := n) (S := S) (t := x) (b := p.2 * q.1) (fun z => by have := h.pos; rcases Int.mul_eq_zero.mp z with z | z <;> omega) ((h.l2.mul g.l1).mono (by omega))
  obtain ⟨a, b⟩ := p
  obtain ⟨c, d⟩ := q
  have m1 : mulOk a d = true := h.l1.ok g.l2 (by omega) (by omega)
  have m2 : mulOk b c = true := h.l2.ok g.l1 (by omega) (by omega)
  simp only at e1
  rw [q_of l_over rfl]
  simp only [c_p_over]
  simp [startD, fD, ixD, items, atI, ixN, binD, dr, m1, m2, e1, gc_same, fovr]
def pAt (P D : Pnt) (f : Int × Int) : Pnt := (fadd P.1 (fmul f D.1), fadd P.2 (fmul f D.2))
theorem at_eq {P D : Pnt} {f : Int × Int} (h : Pt k P) (g : Pt k D) (e : Fr k f) (hk : k ≤ 1000) : callN tb PT (n + 3) "at_part" [pD P, pD D, fD f] S = some (pD (pAt P D f), S) := by
  have a1 := Geo.times (tb := tb) (n := n) (S := S) hP e g.1 (by omega)
  have a2 := Geo.times (tb := tb) (n := n) (S := S) hP e g.2 (by omega)
  have b1 := plus (n := n) (S := S) (h.1.mono (b := k + k) (by omega)) (e.mul g.1) (by omega)
  have b2 := plus (n := n) (S := S) (h.2.mono (b := k + k) (by omega)) (e.mul g.2) (by omega)
  rw [q_of l_at rfl]
  simp only [c_p_at_part]
  simp [startD, pD, ixD, items, atI, ixN, a1, a2, b1, b2, gc_same, pAt]
theorem pAt_pt {P D : Pnt} {f : Int × Int} (h : Pt k P) (g : Pt k D) (e : Fr k f) : Pt (k + k + (k + k) + 1) (pAt P D f) :=
  ⟨fadd_fr (h.1.mono (by omega)) (e.mul g.1), fadd_fr (h.2.mono (by omega)) (e.mul g.2)⟩
/-! as rationals -/
def vq (p : Int × Int) : Rat := (p.1 : Rat) / (p.2 : Rat)
def xq (P : Pnt) : Q2 := (vq P.1, vq P.2)
def hq (p : Plc) : Q2 := ((p.1 : Rat) / (p.2.2 : Rat), (p.2.1 : Rat) / (p.2.2 : Rat))
theorem cpos {i : Int} (h : 0 < i) : (0 : Rat) < (i : Rat) := by have := Rat.intCast_lt_intCast (a := 0) (b := i); simpa using this.mpr h
theorem cnz {i : Int} (h : i ≠ 0) : (i : Rat) ≠ 0 := by
  intro q
  exact h (by exact_mod_cast q)
theorem vq_red {t b : Int} (h : 0 < b) : vq (red t b) = (t : Rat) / (b : Rat) := by
  have e := red_eq (t := t) (b := b)
  have p := cpos (red_pos (t := t) h)
  have pb := cpos h
  have e' : ((red t b).1 : Rat) * (b : Rat) = (t : Rat) * ((red t b).2 : Rat) := by
    rw [← Rat.intCast_mul, ← Rat.intCast_mul, e]
  unfold vq
  grind
theorem vq_redS {t b : Int} (h : b ≠ 0) : vq (redS t b) = (t : Rat) / (b : Rat) := by
  unfold redS
  split
  · exact vq_red (by assumption)
  · rw [vq_red (by omega), Rat.intCast_neg, Rat.intCast_neg]
    have := cnz h
    grind
theorem vq_sub {a b : Nat} {p q : Int × Int} (h : Fr a p) (g : Fr b q) : vq (fsub p q) = vq p - vq q := by
  unfold fsub
  rw [vq_red (Int.mul_pos h.pos g.pos), Rat.intCast_sub, Rat.intCast_mul, Rat.intCast_mul, Rat.intCast_mul]
  have := cpos h.pos
  have := cpos g.pos
  unfold vq
  grind
theorem vq_mul {a b : Nat} {p q : Int × Int} (h : Fr a p) (g : Fr b q) : vq (fmul p q) = vq p * vq q := by
  unfold fmul
  rw [vq_red (Int.mul_pos h.pos g.pos), Rat.intCast_mul, Rat.intCast_mul]
  have := cpos h.pos
  have := cpos g.pos
  unfold vq
  grind
theorem vq_add {a b : Nat} {p q : Int × Int} (h : Fr a p) (g : Fr b q) : vq (fadd p q) = vq p + vq q := by
  unfold fadd
  rw [vq_red (Int.mul_pos h.pos g.pos), Rat.intCast_add, Rat.intCast_mul, Rat.intCast_mul, Rat.intCast_mul]
  have := cpos h.pos
  have := cpos g.pos
  unfold vq
  grind
theorem vq_ovr {a b : Nat} {p q : Int × Int} (h : Fr a p) (g : Fr b q) (nz : q.1 ≠ 0) : vq (fovr p q) = vq p / vq q := by
  unfold fovr
  have hz : p.2 * q.1 ≠ 0 := fun z => by have := h.pos; rcases Int.mul_eq_zero.mp z with z | z <;> omega
  rw [vq_redS hz, Rat.intCast_mul, Rat.intCast_mul]
  have := cpos h.pos
  have := cpos g.pos
  have := cnz nz
  unfold vq
  grind
theorem vq_zero {a : Nat} {p : Int × Int} (h : Fr a p) : vq p = 0 ↔ p.1 = 0 := by
  have := cpos h.pos
  unfold vq
  constructor
  · intro q
    refine Classical.byContradiction fun z => ?_
    have := cnz z
    grind
  · intro q
    rw [q]
    have : ((0 : Int) : Rat) = 0 := rfl
    grind
theorem xq_sub {a : Nat} {P Q : Pnt} (h : Pt a P) (g : Pt a Q) : xq (psub Q P) = sb (xq Q) (xq P) := by
  unfold xq psub sb
  rw [vq_sub g.1 h.1, vq_sub g.2 h.2]
theorem vq_cross {a : Nat} {P Q : Pnt} (h : Pt a P) (g : Pt a Q) : vq (pcross P Q) = cr (xq P) (xq Q) := by
  unfold xq pcross cr
  rw [vq_sub (h.1.mul g.2) (h.2.mul g.1), vq_mul h.1 g.2, vq_mul h.2 g.1]
end K05

set_option maxHeartbeats 1000000
namespace K05
open PySem PySem.Spec PyProof.Rows L2 Dn Geo
variable {n k : Nat} {S : Sto}
/-! places and points as rationals -/
theorem frac_lt {a b c d : Int} (hb : 0 < b) (hd : 0 < d) : (a : Rat) / (b : Rat) < (c : Rat) / (d : Rat) ↔ a * d < c * b := by
  have pb := cpos hb
  have pd := cpos hd
  rw [← Rat.intCast_lt_intCast, Rat.intCast_mul, Rat.intCast_mul]
  have e : (a : Rat) * d - c * b = (a / b - c / d) * (b * d) := by grind
  have m := mulp (s := (a : Rat) / b - c / d) (Rat.mul_pos pb pd)
  rw [← e] at m
  constructor
  · intro h
    have := m.mpr (by grind)
    grind
  · intro h
    have := m.mp (by grind)
    grind
theorem frac_eq {a b c d : Int} (hb : 0 < b) (hd : 0 < d) : (a : Rat) / (b : Rat) = (c : Rat) / (d : Rat) ↔ a * d = c * b := by
  have h1 := frac_lt (a := a) (c := c) hb hd
  have h2 := frac_lt (a := c) (c := a) hd hb
  constructor
  · intro h
    have a1 := mt h1.mpr (by rw [h]; grind)
    have a2 := mt h2.mpr (by rw [h]; grind)
    omega
  · intro h
    have a1 := mt h1.mp (by omega)
    have a2 := mt h2.mp (by omega)
    grind
theorem first_lq {a b : Nat} {P Q : Pnt} (h : Pt a P) (g : Pt b Q) : firstP P Q = true ↔ lq (xq P) (xq Q) := by
  have e1 : P.1 = Q.1 ↔ vq P.1 = vq Q.1 := by
    constructor
    · intro e; rw [e]
    · intro e
      exact fr_uniq h.1 g.1 ((frac_eq h.1.pos g.1.pos).mp e)
  unfold firstP lq xq
  rw [Bool.or_eq_true, Bool.and_eq_true, decide_eq_true_eq, decide_eq_true_eq, decide_eq_true_eq, e1]
  show _ ↔ vq P.1 < vq Q.1 ∨ vq P.1 = vq Q.1 ∧ vq P.2 < vq Q.2
  unfold vq
  rw [frac_lt h.1.pos g.1.pos, frac_lt h.2.pos g.2.pos]
theorem xq_inj {a b : Nat} {P Q : Pnt} (h : Pt a P) (g : Pt b Q) (e : xq P = xq Q) : P = Q := by
  have e1 := (q2_ext.mp e).1
  have e2 := (q2_ext.mp e).2
  exact Prod.ext (fr_uniq h.1 g.1 ((frac_eq h.1.pos g.1.pos).mp e1)) (fr_uniq h.2 g.2 ((frac_eq h.2.pos g.2.pos).mp e2))
theorem hq_own {a : Nat} {P : Pnt} (h : Pt a P) : hq (ownP P) = xq P := by
  obtain ⟨pr, e1, e2⟩ := own_eq h
  have w : 0 < (ownP P).2.2 := pr.pos
  rw [q2_ext]
  exact ⟨(frac_eq w h.1.pos).mpr e1, (frac_eq w h.2.pos).mpr e2⟩
theorem hq_inj {p q : Plc} (h : Prim p) (g : Prim q) (e : hq p = hq q) : p = q :=
  prim_eq h g ((frac_eq h.pos g.pos).mp (q2_ext.mp e).1) ((frac_eq h.pos g.pos).mp (q2_ext.mp e).2)
theorem less_lq {p q : Plc} (h : 0 < p.2.2) (g : 0 < q.2.2) : lessV p q = true ↔ lq (hq p) (hq q) := by
  unfold lessV lq hq
  show _ ↔ (p.1 : Rat) / p.2.2 < (q.1 : Rat) / q.2.2 ∨ (p.1 : Rat) / p.2.2 = (q.1 : Rat) / q.2.2 ∧ (p.2.1 : Rat) / p.2.2 < (q.2.1 : Rat) / q.2.2
  rw [frac_lt h g, frac_lt h g, frac_eq h g]
  split
  · rw [decide_eq_true_eq]; omega
  · rw [decide_eq_true_eq]; omega
theorem side_ori {p q r : Plc} (h : 0 < p.2.2) (g : 0 < q.2.2) (f : 0 < r.2.2) : (sideV p q r : Rat) = (p.2.2 : Rat) * q.2.2 * r.2.2 * ori (hq p) (hq q) (hq r) := by
  have := cpos h
  have := cpos g
  have := cpos f
  unfold sideV ori hq
  simp only [Rat.intCast_add, Rat.intCast_sub, Rat.intCast_mul]
  grind
theorem side_zero {p q r : Plc} (h : 0 < p.2.2) (g : 0 < q.2.2) (f : 0 < r.2.2) : sideV p q r = 0 ↔ ori (hq p) (hq q) (hq r) = 0 := by
  have e := side_ori h g f
  have a := cpos h
  have b := cpos g
  have c := cpos f
  have m := mulp0 (s := ori (hq p) (hq q) (hq r)) (Rat.mul_pos (Rat.mul_pos a b) c)
  rw [← m]
  constructor
  · intro z
    rw [z] at e
    have : ((0 : Int) : Rat) = 0 := rfl
    grind
  · intro z
    have : (sideV p q r : Rat) = 0 := by grind
    exact_mod_cast this
theorem lies_on {p q r : Plc} (h : 0 < p.2.2) (g : 0 < q.2.2) (f : 0 < r.2.2) (ne : hq p ≠ hq q) : liesV p q r = true ↔ On (hq p) (hq q) (hq r) := by
  have l : ∀ {x y : Plc}, 0 < x.2.2 → 0 < y.2.2 → (lessV x y = false ↔ ¬ lq (hq x) (hq y)) := fun hx hy => by
    rw [← less_lq hx hy]; simp
  unfold liesV On
  by_cases hs : sideV p q r = 0
  · have ho := (side_zero h g f).mp hs
    rw [if_neg (by simpa using hs)]
    by_cases hl : lessV p q = true
    · have hl' := (less_lq h g).mp hl
      rw [if_pos hl, Bool.and_eq_true, Bool.not_eq_true', Bool.not_eq_true', l f h, l g f]
      constructor
      · intro z; exact ⟨ho, .inl z⟩
      · rintro ⟨_, z | ⟨z1, z2⟩⟩
        · exact z
        · exact absurd hl' (lq_le z1 z2)
    · have hl' := mt (less_lq h g).mpr hl
      have hl2 : lq (hq q) (hq p) := by
        rcases lq_tri (hq p) (hq q) with z | z | z
        · exact absurd z hl'
        · exact absurd z ne
        · exact z
      rw [if_neg hl, Bool.and_eq_true, Bool.not_eq_true', Bool.not_eq_true', l f g, l h f]
      constructor
      · intro z; exact ⟨ho, .inr z⟩
      · rintro ⟨_, ⟨z1, z2⟩ | z⟩
        · exact absurd hl2 (lq_le z1 z2)
        · exact z
  · rw [if_pos hs]
    constructor
    · intro z; cases z
    · intro z; exact absurd ((side_zero h g f).mpr z.1) hs
theorem own_pos {a : Nat} {P : Pnt} (h : Pt a P) : 0 < (ownP P).2.2 := (own_eq h).1.pos
theorem xq_ne {a b : Nat} {P Q : Pnt} (h : Pt a P) (g : Pt b Q) (ne : P ≠ Q) : xq P ≠ xq Q := fun e => ne (xq_inj h g e)
/-- is_on_by, told -/
def onB (P Q R : Pnt) : Bool := if firstP P Q = true then onP P Q R else onP Q P R
theorem onB_on {P Q R : Pnt} (h : Pt k P) (g : Pt k Q) (f : Pt k R) (ne : P ≠ Q) : onB P Q R = true ↔ On (xq P) (xq Q) (xq R) := by
  unfold onB
  rw [on_lies h g f, lies_on (own_pos h) (own_pos g) (own_pos f) (by rw [hq_own h, hq_own g]; exact xq_ne h g ne), hq_own h, hq_own g, hq_own f]
end K05

set_option maxHeartbeats 1000000
namespace Dn
open PySem PySem.Spec PyProof.Rows L2
/-! ### repr: within bounds -/
theorem textFrom_le : ∀ (ts : List Str) (k : Nat) (acc : Str), (textFrom k acc ts).length ≤ acc.length + piled ts
  | [], k, acc => by rw [piled_nil]; exact Nat.le_refl _
  | t :: r, k, acc => by
    have h := textFrom_le r (k + 1) (acc ++ (if k > 0 then ", " else "" : String) ++ t)
    have e : (acc ++ (if k > 0 then ", " else "" : String) ++ t).length ≤ acc.length + 2 + t.length := by
      rw [strLen_append, strLen_append]
      have : (((if k > 0 then ", " else "" : String) : Str)).length ≤ 2 := by split <;> decide +kernel
      omega
    rw [piled_cons]
    show (textFrom (k + 1) (acc ++ (if k > 0 then ", " else "" : String) ++ t) r).length ≤ _
    omega
theorem listText_le (ts : List Str) : (listText ts).length ≤ 2 + piled ts := by
  have h := textFrom_le ts 0 "["
  have e1 : (("[" : String) : Str).length = 1 := by decide +kernel
  have e2 : (("]" : String) : Str).length = 1 := by decide +kernel
  unfold listText
  rw [strLen_append]
  omega
theorem tupleText_le (ts : List Str) : (tupleText ts).length ≤ 3 + piled ts := by
  unfold tupleText
  rw [strLen_append, strLen_append]
  have e1 : (("(" : String) : Str).length = 1 := by decide +kernel
  have e2 : (((if ts.length == 1 then ",)" else ")" : String) : Str)).length ≤ 2 := by split <;> decide +kernel
  have e3 : (Str.join ", " ts).length ≤ piled ts := by
    cases ts with
    | nil => decide +kernel
    | cons t r => have := join_length_add (t :: r) (by simp); omega
  omega
theorem piled_le {b : Nat} : ∀ {ts : List Str}, (∀ t ∈ ts, t.length ≤ b) → piled ts ≤ ts.length * (b + 2)
  | [], _ => by rw [piled_nil]; omega
  | t :: r, h => by
    have h1 := h t (List.mem_cons_self ..)
    have h2 := piled_le fun s hs => h s (List.mem_cons_of_mem _ hs)
    rw [piled_cons, List.length_cons, Nat.add_mul, Nat.one_mul]
    omega
structure Shw (e b : Nat) (p : PyData) : Prop where
  s : p.showable = true
  h : p.hasDict = false
  d : p.depth ≤ e
  l : p.shown.length ≤ b
theorem Shw.mono {e b e' b' : Nat} {p : PyData} (h : Shw e b p) (he : e ≤ e') (hb : b ≤ b') : Shw e' b' p := ⟨h.s, h.h, Nat.le_trans h.d he, Nat.le_trans h.l hb⟩
theorem shw_all {e b : Nat} : ∀ {ps : List PyData}, (∀ p ∈ ps, Shw e b p) → PyData.showableAll ps = true ∧ PyData.hasDictAll ps = false ∧ PyData.depthAll ps ≤ e ∧ (PyData.shownAll ps).length = ps.length ∧ ∀ t ∈ PyData.shownAll ps, t.length ≤ b
  | [], _ => by
    simp only [PyData.showableAll, PyData.hasDictAll, PyData.depthAll, PyData.shownAll]
    exact ⟨trivial, trivial, Nat.zero_le _, rfl, fun t h => (by cases h)⟩
  | p :: ps, h => by
    obtain ⟨h1, h2, h3, h4, h5⟩ := shw_all fun q hq => h q (List.mem_cons_of_mem _ hq)
    have hp := h p (List.mem_cons_self ..)
    simp only [PyData.showableAll, PyData.hasDictAll, PyData.depthAll, PyData.shownAll]
    refine ⟨by rw [hp.s, h1]; rfl, by rw [hp.h, h2]; rfl, Nat.max_le.mpr ⟨hp.d, h3⟩, by rw [List.length_cons, List.length_cons, h4], fun t ht => ?_⟩
    rcases List.mem_cons.mp ht with rfl | ht
    · exact hp.l
    · exact h5 t ht
theorem shw_tup {e b : Nat} {ps : List PyData} (h : ∀ p ∈ ps, Shw e b p) : Shw (e + 1) (3 + ps.length * (b + 2)) (.tuple ps) := by
  obtain ⟨h1, h2, h3, h4, h5⟩ := shw_all h
  refine ⟨by simp only [PyData.showable]; exact h1, by simp only [PyData.hasDict]; exact h2, by simp only [PyData.depth]; omega, ?_⟩
  simp only [PyData.shown]
  have := tupleText_le (PyData.shownAll ps)
  have q := piled_le h5
  rw [h4] at q
  omega
theorem shw_lst {e b : Nat} {ps : List PyData} (h : ∀ p ∈ ps, Shw e b p) : Shw (e + 1) (2 + ps.length * (b + 2)) (.list ps) := by
  obtain ⟨h1, h2, h3, h4, h5⟩ := shw_all h
  refine ⟨by simp only [PyData.showable]; exact h1, by simp only [PyData.hasDict]; exact h2, by simp only [PyData.depth]; omega, ?_⟩
  simp only [PyData.shown]
  have := listText_le (PyData.shownAll ps)
  have q := piled_le h5
  rw [h4] at q
  omega
theorem shw_bl {b : Bool} : Shw 0 5 (.bool b) := by
  refine ⟨by simp only [PyData.showable], by simp only [PyData.hasDict], by simp only [PyData.depth]; omega, ?_⟩
  simp only [PyData.shown]
  cases b <;> decide +kernel
theorem shw_non : Shw 0 5 .none := by
  refine ⟨by simp only [PyData.showable], by simp only [PyData.hasDict], by simp only [PyData.depth]; omega, ?_⟩
  simp only [PyData.shown]
  decide +kernel
theorem shw_int {i : Int} (h : i.natAbs.log2 < 1920) : Shw 0 1921 (.int i) := by
  refine ⟨by simp only [PyData.showable, decide_eq_true_eq]; exact h, by simp only [PyData.hasDict], by simp only [PyData.depth]; omega, ?_⟩
  simp only [PyData.shown]
  exact int_text_len_1921 h
mutual
theorem rp_pd : ∀ {d : D} {p : PyData}, pd d = some p → rp d = some p
  | .non, p, e => by simpa only [pd, rp] using e
  | .bl _, p, e => by simpa only [pd, rp] using e
  | .int _, p, e => by simpa only [pd, rp] using e
  | .str _, p, e => by simpa only [pd, rp] using e
  | .tup xs, p, e => by
    simp only [pd] at e
    obtain ⟨ps, e1, rfl⟩ := mapS e
    simp only [rp, rps_pds e1, Option.map_some]
  | .lst xs, p, e => by
    simp only [pd] at e
    obtain ⟨ps, e1, rfl⟩ := mapS e
    simp only [rp, rps_pds e1, Option.map_some]
  | .scr xs, p, e => by
    simp only [pd] at e
    obtain ⟨ps, e1, rfl⟩ := mapS e
    simp only [rp, rps_pds e1, Option.map_some]
  | .dic _ _, p, e => by simp only [pd] at e; cases e
  | .ref _, p, e => by simp only [pd] at e; cases e
  | .exc _ _ _, p, e => by simp only [pd] at e; cases e
theorem rps_pds : ∀ {ds : List D} {ps : List PyData}, pds ds = some ps → rps ds = some ps
  | [], ps, e => by simpa only [pds, rps] using e
  | d :: ds, ps, e => by
    simp only [pds] at e
    obtain ⟨p, e1, e2⟩ := bindS e
    obtain ⟨r, e3, rfl⟩ := mapS e2
    simp only [rps, rp_pd e1, rps_pds e3, Option.bind_some, Option.map_some]
end
theorem repr_rp {d : D} {p : PyData} {S : Sto} (hd : rp (dr S d) = some p) (h1 : p.showable = true) (h2 : p.depth ≤ 64) (h3 : p.shown.length ≤ 16777216) : bltD S "repr" [d] = some (.str p.shown) := by
  have hc : (p.showable && decide (p.depth ≤ 64) && decide (p.shown.length ≤ 16777216)) = true := by
    simp only [Bool.and_eq_true, decide_eq_true_eq]
    exact ⟨⟨h1, h2⟩, h3⟩
  unfold bltD
  simp only [String.reduceEq, ↓reduceIte, hd, Option.bind_some, hc]
theorem repr_of {e b : Nat} {d : D} {p : PyData} {S : Sto} (hd : pd (dr S d) = some p) (h : Shw e b p) (he : e ≤ 64) (hb : b ≤ 16777216) : bltD S "repr" [d] = some (.str p.shown) :=
  repr_rp (rp_pd hd) h.s (Nat.le_trans h.d he) (Nat.le_trans h.l hb)
/-- a whole number or a truth that repr can show -/
def Sml (d : D) : Prop := (∃ b, d = .bl b) ∨ ∃ i : Int, d = .int i ∧ i.natAbs < 2 ^ 1000
theorem sml_pd {d : D} (h : Sml d) : ∃ p, pd d = some p ∧ Shw 0 1921 p := by
  rcases h with ⟨b, rfl⟩ | ⟨i, rfl, hi⟩
  · exact ⟨.bool b, by simp only [pd], shw_bl.mono (by omega) (by omega)⟩
  · have := log_lt (n := i.natAbs) (k := 1000) hi (by omega)
    exact ⟨.int i, by simp only [pd], shw_int (by omega)⟩
theorem sml_pds : ∀ {xs : List D}, (∀ d ∈ xs, Sml d) → ∃ ps, pds xs = some ps ∧ ps.length = xs.length ∧ ∀ p ∈ ps, Shw 0 1921 p
  | [], _ => ⟨[], by simp only [pds], rfl, fun _ h => (by cases h)⟩
  | x :: xs, h => by
    obtain ⟨p, e1, h1⟩ := sml_pd (h x (List.mem_cons_self ..))
    obtain ⟨ps, e2, l2, h2⟩ := sml_pds fun y hy => h y (List.mem_cons_of_mem _ hy)
    refine ⟨p :: ps, by simp only [pds, e1, e2, Option.bind_some, Option.map_some], by rw [List.length_cons, List.length_cons, l2], fun q hq => ?_⟩
    rcases List.mem_cons.mp hq with rfl | hq
    · exact h1
    · exact h2 q hq
theorem repr_smls {xs : List D} (h : ∀ d ∈ xs, Sml d) (hl : xs.length ≤ 1000) : ∃ s, ∀ S, bltD S "repr" [.lst xs] = some (.str s) := by
  obtain ⟨ps, e, l, q⟩ := sml_pds h
  refine ⟨_, fun S => repr_of (p := .list ps) ?_ (shw_lst q) (by omega) (by rw [l]; omega)⟩
  show pd (.lst xs) = _
  simp only [pd, e, Option.map_some]
theorem repr_bl (b : Bool) : ∃ s, ∀ S, bltD S "repr" [.bl b] = some (.str s) :=
  ⟨_, fun S => repr_of (p := .bool b) (by show pd (.bl b) = _; simp only [pd]) shw_bl (by omega) (by omega)⟩
theorem ne_str {s : Str} {S : Sto} : cmpD S .NotEq (.str s) (.str s) = some false := by simp [cmpD, dr, eqD, flatD, scal, vD]
theorem eq_str {s : Str} {S : Sto} : cmpD S .Eq (.str s) (.str s) = some true := by simp [cmpD, dr, eqD, flatD, scal, vD]
end Dn

set_option maxHeartbeats 1000000
namespace Dn
open PySem PySem.Spec PyProof.Rows L2
theorem lc_ind {w : Wk} {turn : D → Sto → Option (Option D × Sto)} {P : D → Prop} {J : Nat → Sto → Prop} (hw : ∀ i S, J i S → okW w S) : ∀ {xs : List D} {i : Nat} {S : Sto}, (∀ x ∈ xs, ∀ i' S, i' < i + xs.length → J i' S → ∃ y S', turn x S = some (some y, S') ∧ P y ∧ J (i' + 1) S') → J i S →
    ∃ ys S', loopLc w turn xs S = some (ys, S') ∧ ys.length = xs.length ∧ (∀ y ∈ ys, P y) ∧ J (i + xs.length) S'
  | [], i, S, _, h0 => ⟨[], S, by unfold loopLc; rw [if_pos (hw i S h0)], rfl, fun _ h => (by cases h), h0⟩
  | x :: xs, i, S, h, h0 => by
    obtain ⟨y, S1, e1, p1, h1⟩ := h x (List.mem_cons_self ..) i S (by simp) h0
    obtain ⟨ys, S2, e2, l2, p2, h2⟩ := lc_ind hw (xs := xs) (i := i + 1) (S := S1) (fun z hz i' S hi => h z (List.mem_cons_of_mem _ hz) i' S (by rw [List.length_cons]; omega)) h1
    refine ⟨y :: ys, S2, ?_, by rw [List.length_cons, List.length_cons, l2], fun z hz => ?_, by rw [List.length_cons, show i + (xs.length + 1) = i + 1 + xs.length by omega]; exact h2⟩
    · unfold loopLc
      rw [if_pos (hw i S h0), e1, Option.bind_some, e2]
      rfl
    · rcases List.mem_cons.mp hz with rfl | hz
      · exact p1
      · exact p2 z hz
theorem same_app {k : Nat} {S1 T : Sto} {mo : MO} (h : Same k (S1 ++ [mo]) T) (hk : k < S1.length) : ∃ S2, T = S2 ++ [mo] ∧ Same k S1 S2 := by
  obtain ⟨h1, h2⟩ := h
  rw [List.length_append, List.length_singleton] at h1
  have hl : T[S1.length]? = some mo := by rw [h2 _ (by omega)]; simp
  refine ⟨T.take S1.length, ?_, by rw [List.length_take]; omega, fun i hi => ?_⟩
  · refine List.ext_getElem? fun i => ?_
    by_cases c : i < S1.length
    · rw [List.getElem?_append_left (by rw [List.length_take]; omega), List.getElem?_take, if_pos c]
    · by_cases c2 : i = S1.length
      · subst c2
        rw [hl, List.getElem?_append_right (by rw [List.length_take]; omega), List.length_take, Nat.min_eq_left (by omega)]
        simp
      · rw [List.getElem?_eq_none (by omega), List.getElem?_eq_none (by rw [List.length_append, List.length_take, List.length_singleton]; omega)]
  · rw [List.getElem?_take]
    split
    · rename_i c
      rw [h2 i hi, List.getElem?_append_left c]
    · rw [List.getElem?_eq_none (by omega)]
theorem sp_app {k j : Nat} {S : Sto} {mo : MO} (hk : k < S.length) : Sp k j (S ++ [mo]) ↔ Sp k j S := by
  unfold Sp
  rw [List.getElem?_append_left hk]
theorem Sp.lt {k j : Nat} {S : Sto} (h : Sp k j S) : k < S.length := by
  obtain ⟨a, b, c, e, _⟩ := h
  exact get_lt e
theorem eq_lD {p q : Int × Int × Int} {S : Sto} : cmpD S .NotEq (lD p) (lD q) = some (!decide (p = q)) := by
  obtain ⟨a, b, c⟩ := p
  obtain ⟨x, y, z⟩ := q
  simp [cmpD, lD, dr, eqD, flatD, eqP, pd, pds, SeqAt.shaped, PyData.canLay0, PyData.canLayAll0, PyData.depth, PyData.depthAll, PyData.eqv, PyData.eqvAll]
  by_cases h1 : a = x <;> by_cases h2 : b = y <;> by_cases h3 : c = z <;> simp [h1, h2, h3]
theorem for_all' {w : Wk} {turn : D → En → Sto → Option (Fl × Sto)} {I : En → Sto → Prop} (hw : ∀ δ S, I δ S → okW w S) : ∀ {xs : List D} {δ : En} {S : Sto}, (∀ x ∈ xs, ∀ δ S, I δ S → ∃ δ' S', turn x δ S = some (.nx δ', S') ∧ I δ' S') → I δ S →
    ∃ δ' S', loopFor w turn xs δ S = some (.nx δ', S') ∧ I δ' S'
  | [], δ, S, _, h0 => ⟨δ, S, by unfold loopFor; rw [if_pos (hw δ S h0)], h0⟩
  | x :: xs, δ, S, h, h0 => by
    obtain ⟨δ1, S1, e1, h1⟩ := h x (List.mem_cons_self ..) δ S h0
    obtain ⟨δ2, S2, e2, h2⟩ := for_all' hw (fun y hy => h y (List.mem_cons_of_mem _ hy)) h1
    refine ⟨δ2, S2, ?_, h2⟩
    unfold loopFor
    rw [if_pos (hw δ S h0), e1, Option.bind_some]
    exact e2
theorem ex_app {G : GE} {δ : En} {S : Sto} : ∀ {a b : List CS}, exSs G (a ++ b) δ S = @bnd _ _ (exSs G a δ S) ⟨fun p => match p.1 with
    | .nx δ1 => exSs G b δ1 p.2
    | f => some (f, p.2)⟩
  | [], b => by rw [x_nil, bnd_some]; rfl
  | s :: a, b => by
    rw [List.cons_append, x_cons, x_cons]
    cases e : exS G s δ S with
    | none => rfl
    | some p =>
      rw [bnd_some, bnd_some]
      obtain ⟨f, T⟩ := p
      cases f with
      | nx δ1 => exact ex_app
      | rt d => rfl
      | bk d => rfl
      | ct d => rfl
theorem ex_nx {G : GE} {δ δ1 : En} {S S1 : Sto} {a b : List CS} {r : Option (Fl × Sto)} (h : exSs G a δ S = some (.nx δ1, S1)) (g : exSs G b δ1 S1 = r) : exSs G (a ++ b) δ S = r := by
  rw [ex_app, h, bnd_some]; exact g
theorem ex_st {G : GE} {δ δ1 : En} {S S1 : Sto} {s : CS} {b : List CS} {r : Option (Fl × Sto)} (h : exS G s δ S = some (.nx δ1, S1)) (g : exSs G b δ1 S1 = r) : exSs G (s :: b) δ S = r := by
  rw [x_cons, h, bnd_some]; exact g
theorem ex_rt {G : GE} {δ : En} {S S1 : Sto} {s : CS} {d : D} (h : exS G s δ S = some (.rt d, S1)) : exSs G [s] δ S = some (.rt d, S1) := by
  rw [x_cons, h, bnd_some]
theorem ex_rt' {G : GE} {δ : En} {S S1 : Sto} {s : CS} {r : List CS} {d : D} (h : exS G s δ S = some (.rt d, S1)) : exSs G (s :: r) δ S = some (.rt d, S1) := by
  rw [x_cons, h, bnd_some]
end Dn

set_option maxHeartbeats 1000000
namespace K05
open PySem PySem.Spec PyProof.Rows L2 Dn Geo
variable {n k : Nat} {S : Sto}
/-! the program's: what two segments have in common -/
theorem l_shared : PT.lookup ("shared_line" : Str) = some c_p_shared_line := lk (d := d_p_shared_line) (by simp only [defs, List.mem_cons, true_or, or_true])
theorem l_comby : PT.lookup ("common_by" : Str) = some c_p_common_by := lk (d := d_p_common_by) (by simp only [defs, List.mem_cons, true_or, or_true])
theorem eq_pD {P Q : Pnt} {S : Sto} : cmpD S .Eq (pD P) (pD Q) = some (decide (P = Q)) := by
  have := ne_pD (P := P) (Q := Q) (S := S)
  simp only [cmpD, Option.map_eq_some_iff] at this
  obtain ⟨b, e, h⟩ := this
  simp only [cmpD, e]
  congr 1
  simpa using h
def lowP (a c : Pnt) : Pnt := if firstP c a = true then a else c
def highP (b d : Pnt) : Pnt := if firstP b d = true then b else d
def lineP (lo hi : Pnt) : List Pnt := if lo = hi then [lo] else if firstP lo hi = true then [lo, hi] else []
def ascP (P Q : Pnt) : Pnt × Pnt := if firstP P Q = true then (P, Q) else (Q, P)
theorem asc' {P Q : Pnt} (h : Pt k P) (g : Pt k Q) (hk : k ≤ 3000) : callN tb PT (n + 3) "ascending" [.tup [pD P, pD Q]] S = some (.tup [pD (ascP P Q).1, pD (ascP P Q).2], S) := by
  rw [asc_eq h g hk]
  unfold ascP
  split <;> rfl
theorem asc_pt {P Q : Pnt} (h : Pt k P) (g : Pt k Q) : Pt k (ascP P Q).1 ∧ Pt k (ascP P Q).2 := by
  unfold ascP
  split
  · exact ⟨h, g⟩
  · exact ⟨g, h⟩
theorem low_pt {a c : Pnt} (h : Pt k a) (g : Pt k c) : Pt k (lowP a c) := by unfold lowP; split <;> assumption
theorem high_pt {a c : Pnt} (h : Pt k a) (g : Pt k c) : Pt k (highP a c) := by unfold highP; split <;> assumption
theorem shared_eq {P Q R T : Pnt} (hp : Pt k P) (hq : Pt k Q) (hr : Pt k R) (ht : Pt k T) (hk : k ≤ 3000) :
    callN tb PT (n + 4) "shared_line" [.tup [pD P, pD Q], .tup [pD R, pD T]] S = some (.tup ((lineP (lowP (ascP P Q).1 (ascP R T).1) (highP (ascP P Q).2 (ascP R T).2)).map pD), S) := by
  have e1 := asc' (n := n) (S := S) hp hq hk
  have e2 := asc' (n := n) (S := S) hr ht hk
  obtain ⟨pa, pb⟩ := asc_pt hp hq
  obtain ⟨pc, pd⟩ := asc_pt hr ht
  generalize (ascP P Q).1 = a at *
  generalize (ascP P Q).2 = b at *
  generalize (ascP R T).1 = c at *
  generalize (ascP R T).2 = d at *
  have f1 := first_eq (n := n + 1) (S := S) pc pa hk
  have f2 := first_eq (n := n + 1) (S := S) pb pd hk
  have pl := low_pt pa pc
  have ph := high_pt pb pd
  have f3 := first_eq (n := n + 1) (S := S) pl ph hk
  rw [q_of l_shared rfl]
  have fin : ∀ lo' hi' : Pnt, (callN tb PT (n + 3) "comes_first" [pD lo', pD hi'] S = some (.bl (firstP lo' hi'), S)) → ∀ δ : En, vr δ 2 = some (pD lo') → vr δ 3 = some (pD hi') →
      exSs (geN tb PT (n + 3)) [.ife (.cmp .Eq (.var 2) (.var 3)) [.ret (.tup [.var 2])] [], .ret (.ite (.call "comes_first" [.var 2, .var 3]) (.tup [.var 2, .var 3]) (.tup []))] δ S = some (.rt (.tup ((lineP lo' hi').map pD)), S) := fun lo' hi' f δ d2 d3 => by
    by_cases h3 : lo' = hi'
    · simp [d2, d3, eq_pD, h3, lineP, truD]
    · by_cases h4 : firstP lo' hi' = true
      · simp [d2, d3, eq_pD, h3, h4, f, lineP, truD]
      · simp only [Bool.not_eq_true] at h4
        simp [d2, d3, eq_pD, h3, h4, f, lineP, truD]
  have sd : startD c_p_shared_line.N.length [D.tup [pD P, pD Q], D.tup [pD R, pD T]] = [some (.tup [pD P, pD Q]), some (.tup [pD R, pD T]), none, none, none, none, none, none] := rfl
  have bE : exSs (geN tb PT (n + 3)) c_p_shared_line.body [some (.tup [pD P, pD Q]), some (.tup [pD R, pD T]), none, none, none, none, none, none] S = some (.rt (.tup ((lineP (lowP a c) (highP b d)).map pD)), S) := by
    simp only [c_p_shared_line]
    refine ex_st (δ1 := [some (.tup [pD P, pD Q]), some (.tup [pD R, pD T]), none, none, some (pD a), some (pD b), some (pD c), some (pD d)]) (S1 := S) (by simp [e1, e2, items]) ?_
    refine ex_st (δ1 := [some (.tup [pD P, pD Q]), some (.tup [pD R, pD T]), some (pD (lowP a c)), none, some (pD a), some (pD b), some (pD c), some (pD d)]) (S1 := S) (by cases h1 : firstP c a <;> rw [h1] at f1 <;> simp [f1, h1, truD, lowP]) ?_
    refine ex_st (δ1 := [some (.tup [pD P, pD Q]), some (.tup [pD R, pD T]), some (pD (lowP a c)), some (pD (highP b d)), some (pD a), some (pD b), some (pD c), some (pD d)]) (S1 := S) (by cases h1 : firstP b d <;> rw [h1] at f2 <;> simp [f2, h1, truD, highP]) ?_
    exact fin _ _ f3 _ rfl rfl
  rw [sd, bE, bnd_some]
  exact gc_same (Nat.le_refl _)
end K05

set_option maxHeartbeats 1000000
namespace K05
open PySem PySem.Spec PyProof.Rows L2 Dn Geo
variable {n k : Nat} {S : Sto}
/-! fractions with a bound above and one below the line -/
structure F2 (a b : Nat) (p : Int × Int) : Prop where
  pos : 0 < p.2
  cop : gcdI p.1 p.2 = 1
  l1 : Lt a p.1
  l2 : Lt b p.2
theorem F2.fr {a b k : Nat} {p : Int × Int} (h : F2 a b p) (ha : a ≤ k) (hb : b ≤ k) : Fr k p := ⟨h.pos, h.cop, h.l1.mono ha, h.l2.mono hb⟩
theorem F2.mono {a b c d : Nat} {p : Int × Int} (h : F2 a b p) (ha : a ≤ c) (hb : b ≤ d) : F2 c d p := ⟨h.pos, h.cop, h.l1.mono ha, h.l2.mono hb⟩
theorem red_f2 {a b : Nat} {t c : Int} (h : 0 < c) (h1 : Lt a t) (h2 : Lt b c) : F2 a b (red t c) := ⟨red_pos h, red_cop h, red_lt1 h h1, red_lt2 h h2⟩
theorem redS_f2 {a b : Nat} {t c : Int} (h : c ≠ 0) (h1 : Lt a t) (h2 : Lt b c) : F2 a b (redS t c) := by
  unfold redS
  split
  · exact red_f2 (by assumption) h1 h2
  · exact red_f2 (by omega) (lt_neg h1) (lt_neg h2)
theorem F2.sub {a b c d A B : Nat} {p q : Int × Int} (h : F2 a b p) (g : F2 c d q) (e1 : a + d + 1 ≤ A) (e2 : c + b + 1 ≤ A) (e3 : b + d ≤ B) : F2 A B (fsub p q) :=
  red_f2 (Int.mul_pos h.pos g.pos) ((((h.l1.mul g.l2).mono (show a + d ≤ A - 1 by omega)).sub ((g.l1.mul h.l2).mono (show c + b ≤ A - 1 by omega))).mono (by omega)) ((h.l2.mul g.l2).mono e3)
theorem F2.add {a b c d A B : Nat} {p q : Int × Int} (h : F2 a b p) (g : F2 c d q) (e1 : a + d + 1 ≤ A) (e2 : c + b + 1 ≤ A) (e3 : b + d ≤ B) : F2 A B (fadd p q) :=
  red_f2 (Int.mul_pos h.pos g.pos) ((((h.l1.mul g.l2).mono (show a + d ≤ A - 1 by omega)).add ((g.l1.mul h.l2).mono (show c + b ≤ A - 1 by omega))).mono (by omega)) ((h.l2.mul g.l2).mono e3)
theorem F2.mul {a b c d A B : Nat} {p q : Int × Int} (h : F2 a b p) (g : F2 c d q) (e1 : a + c ≤ A) (e3 : b + d ≤ B) : F2 A B (fmul p q) :=
  red_f2 (Int.mul_pos h.pos g.pos) ((h.l1.mul g.l1).mono e1) ((h.l2.mul g.l2).mono e3)
theorem F2.ovr {a b c d A B : Nat} {p q : Int × Int} (h : F2 a b p) (g : F2 c d q) (nz : q.1 ≠ 0) (e1 : a + d ≤ A) (e3 : b + c ≤ B) : F2 A B (fovr p q) :=
  redS_f2 (fun z => by have := h.pos; rcases Int.mul_eq_zero.mp z with z | z <;> omega) ((h.l1.mul g.l2).mono e1) ((h.l2.mul g.l1).mono e3)
/-- points with such bounds -/
def P2 (a b : Nat) (P : Pnt) : Prop := F2 a b P.1 ∧ F2 a b P.2
theorem P2.pt {a b k : Nat} {P : Pnt} (h : P2 a b P) (ha : a ≤ k) (hb : b ≤ k) : Pt k P := ⟨h.1.fr ha hb, h.2.fr ha hb⟩
/-- the ends of the law's segments -/
abbrev En2 (P : Pnt) : Prop := P2 44 22 P
theorem step_p2 {P Q : Pnt} (h : En2 P) (g : En2 Q) : P2 67 44 (psub Q P) := ⟨g.1.sub h.1 (by omega) (by omega) (by omega), g.2.sub h.2 (by omega) (by omega) (by omega)⟩
theorem cross_f2 {U V : Pnt} (h : P2 67 44 U) (g : P2 67 44 V) : F2 223 176 (pcross U V) :=
  (h.1.mul g.2 (Nat.le_refl _) (Nat.le_refl _)).sub (h.2.mul g.1 (Nat.le_refl _) (Nat.le_refl _)) (by omega) (by omega) (by omega)
theorem at_p2 {P U : Pnt} {f : Int × Int} (h : En2 P) (g : P2 67 44 U) (e : F2 399 399 f) : P2 489 465 (pAt P U f) :=
  ⟨h.1.add (e.mul g.1 (Nat.le_refl _) (Nat.le_refl _)) (by omega) (by omega) (by omega), h.2.add (e.mul g.2 (Nat.le_refl _) (Nat.le_refl _)) (by omega) (by omega) (by omega)⟩
/-! what the program tells -/
def metP (P Q R T : Pnt) : Pnt := pAt P (psub Q P) (fovr (pcross (psub R P) (psub T R)) (pcross (psub Q P) (psub T R)))
def comP (P Q R T : Pnt) : List Pnt :=
  if pcross (psub Q P) (psub T R) = (0, 1) then
    if pcross (psub Q P) (psub R P) = (0, 1) then lineP (lowP (ascP P Q).1 (ascP R T).1) (highP (ascP P Q).2 (ascP R T).2) else []
  else if onB P Q (metP P Q R T) = true then if onB R T (metP P Q R T) = true then [metP P Q R T] else [] else []
theorem zero_01 {a b : Nat} {p : Int × Int} (h : F2 a b p) : p = (0, 1) ↔ p.1 = 0 := by
  constructor
  · intro e; rw [e]
  · intro e
    have c := h.cop
    have q := h.pos
    unfold gcdI at c
    rw [e] at c
    rw [Int.natAbs_zero, Nat.gcd_zero_left] at c
    exact Prod.ext e (by show p.2 = 1; omega)
theorem glo_zero : List.lookup (Str.ofString "ZERO") tb = some (fD (0, 1)) := rfl
theorem comby_eq {P Q R T : Pnt} (hp : En2 P) (hq : En2 Q) (hr : En2 R) (ht : En2 T) :
    callN tb PT (n + 6) "common_by" [.tup [pD P, pD Q], .tup [pD R, pD T]] S = some (.tup ((comP P Q R T).map pD), S) := by
  have kp := hp.pt (k := 44) (by omega) (by omega)
  have kq := hq.pt (k := 44) (by omega) (by omega)
  have kr := hr.pt (k := 44) (by omega) (by omega)
  have kt := ht.pt (k := 44) (by omega) (by omega)
  have e1 := Geo.step_of (tb := tb) (n := n + 2) (S := S) hP kp kq (by omega)
  have e2 := Geo.step_of (tb := tb) (n := n + 2) (S := S) hP kr kt (by omega)
  have e3 := Geo.step_of (tb := tb) (n := n + 2) (S := S) hP kp kr (by omega)
  have f1 := step_p2 hp hq
  have f2 := step_p2 hr ht
  have f3 := step_p2 hp hr
  have p1 := f1.pt (k := 67) (by omega) (by omega)
  have p2 := f2.pt (k := 67) (by omega) (by omega)
  have p3 := f3.pt (k := 67) (by omega) (by omega)
  have c1 := Geo.cross (tb := tb) (n := n + 2) (S := S) hP p1 p2 (by omega)
  have c2 := Geo.cross (tb := tb) (n := n + 2) (S := S) hP p1 p3 (by omega)
  have c3 := Geo.cross (tb := tb) (n := n + 2) (S := S) hP p3 p2 (by omega)
  have w1 := cross_f2 f1 f2
  have w3 := cross_f2 f3 f2
  have sh := shared_eq (n := n + 1) (S := S) kp kq kr kt (by omega)
  have bE : exSs (geN tb PT (n + 5)) c_p_common_by.body [some (.tup [pD P, pD Q]), some (.tup [pD R, pD T]), none, none, none, none, none] S = some (.rt (.tup ((comP P Q R T).map pD)), S) := by
    simp only [c_p_common_by]
    refine ex_st (δ1 := [some (.tup [pD P, pD Q]), some (.tup [pD R, pD T]), none, some (pD (psub Q P)), some (pD (psub T R)), none, none]) (S1 := S) (by simp [ixD, items, atI, ixN, e1, e2]) ?_
    refine ex_st (δ1 := [some (.tup [pD P, pD Q]), some (.tup [pD R, pD T]), none, some (pD (psub Q P)), some (pD (psub T R)), some (pD (psub R P)), some (fD (pcross (psub Q P) (psub T R)))]) (S1 := S) (by simp [ixD, items, atI, ixN, e3, c1]) ?_
    by_cases z : pcross (psub Q P) (psub T R) = (0, 1)
    · refine ex_rt' ?_
      unfold comP
      rw [if_pos z, z]
      by_cases z2 : pcross (psub Q P) (psub R P) = (0, 1)
      · rw [if_pos z2]
        simp [glo_zero, eq_fD, truD, c2, z2, sh]
      · rw [if_neg z2]
        simp [glo_zero, eq_fD, truD, c2, z2]
    · have nz : (pcross (psub Q P) (psub T R)).1 ≠ 0 := fun q => z ((zero_01 w1).mpr q)
      have o := over (n := n + 3) (S := S) (w3.fr (k := 223) (by omega) (by omega)) (w1.fr (by omega) (by omega)) nz (by omega)
      have of := w3.ovr w1 nz (A := 399) (B := 399) (by omega) (by omega)
      have am := at_p2 hp f1 of
      have a := at_eq (n := n + 2) (S := S) (k := 399) (hp.pt (by omega) (by omega)) (f1.pt (by omega) (by omega)) (of.fr (Nat.le_refl _) (Nat.le_refl _)) (by omega)
      have o1 := onby_eq (n := n) (S := S) (k := 489) (hp.pt (by omega) (by omega)) (hq.pt (by omega) (by omega)) (am.pt (Nat.le_refl _) (by omega)) (by omega)
      have o2 := onby_eq (n := n) (S := S) (k := 489) (hr.pt (by omega) (by omega)) (ht.pt (by omega) (by omega)) (am.pt (Nat.le_refl _) (by omega)) (by omega)
      change callN tb PT (n + 5) "is_on_by" [.tup [pD P, pD Q], pD (metP P Q R T)] S = some (.bl (onB P Q (metP P Q R T)), S) at o1
      change callN tb PT (n + 5) "is_on_by" [.tup [pD R, pD T], pD (metP P Q R T)] S = some (.bl (onB R T (metP P Q R T)), S) at o2
      change callN tb PT (n + 5) "at_part" [pD P, pD (psub Q P), fD (fovr (pcross (psub R P) (psub T R)) (pcross (psub Q P) (psub T R)))] S = some (pD (metP P Q R T), S) at a
      refine ex_st (δ1 := [some (.tup [pD P, pD Q]), some (.tup [pD R, pD T]), none, some (pD (psub Q P)), some (pD (psub T R)), some (pD (psub R P)), some (fD (pcross (psub Q P) (psub T R)))]) (S1 := S) (by simp [glo_zero, eq_fD, z]) ?_
      refine ex_st (δ1 := [some (.tup [pD P, pD Q]), some (.tup [pD R, pD T]), some (pD (metP P Q R T)), some (pD (psub Q P)), some (pD (psub T R)), some (pD (psub R P)), some (fD (pcross (psub Q P) (psub T R)))]) (S1 := S) (by simp [ixD, items, atI, ixN, c3, o, a]) ?_
      refine ex_rt ?_
      unfold comP
      rw [if_neg z]
      cases b1 : onB P Q (metP P Q R T) <;> rw [b1] at o1
      · simp [o1, truD]
      · cases b2 : onB R T (metP P Q R T) <;> rw [b2] at o2 <;> simp [o1, o2, truD]
  have sd : startD c_p_common_by.N.length [D.tup [pD P, pD Q], D.tup [pD R, pD T]] = [some (.tup [pD P, pD Q]), some (.tup [pD R, pD T]), none, none, none, none, none] := rfl
  rw [q_of l_comby rfl, sd, bE, bnd_some]
  exact gc_same (Nat.le_refl _)
end K05

set_option maxHeartbeats 1000000
namespace K05
open PySem PySem.Spec PyProof.Rows L2 Dn Geo
variable {n k : Nat} {S : Sto}
theorem asc_lq {P Q : Pnt} (h : Pt k P) (g : Pt k Q) (ne : P ≠ Q) : lq (xq (ascP P Q).1) (xq (ascP P Q).2) ∧ ∀ z, On (xq (ascP P Q).1) (xq (ascP P Q).2) z ↔ On (xq P) (xq Q) z := by
  unfold ascP
  by_cases c : firstP P Q = true
  · rw [if_pos c]
    exact ⟨(first_lq h g).mp c, fun _ => Iff.rfl⟩
  · rw [if_neg c]
    refine ⟨?_, fun _ => on_comm⟩
    rcases lq_tri (xq P) (xq Q) with q | q | q
    · exact absurd ((first_lq h g).mpr q) c
    · exact absurd (xq_inj h g q) ne
    · exact q
theorem low_max {a c : Pnt} (h : Pt k a) (g : Pt k c) : MaxOf (xq a) (xq c) (xq (lowP a c)) := by
  unfold lowP
  by_cases e : firstP c a = true
  · rw [if_pos e]
    exact ⟨.inl rfl, lq_ir, lq_as ((first_lq g h).mp e)⟩
  · rw [if_neg e]
    exact ⟨.inr rfl, mt (first_lq g h).mpr e, lq_ir⟩
theorem high_min {b d : Pnt} (h : Pt k b) (g : Pt k d) : MinOf (xq b) (xq d) (xq (highP b d)) := by
  unfold highP
  by_cases e : firstP b d = true
  · rw [if_pos e]
    exact ⟨.inl rfl, lq_ir, lq_as ((first_lq h g).mp e)⟩
  · rw [if_neg e]
    exact ⟨.inr rfl, mt (first_lq h g).mpr e, lq_ir⟩
theorem line_ways {lo hi : Pnt} (h : Pt k lo) (g : Pt k hi) : (xq lo = xq hi ∧ (lineP lo hi).map xq = [xq lo]) ∨ (lq (xq lo) (xq hi) ∧ (lineP lo hi).map xq = [xq lo, xq hi]) ∨ (lq (xq hi) (xq lo) ∧ (lineP lo hi).map xq = []) := by
  unfold lineP
  by_cases e : lo = hi
  · rw [if_pos e]
    exact .inl ⟨by rw [e], rfl⟩
  · rw [if_neg e]
    by_cases c : firstP lo hi = true
    · rw [if_pos c]
      exact .inr (.inl ⟨(first_lq h g).mp c, rfl⟩)
    · rw [if_neg c]
      refine .inr (.inr ⟨?_, rfl⟩)
      rcases lq_tri (xq lo) (xq hi) with q | q | q
      · exact absurd ((first_lq h g).mpr q) c
      · exact absurd (xq_inj h g q) e
      · exact q
theorem ori_asc {P Q : Pnt} {z : Q2} : ori (xq (ascP P Q).1) (xq (ascP P Q).2) z = 0 ↔ ori (xq P) (xq Q) z = 0 := by
  unfold ascP
  split
  · exact Iff.rfl
  · show ori (xq Q) (xq P) z = 0 ↔ _
    rw [ori_flip]
    constructor <;> intro h <;> grind
theorem asc_pred {P Q : Pnt} {C : Pnt → Prop} (h : C P) (g : C Q) : C (ascP P Q).1 ∧ C (ascP P Q).2 := by
  unfold ascP
  split
  · exact ⟨h, g⟩
  · exact ⟨g, h⟩
theorem met_at {P Q R T : Pnt} (hp : En2 P) (hq : En2 Q) (hr : En2 R) (ht : En2 T) (nz : (pcross (psub Q P) (psub T R)).1 ≠ 0) :
    xq (metP P Q R T) = at_ (xq P) (xq Q) (cr (sb (xq R) (xq P)) (sb (xq T) (xq R)) / cr (sb (xq Q) (xq P)) (sb (xq T) (xq R))) := by
  have f1 := step_p2 hp hq
  have f2 := step_p2 hr ht
  have f3 := step_p2 hp hr
  have kp := hp.pt (k := 44) (by omega) (by omega)
  have kq := hq.pt (k := 44) (by omega) (by omega)
  have kr := hr.pt (k := 44) (by omega) (by omega)
  have kt := ht.pt (k := 44) (by omega) (by omega)
  have p1 := f1.pt (k := 67) (by omega) (by omega)
  have p2 := f2.pt (k := 67) (by omega) (by omega)
  have p3 := f3.pt (k := 67) (by omega) (by omega)
  have w1 := cross_f2 f1 f2
  have w3 := cross_f2 f3 f2
  have o := vq_ovr (w3.fr (k := 223) (by omega) (by omega)) (w1.fr (k := 223) (by omega) (by omega)) nz
  rw [vq_cross p3 p2, vq_cross p1 p2, xq_sub kp kq, xq_sub kr kt, xq_sub kp kr] at o
  have of := (w3.ovr w1 nz (A := 399) (B := 399) (by omega) (by omega)).fr (Nat.le_refl _) (Nat.le_refl _)
  have s1 := vq_sub kq.1 kp.1
  have s2 := vq_sub kq.2 kp.2
  unfold metP pAt at_
  rw [q2_ext]
  show vq (fadd P.1 (fmul _ (fsub Q.1 P.1))) = vq P.1 + _ * (vq Q.1 - vq P.1) ∧ vq (fadd P.2 (fmul _ (fsub Q.2 P.2))) = vq P.2 + _ * (vq Q.2 - vq P.2)
  have g1 : Dn.Fr 399 (fsub Q.1 P.1) := f1.1.fr (by omega) (by omega)
  have g2 : Dn.Fr 399 (fsub Q.2 P.2) := f1.2.fr (by omega) (by omega)
  rw [vq_add kp.1 (of.mul g1), vq_add kp.2 (of.mul g2), vq_mul of g1, vq_mul of g2, o, s1, s2]
  exact ⟨rfl, rfl⟩
theorem com_tells {P Q R T : Pnt} (hp : En2 P) (hq : En2 Q) (hr : En2 R) (ht : En2 T) (n1 : P ≠ Q) (n2 : R ≠ T) :
    Tells (Com (xq P) (xq Q) (xq R) (xq T)) ((comP P Q R T).map xq) ∧ ∀ Z ∈ comP P Q R T, P2 489 465 Z := by
  have f1 := step_p2 hp hq
  have f2 := step_p2 hr ht
  have f3 := step_p2 hp hr
  have kp := hp.pt (k := 44) (by omega) (by omega)
  have kq := hq.pt (k := 44) (by omega) (by omega)
  have kr := hr.pt (k := 44) (by omega) (by omega)
  have kt := ht.pt (k := 44) (by omega) (by omega)
  have p1 := f1.pt (k := 67) (by omega) (by omega)
  have p2 := f2.pt (k := 67) (by omega) (by omega)
  have p3 := f3.pt (k := 67) (by omega) (by omega)
  have w1 := cross_f2 f1 f2
  have w2 := cross_f2 f1 f3
  have w3 := cross_f2 f3 f2
  have m1 := xq_ne kp kq n1
  have m2 := xq_ne kr kt n2
  have z1 := vq_zero (w1.fr (k := 223) (by omega) (by omega))
  have z2 := vq_zero (w2.fr (k := 223) (by omega) (by omega))
  rw [vq_cross p1 p2, xq_sub kp kq, xq_sub kr kt] at z1
  rw [vq_cross p1 p3, xq_sub kp kq, xq_sub kp kr, ← ori_cr] at z2
  unfold comP
  by_cases z : pcross (psub Q P) (psub T R) = (0, 1)
  · have w0 := z1.mpr ((zero_01 w1).mp z)
    rw [if_pos z]
    by_cases y : pcross (psub Q P) (psub R P) = (0, 1)
    · have o0 := z2.mpr ((zero_01 w2).mp y)
      have o1 : ori (xq P) (xq Q) (xq T) = 0 := by rw [ori_add (C := xq R), o0, w0]; grind
      rw [if_pos y]
      obtain ⟨l1, g1⟩ := asc_lq kp kq n1
      obtain ⟨l2, g2⟩ := asc_lq kr kt n2
      obtain ⟨ka, kb⟩ := asc_pt kp kq
      obtain ⟨kc, kd⟩ := asc_pt kr kt
      obtain ⟨ea, eb⟩ := asc_pred (C := En2) hp hq
      obtain ⟨ec, ed⟩ := asc_pred (C := En2) hr ht
      obtain ⟨oc, od⟩ := asc_pred (P := R) (Q := T) (C := fun Z => ori (xq P) (xq Q) (xq Z) = 0) o0 o1
      have oc' := (ori_asc (P := P) (Q := Q)).mpr oc
      have od' := (ori_asc (P := P) (Q := Q)).mpr od
      generalize (ascP P Q).1 = a at *
      generalize (ascP P Q).2 = b at *
      generalize (ascP R T).1 = c at *
      generalize (ascP R T).2 = d at *
      refine ⟨(tells_col l1 l2 oc' od' (low_max ka kc) (high_min kb kd) (line_ways (low_pt ka kc) (high_pt kb kd))).congr fun z => ?_, fun Z hZ => ?_⟩
      · show On _ _ z ∧ On _ _ z ↔ On _ _ z ∧ On _ _ z
        rw [g1, g2]
      · have lo : En2 (lowP a c) := by unfold lowP; split <;> assumption
        have hi : En2 (highP b d) := by unfold highP; split <;> assumption
        have : Z = lowP a c ∨ Z = highP b d := by
          unfold lineP at hZ
          split at hZ
          · simp at hZ; exact .inl hZ
          · split at hZ
            · simp at hZ; exact hZ
            · simp at hZ
        rcases this with rfl | rfl
        · exact ⟨lo.1.mono (by omega) (by omega), lo.2.mono (by omega) (by omega)⟩
        · exact ⟨hi.1.mono (by omega) (by omega), hi.2.mono (by omega) (by omega)⟩
    · have o0 : ori (xq P) (xq Q) (xq R) ≠ 0 := fun q => y ((zero_01 w2).mpr (z2.mp q))
      rw [if_neg y]
      exact ⟨tells_apart m2 w0 o0, fun _ h => nomatch h⟩
  · have nz : (pcross (psub Q P) (psub T R)).1 ≠ 0 := fun q => z ((zero_01 w1).mpr q)
    have w0 : cr (sb (xq Q) (xq P)) (sb (xq T) (xq R)) ≠ 0 := fun q => nz (z1.mp q)
    have am := at_p2 hp f1 (w3.ovr w1 nz (A := 399) (B := 399) (by omega) (by omega))
    have b1 := onB_on (k := 489) (hp.pt (by omega) (by omega)) (hq.pt (by omega) (by omega)) (am.pt (Nat.le_refl _) (by omega)) n1
    have b2 := onB_on (k := 489) (hr.pt (by omega) (by omega)) (ht.pt (by omega) (by omega)) (am.pt (Nat.le_refl _) (by omega)) n2
    have am' : P2 489 465 (metP P Q R T) := am
    change onB P Q (metP P Q R T) = true ↔ _ at b1
    change onB R T (metP P Q R T) = true ↔ _ at b2
    rw [if_neg z]
    refine ⟨tells_cross (Z := xq (metP P Q R T)) m1 w0 (met_at hp hq hr ht nz) ?_, fun Z hZ => ?_⟩
    · by_cases c1 : onB P Q (metP P Q R T) = true
      · rw [if_pos c1]
        by_cases c2 : onB R T (metP P Q R T) = true
        · rw [if_pos c2]
          exact .inl ⟨⟨b1.mp c1, b2.mp c2⟩, rfl⟩
        · rw [if_neg c2]
          exact .inr ⟨fun q => c2 (b2.mpr q.2), rfl⟩
      · rw [if_neg c1]
        exact .inr ⟨fun q => c1 (b1.mpr q.1), rfl⟩
    · split at hZ
      · split at hZ
        · simp at hZ; rw [hZ]; exact am'
        · cases hZ
      · cases hZ
end K05

set_option maxHeartbeats 1000000
namespace K05
open PySem PySem.Spec PyProof.Rows L2 Dn Geo
variable {n k : Nat} {S : Sto}
/-! places in their order: the law's sorted triples -/
def scI (b : Int) (p : Plc) : Int × Int := (p.1 * (b / p.2.2), p.2.1 * (b / p.2.2))
def trD (b : Int) (p : Plc) : D := .tup [.int (scI b p).1, .int (scI b p).2, lD p]
theorem sc_q {b : Int} {p : Plc} (hb : 0 < b) (hw : 0 < p.2.2) (hd : p.2.2 ∣ b) : ((scI b p).1 : Rat) = (b : Rat) * (hq p).1 ∧ ((scI b p).2 : Rat) = (b : Rat) * (hq p).2 := by
  obtain ⟨c, rfl⟩ := hd
  have e : p.2.2 * c / p.2.2 = c := Int.mul_ediv_cancel_left c (by omega)
  have := cpos hw
  unfold scI hq
  rw [e]
  simp only [Rat.intCast_mul]
  constructor <;> grind
theorem mul_lt {b x y : Rat} (hb : 0 < b) : b * x < b * y ↔ x < y := by
  have := mulp (s := x - y) hb
  have e : (x - y) * b = b * x - b * y := by grind
  rw [e] at this
  constructor
  · intro h
    have := this.mp (by grind)
    grind
  · intro h
    have := this.mpr (by grind)
    grind
theorem mul_eq {b x y : Rat} (hb : 0 < b) : b * x = b * y ↔ x = y := by
  constructor
  · intro h
    have : b ≠ 0 := by grind
    have : b * (x - y) = 0 := by grind
    have : x - y = 0 := by grind
    grind
  · intro h; rw [h]
theorem sc_lt1 {b : Int} {p q : Plc} (hb : 0 < b) (hp : 0 < p.2.2) (hq' : 0 < q.2.2) (dp : p.2.2 ∣ b) (dq : q.2.2 ∣ b) : ((scI b p).1 < (scI b q).1 ↔ (hq p).1 < (hq q).1) ∧ ((scI b p).1 = (scI b q).1 ↔ (hq p).1 = (hq q).1) ∧ ((scI b p).2 < (scI b q).2 ↔ (hq p).2 < (hq q).2) ∧ ((scI b p).2 = (scI b q).2 ↔ (hq p).2 = (hq q).2) := by
  have e1 := sc_q hb hp dp
  have e2 := sc_q hb hq' dq
  have pb := cpos hb
  have ie : ∀ {x y : Int}, x = y ↔ (x : Rat) = (y : Rat) := fun {x y} => ⟨fun h => by rw [h], fun h => by exact_mod_cast h⟩
  rw [← Rat.intCast_lt_intCast, ← Rat.intCast_lt_intCast, ie, ie, e1.1, e1.2, e2.1, e2.2]
  exact ⟨mul_lt pb, mul_eq pb, mul_lt pb, mul_eq pb⟩
theorem kd_tr {b : Int} {p : Plc} : kD (trD b p) = .inl 1 :: .inl (scI b p).1 :: .inl 1 :: .inl (scI b p).2 :: (PySem.W.keyToksAll [.tuple [.int p.1, .int p.2.1, .int p.2.2]]) := by
  simp [kD, trD, lD, pd, pds, PySem.W.keyToks, PySem.W.keyToksAll]
theorem key_lt {b : Int} {p q : Plc} (hb : 0 < b) (hp : Prim p) (hq' : Prim q) (dp : p.2.2 ∣ b) (dq : q.2.2 ∣ b) : PyProof.Rows.lexLt PyProof.Rows.itemOrd (kD (trD b p)) (kD (trD b q)) = true ↔ lq (hq p) (hq q) := by
  obtain ⟨l1, e1, l2, e2⟩ := sc_lt1 hb hp.pos hq'.pos dp dq
  have it : ∀ {x y : Int}, PyProof.Rows.itemOrd.blt (.inl x) (.inl y) = decide (x < y) := fun {x y} => rfl
  rw [kd_tr, kd_tr, lex_self (O := itemOrd)]
  unfold lq
  by_cases h1 : (scI b p).1 = (scI b q).1
  · rw [h1, lex_self (O := itemOrd), lex_self (O := itemOrd)]
    by_cases h2 : (scI b p).2 = (scI b q).2
    · have : p = q := hq_inj hp hq' (q2_ext.mpr ⟨e1.mp h1, e2.mp h2⟩)
      subst this
      rw [lex_irrefl]
      constructor
      · intro h; cases h
      · intro h; grind
    · rw [lex_diff (O := itemOrd) (by simpa using h2), it, decide_eq_true_eq, l2]
      have := e1.mp h1
      grind
  · rw [lex_diff (O := itemOrd) (by simpa using h1), it, decide_eq_true_eq, l1]
    have := mt e1.mpr h1
    grind
open Classical in
noncomputable def leQ (p q : Plc) : Bool := decide (¬ lq (hq q) (hq p))
theorem leQ_iff {p q : Plc} : leQ p q = true ↔ ¬ lq (hq q) (hq p) := by unfold leQ; simp
theorem leQ_ok : PySem.W.TotalLe leQ := by
  refine ⟨fun a b c h g => leQ_iff.mpr (lq_le (leQ_iff.mp h) (leQ_iff.mp g)), fun a b => ?_⟩
  rw [leQ_iff, leQ_iff]
  rcases lq_tri (hq a) (hq b) with h | h | h
  · exact .inl (lq_as h)
  · left; rw [h]; exact lq_ir
  · exact .inr (lq_as h)
theorem srt_map {b : Int} {ps : List Plc} (hb : 0 < b) (h : ∀ p ∈ ps, Prim p ∧ p.2.2 ∣ b) : srtD (ps.map (trD b)) = (ps.mergeSort leQ).map (trD b) := by
  unfold srtD
  refine (PySem.W.sort_maps (trD b) fun p hp q hq' => ?_).symm
  have k := key_lt hb (h q hq').1 (h p hp).1 (h q hq').2 (h p hp).2
  show leQ p q = !PyProof.Rows.lexLt PyProof.Rows.itemOrd (kD (trD b q)) (kD (trD b p))
  by_cases c : lq (hq q) (hq p)
  · rw [k.mpr c]
    cases e : leQ p q
    · rfl
    · exact absurd c (leQ_iff.mp e)
  · rw [leQ_iff.mpr c, (Bool.not_eq_true _).mp (mt k.mp c)]
    rfl
/-! without what stands twice -/
def ddA : Plc → List Plc → List Plc
  | _, [] => []
  | x, y :: r => if y = x then ddA y r else y :: ddA y r
def dd : List Plc → List Plc
  | [] => []
  | x :: r => x :: ddA x r
theorem mem_ddA {z : Plc} : ∀ {x : Plc} {r : List Plc}, z ∈ x :: ddA x r ↔ z ∈ x :: r
  | x, [] => Iff.rfl
  | x, y :: r => by
    have := mem_ddA (z := z) (x := y) (r := r)
    simp only [List.mem_cons] at this ⊢
    unfold ddA
    by_cases e : y = x
    · subst e
      rw [if_pos rfl]
      grind
    · rw [if_neg e]
      simp only [List.mem_cons]
      grind
theorem mem_dd {z : Plc} {L : List Plc} : z ∈ dd L ↔ z ∈ L := by
  cases L with
  | nil => exact Iff.rfl
  | cons x r => exact mem_ddA
theorem ddA_srt : ∀ {x : Plc} {r : List Plc}, (∀ p ∈ x :: r, Prim p) → (x :: r).Pairwise (fun a b => ¬ lq (hq b) (hq a)) → (x :: ddA x r).Pairwise (fun a b => lq (hq a) (hq b))
  | x, [], _, _ => List.pairwise_singleton _ _
  | x, y :: r, hp, h => by
    obtain ⟨h1, h2⟩ := List.pairwise_cons.mp h
    have ih := ddA_srt (x := y) (r := r) (fun p q => hp p (List.mem_cons_of_mem _ q)) h2
    unfold ddA
    by_cases e : y = x
    · subst e
      rw [if_pos rfl]
      exact ih
    · rw [if_neg e]
      refine List.pairwise_cons.mpr ⟨fun z hz => ?_, ih⟩
      have xy : lq (hq x) (hq y) := by
        rcases lq_tri (hq x) (hq y) with q | q | q
        · exact q
        · exact absurd (hq_inj (hp x (List.mem_cons_self ..)) (hp y (by simp)) q).symm e
        · exact absurd q (h1 y (List.mem_cons_self ..))
      rcases List.mem_cons.mp hz with rfl | hz
      · exact xy
      · exact lq_tr xy ((List.pairwise_cons.mp ih).1 z hz)
theorem dd_srt {L : List Plc} (hp : ∀ p ∈ L, Prim p) (h : L.Pairwise (fun a b => ¬ lq (hq b) (hq a))) : (dd L).Pairwise (fun a b => lq (hq a) (hq b)) := by
  cases L with
  | nil => exact List.Pairwise.nil
  | cons x r => exact ddA_srt hp h
/-- L: what stands in ps, ascending, each once -/
structure Rising (ps L : List Plc) : Prop where
  srt : L.Pairwise (fun a b => lq (hq a) (hq b))
  mem : ∀ z, z ∈ L ↔ z ∈ ps
theorem rising_of {ps : List Plc} (h : ∀ p ∈ ps, Prim p) : Rising ps (dd (ps.mergeSort leQ)) := by
  have pm := List.mergeSort_perm ps leQ
  refine ⟨dd_srt (fun p hp => h p (pm.mem_iff.mp hp)) ((PySem.W.sort_pairwise leQ_ok ps).imp fun {a b} q => leQ_iff.mp q), fun z => mem_dd.trans pm.mem_iff⟩
end K05

set_option maxHeartbeats 1000000
namespace K05
open PySem PySem.Spec PyProof.Rows L2 Dn Geo
variable {n k : Nat} {S : Sto}
theorem l_bottom : PT.lookup ("_law_bottom" : Str) = some c_law_bottom := lk (d := d_law_bottom) (by simp only [defs, List.mem_cons, true_or, or_true])
theorem l_rising : PT.lookup ("_law_rising" : Str) = some c_law_rising := lk (d := d_law_rising) (by simp only [defs, List.mem_cons, true_or, or_true])
/-! the common bottom -/
theorem lcm_dvd {f w : Int} : f ∣ f / gcdI f w * w ∧ w ∣ f / gcdI f w * w := by
  obtain ⟨a, ha⟩ := (gcdI_dl : gcdI f w ∣ f)
  obtain ⟨b, hb⟩ := (gcdI_dr : gcdI f w ∣ w)
  refine ⟨?_, Int.dvd_mul_left ..⟩
  by_cases g : gcdI f w = 0
  · rw [g] at ha
    have : f = 0 := by rw [ha]; omega
    rw [this]; simp
  · refine ⟨b, ?_⟩
    have e : f / gcdI f w * gcdI f w = f := Int.ediv_mul_cancel gcdI_dl
    calc f / gcdI f w * w = f / gcdI f w * (gcdI f w * b) := by rw [← hb]
      _ = (f / gcdI f w * gcdI f w) * b := by rw [Int.mul_assoc]
      _ = f * b := by rw [e]
theorem lcm_pos {f w : Int} (hf : 0 < f) (hw : 0 < w) : 0 < f / gcdI f w * w :=
  Int.mul_pos (pos_of (b := gcdI f w) (by rw [Int.ediv_mul_cancel gcdI_dl]; exact hf) (gcdI_pos hw)) hw
abbrev botB : List CS := [.asg (.name 1) (.bin .Mult (.bin .FloorDiv (.var 1) (.call "_law_divisor" [.var 1, .ix (.var 2) (.int 2)])) (.ix (.var 2) (.int 2)))]
theorem bot_loop {d : D} {w : Wk} {b : Nat} (hw : ∀ S, okW w S) (hb : b ≤ 8000) : ∀ (rest : List Plc) (found : Int) (c : Nat) (e : Option D), 0 < found → Lt c found → c + b * rest.length ≤ 300000 → (∀ p ∈ rest, 0 < p.2.2 ∧ Lt b p.2.2) →
    ∃ m e', loopFor w (Dn.forTurn (geN tb PT (n + 1)) (.name 2) botB) (rest.map lD) [some d, some (.int found), e] S = some (.nx [some d, some (.int m), e'], S) ∧ 0 < m ∧ Lt (c + b * rest.length) m ∧ found ∣ m ∧ ∀ p ∈ rest, p.2.2 ∣ m
  | [], found, c, e, h0, h1, _, _ => ⟨found, e, by unfold loopFor; simp only [List.map_nil]; rw [if_pos (hw S)], h0, by simpa using h1, Int.dvd_refl _, fun _ h => nomatch h⟩
  | p :: rest, found, c, e, h0, h1, hc, hp => by
    obtain ⟨pw, pl⟩ := hp p (List.mem_cons_self ..)
    have le : b * (p :: rest).length = b * rest.length + b := by rw [List.length_cons, Nat.mul_add, Nat.mul_one]
    rw [le] at hc ⊢
    have g0 := gcdI_pos (x := found) pw
    have gd : divOk (gcdI found p.2.2) = true := Lt.dv (a := b) (pl.of_le (by have := gcdI_le (x := found) pw; omega)) g0 (by omega)
    have q1 : Lt c (found / gcdI found p.2.2) := h1.of_le (div_le g0)
    have m1 : mulOk (found / gcdI found p.2.2) p.2.2 = true := q1.ok pl (by omega) (by omega)
    obtain ⟨m, e', e1, i1, i2, i3, i4⟩ := bot_loop hw hb rest (found / gcdI found p.2.2 * p.2.2) (c + b) (some (lD p)) (lcm_pos h0 pw) (q1.mul pl) (by omega) (fun q hq => hp q (List.mem_cons_of_mem _ hq))
    refine ⟨m, e', ?_, i1, i2.mono (by omega), Int.dvd_trans lcm_dvd.1 i3, fun q hq => ?_⟩
    · simp only [List.map_cons]
      unfold loopFor
      rw [if_pos (hw S)]
      have t : Dn.forTurn (geN tb PT (n + 1)) (.name 2) botB (lD p) [some d, some (.int found), e] S = some (.nx [some d, some (.int (found / gcdI found p.2.2 * p.2.2)), some (lD p)], S) := by
        obtain ⟨x, y, v⟩ := p
        simp only at gd m1
        simp [Dn.forTurn, lD, ixD, items, atI, ixN, divisor hT.toHasD, binD, dr, gd, m1]
      rw [t, Option.bind_some]
      exact e1
    · rcases List.mem_cons.mp hq with rfl | hq
      · exact Int.dvd_trans lcm_dvd.2 i3
      · exact i4 q hq
theorem bottom {d : D} {ps : List Plc} {b : Nat} (hi : ∀ S, items S d = some (ps.map lD)) (hs : srcOf d = none) (hp : ∀ p ∈ ps, 0 < p.2.2 ∧ Lt b p.2.2) (hl : 1 + b * ps.length ≤ 300000) (hb : b ≤ 8000) :
    ∃ m, callN tb PT (n + 2) "_law_bottom" [d] S = some (.int m, S) ∧ 0 < m ∧ Lt (1 + b * ps.length) m ∧ ∀ p ∈ ps, p.2.2 ∣ m := by
  obtain ⟨m, e', e, h1, h2, _, h4⟩ := bot_loop (n := n) (S := S) (d := d) (w := ⟨ps.map lD, none⟩) (b := b) (fun S k h => by cases h) hb ps 1 1 none (by omega) (by unfold Lt; decide) hl hp
  refine ⟨m, ?_, h1, h2, h4⟩
  rw [q_of l_bottom rfl]
  simp only [c_law_bottom]
  simp [startD, hi, hs, e, gc_same]
/-! the law's rising -/
theorem ne_tr {b : Int} {p q : Plc} {S : Sto} : cmpD S .NotEq (trD b p) (trD b q) = some (!decide (p = q)) := by
  obtain ⟨x, y, v⟩ := p
  obtain ⟨x', y', v'⟩ := q
  simp only [cmpD, trD, lD, dr, eqD]
  simp [flatD, eqP, pd, pds, SeqAt.shaped, PyData.canLay0, PyData.canLayAll0, PyData.depth, PyData.depthAll, PyData.eqv, PyData.eqvAll]
  by_cases h : x = x' ∧ y = y' ∧ v = v'
  · obtain ⟨rfl, rfl, rfl⟩ := h
    simp
  · grind
end K05

set_option maxHeartbeats 1000000
namespace K05
open PySem PySem.Spec PyProof.Rows L2 Dn Geo
variable {n k : Nat} {S : Sto}
def trP (b : Int) (p : Plc) : PyData := .tuple [.int (scI b p).1, .int (scI b p).2, .tuple [.int p.1, .int p.2.1, .int p.2.2]]
theorem pds_tr {b : Int} : ∀ {ps : List Plc}, pds (ps.map (trD b)) = some (ps.map (trP b))
  | [] => rfl
  | p :: ps => by
    simp only [List.map_cons, pds, pds_tr (ps := ps)]
    simp [trD, lD, pd, pds, trP]
theorem srtOk_tr {b : Int} {ps : List Plc} : srtOk (ps.map (trP b)) = true := by
  unfold srtOk
  rw [Bool.and_eq_true, Bool.and_eq_true]
  refine ⟨⟨?_, ?_⟩, ?_⟩
  · simp [List.all_map, trP, PySem.W.alike, PySem.W.alikeAll]
  · rw [Bool.or_eq_true]
    left
    simp [List.all_map, trP, tupC]
  · simp [List.all_map, trP, PyData.depth, PyData.depthAll]
theorem blt_sorted {b : Int} {ps : List Plc} (hb : 0 < b) (h : ∀ p ∈ ps, Prim p ∧ p.2.2 ∣ b) : bltD S "sorted" [.lst (ps.map (trD b))] = some (.lst ((ps.mergeSort leQ).map (trD b))) := by
  simp [bltD, litems, pds_tr, srtOk_tr, srt_map hb h]
theorem ddA_cons {x y : Plc} {r : List Plc} : ddA x (y :: r) = if y = x then ddA y r else y :: ddA y r := by rw [ddA]
/-- the items, without those alike the one ahead -/
theorem dd_loop {w : Wk} {turn : D → Sto → Option (Option D × Sto)} {b : Int} {Ls : List Plc} (hw : okW w S)
    (ht : ∀ pre x y r, Ls = pre ++ x :: y :: r → turn (.tup [.int ((pre.length + 1 : Nat) : Int), trD b y]) S = some (if y = x then none else some (lD y), S)) :
    ∀ (r pre : List Plc) (x : Plc), Ls = pre ++ x :: r → loopLc w turn (enmD (pre.length + 1) (r.map (trD b))) S = some ((ddA x r).map lD, S)
  | [], pre, x, _ => by simp only [List.map_nil, enmD]; unfold loopLc; rw [if_pos hw]; rfl
  | y :: r, pre, x, e => by
    have ih := dd_loop hw ht r (pre ++ [x]) y (by rw [e]; simp)
    rw [List.length_append] at ih
    simp only [List.map_cons, enmD]
    unfold loopLc
    rw [if_pos hw, ht pre x y r e, Option.bind_some]
    show Option.map _ (loopLc w turn (enmD (pre.length + 1 + 1) (r.map (trD b))) S) = _
    rw [show pre.length + 1 + 1 = pre.length + [x].length + 1 from rfl, ih]
    rw [ddA_cons]
    split <;> simp
theorem dd_loop0 {w : Wk} {turn : D → Sto → Option (Option D × Sto)} {b : Int} {Ls : List Plc} (hw : okW w S)
    (h0 : ∀ x r, Ls = x :: r → turn (.tup [.int 0, trD b x]) S = some (some (lD x), S))
    (ht : ∀ pre x y r, Ls = pre ++ x :: y :: r → turn (.tup [.int ((pre.length + 1 : Nat) : Int), trD b y]) S = some (if y = x then none else some (lD y), S)) :
    loopLc w turn (enmD 0 (Ls.map (trD b))) S = some ((dd Ls).map lD, S) := by
  cases e : Ls with
  | nil => simp only [List.map_nil, enmD]; unfold loopLc; rw [if_pos hw]; rfl
  | cons x r =>
    simp only [List.map_cons, enmD]
    unfold loopLc
    rw [if_pos hw]
    have h1 : turn (.tup [.int ((0 : Nat) : Int), trD b x]) S = some (some (lD x), S) := h0 x r e
    rw [h1, Option.bind_some]
    show Option.map _ (loopLc w turn (enmD (0 + 1) (r.map (trD b))) S) = _
    have ih := dd_loop (b := b) hw ht r [] x e
    rw [show (0 : Nat) + 1 = ([] : List Plc).length + 1 from rfl, ih]
    simp [dd]
theorem at_mid {pre r : List Plc} {x y : Plc} {b : Int} : atI ((pre ++ x :: y :: r).map (trD b)) (((pre.length + 1 : Nat) : Int) - 1) = some (trD b x) := by
  rw [show (((pre.length + 1 : Nat) : Int) - 1) = (pre.length : Int) by omega, at_nat (by simp)]
  simp
theorem rising {d : D} {ps : List Plc} {a b : Nat} (hi : ∀ S, items S d = some (ps.map lD)) (hs : srcOf d = none) (hp : ∀ p ∈ ps, Prim p ∧ Lt a p.1 ∧ Lt a p.2.1 ∧ Lt b p.2.2) (hl : 1 + b * ps.length ≤ 300000) (ha : a ≤ 100000) (hn : ps.length ≤ 100000) (hb : b ≤ 8000) :
    callN tb PT (n + 3) "_law_rising" [d] S = some (.lst ((dd (ps.mergeSort leQ)).map lD), S) := by
  obtain ⟨m, e1, m0, ml, md⟩ := bottom (n := n) (S := S) hi hs (fun p h => ⟨(hp p h).1.pos, (hp p h).2.2.2⟩) hl hb
  have hd : ∀ p ∈ ps, Prim p ∧ p.2.2 ∣ m := fun p h => ⟨(hp p h).1, md p h⟩
  have pl : (ps.mergeSort leQ).length = ps.length := (List.mergeSort_perm ps leQ).length_eq
  have lc1 : evE (geN tb PT (n + 2)) (.lc (.tup [.bin .Mult (.ix (.var 2) (.int 0)) (.bin .FloorDiv (.var 3) (.ix (.var 2) (.int 2))), .bin .Mult (.ix (.var 2) (.int 1)) (.bin .FloorDiv (.var 3) (.ix (.var 2) (.int 2))), .var 2]) (.name 2) (.seq (.var 0)) [] [2]) [some d, none, none, some (.int m), none] S = some (.lst (ps.map (trD m)), S) := by
    have lp := loop_map2 (w := ⟨ps.map lD, none⟩) (turn := lcTurn (geN tb PT (n + 2)) (.tup [.bin .Mult (.ix (.var 2) (.int 0)) (.bin .FloorDiv (.var 3) (.ix (.var 2) (.int 2))), .bin .Mult (.ix (.var 2) (.int 1)) (.bin .FloorDiv (.var 3) (.ix (.var 2) (.int 2))), .var 2]) (.name 2) [] [2] [some d, none, none, some (.int m), none]) (S := S) (g := lD) (f := trD m) ok_none (ys := ps) (fun p h => by
      obtain ⟨pr, a1, a2, a3⟩ := hp p h
      have gd : divOk p.2.2 = true := Lt.dv (a := 8000) (a3.mono hb) pr.pos (by omega)
      have q : Lt (1 + b * ps.length) (m / p.2.2) := ml.of_le (div_le pr.pos)
      have m1 : mulOk p.1 (m / p.2.2) = true := a1.ok q (by omega) (by omega)
      have m2 : mulOk p.2.1 (m / p.2.2) = true := a2.ok q (by omega) (by omega)
      obtain ⟨x, y, v⟩ := p
      simp only at gd m1 m2
      simp [lcTurn, wipeD, lD, trD, scI, ixD, items, atI, ixN, binD, dr, gd, m1, m2])
    simp [hi, hs, lp]
    omega
  have s2 : exS (geN tb PT (n + 2)) (.asg (.name 4) (.blt "sorted" [.lc (.tup [.bin .Mult (.ix (.var 2) (.int 0)) (.bin .FloorDiv (.var 3) (.ix (.var 2) (.int 2))), .bin .Mult (.ix (.var 2) (.int 1)) (.bin .FloorDiv (.var 3) (.ix (.var 2) (.int 2))), .var 2]) (.name 2) (.seq (.var 0)) [] [2]])) [some d, none, none, some (.int m), none] S = some (.nx [some d, none, none, some (.int m), some (.lst ((ps.mergeSort leQ).map (trD m)))], S) := by
    rw [x_asg, q_blt, q_cons, lc1, bnd_some, q_nil, mpd_some, bnd_some]
    dsimp only
    rw [blt_sorted m0 hd, mpd_some, bnd_some]
    rfl
  have lp2 := dd_loop0 (w := ⟨enmD 0 ((ps.mergeSort leQ).map (trD m)), none⟩) (turn := lcTurn (geN tb PT (n + 2)) (.ix (.var 2) (.int 2)) (.tup [(.name 1), (.name 2)]) [(.or (.cmp .Eq (.var 1) (.int 0)) (.cmp .NotEq (.ix (.var 4) (.bin .Sub (.var 1) (.int 1))) (.var 2)))] [1, 2] [some d, none, none, some (.int m), some (.lst ((ps.mergeSort leQ).map (trD m)))]) (S := S) (b := m) (Ls := ps.mergeSort leQ) ok_none
    (fun x r _ => by simp [lcTurn, wipeD, cmpD, dr, eqD, flatD, scal, vD, trD, ixD, items, atI, ixN])
    (fun pre x y r e => by
      have am := at_mid (pre := pre) (r := r) (x := x) (y := y) (b := m)
      rw [← e] at am
      have ne := ne_tr (b := m) (p := x) (q := y) (S := S)
      have n0 : ¬ ((pre.length + 1 : Nat) : Int) = 0 := by omega
      have cz : cmpD S .Eq (.int ((pre.length + 1 : Nat) : Int)) (.int 0) = some false := by
        simp only [cmpD, dr, eqD, flatD, Bool.and_self, scal, vD]
        simp
        omega
      generalize ((pre.length + 1 : Nat) : Int) = i at *
      have ix2 : ixD S (trD m y) (.int 2) = some (lD y) := rfl
      have ixl : ixD S (.lst ((ps.mergeSort leQ).map (trD m))) (.int (i - 1)) = some (trD m x) := by simp only [ixD, items, Option.bind_some, am]
      by_cases h : y = x
      · subst h
        simp [lcTurn, wipeD, cz, ne, ixl, binD, dr]
      · have h' : ¬ x = y := fun q => h q.symm
        simp [lcTurn, wipeD, cz, ne, ixl, binD, dr, h, h', ix2])
  have ln : (ps.map (trD m)).length ≤ 16777216 := by rw [List.length_map]; omega
  have s3 : exS (geN tb PT (n + 2)) (.ret (.lc (.ix (.var 2) (.int 2)) (.tup [(.name 1), (.name 2)]) (.enm (.var 4)) [(.or (.cmp .Eq (.var 1) (.int 0)) (.cmp .NotEq (.ix (.var 4) (.bin .Sub (.var 1) (.int 1))) (.var 2)))] [1, 2])) [some d, none, none, some (.int m), some (.lst ((ps.mergeSort leQ).map (trD m)))] S = some (.rt (.lst ((dd (ps.mergeSort leQ)).map lD)), S) := by
    have le : ((dd (ps.mergeSort leQ)).map lD).length ≤ 16777216 := by
      have : ∀ {x : Plc} {r : List Plc}, (ddA x r).length ≤ r.length := by
        intro x r
        induction r generalizing x with
        | nil => simp [ddA]
        | cons y r ih =>
          rw [ddA_cons]
          split
          · exact Nat.le_succ_of_le ih
          · exact Nat.succ_le_succ ih
      have l2 : (dd (ps.mergeSort leQ)).length ≤ (ps.mergeSort leQ).length := by
        cases ps.mergeSort leQ with
        | nil => simp [dd]
        | cons x r => exact Nat.succ_le_succ this
      rw [List.length_map]
      omega
    rw [x_ret, q_lc, qw_enm, q_var]
    simp only [vr, mpd_some, bnd_some]
    rw [lp2, bnd_some]
    dsimp only
    rw [if_pos le]
    rfl
  have sd : startD c_law_rising.N.length [d] = [some d, none, none, none, none] := rfl
  have bE : exSs (geN tb PT (n + 2)) c_law_rising.body [some d, none, none, none, none] S = some (.rt (.lst ((dd (ps.mergeSort leQ)).map lD)), S) := by
    simp only [c_law_rising]
    refine ex_st (δ1 := [some d, none, none, some (.int m), none]) (S1 := S) (by simp [e1]) ?_
    refine ex_st s2 ?_
    exact ex_rt s3
  rw [q_of l_rising rfl, sd, bE, bnd_some]
  exact gc_same (Nat.le_refl _)
end K05

set_option maxHeartbeats 1000000
namespace K05
open PySem PySem.Spec PyProof.Rows L2 Dn Geo
variable {n k : Nat} {S : Sto}
/-! places with a bound above and one below -/
structure Pl (a b : Nat) (g : Plc) : Prop where
  p : Prim g
  la : Lt a g.1
  lb : Lt a g.2.1
  lc : Lt b g.2.2
theorem Pl.mono {a b c d : Nat} {g : Plc} (h : Pl a b g) (e : a ≤ c) (f : b ≤ d) : Pl c d g := ⟨h.p, h.la.mono e, h.lb.mono e, h.lc.mono f⟩
theorem Pl.ok {a b : Nat} {g : Plc} (h : Pl a b g) (e : a ≤ 400) (f : b ≤ 400) : POk g := ⟨h.la.mono e, h.lb.mono e, h.lc.mono f⟩
theorem red3_pl {a b : Nat} {x y w : Int} (h : 0 < w) (h1 : Lt a x) (h2 : Lt a y) (h3 : Lt b w) : Pl a b (red3 x y w) := by
  have g := gcdI_pos (x := gcdI x y) h
  exact ⟨red3_prim h, h1.of_le (div_le g), h2.of_le (div_le g), h3.of_le (div_le g)⟩
def red3S (x y w : Int) : Plc := if 0 < w then red3 x y w else red3 (-x) (-y) (-w)
theorem red3S_pl {a b : Nat} {x y w : Int} (h : w ≠ 0) (h1 : Lt a x) (h2 : Lt a y) (h3 : Lt b w) : Pl a b (red3S x y w) := by
  unfold red3S
  split
  · exact red3_pl (by assumption) h1 h2 h3
  · exact red3_pl (by omega) (lt_neg h1) (lt_neg h2) (lt_neg h3)
theorem place_neg {x y w : Int} (hb : w < 0) (hb2 : Lt 8000 w) : callN tb PT (n + 2) "_law_place" [.int x, .int y, .int w] S = some (lD (red3 (-x) (-y) (-w)), S) := by
  have gn3 : gcdI (gcdI (-x) (-y)) (-w) = gcdI (gcdI x y) w := by
    rw [gcd_neg]
    unfold gcdI
    rw [Int.natAbs_neg]
  have g0 : 0 < gcdI (gcdI x y) w := by
    have := gcdI_pos (x := gcdI (-x) (-y)) (y := -w) (by omega)
    rwa [gn3] at this
  have gl : Lt 8000 (gcdI (gcdI x y) w) := hb2.of_le (by
    have := gcdI_le (x := gcdI (-x) (-y)) (y := -w) (by omega)
    rw [gn3] at this
    omega)
  have gn : divOk (-gcdI (gcdI x y) w) = false := by
    unfold divOk
    rw [Bool.and_eq_false_iff]
    exact .inl (decide_eq_false (by omega))
  have gd : divNk (-gcdI (gcdI x y) w) = true := by
    have := Lt.dv (a := 8000) gl g0 (by omega)
    unfold divOk at this
    unfold divNk
    rw [Bool.and_eq_true, decide_eq_true_eq, decide_eq_true_eq] at this ⊢
    rw [Int.natAbs_neg]
    exact ⟨by omega, this.2⟩
  have hn : ¬ 0 < w := by omega
  have f1 := fdiv_neg (t := x) (g := gcdI (gcdI x y) w) (Int.dvd_trans gcdI_dl gcdI_dl)
  have f2 := fdiv_neg (t := y) (g := gcdI (gcdI x y) w) (Int.dvd_trans gcdI_dl gcdI_dr)
  have f3 := fdiv_neg (t := w) (g := gcdI (gcdI x y) w) gcdI_dr
  rw [q_of hT.place rfl]
  simp only [g_place]
  simp [startD, cmpD, hn, divisor hT.toHasD, binD, dr, gd, gn, gc_same, lD, red3, f1, f2, f3, gn3]
theorem placeS {x y w : Int} (hb : w ≠ 0) (hb2 : Lt 8000 w) : callN tb PT (n + 2) "_law_place" [.int x, .int y, .int w] S = some (lD (red3S x y w), S) := by
  unfold red3S
  split
  · exact Geo.place hT (by assumption) hb2
  · exact place_neg (by omega) hb2
theorem hq_red3 {x y w : Int} (h : 0 < w) : hq (red3 x y w) = ((x : Rat) / (w : Rat), (y : Rat) / (w : Rat)) := by
  have p := (red3_prim (x := x) (y := y) h).pos
  obtain ⟨e1, e2⟩ := red3_eq (x := x) (y := y) (w := w)
  unfold hq
  rw [q2_ext]
  exact ⟨(frac_eq p h).mpr e1, (frac_eq p h).mpr e2⟩
theorem hq_red3S {x y w : Int} (h : w ≠ 0) : hq (red3S x y w) = ((x : Rat) / (w : Rat), (y : Rat) / (w : Rat)) := by
  unfold red3S
  split
  · exact hq_red3 (by assumption)
  · rw [hq_red3 (by omega), q2_ext]
    simp only [Rat.intCast_neg]
    have := cnz h
    constructor <;> grind
/-! the law's meetings -/
abbrev Pe (g : Plc) : Prop := Pl 66 44 g
theorem side_lt {p q r : Plc} (h : Pe p) (g : Pe q) (f : Pe r) : Lt 179 (sideV p q r) := by
  have a1 := h.la.mul ((g.lb.mul f.lc).sub (f.lb.mul g.lc))
  have a2 := h.lb.mul ((g.la.mul f.lc).sub (f.la.mul g.lc))
  have a3 := h.lc.mul ((g.la.mul f.lb).sub (f.la.mul g.lb))
  exact (((a1.sub a2).add (a3.mono (by omega))).mono (by omega))
noncomputable def meetV (p q r s : Plc) : List Plc :=
  if sideV p q r = 0 ∧ sideV p q s = 0 then dd (([p, q].filter (liesV r s) ++ [r, s].filter (liesV p q)).mergeSort leQ)
  else if 0 < sideV r s p * sideV r s q ∨ 0 < sideV p q r * sideV p q s then []
  else [red3S (sideV r s p * q.1 - sideV r s q * p.1) (sideV r s p * q.2.1 - sideV r s q * p.2.1) (sideV r s p * q.2.2 - sideV r s q * p.2.2)]
theorem l_meet : PT.lookup ("_law_meet" : Str) = some c_law_meet := lk (d := d_law_meet) (by simp only [defs, List.mem_cons, true_or, or_true])
theorem ends_lc {d : D} {r s : Plc} {ys : List Plc} {δ : En} {i : Nat} {a b : C} (hi : items S d = some (ys.map lD)) (hs : srcOf d = none) (hy : ∀ y ∈ ys, Pe y) (hr : Pe r) (hs' : Pe s) (hl : ys.length ≤ 1000)
    (hv : vr δ i = some d) (ha : ∀ y S, evE (geN tb PT (n + 2)) a (δ.set 2 (some (lD y))) S = some (lD r, S)) (hb : ∀ y S, evE (geN tb PT (n + 2)) b (δ.set 2 (some (lD y))) S = some (lD s, S)) (hd : 2 < δ.length) :
    evE (geN tb PT (n + 2)) (.lc (.var 2) (.name 2) (.seq (.var i)) [.call "_law_lies_on" [a, b, .var 2]] [2]) δ S = some (.lst ((ys.filter (liesV r s)).map lD), S) := by
  have v2 : ∀ y, vr (δ.set 2 (some (lD y))) 2 = some (lD y) := fun y => by
    rw [vr_get, List.getElem?_set_self hd]
  have lp := loop_filter2 (w := ⟨ys.map lD, none⟩) (turn := lcTurn (geN tb PT (n + 2)) (.var 2) (.name 2) [.call "_law_lies_on" [a, b, .var 2]] [2] δ) (S := S) (g := lD) (f := lD) (q := liesV r s) ok_none (ys := ys) (fun y h => by
    have e := lies_eq (n := n) (S := S) (hr.ok (by omega) (by omega)) (hs'.ok (by omega) (by omega)) ((hy y h).ok (by omega) (by omega))
    cases c : liesV r s y <;> rw [c] at e <;> simp [lcTurn, wipeD, ha, hb, v2, e, truD, c])
  have le : ((ys.filter (liesV r s)).map lD).length ≤ 16777216 := by
    have := List.length_filter_le (liesV r s) ys
    rw [List.length_map]
    omega
  rw [q_lc, qw_seq, q_var, hv]
  simp only [mpd_some, bnd_some, hi, hs]
  rw [lp, bnd_some]
  dsimp only
  rw [if_pos le]
end K05

set_option maxHeartbeats 1000000
/-! ends that lie on the other one; the part of the way -/
namespace Geo
variable {A B C D z : Q2}
theorem srt_uniq : ∀ {l m : List Q2}, l.Pairwise lq → m.Pairwise lq → (∀ z, z ∈ l ↔ z ∈ m) → l = m
  | [], [], _, _, _ => rfl
  | [], y :: m, _, _, h => by have := (h y).mpr (List.mem_cons_self ..); cases this
  | x :: l, [], _, _, h => by have := (h x).mp (List.mem_cons_self ..); cases this
  | x :: l, y :: m, hl, hm, h => by
    obtain ⟨l1, l2⟩ := List.pairwise_cons.mp hl
    obtain ⟨m1, m2⟩ := List.pairwise_cons.mp hm
    have e : x = y := by
      rcases List.mem_cons.mp ((h x).mp (List.mem_cons_self ..)) with q | q
      · exact q
      · rcases List.mem_cons.mp ((h y).mpr (List.mem_cons_self ..)) with r | r
        · exact r.symm
        · exact absurd (m1 x q) (lq_as (l1 y r))
    subst e
    refine congrArg (x :: ·) (srt_uniq l2 m2 fun z => ?_)
    constructor
    · intro q
      rcases List.mem_cons.mp ((h z).mp (List.mem_cons_of_mem _ q)) with r | r
      · subst r; exact absurd (l1 z q) lq_ir
      · exact r
    · intro q
      rcases List.mem_cons.mp ((h z).mpr (List.mem_cons_of_mem _ q)) with r | r
      · subst r; exact absurd (m1 z q) lq_ir
      · exact r
theorem max_ex (A C : Q2) : ∃ m, MaxOf A C m := by
  rcases lq_tri A C with h | h | h
  · exact ⟨C, .inr rfl, lq_as h, lq_ir⟩
  · subst h; exact ⟨A, .inl rfl, lq_ir, lq_ir⟩
  · exact ⟨A, .inl rfl, lq_ir, lq_as h⟩
theorem min_ex (B D : Q2) : ∃ m, MinOf B D m := by
  rcases lq_tri B D with h | h | h
  · exact ⟨B, .inl rfl, lq_ir, lq_as h⟩
  · subst h; exact ⟨B, .inl rfl, lq_ir, lq_ir⟩
  · exact ⟨D, .inr rfl, lq_as h, lq_ir⟩
def EndOf (A B C D z : Q2) : Prop := z = A ∨ z = B ∨ z = C ∨ z = D
theorem col_asc (l1 : lq A B) (l2 : lq C D) (hC : ori A B C = 0) (hD : ori A B D = 0) : ∃ L, Tells (Com A B C D) L ∧ L.Pairwise lq ∧ ∀ z, z ∈ L ↔ EndOf A B C D z ∧ Com A B C D z := by
  obtain ⟨lo, m1⟩ := max_ex A C
  obtain ⟨hi, m2⟩ := min_ex B D
  have k := fun z => com_col (z := z) l1 l2 hC hD m1 m2
  have elo : EndOf A B C D lo := by rcases m1.1 with e | e <;> unfold EndOf <;> simp [e]
  have ehi : EndOf A B C D hi := by rcases m2.1 with e | e <;> unfold EndOf <;> simp [e]
  have is : ∀ z, EndOf A B C D z → Com A B C D z → z = lo ∨ z = hi := fun z e c => by
    obtain ⟨_, a, b⟩ := (k z).mp c
    rcases e with e | e | e | e
    · left; rw [e] at a ⊢; exact lq_ge m1.2.1 a
    · right; rw [e] at b ⊢; exact lq_ge b m2.2.1
    · left; rw [e] at a ⊢; exact lq_ge m1.2.2 a
    · right; rw [e] at b ⊢; exact lq_ge b m2.2.2
  rcases lq_tri lo hi with l | l | l
  · have t := tells_col l1 l2 hC hD m1 m2 (.inr (.inl ⟨l, rfl⟩))
    refine ⟨_, t, by simpa using l, fun z => ?_⟩
    have olo : Com A B C D lo := (k lo).mpr ⟨by rcases m1.1 with e | e
                                                · rw [e]; exact ori_l
                                                · rw [e]; exact hC, lq_ir, lq_as l⟩
    have ohi : Com A B C D hi := (k hi).mpr ⟨by rcases m2.1 with e | e
                                                · rw [e]; exact ori_r
                                                · rw [e]; exact hD, lq_as l, lq_ir⟩
    constructor
    · intro h
      simp only [List.mem_cons, List.not_mem_nil, or_false] at h
      rcases h with rfl | rfl
      · exact ⟨elo, olo⟩
      · exact ⟨ehi, ohi⟩
    · rintro ⟨e, c⟩
      simpa using is z e c
  · have t := tells_col (L := [lo]) l1 l2 hC hD m1 m2 (.inl ⟨l, rfl⟩)
    refine ⟨[lo], t, List.pairwise_singleton _ _, fun z => ?_⟩
    cases t with
    | one _ h =>
      constructor
      · intro q
        have := List.mem_singleton.mp q
        subst this
        exact ⟨elo, (h _).mpr rfl⟩
      · rintro ⟨_, c⟩
        exact List.mem_singleton.mpr ((h z).mp c)
  · have t := tells_col (L := []) l1 l2 hC hD m1 m2 (.inr (.inr ⟨l, rfl⟩))
    refine ⟨[], t, List.Pairwise.nil, fun z => ?_⟩
    cases t with
    | none h => exact ⟨fun q => (nomatch q), fun q => absurd q.2 (h z)⟩
theorem col_list (n1 : A ≠ B) (n2 : C ≠ D) (hC : ori A B C = 0) (hD : ori A B D = 0) : ∃ L, Tells (Com A B C D) L ∧ L.Pairwise lq ∧ ∀ z, z ∈ L ↔ EndOf A B C D z ∧ Com A B C D z := by
  have step : ∀ {A B C D : Q2}, lq A B → C ≠ D → ori A B C = 0 → ori A B D = 0 → ∃ L, Tells (Com A B C D) L ∧ L.Pairwise lq ∧ ∀ z, z ∈ L ↔ EndOf A B C D z ∧ Com A B C D z := fun {A B C D} l n hC hD => by
    rcases lq_tri C D with q | q | q
    · exact col_asc l q hC hD
    · exact absurd q n
    · obtain ⟨L, t, s, m⟩ := col_asc l q hD hC
      have e : ∀ z, Com A B C D z ↔ Com A B D C z := fun z => and_congr Iff.rfl on_comm
      refine ⟨L, t.congr e, s, fun z => (m z).trans ?_⟩
      rw [e z]
      unfold EndOf
      constructor <;> (rintro ⟨a, b⟩; exact ⟨by grind, b⟩)
  rcases lq_tri A B with q | q | q
  · exact step q n2 hC hD
  · exact absurd q n1
  · obtain ⟨L, t, s, m⟩ := step (A := B) (B := A) q n2 (by rw [ori_flip, hC]; grind) (by rw [ori_flip, hD]; grind)
    have e : ∀ z, Com A B C D z ↔ Com B A C D z := fun z => and_congr on_comm Iff.rfl
    refine ⟨L, t.congr e, s, fun z => (m z).trans ?_⟩
    rw [e z]
    unfold EndOf
    constructor <;> (rintro ⟨a, b⟩; exact ⟨by grind, b⟩)
theorem unit {x y : Rat} (h : x * y ≤ 0) (n : x - y ≠ 0) : 0 ≤ x / (x - y) ∧ x / (x - y) ≤ 1 := by
  have e : x / (x - y) * (x - y) = x := by grind
  have e2 : (1 - x / (x - y)) * (x - y) = - y := by grind
  generalize x / (x - y) = u at *
  have key : ∀ {x y u : Rat}, x * y ≤ 0 → 0 < x - y → u * (x - y) = x → (1 - u) * (x - y) = - y → 0 ≤ u ∧ u ≤ 1 := fun {x y u} h p e e2 => by
    have hx : 0 ≤ x := by
      refine Classical.byContradiction fun q => ?_
      have := Rat.mul_pos (a := -x) (b := -y) (by grind) (by grind)
      grind
    have hy : y ≤ 0 := by
      refine Classical.byContradiction fun q => ?_
      have := Rat.mul_pos (a := x) (b := y) (by grind) (by grind)
      grind
    have a1 := mulp (s := u) p
    have a2 := mulp (s := 1 - u) p
    constructor
    · exact Classical.byContradiction fun q => by have := a1.mpr (by grind); grind
    · exact Classical.byContradiction fun q => by have := a2.mpr (by grind); grind
  by_cases p : 0 < x - y
  · exact key h p e e2
  · exact key (x := -x) (y := -y) (u := u) (by grind) (by grind) (by grind) (by grind)
/-- on unlike sides both ways round: the meeting is on both -/
theorem met_on (n1 : A ≠ B) (n2 : C ≠ D) (w : cr (sb B A) (sb D C) ≠ 0) (h1 : ori C D A * ori C D B ≤ 0) (h2 : ori A B C * ori A B D ≤ 0) : Com A B C D (at_ A B (cr (sb C A) (sb D C) / cr (sb B A) (sb D C))) := by
  have e1 : ori C D A - ori C D B = cr (sb B A) (sb D C) := by unfold ori cr sb; grind
  have e2 : ori C D A = cr (sb C A) (sb D C) := by unfold ori cr sb; grind
  have e3 : ori A B C - ori A B D = - cr (sb B A) (sb D C) := by unfold ori cr sb; grind
  have u1 := unit h1 (by rw [e1]; exact w)
  have u2 := unit h2 (by rw [e3]; grind)
  rw [e1, e2] at u1
  have o : ori C D (at_ A B (cr (sb C A) (sb D C) / cr (sb B A) (sb D C))) = 0 := by
    rw [ori_along]
    have : cr (sb D C) (sb B A) = - cr (sb B A) (sb D C) := by unfold cr; grind
    rw [this, e2]
    grind
  refine ⟨(on_at n1).mpr u1, ?_⟩
  obtain ⟨v, hv⟩ := line_at n2 o
  rw [hv]
  refine (on_at n2).mpr ?_
  have q : ori A B (at_ C D v) = 0 := by rw [← hv]; exact ori_at
  rw [ori_along] at q
  have : v = ori A B C / (ori A B C - ori A B D) := by rw [e3]; grind
  rw [this]
  exact u2
/-- on one side: nothing in common -/
theorem side_no (n1 : A ≠ B) (h : 0 < ori C D A * ori C D B) : ∀ z, ¬ Com A B C D z := fun z ⟨p, q⟩ => by
  obtain ⟨t, t0, t1, rfl⟩ := (on_iff n1).mp p
  have o := q.1
  have e : ori C D (at_ A B t) = (1 - t) * ori C D A + t * ori C D B := by unfold ori at_; grind
  rw [e] at o
  generalize ori C D A = x at *
  generalize ori C D B = y at *
  have key : ∀ {x y : Rat}, 0 < x → 0 < x * y → (1 - t) * x + t * y = 0 → False := fun {x y} hx h o => by
    have hy : 0 < y := by
      have := mulp' (s := y) hx
      exact this.mp (by grind)
    have a1 := Rat.mul_nonneg (a := 1 - t) (b := x) (by grind) (by grind)
    have a2 := Rat.mul_nonneg (a := t) (b := y) t0 (by grind)
    have a3 : t * y = 0 := by grind
    have a4 := (mulp0 (s := t) hy).mp a3
    rw [a4] at o
    grind
  by_cases hx : 0 < x
  · exact key hx h o
  · have : x ≠ 0 := fun q => by rw [q] at h; grind
    exact key (x := -x) (y := -y) (by grind) (by grind) (by grind)
end Geo

set_option maxHeartbeats 1000000
namespace K05
open PySem PySem.Spec PyProof.Rows L2 Dn Geo
variable {n k : Nat} {S : Sto} {p q r s : Plc}
/-! the law's meetings tell what is in common -/
theorem wq {p : Plc} (h : Pe p) : 0 < p.2.2 := h.p.pos
theorem mul_sign {a b : Int} {x y u v : Rat} (ha : (a : Rat) = u * x) (hb : (b : Rat) = v * y) (hu : 0 < u) (hv : 0 < v) : 0 < a * b ↔ 0 < x * y := by
  have := Rat.intCast_lt_intCast (a := 0) (b := a * b)
  rw [← this, Rat.intCast_mul, ha, hb]
  have m := mulp' (s := x * y) (Rat.mul_pos hu hv)
  have e : x * y * (u * v) = u * x * (v * y) := by grind
  rw [e] at m
  exact m
theorem side_w {p q r : Plc} (h : Pe p) (g : Pe q) (f : Pe r) : ∃ u : Rat, 0 < u ∧ u = (p.2.2 : Rat) * q.2.2 * r.2.2 ∧ (sideV p q r : Rat) = u * ori (hq p) (hq q) (hq r) :=
  ⟨_, Rat.mul_pos (Rat.mul_pos (cpos (wq h)) (cpos (wq g))) (cpos (wq f)), rfl, side_ori (wq h) (wq g) (wq f)⟩
theorem pr_pos (hp : Pe p) (hq' : Pe q) (hr : Pe r) (hs : Pe s) : (0 < sideV r s p * sideV r s q ↔ 0 < ori (hq r) (hq s) (hq p) * ori (hq r) (hq s) (hq q)) := by
  obtain ⟨u, u0, _, e1⟩ := side_w hr hs hp
  obtain ⟨v, v0, _, e2⟩ := side_w hr hs hq'
  exact mul_sign e1 e2 u0 v0
/-- where neither all is one line nor a side is clear, the directions are unlike -/
theorem met_nz (n1 : hq p ≠ hq q) (n2 : hq r ≠ hq s) (h0 : ¬ (ori (hq p) (hq q) (hq r) = 0 ∧ ori (hq p) (hq q) (hq s) = 0)) (h1 : ¬ 0 < ori (hq r) (hq s) (hq p) * ori (hq r) (hq s) (hq q)) :
    cr (sb (hq q) (hq p)) (sb (hq s) (hq r)) ≠ 0 := fun w => by
  have e1 : ori (hq r) (hq s) (hq p) - ori (hq r) (hq s) (hq q) = cr (sb (hq q) (hq p)) (sb (hq s) (hq r)) := by unfold ori cr sb; grind
  have e : ori (hq r) (hq s) (hq p) = ori (hq r) (hq s) (hq q) := by grind
  have z : ori (hq r) (hq s) (hq q) = 0 := by
    refine Classical.byContradiction fun c => ?_
    rw [e] at h1
    generalize ori (hq r) (hq s) (hq q) = x at *
    have : 0 < x * x := by
      by_cases hx : 0 < x
      · exact Rat.mul_pos hx hx
      · have := Rat.mul_pos (a := -x) (b := -x) (by grind) (by grind)
        grind
    exact h1 this
  have z2 : ori (hq r) (hq s) (hq p) = 0 := e.trans z
  have k1 := line_same (z := hq r) n2 z2 z n1
  have k2 := line_same (z := hq s) n2 z2 z n1
  exact h0 ⟨k1.mpr ori_l, k2.mpr ori_r⟩
theorem frac_id {G x y a b : Rat} (g : G ≠ 0) (n : x - y ≠ 0) : G * (x * b - y * a) / (G * (x - y)) = a + x / (x - y) * (b - a) := by
  have h : G * (x - y) ≠ 0 := fun z => n (by grind)
  have e1 : G * (x * b - y * a) / (G * (x - y)) * (G * (x - y)) = G * (x * b - y * a) := by
    generalize G * (x - y) = d at *
    grind
  have e2 : x / (x - y) * (x - y) = x := by grind
  generalize G * (x * b - y * a) / (G * (x - y)) = L at *
  generalize x / (x - y) = t at *
  have e3 : L * (x - y) = x * b - y * a := by
    have : G * (L * (x - y) - (x * b - y * a)) = 0 := by grind
    grind
  have e4 : (L - (a + t * (b - a))) * (x - y) = 0 := by grind
  grind
theorem meet_w (hp : Pe p) (hq' : Pe q) (hr : Pe r) (hs : Pe s) (w : cr (sb (hq q) (hq p)) (sb (hq s) (hq r)) ≠ 0) :
    sideV r s p * q.2.2 - sideV r s q * p.2.2 ≠ 0 ∧ hq (red3S (sideV r s p * q.1 - sideV r s q * p.1) (sideV r s p * q.2.1 - sideV r s q * p.2.1) (sideV r s p * q.2.2 - sideV r s q * p.2.2)) =
      at_ (hq p) (hq q) (cr (sb (hq r) (hq p)) (sb (hq s) (hq r)) / cr (sb (hq q) (hq p)) (sb (hq s) (hq r))) := by
  have e1 : ori (hq r) (hq s) (hq p) - ori (hq r) (hq s) (hq q) = cr (sb (hq q) (hq p)) (sb (hq s) (hq r)) := by unfold ori cr sb; grind
  have e2 : ori (hq r) (hq s) (hq p) = cr (sb (hq r) (hq p)) (sb (hq s) (hq r)) := by unfold ori cr sb; grind
  obtain ⟨u, u0, ue, a1⟩ := side_w hr hs hp
  obtain ⟨v, v0, ve, a2⟩ := side_w hr hs hq'
  have cp := cpos (wq hp)
  have cq := cpos (wq hq')
  have ce := cpos (wq hr)
  have cs := cpos (wq hs)
  have px : (p.1 : Rat) = (hq p).1 * p.2.2 := by unfold hq; grind
  have py : (p.2.1 : Rat) = (hq p).2 * p.2.2 := by unfold hq; grind
  have qx : (q.1 : Rat) = (hq q).1 * q.2.2 := by unfold hq; grind
  have qy : (q.2.1 : Rat) = (hq q).2 * q.2.2 := by unfold hq; grind
  have W : ((sideV r s p * q.2.2 - sideV r s q * p.2.2 : Int) : Rat) = ((r.2.2 : Rat) * s.2.2 * p.2.2 * q.2.2) * cr (sb (hq q) (hq p)) (sb (hq s) (hq r)) := by
    rw [Rat.intCast_sub, Rat.intCast_mul, Rat.intCast_mul, a1, a2, ue, ve, ← e1]
    grind
  have X : ((sideV r s p * q.1 - sideV r s q * p.1 : Int) : Rat) = ((r.2.2 : Rat) * s.2.2 * p.2.2 * q.2.2) * (ori (hq r) (hq s) (hq p) * (hq q).1 - ori (hq r) (hq s) (hq q) * (hq p).1) := by
    rw [Rat.intCast_sub, Rat.intCast_mul, Rat.intCast_mul, a1, a2, ue, ve, px, qx]
    grind
  have Y : ((sideV r s p * q.2.1 - sideV r s q * p.2.1 : Int) : Rat) = ((r.2.2 : Rat) * s.2.2 * p.2.2 * q.2.2) * (ori (hq r) (hq s) (hq p) * (hq q).2 - ori (hq r) (hq s) (hq q) * (hq p).2) := by
    rw [Rat.intCast_sub, Rat.intCast_mul, Rat.intCast_mul, a1, a2, ue, ve, py, qy]
    grind
  have g0 : 0 < (r.2.2 : Rat) * s.2.2 * p.2.2 * q.2.2 := Rat.mul_pos (Rat.mul_pos (Rat.mul_pos ce cs) cp) cq
  generalize (r.2.2 : Rat) * s.2.2 * p.2.2 * q.2.2 = G at *
  have nz : sideV r s p * q.2.2 - sideV r s q * p.2.2 ≠ 0 := fun z => by
    rw [z] at W
    have : ((0 : Int) : Rat) = 0 := rfl
    have : G ≠ 0 := by grind
    grind
  refine ⟨nz, ?_⟩
  rw [hq_red3S nz, W, X, Y, q2_ext]
  unfold at_
  have w' := w
  rw [← e1] at w'
  rw [← e2, ← e1]
  generalize ori (hq r) (hq s) (hq p) = x at *
  generalize ori (hq r) (hq s) (hq q) = y at *
  have : G ≠ 0 := by grind
  exact ⟨frac_id this w', frac_id this w'⟩
end K05

set_option maxHeartbeats 1000000
namespace K05
open PySem PySem.Spec PyProof.Rows L2 Dn Geo
variable {n k : Nat} {S : Sto} {p q r s : Plc}
abbrev endsV (p q r s : Plc) : List Plc := [p, q].filter (liesV r s) ++ [r, s].filter (liesV p q)
theorem ends_mem {z : Plc} : z ∈ endsV p q r s ↔ ((z = p ∨ z = q) ∧ liesV r s z = true) ∨ ((z = r ∨ z = s) ∧ liesV p q z = true) := by
  simp [endsV, List.mem_filter]
theorem ends_pe {z : Plc} (hp : Pe p) (hq' : Pe q) (hr : Pe r) (hs : Pe s) (h : z ∈ endsV p q r s) : Pe z := by
  rcases ends_mem.mp h with ⟨h | h, _⟩ | ⟨h | h, _⟩ <;> rw [h] <;> assumption
theorem onE {A B : Q2} (ne : A ≠ B) : On A B A ∧ On A B B := by
  have a := (on_at ne (t := 0)).mpr (by grind)
  have b := (on_at ne (t := 1)).mpr (by grind)
  rw [at_0] at a
  rw [at_1] at b
  exact ⟨a, b⟩
theorem met_sides (hp : Pe p) (hq' : Pe q) (hr : Pe r) (hs : Pe s) : (sideV p q r = 0 ∧ sideV p q s = 0 ↔ ori (hq p) (hq q) (hq r) = 0 ∧ ori (hq p) (hq q) (hq s) = 0) :=
  and_congr (side_zero (wq hp) (wq hq') (wq hr)) (side_zero (wq hp) (wq hq') (wq hs))
theorem met_cross (hp : Pe p) (hq' : Pe q) (hr : Pe r) (hs : Pe s) (n1 : hq p ≠ hq q) (n2 : hq r ≠ hq s) (h0 : ¬ (sideV p q r = 0 ∧ sideV p q s = 0)) (h1 : ¬ (0 < sideV r s p * sideV r s q ∨ 0 < sideV p q r * sideV p q s)) :
    cr (sb (hq q) (hq p)) (sb (hq s) (hq r)) ≠ 0 :=
  met_nz n1 n2 (fun z => h0 ((met_sides hp hq' hr hs).mpr z)) fun z => h1 (.inl ((pr_pos hp hq' hr hs).mpr z))
theorem meet_pl (hp : Pe p) (hq' : Pe q) (hr : Pe r) (hs : Pe s) (n1 : hq p ≠ hq q) (n2 : hq r ≠ hq s) : ∀ z ∈ meetV p q r s, Pl 246 224 z := fun z hz => by
  unfold meetV at hz
  by_cases c : sideV p q r = 0 ∧ sideV p q s = 0
  · rw [if_pos c] at hz
    have := mem_dd.mp hz
    have := (List.mergeSort_perm _ leQ).mem_iff.mp this
    exact (ends_pe hp hq' hr hs this).mono (by omega) (by omega)
  · rw [if_neg c] at hz
    by_cases c2 : 0 < sideV r s p * sideV r s q ∨ 0 < sideV p q r * sideV p q s
    · rw [if_pos c2] at hz; cases hz
    · rw [if_neg c2] at hz
      rw [List.mem_singleton.mp hz]
      have a := side_lt hr hs hp
      have b := side_lt hr hs hq'
      exact red3S_pl (meet_w hp hq' hr hs (met_cross hp hq' hr hs n1 n2 c c2)).1 ((((a.mul hq'.la).sub (b.mul hp.la))).mono (by omega)) ((((a.mul hq'.lb).sub (b.mul hp.lb))).mono (by omega)) ((((a.mul hq'.lc).sub (b.mul hp.lc))).mono (by omega))
theorem meet_tells (hp : Pe p) (hq' : Pe q) (hr : Pe r) (hs : Pe s) (n1 : hq p ≠ hq q) (n2 : hq r ≠ hq s) : Tells (Com (hq p) (hq q) (hq r) (hq s)) ((meetV p q r s).map hq) := by
  unfold meetV
  by_cases c : sideV p q r = 0 ∧ sideV p q s = 0
  · rw [if_pos c]
    obtain ⟨c1, c2⟩ := (met_sides hp hq' hr hs).mp c
    obtain ⟨L, t, sr, m⟩ := col_list n1 n2 c1 c2
    have R := rising_of (ps := endsV p q r s) fun z h => (ends_pe hp hq' hr hs h).p
    have e : (dd ((endsV p q r s).mergeSort leQ)).map hq = L := by
      refine srt_uniq (List.pairwise_map.mpr R.srt) sr fun z => ?_
      rw [m z, List.mem_map]
      have l1 := fun {g : Plc} (hg : Pe g) => lies_on (r := g) (wq hr) (wq hs) (wq hg) n2
      have l2 := fun {g : Plc} (hg : Pe g) => lies_on (r := g) (wq hp) (wq hq') (wq hg) n1
      obtain ⟨o1, o2⟩ := onE n1
      obtain ⟨o3, o4⟩ := onE n2
      constructor
      · rintro ⟨g, hg, rfl⟩
        have hg' := (R.mem g).mp hg
        rcases ends_mem.mp hg' with ⟨h | h, i⟩ | ⟨h | h, i⟩
        · subst h; exact ⟨.inl rfl, o1, (l1 hp).mp i⟩
        · subst h; exact ⟨.inr (.inl rfl), o2, (l1 hq').mp i⟩
        · subst h; exact ⟨.inr (.inr (.inl rfl)), (l2 hr).mp i, o3⟩
        · subst h; exact ⟨.inr (.inr (.inr rfl)), (l2 hs).mp i, o4⟩
      · rintro ⟨h | h | h | h, i⟩
        · exact ⟨p, (R.mem p).mpr (ends_mem.mpr (.inl ⟨.inl rfl, (l1 hp).mpr (h ▸ i.2)⟩)), h.symm⟩
        · exact ⟨q, (R.mem q).mpr (ends_mem.mpr (.inl ⟨.inr rfl, (l1 hq').mpr (h ▸ i.2)⟩)), h.symm⟩
        · exact ⟨r, (R.mem r).mpr (ends_mem.mpr (.inr ⟨.inl rfl, (l2 hr).mpr (h ▸ i.1)⟩)), h.symm⟩
        · exact ⟨s, (R.mem s).mpr (ends_mem.mpr (.inr ⟨.inr rfl, (l2 hs).mpr (h ▸ i.1)⟩)), h.symm⟩
    show Tells _ ((dd ((endsV p q r s).mergeSort leQ)).map hq)
    rw [e]
    exact t
  · rw [if_neg c]
    by_cases c2 : 0 < sideV r s p * sideV r s q ∨ 0 < sideV p q r * sideV p q s
    · rw [if_pos c2]
      rcases c2 with c2 | c2
      · exact .none (side_no n1 ((pr_pos hp hq' hr hs).mp c2))
      · have := side_no (C := hq p) (D := hq q) n2 ((pr_pos hr hs hp hq').mp c2)
        exact .none fun z ⟨a, b⟩ => this z ⟨b, a⟩
    · rw [if_neg c2]
      have w := met_cross hp hq' hr hs n1 n2 c c2
      obtain ⟨_, e⟩ := meet_w hp hq' hr hs w
      have s1 := mt (pr_pos hp hq' hr hs).mpr fun z => c2 (.inl z)
      have s2 := mt (pr_pos hr hs hp hq').mpr fun z => c2 (.inr z)
      refine tells_cross n1 w e (.inl ⟨?_, rfl⟩)
      rw [e]
      exact met_on n1 n2 w (by grind) (by grind)
theorem meet_eq (hp : Pe p) (hq' : Pe q) (hr : Pe r) (hs : Pe s) (n1 : hq p ≠ hq q) (n2 : hq r ≠ hq s) : callN tb PT (n + 4) "_law_meet" [.tup [lD p, lD q], .tup [lD r, lD s]] S = some (.lst ((meetV p q r s).map lD), S) := by
  have op := hp.ok (by omega) (by omega)
  have oq := hq'.ok (by omega) (by omega)
  have oR := hr.ok (by omega) (by omega)
  have os := hs.ok (by omega) (by omega)
  have a1 := side_eq (n := n + 2) (S := S) oR os op
  have a2 := side_eq (n := n + 2) (S := S) oR os oq
  have a3 := side_eq (n := n + 2) (S := S) op oq oR
  have a4 := side_eq (n := n + 2) (S := S) op oq os
  have b1 := side_lt hr hs hp
  have b2 := side_lt hr hs hq'
  have b3 := side_lt hp hq' hr
  have b4 := side_lt hp hq' hs
  have sd : startD c_law_meet.N.length [D.tup [lD p, lD q], D.tup [lD r, lD s]] = [some (.tup [lD p, lD q]), some (.tup [lD r, lD s]), none, none, none, none, none, none, none, none, none, none] := rfl
  have bE : exSs (geN tb PT (n + 3)) c_law_meet.body [some (.tup [lD p, lD q]), some (.tup [lD r, lD s]), none, none, none, none, none, none, none, none, none, none] S = some (.rt (.lst ((meetV p q r s).map lD)), S) := by
    simp only [c_law_meet]
    refine ex_st (δ1 := [some (.tup [lD p, lD q]), some (.tup [lD r, lD s]), none, none, none, none, none, none, some (lD p), some (lD q), some (lD r), some (lD s)]) (S1 := S) (by simp) ?_
    refine ex_st (δ1 := [some (.tup [lD p, lD q]), some (.tup [lD r, lD s]), none, some (.int (sideV r s p)), some (.int (sideV r s q)), some (.int (sideV p q r)), some (.int (sideV p q s)), none, some (lD p), some (lD q), some (lD r), some (lD s)]) (S1 := S) (by simp [a1, a2, a3, a4]) ?_
    unfold meetV
    by_cases c : sideV p q r = 0 ∧ sideV p q s = 0
    · rw [if_pos c]
      refine ex_rt' ?_
      have t : evT (geN tb PT (n + 3)) (.and (.cmp .Eq (.var 5) (.int 0)) (.cmp .Eq (.var 6) (.int 0))) [some (.tup [lD p, lD q]), some (.tup [lD r, lD s]), none, some (.int (sideV r s p)), some (.int (sideV r s q)), some (.int (sideV p q r)), some (.int (sideV p q s)), none, some (lD p), some (lD q), some (lD r), some (lD s)] S = some (true, S) := by
        simp [c.1, c.2, cmpD, dr, eqD, flatD, scal, vD]
      have i1 := ends_lc (n := n + 1) (S := S) (d := .tup [lD p, lD q]) (r := r) (s := s) (ys := [p, q]) (δ := [some (.tup [lD p, lD q]), some (.tup [lD r, lD s]), none, some (.int (sideV r s p)), some (.int (sideV r s q)), some (.int (sideV p q r)), some (.int (sideV p q s)), none, some (lD p), some (lD q), some (lD r), some (lD s)]) (i := 0) (a := .var 10) (b := .var 11) rfl rfl
        (fun y hy => by simp at hy; rcases hy with rfl | rfl <;> assumption) hr hs (by simp) rfl (fun _ _ => by simp) (fun _ _ => by simp) (by simp)
      have i2 := ends_lc (n := n + 1) (S := S) (d := .tup [lD r, lD s]) (r := p) (s := q) (ys := [r, s]) (δ := [some (.tup [lD p, lD q]), some (.tup [lD r, lD s]), none, some (.int (sideV r s p)), some (.int (sideV r s q)), some (.int (sideV p q r)), some (.int (sideV p q s)), some (.lst (([p, q].filter (liesV r s)).map lD)), some (lD p), some (lD q), some (lD r), some (lD s)]) (i := 1) (a := .var 8) (b := .var 9) rfl rfl
        (fun y hy => by simp at hy; rcases hy with rfl | rfl <;> assumption) hp hq' (by simp) rfl (fun _ _ => by simp) (fun _ _ => by simp) (by simp)
      have l1 := List.length_filter_le (liesV r s) [p, q]
      have l2 := List.length_filter_le (liesV p q) [r, s]
      simp only [List.length_cons, List.length_nil] at l1 l2
      have ad : binD .Add (.lst (([p, q].filter (liesV r s)).map lD)) (.lst (([r, s].filter (liesV p q)).map lD)) = some (.lst ((endsV p q r s).map lD)) := by
        simp only [binD, List.length_map]
        rw [if_pos (by omega), List.map_append]
      have le : (endsV p q r s).length ≤ 4 := by
        rw [List.length_append]
        omega
      have ri := rising (n := n) (S := S) (d := .lst ((endsV p q r s).map lD)) (ps := endsV p q r s) (a := 66) (b := 44) (fun _ => rfl) rfl (fun z hz => by
        have := ends_pe hp hq' hr hs hz
        exact ⟨this.p, this.la, this.lb, this.lc⟩) (by omega) (by omega) (by omega) (by omega)
      rw [x_if, t, bnd_some]
      dsimp only
      rw [if_pos rfl, x_cons, x_asg, i1, bnd_some]
      simp only [qg_name, mpd_some, bnd_some, List.set_cons_succ, List.set_cons_zero]
      rw [x_cons, x_ret, q_call, q_cons, q_bin, q_var]
      simp only [vr, mpd_some, bnd_some, i2, dr]
      rw [ad]
      simp only [mpd_some, bnd_some, q_nil]
      rw [ri]
      rfl
    · rw [if_neg c]
      have t : evT (geN tb PT (n + 3)) (.and (.cmp .Eq (.var 5) (.int 0)) (.cmp .Eq (.var 6) (.int 0))) [some (.tup [lD p, lD q]), some (.tup [lD r, lD s]), none, some (.int (sideV r s p)), some (.int (sideV r s q)), some (.int (sideV p q r)), some (.int (sideV p q s)), none, some (lD p), some (lD q), some (lD r), some (lD s)] S = some (false, S) := by
        by_cases c1 : sideV p q r = 0
        · have c2 : ¬ sideV p q s = 0 := fun z => c ⟨c1, z⟩
          simp [c1, c2, cmpD, dr, eqD, flatD, scal, vD]
        · simp [c1, cmpD, dr, eqD, flatD, scal, vD]
      refine ex_st (δ1 := [some (.tup [lD p, lD q]), some (.tup [lD r, lD s]), none, some (.int (sideV r s p)), some (.int (sideV r s q)), some (.int (sideV p q r)), some (.int (sideV p q s)), none, some (lD p), some (lD q), some (lD r), some (lD s)]) (S1 := S) (by rw [x_if, t, bnd_some]; simp) ?_
      have m1 : mulOk (sideV r s p) (sideV r s q) = true := b1.ok b2 (by omega) (by omega)
      have m2 : mulOk (sideV p q r) (sideV p q s) = true := b3.ok b4 (by omega) (by omega)
      by_cases c2 : 0 < sideV r s p * sideV r s q ∨ 0 < sideV p q r * sideV p q s
      · rw [if_pos c2]
        refine ex_rt' ?_
        by_cases c3 : 0 < sideV r s p * sideV r s q
        · simp [binD, dr, m1, m2, cmpD, c3]
        · have c4 : 0 < sideV p q r * sideV p q s := c2.resolve_left c3
          simp [binD, dr, m1, m2, cmpD, c3, c4]
      · rw [if_neg c2]
        have c3 : ¬ 0 < sideV r s p * sideV r s q := fun z => c2 (.inl z)
        have c4 : ¬ 0 < sideV p q r * sideV p q s := fun z => c2 (.inr z)
        have w := (meet_w hp hq' hr hs (met_cross hp hq' hr hs n1 n2 c c2)).1
        have pl := placeS (n := n + 1) (S := S) (x := sideV r s p * q.1 - sideV r s q * p.1) (y := sideV r s p * q.2.1 - sideV r s q * p.2.1) w ((((b1.mul hq'.lc).sub (b2.mul hp.lc))).mono (by omega))
        have e1 : mulOk (sideV r s p) q.1 = true := b1.ok hq'.la (by omega) (by omega)
        have e2 : mulOk (sideV r s q) p.1 = true := b2.ok hp.la (by omega) (by omega)
        have e3 : mulOk (sideV r s p) q.2.1 = true := b1.ok hq'.lb (by omega) (by omega)
        have e4 : mulOk (sideV r s q) p.2.1 = true := b2.ok hp.lb (by omega) (by omega)
        have e5 : mulOk (sideV r s p) q.2.2 = true := b1.ok hq'.lc (by omega) (by omega)
        have e6 : mulOk (sideV r s q) p.2.2 = true := b2.ok hp.lc (by omega) (by omega)
        have xp : ∀ (g : Plc) (S : Sto), ixD S (lD g) (.int 0) = some (.int g.1) ∧ ixD S (lD g) (.int 1) = some (.int g.2.1) ∧ ixD S (lD g) (.int 2) = some (.int g.2.2) := fun g S => ⟨rfl, rfl, rfl⟩
        refine ex_st (δ1 := [some (.tup [lD p, lD q]), some (.tup [lD r, lD s]), none, some (.int (sideV r s p)), some (.int (sideV r s q)), some (.int (sideV p q r)), some (.int (sideV p q s)), none, some (lD p), some (lD q), some (lD r), some (lD s)]) (S1 := S) (by simp [binD, dr, m1, m2, cmpD, c3, c4]) ?_
        refine ex_rt ?_
        simp [xp, binD, dr, e1, e2, e3, e4, e5, e6, pl]
  rw [q_of l_meet rfl, sd, bE, bnd_some]
  exact gc_same (Nat.le_refl _)
end K05

set_option maxHeartbeats 1000000
namespace K05
open PySem PySem.Spec PyProof.Rows L2 Dn Geo
variable {n k j : Nat} {S : Sto} {P Q R T : Pnt}
/-! the two tell the same -/
theorem pe_own (h : En2 P) : Pe (ownP P) :=
  red3_pl (Int.mul_pos h.1.pos h.2.pos) (h.1.l1.mul h.2.l2) ((h.2.l1.mul h.1.l2).mono (by omega)) ((h.1.l2.mul h.2.l2).mono (by omega))
theorem en_pt (h : En2 P) : Pt 44 P := h.pt (by omega) (by omega)
theorem hq_own' (h : En2 P) : hq (ownP P) = xq P := hq_own (en_pt h)
theorem own_ne (h : En2 P) (g : En2 Q) (ne : P ≠ Q) : hq (ownP P) ≠ hq (ownP Q) := by
  rw [hq_own' h, hq_own' g]
  exact xq_ne (en_pt h) (en_pt g) ne
theorem told_p2 {a b : Nat} {z : Plc} (h : Pl a b z) : P2 a b (toldP z) := ⟨red_f2 h.p.pos h.la h.lc, red_f2 h.p.pos h.lb h.lc⟩
theorem xq_told {z : Plc} (h : 0 < z.2.2) : xq (toldP z) = hq z := by
  unfold xq toldP hq
  rw [vq_red h, vq_red h]
theorem told_own (h : Pt k P) : toldP (ownP P) = P := by
  have w := own_pos h
  have e : xq (toldP (ownP P)) = xq P := (xq_told w).trans (hq_own h)
  obtain ⟨m, hm⟩ := told_pt' w
  exact xq_inj hm h e
theorem map_xq : ∀ {l m : List Pnt}, (∀ Z ∈ l, ∃ k, Pt k Z) → (∀ Z ∈ m, ∃ k, Pt k Z) → l.map xq = m.map xq → l = m
  | [], [], _, _, _ => rfl
  | [], _ :: _, _, _, e => by cases e
  | _ :: _, [], _, _, e => by cases e
  | a :: l, b :: m, h, g, e => by
    simp only [List.map_cons, List.cons.injEq] at e
    obtain ⟨_, ha⟩ := h a (List.mem_cons_self ..)
    obtain ⟨_, hb⟩ := g b (List.mem_cons_self ..)
    rw [xq_inj ha hb e.1, map_xq (fun Z q => h Z (List.mem_cons_of_mem _ q)) (fun Z q => g Z (List.mem_cons_of_mem _ q)) e.2]
/-- two segments with ends apart -/
structure Seg (P Q : Pnt) : Prop where
  a : En2 P
  b : En2 Q
  ne : P ≠ Q
theorem Seg.rev (h : Seg P Q) : Seg Q P := ⟨h.b, h.a, h.ne.symm⟩
theorem com_pts (h : Seg P Q) (g : Seg R T) : ∀ Z ∈ comP P Q R T, ∃ k, Pt k Z := fun Z hZ => ⟨489, ((com_tells h.a h.b g.a g.b h.ne g.ne).2 Z hZ).pt (Nat.le_refl _) (by omega)⟩
theorem com_uniq {L : List Pnt} (h : Seg P Q) (g : Seg R T) (hL : ∀ Z ∈ L, ∃ k, Pt k Z) (t : Tells (Com (xq P) (xq Q) (xq R) (xq T)) (L.map xq)) : comP P Q R T = L :=
  map_xq (com_pts h g) hL ((com_tells h.a h.b g.a g.b h.ne g.ne).1.uniq t)
theorem com_swap (h : Seg P Q) (g : Seg R T) : comP R T P Q = comP P Q R T :=
  com_uniq g h (com_pts h g) ((com_tells h.a h.b g.a g.b h.ne g.ne).1.congr fun z => And.comm)
theorem com_rev1 (h : Seg P Q) (g : Seg R T) : comP Q P R T = comP P Q R T :=
  com_uniq h.rev g (com_pts h g) ((com_tells h.a h.b g.a g.b h.ne g.ne).1.congr fun z => and_congr on_comm Iff.rfl)
theorem com_rev2 (h : Seg P Q) (g : Seg R T) : comP P Q T R = comP P Q R T :=
  com_uniq h g.rev (com_pts h g) ((com_tells h.a h.b g.a g.b h.ne g.ne).1.congr fun z => and_congr Iff.rfl on_comm)
theorem meet_own (h : Seg P Q) (g : Seg R T) : Tells (Com (xq P) (xq Q) (xq R) (xq T)) ((meetV (ownP P) (ownP Q) (ownP R) (ownP T)).map hq) ∧ ∀ z ∈ meetV (ownP P) (ownP Q) (ownP R) (ownP T), Pl 246 224 z := by
  have n1 := own_ne h.a h.b h.ne
  have n2 := own_ne g.a g.b g.ne
  have t := meet_tells (pe_own h.a) (pe_own h.b) (pe_own g.a) (pe_own g.b) n1 n2
  rw [hq_own' h.a, hq_own' h.b, hq_own' g.a, hq_own' g.b] at t
  exact ⟨t, meet_pl (pe_own h.a) (pe_own h.b) (pe_own g.a) (pe_own g.b) n1 n2⟩
theorem due_eq (h : Seg P Q) (g : Seg R T) : (meetV (ownP P) (ownP Q) (ownP R) (ownP T)).map toldP = comP P Q R T := by
  obtain ⟨t, pl⟩ := meet_own h g
  refine (com_uniq h g (fun Z hZ => ?_) ?_).symm
  · obtain ⟨z, hz, rfl⟩ := List.mem_map.mp hZ
    exact ⟨246, (told_p2 (pl z hz)).pt (Nat.le_refl _) (by omega)⟩
  · rw [List.map_map]
    have e : (meetV (ownP P) (ownP Q) (ownP R) (ownP T)).map (xq ∘ toldP) = (meetV (ownP P) (ownP Q) (ownP R) (ownP T)).map hq := List.map_congr_left fun z hz => xq_told (pl z hz).p.pos
    rw [e]
    exact t
/-- alone: the ends, ascending -/
theorem alone_eq (h : Seg P Q) : (dd ([ownP P, ownP Q].mergeSort leQ)).map toldP = comP P Q Q P := by
  have hp := pe_own h.a
  have hq' := pe_own h.b
  have n1 := own_ne h.a h.b h.ne
  have R := rising_of (ps := [ownP P, ownP Q]) fun z hz => by
    simp at hz
    rcases hz with rfl | rfl
    · exact hp.p
    · exact hq'.p
  have pr : ∀ z ∈ dd ([ownP P, ownP Q].mergeSort leQ), Pe z := fun z hz => by
    have := (R.mem z).mp hz
    simp at this
    rcases this with rfl | rfl <;> assumption
  obtain ⟨L, t, sr, m⟩ := col_list (A := xq P) (B := xq Q) (C := xq Q) (D := xq P) (xq_ne (en_pt h.a) (en_pt h.b) h.ne) (xq_ne (en_pt h.a) (en_pt h.b) h.ne).symm ori_r ori_l
  have e : (dd ([ownP P, ownP Q].mergeSort leQ)).map hq = L := by
    refine srt_uniq (List.pairwise_map.mpr R.srt) sr fun z => ?_
    rw [m z, List.mem_map]
    obtain ⟨o1, o2⟩ := onE (xq_ne (en_pt h.a) (en_pt h.b) h.ne)
    constructor
    · rintro ⟨g, hg, rfl⟩
      have hg' := (R.mem g).mp hg
      simp at hg'
      rcases hg' with rfl | rfl
      · rw [hq_own' h.a]; exact ⟨.inl rfl, o1, on_comm.mp o1⟩
      · rw [hq_own' h.b]; exact ⟨.inr (.inl rfl), o2, on_comm.mp o2⟩
    · rintro ⟨q | q | q | q, _⟩
      · exact ⟨ownP P, (R.mem _).mpr (by simp), by rw [q, hq_own' h.a]⟩
      · exact ⟨ownP Q, (R.mem _).mpr (by simp), by rw [q, hq_own' h.b]⟩
      · exact ⟨ownP Q, (R.mem _).mpr (by simp), by rw [q, hq_own' h.b]⟩
      · exact ⟨ownP P, (R.mem _).mpr (by simp), by rw [q, hq_own' h.a]⟩
  refine (com_uniq h h.rev (fun Z hZ => ?_) ?_).symm
  · obtain ⟨z, hz, rfl⟩ := List.mem_map.mp hZ
    exact ⟨66, (told_p2 (pr z hz)).pt (Nat.le_refl _) (by omega)⟩
  · rw [List.map_map]
    have e2 : (dd ([ownP P, ownP Q].mergeSort leQ)).map (xq ∘ toldP) = (dd ([ownP P, ownP Q].mergeSort leQ)).map hq := List.map_congr_left fun z hz => xq_told (pr z hz).p.pos
    rw [e2, e]
    exact t
end K05

set_option maxHeartbeats 1000000
namespace Dn
open PySem PySem.Spec PyProof.Rows L2
theorem at_neg1 {α : Type} {xs : List α} (h : xs ≠ []) : ∃ a ∈ xs, atI xs (-1) = some a := by
  have hl : 0 < xs.length := List.length_pos_iff.mpr h
  have hb : xs.length - 1 < xs.length := by omega
  refine ⟨xs[xs.length - 1], List.getElem_mem hb, ?_⟩
  unfold atI ixN
  rw [if_neg (by omega), if_pos (by omega)]
  have e : ((-1 : Int) + xs.length).toNat = xs.length - 1 := by omega
  have e2 : ((xs.length : Int) + -1).toNat = xs.length - 1 := by omega
  simp [e, e2, List.getElem?_eq_getElem hb]
theorem at_last {α : Type} {xs : List α} (h : xs ≠ []) : atI xs (-1) = xs.getLast? := by
  have hl : 0 < xs.length := List.length_pos_iff.mpr h
  unfold atI ixN
  rw [if_neg (by omega), if_pos (by omega), List.getLast?_eq_getElem?]
  have e2 : ((xs.length : Int) + -1).toNat = xs.length - 1 := by omega
  have e : ((-1 : Int) + xs.length).toNat = xs.length - 1 := by omega
  simp [e, e2]
theorem at_head {α : Type} {xs : List α} (h : xs ≠ []) : atI xs 0 = xs.head? := by
  cases xs with
  | nil => exact absurd rfl h
  | cons x xs => unfold atI ixN; rw [if_pos (Int.le_refl 0), if_pos (show (0 : Int) < ((x :: xs).length : Nat) by simp)]; rfl
/-- no two that stand side by side are alike -/
def Adj {α : Type} (xs : List α) : Prop := ∀ p a b r, xs = p ++ a :: b :: r → a ≠ b
theorem adj_one {α : Type} (x : α) : Adj [x] := fun p a b r e => by
  have := congrArg List.length e
  simp at this
  omega
theorem adj_snoc {α : Type} {xs : List α} {e : α} (h : Adj xs) (g : ∀ a, xs.getLast? = some a → e ≠ a) : Adj (xs ++ [e]) := fun p a b r q => by
  rcases List.eq_nil_or_concat r with hr | ⟨r', y, hr⟩
  · subst hr
    have q2 : xs ++ [e] = (p ++ [a]) ++ [b] := by rw [q]; simp
    obtain ⟨q3, q4⟩ := List.append_inj' q2 rfl
    simp only [List.cons.injEq, and_true] at q4
    rw [← q4]
    exact (g a (by rw [q3]; simp)).symm
  · subst hr
    have q2 : xs ++ [e] = (p ++ a :: b :: r') ++ [y] := by rw [q]; simp
    obtain ⟨q3, _⟩ := List.append_inj' q2 rfl
    exact h p a b r' q3
theorem adj_map {α β : Type} {f : α → β} {xs : List α} (h : Adj xs) (inj : ∀ a ∈ xs, ∀ b ∈ xs, f a = f b → a = b) : Adj (xs.map f) := fun p a b r q => by
  obtain ⟨p', r', e, e1, e2⟩ := List.map_eq_append_iff.mp q
  obtain ⟨a', r2, e3, e4, e5⟩ := List.map_eq_cons_iff.mp e2
  obtain ⟨b', r3, e6, e7, e8⟩ := List.map_eq_cons_iff.mp e5
  subst e4 e7
  have hx : xs = p' ++ a' :: b' :: r3 := by rw [e, e3, e6]
  intro z
  exact h p' a' b' r3 hx (inj a' (by rw [hx]; simp) b' (by rw [hx]; simp) z)
theorem at_zero {α : Type} {xs : List α} (h : xs ≠ []) : ∃ a ∈ xs, atI xs 0 = some a := by
  cases xs with
  | nil => exact absurd rfl h
  | cons x xs => exact ⟨x, List.mem_cons_self .., by unfold atI ixN; rw [if_pos (Int.le_refl 0), if_pos (show (0 : Int) < ((x :: xs).length : Nat) by simp)]; rfl⟩
theorem at_map {xs : List Int} {i a : Int} (h : atI xs i = some a) : atI (xs.map D.int) i = some (.int a) := by
  unfold atI at *
  rw [List.length_map]
  cases e : ixN xs.length i with
  | none => rw [e] at h; cases h
  | some j =>
    rw [e] at h
    simp only [Option.bind_some] at h ⊢
    rw [List.getElem?_map, h]
    rfl
theorem in_ints' {i : Int} {ss : List Int} {S : Sto} : inD S (.int i) (.lst (ss.map D.int)) = some (decide (i ∈ ss)) := by
  have := in_ints (g := fun x : Int => x) (i := i) (xs := ss) (S := S)
  simpa using this
theorem small_of {i : Int} (h0 : -1000 ≤ i) (h1 : i < 100000) : smallI i = true := by
  unfold smallI
  rw [Bool.and_eq_true, decide_eq_true_eq, decide_eq_true_eq]
  omega
end Dn
namespace K05
open PySem PySem.Spec PyProof.Rows L2 Dn
variable {n k j : Nat} {S : Sto}
theorem l_row : PT.lookup ("_law_row" : Str) = some c_law_row := lk (d := d_law_row) (by simp only [defs, List.mem_cons, true_or, or_true])
abbrev rw0 : CS := .asg (.name 8) (.ite (.and (.var 3) (.cmp .Eq (.var 7) (.bin .Sub (.var 2) (.int 1)))) (.lst none [.ix (.var 6) (.neg (.int 1)), .ix (.var 6) (.int 0)]) (.lst none [.ix (.var 6) (.neg (.int 1))]))
abbrev rw1 : CS := .expr (.meth "append" (.var 6) [.call "_law_one_of" [.var 0, .lc (.var 4) (.name 4) (.rng1 (.bin .Mult (.var 5) (.var 5))) [.cmp .NotIn (.var 4) (.var 8)] [4]]])
theorem wide_sq {f : Geo.Frm} (hf : Geo.FrmOk f) : 9 ≤ f.wide * f.wide ∧ f.wide * f.wide ≤ 25 ∧ mulOk f.wide f.wide = true := by
  have h1 := hf.w0
  have h2 := hf.w
  have l : Lt 3 f.wide := Geo.lt_of (by omega)
  refine ⟨?_, ?_, l.ok l (by omega) (by omega)⟩
  · rcases (by omega : f.wide = 3 ∨ f.wide = 4 ∨ f.wide = 5) with e | e | e <;> rw [e] <;> decide
  · rcases (by omega : f.wide = 3 ∨ f.wide = 4 ∨ f.wide = 5) with e | e | e <;> rw [e] <;> decide
/-- what may come next -/
def nextQ (ss : List Int) : D → Bool
  | .int e => !decide (e ∈ ss)
  | _ => false
theorem next_ne {ss : List Int} {m : Nat} (hs : ss.length ≤ 2) (hm : 9 ≤ m) : 0 < ((rngD 0 m).filter (nextQ ss)).length := by
  have key : ∃ c : Nat, c < 3 ∧ (c : Int) ∉ ss := by
    match ss, hs with
    | [], _ => exact ⟨0, by omega, by simp⟩
    | [a], _ =>
      by_cases h : a = 0
      · exact ⟨1, by omega, by simp; omega⟩
      · exact ⟨0, by omega, by simp; omega⟩
    | [a, b], _ =>
      by_cases h0 : a = 0 ∨ b = 0
      · by_cases h1 : a = 1 ∨ b = 1
        · exact ⟨2, by omega, by simp; omega⟩
        · exact ⟨1, by omega, by simp; omega⟩
      · exact ⟨0, by omega, by simp; omega⟩
  obtain ⟨c, hc, hn⟩ := key
  refine List.length_pos_of_mem (a := .int (c : Int)) (List.mem_filter.mpr ⟨?_, by simp [nextQ, hn]⟩)
  unfold rngD
  exact List.mem_map.mpr ⟨c, List.mem_range.mpr (by omega), by simp⟩
theorem pd_plain {P : Pnt} : plainD (pD P) = true := by simp [pD, fD, plainD, plainDs]
theorem hF : Geo.HasF PT where
  frame := lk (d := d_law_frame) (by simp only [defs, List.mem_cons, true_or, or_true])
  grid := lk (d := d_law_grid) (by simp only [defs, List.mem_cons, true_or, or_true])
  dot := lk (d := d_law_dot) (by simp only [defs, List.mem_cons, true_or, or_true])
theorem grid_p2 {f : Geo.Frm} (h : Geo.FrmOk f) {i m l : Int} (i1 : Lt 6 i) (m1 : Lt 6 m) (hl : 1 ≤ l ∧ l < 4) : P2 26 5 (Geo.gridP f i m l) := by
  have l1 : Lt 2 l := Geo.lt_of (by omega)
  have s1 : Lt 17 f.step := Geo.lt_of (by have := h.s0; have := h.s; omega)
  have u1 : Lt 3 f.under := Geo.lt_of (by have := h.u0; have := h.u; omega)
  have p : 0 < f.under * l := Int.mul_pos h.u0 (by omega)
  have u2 : Lt 5 (f.under * l) := (u1.mul l1).mono (by omega)
  exact ⟨red_f2 p ((((h.x.mul l1).mono (show 22 ≤ 24 by omega)).add ((s1.mul i1).mono (show 23 ≤ 24 by omega))).mono (by omega)) u2, red_f2 p ((((h.y.mul l1).mono (show 22 ≤ 24 by omega)).add ((s1.mul m1).mono (show 23 ≤ 24 by omega))).mono (by omega)) u2⟩
theorem red_inj {a b t : Int} (ht : 0 < t) (e : red a t = red b t) : a = b := by
  have h1 := vq_red (t := a) ht
  have h2 := vq_red (t := b) ht
  rw [e, h2] at h1
  have := (frac_eq ht ht).mp h1
  exact (Int.eq_of_mul_eq_mul_right (by omega) this).symm
theorem grid_inj {f : Geo.Frm} (h : Geo.FrmOk f) {i m i' m' : Int} (e : Geo.gridP f i m 1 = Geo.gridP f i' m' 1) : i = i' ∧ m = m' := by
  have u : 0 < f.under * 1 := by have := h.u0; omega
  have e1 := red_inj u (congrArg Prod.fst e)
  have e2 := red_inj u (congrArg Prod.snd e)
  have s0 := h.s0
  have k1 : f.step * i = f.step * i' := by omega
  have k2 : f.step * m = f.step * m' := by omega
  exact ⟨Int.eq_of_mul_eq_mul_left (by omega) k1, Int.eq_of_mul_eq_mul_left (by omega) k2⟩
theorem rturn {f : Geo.Frm} (hf : Geo.FrmOk f) {xs : List Int} {Sa : Sto} {many t : Int} {c : Bool} (hx : xs ≠ []) (hl : xs.length < 1000) (w : Sp k j Sa) (hj : j + 1 < 100000000) (q7 q8 : Option D) :
    ∃ (e : Int) (Sb : Sto) (p8 : Option D), Dn.forTurn (geN tb PT (n + 3)) (.name 7) [rw0, rw1] (.int t) [some (.ref k), some f.d, some (.int many), some (.bl c), none, some (.int f.wide), some (.ref Sa.length), q7, q8] (Sa ++ [.lst false (xs.map .int)]) =
      some (.nx [some (.ref k), some f.d, some (.int many), some (.bl c), none, some (.int f.wide), some (.ref Sa.length), some (.int t), p8], Sb ++ [.lst false ((xs ++ [e]).map .int)]) ∧ 0 ≤ e ∧ e < f.wide * f.wide ∧ Sp k (j + 1) Sb ∧ Same k Sa Sb ∧ (∀ a, xs.getLast? = some a → e ≠ a) ∧ (c = true → t = many - 1 → ∀ b, xs.head? = some b → e ≠ b) := by
  have hk := w.lt
  obtain ⟨W1, W2, W3⟩ := wide_sq hf
  obtain ⟨a, _, ea⟩ := at_neg1 hx
  obtain ⟨b, _, eb⟩ := at_zero hx
  have gl : (Sa ++ [MO.lst false (xs.map .int)])[Sa.length]? = some (.lst false (xs.map .int)) := last_get
  have sh : ∃ ss : List Int, (ss.length ≤ 2 ∧ a ∈ ss ∧ (c = true → t = many - 1 → b ∈ ss)) ∧ exS (geN tb PT (n + 3)) rw0 [some (.ref k), some f.d, some (.int many), some (.bl c), none, some (.int f.wide), some (.ref Sa.length), some (.int t), q8] (Sa ++ [.lst false (xs.map .int)]) = some (.nx [some (.ref k), some f.d, some (.int many), some (.bl c), none, some (.int f.wide), some (.ref Sa.length), some (.int t), some (.lst (ss.map .int))], Sa ++ [.lst false (xs.map .int)]) := by
    by_cases h : c = true ∧ t = many - 1
    · obtain ⟨rfl, rfl⟩ := h
      exact ⟨[a, b], ⟨by simp, by simp, fun _ _ => by simp⟩, by simp [cmpD, binD, dr, eqD, flatD, scal, vD, ixD, items, gl, MO.xs, at_map ea, at_map eb, truD]⟩
    · refine ⟨[a], ⟨by simp, by simp, fun z1 z2 => absurd ⟨z1, z2⟩ h⟩, ?_⟩
      cases c with
      | false => simp [ixD, items, gl, MO.xs, at_map ea, truD]
      | true =>
        have ht : ¬ t = many - 1 := fun z => h ⟨rfl, z⟩
        simp [cmpD, binD, dr, eqD, flatD, scal, vD, ht, ixD, items, gl, MO.xs, at_map ea, truD]
  obtain ⟨ss, ⟨hs, sa, sb0⟩, e0⟩ := sh
  have sm : smallI (f.wide * f.wide) = true := small_of (by omega) (by omega)
  have lp : loopLc ⟨rngD 0 (f.wide * f.wide).toNat, none⟩ (lcTurn (geN tb PT (n + 3)) (.var 4) (.name 4) [.cmp .NotIn (.var 4) (.var 8)] [4] [some (.ref k), some f.d, some (.int many), some (.bl c), none, some (.int f.wide), some (.ref Sa.length), some (.int t), some (.lst (ss.map .int))]) (rngD 0 (f.wide * f.wide).toNat) (Sa ++ [.lst false (xs.map .int)]) = some (((rngD 0 (f.wide * f.wide).toNat).filter (nextQ ss)).map fun d => d, Sa ++ [.lst false (xs.map .int)]) :=
    loop_filter ok_none fun x hx => by
      unfold rngD at hx
      obtain ⟨i, _, rfl⟩ := List.mem_map.mp hx
      by_cases hi : (i : Int) ∈ ss <;> simp [lcTurn, wipeD, cmpD, in_ints', hi, nextQ]
  rw [List.map_id'] at lp
  have ne := next_ne (ss := ss) (m := (f.wide * f.wide).toNat) hs (by omega)
  have nl : ((rngD 0 (f.wide * f.wide).toNat).filter (nextQ ss)).length ≤ 1000 := Nat.le_trans (List.length_filter_le ..) (by rw [rng_len]; omega)
  have mem : ∀ d ∈ (rngD 0 (f.wide * f.wide).toNat).filter (nextQ ss), ∃ e : Int, d = .int e ∧ 0 ≤ e ∧ e < f.wide * f.wide ∧ e ∉ ss := fun d hd => by
    have ns := (List.mem_filter.mp hd).2
    have := (List.mem_filter.mp hd).1
    unfold rngD at this
    obtain ⟨i, hi, rfl⟩ := List.mem_map.mp this
    have := List.mem_range.mp hi
    exact ⟨_, rfl, by omega, by omega, by simpa [nextQ] using ns⟩
  generalize (rngD 0 (f.wide * f.wide).toNat).filter (nextQ ss) = ys at lp ne nl mem
  obtain ⟨d, hd, T, e1, wT, sT⟩ := Geo.one_of_l (tb := tb) (n := n + 1) hT.toHasD ((sp_app (mo := .lst false (xs.map .int)) hk).mpr w) (by omega) (xs := ys) ne (by omega)
  obtain ⟨e, rfl, e0', e1', en⟩ := mem d hd
  obtain ⟨Sb, rfl, sb⟩ := same_app sT hk
  refine ⟨e, Sb, some (.lst (ss.map .int)), ?_, e0', e1', (sp_app (by rw [sb.1]; exact hk)).mp wT, sb, fun a' ha' => ?_, fun c1 c2 b' hb' => ?_⟩
  case refine_2 =>
    rw [at_last hx, ha'] at ea
    cases ea
    exact fun z => en (z ▸ sa)
  case refine_3 =>
    rw [at_head hx, hb'] at eb
    cases eb
    exact fun z => en (z ▸ sb0 c1 c2)
  have g2 : (Sb ++ [MO.lst false (xs.map .int)])[Sa.length]? = some (.lst false (xs.map .int)) := by rw [← sb.1]; exact last_get
  have s2 : ∀ v, (Sb ++ [MO.lst false (xs.map .int)]).set Sa.length v = Sb ++ [v] := fun v => by rw [← sb.1]; exact last_set
  have z : xs.length < 16777216 := by omega
  have z2 : ys.length ≤ 16777216 := by omega
  unfold Dn.forTurn
  rw [qg_name, bnd_some]
  simp only [List.set_cons_succ, List.set_cons_zero]
  rw [x_cons, e0, bnd_some]
  dsimp only
  simp [W3, binD, dr, sm, lp, z2, e1, methD, g2, s2, z]
theorem row {f : Geo.Frm} (hf : Geo.FrmOk f) {many : Nat} (hm : 1 ≤ many) (hm2 : many ≤ 20) (c : Bool) (w : Sp k j S) (hj : j + 30 < 100000000) :
    ∃ (Ps : List Pnt) (S' : Sto), callN tb PT (n + 4) "_law_row" [.ref k, f.d, .int many, .bl c] S = some (.tup (Ps.map pD), S') ∧ Ps.length = many ∧ (∀ P ∈ Ps, P2 26 5 P) ∧ Adj Ps ∧ (c = true → 2 ≤ many → ∀ A B, Ps.head? = some A → Ps.getLast? = some B → A ≠ B) ∧ Sp k (j + 20) S' ∧ Same k S S' := by
  obtain ⟨W1, W2, W3⟩ := wide_sq hf
  obtain ⟨e0, S1, e1, h0, h1, w1, s1⟩ := Geo.draw (tb := tb) (n := n + 2) hT.toHasD w (by omega) (m := f.wide * f.wide) (by omega) (by omega)
  have lf := for_ind (w := ⟨rngD 1 (many - 1), none⟩) (turn := Dn.forTurn (geN tb PT (n + 3)) (.name 7) [rw0, rw1])
    (I := fun pre δ T => ∃ (xs : List Int) (Sa : Sto) (p7 p8 : Option D), T = Sa ++ [.lst false (xs.map .int)] ∧ Same k S Sa ∧ Sp k (j + 1 + pre.length) Sa ∧ xs.length = pre.length + 1 ∧ (∀ x ∈ xs, 0 ≤ x ∧ x < f.wide * f.wide) ∧ (Adj xs ∧ (c = true → 1 ≤ pre.length → pre.length + 1 = many → ∀ a b, xs.head? = some a → xs.getLast? = some b → a ≠ b)) ∧ δ = [some (.ref k), some f.d, some (.int many), some (.bl c), none, some (.int f.wide), some (.ref S.length), p7, p8])
    (fun _ _ _ _ => ok_none) (xs := rngD 1 (many - 1)) (pre := []) (δ := [some (.ref k), some f.d, some (.int many), some (.bl c), none, some (.int f.wide), some (.ref S.length), none, none]) (S := S1 ++ [.lst false ([e0].map .int)]) (fun p x r δ T he ⟨xs, Sa, p7, p8, eT, sS, wS, xl, xo, ⟨xa, xc⟩, eδ⟩ => by
      simp only [List.nil_append] at wS xl
      have hpl : p.length < 20 := by
        have h1 : (rngD 1 (many - 1)).length = (p ++ x :: r).length := by rw [he]
        rw [rng_len] at h1
        simp at h1
        omega
      have hx : x = .int (1 + (p.length : Int)) := by
        have h1 : (rngD 1 (many - 1))[p.length]? = some x := by rw [he]; simp
        unfold rngD at h1
        rw [List.getElem?_map] at h1
        obtain ⟨t, h2, h3⟩ := Option.map_eq_some_iff.mp h1
        obtain ⟨h4, h5⟩ := List.getElem?_eq_some_iff.mp h2
        rw [List.getElem_range] at h5
        rw [← h3, ← h5]
      subst hx
      have xn : xs ≠ [] := by intro z; rw [z] at xl; simp at xl
      subst eT eδ
      obtain ⟨e, Sb, q8, ee, z0, z1, wb, sb, na, nb⟩ := rturn (n := n) (t := 1 + (p.length : Int)) (many := (many : Int)) (c := c) hf (xs := xs) (by intro z; rw [z] at xl; simp at xl) (by omega) wS (by omega) p7 p8
      rw [sS.1] at ee
      refine ⟨_, _, ee, xs ++ [e], Sb, _, _, rfl, sS.trans sb, wb.mono (by simp; omega), by simp [xl], fun y hy => ?_, ⟨adj_snoc xa na, fun c1 _ c3 a b ha hb => ?_⟩, rfl⟩
      · rcases List.mem_append.mp hy with z | z
        · exact xo y z
        · rw [List.mem_singleton.mp z]; exact ⟨z0, z1⟩
      · have hb' : b = e := by simpa using hb.symm
        have ha' : xs.head? = some a := by
          cases xs with
          | nil => exact absurd rfl xn
          | cons y ys => simpa using ha
        rw [hb']
        simp only [List.nil_append, List.length_append, List.length_singleton] at c3
        exact (nb c1 (by omega) a ha').symm) ⟨[e0], S1, none, none, rfl, s1, by simpa using w1, by simp, fun y hy => by rw [List.mem_singleton.mp hy]; exact ⟨h0, h1⟩, ⟨adj_one _, fun _ z => absurd z (by simp)⟩, rfl⟩
  obtain ⟨δ', T', e2, xs, Sa, p7, p8, eT, sS, wS, xl, xo, ⟨xa, xc⟩, eδ⟩ := lf
  subst eT eδ
  simp only [List.nil_append, rng_len] at wS xl xc
  have gl : (Sa ++ [MO.lst false (xs.map .int)])[S.length]? = some (.lst false (xs.map .int)) := by rw [← sS.1]; exact last_get
  have ok : okW ⟨xs.map .int, some S.length⟩ (Sa ++ [MO.lst false (xs.map .int)]) := fun i hi => by cases hi; exact ⟨_, gl, rfl⟩
  have dv : divOk f.wide = true := div_ok (by have := hf.w0; omega) (by have := hf.w; omega)
  have wp : 0 < f.wide := by have := hf.w0; omega
  have lp : loopLc ⟨xs.map .int, some S.length⟩ (lcTurn (geN tb PT (n + 3)) (.call "_law_grid" [.var 1, .bin .FloorDiv (.var 4) (.var 5), .bin .Mod (.blt "int" [.var 4]) (.var 5), .int 1]) (.name 4) [] [4] [some (.ref k), some f.d, some (.int many), some (.bl c), none, some (.int f.wide), some (.ref S.length), p7, p8]) (xs.map .int) (Sa ++ [MO.lst false (xs.map .int)]) = some (xs.map (fun e => pD (Geo.gridP f (e / f.wide) (e % f.wide) 1)), Sa ++ [MO.lst false (xs.map .int)]) :=
    loop_map2 ok fun e he => by
      obtain ⟨z0, z1⟩ := xo e he
      have d0 : 0 ≤ e / f.wide := Int.ediv_nonneg z0 (by omega)
      have d1 : e / f.wide < 64 := Int.lt_of_le_of_lt (Int.ediv_le_self _ z0) (by omega)
      have m0 : 0 ≤ e % f.wide := Int.emod_nonneg _ (by omega)
      have m1 : e % f.wide < 64 := Int.lt_trans (Int.emod_lt_of_pos _ wp) (by have := hf.w; omega)
      have eg := Geo.grid (tb := tb) (n := n) (S := Sa ++ [MO.lst false (xs.map .int)]) hT.toHasD hF hf (i := e / f.wide) (m := e % f.wide) (l := 1) ⟨d0, d1⟩ ⟨m0, m1⟩ ⟨by omega, by omega⟩
      simp [lcTurn, wipeD, binD, dr, dv, bltD, wp, eg]
  have em : xs.map (fun e => pD (Geo.gridP f (e / f.wide) (e % f.wide) 1)) = (xs.map fun e => Geo.gridP f (e / f.wide) (e % f.wide) 1).map pD := by rw [List.map_map]; rfl
  rw [em] at lp
  have ij : ∀ e ∈ xs, Lt 6 (e / f.wide) ∧ Lt 6 (e % f.wide) := fun e he => by
    obtain ⟨z0, z1⟩ := xo e he
    have d0 : 0 ≤ e / f.wide := Int.ediv_nonneg z0 (by omega)
    have d1 : e / f.wide < 64 := Int.lt_of_le_of_lt (Int.ediv_le_self _ z0) (by omega)
    have m0 : 0 ≤ e % f.wide := Int.emod_nonneg _ (by omega)
    have m1 : e % f.wide < 64 := Int.lt_trans (Int.emod_lt_of_pos _ wp) (by have := hf.w; omega)
    exact ⟨Geo.lt_of (by omega), Geo.lt_of (by omega)⟩
  have pts : ∀ P ∈ xs.map (fun e => Geo.gridP f (e / f.wide) (e % f.wide) 1), P2 26 5 P := fun P hP => by
    obtain ⟨e, he, rfl⟩ := List.mem_map.mp hP
    obtain ⟨q1, q2⟩ := ij e he
    exact grid_p2 hf q1 q2 ⟨by omega, by omega⟩
  have inj : ∀ a b : Int, Geo.gridP f (a / f.wide) (a % f.wide) 1 = Geo.gridP f (b / f.wide) (b % f.wide) 1 → a = b := fun a b z => by
    obtain ⟨q1, q2⟩ := grid_inj hf z
    rw [← Int.mul_ediv_add_emod a f.wide, ← Int.mul_ediv_add_emod b f.wide, q1, q2]
  have padj : Adj (xs.map fun e => Geo.gridP f (e / f.wide) (e % f.wide) 1) := adj_map xa fun a _ b _ z => inj a b z
  have pcl : c = true → 2 ≤ many → ∀ A B, (xs.map fun e => Geo.gridP f (e / f.wide) (e % f.wide) 1).head? = some A → (xs.map fun e => Geo.gridP f (e / f.wide) (e % f.wide) 1).getLast? = some B → A ≠ B := fun c1 c2 A B hA hB => by
    rw [List.head?_map] at hA
    rw [List.getLast?_map] at hB
    obtain ⟨a, ha, rfl⟩ := Option.map_eq_some_iff.mp hA
    obtain ⟨b, hb, rfl⟩ := Option.map_eq_some_iff.mp hB
    exact fun z => xc c1 (by omega) (by omega) a b ha hb (inj a b z)
  have pl : (xs.map fun e => Geo.gridP f (e / f.wide) (e % f.wide) 1).length = many := by rw [List.length_map, xl]; omega
  generalize (xs.map fun e => Geo.gridP f (e / f.wide) (e % f.wide) 1) = Ps at lp pts pl padj pcl
  refine ⟨Ps, Sa, ?_, pl, pts, padj, pcl, wS.mono (by omega), sS⟩
  have z : (Ps.map pD).length ≤ 16777216 := by rw [List.length_map]; omega
  have sm : smallI (many : Int) = true := small_of (by omega) (by omega)
  have pn : plainD (.tup (Ps.map pD)) = true := by
    simp only [plainD]
    exact plain_all fun d hd => by obtain ⟨P, hP, rfl⟩ := List.mem_map.mp hd; exact pd_plain
  have gc := gc_let (S := S) (S1 := Sa) (xs := xs.map .int) (d := .tup (Ps.map pD)) pn sS.1 (gcok_sp sS wS)
  have sm1 : smallI 1 = true := small_of (by omega) (by omega)
  generalize Ps.map pD = row at *
  have ew : ∀ T, ixD T f.d (.int 4) = some (.int f.wide) := fun T => rfl
  have b1 : exS (geN tb PT (n + 3)) (.asg (.name 5) (.ix (.var 1) (.int 4))) [some (.ref k), some f.d, some (.int many), some (.bl c), none, none, none, none, none] S = some (.nx [some (.ref k), some f.d, some (.int many), some (.bl c), none, some (.int f.wide), none, none, none], S) := by simp [ew]
  have b2 : exS (geN tb PT (n + 3)) (.asg (.name 6) (.lst (some false) [.call "_law_draw" [.var 0, .bin .Mult (.var 5) (.var 5)]])) [some (.ref k), some f.d, some (.int many), some (.bl c), none, some (.int f.wide), none, none, none] S = some (.nx [some (.ref k), some f.d, some (.int many), some (.bl c), none, some (.int f.wide), some (.ref S.length), none, none], S1 ++ [.lst false ([e0].map .int)]) := by simp [binD, dr, W3, e1, s1.1]
  have b3 : exS (geN tb PT (n + 3)) (.for_ (.name 7) (.rng2 (.int 1) (.var 2)) [rw0, rw1]) [some (.ref k), some f.d, some (.int many), some (.bl c), none, some (.int f.wide), some (.ref S.length), none, none] (S1 ++ [.lst false ([e0].map .int)]) = some (.nx [some (.ref k), some f.d, some (.int many), some (.bl c), none, some (.int f.wide), some (.ref S.length), p7, p8], Sa ++ [.lst false (xs.map .int)]) := by
    have tn : ((many : Int) - 1).toNat = many - 1 := by omega
    rw [x_for, qw_rng2, q_int, bnd_some, q_var, vr_s, vr_s, vr_0, mpd_some, bnd_some]
    dsimp only
    rw [if_pos ⟨sm1, sm⟩, bnd_some]
    dsimp only
    rw [tn]
    exact e2
  have b4 : exS (geN tb PT (n + 3)) (.ret (.blt "tuple" [.lc (.call "_law_grid" [.var 1, .bin .FloorDiv (.var 4) (.var 5), .bin .Mod (.blt "int" [.var 4]) (.var 5), .int 1]) (.name 4) (.seq (.var 6)) [] [4]])) [some (.ref k), some f.d, some (.int many), some (.bl c), none, some (.int f.wide), some (.ref S.length), p7, p8] (Sa ++ [.lst false (xs.map .int)]) = some (.rt (.tup row), Sa ++ [.lst false (xs.map .int)]) := by
    simp [items, gl, MO.xs, srcOf, lp, z, bltD]
  have body := ex_st b1 (ex_st b2 (ex_st b3 (ex_rt b4)))
  have bd : c_law_row.body = [.asg (.name 5) (.ix (.var 1) (.int 4)), .asg (.name 6) (.lst (some false) [.call "_law_draw" [.var 0, .bin .Mult (.var 5) (.var 5)]]), .for_ (.name 7) (.rng2 (.int 1) (.var 2)) [rw0, rw1], .ret (.blt "tuple" [.lc (.call "_law_grid" [.var 1, .bin .FloorDiv (.var 4) (.var 5), .bin .Mod (.blt "int" [.var 4]) (.var 5), .int 1]) (.name 4) (.seq (.var 6)) [] [4]])] := rfl
  have sd : startD c_law_row.N.length [.ref k, f.d, .int many, .bl c] = [some (.ref k), some f.d, some (.int many), some (.bl c), none, none, none, none, none] := rfl
  rw [q_of l_row rfl, sd, bd, body, bnd_some]
  exact gc
end K05

set_option maxHeartbeats 1000000
namespace K05
open PySem PySem.Spec PyProof.Rows L2 Dn
variable {n k j : Nat} {S : Sto}
theorem en_of {P : Pnt} (h : P2 26 5 P) : En2 P := ⟨h.1.mono (by omega) (by omega), h.2.mono (by omega) (by omega)⟩
theorem row2 {f : Geo.Frm} (hf : Geo.FrmOk f) (w : Sp k j S) (hj : j + 30 < 100000000) :
    ∃ (A B : Pnt) (S' : Sto), callN tb PT (n + 4) "_law_row" [.ref k, f.d, .int 2, .bl false] S = some (.tup [pD A, pD B], S') ∧ P2 26 5 A ∧ P2 26 5 B ∧ A ≠ B ∧ Sp k (j + 20) S' ∧ Same k S S' := by
  obtain ⟨Ps, S', e, l, h, a, _, w', s'⟩ := row (n := n) hf (many := 2) (by omega) (by omega) false w hj
  match Ps, l with
  | [A, B], _ => exact ⟨A, B, S', e, h A (by simp), h B (by simp), a [] A B [] rfl, w', s'⟩
def segD (P Q : Pnt) : D := .tup [pD P, pD Q]
def othP (E C D' : Pnt) : Pnt := if C ≠ E then C else D'
theorem oth_seg {E C D' : Pnt} (hE : En2 E) (hC : En2 C) (hD : En2 D') (ne : C ≠ D') : Seg E (othP E C D') := by
  unfold othP
  by_cases h : C = E
  · rw [if_neg (by simpa using h)]
    exact ⟨hE, hD, fun z => ne (h.trans z)⟩
  · rw [if_pos h]
    exact ⟨hE, hC, fun z => h z.symm⟩
end K05

set_option maxHeartbeats 1000000
namespace K05
open PySem PySem.Spec PyProof.Rows L2 Dn
variable {n k j : Nat} {S : Sto}
theorem l_middle : PT.lookup ("_law_middle" : Str) = some c_law_middle := lk (d := d_law_middle) (by simp only [defs, List.mem_cons, true_or, or_true])
theorem l_places : PT.lookup ("_law_places" : Str) = some c_law_places := lk (d := d_law_places) (by simp only [defs, List.mem_cons, true_or, or_true])
theorem l_any : PT.lookup ("_law_any_place" : Str) = some c_law_any_place := lk (d := d_law_any_place) (by simp only [defs, List.mem_cons, true_or, or_true])
theorem xp (g : Plc) (S : Sto) : ixD S (lD g) (.int 0) = some (.int g.1) ∧ ixD S (lD g) (.int 1) = some (.int g.2.1) ∧ ixD S (lD g) (.int 2) = some (.int g.2.2) := ⟨rfl, rfl, rfl⟩
theorem middle {p q : Plc} (hp : Pe p) (hq' : Pe q) : ∃ z, callN tb PT (n + 3) "_law_middle" [lD p, lD q] S = some (lD z, S) ∧ Pl 111 90 z := by
  have m1 := hp.la.ok hq'.lc (by omega) (by omega)
  have m2 := hq'.la.ok hp.lc (by omega) (by omega)
  have m3 := hp.lb.ok hq'.lc (by omega) (by omega)
  have m4 := hq'.lb.ok hp.lc (by omega) (by omega)
  have n2 : Lt 2 2 := Geo.lt_of (by omega)
  have m5 := n2.ok hp.lc (by omega) (by omega)
  have m6 := (n2.mul hp.lc).ok hq'.lc (by omega) (by omega)
  have w : 0 < 2 * p.2.2 * q.2.2 := Int.mul_pos (by have := hp.p.pos; omega) hq'.p.pos
  have lx := ((hp.la.mul hq'.lc)).add ((hq'.la.mul hp.lc))
  have ly := ((hp.lb.mul hq'.lc)).add ((hq'.lb.mul hp.lc))
  have lw := ((n2.mul hp.lc).mul hq'.lc)
  have e := Geo.place (tb := tb) (n := n) (S := S) hT (x := p.1 * q.2.2 + q.1 * p.2.2) (y := p.2.1 * q.2.2 + q.2.1 * p.2.2) w (lw.mono (by omega))
  refine ⟨_, ?_, red3_pl w (lx.mono (by omega)) (ly.mono (by omega)) (lw.mono (by omega))⟩
  rw [q_of l_middle rfl]
  simp only [c_law_middle]
  simp [startD, xp, binD, dr, m1, m2, m3, m4, m5, m6, e, gc_same]
/-- a wall: the law's own places of the ends -/
def wD (w : Pnt × Pnt) : D := .tup [lD (ownP w.1), lD (ownP w.2)]
def sD (w : Pnt × Pnt) : D := segD w.1 w.2
theorem own_en {P : Pnt} (h : En2 P) : callN tb PT (n + 3) "_law_own" [pD P] S = some (lD (ownP P), S) := Geo.own hT (en_pt h) (by omega)
theorem places {d : D} {ws : List (Pnt × Pnt)} (hi : ∀ S, items S d = some (ws.map sD)) (hs : srcOf d = none) (hw : ∀ w ∈ ws, Seg w.1 w.2) (hl : ws.length ≤ 100000) : callN tb PT (n + 4) "_law_places" [d] S = some (.lst (ws.map wD), S) := by
  have lp := loop_map2 (w := ⟨ws.map sD, none⟩) (turn := lcTurn (geN tb PT (n + 3)) (.tup [.call "_law_own" [.ix (.var 1) (.int 0)], .call "_law_own" [.ix (.var 1) (.int 1)]]) (.name 1) [] [1] [some d, none]) (S := S) (g := sD) (f := wD) ok_none (ys := ws) (fun w h => by
    have h' := hw w h
    have e1 := own_en (n := n) (S := S) h'.a
    have e2 := own_en (n := n) (S := S) h'.b
    have i0 : ixD S (sD w) (.int 0) = some (pD w.1) := rfl
    have i1 : ixD S (sD w) (.int 1) = some (pD w.2) := rfl
    simp [lcTurn, wipeD, i0, i1, e1, e2, wD])
  have z : (ws.map wD).length ≤ 16777216 := by rw [List.length_map]; omega
  have z' : ws.length ≤ 16777216 := by omega
  rw [q_of l_places rfl]
  simp only [c_law_places]
  simp [startD, hi, hs, lp, z', gc_same]
/-! a list against [] -/
theorem canAll : ∀ {ps : List PyData}, (∀ p ∈ ps, p.canLay0 = true) → PyData.canLayAll0 ps = true
  | [], _ => by simp [PyData.canLayAll0]
  | p :: ps, h => by
    simp only [PyData.canLayAll0, Bool.and_eq_true]
    exact ⟨h p (List.mem_cons_self ..), canAll fun q hq => h q (List.mem_cons_of_mem _ hq)⟩
theorem depAll {e : Nat} : ∀ {ps : List PyData}, (∀ p ∈ ps, p.depth ≤ e) → PyData.depthAll ps ≤ e
  | [], _ => by simp [PyData.depthAll]
  | p :: ps, h => by
    simp only [PyData.depthAll]
    exact Nat.max_le.mpr ⟨h p (List.mem_cons_self ..), depAll fun q hq => h q (List.mem_cons_of_mem _ hq)⟩
theorem ne_nil {xs : List D} {S : Sto} (h : ∃ ps, pds xs = some ps ∧ ps.length = xs.length ∧ ∀ p ∈ ps, p.canLay0 = true ∧ p.depth ≤ 60) : cmpD S .NotEq (.lst xs) (.lst []) = some (!xs.isEmpty) := by
  obtain ⟨ps, e, l, hp⟩ := h
  have c := canAll fun p h => (hp p h).1
  have d := depAll fun p h => (hp p h).2
  have sh : SeqAt.shaped (.list ps) = true := by
    unfold SeqAt.shaped
    rw [Bool.and_eq_true, decide_eq_true_eq]
    simp only [PyData.canLay0, PyData.depth]
    exact ⟨c, by omega⟩
  have ev : PyData.eqv (.list ps) (.list []) = xs.isEmpty := by
    cases ps with
    | nil => cases xs with
      | nil => simp [PyData.eqv, PyData.eqvAll]
      | cons => cases l
    | cons p ps => cases xs with
      | nil => cases l
      | cons => simp [PyData.eqv, PyData.eqvAll]
  have sh0 : SeqAt.shaped (.list []) = true := by simp [SeqAt.shaped, PyData.canLay0, PyData.canLayAll0, PyData.depth, PyData.depthAll]
  simp only [cmpD, dr, eqD]
  simp [flatD, eqP, pd, pds, e, sh, sh0, ev]
theorem pds_l : ∀ {zs : List Plc}, ∃ ps, pds (zs.map lD) = some ps ∧ ps.length = (zs.map lD).length ∧ ∀ p ∈ ps, p.canLay0 = true ∧ p.depth ≤ 60
  | [] => ⟨[], rfl, rfl, fun _ h => nomatch h⟩
  | z :: zs => by
    obtain ⟨ps, e, l, h⟩ := pds_l (zs := zs)
    refine ⟨.tuple [.int z.1, .int z.2.1, .int z.2.2] :: ps, ?_, by simp [l], fun p hp => ?_⟩
    · simp only [List.map_cons, pds, e]
      simp [lD, pd, pds]
    · rcases List.mem_cons.mp hp with rfl | hp
      · simp [PyData.canLay0, PyData.canLayAll0, PyData.depth, PyData.depthAll]
      · exact h p hp
theorem pds_w : ∀ {ws : List (Pnt × Pnt)}, ∃ ps, pds (ws.map wD) = some ps ∧ ps.length = (ws.map wD).length ∧ ∀ p ∈ ps, p.canLay0 = true ∧ p.depth ≤ 60
  | [] => ⟨[], rfl, rfl, fun _ h => nomatch h⟩
  | w :: ws => by
    obtain ⟨ps, e, l, h⟩ := pds_w (ws := ws)
    refine ⟨.tuple [.tuple [.int (ownP w.1).1, .int (ownP w.1).2.1, .int (ownP w.1).2.2], .tuple [.int (ownP w.2).1, .int (ownP w.2).2.1, .int (ownP w.2).2.2]] :: ps, ?_, by simp [l], fun p hp => ?_⟩
    · simp only [List.map_cons, pds, e]
      simp [wD, lD, pd, pds]
    · rcases List.mem_cons.mp hp with rfl | hp
      · simp [PyData.canLay0, PyData.canLayAll0, PyData.depth, PyData.depthAll]
      · exact h p hp
end K05

set_option maxHeartbeats 1000000
namespace K05
open PySem PySem.Spec PyProof.Rows L2 Dn
variable {n k j : Nat} {S : Sto}
theorem pl_up {a b : Nat} {z : Plc} (h : Pl a b z) (ha : a ≤ 246) (hb : b ≤ 224) : Pl 246 224 z := h.mono ha hb
theorem tells_len {P : Geo.Q2 → Prop} {L : List Geo.Q2} (t : Geo.Tells P L) : L.length ≤ 2 := by cases t <;> simp
abbrev any1 : CS := .ife (.and (.cmp .Lt (.var 4) (.int 4)) (.cmp .NotEq (.var 2) (.lst none []))) [.par 6 7 (.call "_law_one_of" [.var 0, .var 2]) (.call "_law_one_of" [.var 0, .var 2]), .asg (.name 5) (.ite (.cmp .Eq (.var 4) (.int 2)) (.call "_law_meet" [.var 6, .var 7]) (.ite (.cmp .Eq (.var 4) (.int 1)) (.lst none [.ix (.var 6) (.int 0)]) (.lst none []))), .ife (.cmp .NotEq (.var 5) (.lst none [])) [.ret (.call "_law_one_of" [.var 0, .var 5])] [], .ret (.ite (.cmp .Eq (.var 4) (.int 0)) (.call "_law_middle" [.ix (.var 6) (.int 0), .ix (.var 6) (.int 1)]) (.call "_law_middle" [.ix (.var 7) (.int 0), .ix (.var 6) (.int 1)]))] []
abbrev any2 : CS := .ife (.and (.cmp .Eq (.var 4) (.int 4)) (.cmp .NotEq (.var 3) (.lst none []))) [.ret (.call "_law_one_of" [.var 0, .var 3])] []
abbrev any3 : CS := .ret (.call "_law_own" [.call "_law_dot" [.var 0, .var 1]])
abbrev anyE (k : Nat) (f : Geo.Frm) (ws : List (Pnt × Pnt)) (zs : List Plc) (b : Int) : En := [some (.ref k), some f.d, some (.lst (ws.map wD)), some (.lst (zs.map lD)), some (.int b), none, none, none]
theorem cmp_i {a b : Int} {S : Sto} : cmpD S .Eq (.int a) (.int b) = some (decide (a = b)) := by simp [cmpD, dr, eqD, flatD, scal, vD]
theorem any_walls {f : Geo.Frm} {ws : List (Pnt × Pnt)} {zs : List Plc} {b : Int} (hw : ∀ w ∈ ws, Seg w.1 w.2) (hn : ws ≠ []) (hl : ws.length ≤ 1000) (hb : 0 ≤ b ∧ b < 4) (w : Sp k j S) (hj : j + 20 < 100000000) :
    ∃ z S', exS (geN tb PT (n + 5)) any1 (anyE k f ws zs b) S = some (.rt (lD z), S') ∧ Pl 246 224 z ∧ Sp k (j + 3) S' ∧ Same k S S' := by
  have lp : 0 < (ws.map wD).length := by rw [List.length_map]; exact List.length_pos_iff.mpr hn
  obtain ⟨d1, hd1, S1, e1, w1, s1⟩ := Geo.one_of_l (tb := tb) (n := n + 3) hT.toHasD w (by omega) (xs := ws.map wD) lp (by rw [List.length_map]; omega)
  obtain ⟨d2, hd2, S2, e2, w2, s2⟩ := Geo.one_of_l (tb := tb) (n := n + 3) hT.toHasD w1 (by omega) (xs := ws.map wD) lp (by rw [List.length_map]; omega)
  obtain ⟨u, hu, rfl⟩ := List.mem_map.mp hd1
  obtain ⟨v, hv, rfl⟩ := List.mem_map.mp hd2
  have gu := hw u hu
  have gv := hw v hv
  have nn : cmpD S .NotEq (.lst (ws.map wD)) (.lst []) = some true := by
    rw [ne_nil pds_w]
    cases ws with
    | nil => exact absurd rfl hn
    | cons => rfl
  have t1 : evT (geN tb PT (n + 5)) (.and (.cmp .Lt (.var 4) (.int 4)) (.cmp .NotEq (.var 2) (.lst none []))) (anyE k f ws zs b) S = some (true, S) := by
    have c : cmpD S .Lt (.int b) (.int 4) = some true := by simp only [cmpD]; rw [decide_eq_true hb.2]
    simp [c, nn]
  have c1 : exS (geN tb PT (n + 5)) (.par 6 7 (.call "_law_one_of" [.var 0, .var 2]) (.call "_law_one_of" [.var 0, .var 2])) (anyE k f ws zs b) S = some (.nx [some (.ref k), some f.d, some (.lst (ws.map wD)), some (.lst (zs.map lD)), some (.int b), none, some (wD u), some (wD v)], S2) := by simp [e1, e2]
  have me := meet_eq (n := n + 1) (S := S2) (pe_own gu.a) (pe_own gu.b) (pe_own gv.a) (pe_own gv.b) (own_ne gu.a gu.b gu.ne) (own_ne gv.a gv.b gv.ne)
  have mp := meet_pl (pe_own gu.a) (pe_own gu.b) (pe_own gv.a) (pe_own gv.b) (own_ne gu.a gu.b gu.ne) (own_ne gv.a gv.b gv.ne)
  have ml : (meetV (ownP u.1) (ownP u.2) (ownP v.1) (ownP v.2)).length ≤ 2 := by
    have t := (meet_own gu gv).1
    have := tells_len t
    simpa using this
  change callN tb PT (n + 5) "_law_meet" [wD u, wD v] S2 = _ at me
  generalize meetV (ownP u.1) (ownP u.2) (ownP v.1) (ownP v.2) = ms at me mp ml
  have ix : ∀ (w : Pnt × Pnt) (S : Sto), ixD S (wD w) (.int 0) = some (lD (ownP w.1)) ∧ ixD S (wD w) (.int 1) = some (lD (ownP w.2)) := fun _ _ => ⟨rfl, rfl⟩
  have so : ∃ ss : List Plc, exS (geN tb PT (n + 5)) (.asg (.name 5) (.ite (.cmp .Eq (.var 4) (.int 2)) (.call "_law_meet" [.var 6, .var 7]) (.ite (.cmp .Eq (.var 4) (.int 1)) (.lst none [.ix (.var 6) (.int 0)]) (.lst none [])))) [some (.ref k), some f.d, some (.lst (ws.map wD)), some (.lst (zs.map lD)), some (.int b), none, some (wD u), some (wD v)] S2 =
      some (.nx [some (.ref k), some f.d, some (.lst (ws.map wD)), some (.lst (zs.map lD)), some (.int b), some (.lst (ss.map lD)), some (wD u), some (wD v)], S2) ∧ (∀ z ∈ ss, Pl 246 224 z) ∧ ss.length ≤ 2 := by
    by_cases h2 : b = 2
    · exact ⟨ms, by subst h2; simp [cmp_i, me], mp, ml⟩
    · by_cases h1 : b = 1
      · exact ⟨[ownP u.1], by subst h1; simp [cmp_i, ix], fun z hz => by rw [List.mem_singleton.mp hz]; exact pl_up (pe_own gu.a) (by omega) (by omega), by simp⟩
      · exact ⟨[], by simp [cmp_i, h1, h2], fun _ h => (nomatch h), by simp⟩
  obtain ⟨ss, c2, hs, sl⟩ := so
  have c3 := ne_nil (xs := ss.map lD) (S := S2) pds_l
  cases ss with
  | cons a r =>
    obtain ⟨d, hd, S3, e3, w3, s3⟩ := Geo.one_of_l (tb := tb) (n := n + 3) hT.toHasD w2 (by omega) (xs := (a :: r).map lD) (by simp) (by rw [List.length_map]; omega)
    obtain ⟨z, hz, rfl⟩ := List.mem_map.mp hd
    refine ⟨z, S3, ?_, hs z hz, w3, (s1.trans s2).trans s3⟩
    rw [x_if, t1, bnd_some]
    dsimp only
    rw [if_pos rfl]
    refine ex_st c1 (ex_st c2 ?_)
    refine ex_rt' ?_
    generalize (a :: r).map lD = xs at *
    have c4 : cmpD S2 .NotEq (.lst xs) (.lst []) = some true := by
      rw [c3]
      cases xs with
      | nil => cases hd
      | cons => rfl
    simp [c4, e3]
  | nil =>
    have pu0 := pe_own gu.a
    have pu1 := pe_own gu.b
    have pv0 := pe_own gv.a
    obtain ⟨z1, m1, l1⟩ := middle (n := n + 2) (S := S2) pu0 pu1
    obtain ⟨z2, m2, l2⟩ := middle (n := n + 2) (S := S2) pv0 pu1
    have c4 : cmpD S2 .NotEq (.lst []) (.lst []) = some false := c3
    by_cases h0 : b = 0
    · refine ⟨z1, S2, ?_, pl_up l1 (by omega) (by omega), w2.mono (by omega), s1.trans s2⟩
      rw [x_if, t1, bnd_some]
      dsimp only
      rw [if_pos rfl]
      refine ex_st c1 (ex_st c2 ?_)
      refine ex_st (δ1 := [some (.ref k), some f.d, some (.lst (ws.map wD)), some (.lst (zs.map lD)), some (.int b), some (.lst []), some (wD u), some (wD v)]) (S1 := S2) (by simp [c4]) ?_
      exact ex_rt (by subst h0; simp [cmp_i, ix, m1])
    · refine ⟨z2, S2, ?_, pl_up l2 (by omega) (by omega), w2.mono (by omega), s1.trans s2⟩
      rw [x_if, t1, bnd_some]
      dsimp only
      rw [if_pos rfl]
      refine ex_st c1 (ex_st c2 ?_)
      refine ex_st (δ1 := [some (.ref k), some f.d, some (.lst (ws.map wD)), some (.lst (zs.map lD)), some (.int b), some (.lst []), some (wD u), some (wD v)]) (S1 := S2) (by simp [c4]) ?_
      exact ex_rt (by simp [cmp_i, h0, ix, m2])
theorem any_place {f : Geo.Frm} (hf : Geo.FrmOk f) {ws : List (Pnt × Pnt)} {zs : List Plc} (hw : ∀ w ∈ ws, Seg w.1 w.2) (hl : ws.length ≤ 1000) (hz : ∀ z ∈ zs, Pl 246 224 z) (hl2 : zs.length ≤ 1000) (w : Sp k j S) (hj : j + 30 < 100000000) :
    ∃ z S', callN tb PT (n + 6) "_law_any_place" [.ref k, f.d, .lst (ws.map wD), .lst (zs.map lD)] S = some (lD z, S') ∧ Pl 246 224 z ∧ Sp k (j + 10) S' ∧ Same k S S' := by
  obtain ⟨b, S1, e1, b0, b1, w1, s1⟩ := Geo.draw (tb := tb) (n := n + 4) hT.toHasD w (by omega) (m := 7) (by omega) (by omega)
  have st : startD c_law_any_place.N.length [.ref k, f.d, .lst (ws.map wD), .lst (zs.map lD)] = [some (.ref k), some f.d, some (.lst (ws.map wD)), some (.lst (zs.map lD)), none, none, none, none] := rfl
  have bd : c_law_any_place.body = [.asg (.name 4) (.call "_law_draw" [.var 0, .int 7]), any1, any2, any3] := rfl
  have c0 : exS (geN tb PT (n + 5)) (.asg (.name 4) (.call "_law_draw" [.var 0, .int 7])) [some (.ref k), some f.d, some (.lst (ws.map wD)), some (.lst (zs.map lD)), none, none, none, none] S = some (.nx (anyE k f ws zs b), S1) := by simp [e1]
  have go : ∀ {z : Plc} {S' : Sto}, exSs (geN tb PT (n + 5)) [any1, any2, any3] (anyE k f ws zs b) S1 = some (.rt (lD z), S') → Same k S S' → callN tb PT (n + 6) "_law_any_place" [.ref k, f.d, .lst (ws.map wD), .lst (zs.map lD)] S = some (lD z, S') := fun {z S'} h s => by
    have bE := ex_st c0 h
    rw [q_of l_any rfl, st, bd, bE, bnd_some]
    exact gc_same (by rw [s.1]; exact Nat.le_refl _)
  by_cases h1 : b < 4 ∧ ws ≠ []
  · obtain ⟨z, S2, e2, pz, w2, s2⟩ := any_walls (n := n) (f := f) (zs := zs) hw h1.2 hl ⟨b0, h1.1⟩ w1 (by omega)
    exact ⟨z, S2, go (ex_rt' e2) (s1.trans s2), pz, w2.mono (by omega), s1.trans s2⟩
  · have c1 : exS (geN tb PT (n + 5)) any1 (anyE k f ws zs b) S1 = some (.nx (anyE k f ws zs b), S1) := by
      by_cases hb : b < 4
      · have he : ws = [] := Classical.byContradiction fun q => h1 ⟨hb, q⟩
        have c : cmpD S1 .Lt (.int b) (.int 4) = some true := by simp only [cmpD]; rw [decide_eq_true hb]
        have nn : cmpD S1 .NotEq (.lst (ws.map wD)) (.lst []) = some false := by rw [ne_nil pds_w, he]; rfl
        simp [c, nn]
      · have c : cmpD S1 .Lt (.int b) (.int 4) = some false := by simp only [cmpD]; rw [decide_eq_false hb]
        simp [c]
    by_cases h2 : b = 4 ∧ zs ≠ []
    · have lz : 0 < (zs.map lD).length := by rw [List.length_map]; exact List.length_pos_iff.mpr h2.2
      obtain ⟨d, hd, S2, e2, w2, s2⟩ := Geo.one_of_l (tb := tb) (n := n + 3) hT.toHasD w1 (by omega) (xs := zs.map lD) lz (by rw [List.length_map]; omega)
      obtain ⟨z, hz', rfl⟩ := List.mem_map.mp hd
      refine ⟨z, S2, go (ex_st c1 (ex_rt' ?_)) (s1.trans s2), hz z hz', w2.mono (by omega), s1.trans s2⟩
      have nn : cmpD S1 .NotEq (.lst (zs.map lD)) (.lst []) = some true := by
        rw [ne_nil pds_l]
        generalize zs.map lD = xs at lz
        cases xs with
        | nil => simp at lz
        | cons => rfl
      have h4 := h2.1
      simp [cmp_i, h4, nn, e2]
    · have c2 : exS (geN tb PT (n + 5)) any2 (anyE k f ws zs b) S1 = some (.nx (anyE k f ws zs b), S1) := by
        by_cases hb : b = 4
        · have he : zs = [] := Classical.byContradiction fun q => h2 ⟨hb, q⟩
          have nn : cmpD S1 .NotEq (.lst (zs.map lD)) (.lst []) = some false := by rw [ne_nil pds_l, he]; rfl
          simp [cmp_i, hb, nn]
        · simp [cmp_i, hb]
      obtain ⟨P, S2, e2, hP, w2, s2⟩ := Geo.dot (tb := tb) (n := n + 1) (S := S1) hT.toHasD hF hf w1 (by omega)
      have e3 := Geo.own (tb := tb) (n := n + 2) (S := S2) hT hP (by omega)
      refine ⟨ownP P, S2, go (ex_st c1 (ex_st c2 (ex_rt ?_))) (s1.trans s2), ?_, w2.mono (by omega), s1.trans s2⟩
      · simp [e2, e3]
        rfl
      · exact pl_up (red3_pl (a := 52) (b := 52) (Int.mul_pos hP.1.pos hP.2.pos) (hP.1.l1.mul hP.2.l2) (hP.2.l1.mul hP.1.l2) (hP.1.l2.mul hP.2.l2)) (by omega) (by omega)
end K05

set_option maxHeartbeats 1000000
namespace K05
open PySem PySem.Spec PyProof.Rows L2 Dn
variable {n k j : Nat} {S : Sto}
/-! what repr tells -/
theorem shw_f {a b : Nat} {p : Int × Int} (h : F2 a b p) (ha : a ≤ 1000) (hb : b ≤ 1000) : Shw 1 3849 (.tuple [.int p.1, .int p.2]) := by
  have e : ∀ {c : Nat} {i : Int}, Lt c i → c ≤ 1000 → i.natAbs.log2 < 1920 := fun {c i} h hc => by
    have := log_lt (n := i.natAbs) (k := 1000) (h.mono hc) (by omega)
    omega
  have := shw_tup (e := 0) (b := 1921) (ps := [.int p.1, .int p.2]) fun q hq => by
    simp at hq
    rcases hq with rfl | rfl
    · exact shw_int (e h.l1 ha)
    · exact shw_int (e h.l2 hb)
  exact this.mono (by omega) (by simp)
def pP (P : Pnt) : PyData := .tuple [.tuple [.int P.1.1, .int P.1.2], .tuple [.int P.2.1, .int P.2.2]]
theorem pd_pD {P : Pnt} : pd (pD P) = some (pP P) := by simp [pD, fD, pd, pds, pP]
theorem shw_p {a b : Nat} {P : Pnt} (h : P2 a b P) (ha : a ≤ 1000) (hb : b ≤ 1000) : Shw 2 7705 (pP P) := by
  have := shw_tup (e := 1) (b := 3849) (ps := [.tuple [.int P.1.1, .int P.1.2], .tuple [.int P.2.1, .int P.2.2]]) fun q hq => by
    simp at hq
    rcases hq with rfl | rfl
    · exact shw_f h.1 ha hb
    · exact shw_f h.2 ha hb
  exact this.mono (by omega) (by simp)
theorem pds_pD : ∀ {L : List Pnt}, pds (L.map pD) = some (L.map pP)
  | [] => rfl
  | P :: L => by simp only [List.map_cons, pds, pd_pD, pds_pD (L := L), Option.bind_some, Option.map_some]
theorem pd_due {L : List Pnt} : pd (.tup (L.map pD)) = some (.tuple (L.map pP)) := by simp only [pd, pds_pD, Option.map_some]
/-! a place against the two -/
theorem far_on {A B : Pnt} {z : Plc} (h : Seg A B) (hz : Pl 246 224 z) : onB A B (toldP z) = liesV (ownP A) (ownP B) z := by
  have t := told_p2 hz
  unfold onB
  rw [on_lies (k := 246) (h.a.pt (by omega) (by omega)) (h.b.pt (by omega) (by omega)) (t.pt (by omega) (by omega)), own_told hz.p]
end K05

set_option maxHeartbeats 1000000
namespace Dn
open PySem PySem.Spec PyProof.Rows L2
/-! ### loops over lists of another kind -/
theorem for_m {α : Type} {g : α → D} {w : Wk} {turn : D → En → Sto → Option (Fl × Sto)} {I : List α → En → Sto → Prop} (hw : ∀ pre δ S, I pre δ S → okW w S) : ∀ {ys pre : List α} {δ : En} {S : Sto},
    (∀ p y r δ S, ys = p ++ y :: r → I (pre ++ p) δ S → ∃ δ' S', turn (g y) δ S = some (.nx δ', S') ∧ I (pre ++ p ++ [y]) δ' S') → I pre δ S → ∃ δ' S', loopFor w turn (ys.map g) δ S = some (.nx δ', S') ∧ I (pre ++ ys) δ' S'
  | [], pre, δ, S, _, h0 => ⟨δ, S, by unfold loopFor; simp only [List.map_nil]; rw [if_pos (hw _ δ S h0)], by simpa using h0⟩
  | y :: ys, pre, δ, S, h, h0 => by
    obtain ⟨δ1, S1, e1, h1⟩ := h [] y ys δ S rfl (by simpa using h0)
    obtain ⟨δ2, S2, e2, h2⟩ := for_m hw (ys := ys) (pre := pre ++ [y]) (δ := δ1) (S := S1) (fun p z r δ S e q => by
      have := h (y :: p) z r δ S (by rw [e]; rfl) (by simpa using q)
      simpa using this) (by simpa using h1)
    refine ⟨δ2, S2, ?_, by simpa using h2⟩
    simp only [List.map_cons]
    unfold loopFor
    rw [if_pos (hw _ δ S h0), e1, Option.bind_some]
    exact e2
theorem for_e {α : Type} {g : α → D} {w : Wk} {turn : D → En → Sto → Option (Fl × Sto)} {I : List α → En → Sto → Prop} (hw : ∀ pre δ S, I pre δ S → okW w S) : ∀ {ys pre : List α} {δ : En} {S : Sto},
    (∀ p y r δ S, ys = p ++ y :: r → I (pre ++ p) δ S → ∃ δ' S', turn (.tup [.int ((pre ++ p).length : Nat), g y]) δ S = some (.nx δ', S') ∧ I (pre ++ p ++ [y]) δ' S') → I pre δ S → ∃ δ' S', loopFor w turn (enmD pre.length (ys.map g)) δ S = some (.nx δ', S') ∧ I (pre ++ ys) δ' S'
  | [], pre, δ, S, _, h0 => ⟨δ, S, by simp only [List.map_nil, enmD]; unfold loopFor; rw [if_pos (hw _ δ S h0)], by simpa using h0⟩
  | y :: ys, pre, δ, S, h, h0 => by
    obtain ⟨δ1, S1, e1, h1⟩ := h [] y ys δ S rfl (by simpa using h0)
    obtain ⟨δ2, S2, e2, h2⟩ := for_e hw (ys := ys) (pre := pre ++ [y]) (δ := δ1) (S := S1) (fun p z r δ S e q => by
      have := h (y :: p) z r δ S (by rw [e]; rfl) (by simpa using q)
      simpa using this) (by simpa using h1)
    refine ⟨δ2, S2, ?_, by simpa using h2⟩
    simp only [List.map_cons, enmD]
    unfold loopFor
    rw [List.append_nil] at e1
    rw [if_pos (hw _ δ S h0), e1, Option.bind_some]
    rw [List.length_append, List.length_singleton] at e2
    exact e2
/-- the places of those that are so -/
def rowL {α : Type} (f : α → Bool) : Nat → List α → List Nat
  | _, [] => []
  | m, x :: r => if f x = true then m :: rowL f (m + 1) r else rowL f (m + 1) r
theorem rowL_len {α : Type} {f : α → Bool} : ∀ {L : List α} {m : Nat}, (rowL f m L).length ≤ L.length
  | [], m => Nat.le_refl _
  | x :: r, m => by
    unfold rowL
    have := rowL_len (f := f) (L := r) (m := m + 1)
    split
    · exact Nat.succ_le_succ this
    · exact Nat.le_succ_of_le this
theorem rowL_map {α β : Type} {f : β → Bool} {h : α → β} {f' : α → Bool} : ∀ {L : List α} {m : Nat}, (∀ x ∈ L, f (h x) = f' x) → rowL f m (L.map h) = rowL f' m L
  | [], m, _ => rfl
  | x :: r, m, q => by
    simp only [List.map_cons]
    unfold rowL
    rw [q x (List.mem_cons_self ..), rowL_map fun y hy => q y (List.mem_cons_of_mem _ hy)]
theorem rowL_congr {α : Type} {f f' : α → Bool} {L : List α} {m : Nat} (q : ∀ x ∈ L, f x = f' x) : rowL f m L = rowL f' m L := by
  have := rowL_map (f := f) (h := fun x => x) (f' := f') (L := L) (m := m) q
  simpa using this
theorem row_lc {α : Type} {g : α → D} {f : α → Bool} {w : Wk} {turn : D → Sto → Option (Option D × Sto)} {S : Sto} (hw : okW w S) : ∀ {L : List α} {m : Nat}, (∀ (i : Nat), ∀ y ∈ L, turn (.tup [.int (i : Int), g y]) S = some (if f y = true then some (iD i) else none, S)) → loopLc w turn (enmD m (L.map g)) S = some ((rowL f m L).map iD, S)
  | [], m, _ => by simp only [List.map_nil, enmD]; unfold loopLc; rw [if_pos hw]; rfl
  | y :: r, m, h => by
    simp only [List.map_cons, enmD]
    unfold loopLc rowL
    rw [if_pos hw, h m y (List.mem_cons_self ..), Option.bind_some]
    show Option.map _ (loopLc w turn (enmD (m + 1) (r.map g)) S) = _
    rw [row_lc hw fun i z hz => h i z (List.mem_cons_of_mem _ hz)]
    cases f y <;> simp
theorem loop_flat {α : Type} {g : α → D} {f : α → List D} {w : Wk} {turn : D → Sto → Option (List D × Sto)} {S : Sto} (hw : okW w S) : ∀ {ys : List α}, (∀ y ∈ ys, turn (g y) S = some (f y, S)) → loopLn w turn (ys.map g) S = some ((ys.map f).flatten, S)
  | [], _ => by unfold loopLn; simp only [List.map_nil]; rw [if_pos hw]; rfl
  | y :: ys, h => by
    simp only [List.map_cons]
    unfold loopLn
    rw [if_pos hw, h y (List.mem_cons_self ..), Option.bind_some, loop_flat hw fun z hz => h z (List.mem_cons_of_mem _ hz)]
    rfl
theorem cut_1 {xs : List D} : cutD xs (some 1) none = xs.tail := by
  cases xs with
  | nil => simp [cutD]
  | cons x r => exact cut_tail
theorem zipN_i : ∀ {a b : List Nat}, zipNt (a.map iD) (b.map iD) = (a.zip b).map fun q => D.ntup [iD q.1, iD q.2]
  | [], b => by simp [zipNt]
  | x :: a, [] => by simp [zipNt]
  | x :: a, y :: b => by simp [zipNt, zipN_i (a := a) (b := b)]
theorem zipD_i : ∀ {a b : List Nat}, zipD (a.map iD) (b.map iD) = (a.zip b).map fun q => D.tup [iD q.1, iD q.2]
  | [], b => by simp [zipD]
  | x :: a, [] => by simp [zipD]
  | x :: a, y :: b => by simp [zipD, zipD_i (a := a) (b := b)]
theorem pw_uniq {α : Type} {R : α → α → Prop} (as : ∀ a b, R a b → ¬ R b a) : ∀ {l m : List α}, l.Pairwise R → m.Pairwise R → (∀ z, z ∈ l ↔ z ∈ m) → l = m
  | [], [], _, _, _ => rfl
  | [], y :: m, _, _, h => absurd ((h y).mpr (List.mem_cons_self ..)) (by simp)
  | x :: l, [], _, _, h => absurd ((h x).mp (List.mem_cons_self ..)) (by simp)
  | x :: l, y :: m, hl, hm, h => by
    obtain ⟨l1, l2⟩ := List.pairwise_cons.mp hl
    obtain ⟨m1, m2⟩ := List.pairwise_cons.mp hm
    have e : x = y := by
      rcases List.mem_cons.mp ((h x).mp (List.mem_cons_self ..)) with e | hx
      · exact e
      · rcases List.mem_cons.mp ((h y).mpr (List.mem_cons_self ..)) with e | hy
        · exact e.symm
        · exact absurd (l1 y hy) (as _ _ (m1 x hx))
    subst e
    have ir : ∀ a, ¬ R a a := fun a q => as a a q q
    rw [pw_uniq as l2 m2 fun z => ⟨fun hz => ?_, fun hz => ?_⟩]
    · rcases List.mem_cons.mp ((h z).mp (List.mem_cons_of_mem _ hz)) with e | q
      · exact absurd (e ▸ l1 z hz) (ir _)
      · exact q
    · rcases List.mem_cons.mp ((h z).mpr (List.mem_cons_of_mem _ hz)) with e | q
      · exact absurd (e ▸ m1 z hz) (ir _)
      · exact q
/-! ### a dict of pairs -/
def kk (q : Nat × Nat) : List Key := [.inl (q.1 : Int), .inl (q.2 : Int)]
def eD (q : Nat × Nat) : D := .tup [iD q.1, iD q.2]
def tt (_ : Nat × Nat) : D := .bl true
def putK (K : List (Nat × Nat)) (q : Nat × Nat) : List (Nat × Nat) := if q ∈ K then K else K ++ [q]
theorem kk_inj {p q : Nat × Nat} (h : kk p = kk q) : p = q := by
  unfold kk at h
  simp at h
  exact Prod.ext (by omega) (by omega)
theorem kk_any {K : List (Nat × Nat)} {q : Nat × Nat} : ((K.map kk).any fun k => decide (k = kk q)) = decide (q ∈ K) := by
  rw [List.any_map]
  by_cases h : q ∈ K
  · rw [decide_eq_true h]
    exact List.any_eq_true.mpr ⟨q, h, by simp⟩
  · rw [decide_eq_false h]
    refine List.any_eq_false.mpr fun p hp z => h ?_
    simp only [Function.comp, decide_eq_true_eq] at z
    rw [← kk_inj z]
    exact hp
theorem put_ks {K : List (Nat × Nat)} {q : Nat × Nat} : putKs (K.map kk) (kk q) = (putK K q).map kk := by
  unfold putKs putK
  rw [kk_any]
  by_cases h : q ∈ K
  · simp [h]
  · simp [h]
theorem put_xs {K : List (Nat × Nat)} {q : Nat × Nat} : putXs (K.map kk) (K.map tt) (kk q) (.bl true) = (putK K q).map tt := by
  unfold putXs putK
  rw [kk_any]
  by_cases h : q ∈ K
  · simp only [h, decide_true, ↓reduceIte]
    rw [List.zip_map', List.map_map]
    refine List.map_congr_left fun p _ => ?_
    simp only [Function.comp, tt]
    split <;> rfl
  · simp [h, tt]
theorem set_pair {S : Sto} {m : Nat} {kp : Bool} {K : List (Nat × Nat)} {q : Nat × Nat} (h : S[m]? = some (.dct kp (K.map kk) (K.map tt))) (hl : K.length < 16777215) :
    setD S (.rfd m) (.ntup [iD q.1, iD q.2]) (.bl true) = some (S.set m (.dct kp ((putK K q).map kk) ((putK K q).map tt))) := by
  have e : keyD [iD q.1, iD q.2] = some (kk q) := rfl
  simp only [setD, h, e, Option.bind_some, List.length_map, hl, ↓reduceIte, put_ks, put_xs]
theorem mem_putK {K : List (Nat × Nat)} {q z : Nat × Nat} : z ∈ putK K q ↔ z ∈ K ∨ z = q := by
  unfold putK
  by_cases h : q ∈ K
  · rw [if_pos h]
    exact ⟨.inl, fun z => z.elim id fun e => e ▸ h⟩
  · rw [if_neg h]; simp
theorem nd_putK {K : List (Nat × Nat)} {q : Nat × Nat} (h : K.Nodup) : (putK K q).Nodup := by
  unfold putK
  by_cases g : q ∈ K
  · rw [if_pos g]; exact h
  · rw [if_neg g]
    exact List.nodup_append.mpr ⟨h, by simp, fun a ha b hb e => g (by rw [List.mem_singleton.mp hb] at e; exact e ▸ ha)⟩
theorem len_putK {K : List (Nat × Nat)} {q : Nat × Nat} : (putK K q).length ≤ K.length + 1 := by
  unfold putK
  split <;> simp
def leE (p q : Nat × Nat) : Bool := decide (p.1 < q.1 ∨ (p.1 = q.1 ∧ p.2 ≤ q.2))
def ltE (p q : Nat × Nat) : Prop := p.1 < q.1 ∨ (p.1 = q.1 ∧ p.2 < q.2)
def eP (q : Nat × Nat) : PyData := .tuple [.int (q.1 : Int), .int (q.2 : Int)]
theorem pds_e : ∀ {K : List (Nat × Nat)}, pds (K.map eD) = some (K.map eP)
  | [] => rfl
  | q :: K => by
    simp only [List.map_cons, pds, pds_e (K := K)]
    simp [eD, iD, pd, pds, eP]
theorem srtOk_e {K : List (Nat × Nat)} : srtOk (K.map eP) = true := by
  unfold srtOk
  rw [Bool.and_eq_true, Bool.and_eq_true]
  refine ⟨⟨?_, ?_⟩, ?_⟩
  · simp [List.all_map, eP, PySem.W.alike, PySem.W.alikeAll]
  · rw [Bool.or_eq_true]
    left
    simp [List.all_map, eP, tupC]
  · simp [List.all_map, eP, PyData.depth, PyData.depthAll]
theorem kd_e {q : Nat × Nat} : kD (eD q) = .inl 1 :: .inl (q.1 : Int) :: .inl 1 :: .inl (q.2 : Int) :: (PySem.W.keyToksAll []) := by
  simp [kD, eD, iD, pd, pds, PySem.W.keyToks, PySem.W.keyToksAll]
theorem key_e {p q : Nat × Nat} : PyProof.Rows.lexLt PyProof.Rows.itemOrd (kD (eD p)) (kD (eD q)) = true ↔ ltE p q := by
  have it : ∀ {x y : Int}, PyProof.Rows.itemOrd.blt (.inl x) (.inl y) = decide (x < y) := fun {x y} => rfl
  rw [kd_e, kd_e, lex_self (O := itemOrd)]
  unfold ltE
  by_cases h1 : (p.1 : Int) = q.1
  · rw [h1, lex_self (O := itemOrd), lex_self (O := itemOrd)]
    by_cases h2 : (p.2 : Int) = q.2
    · rw [h2, lex_irrefl]
      constructor
      · intro h; cases h
      · intro h; omega
    · rw [lex_diff (O := itemOrd) (by simpa using h2), it, decide_eq_true_eq]
      omega
  · rw [lex_diff (O := itemOrd) (by simpa using h1), it, decide_eq_true_eq]
    omega
theorem leE_ok : PySem.W.TotalLe leE := by
  refine ⟨fun a b c h g => ?_, fun a b => ?_⟩
  · unfold leE at *
    rw [decide_eq_true_eq] at *
    omega
  · unfold leE
    rw [decide_eq_true_eq, decide_eq_true_eq]
    omega
theorem srt_e {K : List (Nat × Nat)} : srtD (K.map eD) = (K.mergeSort leE).map eD := by
  unfold srtD
  refine (PySem.W.sort_maps eD fun p hp q hq' => ?_).symm
  have k := key_e (p := q) (q := p)
  show leE p q = !PyProof.Rows.lexLt PyProof.Rows.itemOrd (kD (eD q)) (kD (eD p))
  by_cases c : ltE q p
  · rw [k.mpr c]
    cases e : leE p q
    · rfl
    · unfold leE at e
      unfold ltE at c
      rw [decide_eq_true_eq] at e
      omega
  · rw [(Bool.not_eq_true _).mp (mt k.mp c)]
    unfold leE
    unfold ltE at c
    simp only [Bool.not_false, decide_eq_true_eq]
    omega
theorem sorted_e {S : Sto} {m : Nat} {kp : Bool} {K : List (Nat × Nat)} {xs : List D} (h : S[m]? = some (.dct kp (K.map kk) xs)) : bltD S "sorted" [.rfd m] = some (.lst ((K.mergeSort leE).map eD)) := by
  have e : (K.map kk).map (fun q => D.tup (keyOf q)) = K.map eD := by rw [List.map_map]; rfl
  simp [bltD, h, e, pds_e, srtOk_e, srt_e]
/-- the keys, ascending, each once -/
theorem sorted_uniq {K M : List (Nat × Nat)} (hK : K.Nodup) (hM : M.Nodup) (h : ∀ z, z ∈ K ↔ z ∈ M) : K.mergeSort leE = M.mergeSort leE := by
  have pw : ∀ {K : List (Nat × Nat)}, K.Nodup → (K.mergeSort leE).Pairwise ltE := fun {K} hK => by
    have p1 := PySem.W.sort_pairwise leE_ok K
    have p2 : (K.mergeSort leE).Nodup := (List.mergeSort_perm K leE).nodup_iff.mpr hK
    refine (List.pairwise_and_iff.mpr ⟨p1, p2⟩).imp fun {a b} ⟨q1, q2⟩ => ?_
    unfold leE at q1
    rw [decide_eq_true_eq] at q1
    rcases q1 with z | ⟨z1, z2⟩
    · exact .inl z
    · exact .inr ⟨z1, Nat.lt_of_le_of_ne z2 fun z3 => q2 (Prod.ext z1 z3)⟩
  refine pw_uniq (R := ltE) (fun a b h g => by unfold ltE at *; omega) (pw hK) (pw hM) fun z => ?_
  rw [(List.mergeSort_perm K leE).mem_iff, (List.mergeSort_perm M leE).mem_iff, h]
/-! ### a part that goes on downwards -/
theorem filter_cut {α : Type} {R : α → α → Prop} {p : α → Bool} : ∀ {L : List α}, (∀ a ∈ L, ∀ b ∈ L, R a b → p b = true → p a = true) → L.Pairwise R → (∀ x ∈ L.take (L.filter p).length, p x = true) ∧ ∀ x ∈ L.drop (L.filter p).length, p x = false
  | [], _, _ => ⟨fun _ h => (by simp at h), fun _ h => (by simp at h)⟩
  | x :: r, dn, h => by
    obtain ⟨h1, h2⟩ := List.pairwise_cons.mp h
    obtain ⟨a, b⟩ := filter_cut (fun a ha b hb => dn a (List.mem_cons_of_mem _ ha) b (List.mem_cons_of_mem _ hb)) h2
    cases hx : p x with
    | true =>
      rw [List.filter_cons, if_pos hx, List.length_cons, List.take_succ_cons, List.drop_succ_cons]
      refine ⟨fun y hy => ?_, b⟩
      rcases List.mem_cons.mp hy with rfl | hy
      · exact hx
      · exact a y hy
    | false =>
      have none' : ∀ y ∈ r, p y = false := fun y hy => by
        cases c : p y
        · rfl
        · rw [dn x (List.mem_cons_self ..) y (List.mem_cons_of_mem _ hy) (h1 y hy) c] at hx; cases hx
      have e : (x :: r).filter p = [] := List.filter_eq_nil_iff.mpr fun y hy => by
        rcases List.mem_cons.mp hy with rfl | hy
        · rw [hx]; simp
        · rw [none' y hy]; simp
      rw [e]
      refine ⟨fun y hy => (by simp at hy), fun y hy => ?_⟩
      simp only [List.length_nil, List.drop_zero] at hy
      rcases List.mem_cons.mp hy with rfl | hy
      · exact hx
      · exact none' y hy
end Dn

set_option maxHeartbeats 1000000
namespace K05
open PySem PySem.Spec PyProof.Rows L2 Dn
variable {n k j : Nat} {S : Sto}
theorem l_wp : PT.lookup ("with_point" : Str) = some c_p_with_point := lk (d := d_p_with_point) (by simp only [defs, List.mem_cons, true_or, or_true])
theorem l_av : PT.lookup ("all_vertices" : Str) = some c_p_all_vertices := lk (d := d_p_all_vertices) (by simp only [defs, List.mem_cons, true_or, or_true])
theorem eqv_pP {P Q : Pnt} : PyData.eqv (pP Q) (pP P) = decide (Q = P) := by
  obtain ⟨⟨a, b⟩, ⟨c, d⟩⟩ := P
  obtain ⟨⟨x, y⟩, ⟨z, w⟩⟩ := Q
  simp [pP, PyData.eqv, PyData.eqvAll]
  by_cases h1 : x = a <;> by_cases h2 : y = b <;> by_cases h3 : z = c <;> by_cases h4 : w = d <;> simp [h1, h2, h3, h4]
theorem shaped_pP {P : Pnt} : SeqAt.shaped (pP P) = true := by
  simp [SeqAt.shaped, pP, PyData.canLay0, PyData.canLayAll0, PyData.depth, PyData.depthAll]
theorem shaped_pts {L : List Pnt} : SeqAt.shaped (.list (L.map pP)) = true := by
  have c : PyData.canLayAll0 (L.map pP) = true := canAll fun p h => by
    obtain ⟨P, _, rfl⟩ := List.mem_map.mp h
    simp [pP, PyData.canLay0, PyData.canLayAll0]
  have d : PyData.depthAll (L.map pP) ≤ 2 := depAll fun p h => by
    obtain ⟨P, _, rfl⟩ := List.mem_map.mp h
    simp [pP, PyData.depth, PyData.depthAll]
  unfold SeqAt.shaped
  rw [Bool.and_eq_true, decide_eq_true_eq]
  simp only [PyData.canLay0, PyData.depth]
  exact ⟨c, by omega⟩
theorem in_pD {L : List Pnt} {P : Pnt} : cmpD S .In (pD P) (.lst (L.map pD)) = some (decide (P ∈ L)) := by
  have e : (L.map pP).any (fun z => PyData.eqv z (pP P)) = decide (P ∈ L) := by
    rw [List.any_map]
    by_cases h : P ∈ L
    · rw [decide_eq_true h]
      exact List.any_eq_true.mpr ⟨P, h, by simp [eqv_pP]⟩
    · rw [decide_eq_false h]
      refine List.any_eq_false.mpr fun Q hQ z => h ?_
      simp only [Function.comp, eqv_pP, decide_eq_true_eq] at z
      exact z ▸ hQ
  have f : flatD (pD P) = false := rfl
  simp only [cmpD, inD, items, Option.bind_some, f, Bool.false_and, Bool.false_eq_true, ↓reduceIte, pd_pD, pds_pD, shaped_pP, shaped_pts, Bool.and_self, e]
/-- a point more, where it belongs -/
def wpt (L : List Pnt) (P : Pnt) : List Pnt := if P ∈ L then L else L.take (L.filter fun Z => firstP Z P).length ++ [P] ++ L.drop (L.filter fun Z => firstP Z P).length
theorem cut_take {xs : List D} {m : Nat} : Dn.cutD xs none (some (m : Int)) = xs.take m := by
  unfold Dn.cutD
  rw [HT.sIx_none, HT.sIx_nat]
  simp
theorem cut_drop {xs : List D} {m : Nat} : Dn.cutD xs (some (m : Int)) none = xs.drop m := by
  unfold Dn.cutD
  rw [HT.sIx_none, HT.sIx_nat]
  by_cases h : m ≤ xs.length
  · rw [Nat.min_eq_left h, List.take_of_length_le (by simp)]
  · rw [List.drop_eq_nil_of_le (by omega), List.drop_eq_nil_of_le (by omega)]
    simp
theorem wp_eq {L : List Pnt} {P : Pnt} (hL : ∀ Z ∈ L, Pt 489 Z) (hP : Pt 489 P) (hl : L.length ≤ 100000) : callN tb PT (n + 3) "with_point" [.lst (L.map pD), pD P] S = some (.lst ((wpt L P).map pD), S) := by
  have i := in_pD (S := S) (L := L) (P := P)
  unfold wpt
  by_cases h : P ∈ L
  · rw [if_pos h]
    rw [decide_eq_true h] at i
    rw [q_of l_wp rfl]
    simp only [c_p_with_point]
    simp [startD, i, gc_same]
  · rw [if_neg h]
    rw [decide_eq_false h] at i
    have lp := loop_filter2 (w := ⟨L.map pD, none⟩) (turn := lcTurn (geN tb PT (n + 2)) (.var 2) (.name 2) [.call "comes_first" [.var 2, .var 1]] [2] [some (.lst (L.map pD)), some (pD P), none, none]) (S := S) (g := pD) (f := pD) (q := fun Z => firstP Z P) ok_none (ys := L) (fun Z hZ => by
      have e := first_eq (n := n) (S := S) (hL Z hZ) hP (by omega)
      cases c : firstP Z P <;> rw [c] at e <;> simp [lcTurn, wipeD, e, truD])
    have fl : (L.filter fun Z => firstP Z P).length ≤ L.length := List.length_filter_le ..
    generalize (L.filter fun Z => firstP Z P) = F at *
    have st : startD c_p_with_point.N.length [.lst (L.map pD), pD P] = [some (.lst (L.map pD)), some (pD P), none, none] := rfl
    have z1 : (F.map pD).length ≤ 16777216 := by rw [List.length_map]; omega
    have c1 : exS (geN tb PT (n + 2)) (.ife (.cmp .In (.var 1) (.var 0)) [.ret (.var 0)] []) [some (.lst (L.map pD)), some (pD P), none, none] S = some (.nx [some (.lst (L.map pD)), some (pD P), none, none], S) := by simp [i]
    have c2 : exS (geN tb PT (n + 2)) (.asg (.name 3) (.blt "len" [.lc (.var 2) (.name 2) (.seq (.var 0)) [.call "comes_first" [.var 2, .var 1]] [2]])) [some (.lst (L.map pD)), some (pD P), none, none] S = some (.nx [some (.lst (L.map pD)), some (pD P), none, some (.int (F.length : Int))], S) := by
      have z1' : F.length ≤ 16777216 := by omega
      simp [items, srcOf, lp, z1', bltD]
    have c3 : exS (geN tb PT (n + 2)) (.ret (.bin .Add (.bin .Add (.sl (.var 0) .non (.var 3)) (.lst none [.var 1])) (.sl (.var 0) (.var 3) .non))) [some (.lst (L.map pD)), some (pD P), none, some (.int (F.length : Int))] S = some (.rt (.lst ((L.take F.length ++ [P] ++ L.drop F.length).map pD)), S) := by
      have t1 : (L.map pD).take F.length = (L.take F.length).map pD := (List.map_take ..).symm
      have t2 : (L.map pD).drop F.length = (L.drop F.length).map pD := (List.map_drop ..).symm
      have b1 : binD .Add (.lst ((L.take F.length).map pD)) (.lst [pD P]) = some (.lst ((L.take F.length).map pD ++ [pD P])) := by
        simp only [binD]
        rw [if_pos (by rw [List.length_map, List.length_take]; simp; omega)]
      have b2 : binD .Add (.lst ((L.take F.length).map pD ++ [pD P])) (.lst ((L.drop F.length).map pD)) = some (.lst ((L.take F.length).map pD ++ [pD P] ++ (L.drop F.length).map pD)) := by
        simp only [binD]
        rw [if_pos (by simp; omega)]
      have s1 : slD S (.lst (L.map pD)) none (some (F.length : Int)) = some (.lst ((L.take F.length).map pD)) := by simp only [slD, dr, cut_take, t1]
      have s2 : slD S (.lst (L.map pD)) (some (F.length : Int)) none = some (.lst ((L.drop F.length).map pD)) := by simp only [slD, dr, cut_drop, t2]
      have dl : ∀ xs, dr S (.lst xs) = .lst xs := fun _ => rfl
      rw [List.map_append, List.map_append]
      generalize (L.take F.length).map pD = A at *
      generalize (L.drop F.length).map pD = B at *
      have m1 : [P].map pD = [pD P] := rfl
      rw [m1]
      simp only [x_ret, q_bin, q_sl, q_var, q_non, q_lst, q_cons, q_nil, vr, mpd_some, bnd_some, isNonC, partD, s1, s2, dl, List.length_singleton, Nat.reduceLeDiff, ↓reduceIte, b1, b2]
    rw [q_of l_wp rfl, st]
    have bE := ex_st c1 (ex_st c2 (ex_rt c3))
    simp only [c_p_with_point]
    rw [bE, bnd_some]
    exact gc_same (Nat.le_refl _)
/-- the list L: ascending, those of which M holds, each once -/
structure VS (L : List Pnt) (M : Pnt → Prop) : Prop where
  srt : L.Pairwise fun A B => Geo.lq (xq A) (xq B)
  mem : ∀ Z, Z ∈ L ↔ M Z
  bd : ∀ Z ∈ L, P2 489 465 Z
theorem wpt_len {L : List Pnt} {P : Pnt} : (wpt L P).length ≤ L.length + 1 := by
  unfold wpt
  split
  · omega
  · simp; omega
theorem wpt_vs {L : List Pnt} {M : Pnt → Prop} {P : Pnt} (v : VS L M) (hP : P2 489 465 P) : VS (wpt L P) fun Z => M Z ∨ Z = P := by
  have kt : ∀ {Z}, P2 489 465 Z → Pt 489 Z := fun h => h.pt (by omega) (by omega)
  unfold wpt
  by_cases h : P ∈ L
  · rw [if_pos h]
    exact ⟨v.srt, fun Z => ⟨fun q => .inl ((v.mem Z).mp q), fun q => q.elim (v.mem Z).mpr fun e => e ▸ h⟩, v.bd⟩
  · rw [if_neg h]
    obtain ⟨h1, h2⟩ := filter_cut (R := fun A B => Geo.lq (xq A) (xq B)) (p := fun Z => firstP Z P) (L := L) (fun a ha b hb r q => by
      have := (first_lq (kt (v.bd b hb)) (kt hP)).mp q
      exact (first_lq (kt (v.bd a ha)) (kt hP)).mpr (Geo.lq_tr r this)) v.srt
    generalize (L.filter fun Z => firstP Z P).length = m at *
    have ap : L.take m ++ L.drop m = L := List.take_append_drop m L
    have srt := v.srt
    rw [← ap] at srt
    obtain ⟨p1, p2, p3⟩ := List.pairwise_append.mp srt
    have ml : ∀ {Z}, Z ∈ L ↔ Z ∈ L.take m ∨ Z ∈ L.drop m := fun {Z} => by rw [← List.mem_append, ap]
    have lo : ∀ A ∈ L.take m, Geo.lq (xq A) (xq P) := fun A hA => (first_lq (kt (v.bd A (ml.mpr (.inl hA)))) (kt hP)).mp (h1 A hA)
    have hi : ∀ B ∈ L.drop m, Geo.lq (xq P) (xq B) := fun B hB => by
      have kB := kt (v.bd B (ml.mpr (.inr hB)))
      rcases Geo.lq_tri (xq P) (xq B) with q | q | q
      · exact q
      · exact absurd (xq_inj (kt hP) kB q) fun e => h (by rw [e]; exact ml.mpr (.inr hB))
      · have := (first_lq kB (kt hP)).mpr q
        rw [h2 B hB] at this
        cases this
    refine ⟨?_, fun Z => ?_, fun Z hZ => ?_⟩
    · rw [List.append_assoc]
      refine List.pairwise_append.mpr ⟨p1, List.pairwise_append.mpr ⟨List.pairwise_singleton _ _, p2, fun A hA B hB => ?_⟩, fun A hA B hB => ?_⟩
      · rw [List.mem_singleton.mp hA]
        exact hi B hB
      · rcases List.mem_append.mp hB with hB | hB
        · rw [List.mem_singleton.mp hB]; exact lo A hA
        · exact p3 A hA B hB
    · rw [List.mem_append, List.mem_append, List.mem_singleton, ← v.mem, ml]
      grind
    · rw [List.mem_append, List.mem_append, List.mem_singleton] at hZ
      rcases hZ with (q | q) | q
      · exact v.bd Z (ml.mpr (.inl q))
      · rw [q]; exact hP
      · exact v.bd Z (ml.mpr (.inr q))
end K05

set_option maxHeartbeats 1000000
namespace K05
open PySem PySem.Spec PyProof.Rows L2 Dn
variable {n k j : Nat} {S : Sto}
abbrev Sg : Type := Pnt × Pnt
abbrev comW (w v : Sg) : List Pnt := comP w.1 w.2 v.1 v.2
theorem VS.congr {L : List Pnt} {M M' : Pnt → Prop} (v : VS L M) (h : ∀ Z, M Z ↔ M' Z) : VS L M' := ⟨v.srt, fun Z => (v.mem Z).trans (h Z), v.bd⟩
theorem vs_nil : VS [] fun _ => False := ⟨List.Pairwise.nil, fun Z => by simp, fun _ h => nomatch h⟩
abbrev avB : List CS := [.asg (.name 4) (.call "with_point" [.var 4, .var 5])]
abbrev avE (sg ps : D) (a2 a3 : Option D) (L : List Pnt) (a5 a6 a7 : Option D) : En := [some sg, some ps, a2, a3, some (.lst (L.map pD)), a5, a6, a7]
/-- points more -/
theorem av_pts {w : Wk} (hw : ∀ S, okW w S) {sg ps : D} {a2 a3 a6 a7 : Option D} {a5 : Option D} {L : List Pnt} {M : Pnt → Prop} (v : VS L M) {Xs : List Pnt} (hX : ∀ P ∈ Xs, P2 489 465 P) (hl : L.length + Xs.length ≤ 100000) :
    ∃ L' a5', loopFor w (Dn.forTurn (geN tb PT (n + 3)) (.name 5) avB) (Xs.map pD) (avE sg ps a2 a3 L a5 a6 a7) S = some (.nx (avE sg ps a2 a3 L' a5' a6 a7), S) ∧ VS L' (fun Z => M Z ∨ Z ∈ Xs) ∧ L'.length ≤ L.length + Xs.length := by
  obtain ⟨δ', S', e, eS, L', a5', eδ, v', l'⟩ := for_m (g := pD) (w := w) (turn := Dn.forTurn (geN tb PT (n + 3)) (.name 5) avB)
    (I := fun pre δ T => T = S ∧ ∃ L' a5', δ = avE sg ps a2 a3 L' a5' a6 a7 ∧ VS L' (fun Z => M Z ∨ Z ∈ pre) ∧ L'.length ≤ L.length + pre.length) (fun _ _ S _ => hw S) (ys := Xs) (pre := []) (δ := avE sg ps a2 a3 L a5 a6 a7) (S := S)
    (fun p P r δ T eX ⟨eS, L1, b5, eδ, v1, l1⟩ => by
      subst eS eδ
      simp only [List.nil_append] at v1 l1
      have hP : P2 489 465 P := hX P (by rw [eX]; simp)
      have lp : p.length < Xs.length := by rw [eX]; simp
      have e := wp_eq (n := n) (S := T) (L := L1) (P := P) (fun Z hZ => (v1.bd Z hZ).pt (by omega) (by omega)) (hP.pt (by omega) (by omega)) (by omega)
      have v2 := wpt_vs v1 hP
      have l2 := wpt_len (L := L1) (P := P)
      generalize wpt L1 P = L2 at *
      refine ⟨avE sg ps a2 a3 L2 (some (pD P)) a6 a7, T, by simp [Dn.forTurn, e], rfl, L2, _, rfl, v2.congr fun Z => ?_, ?_⟩
      · simp; grind
      · simp; omega) ⟨rfl, L, a5, rfl, v.congr fun Z => by simp, by simp⟩
  subst eS eδ
  exact ⟨L', a5', e, v'.congr fun Z => by simp, by simpa using l'⟩
abbrev avP : List CS := [.for_ (.name 5) (.seq (.call "common_by" [.var 2, .var 7])) avB]
theorem com_len {w v : Sg} (h : Seg w.1 w.2) (g : Seg v.1 v.2) : (comW w v).length ≤ 2 := by
  have t := tells_len (com_tells h.a h.b g.a g.b h.ne g.ne).1
  simpa using t
/-- the points in common with those ahead -/
theorem av_one {wk : Wk} (hw : ∀ S, okW wk S) {sg ps : D} {a3 a5 a6 a7 : Option D} {w : Sg} (hs : Seg w.1 w.2) {L : List Pnt} {M : Pnt → Prop} (v : VS L M) {Xs : List Sg} (hX : ∀ u ∈ Xs, Seg u.1 u.2) (hl : L.length + 2 * Xs.length ≤ 100000) :
    ∃ L' a5' a7', loopFor wk (Dn.forTurn (geN tb PT (n + 6)) (.name 7) avP) (Xs.map sD) (avE sg ps (some (sD w)) a3 L a5 a6 a7) S = some (.nx (avE sg ps (some (sD w)) a3 L' a5' a6 a7'), S) ∧ VS L' (fun Z => M Z ∨ ∃ u ∈ Xs, Z ∈ comW w u) ∧ L'.length ≤ L.length + 2 * Xs.length := by
  obtain ⟨δ', S', e, eS, L', a5', a7', eδ, v', l'⟩ := for_m (g := sD) (w := wk) (turn := Dn.forTurn (geN tb PT (n + 6)) (.name 7) avP)
    (I := fun pre δ T => T = S ∧ ∃ L' a5' a7', δ = avE sg ps (some (sD w)) a3 L' a5' a6 a7' ∧ VS L' (fun Z => M Z ∨ ∃ u ∈ pre, Z ∈ comW w u) ∧ L'.length ≤ L.length + 2 * pre.length) (fun _ _ S _ => hw S) (ys := Xs) (pre := []) (δ := avE sg ps (some (sD w)) a3 L a5 a6 a7) (S := S)
    (fun p u r δ T eX ⟨eS, L1, b5, b7, eδ, v1, l1⟩ => by
      subst eS eδ
      simp only [List.nil_append] at v1 l1
      have hu : Seg u.1 u.2 := hX u (by rw [eX]; simp)
      have lp : p.length < Xs.length := by rw [eX]; simp
      have e := comby_eq (n := n) (S := T) hs.a hs.b hu.a hu.b
      have cl := com_len hs hu
      have cb := (com_tells hs.a hs.b hu.a hu.b hs.ne hu.ne).2
      change callN tb PT (n + 6) "common_by" [sD w, sD u] T = some (.tup ((comW w u).map pD), T) at e
      generalize hC : comW w u = C at *
      obtain ⟨L2, c5, e2, v2, l2⟩ := av_pts (n := n + 3) (S := T) (w := ⟨C.map pD, none⟩) (fun S => ok_none) (sg := sg) (ps := ps) (a2 := some (sD w)) (a3 := a3) (a5 := b5) (a6 := a6) (a7 := some (sD u)) v1 (Xs := C) (by rw [← hC]; exact cb) (by omega)
      refine ⟨avE sg ps (some (sD w)) a3 L2 c5 a6 (some (sD u)), T, ?_, rfl, L2, _, _, rfl, v2.congr fun Z => ?_, ?_⟩
      · simp [Dn.forTurn, e, items, srcOf, e2]
      · rw [← hC]; simp; grind
      · simp; omega) ⟨rfl, L, a5, a7, rfl, v.congr fun Z => by simp, by simp⟩
  subst eS eδ
  exact ⟨L', a5', a7', e, v'.congr fun Z => by simp, by simpa using l'⟩
/-- w, and v ahead of it -/
def Ahead (ws : List Sg) (w v : Sg) : Prop := ∃ p r, ws = p ++ w :: r ∧ v ∈ p
def MV (ws : List Sg) (Ps : List Pnt) (Z : Pnt) : Prop := ((∃ w ∈ ws, Z = w.1 ∨ Z = w.2) ∨ Z ∈ Ps) ∨ ∃ w v, Ahead ws w v ∧ Z ∈ comW w v
abbrev avF : List CS := [.for_ (.name 7) (.seq (.sl (.var 0) .non (.var 6))) avP]
theorem snoc_split {α : Type} {a : α} {xs p r : List α} {x : α} (h : xs ++ [a] = p ++ x :: r) : (xs = p ∧ a = x ∧ r = []) ∨ ∃ r', r = r' ++ [a] ∧ xs = p ++ x :: r' := by
  rcases List.eq_nil_or_concat r with e | ⟨r', b, e⟩
  · subst e
    obtain ⟨h1, h2⟩ := List.append_inj' h rfl
    exact .inl ⟨h1, by simpa using h2, rfl⟩
  · rw [List.concat_eq_append] at e
    subst e
    rw [show p ++ x :: (r' ++ [b]) = (p ++ x :: r') ++ [b] by simp] at h
    obtain ⟨h1, h2⟩ := List.append_inj' h rfl
    exact .inr ⟨r', by simpa using h2.symm, h1⟩
theorem ahead_snoc {ws : List Sg} {a w v : Sg} : Ahead (ws ++ [a]) w v ↔ Ahead ws w v ∨ (w = a ∧ v ∈ ws) := by
  constructor
  · rintro ⟨p, r, e, h⟩
    rcases snoc_split e with ⟨rfl, rfl, _⟩ | ⟨r', _, e'⟩
    · exact .inr ⟨rfl, h⟩
    · exact .inl ⟨p, r', e', h⟩
  · rintro (⟨p, r, e, h⟩ | ⟨rfl, h⟩)
    · exact ⟨p, r ++ [a], by rw [e]; simp, h⟩
    · exact ⟨ws, [], rfl, h⟩
theorem av_all {wk : Wk} (hw : ∀ S, okW wk S) {ps : D} {a2 a3 a5 a6 a7 : Option D} {L : List Pnt} {M : Pnt → Prop} (v : VS L M) {ws : List Sg} (hX : ∀ u ∈ ws, Seg u.1 u.2) (hn : ws.length ≤ 100) (hl : L.length ≤ 1000) :
    ∃ L' a2' a5' a6' a7', loopFor wk (Dn.forTurn (geN tb PT (n + 6)) (.tup [(.name 6), (.name 2)]) avF) (enmD 0 (ws.map sD)) (avE (.tup (ws.map sD)) ps a2 a3 L a5 a6 a7) S = some (.nx (avE (.tup (ws.map sD)) ps a2' a3 L' a5' a6' a7'), S) ∧ VS L' (fun Z => M Z ∨ ∃ w u, Ahead ws w u ∧ Z ∈ comW w u) ∧ L'.length ≤ L.length + 2 * ws.length * ws.length := by
  obtain ⟨δ', S', e, eS, L', a2', a5', a6', a7', eδ, v', l'⟩ := for_e (g := sD) (w := wk) (turn := Dn.forTurn (geN tb PT (n + 6)) (.tup [(.name 6), (.name 2)]) avF)
    (I := fun pre δ T => T = S ∧ ∃ L' a2' a5' a6' a7', δ = avE (.tup (ws.map sD)) ps a2' a3 L' a5' a6' a7' ∧ VS L' (fun Z => M Z ∨ ∃ w u, Ahead pre w u ∧ Z ∈ comW w u) ∧ L'.length ≤ L.length + 2 * ws.length * pre.length) (fun _ _ S _ => hw S) (ys := ws) (pre := []) (δ := avE (.tup (ws.map sD)) ps a2 a3 L a5 a6 a7) (S := S)
    (fun p u r δ T eX ⟨eS, L1, b2, b5, b6, b7, eδ, v1, l1⟩ => by
      subst eS eδ
      simp only [List.nil_append] at v1 l1 ⊢
      have hu : Seg u.1 u.2 := hX u (by rw [eX]; simp)
      have lp : p.length < ws.length := by rw [eX]; simp
      have lm : 2 * ws.length * p.length ≤ 20000 := Nat.le_trans (Nat.mul_le_mul (show 2 * ws.length ≤ 200 by omega) (show p.length ≤ 100 by omega)) (by omega)
      obtain ⟨L2, c5, c7, e2, v2, l2⟩ := av_one (n := n) (S := T) (wk := ⟨p.map sD, none⟩) (fun S => ok_none) (sg := .tup (ws.map sD)) (ps := ps) (a3 := a3) (a5 := b5) (a6 := some (.int (p.length : Int))) (a7 := b7) hu v1 (Xs := p) (fun x hx => hX x (by rw [eX]; simp [hx])) (by omega)
      have ct : Dn.cutD (ws.map sD) none (some (p.length : Int)) = p.map sD := by
        rw [cut_take, eX, ← List.map_take, List.take_left]
      refine ⟨avE (.tup (ws.map sD)) ps (some (sD u)) a3 L2 c5 (some (.int (p.length : Int))) c7, T, ?_, rfl, L2, _, _, _, _, rfl, v2.congr fun Z => ?_, ?_⟩
      · simp [Dn.forTurn, partD, isNonC, slD, dr, ct, items, srcOf, e2]
      · simp only [ahead_snoc]
        constructor
        · rintro ((h | ⟨a, b, h1, h2⟩) | ⟨b, h1, h2⟩)
          · exact .inl h
          · exact .inr ⟨a, b, .inl h1, h2⟩
          · exact .inr ⟨u, b, .inr ⟨rfl, h1⟩, h2⟩
        · rintro (h | ⟨a, b, h1 | ⟨rfl, h1⟩, h2⟩)
          · exact .inl (.inl h)
          · exact .inl (.inr ⟨a, b, h1, h2⟩)
          · exact .inr ⟨b, h1, h2⟩
      · rw [List.length_append, List.length_singleton, Nat.mul_add, Nat.mul_one]
        omega) ⟨rfl, L, a2, a5, a6, a7, rfl, v.congr fun Z => by simp [Ahead], by simp⟩
  subst eS eδ
  exact ⟨L', a2', a5', a6', a7', e, v'.congr fun Z => by simp, by simpa using l'⟩
theorem av_ends {ws : List Sg} {δ : En} (hl : ws.length ≤ 1000) (hd : 3 < δ.length) {sg : D} (hs : sg = .tup (ws.map sD)) (h0 : vr δ 0 = some sg) :
    evE (geN tb PT n) (.lc2 (.var 3) (.name 2) (.seq (.var 0)) (.name 3) (.seq (.var 2)) [2, 3] [3]) δ S = some (.lst ((ws.map fun w => [w.1, w.2]).flatten.map pD), S) := by
  have lp := loop_flat (g := sD) (f := fun w => [pD w.1, pD w.2]) (w := ⟨ws.map sD, none⟩) (turn := lcT1 (geN tb PT n) (.var 3) (.name 2) (.name 3) (.seq (.var 2)) [2, 3] [3] δ) (S := S) ok_none (ys := ws) (fun w hw => by
    have i := loop_map2 (w := ⟨[pD w.1, pD w.2], none⟩) (turn := lcT2 (geN tb PT n) (.var 3) (.name 3) [3] ((wipeD δ [2, 3]).set 2 (some (sD w)))) (S := S) (g := pD) (f := pD) ok_none (ys := [w.1, w.2]) (fun P hP => by
      have v3 : ∀ (δ : En) (y : D), 3 < δ.length → vr (δ.set 3 (some y)) 3 = some y := fun δ y h => by rw [vr_get, List.getElem?_set_self h]
      have := v3 (((wipeD δ [2, 3]).set 2 (some (sD w))).set 3 none) (pD P) (by simpa [wipeD] using hd)
      simp only [lcT2, wipeD, qg_name, bnd_some, q_var] at this ⊢
      rw [this]
      rfl)
    have v2 : vr ((wipeD δ [2, 3]).set 2 (some (sD w))) 2 = some (sD w) := by rw [vr_get, List.getElem?_set_self (by simp [wipeD]; omega)]
    have it : ∀ S, items S (sD w) = some [pD w.1, pD w.2] := fun _ => rfl
    have so : srcOf (sD w) = none := rfl
    simp only [List.map_cons, List.map_nil] at i
    simp only [lcT1, qg_name, bnd_some, qw_seq, q_var, v2, mpd_some, it, so, i])
  have fe : (ws.map fun w => [pD w.1, pD w.2]).flatten = (ws.map fun w => [w.1, w.2]).flatten.map pD := by
    rw [List.map_flatten, List.map_map]; rfl
  rw [fe] at lp
  have le : ((ws.map fun w => [w.1, w.2]).flatten.map pD).length ≤ 16777216 := by
    have : ∀ {ws : List Sg}, (ws.map fun w => [w.1, w.2]).flatten.length = 2 * ws.length := by
      intro ws
      induction ws with
      | nil => rfl
      | cons w r ih => rw [List.map_cons, List.flatten_cons, List.length_append, ih]; simp; omega
    rw [List.length_map, this]
    omega
  subst hs
  rw [q_lc2, qw_seq, q_var, h0, mpd_some, bnd_some]
  dsimp only [items, srcOf]
  rw [mpd_some, bnd_some]
  simp only [srcOf]
  rw [lp, bnd_some]
  dsimp only
  rw [if_pos le]
theorem mem_ends {ws : List Sg} {Z : Pnt} : Z ∈ (ws.map fun w => [w.1, w.2]).flatten ↔ ∃ w ∈ ws, Z = w.1 ∨ Z = w.2 := by
  constructor
  · intro h
    obtain ⟨l, hl, hz⟩ := List.mem_flatten.mp h
    obtain ⟨w, hw, rfl⟩ := List.mem_map.mp hl
    simp only [List.mem_cons, List.not_mem_nil, or_false] at hz
    exact ⟨w, hw, hz⟩
  · rintro ⟨w, hw, hz⟩
    exact List.mem_flatten.mpr ⟨_, List.mem_map.mpr ⟨w, hw, rfl⟩, by simp only [List.mem_cons, List.not_mem_nil, or_false]; exact hz⟩
theorem av_eq {ws : List Sg} (hX : ∀ u ∈ ws, Seg u.1 u.2) (hn : ws.length ≤ 100) {Ps : List Pnt} (hP : ∀ P ∈ Ps, P2 246 224 P) (hp : Ps.length ≤ 100) :
    ∃ L, callN tb PT (n + 7) "all_vertices" [.tup (ws.map sD), .tup (Ps.map pD)] S = some (.tup (L.map pD), S) ∧ VS L (MV ws Ps) ∧ L.length ≤ 2 * ws.length + Ps.length + 2 * ws.length * ws.length := by
  have fl : (ws.map fun w => [w.1, w.2]).flatten.length = 2 * ws.length := by
    have : ∀ {ws : List Sg}, (ws.map fun w => [w.1, w.2]).flatten.length = 2 * ws.length := by
      intro ws
      induction ws with
      | nil => rfl
      | cons w r ih => rw [List.map_cons, List.flatten_cons, List.length_append, ih]; simp; omega
    exact this
  have e0 := av_ends (n := n + 6) (S := S) (ws := ws) (δ := avE (.tup (ws.map sD)) (.tup (Ps.map pD)) none none [] none none none) (by omega) (by simp) rfl rfl
  have me := fun Z => mem_ends (ws := ws) (Z := Z)
  have eb : ∀ P ∈ (ws.map fun w => [w.1, w.2]).flatten, P2 489 465 P := fun P h => by
    obtain ⟨w, hw, z | z⟩ := (me P).mp h
    · rw [z]; exact ⟨(hX w hw).a.1.mono (by omega) (by omega), (hX w hw).a.2.mono (by omega) (by omega)⟩
    · rw [z]; exact ⟨(hX w hw).b.1.mono (by omega) (by omega), (hX w hw).b.2.mono (by omega) (by omega)⟩
  generalize (ws.map fun w => [w.1, w.2]).flatten = En at *
  obtain ⟨L1, b5, e1, v1, l1⟩ := av_pts (n := n + 3) (S := S) (w := ⟨(En ++ Ps).map pD, none⟩) (fun _ => ok_none) (sg := .tup (ws.map sD)) (ps := .tup (Ps.map pD)) (a2 := none) (a3 := none) (a5 := none) (a6 := none) (a7 := none) vs_nil (Xs := En ++ Ps) (fun P h => by
    rcases List.mem_append.mp h with h | h
    · exact eb P h
    · exact ⟨(hP P h).1.mono (by omega) (by omega), (hP P h).2.mono (by omega) (by omega)⟩) (by rw [List.length_append]; simp; omega)
  simp only [List.length_nil, Nat.zero_add, List.length_append] at l1
  obtain ⟨L2, x2, c5, c6, c7, e2, v2, l2⟩ := av_all (n := n) (S := S) (wk := ⟨enmD 0 (ws.map sD), none⟩) (fun _ => ok_none) (ps := .tup (Ps.map pD)) (a2 := none) (a3 := none) (a5 := b5) (a6 := none) (a7 := none) v1 hX hn (by omega)
  refine ⟨L2, ?_, v2.congr fun Z => ?_, by omega⟩
  · have st : startD c_p_all_vertices.N.length [.tup (ws.map sD), .tup (Ps.map pD)] = [some (.tup (ws.map sD)), some (.tup (Ps.map pD)), none, none, none, none, none, none] := rfl
    have bd : c_p_all_vertices.body = [.asg (.name 4) (.lst none []), .for_ (.name 5) (.seq (.bin .Add (.lc2 (.var 3) (.name 2) (.seq (.var 0)) (.name 3) (.seq (.var 2)) [2, 3] [3]) (.blt "list" [.var 1]))) avB, .for_ (.tup [(.name 6), (.name 2)]) (.enm (.var 0)) avF, .ret (.blt "tuple" [.var 4])] := rfl
    have c1 : exS (geN tb PT (n + 6)) (.asg (.name 4) (.lst none [])) [some (.tup (ws.map sD)), some (.tup (Ps.map pD)), none, none, none, none, none, none] S = some (.nx (avE (.tup (ws.map sD)) (.tup (Ps.map pD)) none none [] none none none), S) := by simp
    have ad : binD .Add (.lst (En.map pD)) (.lst (Ps.map pD)) = some (.lst ((En ++ Ps).map pD)) := by
      simp only [binD]
      rw [if_pos (by rw [List.length_map, List.length_map]; omega), List.map_append]
    have c2 : exS (geN tb PT (n + 6)) (.for_ (.name 5) (.seq (.bin .Add (.lc2 (.var 3) (.name 2) (.seq (.var 0)) (.name 3) (.seq (.var 2)) [2, 3] [3]) (.blt "list" [.var 1]))) avB) (avE (.tup (ws.map sD)) (.tup (Ps.map pD)) none none [] none none none) S = some (.nx (avE (.tup (ws.map sD)) (.tup (Ps.map pD)) none none L1 b5 none none), S) := by
      have li : bltD S "list" [.tup (Ps.map pD)] = some (.lst (Ps.map pD)) := by simp [bltD, items]
      have dl : ∀ xs, dr S (.lst xs) = .lst xs := fun _ => rfl
      rw [x_for, qw_seq, q_bin, e0, bnd_some]
      simp only [q_blt, q_cons, q_var, q_nil, vr, mpd_some, bnd_some, li, dl, ad, items, srcOf]
      exact e1
    have c3 : exS (geN tb PT (n + 6)) (.for_ (.tup [(.name 6), (.name 2)]) (.enm (.var 0)) avF) (avE (.tup (ws.map sD)) (.tup (Ps.map pD)) none none L1 b5 none none) S = some (.nx (avE (.tup (ws.map sD)) (.tup (Ps.map pD)) x2 none L2 c5 c6 c7), S) := by
      rw [x_for, qw_enm, q_var]
      simp only [vr, mpd_some, bnd_some]
      exact e2
    have c4 : exS (geN tb PT (n + 6)) (.ret (.blt "tuple" [.var 4])) (avE (.tup (ws.map sD)) (.tup (Ps.map pD)) x2 none L2 c5 c6 c7) S = some (.rt (.tup (L2.map pD)), S) := by simp [bltD, items]
    rw [q_of l_av rfl, st, bd, ex_st c1 (ex_st c2 (ex_st c3 (ex_rt c4))), bnd_some]
    exact gc_same (Nat.le_refl _)
  · unfold MV
    simp only [List.mem_append, me, false_or]
end K05

set_option maxHeartbeats 1000000
namespace K05
open PySem PySem.Spec PyProof.Rows L2 Dn
variable {n k j : Nat} {S : Sto}
/-! the keys: pairs one behind the other in rows -/
def prs (r : List Nat) : List (Nat × Nat) := r.zip r.tail
def addK (K : List (Nat × Nat)) (ps : List (Nat × Nat)) : List (Nat × Nat) := ps.foldl putK K
def keysOf (rows : List (List Nat)) : List (Nat × Nat) := rows.foldl (fun K r => addK K (prs r)) []
theorem addK_snoc {K ps : List (Nat × Nat)} {q : Nat × Nat} : addK K (ps ++ [q]) = putK (addK K ps) q := by unfold addK; rw [List.foldl_append]; rfl
theorem keysOf_snoc {rows : List (List Nat)} {r : List Nat} : keysOf (rows ++ [r]) = addK (keysOf rows) (prs r) := by unfold keysOf; rw [List.foldl_append]; rfl
theorem mem_addK {z : Nat × Nat} : ∀ {ps K : List (Nat × Nat)}, z ∈ addK K ps ↔ z ∈ K ∨ z ∈ ps
  | [], K => by simp [addK]
  | q :: ps, K => by
    show z ∈ addK (putK K q) ps ↔ _
    rw [mem_addK, mem_putK, List.mem_cons]
    grind
theorem nd_addK : ∀ {ps K : List (Nat × Nat)}, K.Nodup → (addK K ps).Nodup
  | [], K, h => h
  | q :: ps, K, h => nd_addK (ps := ps) (nd_putK h)
theorem len_addK : ∀ {ps K : List (Nat × Nat)}, (addK K ps).length ≤ K.length + ps.length
  | [], K => Nat.le_refl _
  | q :: ps, K => by
    have := len_addK (ps := ps) (K := putK K q)
    have h := len_putK (K := K) (q := q)
    show (addK (putK K q) ps).length ≤ _
    rw [List.length_cons]
    omega
theorem prs_len {r : List Nat} : (prs r).length ≤ r.length := by unfold prs; rw [List.length_zip]; omega
theorem keys_all {rows : List (List Nat)} : (keysOf rows).Nodup ∧ (∀ z, z ∈ keysOf rows ↔ ∃ r ∈ rows, z ∈ prs r) ∧ ∀ N, (∀ r ∈ rows, r.length ≤ N) → (keysOf rows).length ≤ rows.length * N := by
  have go : ∀ (rows : List (List Nat)) (K : List (Nat × Nat)), K.Nodup → (rows.foldl (fun K r => addK K (prs r)) K).Nodup ∧ (∀ z, z ∈ rows.foldl (fun K r => addK K (prs r)) K ↔ z ∈ K ∨ ∃ r ∈ rows, z ∈ prs r) ∧ ∀ N, (∀ r ∈ rows, r.length ≤ N) → (rows.foldl (fun K r => addK K (prs r)) K).length ≤ K.length + rows.length * N := by
    intro rows
    induction rows with
    | nil => exact fun K h => ⟨h, fun z => by simp, fun N _ => by simp⟩
    | cons r rows ih =>
      intro K h
      obtain ⟨a, b, c⟩ := ih (addK K (prs r)) (nd_addK h)
      refine ⟨a, fun z => ?_, fun N hN => ?_⟩
      · rw [List.foldl_cons, b, mem_addK]
        simp
        grind
      · have h1 := c N fun r hr => hN r (List.mem_cons_of_mem _ hr)
        have h2 := len_addK (ps := prs r) (K := K)
        have h3 := prs_len (r := r)
        have h4 := hN r (List.mem_cons_self ..)
        rw [List.foldl_cons, List.length_cons, Nat.add_mul]
        omega
  obtain ⟨a, b, c⟩ := go rows [] List.nodup_nil
  exact ⟨a, fun z => by unfold keysOf; rw [b]; simp, fun N h => by unfold keysOf; have := c N h; simpa using this⟩
abbrev dK (K : List (Nat × Nat)) : MO := .dct false (K.map kk) (K.map tt)
theorem set_last {S : Sto} {K : List (Nat × Nat)} {q : Nat × Nat} (h : K.length < 16777215) : setD (S ++ [dK K]) (.rfd S.length) (.ntup [iD q.1, iD q.2]) (.bl true) = some (S ++ [dK (putK K q)]) := by
  rw [set_pair (S := S ++ [dK K]) (kp := false) (K := K) last_get h, last_set]
/-! the law's cut -/
theorem l_cut : PT.lookup ("_law_cut" : Str) = some c_law_cut := lk (d := d_law_cut) (by simp only [defs, List.mem_cons, true_or, or_true])
noncomputable abbrev mW (w v : Sg) : List Plc := meetV (ownP w.1) (ownP w.2) (ownP v.1) (ownP v.2)
theorem mw_len {w v : Sg} (h : Seg w.1 w.2) (g : Seg v.1 v.2) : (mW w v).length ≤ 2 := by
  have t := tells_len (meet_own h g).1
  simpa using t
abbrev cuE (wl ln : D) (a2 a3 : Option D) (Z : List Plc) (a5 a6 a7 a8 a9 a10 a11 a12 a13 : Option D) : En := [some wl, some ln, a2, a3, some (.lst (Z.map lD)), a5, a6, a7, a8, a9, a10, a11, a12, a13]
abbrev cuI : List CS := [.asg (.name 4) (.bin .Add (.var 4) (.call "_law_meet" [.var 5, .var 6]))]
theorem cu_one {wk : Wk} (hw : ∀ S, okW wk S) {wl ln : D} {a2 a3 a6 : Option D} {w : Sg} (hs : Seg w.1 w.2) {Z : List Plc} {Xs : List Sg} (hX : ∀ u ∈ Xs, Seg u.1 u.2) (hl : Z.length + 2 * Xs.length ≤ 100000) :
    ∃ Z' a6', loopFor wk (Dn.forTurn (geN tb PT (n + 4)) (.name 6) cuI) (Xs.map wD) (cuE wl ln a2 a3 Z (some (wD w)) a6 none none none none none none none) S = some (.nx (cuE wl ln a2 a3 Z' (some (wD w)) a6' none none none none none none none), S) ∧ (∀ z, z ∈ Z' ↔ z ∈ Z ∨ ∃ u ∈ Xs, z ∈ mW w u) ∧ Z'.length ≤ Z.length + 2 * Xs.length := by
  obtain ⟨δ', S', e, eS, Z', a6', eδ, m', l'⟩ := for_m (g := wD) (w := wk) (turn := Dn.forTurn (geN tb PT (n + 4)) (.name 6) cuI)
    (I := fun pre δ T => T = S ∧ ∃ Z' a6', δ = cuE wl ln a2 a3 Z' (some (wD w)) a6' none none none none none none none ∧ (∀ z, z ∈ Z' ↔ z ∈ Z ∨ ∃ u ∈ pre, z ∈ mW w u) ∧ Z'.length ≤ Z.length + 2 * pre.length) (fun _ _ S _ => hw S) (ys := Xs) (pre := []) (δ := cuE wl ln a2 a3 Z (some (wD w)) a6 none none none none none none none) (S := S)
    (fun p u r δ T eX ⟨eS, Z1, b6, eδ, m1, l1⟩ => by
      subst eS eδ
      simp only [List.nil_append] at m1 l1
      have hu : Seg u.1 u.2 := hX u (by rw [eX]; simp)
      have lp : p.length < Xs.length := by rw [eX]; simp
      have e := meet_eq (n := n) (S := T) (pe_own hs.a) (pe_own hs.b) (pe_own hu.a) (pe_own hu.b) (own_ne hs.a hs.b hs.ne) (own_ne hu.a hu.b hu.ne)
      have cl := mw_len hs hu
      change callN tb PT (n + 4) "_law_meet" [wD w, wD u] T = some (.lst ((mW w u).map lD), T) at e
      generalize hC : mW w u = C at *
      have ad : binD .Add (.lst (Z1.map lD)) (.lst (C.map lD)) = some (.lst ((Z1 ++ C).map lD)) := by
        simp only [binD]
        rw [if_pos (by rw [List.length_map, List.length_map]; omega), List.map_append]
      have dl : ∀ xs, dr T (.lst xs) = .lst xs := fun _ => rfl
      refine ⟨cuE wl ln a2 a3 (Z1 ++ C) (some (wD w)) (some (wD u)) none none none none none none none, T, ?_, rfl, Z1 ++ C, _, rfl, fun z => ?_, ?_⟩
      · simp only [Dn.forTurn, qg_name, bnd_some, x_cons, x_asg, q_bin, q_var, q_call, q_cons, q_nil, vr, mpd_some, List.set_cons_succ, List.set_cons_zero, e, dl, ad, x_nil]
      · rw [List.mem_append, m1]
        simp
        grind
      · simp; omega) ⟨rfl, Z, a6, rfl, fun z => by simp, by simp⟩
  subst eS eδ
  exact ⟨Z', a6', e, fun z => by simpa using m' z, by simpa using l'⟩
abbrev cuB : List CS := [.asg (.name 4) (.bin .Add (.var 4) (.lst none [.ix (.var 5) (.int 0), .ix (.var 5) (.int 1)])), .for_ (.name 6) (.seq (.sl (.var 0) .non (.var 2))) cuI]
theorem cu_all {wk : Wk} (hw : ∀ S, okW wk S) {ln : D} {a2 a3 a5 a6 : Option D} {Z : List Plc} {ws : List Sg} (hX : ∀ u ∈ ws, Seg u.1 u.2) (hn : ws.length ≤ 100) (hl : Z.length ≤ 1000) :
    ∃ Z' a2' a5' a6', loopFor wk (Dn.forTurn (geN tb PT (n + 4)) (.tup [(.name 2), (.name 5)]) cuB) (enmD 0 (ws.map wD)) (cuE (.lst (ws.map wD)) ln a2 a3 Z a5 a6 none none none none none none none) S = some (.nx (cuE (.lst (ws.map wD)) ln a2' a3 Z' a5' a6' none none none none none none none), S) ∧
      (∀ z, z ∈ Z' ↔ z ∈ Z ∨ (∃ w ∈ ws, z = ownP w.1 ∨ z = ownP w.2) ∨ ∃ w u, Ahead ws w u ∧ z ∈ mW w u) ∧ Z'.length ≤ Z.length + ws.length * (ws.length + 1) := by
  obtain ⟨δ', S', e, eS, Z', a2', a5', a6', eδ, m', l'⟩ := for_e (g := wD) (w := wk) (turn := Dn.forTurn (geN tb PT (n + 4)) (.tup [(.name 2), (.name 5)]) cuB)
    (I := fun pre δ T => T = S ∧ ∃ Z' a2' a5' a6', δ = cuE (.lst (ws.map wD)) ln a2' a3 Z' a5' a6' none none none none none none none ∧ (∀ z, z ∈ Z' ↔ z ∈ Z ∨ (∃ w ∈ pre, z = ownP w.1 ∨ z = ownP w.2) ∨ ∃ w u, Ahead pre w u ∧ z ∈ mW w u) ∧ Z'.length ≤ Z.length + pre.length * (pre.length + 1)) (fun _ _ S _ => hw S) (ys := ws) (pre := []) (δ := cuE (.lst (ws.map wD)) ln a2 a3 Z a5 a6 none none none none none none none) (S := S)
    (fun p u r δ T eX ⟨eS, Z1, b2, b5, b6, eδ, m1, l1⟩ => by
      subst eS eδ
      simp only [List.nil_append] at m1 l1 ⊢
      have hu : Seg u.1 u.2 := hX u (by rw [eX]; simp)
      have lp : p.length < ws.length := by rw [eX]; simp
      have lm : p.length * (p.length + 1) ≤ 10100 := Nat.le_trans (Nat.mul_le_mul (show p.length ≤ 100 by omega) (show p.length + 1 ≤ 101 by omega)) (by omega)
      obtain ⟨Z2, c6, e2, m2, l2⟩ := cu_one (n := n) (S := T) (wk := ⟨p.map wD, none⟩) (fun S => ok_none) (wl := .lst (ws.map wD)) (ln := ln) (a2 := some (.int (p.length : Int))) (a3 := a3) (a6 := b6) hu (Z := Z1 ++ [ownP u.1, ownP u.2]) (Xs := p) (fun x hx => hX x (by rw [eX]; simp [hx])) (by simp; omega)
      have ct : Dn.cutD (ws.map wD) none (some (p.length : Int)) = p.map wD := by
        rw [cut_take, eX, ← List.map_take, List.take_left]
      have ad : binD .Add (.lst (Z1.map lD)) (.lst [lD (ownP u.1), lD (ownP u.2)]) = some (.lst ((Z1 ++ [ownP u.1, ownP u.2]).map lD)) := by
        simp only [binD]
        rw [if_pos (by rw [List.length_map]; simp; omega), List.map_append]
        rfl
      have dl : ∀ xs, dr T (.lst xs) = .lst xs := fun _ => rfl
      have i0 : ixD T (wD u) (.int 0) = some (lD (ownP u.1)) := rfl
      have i1 : ixD T (wD u) (.int 1) = some (lD (ownP u.2)) := rfl
      have sl : slD T (.lst (ws.map wD)) none (some (p.length : Int)) = some (.lst (p.map wD)) := by simp only [slD, dr, ct]
      have hm : ∀ z, z ∈ Z1 ++ [ownP u.1, ownP u.2] ↔ z ∈ Z1 ∨ z = ownP u.1 ∨ z = ownP u.2 := fun z => by simp
      have hz : (Z1 ++ [ownP u.1, ownP u.2]).length = Z1.length + 2 := by simp
      generalize Z1 ++ [ownP u.1, ownP u.2] = Z1' at *
      refine ⟨cuE (.lst (ws.map wD)) ln (some (.int (p.length : Int))) a3 Z2 (some (wD u)) c6 none none none none none none none, T, ?_, rfl, Z2, _, _, _, rfl, fun z => ?_, ?_⟩
      · simp only [Dn.forTurn, qg_tup, qg_cons, qg_nil, qg_name, bnd_some, x_cons, x_asg, x_for, qw_seq, q_sl, q_bin, q_var, q_lst, q_ix, q_int, q_non, q_cons, q_nil, vr, mpd_some, List.set_cons_succ, List.set_cons_zero, i0, i1, dl, ad, x_nil, partD, isNonC, sl, items, srcOf, List.length_cons, List.length_nil, Nat.reduceAdd, Nat.reduceLeDiff, ↓reduceIte, e2]
      · rw [m2, hm, m1]
        simp only [ahead_snoc, List.mem_append, List.mem_singleton]
        constructor
        · rintro (((h | ⟨w, h1, h2⟩ | ⟨w, v, h1, h2⟩) | h) | ⟨v, h1, h2⟩)
          · exact .inl h
          · exact .inr (.inl ⟨w, .inl h1, h2⟩)
          · exact .inr (.inr ⟨w, v, .inl h1, h2⟩)
          · exact .inr (.inl ⟨u, .inr rfl, h⟩)
          · exact .inr (.inr ⟨u, v, .inr ⟨rfl, h1⟩, h2⟩)
        · rintro (h | ⟨w, h1 | rfl, h2⟩ | ⟨w, v, h1 | ⟨rfl, h1⟩, h2⟩)
          · exact .inl (.inl (.inl h))
          · exact .inl (.inl (.inr (.inl ⟨w, h1, h2⟩)))
          · exact .inl (.inr h2)
          · exact .inl (.inl (.inr (.inr ⟨w, v, h1, h2⟩)))
          · exact .inr ⟨v, h1, h2⟩
      · have e1 : (p.length + 1) * (p.length + 1 + 1) = p.length * (p.length + 1) + (2 * p.length + 2) := by
          rw [Nat.mul_add, Nat.add_mul, Nat.mul_one]
          omega
        rw [List.length_append, List.length_singleton, e1]
        omega) ⟨rfl, Z, a2, a5, a6, rfl, fun z => by simp [Ahead], by simp⟩
  subst eS eδ
  exact ⟨Z', a2', a5', a6', e, fun z => by simpa using m' z, by simpa using l'⟩
end K05

set_option maxHeartbeats 1000000
namespace K05
open PySem PySem.Spec PyProof.Rows L2 Dn
variable {n k j : Nat} {S : Sto}
/-! the rows of the law's cut -/
abbrev cvE (wl ln : D) (a2 a3 a4 a5 a6 : Option D) (C : List Plc) (m : Nat) (a9 a10 a11 a12 a13 : Option D) : En := [some wl, some ln, a2, a3, a4, a5, a6, some (.lst (C.map lD)), some (.rfd m), a9, a10, a11, a12, a13]
abbrev cvP : List CS := [.asg (.sub (.var 8) (.ntp [.var 12, .var 13])) (.bl true)]
abbrev cvB : List CS := [.asg (.name 11) (.lc (.var 2) (.tup [(.name 2), (.name 3)]) (.enm (.var 7)) [.call "_law_lies_on" [.var 9, .var 10, .var 3]] [2, 3]), .for_ (.tup [(.name 12), (.name 13)]) (.zip (.var 11) (.sl (.var 11) (.int 1) .non)) cvP]
theorem cv_prs {wk : Wk} (hw : ∀ S, okW wk S) {wl ln : D} {a2 a3 a4 a5 a6 a9 a10 a11 a12 a13 : Option D} {C : List Plc} {K ps : List (Nat × Nat)} (hl : K.length + ps.length < 16777215) :
    ∃ b12 b13, loopFor wk (Dn.forTurn (geN tb PT (n + 4)) (.tup [(.name 12), (.name 13)]) cvP) (ps.map fun q => .tup [iD q.1, iD q.2]) (cvE wl ln a2 a3 a4 a5 a6 C S.length a9 a10 a11 a12 a13) (S ++ [dK K]) = some (.nx (cvE wl ln a2 a3 a4 a5 a6 C S.length a9 a10 a11 b12 b13), S ++ [dK (addK K ps)]) := by
  obtain ⟨δ', S', e, eS, b12, b13, eδ⟩ := for_m (g := fun q : Nat × Nat => D.tup [iD q.1, iD q.2]) (w := wk) (turn := Dn.forTurn (geN tb PT (n + 4)) (.tup [(.name 12), (.name 13)]) cvP)
    (I := fun pre δ T => T = S ++ [dK (addK K pre)] ∧ ∃ b12 b13, δ = cvE wl ln a2 a3 a4 a5 a6 C S.length a9 a10 a11 b12 b13) (fun _ _ S _ => hw S) (ys := ps) (pre := []) (δ := cvE wl ln a2 a3 a4 a5 a6 C S.length a9 a10 a11 a12 a13) (S := S ++ [dK K])
    (fun p q r δ T eX ⟨eS, b12, b13, eδ⟩ => by
      subst eS eδ
      simp only [List.nil_append]
      have lp : p.length < ps.length := by rw [eX]; simp
      have h1 := len_addK (ps := p) (K := K)
      have sp := set_last (S := S) (K := addK K p) (q := q) (by omega)
      rw [← addK_snoc] at sp
      refine ⟨cvE wl ln a2 a3 a4 a5 a6 C S.length a9 a10 a11 (some (iD q.1)) (some (iD q.2)), S ++ [dK (addK K (p ++ [q]))], ?_, rfl, _, _, rfl⟩
      simp only [Dn.forTurn, qg_tup, qg_cons, qg_nil, qg_name, qg_sub, bnd_some, x_cons, x_asg, q_bl, q_ntp, q_var, q_cons, q_nil, vr, mpd_some, List.set_cons_succ, List.set_cons_zero, List.length_cons, List.length_nil, Nat.reduceAdd, Nat.reduceLeDiff, ↓reduceIte, sp, x_nil]) ⟨rfl, a12, a13, rfl⟩
  subst eS eδ
  exact ⟨b12, b13, by simpa using e⟩
abbrev lrow (C : List Plc) (w : Sg) : List Nat := rowL (liesV (ownP w.1) (ownP w.2)) 0 C
theorem cv_all {wk : Wk} (hw : ∀ S, okW wk S) {wl ln : D} {a2 a3 a4 a5 a6 a9 a10 a11 a12 a13 : Option D} {C : List Plc} (hC : ∀ z ∈ C, Pl 246 224 z) (hc : C.length ≤ 10000) {ws : List Sg} (hX : ∀ u ∈ ws, Seg u.1 u.2) (hn : ws.length ≤ 100) :
    ∃ a9' a10' a11' a12' a13', loopFor wk (Dn.forTurn (geN tb PT (n + 4)) (.tup [(.name 9), (.name 10)]) cvB) (ws.map wD) (cvE wl ln a2 a3 a4 a5 a6 C S.length a9 a10 a11 a12 a13) (S ++ [dK []]) = some (.nx (cvE wl ln a2 a3 a4 a5 a6 C S.length a9' a10' a11' a12' a13'), S ++ [dK (keysOf (ws.map (lrow C)))]) := by
  obtain ⟨δ', S', e, eS, a9', a10', a11', a12', a13', eδ⟩ := for_m (g := wD) (w := wk) (turn := Dn.forTurn (geN tb PT (n + 4)) (.tup [(.name 9), (.name 10)]) cvB)
    (I := fun pre δ T => T = S ++ [dK (keysOf (pre.map (lrow C)))] ∧ ∃ a9' a10' a11' a12' a13', δ = cvE wl ln a2 a3 a4 a5 a6 C S.length a9' a10' a11' a12' a13') (fun _ _ S _ => hw S) (ys := ws) (pre := []) (δ := cvE wl ln a2 a3 a4 a5 a6 C S.length a9 a10 a11 a12 a13) (S := S ++ [dK []])
    (fun p u r δ T eX ⟨eS, b9, b10, b11, b12, b13, eδ⟩ => by
      subst eS eδ
      simp only [List.nil_append]
      have hu : Seg u.1 u.2 := hX u (by rw [eX]; simp)
      have lp : p.length < ws.length := by rw [eX]; simp
      have kl := (keys_all (rows := p.map (lrow C))).2.2 10000 (fun r hr => by
        obtain ⟨w, _, rfl⟩ := List.mem_map.mp hr
        exact Nat.le_trans rowL_len hc)
      rw [List.length_map] at kl
      have km : p.length * 10000 ≤ 100 * 10000 := Nat.mul_le_mul_right _ (by omega)
      rw [List.map_append, List.map_cons, List.map_nil, keysOf_snoc]
      generalize keysOf (p.map (lrow C)) = K at *
      have lc := row_lc (g := lD) (f := liesV (ownP u.1) (ownP u.2)) (w := ⟨enmD 0 (C.map lD), none⟩) (turn := lcTurn (geN tb PT (n + 4)) (.var 2) (.tup [(.name 2), (.name 3)]) [.call "_law_lies_on" [.var 9, .var 10, .var 3]] [2, 3] (cvE wl ln a2 a3 a4 a5 a6 C S.length (some (lD (ownP u.1))) (some (lD (ownP u.2))) b11 b12 b13)) (S := S ++ [dK K]) ok_none (L := C) (m := 0) (fun i y hy => by
        have e := lies_eq (n := n + 2) (S := S ++ [dK K]) ((pe_own hu.a).ok (by omega) (by omega)) ((pe_own hu.b).ok (by omega) (by omega)) ((hC y hy).ok (by omega) (by omega))
        cases c : liesV (ownP u.1) (ownP u.2) y <;> rw [c] at e <;> simp [lcTurn, wipeD, e, truD, iD])
      change loopLc _ _ _ _ = some ((lrow C u).map iD, _) at lc
      have rl : (lrow C u).length ≤ 10000 := Nat.le_trans rowL_len hc
      have rl2 : ((lrow C u).map iD).length ≤ 16777216 := by rw [List.length_map]; omega
      generalize lrow C u = row at *
      have pl := prs_len (r := row)
      have zz : zipD (row.map iD) (row.map iD).tail = (prs row).map fun q => D.tup [iD q.1, iD q.2] := by
        rw [← List.map_tail, zipD_i]; rfl
      obtain ⟨c12, c13, e2⟩ := cv_prs (n := n) (S := S) (wk := ⟨(prs row).map fun q => D.tup [iD q.1, iD q.2], none⟩) (fun _ => ok_none) (wl := wl) (ln := ln) (a2 := a2) (a3 := a3) (a4 := a4) (a5 := a5) (a6 := a6) (a9 := some (lD (ownP u.1))) (a10 := some (lD (ownP u.2))) (a11 := some (.lst (row.map iD))) (a12 := b12) (a13 := b13) (C := C) (K := K) (ps := prs row) (by omega)
      refine ⟨cvE wl ln a2 a3 a4 a5 a6 C S.length (some (lD (ownP u.1))) (some (lD (ownP u.2))) (some (.lst (row.map iD))) c12 c13, _, ?_, rfl, _, _, _, _, _, rfl⟩
      unfold wD
      have sl : slD (S ++ [dK K]) (.lst (row.map iD)) (some 1) none = some (.lst (row.map iD).tail) := by simp only [slD, dr, cut_1]
      simp only [Dn.forTurn, qg_tup, qg_cons, qg_nil, qg_name, bnd_some, x_cons, x_asg, x_for, qw_enm, qw_zip, q_lc, q_sl, q_var, q_int, q_non, vr, mpd_some, List.set_cons_succ, List.set_cons_zero, x_nil, partD, isNonC, sl, lc, rl2, ↓reduceIte, zz, e2]) ⟨rfl, a9, a10, a11, a12, a13, rfl⟩
  subst eS eδ
  exact ⟨a9', a10', a11', a12', a13', by simpa using e⟩
/-! the law's cut -/
def MW (ws : List Sg) (zs : List Plc) (z : Plc) : Prop := z ∈ zs ∨ (∃ w ∈ ws, z = ownP w.1 ∨ z = ownP w.2) ∨ ∃ w u, Ahead ws w u ∧ z ∈ mW w u
theorem ahead_mem {ws : List Sg} {w u : Sg} (h : Ahead ws w u) : w ∈ ws ∧ u ∈ ws := by
  obtain ⟨p, r, rfl, h⟩ := h
  exact ⟨by simp, by simp [h]⟩
theorem mw_pl {ws : List Sg} (hX : ∀ u ∈ ws, Seg u.1 u.2) {zs : List Plc} (hz : ∀ z ∈ zs, Pl 246 224 z) {z : Plc} (h : MW ws zs z) : Pl 246 224 z := by
  rcases h with h | ⟨w, h1, h | h⟩ | ⟨w, u, h1, h2⟩
  · exact hz z h
  · rw [h]; exact pl_up (pe_own (hX w h1).a) (by omega) (by omega)
  · rw [h]; exact pl_up (pe_own (hX w h1).b) (by omega) (by omega)
  · obtain ⟨m1, m2⟩ := ahead_mem h1
    exact (meet_own (hX w m1) (hX u m2)).2 z h2
theorem cut_eq {ws : List Sg} (hX : ∀ u ∈ ws, Seg u.1 u.2) (hn : ws.length ≤ 12) {zs : List Plc} (hz : ∀ z ∈ zs, Pl 246 224 z) (hl : zs.length ≤ 4) :
    ∃ C : List Plc, callN tb PT (n + 5) "_law_cut" [.lst (ws.map wD), .lst (zs.map lD)] S = some (.tup [.lst (C.map lD), .lst (((keysOf (ws.map (lrow C))).mergeSort leE).map eD)], S) ∧
      C.Pairwise (fun a b => Geo.lq (hq a) (hq b)) ∧ (∀ z, z ∈ C ↔ MW ws zs z) ∧ C.length ≤ 160 := by
  obtain ⟨Z, b2, b5, b6, e1, m1, l1⟩ := cu_all (n := n) (S := S) (wk := ⟨enmD 0 (ws.map wD), none⟩) (fun _ => ok_none) (ln := .lst (zs.map lD)) (a2 := none) (a3 := none) (a5 := none) (a6 := none) (Z := zs) hX (by omega) (by omega)
  have lm : ws.length * (ws.length + 1) ≤ 12 * 13 := Nat.mul_le_mul hn (by omega)
  have pl : ∀ z ∈ Z, Pl 246 224 z := fun z h => mw_pl hX hz ((m1 z).mp h)
  have ri := rising_of (ps := Z) fun z h => (pl z h).p
  have re := rising (n := n + 1) (S := S) (d := .lst (Z.map lD)) (ps := Z) (a := 246) (b := 224) (fun _ => rfl) rfl (fun z h => ⟨(pl z h).p, (pl z h).la, (pl z h).lb, (pl z h).lc⟩) (by omega) (by omega) (by omega) (by omega)
  have dl : (dd (Z.mergeSort leQ)).length ≤ 160 := by
    have : ∀ {x : Plc} {r : List Plc}, (ddA x r).length ≤ r.length := by
      intro x r
      induction r generalizing x with
      | nil => simp [ddA]
      | cons y r ih =>
        rw [ddA_cons]
        split
        · exact Nat.le_succ_of_le ih
        · exact Nat.succ_le_succ ih
    have p2 : (Z.mergeSort leQ).length = Z.length := (List.mergeSort_perm Z leQ).length_eq
    have l2 : (dd (Z.mergeSort leQ)).length ≤ (Z.mergeSort leQ).length := by
      cases Z.mergeSort leQ with
      | nil => simp [dd]
      | cons x r => exact Nat.succ_le_succ this
    omega
  generalize dd (Z.mergeSort leQ) = C at *
  have mC : ∀ z, z ∈ C ↔ MW ws zs z := fun z => (ri.mem z).trans (m1 z)
  obtain ⟨c9, c10, c11, c12, c13, e2⟩ := cv_all (n := n) (S := S) (wk := ⟨ws.map wD, none⟩) (fun _ => ok_none) (wl := .lst (ws.map wD)) (ln := .lst (zs.map lD)) (a2 := b2) (a3 := none) (a4 := some (.lst (Z.map lD))) (a5 := b5) (a6 := b6) (a9 := none) (a10 := none) (a11 := none) (a12 := none) (a13 := none) (C := C) (fun z h => mw_pl hX hz ((mC z).mp h)) (by omega) hX (by omega)
  refine ⟨C, ?_, ri.srt, mC, dl⟩
  generalize keysOf (ws.map (lrow C)) = K at *
  have st : startD c_law_cut.N.length [.lst (ws.map wD), .lst (zs.map lD)] = [some (.lst (ws.map wD)), some (.lst (zs.map lD)), none, none, none, none, none, none, none, none, none, none, none, none] := rfl
  have bd : c_law_cut.body = [.asg (.name 4) (.blt "list" [.var 1]), .for_ (.tup [(.name 2), (.name 5)]) (.enm (.var 0)) cuB, .par 7 8 (.call "_law_rising" [.var 4]) (.dicT false), .for_ (.tup [(.name 9), (.name 10)]) (.seq (.var 0)) cvB, .ret (.tup [.var 7, .blt "sorted" [.var 8]])] := rfl
  have x1 : exS (geN tb PT (n + 4)) (.asg (.name 4) (.blt "list" [.var 1])) [some (.lst (ws.map wD)), some (.lst (zs.map lD)), none, none, none, none, none, none, none, none, none, none, none, none] S = some (.nx (cuE (.lst (ws.map wD)) (.lst (zs.map lD)) none none zs none none none none none none none none none), S) := by simp [bltD, items]
  have x2 : exS (geN tb PT (n + 4)) (.for_ (.tup [(.name 2), (.name 5)]) (.enm (.var 0)) cuB) (cuE (.lst (ws.map wD)) (.lst (zs.map lD)) none none zs none none none none none none none none none) S = some (.nx (cuE (.lst (ws.map wD)) (.lst (zs.map lD)) b2 none Z b5 b6 none none none none none none none), S) := by
    simp only [x_for, qw_enm, q_var, vr, mpd_some, bnd_some]
    exact e1
  have x3 : exS (geN tb PT (n + 4)) (.par 7 8 (.call "_law_rising" [.var 4]) (.dicT false)) (cuE (.lst (ws.map wD)) (.lst (zs.map lD)) b2 none Z b5 b6 none none none none none none none) S = some (.nx (cvE (.lst (ws.map wD)) (.lst (zs.map lD)) b2 none (some (.lst (Z.map lD))) b5 b6 C S.length none none none none none), S ++ [dK []]) := by
    simp only [x_par, q_call, q_cons, q_nil, q_var, vr, mpd_some, bnd_some, re, q_dicT, List.set_cons_succ, List.set_cons_zero]
    rfl
  have x4 : exS (geN tb PT (n + 4)) (.for_ (.tup [(.name 9), (.name 10)]) (.seq (.var 0)) cvB) (cvE (.lst (ws.map wD)) (.lst (zs.map lD)) b2 none (some (.lst (Z.map lD))) b5 b6 C S.length none none none none none) (S ++ [dK []]) = some (.nx (cvE (.lst (ws.map wD)) (.lst (zs.map lD)) b2 none (some (.lst (Z.map lD))) b5 b6 C S.length c9 c10 c11 c12 c13), S ++ [dK K]) := by
    simp only [x_for, qw_seq, q_var, vr, mpd_some, bnd_some, items, srcOf]
    exact e2
  have so := sorted_e (S := S ++ [dK K]) (m := S.length) (kp := false) (K := K) (xs := K.map tt) last_get
  have x5 : exS (geN tb PT (n + 4)) (.ret (.tup [.var 7, .blt "sorted" [.var 8]])) (cvE (.lst (ws.map wD)) (.lst (zs.map lD)) b2 none (some (.lst (Z.map lD))) b5 b6 C S.length c9 c10 c11 c12 c13) (S ++ [dK K]) = some (.rt (.tup [.lst (C.map lD), .lst ((K.mergeSort leE).map eD)]), S ++ [dK K]) := by
    simp only [x_ret, q_tup, q_cons, q_nil, q_var, q_blt, vr, mpd_some, bnd_some, so, List.length_cons, List.length_nil, Nat.reduceAdd, Nat.reduceLeDiff, ↓reduceIte]
  have pn : plainD (.tup [.lst (C.map lD), .lst ((K.mergeSort leE).map eD)]) = true := by
    simp only [plainD, plainDs, Bool.and_true, Bool.and_eq_true]
    refine ⟨plain_all fun d hd => ?_, plain_all fun d hd => ?_⟩
    · obtain ⟨z, _, rfl⟩ := List.mem_map.mp hd
      simp [lD, plainD, plainDs]
    · obtain ⟨z, _, rfl⟩ := List.mem_map.mp hd
      simp [eD, iD, plainD, plainDs]
  rw [q_of l_cut rfl, st, bd, ex_st x1 (ex_st x2 (ex_st x3 (ex_st x4 (ex_rt x5)))), bnd_some]
  exact gc_letD pn rfl gcok_mo
end K05

set_option maxHeartbeats 1000000
namespace K05
open PySem PySem.Spec PyProof.Rows L2 Dn
variable {n k j : Nat} {S : Sto}
theorem l_ae : PT.lookup ("all_edges" : Str) = some c_p_all_edges := lk (d := d_p_all_edges) (by simp only [defs, List.mem_cons, true_or, or_true])
abbrev aeE (sg : D) (L : List Pnt) (m : Nat) (a2 a3 a5 a6 a7 : Option D) : En := [some sg, some (.tup (L.map pD)), a2, a3, some (.rfd m), a5, a6, a7]
abbrev aeP : List CS := [.asg (.sub (.var 4) (.var 7)) (.bl true)]
abbrev aeB : List CS := [.asg (.name 6) (.lc (.var 2) (.tup [(.name 2), (.name 3)]) (.enm (.var 1)) [.call "is_on_by" [.var 5, .var 3]] [2, 3]), .for_ (.name 7) (.zipN (.var 6) (.sl (.var 6) (.int 1) .non)) aeP]
theorem ae_prs {wk : Wk} (hw : ∀ S, okW wk S) {sg : D} {a2 a3 a5 a6 a7 : Option D} {L : List Pnt} {K ps : List (Nat × Nat)} (hl : K.length + ps.length < 16777215) :
    ∃ b7, loopFor wk (Dn.forTurn (geN tb PT n) (.name 7) aeP) (ps.map fun q => .ntup [iD q.1, iD q.2]) (aeE sg L S.length a2 a3 a5 a6 a7) (S ++ [dK K]) = some (.nx (aeE sg L S.length a2 a3 a5 a6 b7), S ++ [dK (addK K ps)]) := by
  obtain ⟨δ', S', e, eS, b7, eδ⟩ := for_m (g := fun q : Nat × Nat => D.ntup [iD q.1, iD q.2]) (w := wk) (turn := Dn.forTurn (geN tb PT n) (.name 7) aeP)
    (I := fun pre δ T => T = S ++ [dK (addK K pre)] ∧ ∃ b7, δ = aeE sg L S.length a2 a3 a5 a6 b7) (fun _ _ S _ => hw S) (ys := ps) (pre := []) (δ := aeE sg L S.length a2 a3 a5 a6 a7) (S := S ++ [dK K])
    (fun p q r δ T eX ⟨eS, b7, eδ⟩ => by
      subst eS eδ
      simp only [List.nil_append]
      have lp : p.length < ps.length := by rw [eX]; simp
      have h1 := len_addK (ps := p) (K := K)
      have sp := set_last (S := S) (K := addK K p) (q := q) (by omega)
      rw [← addK_snoc] at sp
      refine ⟨aeE sg L S.length a2 a3 a5 a6 (some (.ntup [iD q.1, iD q.2])), S ++ [dK (addK K (p ++ [q]))], ?_, rfl, _, rfl⟩
      simp only [Dn.forTurn, qg_name, qg_sub, bnd_some, x_cons, x_asg, q_bl, q_var, vr, mpd_some, List.set_cons_succ, List.set_cons_zero, sp, x_nil]) ⟨rfl, a7, rfl⟩
  subst eS eδ
  exact ⟨b7, by simpa using e⟩
abbrev prow (L : List Pnt) (w : Sg) : List Nat := rowL (onB w.1 w.2) 0 L
theorem ae_all {wk : Wk} (hw : ∀ S, okW wk S) {sg : D} {a2 a3 a5 a6 a7 : Option D} {L : List Pnt} (hL : ∀ Z ∈ L, P2 489 465 Z) (hc : L.length ≤ 10000) {ws : List Sg} (hX : ∀ u ∈ ws, Seg u.1 u.2) (hn : ws.length ≤ 100) :
    ∃ a5' a6' a7', loopFor wk (Dn.forTurn (geN tb PT (n + 5)) (.name 5) aeB) (ws.map sD) (aeE sg L S.length a2 a3 a5 a6 a7) (S ++ [dK []]) = some (.nx (aeE sg L S.length a2 a3 a5' a6' a7'), S ++ [dK (keysOf (ws.map (prow L)))]) := by
  obtain ⟨δ', S', e, eS, a5', a6', a7', eδ⟩ := for_m (g := sD) (w := wk) (turn := Dn.forTurn (geN tb PT (n + 5)) (.name 5) aeB)
    (I := fun pre δ T => T = S ++ [dK (keysOf (pre.map (prow L)))] ∧ ∃ a5' a6' a7', δ = aeE sg L S.length a2 a3 a5' a6' a7') (fun _ _ S _ => hw S) (ys := ws) (pre := []) (δ := aeE sg L S.length a2 a3 a5 a6 a7) (S := S ++ [dK []])
    (fun p u r δ T eX ⟨eS, b5, b6, b7, eδ⟩ => by
      subst eS eδ
      simp only [List.nil_append]
      have hu : Seg u.1 u.2 := hX u (by rw [eX]; simp)
      have lp : p.length < ws.length := by rw [eX]; simp
      have kl := (keys_all (rows := p.map (prow L))).2.2 10000 (fun r hr => by
        obtain ⟨w, _, rfl⟩ := List.mem_map.mp hr
        exact Nat.le_trans rowL_len hc)
      rw [List.length_map] at kl
      have km : p.length * 10000 ≤ 100 * 10000 := Nat.mul_le_mul_right _ (by omega)
      rw [List.map_append, List.map_cons, List.map_nil, keysOf_snoc]
      generalize keysOf (p.map (prow L)) = K at *
      have lc := row_lc (g := pD) (f := onB u.1 u.2) (w := ⟨enmD 0 (L.map pD), none⟩) (turn := lcTurn (geN tb PT (n + 5)) (.var 2) (.tup [(.name 2), (.name 3)]) [.call "is_on_by" [.var 5, .var 3]] [2, 3] (aeE sg L S.length a2 a3 (some (sD u)) b6 b7)) (S := S ++ [dK K]) ok_none (L := L) (m := 0) (fun i y hy => by
        have e := onby_eq (n := n) (S := S ++ [dK K]) (k := 489) (hu.a.pt (by omega) (by omega)) (hu.b.pt (by omega) (by omega)) ((hL y hy).pt (by omega) (by omega)) (by omega)
        change callN tb PT (n + 5) "is_on_by" [sD u, pD y] _ = some (.bl (onB u.1 u.2 y), _) at e
        cases c : onB u.1 u.2 y <;> rw [c] at e <;> simp [lcTurn, wipeD, e, truD, iD])
      change loopLc _ _ _ _ = some ((prow L u).map iD, _) at lc
      have rl : (prow L u).length ≤ 10000 := Nat.le_trans rowL_len hc
      have rl2 : ((prow L u).map iD).length ≤ 16777216 := by rw [List.length_map]; omega
      generalize prow L u = row at *
      have pl := prs_len (r := row)
      have zz : zipNt (row.map iD) (row.map iD).tail = (prs row).map fun q => D.ntup [iD q.1, iD q.2] := by
        rw [← List.map_tail, zipN_i]; rfl
      obtain ⟨c7, e2⟩ := ae_prs (n := n + 5) (S := S) (wk := ⟨(prs row).map fun q => D.ntup [iD q.1, iD q.2], none⟩) (fun _ => ok_none) (sg := sg) (a2 := a2) (a3 := a3) (a5 := some (sD u)) (a6 := some (.lst (row.map iD))) (a7 := b7) (L := L) (K := K) (ps := prs row) (by omega)
      refine ⟨aeE sg L S.length a2 a3 (some (sD u)) (some (.lst (row.map iD))) c7, _, ?_, rfl, _, _, _, rfl⟩
      have sl : slD (S ++ [dK K]) (.lst (row.map iD)) (some 1) none = some (.lst (row.map iD).tail) := by simp only [slD, dr, cut_1]
      simp only [Dn.forTurn, qg_name, bnd_some, x_cons, x_asg, x_for, qw_enm, qw_zipN, q_lc, q_sl, q_var, q_int, q_non, vr, mpd_some, List.set_cons_succ, List.set_cons_zero, x_nil, partD, isNonC, sl, lc, rl2, ↓reduceIte, zz, e2]) ⟨rfl, a5, a6, a7, rfl⟩
  subst eS eδ
  exact ⟨a5', a6', a7', by simpa using e⟩
theorem ae_eq {ws : List Sg} (hX : ∀ u ∈ ws, Seg u.1 u.2) (hn : ws.length ≤ 100) {L : List Pnt} (hL : ∀ Z ∈ L, P2 489 465 Z) (hc : L.length ≤ 10000) :
    callN tb PT (n + 6) "all_edges" [.tup (ws.map sD), .tup (L.map pD)] S = some (.tup (((keysOf (ws.map (prow L))).mergeSort leE).map eD), S) := by
  obtain ⟨c5, c6, c7, e2⟩ := ae_all (n := n) (S := S) (wk := ⟨ws.map sD, none⟩) (fun _ => ok_none) (sg := .tup (ws.map sD)) (a2 := none) (a3 := none) (a5 := none) (a6 := none) (a7 := none) hL hc hX hn
  generalize keysOf (ws.map (prow L)) = K at *
  have st : startD c_p_all_edges.N.length [.tup (ws.map sD), .tup (L.map pD)] = [some (.tup (ws.map sD)), some (.tup (L.map pD)), none, none, none, none, none, none] := rfl
  have bd : c_p_all_edges.body = [.asg (.name 4) (.dicT false), .for_ (.name 5) (.seq (.var 0)) aeB, .ret (.blt "tuple" [.blt "sorted" [.var 4]])] := rfl
  have x1 : exS (geN tb PT (n + 5)) (.asg (.name 4) (.dicT false)) [some (.tup (ws.map sD)), some (.tup (L.map pD)), none, none, none, none, none, none] S = some (.nx (aeE (.tup (ws.map sD)) L S.length none none none none none), S ++ [dK []]) := by
    simp only [x_asg, q_dicT, bnd_some, qg_name, mpd_some, List.set_cons_succ, List.set_cons_zero]
    rfl
  have x2 : exS (geN tb PT (n + 5)) (.for_ (.name 5) (.seq (.var 0)) aeB) (aeE (.tup (ws.map sD)) L S.length none none none none none) (S ++ [dK []]) = some (.nx (aeE (.tup (ws.map sD)) L S.length none none c5 c6 c7), S ++ [dK K]) := by
    simp only [x_for, qw_seq, q_var, vr, mpd_some, bnd_some, items, srcOf]
    exact e2
  have so := sorted_e (S := S ++ [dK K]) (m := S.length) (kp := false) (K := K) (xs := K.map tt) last_get
  have tu : ∀ xs, bltD (S ++ [dK K]) "tuple" [.lst xs] = some (.tup xs) := fun xs => by simp [bltD, items]
  have x3 : exS (geN tb PT (n + 5)) (.ret (.blt "tuple" [.blt "sorted" [.var 4]])) (aeE (.tup (ws.map sD)) L S.length none none c5 c6 c7) (S ++ [dK K]) = some (.rt (.tup ((K.mergeSort leE).map eD)), S ++ [dK K]) := by
    simp only [x_ret, q_cons, q_nil, q_var, q_blt, vr, mpd_some, bnd_some, so, tu]
  have pn : plainD (.tup ((K.mergeSort leE).map eD)) = true := by
    simp only [plainD]
    refine plain_all fun d hd => ?_
    obtain ⟨z, _, rfl⟩ := List.mem_map.mp hd
    simp [eD, iD, plainD, plainDs]
  rw [q_of l_ae rfl, st, bd, ex_st x1 (ex_st x2 (ex_rt x3)), bnd_some]
  exact gc_letD pn rfl gcok_mo
/-! what is asked of the lines and the points -/
theorem l_ckp : PT.lookup ("check_points" : Str) = some c_p_check_points := lk (d := d_p_check_points) (by simp only [defs, List.mem_cons, true_or, or_true])
theorem l_ckl : PT.lookup ("check_lines" : Str) = some c_p_check_lines := lk (d := d_p_check_lines) (by simp only [defs, List.mem_cons, true_or, or_true])
theorem l_vo : PT.lookup ("vertices_of" : Str) = some c_p_vertices_of := lk (d := d_p_vertices_of) (by simp only [defs, List.mem_cons, true_or, or_true])
theorem l_eo : PT.lookup ("edges_of" : Str) = some c_p_edges_of := lk (d := d_p_edges_of) (by simp only [defs, List.mem_cons, true_or, or_true])
theorem glo_most : List.lookup (Str.ofString "MOST_SEGMENTS") tb = some (.int 24) := rfl
theorem len_gt {δ : En} {xs : List D} (h : xs.length ≤ 24) : evT (geN tb PT n) (.or (.not (.isi (.var 0) "tuple")) (.cmp .Gt (.blt "len" [.var 0]) (.glo "MOST_SEGMENTS"))) (some (.tup xs) :: δ) S = some (false, S) := by
  have g : ¬ (24 : Int) < (xs.length : Int) := by omega
  simp [tyD, bltD, items, glo_most, cmpD, g]
theorem ckp_eq {Ps : List Pnt} (hP : ∀ P ∈ Ps, P2 246 224 P) (hl : Ps.length ≤ 24) : callN tb PT (n + 5) "check_points" [.tup (Ps.map pD)] S = some (.non, S) := by
  obtain ⟨δ', S', e, eS, b1, b2, eδ⟩ := for_e (g := pD) (w := ⟨enmD 0 (Ps.map pD), none⟩) (turn := Dn.forTurn (geN tb PT (n + 4)) (.tup [(.name 1), (.name 2)]) [.ife (.not (.call "is_pointed" [.var 2])) [.never] []])
    (I := fun pre δ T => T = S ∧ ∃ b1 b2, δ = [some (.tup (Ps.map pD)), b1, b2]) (fun _ _ S _ => ok_none) (ys := Ps) (pre := []) (δ := [some (.tup (Ps.map pD)), none, none]) (S := S)
    (fun p P r δ T eX ⟨eS, b1, b2, eδ⟩ => by
      subst eS eδ
      have hp : P2 246 224 P := hP P (by rw [eX]; simp)
      have e := Geo.pointed_pt (tb := tb) (n := n) (S := T) K05.hP (hp.pt (k := 246) (by omega) (by omega))
      exact ⟨[some (.tup (Ps.map pD)), some (.int (p.length : Int)), some (pD P)], T, by simp [Dn.forTurn, e, truD], rfl, _, _, rfl⟩) ⟨rfl, none, none, rfl⟩
  subst eS eδ
  have st : startD c_p_check_points.N.length [.tup (Ps.map pD)] = [some (.tup (Ps.map pD)), none, none] := rfl
  have bd : c_p_check_points.body = [.ife (.or (.not (.isi (.var 0) "tuple")) (.cmp .Gt (.blt "len" [.var 0]) (.glo "MOST_SEGMENTS"))) [.never] [], .for_ (.tup [(.name 1), (.name 2)]) (.enm (.var 0)) [.ife (.not (.call "is_pointed" [.var 2])) [.never] []]] := rfl
  have lg := len_gt (n := n + 4) (S := S') (xs := Ps.map pD) (δ := [none, none]) (by rw [List.length_map]; omega)
  have x1 : exS (geN tb PT (n + 4)) (.ife (.or (.not (.isi (.var 0) "tuple")) (.cmp .Gt (.blt "len" [.var 0]) (.glo "MOST_SEGMENTS"))) [.never] []) [some (.tup (Ps.map pD)), none, none] S' = some (.nx [some (.tup (Ps.map pD)), none, none], S') := by
    rw [x_if, lg, bnd_some]
    simp
  have x2 : exS (geN tb PT (n + 4)) (.for_ (.tup [(.name 1), (.name 2)]) (.enm (.var 0)) [.ife (.not (.call "is_pointed" [.var 2])) [.never] []]) [some (.tup (Ps.map pD)), none, none] S' = some (.nx [some (.tup (Ps.map pD)), b1, b2], S') := by
    simp only [x_for, qw_enm, q_var, vr, mpd_some, bnd_some]
    exact e
  rw [q_of l_ckp rfl, st, bd, ex_st x1 (ex_st x2 x_nil), bnd_some]
  exact gc_same (Nat.le_refl _)
theorem ckl_eq {ws : List Sg} (hX : ∀ u ∈ ws, Seg u.1 u.2) (hn : ws.length ≤ 24) {Ps : List Pnt} (hP : ∀ P ∈ Ps, P2 246 224 P) (hl : Ps.length ≤ 24) : callN tb PT (n + 6) "check_lines" [.tup (ws.map sD), .tup (Ps.map pD)] S = some (.non, S) := by
  obtain ⟨δ', S', e, eS, b1, b2, eδ⟩ := for_e (g := sD) (w := ⟨enmD 0 (ws.map sD), none⟩) (turn := Dn.forTurn (geN tb PT (n + 5)) (.tup [(.name 2), (.name 3)]) [.ife (.not (.call "is_segmented" [.var 3])) [.never] []])
    (I := fun pre δ T => T = S ∧ ∃ b1 b2, δ = [some (.tup (ws.map sD)), some (.tup (Ps.map pD)), b1, b2]) (fun _ _ S _ => ok_none) (ys := ws) (pre := []) (δ := [some (.tup (ws.map sD)), some (.tup (Ps.map pD)), none, none]) (S := S)
    (fun p u r δ T eX ⟨eS, b1, b2, eδ⟩ => by
      subst eS eδ
      have hu : Seg u.1 u.2 := hX u (by rw [eX]; simp)
      have e := seg_eq (n := n) (S := T) (en_pt hu.a) (en_pt hu.b) hu.ne
      change callN tb PT (n + 5) "is_segmented" [sD u] T = _ at e
      exact ⟨[some (.tup (ws.map sD)), some (.tup (Ps.map pD)), some (.int (p.length : Int)), some (sD u)], T, by simp [Dn.forTurn, e, truD], rfl, _, _, rfl⟩) ⟨rfl, none, none, rfl⟩
  subst eS eδ
  have st : startD c_p_check_lines.N.length [.tup (ws.map sD), .tup (Ps.map pD)] = [some (.tup (ws.map sD)), some (.tup (Ps.map pD)), none, none] := rfl
  have bd : c_p_check_lines.body = [.ife (.or (.not (.isi (.var 0) "tuple")) (.cmp .Gt (.blt "len" [.var 0]) (.glo "MOST_SEGMENTS"))) [.never] [], .for_ (.tup [(.name 2), (.name 3)]) (.enm (.var 0)) [.ife (.not (.call "is_segmented" [.var 3])) [.never] []], .expr (.call "check_points" [.var 1])] := rfl
  have lg := len_gt (n := n + 5) (S := S') (xs := ws.map sD) (δ := [some (.tup (Ps.map pD)), none, none]) (by rw [List.length_map]; omega)
  have x1 : exS (geN tb PT (n + 5)) (.ife (.or (.not (.isi (.var 0) "tuple")) (.cmp .Gt (.blt "len" [.var 0]) (.glo "MOST_SEGMENTS"))) [.never] []) [some (.tup (ws.map sD)), some (.tup (Ps.map pD)), none, none] S' = some (.nx [some (.tup (ws.map sD)), some (.tup (Ps.map pD)), none, none], S') := by
    rw [x_if, lg, bnd_some]
    simp
  have x2 : exS (geN tb PT (n + 5)) (.for_ (.tup [(.name 2), (.name 3)]) (.enm (.var 0)) [.ife (.not (.call "is_segmented" [.var 3])) [.never] []]) [some (.tup (ws.map sD)), some (.tup (Ps.map pD)), none, none] S' = some (.nx [some (.tup (ws.map sD)), some (.tup (Ps.map pD)), b1, b2], S') := by
    simp only [x_for, qw_enm, q_var, vr, mpd_some, bnd_some]
    exact e
  have cp := ckp_eq (n := n) (S := S') hP hl
  have x3 : exS (geN tb PT (n + 5)) (.expr (.call "check_points" [.var 1])) [some (.tup (ws.map sD)), some (.tup (Ps.map pD)), b1, b2] S' = some (.nx [some (.tup (ws.map sD)), some (.tup (Ps.map pD)), b1, b2], S') := by
    simp only [x_expr, q_call, q_cons, q_nil, q_var, vr, mpd_some, bnd_some, cp]
  rw [q_of l_ckl rfl, st, bd, ex_st x1 (ex_st x2 (ex_st x3 x_nil)), bnd_some]
  exact gc_same (Nat.le_refl _)
/-- the vertices -/
theorem vo_eq {ws : List Sg} (hX : ∀ u ∈ ws, Seg u.1 u.2) (hn : ws.length ≤ 24) {Ps : List Pnt} (hP : ∀ P ∈ Ps, P2 246 224 P) (hl : Ps.length ≤ 24) {L : List Pnt} (ea : ∀ S, callN tb PT (n + 7) "all_vertices" [.tup (ws.map sD), .tup (Ps.map pD)] S = some (.tup (L.map pD), S)) :
    callN tb PT (n + 8) "vertices_of" [.tup (ws.map sD), .tup (Ps.map pD)] S = some (.tup (L.map pD), S) := by
  have ck := ckl_eq (n := n + 1) (S := S) hX hn hP hl
  have e := ea S
  rw [q_of l_vo rfl]
  simp only [c_p_vertices_of]
  generalize ws.map sD = A at *
  generalize Ps.map pD = B at *
  simp [startD, ck, e, gc_same]
theorem eo_eq {ws : List Sg} (hX : ∀ u ∈ ws, Seg u.1 u.2) (hn : ws.length ≤ 24) {Ps : List Pnt} (hP : ∀ P ∈ Ps, P2 246 224 P) (hl : Ps.length ≤ 24) {L : List Pnt} (ea : ∀ S, callN tb PT (n + 7) "all_vertices" [.tup (ws.map sD), .tup (Ps.map pD)] S = some (.tup (L.map pD), S))
    (hL : ∀ Z ∈ L, P2 489 465 Z) (hc : L.length ≤ 10000) : callN tb PT (n + 8) "edges_of" [.tup (ws.map sD), .tup (Ps.map pD)] S = some (.tup (((keysOf (ws.map (prow L))).mergeSort leE).map eD), S) := by
  have ck := ckl_eq (n := n + 1) (S := S) hX hn hP hl
  have e := ea S
  have e2 := ae_eq (n := n + 1) (S := S) hX (by omega) hL hc
  rw [q_of l_eo rfl]
  simp only [c_p_edges_of]
  generalize ((keysOf (ws.map (prow L))).mergeSort leE).map eD = C at *
  generalize ws.map sD = A at *
  generalize Ps.map pD = B at *
  generalize L.map pD = D' at *
  simp [startD, ck, e, e2, gc_same]
end K05

set_option maxHeartbeats 1000000
namespace K05
open PySem PySem.Spec PyProof.Rows L2 Dn
variable {n k j : Nat} {S : Sto}
theorem VS.uniq {L L' : List Pnt} {M : Pnt → Prop} (v : VS L M) (v' : VS L' M) : L = L' :=
  pw_uniq (fun a b h g => Geo.lq_as h g) v.srt v'.srt fun Z => (v.mem Z).trans (v'.mem Z).symm
/-- the vertices, told by what they are -/
theorem av_of {ws : List Sg} (hX : ∀ u ∈ ws, Seg u.1 u.2) (hn : ws.length ≤ 24) {Ps : List Pnt} (hP : ∀ P ∈ Ps, P2 246 224 P) (hp : Ps.length ≤ 24) {L : List Pnt} (v : VS L (MV ws Ps)) :
    callN tb PT (n + 7) "all_vertices" [.tup (ws.map sD), .tup (Ps.map pD)] S = some (.tup (L.map pD), S) := by
  obtain ⟨L', e, v', _⟩ := av_eq (n := n) (S := S) hX (by omega) hP (by omega)
  rw [v.uniq v']
  exact e
/-! both ways round -/
def MA (ws : List Sg) (Ps : List Pnt) (Z : Pnt) : Prop := Z ∈ Ps ∨ ∃ w ∈ ws, ∃ v ∈ ws, Z ∈ comW w v
theorem com_self {w : Sg} (h : Seg w.1 w.2) {Z : Pnt} : Z ∈ comW w w ↔ Z = w.1 ∨ Z = w.2 := by
  have e1 : comP w.1 w.2 w.2 w.1 = comP w.1 w.2 w.1 w.2 := com_rev2 h h
  have e2 := alone_eq h
  show Z ∈ comP w.1 w.2 w.1 w.2 ↔ _
  rw [← e1, ← e2, List.mem_map]
  have mm : ∀ z, z ∈ dd ([ownP w.1, ownP w.2].mergeSort leQ) ↔ z = ownP w.1 ∨ z = ownP w.2 := fun z => by
    rw [mem_dd, (List.mergeSort_perm _ leQ).mem_iff]
    simp
  have t1 := told_own (en_pt h.a)
  have t2 := told_own (en_pt h.b)
  constructor
  · rintro ⟨z, hz, e⟩
    rcases (mm z).mp hz with q | q
    · rw [q, t1] at e; exact .inl e.symm
    · rw [q, t2] at e; exact .inr e.symm
  · rintro (e | e)
    · exact ⟨ownP w.1, (mm _).mpr (.inl rfl), by rw [t1, e]⟩
    · exact ⟨ownP w.2, (mm _).mpr (.inr rfl), by rw [t2, e]⟩
theorem mv_ma {ws : List Sg} (hX : ∀ u ∈ ws, Seg u.1 u.2) {Ps : List Pnt} {Z : Pnt} : MV ws Ps Z ↔ MA ws Ps Z := by
  constructor
  · rintro ((⟨w, hw, e⟩ | h) | ⟨w, v, h, hZ⟩)
    · exact .inr ⟨w, hw, w, hw, (com_self (hX w hw)).mpr e⟩
    · exact .inl h
    · obtain ⟨m1, m2⟩ := ahead_mem h
      exact .inr ⟨w, m1, v, m2, hZ⟩
  · rintro (h | ⟨w, hw, v, hv, hZ⟩)
    · exact .inl (.inr h)
    · obtain ⟨p, r, e⟩ := List.append_of_mem hw
      have hv' := hv
      rw [e] at hv'
      rcases List.mem_append.mp hv' with q | q
      · exact .inr ⟨w, v, ⟨p, r, e, q⟩, hZ⟩
      · rcases List.mem_cons.mp q with q | q
        · rw [q] at hZ
          exact .inl (.inl ⟨w, hw, (com_self (hX w hw)).mp hZ⟩)
        · obtain ⟨r1, r2, e2⟩ := List.append_of_mem q
          refine .inr ⟨v, w, ⟨p ++ w :: r1, r2, by rw [e, e2]; simp, by simp⟩, ?_⟩
          show Z ∈ comP v.1 v.2 w.1 w.2
          rw [com_swap (hX w hw) (hX v hv)]
          exact hZ
def swp (w : Sg) : Sg := (w.2, w.1)
theorem com_swp {w v : Sg} (h : Seg w.1 w.2) (g : Seg v.1 v.2) : comW (swp w) (swp v) = comW w v := by
  show comP w.2 w.1 v.2 v.1 = comP w.1 w.2 v.1 v.2
  rw [com_rev1 h g.rev, com_rev2 h g]
def back (ws : List Sg) : List Sg := ws.reverse.map swp
theorem back_mem {ws : List Sg} {w : Sg} : w ∈ back ws ↔ ∃ v ∈ ws, swp v = w := by
  unfold back
  rw [List.mem_map]
  simp
theorem back_seg {ws : List Sg} (hX : ∀ u ∈ ws, Seg u.1 u.2) : ∀ u ∈ back ws, Seg u.1 u.2 := fun u hu => by
  obtain ⟨v, hv, rfl⟩ := back_mem.mp hu
  exact (hX v hv).rev
theorem mv_back {ws : List Sg} (hX : ∀ u ∈ ws, Seg u.1 u.2) {Ps Ps' : List Pnt} (hp : ∀ P, P ∈ Ps' ↔ P ∈ Ps) {Z : Pnt} : MV ws Ps Z ↔ MV (back ws) Ps' Z := by
  rw [mv_ma hX, mv_ma (back_seg hX)]
  unfold MA
  rw [hp]
  refine or_congr Iff.rfl ⟨fun ⟨w, hw, v, hv, h⟩ => ?_, fun ⟨w, hw, v, hv, h⟩ => ?_⟩
  · exact ⟨swp w, back_mem.mpr ⟨w, hw, rfl⟩, swp v, back_mem.mpr ⟨v, hv, rfl⟩, by rw [com_swp (hX w hw) (hX v hv)]; exact h⟩
  · obtain ⟨w', hw', rfl⟩ := back_mem.mp hw
    obtain ⟨v', hv', rfl⟩ := back_mem.mp hv
    rw [com_swp (hX w' hw') (hX v' hv')] at h
    exact ⟨w', hw', v', hv', h⟩
theorem on_swp {w : Sg} (h : Seg w.1 w.2) {Z : Pnt} (hZ : P2 489 465 Z) : onB (swp w).1 (swp w).2 Z = onB w.1 w.2 Z := by
  have k1 := h.a.pt (k := 489) (by omega) (by omega)
  have k2 := h.b.pt (k := 489) (by omega) (by omega)
  have k3 := hZ.pt (k := 489) (by omega) (by omega)
  have a := onB_on k1 k2 k3 h.ne
  have b := onB_on k2 k1 k3 h.ne.symm
  show onB w.2 w.1 Z = _
  rw [Bool.eq_iff_iff, a, b]
  exact Geo.on_comm
theorem keys_back {ws : List Sg} (hX : ∀ u ∈ ws, Seg u.1 u.2) {L : List Pnt} (hL : ∀ Z ∈ L, P2 489 465 Z) : (keysOf ((back ws).map (prow L))).mergeSort leE = (keysOf (ws.map (prow L))).mergeSort leE := by
  have pr : ∀ w ∈ ws, prow L (swp w) = prow L w := fun w hw => rowL_congr fun Z hZ => on_swp (hX w hw) (hL Z hZ)
  refine sorted_uniq keys_all.1 keys_all.1 fun z => ?_
  rw [keys_all.2.1, keys_all.2.1]
  simp only [List.mem_map]
  constructor
  · rintro ⟨r, ⟨w, hw, rfl⟩, hz⟩
    obtain ⟨v, hv, rfl⟩ := back_mem.mp hw
    rw [pr v hv] at hz
    exact ⟨_, ⟨v, hv, rfl⟩, hz⟩
  · rintro ⟨r, ⟨w, hw, rfl⟩, hz⟩
    exact ⟨_, ⟨swp w, back_mem.mpr ⟨w, hw, rfl⟩, rfl⟩, by rw [pr w hw]; exact hz⟩
/-! the law's own against the program's -/
theorem cut_vs {ws : List Sg} (hX : ∀ u ∈ ws, Seg u.1 u.2) {zs : List Plc} (hz : ∀ z ∈ zs, Pl 246 224 z) {C : List Plc} (srt : C.Pairwise fun a b => Geo.lq (hq a) (hq b)) (mem : ∀ z, z ∈ C ↔ MW ws zs z) : VS (C.map toldP) (MV ws (zs.map toldP)) := by
  have pl : ∀ z ∈ C, Pl 246 224 z := fun z h => mw_pl hX hz ((mem z).mp h)
  refine ⟨?_, fun Z => ?_, fun Z hZ => ?_⟩
  · rw [List.pairwise_map]
    refine srt.imp_of_mem fun {a b} ha hb h => ?_
    rw [xq_told (pl a ha).p.pos, xq_told (pl b hb).p.pos]
    exact h
  · rw [List.mem_map]
    constructor
    · rintro ⟨z, hz', rfl⟩
      rcases (mem z).mp hz' with h | ⟨w, h1, h | h⟩ | ⟨w, u, h1, h2⟩
      · exact .inl (.inr (List.mem_map.mpr ⟨z, h, rfl⟩))
      · rw [h, told_own (en_pt (hX w h1).a)]; exact .inl (.inl ⟨w, h1, .inl rfl⟩)
      · rw [h, told_own (en_pt (hX w h1).b)]; exact .inl (.inl ⟨w, h1, .inr rfl⟩)
      · obtain ⟨m1, m2⟩ := ahead_mem h1
        refine .inr ⟨w, u, h1, ?_⟩
        show toldP z ∈ comP w.1 w.2 u.1 u.2
        rw [← due_eq (hX w m1) (hX u m2)]
        exact List.mem_map.mpr ⟨z, h2, rfl⟩
    · rintro ((⟨w, h1, h | h⟩ | h) | ⟨w, u, h1, h2⟩)
      · exact ⟨ownP w.1, (mem _).mpr (.inr (.inl ⟨w, h1, .inl rfl⟩)), by rw [told_own (en_pt (hX w h1).a), h]⟩
      · exact ⟨ownP w.2, (mem _).mpr (.inr (.inl ⟨w, h1, .inr rfl⟩)), by rw [told_own (en_pt (hX w h1).b), h]⟩
      · obtain ⟨z, h3, e⟩ := List.mem_map.mp h
        exact ⟨z, (mem _).mpr (.inl h3), e⟩
      · obtain ⟨m1, m2⟩ := ahead_mem h1
        have h3 : Z ∈ comP w.1 w.2 u.1 u.2 := h2
        rw [← due_eq (hX w m1) (hX u m2)] at h3
        obtain ⟨z, h4, e⟩ := List.mem_map.mp h3
        exact ⟨z, (mem _).mpr (.inr (.inr ⟨w, u, h1, h4⟩)), e⟩
  · obtain ⟨z, h, rfl⟩ := List.mem_map.mp hZ
    have := told_p2 (pl z h)
    exact ⟨this.1.mono (by omega) (by omega), this.2.mono (by omega) (by omega)⟩
theorem row_same {ws : List Sg} (hX : ∀ u ∈ ws, Seg u.1 u.2) {C : List Plc} (hC : ∀ z ∈ C, Pl 246 224 z) : ws.map (prow (C.map toldP)) = ws.map (lrow C) :=
  List.map_congr_left fun w hw => rowL_map fun z hz => far_on (hX w hw) (hC z hz)
end K05

set_option maxHeartbeats 1000000
namespace Dn
open PySem PySem.Spec PyProof.Rows L2
/-- the spring k changes; objects of a def come: none that is kept -/
structure Gr (k : Nat) (S S' : Sto) : Prop where
  len : S.length ≤ S'.length
  same : ∀ i, i < S.length → i ≠ k → S'[i]? = S[i]?
  loc : ∀ i mo, S.length ≤ i → S'[i]? = some mo → mo.keep = false
theorem Gr.refl {k : Nat} {S : Sto} : Gr k S S := ⟨Nat.le_refl _, fun _ _ _ => rfl, fun i mo h e => by rw [List.getElem?_eq_none h] at e; cases e⟩
theorem Gr.same' {k : Nat} {S0 S S' : Sto} (g : Gr k S0 S) (s : Same k S S') (hk : k < S0.length) : Gr k S0 S' :=
  ⟨by rw [s.1]; exact g.len, fun i h1 h2 => by rw [s.2 i h2]; exact g.same i h1 h2, fun i mo h e => by
    rw [s.2 i (by omega)] at e
    exact g.loc i mo h e⟩
theorem Gr.push {k : Nat} {S0 S : Sto} {xs : List D} (g : Gr k S0 S) : Gr k S0 (S ++ [.lst false xs]) :=
  ⟨by rw [List.length_append]; have := g.len; omega, fun i h1 h2 => by rw [List.getElem?_append_left (Nat.lt_of_lt_of_le h1 g.len)]; exact g.same i h1 h2, fun i mo h e => by
    by_cases c : i < S.length
    · rw [List.getElem?_append_left c] at e
      exact g.loc i mo h e
    · rw [List.getElem?_append_right (by omega)] at e
      cases hj : i - S.length with
      | zero => rw [hj] at e; cases e; rfl
      | succ m => rw [hj] at e; simp at e⟩
theorem Gr.set {k m : Nat} {S0 S : Sto} {xs : List D} (g : Gr k S0 S) (hm : S0.length ≤ m) : Gr k S0 (S.set m (.lst false xs)) :=
  ⟨by rw [List.length_set]; exact g.len, fun i h1 h2 => by rw [List.getElem?_set_ne (by omega)]; exact g.same i h1 h2, fun i mo h e => by
    by_cases c : m = i
    · subst c
      by_cases c2 : m < S.length
      · rw [List.getElem?_set_self c2] at e; cases e; rfl
      · rw [List.getElem?_eq_none (by rw [List.length_set]; omega)] at e; cases e
    · rw [List.getElem?_set_ne c] at e
      exact g.loc i mo h e⟩
theorem gc_drop {k j : Nat} {S S' : Sto} {d : D} (hd : plainD d = true) (g : Gr k S S') (w : Sp k j S') (hk : k < S.length) : gc S d S' = some (d, S'.take S.length) ∧ Sp k j (S'.take S.length) ∧ Same k S (S'.take S.length) := by
  refine ⟨?_, ?_, ?_, ?_⟩
  · unfold gc
    by_cases h : S'.length ≤ S.length
    · rw [if_pos h, List.take_of_length_le h]
    · rw [if_neg h, if_neg, if_pos, fz_plain hd]
      · rfl
      · intro i hi
        by_cases e : i = k
        · subst e
          obtain ⟨a, b, c, e1, _⟩ := w
          exact .inr ⟨.lst true [.int a, .int b, .int c], e1, below_ints⟩
        · exact .inl (g.same i hi e)
      · intro c
        obtain ⟨mo, hm, hk'⟩ := List.any_eq_true.mp c
        obtain ⟨i, hi, e⟩ := List.mem_iff_getElem.mp hm
        have e2 : S'[S.length + i]? = some mo := by
          rw [← List.getElem?_drop, List.getElem?_eq_getElem hi, e]
        rw [g.loc _ mo (by omega) e2] at hk'
        cases hk'
  · obtain ⟨a, b, c, e1, q⟩ := w
    exact ⟨a, b, c, by rw [List.getElem?_take, if_pos hk]; exact e1, q⟩
  · rw [List.length_take]; have := g.len; omega
  · intro i hi
    rw [List.getElem?_take]
    split
    · rename_i c; exact g.same i c hi
    · rename_i c; rw [List.getElem?_eq_none (by omega)]
theorem Sp.set' {k j rk : Nat} {S : Sto} {mo : MO} (h : Sp k j S) (ne : rk ≠ k) : Sp k j (S.set rk mo) := by
  obtain ⟨a, b, c, e, q⟩ := h
  exact ⟨a, b, c, by rw [List.getElem?_set_ne ne]; exact e, q⟩
/-- a list of the def's own is given back: it is frozen -/
theorem gc_ref {k j i : Nat} {S S' : Sto} {xs : List D} (hd : plainDs xs = true) (g : Gr k S S') (w : Sp k j S') (hk : k < S.length) (hi : S.length ≤ i) (hx : S'[i]? = some (.lst false xs)) : gc S (.ref i) S' = some (.lst xs, S'.take S.length) ∧ Sp k j (S'.take S.length) ∧ Same k S (S'.take S.length) := by
  obtain ⟨_, h2, h3⟩ := gc_drop (d := .non) rfl g w hk
  refine ⟨?_, h2, h3⟩
  unfold gc
  have hl : ¬ S'.length ≤ S.length := by have := get_lt hx; omega
  rw [if_neg hl, if_neg, if_pos]
  · have hn : ¬ i < S.length := by omega
    simp only [fzD, hn, ↓reduceIte, fzR, hx, fzs_plain hd, Option.map_some]
  · intro i hi
    by_cases e : i = k
    · subst e
      obtain ⟨a, b, c, e1, _⟩ := w
      exact .inr ⟨.lst true [.int a, .int b, .int c], e1, below_ints⟩
    · exact .inl (g.same i hi e)
  · intro c
    obtain ⟨mo, hm, hk'⟩ := List.any_eq_true.mp c
    obtain ⟨i, hi, e⟩ := List.mem_iff_getElem.mp hm
    have e2 : S'[S.length + i]? = some mo := by
      rw [← List.getElem?_drop, List.getElem?_eq_getElem hi, e]
    rw [g.loc _ mo (by omega) e2] at hk'
    cases hk'
end Dn
namespace Geo
open PySem PySem.Spec PyProof.Rows L2 Dn
variable {tb : List (Str × D)} {PT : List (Str × Fn)} {n j k : Nat} {S : Sto}
theorem one_of_r (T : HasD PT) {xs : List D} {m : Nat} {kp : Bool} (h : Sp k j S) (hj : j < 100000000) (hm : S[m]? = some (.lst kp xs)) (ne : m ≠ k) (hx : 0 < xs.length) (hx2 : xs.length < 1073741824) :
    ∃ d ∈ xs, ∃ S', callN tb PT (n + 2) "_law_one_of" [.ref k, .ref m] S = some (d, S') ∧ Sp k (j + 1) S' ∧ Same k S S' := by
  obtain ⟨r, S1, e, h0, h1, w1, s1⟩ := draw (tb := tb) (n := n) T h hj (m := xs.length) (by omega) (by omega)
  obtain ⟨d, hd, ed⟩ := at_in h0 h1
  have hm1 : S1[m]? = some (.lst kp xs) := by rw [s1.2 m ne]; exact hm
  refine ⟨d, hd, S1, ?_, w1, s1⟩
  rw [q_of T.one_of rfl]
  simp only [g_one_of]
  simp [startD, bltD, items, hm, MO.xs, e, ixD, hm1, ed]
  exact gc_same (by rw [s1.1]; exact Nat.le_refl _)
end Geo

set_option maxHeartbeats 1000000
namespace K05
open PySem PySem.Spec PyProof.Rows L2 Dn
variable {n k j rk : Nat} {S : Sto}
theorem l_box : PT.lookup ("_law_box" : Str) = some c_law_box := lk (d := d_law_box) (by simp only [defs, List.mem_cons, true_or, or_true])
theorem l_pairs : PT.lookup ("_law_pairs" : Str) = some c_law_pairs := lk (d := d_law_pairs) (by simp only [defs, List.mem_cons, true_or, or_true])
theorem adj4 {a b c d : Pnt} (h1 : a ≠ b) (h2 : b ≠ c) (h3 : c ≠ d) : Adj [a, b, c, d] := fun p x y r e => by
  match p, e with
  | [], e => simp at e; rw [← e.1, ← e.2.1]; exact h1
  | [_], e => simp at e; rw [← e.2.1, ← e.2.2.1]; exact h2
  | [_, _], e => simp at e; rw [← e.2.2.1, ← e.2.2.2.1]; exact h3
  | [_, _, _], e => simp at e
  | _ :: _ :: _ :: _ :: p, e => simp at e
abbrev bx0 : CS := .par 3 4 (.call "_law_draw" [.var 0, .bin .Sub (.ix (.var 1) (.int 4)) (.int 1)]) (.call "_law_draw" [.var 0, .bin .Sub (.ix (.var 1) (.int 4)) (.int 1)])
abbrev bx1 : CS := .par 5 6 (.bin .Add (.bin .Add (.var 3) (.int 1)) (.call "_law_draw" [.var 0, .bin .Sub (.bin .Sub (.ix (.var 1) (.int 4)) (.int 1)) (.var 3)])) (.bin .Add (.bin .Add (.var 4) (.int 1)) (.call "_law_draw" [.var 0, .bin .Sub (.bin .Sub (.ix (.var 1) (.int 4)) (.int 1)) (.var 4)]))
abbrev bx2 : CS := .asg (.name 2) (.lst none [.call "_law_grid" [.var 1, .var 3, .var 4, .int 1], .call "_law_grid" [.var 1, .var 5, .var 4, .int 1], .call "_law_grid" [.var 1, .var 5, .var 6, .int 1], .call "_law_grid" [.var 1, .var 3, .var 6, .int 1]])
abbrev bx3 : CS := .ret (.blt "tuple" [.ite (.cmp .Gt (.call "_law_draw" [.var 0, .int 3]) (.int 0)) (.var 2) (.rev (.var 2))])
theorem box {f : Geo.Frm} (hf : Geo.FrmOk f) (w : Sp k j S) (hj : j + 5 < 100000000) :
    ∃ (Ps : List Pnt) (S' : Sto), callN tb PT (n + 4) "_law_box" [.ref k, f.d] S = some (.tup (Ps.map pD), S') ∧ Ps.length = 4 ∧ (∀ P ∈ Ps, P2 26 5 P) ∧ (Adj Ps ∧ ∀ A B, Ps.head? = some A → Ps.getLast? = some B → A ≠ B) ∧ Sp k (j + 5) S' ∧ Same k S S' := by
  have h3 := hf.w0
  have h5 := hf.w
  have ew : ∀ T, ixD T f.d (.int 4) = some (.int f.wide) := fun T => rfl
  obtain ⟨i, S1, e1, i0, i1, w1, s1⟩ := Geo.draw (tb := tb) (n := n + 2) hT.toHasD w (by omega) (m := f.wide - 1) (by omega) (by omega)
  obtain ⟨m, S2, e2, m0, m1, w2, s2⟩ := Geo.draw (tb := tb) (n := n + 2) hT.toHasD w1 (by omega) (m := f.wide - 1) (by omega) (by omega)
  obtain ⟨a, S3, e3, a0, a1, w3, s3⟩ := Geo.draw (tb := tb) (n := n + 2) hT.toHasD w2 (by omega) (m := f.wide - 1 - i) (by omega) (by omega)
  obtain ⟨b, S4, e4, b0, b1, w4, s4⟩ := Geo.draw (tb := tb) (n := n + 2) hT.toHasD w3 (by omega) (m := f.wide - 1 - m) (by omega) (by omega)
  obtain ⟨z, S5, e5, z0, z1, w5, s5⟩ := Geo.draw (tb := tb) (n := n + 2) hT.toHasD w4 (by omega) (m := 3) (by omega) (by omega)
  have g1 := Geo.grid (tb := tb) (n := n) (S := S4) hT.toHasD hF hf (i := i) (m := m) (l := 1) ⟨by omega, by omega⟩ ⟨by omega, by omega⟩ ⟨by omega, by omega⟩
  have g2 := Geo.grid (tb := tb) (n := n) (S := S4) hT.toHasD hF hf (i := i + 1 + a) (m := m) (l := 1) ⟨by omega, by omega⟩ ⟨by omega, by omega⟩ ⟨by omega, by omega⟩
  have g3 := Geo.grid (tb := tb) (n := n) (S := S4) hT.toHasD hF hf (i := i + 1 + a) (m := m + 1 + b) (l := 1) ⟨by omega, by omega⟩ ⟨by omega, by omega⟩ ⟨by omega, by omega⟩
  have g4 := Geo.grid (tb := tb) (n := n) (S := S4) hT.toHasD hF hf (i := i) (m := m + 1 + b) (l := 1) ⟨by omega, by omega⟩ ⟨by omega, by omega⟩ ⟨by omega, by omega⟩
  have p1 := grid_p2 hf (i := i) (m := m) (l := 1) (Geo.lt_of (by omega)) (Geo.lt_of (by omega)) ⟨by omega, by omega⟩
  have p2 := grid_p2 hf (i := i + 1 + a) (m := m) (l := 1) (Geo.lt_of (by omega)) (Geo.lt_of (by omega)) ⟨by omega, by omega⟩
  have p3 := grid_p2 hf (i := i + 1 + a) (m := m + 1 + b) (l := 1) (Geo.lt_of (by omega)) (Geo.lt_of (by omega)) ⟨by omega, by omega⟩
  have p4 := grid_p2 hf (i := i) (m := m + 1 + b) (l := 1) (Geo.lt_of (by omega)) (Geo.lt_of (by omega)) ⟨by omega, by omega⟩
  have n12 : Geo.gridP f i m 1 ≠ Geo.gridP f (i + 1 + a) m 1 := fun e => by have := grid_inj hf e; omega
  have n23 : Geo.gridP f (i + 1 + a) m 1 ≠ Geo.gridP f (i + 1 + a) (m + 1 + b) 1 := fun e => by have := grid_inj hf e; omega
  have n34 : Geo.gridP f (i + 1 + a) (m + 1 + b) 1 ≠ Geo.gridP f i (m + 1 + b) 1 := fun e => by have := grid_inj hf e; omega
  have n14 : Geo.gridP f i m 1 ≠ Geo.gridP f i (m + 1 + b) 1 := fun e => by have := grid_inj hf e; omega
  generalize Geo.gridP f i m 1 = P1 at *
  generalize Geo.gridP f (i + 1 + a) m 1 = Q2 at *
  generalize Geo.gridP f (i + 1 + a) (m + 1 + b) 1 = P3 at *
  generalize Geo.gridP f i (m + 1 + b) 1 = P4 at *
  have pt : ∀ P ∈ [P1, Q2, P3, P4], P2 26 5 P := fun P hP => by
    simp only [List.mem_cons, List.not_mem_nil, or_false] at hP
    rcases hP with rfl | rfl | rfl | rfl <;> assumption
  have x0 : exS (geN tb PT (n + 3)) bx0 [some (.ref k), some f.d, none, none, none, none, none] S = some (.nx [some (.ref k), some f.d, none, some (.int i), some (.int m), none, none], S2) := by simp [ew, binD, dr, e1, e2]
  have x1 : exS (geN tb PT (n + 3)) bx1 [some (.ref k), some f.d, none, some (.int i), some (.int m), none, none] S2 = some (.nx [some (.ref k), some f.d, none, some (.int i), some (.int m), some (.int (i + 1 + a)), some (.int (m + 1 + b))], S4) := by simp [ew, binD, dr, e3, e4]
  have x2 : exS (geN tb PT (n + 3)) bx2 [some (.ref k), some f.d, none, some (.int i), some (.int m), some (.int (i + 1 + a)), some (.int (m + 1 + b))] S4 = some (.nx [some (.ref k), some f.d, some (.lst ([P1, Q2, P3, P4].map pD)), some (.int i), some (.int m), some (.int (i + 1 + a)), some (.int (m + 1 + b))], S4) := by simp [g1, g2, g3, g4]
  have sd : startD c_law_box.N.length [.ref k, f.d] = [some (.ref k), some f.d, none, none, none, none, none] := rfl
  have bd : c_law_box.body = [bx0, bx1, bx2, bx3] := rfl
  have sAll := (((s1.trans s2).trans s3).trans s4).trans s5
  by_cases hz : 0 < z
  · have x3 : exS (geN tb PT (n + 3)) bx3 [some (.ref k), some f.d, some (.lst ([P1, Q2, P3, P4].map pD)), some (.int i), some (.int m), some (.int (i + 1 + a)), some (.int (m + 1 + b))] S4 = some (.rt (.tup ([P1, Q2, P3, P4].map pD)), S5) := by simp [e5, cmpD, hz, bltD, items]
    refine ⟨[P1, Q2, P3, P4], S5, ?_, rfl, pt, ⟨adj4 n12 n23 n34, fun A B hA hB => by simp at hA hB; subst hA hB; exact n14⟩, w5, sAll⟩
    rw [q_of l_box rfl, sd, bd, ex_st x0 (ex_st x1 (ex_st x2 (ex_rt x3))), bnd_some]
    exact gc_same (by rw [sAll.1]; exact Nat.le_refl _)
  · have x3 : exS (geN tb PT (n + 3)) bx3 [some (.ref k), some f.d, some (.lst ([P1, Q2, P3, P4].map pD)), some (.int i), some (.int m), some (.int (i + 1 + a)), some (.int (m + 1 + b))] S4 = some (.rt (.tup ([P4, P3, Q2, P1].map pD)), S5) := by simp [e5, cmpD, hz, bltD, items, dr]
    refine ⟨[P4, P3, Q2, P1], S5, ?_, rfl, fun P hP => pt P (by simp at hP ⊢; rcases hP with h | h | h | h <;> simp [h]), ⟨adj4 n34.symm n23.symm n12.symm, fun A B hA hB => by simp at hA hB; subst hA hB; exact n14.symm⟩, w5, sAll⟩
    rw [q_of l_box rfl, sd, bd, ex_st x0 (ex_st x1 (ex_st x2 (ex_rt x3))), bnd_some]
    exact gc_same (by rw [sAll.1]; exact Nat.le_refl _)
/-! neighbours of a row -/
def nei (c : Bool) (Ps : List Pnt) : List Sg := Ps.zip Ps.tail ++ (if c = true then (match Ps.getLast?, Ps.head? with
  | some B, some A => [(B, A)]
  | _, _ => []) else [])
theorem zipD_p : ∀ {a b : List Pnt}, zipD (a.map pD) (b.map pD) = (a.zip b).map sD
  | [], b => by simp [zipD]
  | x :: a, [] => by simp [zipD]
  | x :: a, y :: b => by simp [zipD, zipD_p (a := a) (b := b), sD, segD]
theorem zip_adj {Ps : List Pnt} {w : Sg} (h : w ∈ Ps.zip Ps.tail) : ∃ p r, Ps = p ++ w.1 :: w.2 :: r := by
  induction Ps with
  | nil => simp at h
  | cons a Ps ih =>
    cases Ps with
    | nil => simp at h
    | cons b r =>
      simp only [List.tail_cons, List.zip_cons_cons, List.mem_cons] at h
      rcases h with h | h
      · exact ⟨[], r, by rw [h]; rfl⟩
      · obtain ⟨p, r', e⟩ := ih h
        exact ⟨a :: p, r', by rw [e]; rfl⟩
theorem nei_seg {c : Bool} {Ps : List Pnt} (hP : ∀ P ∈ Ps, P2 26 5 P) (ha : Adj Ps) (hc : c = true → ∀ A B, Ps.head? = some A → Ps.getLast? = some B → A ≠ B) : ∀ w ∈ nei c Ps, Seg w.1 w.2 := fun w hw => by
  unfold nei at hw
  rcases List.mem_append.mp hw with h | h
  · obtain ⟨p, r, e⟩ := zip_adj h
    exact ⟨en_of (hP _ (by rw [e]; simp)), en_of (hP _ (by rw [e]; simp)), ha _ _ _ _ e⟩
  · split at h
    · rename_i hc'
      split at h
      · rename_i B A hB hA
        rw [List.mem_singleton.mp h]
        exact ⟨en_of (hP B (List.mem_of_getLast? hB)), en_of (hP A (List.mem_of_head? hA)), (hc hc' A B hA hB).symm⟩
      · cases h
    · cases h
theorem nei_len {c : Bool} {Ps : List Pnt} (h : Ps ≠ []) : (nei c Ps).length = Ps.length - 1 + (if c = true then 1 else 0) := by
  unfold nei
  rw [List.length_append, List.length_zip, List.length_tail]
  have e1 : ∃ A, Ps.head? = some A := by
    cases Ps with
    | nil => exact absurd rfl h
    | cons A r => exact ⟨A, rfl⟩
  have e2 : ∃ B, Ps.getLast? = some B := ⟨_, List.getLast?_eq_some_getLast h⟩
  obtain ⟨A, e1⟩ := e1
  obtain ⟨B, e2⟩ := e2
  rw [e1, e2]
  cases c <;> simp <;> omega
theorem pairs_eq {c : Bool} {Ps : List Pnt} (h : Ps ≠ []) (hl : Ps.length ≤ 1000) : callN tb PT (n + 1) "_law_pairs" [.tup (Ps.map pD), .bl c] S = some (.lst ((nei c Ps).map sD), S) := by
  have z : zipD (Ps.map pD) (Ps.map pD).tail = (Ps.zip Ps.tail).map sD := by rw [← List.map_tail, zipD_p]
  have sl : ∀ S, slD S (.tup (Ps.map pD)) (some 1) none = some (.tup (Ps.map pD).tail) := fun S => by simp only [slD, dr, cut_1]
  have pn : plainDs ((nei c Ps).map sD) = true := plain_all fun d hd => by
    obtain ⟨w, _, rfl⟩ := List.mem_map.mp hd
    simp [sD, segD, pD, fD, plainD, plainDs]
  have st : startD c_law_pairs.N.length [.tup (Ps.map pD), .bl c] = [some (.tup (Ps.map pD)), some (.bl c), none] := rfl
  have bd : c_law_pairs.body = [.asg (.name 2) (.zipV false (some false) (.var 0) (.sl (.var 0) (.int 1) .non)), .ife (.var 1) [.expr (.meth "append" (.var 2) [.tup [.ix (.var 0) (.neg (.int 1)), .ix (.var 0) (.int 0)]])] [], .ret (.var 2)] := rfl
  have x1 : exS (geN tb PT n) (.asg (.name 2) (.zipV false (some false) (.var 0) (.sl (.var 0) (.int 1) .non))) [some (.tup (Ps.map pD)), some (.bl c), none] S = some (.nx [some (.tup (Ps.map pD)), some (.bl c), some (.ref S.length)], S ++ [.lst false ((Ps.zip Ps.tail).map sD)]) := by
    simp only [x_asg, q_zipV, q_sl, q_var, q_int, q_non, vr, mpd_some, bnd_some, partD, isNonC, sl, z, qg_name, List.set_cons_succ, List.set_cons_zero, Bool.false_eq_true, ↓reduceIte]
  have x2 : exS (geN tb PT n) (.ife (.var 1) [.expr (.meth "append" (.var 2) [.tup [.ix (.var 0) (.neg (.int 1)), .ix (.var 0) (.int 0)]])] []) [some (.tup (Ps.map pD)), some (.bl c), some (.ref S.length)] (S ++ [.lst false ((Ps.zip Ps.tail).map sD)]) = some (.nx [some (.tup (Ps.map pD)), some (.bl c), some (.ref S.length)], S ++ [.lst false ((nei c Ps).map sD)]) := by
    cases c with
    | false => simp [truD, nei]
    | true =>
      have e1 : ∃ A, Ps.head? = some A := by
        cases Ps with
        | nil => exact absurd rfl h
        | cons A r => exact ⟨A, rfl⟩
      have e2 : ∃ B, Ps.getLast? = some B := ⟨_, List.getLast?_eq_some_getLast h⟩
      obtain ⟨A, e1⟩ := e1
      obtain ⟨B, e2⟩ := e2
      have ne : Ps.map pD ≠ [] := by intro q; rw [List.map_eq_nil_iff] at q; exact h q
      have a1 : atI (Ps.map pD) (-1) = some (pD B) := by rw [at_last ne, List.getLast?_map, e2]; rfl
      have a0 : atI (Ps.map pD) 0 = some (pD A) := by rw [at_head ne, List.head?_map, e1]; rfl
      have ap : methD (S ++ [.lst false ((Ps.zip Ps.tail).map sD)]) "append" (.ref S.length) [.tup [pD B, pD A]] = some (.non, S ++ [.lst false ((nei true Ps).map sD)]) := by
        have l : ((Ps.zip Ps.tail).map sD).length < 16777216 := by rw [List.length_map, List.length_zip]; omega
        simp only [methD, ↓reduceIte, last_get, l, last_set]
        unfold nei
        rw [e1, e2]
        simp [sD, segD]
      generalize Ps.map pD = row at *
      simp only [x_if, qt_var, vr, bnd_some, truD, mpd_some, ↓reduceIte, x_cons, x_expr, q_meth, q_var, q_cons, q_tup, q_ix, q_neg, q_int, q_nil, ixD, items, Option.bind_some, a1, a0, ap, x_nil, List.length_cons, List.length_nil, Nat.reduceAdd, Nat.reduceLeDiff]
  have x3 : exS (geN tb PT n) (.ret (.var 2)) [some (.tup (Ps.map pD)), some (.bl c), some (.ref S.length)] (S ++ [.lst false ((nei c Ps).map sD)]) = some (.rt (.ref S.length), S ++ [.lst false ((nei c Ps).map sD)]) := by
    simp only [x_ret, q_var, vr, mpd_some]
  rw [q_of l_pairs rfl, st, bd, ex_st x1 (ex_st x2 (ex_rt x3)), bnd_some]
  exact gc_one pn rfl gcok_same
end K05

set_option maxHeartbeats 1000000
namespace K05
open PySem PySem.Spec PyProof.Rows L2 Dn
variable {n k j : Nat} {S : Sto}
theorem l_lines : PT.lookup ("_law_lines" : Str) = some c_law_lines := lk (d := d_law_lines) (by simp only [defs, List.mem_cons, true_or, or_true])
abbrev t1 : C := .and (.cmp .Eq (.var 6) (.int 0)) (.cmp .LtE (.bin .Add (.blt "len" [.var 4]) (.int 4)) (.var 5))
abbrev t2 : C := .and (.cmp .Lt (.var 6) (.int 3)) (.cmp .LtE (.bin .Add (.blt "len" [.var 4]) (.int 3)) (.var 5))
abbrev t3 : C := .and (.cmp .Lt (.var 6) (.int 5)) (.and (.cmp .NotEq (.var 4) (.lst none [])) (.cmp .Lt (.blt "len" [.var 4]) (.var 5)))
abbrev t4 : C := .and (.cmp .Eq (.var 6) (.int 5)) (.and (.cmp .NotEq (.var 4) (.lst none [])) (.cmp .Lt (.blt "len" [.var 4]) (.var 5)))
abbrev t5 : C := .cmp .Lt (.blt "len" [.var 4]) (.var 5)
abbrev u1 : List CS := [.asg (.name 4) (.cat false (.var 4) (.call "_law_pairs" [.call "_law_box" [.var 0, .var 1], .bl true]))]
abbrev u2 : List CS := [.asg (.name 4) (.cat false (.var 4) (.call "_law_pairs" [.call "_law_row" [.var 0, .var 1, .int 3, .bl true], .bl true]))]
abbrev u3 : List CS := [.par 7 8 (.ix (.call "_law_one_of" [.var 0, .var 4]) (.int 1)) (.call "_law_row" [.var 0, .var 1, .int 2, .bl false]), .expr (.meth "append" (.var 4) [.tup [.var 7, .ite (.cmp .NotEq (.ix (.var 8) (.int 0)) (.var 7)) (.ix (.var 8) (.int 0)) (.ix (.var 8) (.int 1))]])]
abbrev u4 : List CS := [.expr (.meth "append" (.var 4) [.stp (.call "_law_one_of" [.var 0, .var 4]) (.call "_law_one_of" [.var 0, .tup [.int 1, .neg (.int 1)]])])]
abbrev u5 : List CS := [.expr (.meth "append" (.var 4) [.call "_law_row" [.var 0, .var 1, .int 2, .bl false]])]
abbrev lnB : List CS := [.asg (.name 6) (.call "_law_draw" [.var 0, .int 8]), .ife t1 u1 [.ife t2 u2 [.ife t3 u3 [.ife t4 u4 [.ife t5 u5 []]]]]]
abbrev lnE (k : Nat) (f : Geo.Frm) (most : Int) (a3 : Option D) (m : Nat) (many : Int) (a6 a7 a8 : Option D) : En := [some (.ref k), some f.d, some (.int most), a3, some (.ref m), some (.int many), a6, a7, a8]
/-- the lines drawn so far, an object of the def's own -/
structure LnI (k : Nat) (S T : Sto) (m : Nat) (ws : List Sg) (c : Nat) : Prop where
  at_ : T[m]? = some (.lst false (ws.map sD))
  own : S.length ≤ m
  gr : Gr k S T
  sg : ∀ w ∈ ws, Seg w.1 w.2
  le : ws.length ≤ c
theorem LnI.same {k m c : Nat} {S T T' : Sto} {ws : List Sg} (h : LnI k S T m ws c) (hk : k < S.length) (s : Same k T T') : LnI k S T' m ws c :=
  ⟨by rw [s.2 m (by have := h.own; omega)]; exact h.at_, h.own, h.gr.same' s hk, h.sg, h.le⟩
theorem LnI.set {k m c : Nat} {S T : Sto} {ws : List Sg} {w : Sg} (h : LnI k S T m ws c) (hs : Seg w.1 w.2) (hl : ws.length + 1 ≤ c) : LnI k S (T.set m (.lst false ((ws ++ [w]).map sD))) m (ws ++ [w]) c :=
  ⟨List.getElem?_set_self (get_lt h.at_), h.own, h.gr.set h.own, fun v hv => by
    rcases List.mem_append.mp hv with q | q
    · exact h.sg v q
    · rw [List.mem_singleton.mp q]; exact hs, by rw [List.length_append]; exact hl⟩
theorem LnI.cat {k m c : Nat} {S T : Sto} {ws vs : List Sg} (h : LnI k S T m ws c) (hs : ∀ w ∈ vs, Seg w.1 w.2) (hl : ws.length + vs.length ≤ c) : LnI k S (T ++ [.lst false ((ws ++ vs).map sD)]) T.length (ws ++ vs) c :=
  ⟨last_get, h.gr.len, h.gr.push, fun v hv => by
    rcases List.mem_append.mp hv with q | q
    · exact h.sg v q
    · exact hs v q, by rw [List.length_append]; exact hl⟩
theorem LnI.app {k m c : Nat} {S T : Sto} {ws : List Sg} {w : Sg} (h : LnI k S T m ws c) (hc : c ≤ 1000) : methD T "append" (.ref m) [sD w] = some (.non, T.set m (.lst false ((ws ++ [w]).map sD))) := by
  have l : (ws.map sD).length < 16777216 := by rw [List.length_map]; have := h.le; omega
  simp only [methD, ↓reduceIte, h.at_, l, List.map_append, List.map_cons, List.map_nil]
theorem pds_s : ∀ {ws : List Sg}, ∃ ps, pds (ws.map sD) = some ps ∧ ps.length = (ws.map sD).length ∧ ∀ p ∈ ps, p.canLay0 = true ∧ p.depth ≤ 60
  | [] => ⟨[], rfl, rfl, fun _ h => nomatch h⟩
  | w :: ws => by
    obtain ⟨ps, e, l, h⟩ := pds_s (ws := ws)
    refine ⟨.tuple [pP w.1, pP w.2] :: ps, ?_, by simp [l], fun p hp => ?_⟩
    · simp only [List.map_cons, pds, e]
      simp [sD, segD, pd, pds, pd_pD]
    · rcases List.mem_cons.mp hp with rfl | hp
      · simp [pP, PyData.canLay0, PyData.canLayAll0, PyData.depth, PyData.depthAll]
      · exact h p hp
theorem LnI.len {k m c : Nat} {S T : Sto} {ws : List Sg} (h : LnI k S T m ws c) : bltD T "len" [.ref m] = some (.int (ws.length : Int)) := by
  simp [bltD, items, h.at_, MO.xs]
theorem LnI.ne {k m c : Nat} {S T : Sto} {ws : List Sg} (h : LnI k S T m ws c) : cmpD T .NotEq (.ref m) (.lst []) = some (!ws.isEmpty) := by
  have e := ne_nil (xs := ws.map sD) (S := T) pds_s
  have d : dr T (.ref m) = .lst (ws.map sD) := by
    show (match T[m]? with | some mo => D.lst mo.xs | none => .ref m) = _
    rw [h.at_]; rfl
  have d2 : dr T (.lst (ws.map sD)) = .lst (ws.map sD) := rfl
  simp only [cmpD, d2] at e
  simp only [cmpD, d, e]
  cases ws <;> rfl
/-- the conditions -/
theorem ln_conds {G : GE} {k m c : Nat} {S T : Sto} {ws : List Sg} {f : Geo.Frm} {most b : Int} {a3 a7 a8 : Option D} (h : LnI k S T m ws c) :
    evT G t1 (lnE k f most a3 m c (some (.int b)) a7 a8) T = some (decide (b = 0 ∧ ws.length + 4 ≤ c), T) ∧
    evT G t2 (lnE k f most a3 m c (some (.int b)) a7 a8) T = some (decide (b < 3 ∧ ws.length + 3 ≤ c), T) ∧
    evT G t3 (lnE k f most a3 m c (some (.int b)) a7 a8) T = some (decide (b < 5 ∧ ws ≠ [] ∧ ws.length < c), T) ∧
    evT G t4 (lnE k f most a3 m c (some (.int b)) a7 a8) T = some (decide (b = 5 ∧ ws ≠ [] ∧ ws.length < c), T) ∧
    evT G t5 (lnE k f most a3 m c (some (.int b)) a7 a8) T = some (decide (ws.length < c), T) := by
  have hl := h.len
  have hn := h.ne
  have d1 : ∀ i, dr T (.int i) = .int i := fun _ => rfl
  have ad : ∀ i j : Int, binD .Add (.int i) (.int j) = some (.int (i + j)) := fun _ _ => rfl
  have q1 : ∀ x y : Int, cmpD T .Eq (.int x) (.int y) = some (decide (x = y)) := fun x y => cmp_i
  have q2 : ∀ x y : Int, cmpD T .LtE (.int x) (.int y) = some (decide (x ≤ y)) := fun x y => rfl
  have q3 : ∀ x y : Int, cmpD T .Lt (.int x) (.int y) = some (decide (x < y)) := fun x y => rfl
  have w1 : ((ws.length : Int) + 4 ≤ c) = (ws.length + 4 ≤ c) := by apply propext; omega
  have w2 : ((ws.length : Int) + 3 ≤ c) = (ws.length + 3 ≤ c) := by apply propext; omega
  have w3 : ((ws.length : Int) < c) = (ws.length < c) := by apply propext; omega
  have em : (!ws.isEmpty) = decide (ws ≠ []) := by cases ws <;> simp
  rw [em] at hn
  refine ⟨?_, ?_, ?_, ?_, ?_⟩
  · by_cases e : b = 0 <;> simp [q1, e, hl, ad, d1, q2, w1]
  · by_cases e : b < 3 <;> simp [q3, e, hl, ad, d1, q2, w2]
  · by_cases e : b < 5
    · by_cases e2 : ws = []
      · rw [decide_eq_false (by simpa using e2)] at hn
        simp [q3, e, hn, e2]
      · rw [decide_eq_true (by simpa using e2)] at hn
        simp [q3, e, hn, e2, hl, w3]
    · simp [q3, e]
  · by_cases e : b = 5
    · by_cases e2 : ws = []
      · rw [decide_eq_false (by simpa using e2)] at hn
        simp [q1, e, hn, e2]
      · rw [decide_eq_true (by simpa using e2)] at hn
        simp [q1, q3, e, hn, e2, hl, w3]
    · simp [q1, e]
  · simp [hl, q3, w3]
theorem LnI.dr {k m c : Nat} {S T : Sto} {ws : List Sg} (h : LnI k S T m ws c) : Dn.dr T (.ref m) = .lst (ws.map sD) := by
  show (match T[m]? with | some mo => D.lst mo.xs | none => .ref m) = _
  rw [h.at_]; rfl
theorem ln_turn {f : Geo.Frm} (hf : Geo.FrmOk f) {k m c : Nat} {S T : Sto} {ws : List Sg} {most t : Int} {a3 a6 a7 a8 : Option D} (hk : k < S.length) (hc : c ≤ 12) (h : LnI k S T m ws c) (w : Sp k j T) (hj : j + 60 < 100000000) :
    ∃ T' m' ws' b6 b7 b8, Dn.forTurn (geN tb PT (n + 4)) (.name 3) lnB (.int t) (lnE k f most a3 m c a6 a7 a8) T = some (.nx (lnE k f most (some (.int t)) m' c b6 b7 b8), T') ∧ LnI k S T' m' ws' c ∧ Sp k (j + 60) T' := by
  obtain ⟨b, T1, e1, b0, b1, w1, s1⟩ := Geo.draw (tb := tb) (n := n + 3) hT.toHasD w (by omega) (m := 8) (by omega) (by omega)
  have h1 := h.same hk s1
  obtain ⟨c1, c2, c3, c4, c5⟩ := ln_conds (G := geN tb PT (n + 4)) (f := f) (most := most) (b := b) (a3 := some (.int t)) (a7 := a7) (a8 := a8) h1
  have nk : m ≠ k := by have := h.own; omega
  have go : ∀ {T' : Sto} {m' : Nat} {b7 b8 : Option D}, exSs (geN tb PT (n + 4)) [.ife t1 u1 [.ife t2 u2 [.ife t3 u3 [.ife t4 u4 [.ife t5 u5 []]]]]] (lnE k f most (some (.int t)) m c (some (.int b)) a7 a8) T1 = some (.nx (lnE k f most (some (.int t)) m' c (some (.int b)) b7 b8), T') →
      Dn.forTurn (geN tb PT (n + 4)) (.name 3) lnB (.int t) (lnE k f most a3 m c a6 a7 a8) T = some (.nx (lnE k f most (some (.int t)) m' c (some (.int b)) b7 b8), T') := fun {T' m' b7 b8} hh => by
    unfold Dn.forTurn
    rw [qg_name, bnd_some]
    refine ex_st (δ1 := lnE k f most (some (.int t)) m c (some (.int b)) a7 a8) (S1 := T1) ?_ hh
    simp [e1]
  have iff_t : ∀ {q : C} {a b' : List CS} {δ : En} {r : Option (Fl × Sto)}, evT (geN tb PT (n + 4)) q δ T1 = some (true, T1) → exSs (geN tb PT (n + 4)) a δ T1 = r → exS (geN tb PT (n + 4)) (.ife q a b') δ T1 = r := fun {q a b' δ r} q1 q2 => by
    rw [x_if, q1, bnd_some]; exact q2
  have iff_f : ∀ {q : C} {a b' : List CS} {δ : En} {r : Option (Fl × Sto)}, evT (geN tb PT (n + 4)) q δ T1 = some (false, T1) → exSs (geN tb PT (n + 4)) b' δ T1 = r → exS (geN tb PT (n + 4)) (.ife q a b') δ T1 = r := fun {q a b' δ r} q1 q2 => by
    rw [x_if, q1, bnd_some]; exact q2
  have one : ∀ {s : CS} {δ : En} {δ' : En} {T' : Sto}, exS (geN tb PT (n + 4)) s δ T1 = some (.nx δ', T') → exSs (geN tb PT (n + 4)) [s] δ T1 = some (.nx δ', T') := fun {s δ δ' T'} q => ex_st q x_nil
  have cat : ∀ {vs : List Sg} {T2 : Sto} {e : C}, evE (geN tb PT (n + 4)) e (lnE k f most (some (.int t)) m c (some (.int b)) a7 a8) T1 = some (.lst (vs.map sD), T2) → Same k T1 T2 → ws.length + vs.length ≤ c →
      exSs (geN tb PT (n + 4)) [.asg (.name 4) (.cat false (.var 4) e)] (lnE k f most (some (.int t)) m c (some (.int b)) a7 a8) T1 = some (.nx (lnE k f most (some (.int t)) T2.length c (some (.int b)) a7 a8), T2 ++ [.lst false ((ws ++ vs).map sD)]) := fun {vs T2 e} q s l => by
    have d := (h1.same hk s).dr
    have d2 : Dn.dr T2 (.lst (vs.map sD)) = .lst (vs.map sD) := rfl
    have l2 : (ws.map sD).length + (vs.map sD).length ≤ 16777216 := by rw [List.length_map, List.length_map]; omega
    refine one ?_
    simp only [x_asg, q_cat, q_var, vr, mpd_some, bnd_some, q, d, d2, l2, ↓reduceIte, qg_name, List.set_cons_succ, List.set_cons_zero, List.map_append]
  by_cases k1 : b = 0 ∧ ws.length + 4 ≤ c
  · rw [decide_eq_true k1] at c1
    obtain ⟨Ps, T2, e2, l2, p2, ⟨ad, cl⟩, w2, s2⟩ := box (n := n) hf w1 (by omega)
    have ne : Ps ≠ [] := by intro z; rw [z] at l2; simp at l2
    have pe := pairs_eq (n := n + 3) (S := T2) (c := true) ne (by omega)
    have sg := nei_seg (c := true) p2 ad fun _ => cl
    have nl := nei_len (c := true) ne
    rw [l2] at nl
    simp only [↓reduceIte, Nat.reduceSub, Nat.reduceAdd] at nl
    generalize nei true Ps = vs at *
    have ev : evE (geN tb PT (n + 4)) (.call "_law_pairs" [.call "_law_box" [.var 0, .var 1], .bl true]) (lnE k f most (some (.int t)) m c (some (.int b)) a7 a8) T1 = some (.lst (vs.map sD), T2) := by
      simp only [q_call, q_cons, q_nil, q_var, q_bl, vr, mpd_some, bnd_some, e2, pe]
    exact ⟨_, T2.length, ws ++ vs, _, _, _, go (one (iff_t c1 (cat ev s2 (by omega)))), (h1.same hk s2).cat sg (by omega), ((sp_app w2.lt).mpr w2).mono (by omega)⟩
  rw [decide_eq_false k1] at c1
  by_cases k2 : b < 3 ∧ ws.length + 3 ≤ c
  · rw [decide_eq_true k2] at c2
    obtain ⟨Ps, T2, e2, l2, p2, ad, cl, w2, s2⟩ := row (n := n) hf (many := 3) (by omega) (by omega) true w1 (by omega)
    have ne : Ps ≠ [] := by intro z; rw [z] at l2; simp at l2
    have pe := pairs_eq (n := n + 3) (S := T2) (c := true) ne (by omega)
    have sg := nei_seg (c := true) p2 ad fun q => cl q (by omega)
    have nl := nei_len (c := true) ne
    rw [l2] at nl
    simp only [↓reduceIte, Nat.reduceSub, Nat.reduceAdd] at nl
    generalize nei true Ps = vs at *
    have ev : evE (geN tb PT (n + 4)) (.call "_law_pairs" [.call "_law_row" [.var 0, .var 1, .int 3, .bl true], .bl true]) (lnE k f most (some (.int t)) m c (some (.int b)) a7 a8) T1 = some (.lst (vs.map sD), T2) := by
      change callN tb PT (n + 4) "_law_row" [.ref k, f.d, .int 3, .bl true] T1 = _ at e2
      simp only [q_call, q_cons, q_nil, q_var, q_bl, q_int, vr, mpd_some, bnd_some, e2, pe]
    exact ⟨_, T2.length, ws ++ vs, _, _, _, go (one (iff_f c1 (one (iff_t c2 (cat ev s2 (by omega)))))), (h1.same hk s2).cat sg (by omega), ((sp_app w2.lt).mpr w2).mono (by omega)⟩
  rw [decide_eq_false k2] at c2
  by_cases k3 : b < 5 ∧ ws ≠ [] ∧ ws.length < c
  · rw [decide_eq_true k3] at c3
    obtain ⟨d, hd, T2, e2, w2, s2⟩ := Geo.one_of_r (tb := tb) (n := n + 2) hT.toHasD w1 (by omega) h1.at_ nk (by rw [List.length_map]; exact List.length_pos_iff.mpr k3.2.1) (by rw [List.length_map]; omega)
    obtain ⟨v, hv, rfl⟩ := List.mem_map.mp hd
    have gv := h.sg v hv
    obtain ⟨A, B, T3, e3, hA, hB, ne, w3, s3⟩ := row2 (n := n) hf w2 (by omega)
    have os := oth_seg gv.b (en_of hA) (en_of hB) ne
    have h3 := h1.same hk (s2.trans s3)
    have ap := h3.app (w := (v.2, othP v.2 A B)) (by omega)
    have i1 : ixD T2 (sD v) (.int 1) = some (pD v.2) := rfl
    have x1 : exS (geN tb PT (n + 4)) (.par 7 8 (.ix (.call "_law_one_of" [.var 0, .var 4]) (.int 1)) (.call "_law_row" [.var 0, .var 1, .int 2, .bl false])) (lnE k f most (some (.int t)) m c (some (.int b)) a7 a8) T1 = some (.nx (lnE k f most (some (.int t)) m c (some (.int b)) (some (pD v.2)) (some (.tup [pD A, pD B]))), T3) := by
      simp only [x_par, q_ix, q_call, q_cons, q_nil, q_var, q_int, q_bl, vr, mpd_some, bnd_some, e2, i1, e3, List.set_cons_succ, List.set_cons_zero]
    have x2 : exS (geN tb PT (n + 4)) (.expr (.meth "append" (.var 4) [.tup [.var 7, .ite (.cmp .NotEq (.ix (.var 8) (.int 0)) (.var 7)) (.ix (.var 8) (.int 0)) (.ix (.var 8) (.int 1))]])) (lnE k f most (some (.int t)) m c (some (.int b)) (some (pD v.2)) (some (.tup [pD A, pD B]))) T3 = some (.nx (lnE k f most (some (.int t)) m c (some (.int b)) (some (pD v.2)) (some (.tup [pD A, pD B]))), T3.set m (.lst false ((ws ++ [(v.2, othP v.2 A B)]).map sD))) := by
      have j0 : ixD T3 (.tup [pD A, pD B]) (.int 0) = some (pD A) := rfl
      have j1 : ixD T3 (.tup [pD A, pD B]) (.int 1) = some (pD B) := rfl
      have ex : evE (geN tb PT (n + 4)) (.ite (.cmp .NotEq (.ix (.var 8) (.int 0)) (.var 7)) (.ix (.var 8) (.int 0)) (.ix (.var 8) (.int 1))) (lnE k f most (some (.int t)) m c (some (.int b)) (some (pD v.2)) (some (.tup [pD A, pD B]))) T3 = some (pD (othP v.2 A B), T3) := by
        have q := ne_pD (P := A) (Q := v.2) (S := T3)
        unfold othP
        by_cases z : A = v.2
        · rw [if_neg (by simpa using z)]
          rw [decide_eq_true z] at q
          simp only [q_ite, qt_cmp, q_ix, q_var, q_int, vr, mpd_some, bnd_some, j0, j1, q, Bool.not_true, Bool.false_eq_true, ↓reduceIte]
        · rw [if_pos z]
          rw [decide_eq_false z] at q
          simp only [q_ite, qt_cmp, q_ix, q_var, q_int, vr, mpd_some, bnd_some, j0, j1, q, Bool.not_false, ↓reduceIte]
      change methD T3 "append" (.ref m) [.tup [pD v.2, pD (othP v.2 A B)]] = _ at ap
      simp only [x_expr, q_meth, q_cons, q_nil, q_tup, q_var, vr, mpd_some, bnd_some, ex, List.length_cons, List.length_nil, Nat.reduceAdd, Nat.reduceLeDiff, ↓reduceIte, ap]
    exact ⟨_, m, _, _, _, _, go (one (iff_f c1 (one (iff_f c2 (one (iff_t c3 (ex_st x1 (ex_st x2 x_nil)))))))), h3.set os (by omega), (Sp.set' w3 nk).mono (by omega)⟩
  rw [decide_eq_false k3] at c3
  by_cases k4 : b = 5 ∧ ws ≠ [] ∧ ws.length < c
  · rw [decide_eq_true k4] at c4
    obtain ⟨d, hd, T2, e2, w2, s2⟩ := Geo.one_of_r (tb := tb) (n := n + 2) hT.toHasD w1 (by omega) h1.at_ nk (by rw [List.length_map]; exact List.length_pos_iff.mpr k4.2.1) (by rw [List.length_map]; omega)
    obtain ⟨v, hv, rfl⟩ := List.mem_map.mp hd
    have gv := h.sg v hv
    obtain ⟨d, hd2, T3, e3, w3, s3⟩ := Geo.one_of (tb := tb) (n := n + 2) hT.toHasD w2 (by omega) (xs := [.int 1, .int (-1)]) (by simp) (by simp)
    have h3 := h1.same hk (s2.trans s3)
    have ne1 : ∀ T, evE (geN tb PT (n + 4)) (.tup [.int 1, .neg (.int 1)]) (lnE k f most (some (.int t)) m c (some (.int b)) a7 a8) T = some (.tup [.int 1, .int (-1)], T) := fun T => by simp
    have st : ∃ v' : Sg, Seg v'.1 v'.2 ∧ evE (geN tb PT (n + 4)) (.stp (.call "_law_one_of" [.var 0, .var 4]) (.call "_law_one_of" [.var 0, .tup [.int 1, .neg (.int 1)]])) (lnE k f most (some (.int t)) m c (some (.int b)) a7 a8) T1 = some (sD v', T3) := by
      simp only [List.mem_cons, List.not_mem_nil, or_false] at hd2
      rcases hd2 with rfl | rfl
      · refine ⟨v, gv, ?_⟩
        change callN tb PT (n + 4) "_law_one_of" [.ref k, .ref m] T1 = some (.tup [pD v.1, pD v.2], T2) at e2
        simp only [q_stp, q_call, q_cons, q_nil, q_var, vr, mpd_some, bnd_some, e2, ne1, e3, ↓reduceIte]
        rfl
      · refine ⟨swp v, gv.rev, ?_⟩
        change callN tb PT (n + 4) "_law_one_of" [.ref k, .ref m] T1 = some (.tup [pD v.1, pD v.2], T2) at e2
        simp only [q_stp, q_call, q_cons, q_nil, q_var, vr, mpd_some, bnd_some, e2, ne1, e3]
        rfl
    obtain ⟨v', gv', st⟩ := st
    have ap := h3.app (w := v') (by omega)
    have x1 : exS (geN tb PT (n + 4)) (.expr (.meth "append" (.var 4) [.stp (.call "_law_one_of" [.var 0, .var 4]) (.call "_law_one_of" [.var 0, .tup [.int 1, .neg (.int 1)]])])) (lnE k f most (some (.int t)) m c (some (.int b)) a7 a8) T1 = some (.nx (lnE k f most (some (.int t)) m c (some (.int b)) a7 a8), T3.set m (.lst false ((ws ++ [v']).map sD))) := by
      rw [x_expr, q_meth, q_var]
      simp only [vr, mpd_some, bnd_some]
      rw [q_cons, st, bnd_some, q_nil, mpd_some, bnd_some]
      dsimp only
      rw [ap, mpd_some]
    exact ⟨_, m, _, _, _, _, go (one (iff_f c1 (one (iff_f c2 (one (iff_f c3 (one (iff_t c4 (one x1))))))))), h3.set gv' (by omega), (Sp.set' w3 nk).mono (by omega)⟩
  rw [decide_eq_false k4] at c4
  by_cases k5 : ws.length < c
  · rw [decide_eq_true k5] at c5
    obtain ⟨A, B, T3, e3, hA, hB, ne, w3, s3⟩ := row2 (n := n) hf w1 (by omega)
    have h3 := h1.same hk s3
    have ap := h3.app (w := (A, B)) (by omega)
    change methD T3 "append" (.ref m) [.tup [pD A, pD B]] = _ at ap
    have x1 : exS (geN tb PT (n + 4)) (.expr (.meth "append" (.var 4) [.call "_law_row" [.var 0, .var 1, .int 2, .bl false]])) (lnE k f most (some (.int t)) m c (some (.int b)) a7 a8) T1 = some (.nx (lnE k f most (some (.int t)) m c (some (.int b)) a7 a8), T3.set m (.lst false ((ws ++ [(A, B)]).map sD))) := by
      simp only [x_expr, q_meth, q_cons, q_nil, q_call, q_int, q_bl, q_var, vr, mpd_some, bnd_some, e3, ap]
    exact ⟨_, m, _, _, _, _, go (one (iff_f c1 (one (iff_f c2 (one (iff_f c3 (one (iff_f c4 (one (iff_t c5 (one x1))))))))))), h3.set ⟨en_of hA, en_of hB, ne⟩ (by omega), (Sp.set' w3 nk).mono (by omega)⟩
  · rw [decide_eq_false k5] at c5
    exact ⟨_, m, _, _, _, _, go (one (iff_f c1 (one (iff_f c2 (one (iff_f c3 (one (iff_f c4 (one (iff_f c5 x_nil)))))))))), h1, w1.mono (by omega)⟩
end K05

set_option maxHeartbeats 1000000
namespace K05
open PySem PySem.Spec PyProof.Rows L2 Dn
variable {n k j : Nat} {S : Sto}
abbrev ls0 : CS := .par 4 5 (.lst (some false) []) (.bin .Sub (.var 2) (.call "_law_draw" [.var 0, .ite (.cmp .Gt (.call "_law_draw" [.var 0, .int 4]) (.int 0)) (.bin .Add (.bin .FloorDiv (.var 2) (.int 2)) (.int 1)) (.bin .Add (.var 2) (.int 1))]))
theorem lines_start {f : Geo.Frm} {k : Nat} {S : Sto} {most : Int} (m2 : 2 ≤ most ∧ most ≤ 12) (w : Sp k j S) (hj : j + 1000 < 100000000) :
    ∃ (c : Nat) (T2 : Sto), exS (geN tb PT (n + 4)) ls0 [some (.ref k), some f.d, some (.int most), none, none, none, none, none, none] S = some (.nx (lnE k f most none S.length c none none none), T2) ∧ c ≤ 12 ∧ Sp k (j + 2) T2 ∧ Same k (S ++ [.lst false []]) T2 := by
  have hk := w.lt
  obtain ⟨d1, T1, e1, a0, a1, w1, s1⟩ := Geo.draw (tb := tb) (n := n + 3) (S := S ++ [.lst false []]) hT.toHasD ((sp_app hk).mpr w) (by omega) (m := 4) (by omega) (by omega)
  have dv : divOk 2 = true := div_ok (by omega) (by omega)
  have p2 : ∃ hi : Int, 0 < hi ∧ hi ≤ most + 1 ∧ evE (geN tb PT (n + 4)) (.ite (.cmp .Gt (.call "_law_draw" [.var 0, .int 4]) (.int 0)) (.bin .Add (.bin .FloorDiv (.var 2) (.int 2)) (.int 1)) (.bin .Add (.var 2) (.int 1))) [some (.ref k), some f.d, some (.int most), none, none, none, none, none, none] (S ++ [.lst false []]) = some (.int hi, T1) := by
    by_cases g : 0 < d1
    · exact ⟨most / 2 + 1, by omega, by omega, by simp [e1, cmpD, g, binD, dr, dv]⟩
    · exact ⟨most + 1, by omega, by omega, by simp [e1, cmpD, g, binD, dr]⟩
  obtain ⟨hi, h0, h1, ei⟩ := p2
  obtain ⟨d2, T2, e2, b0, b1, w2, s2⟩ := Geo.draw (tb := tb) (n := n + 3) (S := T1) hT.toHasD w1 (by omega) (m := hi) h0 (by omega)
  obtain ⟨c, hc⟩ := Int.eq_ofNat_of_zero_le (a := most - d2) (by omega)
  refine ⟨c, T2, ?_, by omega, w2, s1.trans s2⟩
  have q0 : evE (geN tb PT (n + 4)) (.lst (some false) []) [some (.ref k), some f.d, some (.int most), none, none, none, none, none, none] S = some (.ref S.length, S ++ [.lst false []]) := by simp
  have sb : binD .Sub (.int most) (.int d2) = some (.int (c : Int)) := by simp only [binD, hc]
  have d1' : ∀ T i, Dn.dr T (.int i) = .int i := fun _ _ => rfl
  have q2 : evE (geN tb PT (n + 4)) (.call "_law_draw" [.var 0, .ite (.cmp .Gt (.call "_law_draw" [.var 0, .int 4]) (.int 0)) (.bin .Add (.bin .FloorDiv (.var 2) (.int 2)) (.int 1)) (.bin .Add (.var 2) (.int 1))]) [some (.ref k), some f.d, some (.int most), none, none, none, none, none, none] (S ++ [.lst false []]) = some (.int d2, T2) := by
    rw [q_call, q_cons, q_var]
    simp only [vr, mpd_some, bnd_some]
    rw [q_cons, ei, bnd_some, q_nil, mpd_some, mpd_some, bnd_some]
    exact e2
  rw [x_par, q0, bnd_some, q_bin, q_var]
  simp only [vr, mpd_some, bnd_some]
  rw [q2, bnd_some]
  simp only [d1', sb, mpd_some, List.set_cons_succ, List.set_cons_zero]
theorem lines_loop {f : Geo.Frm} (hf : Geo.FrmOk f) {k c : Nat} {S T2 : Sto} {most : Int} (hk : k < S.length) (hc12 : c ≤ 12) (i0 : LnI k S T2 S.length [] c) (w2 : Sp k (j + 10) T2) (hj : j + 1000 < 100000000) :
    ∃ T' m' ws b3 b6 b7 b8, exS (geN tb PT (n + 4)) (.for_ (.name 3) (.rng1 (.var 5)) lnB) (lnE k f most none S.length c none none none) T2 = some (.nx (lnE k f most b3 m' c b6 b7 b8), T') ∧ LnI k S T' m' ws c ∧ Sp k (j + 10 + 60 * c) T' := by
  obtain ⟨δ', T', ef, m', ws, b3, b6, b7, b8, eδ, iF, wF⟩ := for_m (g := fun (i : Nat) => D.int (0 + (i : Int))) (w := ⟨rngD 0 c, none⟩) (turn := Dn.forTurn (geN tb PT (n + 4)) (.name 3) lnB)
    (I := fun pre δ T => ∃ m' ws b3 b6 b7 b8, δ = lnE k f most b3 m' c b6 b7 b8 ∧ LnI k S T m' ws c ∧ Sp k (j + 10 + 60 * pre.length) T) (fun _ _ _ _ => ok_none) (ys := List.range c) (pre := []) (δ := lnE k f most none S.length c none none none) (S := T2)
    (fun p t r δ T eX ⟨m', ws, b3, b6, b7, b8, eδ, iT, wT⟩ => by
      subst eδ
      simp only [List.nil_append] at wT
      have lp : p.length < 12 := by
        have : (List.range c).length = (p ++ t :: r).length := by rw [eX]
        rw [List.length_range] at this
        simp at this
        omega
      obtain ⟨T3, m3, ws3, c6, c7, c8, e, i3, w3⟩ := ln_turn (n := n) (f := f) (most := most) (t := 0 + (t : Int)) (a3 := b3) (a6 := b6) (a7 := b7) (a8 := b8) hf hk hc12 iT wT (by omega)
      exact ⟨_, T3, e, m3, ws3, _, _, _, _, rfl, i3, w3.mono (by simp; omega)⟩) ⟨S.length, [], none, none, none, none, rfl, i0, w2.mono (by simp only [List.length_nil]; omega)⟩
  subst eδ
  simp only [List.nil_append, List.length_range] at wF
  refine ⟨T', m', ws, b3, b6, b7, b8, ?_, iF, wF⟩
  have sm : smallI (c : Int) = true := small_of (by omega) (by omega)
  have er : rngD 0 c = (List.range c).map fun (i : Nat) => D.int (0 + (i : Int)) := rfl
  rw [← er] at ef
  have ei : evI (geN tb PT (n + 4)) (.rng1 (.var 5)) (lnE k f most none S.length c none none none) T2 = some (⟨rngD 0 c, none⟩, T2) := by
    have e5 : evE (geN tb PT (n + 4)) (.var 5) (lnE k f most none S.length c none none none) T2 = some (.int (c : Int), T2) := by
      rw [q_var]
      simp only [vr, mpd_some]
    rw [qw_rng1, e5, bnd_some]
    dsimp only
    rw [if_pos sm, Int.toNat_natCast]
  rw [x_for, ei, bnd_some]
  exact ef
/-- the lines drawn -/
theorem lines_eq {f : Geo.Frm} (hf : Geo.FrmOk f) {k : Nat} {S : Sto} {most : Int} (m2 : 2 ≤ most ∧ most ≤ 12) (w : Sp k j S) (hj : j + 1000 < 100000000) :
    ∃ (ws : List Sg) (S' : Sto), callN tb PT (n + 5) "_law_lines" [.ref k, f.d, .int most] S = some (.lst (ws.map sD), S') ∧ (∀ u ∈ ws, Seg u.1 u.2) ∧ ws.length ≤ 12 ∧ Sp k (j + 1000) S' ∧ Same k S S' := by
  have hk := w.lt
  obtain ⟨c, T2, x1, hc12, w2, s12⟩ := lines_start (n := n) (f := f) m2 w hj
  have i0 : LnI k S T2 S.length [] c := by
    have g0 : Gr k S (S ++ [.lst false []]) := Gr.refl.push
    exact ⟨by rw [s12.2 S.length (by omega)]; exact last_get, Nat.le_refl _, g0.same' s12 hk, fun _ h => (nomatch h), Nat.zero_le _⟩
  obtain ⟨T', m', ws, b3, b6, b7, b8, x2, iF, wF⟩ := lines_loop (n := n) (most := most) hf hk hc12 i0 (w2.mono (by omega)) hj
  have pn : plainDs (ws.map sD) = true := plain_all fun d hd => by
    obtain ⟨w, _, rfl⟩ := List.mem_map.mp hd
    simp [sD, segD, pD, fD, plainD, plainDs]
  obtain ⟨g1, g2, g3⟩ := gc_ref pn iF.gr wF hk iF.own iF.at_
  refine ⟨ws, T'.take S.length, ?_, iF.sg, Nat.le_trans iF.le hc12, g2.mono (by omega), g3⟩
  have st : startD c_law_lines.N.length [.ref k, f.d, .int most] = [some (.ref k), some f.d, some (.int most), none, none, none, none, none, none] := rfl
  have bd : c_law_lines.body = [ls0, .for_ (.name 3) (.rng1 (.var 5)) lnB, .ret (.var 4)] := rfl
  have x3 : exS (geN tb PT (n + 4)) (.ret (.var 4)) (lnE k f most b3 m' c b6 b7 b8) T' = some (.rt (.ref m'), T') := by
    simp only [x_ret, q_var, vr, mpd_some]
  rw [q_of l_lines rfl, st, bd, ex_st x1 (ex_st x2 (ex_rt x3)), bnd_some]
  exact g1
end K05

set_option maxHeartbeats 1000000
namespace K05
open PySem PySem.Spec PyProof.Rows L2 Dn
variable {n k j : Nat} {S : Sto}
theorem l_right : PT.lookup ("_law_right" : Str) = some c_law_right := lk (d := d_law_right) (by simp only [defs, List.mem_cons, true_or, or_true])
theorem shw_e {E : List (Nat × Nat)} (h : ∀ q ∈ E, q.1 < 10000 ∧ q.2 < 10000) (hl : E.length ≤ 2000) : Shw 2 7702003 (.tuple (E.map eP)) := by
  have sm : ∀ {i : Nat}, i < 10000 → ((i : Int).natAbs).log2 < 1920 := fun {i} q => by
    have := log_lt (n := (i : Int).natAbs) (k := 14) (by omega) (by omega)
    omega
  have := shw_tup (e := 1) (b := 3849) (ps := E.map eP) fun p hp => by
    obtain ⟨q, hq, rfl⟩ := List.mem_map.mp hp
    obtain ⟨h1, h2⟩ := h q hq
    have := shw_tup (e := 0) (b := 1921) (ps := [.int (q.1 : Int), .int (q.2 : Int)]) fun r hr => by
      simp only [List.mem_cons, List.not_mem_nil, or_false] at hr
      rcases hr with rfl | rfl
      · exact shw_int (sm h1)
      · exact shw_int (sm h2)
    exact this.mono (by omega) (by simp)
  exact this.mono (by omega) (by rw [List.length_map]; omega)
theorem shw_L {L : List Pnt} (h : ∀ P ∈ L, P2 489 465 P) (hl : L.length ≤ 160) : Shw 3 1233123 (.tuple (L.map pP)) := by
  have := shw_tup (e := 2) (b := 7705) (ps := L.map pP) fun q hq => by
    obtain ⟨P, hP, rfl⟩ := List.mem_map.mp hq
    exact shw_p (h P hP) (by omega) (by omega)
  exact this.mono (by omega) (by rw [List.length_map]; omega)
theorem repr_due {L : List Pnt} {E : List (Nat × Nat)} (h : ∀ P ∈ L, P2 489 465 P) (hl : L.length ≤ 160) (g : ∀ q ∈ E, q.1 < 10000 ∧ q.2 < 10000) (gl : E.length ≤ 2000) : ∃ s, ∀ S, bltD S "repr" [.lst [.tup (L.map pD), .tup (E.map eD)]] = some (.str s) := by
  have sh := shw_lst (e := 3) (b := 7702003) (ps := [.tuple (L.map pP), .tuple (E.map eP)]) fun q hq => by
    simp only [List.mem_cons, List.not_mem_nil, or_false] at hq
    rcases hq with rfl | rfl
    · exact (shw_L h hl).mono (by omega) (by omega)
    · exact (shw_e g gl).mono (by omega) (by omega)
  exact ⟨_, fun S => repr_of (p := .list [.tuple (L.map pP), .tuple (E.map eP)]) (by show pd (.lst _) = _; simp only [pd, pds, pds_pD, pds_e, Option.map_some, Option.bind_some]) sh (by omega) (by simp)⟩
theorem told_lc2 {it : CI} {δ : En} {zs : List Plc} (hi : evI (geN tb PT (n + 3)) it δ S = some (⟨zs.map lD, none⟩, S)) (hz : ∀ z ∈ zs, Pl 246 224 z) (hl : zs.length ≤ 1000) (hd : 2 < δ.length) :
    evE (geN tb PT (n + 3)) (.blt "tuple" [.lc (.call "_law_told" [.var 2]) (.name 2) it [] [2]]) δ S = some (.tup ((zs.map toldP).map pD), S) := by
  have v1 : ∀ y, vr (δ.set 2 (some (lD y))) 2 = some (lD y) := fun y => by rw [vr_get, List.getElem?_set_self hd]
  have lp := loop_map2 (w := ⟨zs.map lD, none⟩) (turn := lcTurn (geN tb PT (n + 3)) (.call "_law_told" [.var 2]) (.name 2) [] [2] δ) (S := S) (g := lD) (f := fun z => pD (toldP z)) ok_none (ys := zs) (fun z h => by
    have p := hz z h
    have e := Geo.told (tb := tb) (n := n) (S := S) hT p.p.pos (p.lc.mono (by omega))
    change callN tb PT (n + 3) "_law_told" [lD z] S = some (pD (toldP z), S) at e
    simp [lcTurn, wipeD, v1, e])
  have le : (zs.map fun z => pD (toldP z)).length ≤ 16777216 := by rw [List.length_map]; omega
  rw [q_blt, q_cons, q_lc, hi, bnd_some]
  dsimp only
  rw [lp, bnd_some]
  dsimp only
  rw [if_pos le, List.map_map]
  rfl
theorem as_map {α : Type} {g : α → D} {P : α → Prop} : ∀ {ys : List D}, (∀ y ∈ ys, ∃ z, y = g z ∧ P z) → ∃ zs : List α, ys = zs.map g ∧ ∀ z ∈ zs, P z
  | [], _ => ⟨[], rfl, fun _ h => nomatch h⟩
  | y :: ys, h => by
    obtain ⟨z, e, p⟩ := h y (List.mem_cons_self ..)
    obtain ⟨zs, e2, p2⟩ := as_map (P := P) fun y hy => h y (List.mem_cons_of_mem _ hy)
    exact ⟨z :: zs, by rw [e, e2]; rfl, fun w hw => by
      rcases List.mem_cons.mp hw with rfl | hw
      · exact p
      · exact p2 w hw⟩
abbrev rE (k : Nat) (a1 a2 : Option D) (f : Geo.Frm) (ws : List Sg) (a5 a6 a7 a8 a9 a10 a11 : Option D) : En := [some (.ref k), a1, a2, some f.d, some (.tup (ws.map sD)), a5, a6, a7, a8, a9, a10, a11]
abbrev r0 : CS := .asg (.name 3) (.call "_law_frame" [.var 0])
abbrev r1 : CS := .asg (.name 4) (.blt "tuple" [.call "_law_lines" [.var 0, .var 3, .call "_law_one_of" [.var 0, .tup [.int 4, .int 6, .int 6, .int 8, .int 8, .int 12]]]])
abbrev r2 : CS := .asg (.name 5) (.call "_law_places" [.var 4])
abbrev r3 : CS := .asg (.name 6) (.lc (.call "_law_any_place" [.var 0, .var 3, .var 5, .lst none []]) (.name 1) (.rng1 (.call "_law_draw" [.var 0, .int 4])) [] [1])
abbrev r4 : CS := .asg (.name 7) (.blt "tuple" [.lc (.call "_law_told" [.var 2]) (.name 2) (.seq (.var 6)) [] [2]])
abbrev r5 : CS := .asg (.tup [(.name 10), (.name 11)]) (.call "_law_cut" [.var 5, .var 6])
abbrev r6 : CS := .asg (.name 8) (.lst none [.blt "tuple" [.lc (.call "_law_told" [.var 2]) (.name 2) (.seq (.var 10)) [] [2]], .blt "tuple" [.var 11]])
abbrev r7 : CS := .ife (.cmp .NotEq (.blt "repr" [.lst none [.call "vertices_of" [.var 4, .var 7], .call "edges_of" [.var 4, .var 7]]]) (.blt "repr" [.var 8])) [.ret (.bl false)] []
abbrev r8 : CS := .asg (.name 9) (.blt "tuple" [.lc (.rev (.var 2)) (.name 2) (.seq (.rev (.var 4))) [] [2]])
abbrev r9 : CS := .ret (.cmp .Eq (.blt "repr" [.lst none [.callK "vertices_of" [] ["points", "segments"] [.bin .Add (.var 7) (.var 7), .var 9], .callK "edges_of" [] ["points", "segments"] [.rev (.var 7), .var 9]]]) (.blt "repr" [.var 8]))
theorem right_body : c_law_right.body = [r0, r1, r2, r3, r4, r5, r6, r7, r8, r9] := rfl
/-- the drawn lines -/
theorem rt_lines (w : Sp k j S) (hj : j + 2000 < 100000000) : ∃ f ws S', Geo.FrmOk f ∧ (∀ u ∈ ws, Seg u.1 u.2) ∧ ws.length ≤ 12 ∧ Sp k (j + 1010) S' ∧ Same k S S' ∧
    ∀ {b : List CS} {r}, exSs (geN tb PT (n + 8)) b (rE k none none f ws (some (.lst (ws.map wD))) none none none none none none) S' = r → exSs (geN tb PT (n + 8)) (r0 :: r1 :: r2 :: b) [some (.ref k), none, none, none, none, none, none, none, none, none, none, none] S = r := by
  obtain ⟨f, S1, e1, hf, w1, s1⟩ := Geo.frame (tb := tb) (n := n + 5) hT.toHasD hF w (by omega)
  obtain ⟨d, hd, S2, e2, w2, s2⟩ := Geo.one_of (tb := tb) (n := n + 6) hT.toHasD w1 (by omega) (xs := [.int 4, .int 6, .int 6, .int 8, .int 8, .int 12]) (by simp) (by simp)
  have hm : ∃ m : Int, d = .int m ∧ 2 ≤ m ∧ m ≤ 12 := by
    simp only [List.mem_cons, List.not_mem_nil, or_false] at hd
    rcases hd with rfl | rfl | rfl | rfl | rfl | rfl <;> exact ⟨_, rfl, by omega, by omega⟩
  obtain ⟨m, rfl, hm⟩ := hm
  obtain ⟨ws, S3, e3, sg, wl, w3, s3⟩ := lines_eq (n := n + 3) hf hm w2 (by omega)
  have e4 := places (n := n + 4) (S := S3) (d := .tup (ws.map sD)) (ws := ws) (fun _ => rfl) rfl sg (by omega)
  refine ⟨f, ws, S3, hf, sg, wl, w3.mono (by omega), (s1.trans s2).trans s3, fun {b r} h => ?_⟩
  have tu : bltD S3 "tuple" [.lst (ws.map sD)] = some (.tup (ws.map sD)) := by simp [bltD, items]
  have x0 : exS (geN tb PT (n + 8)) r0 [some (.ref k), none, none, none, none, none, none, none, none, none, none, none] S = some (.nx [some (.ref k), none, none, some f.d, none, none, none, none, none, none, none, none], S1) := by simp [e1]
  have x1 : exS (geN tb PT (n + 8)) r1 [some (.ref k), none, none, some f.d, none, none, none, none, none, none, none, none] S1 = some (.nx (rE k none none f ws none none none none none none none), S3) := by
    simp only [x_asg, q_blt, q_call, q_cons, q_nil, q_tup, q_int, q_var, vr, mpd_some, bnd_some, List.length_cons, List.length_nil, Nat.reduceAdd, Nat.reduceLeDiff, ↓reduceIte, e2, e3, tu, qg_name, List.set_cons_succ, List.set_cons_zero]
  have x2 : exS (geN tb PT (n + 8)) r2 (rE k none none f ws none none none none none none none) S3 = some (.nx (rE k none none f ws (some (.lst (ws.map wD))) none none none none none none), S3) := by
    simp only [x_asg, q_call, q_cons, q_nil, q_var, vr, mpd_some, bnd_some, e4, qg_name, List.set_cons_succ, List.set_cons_zero]
  exact ex_st x0 (ex_st x1 (ex_st x2 h))
/-- the drawn points -/
theorem rt_lone {f : Geo.Frm} (hf : Geo.FrmOk f) {ws : List Sg} (sg : ∀ u ∈ ws, Seg u.1 u.2) (wl : ws.length ≤ 12) (w : Sp k j S) (hj : j + 100 < 100000000) :
    ∃ (zs : List Plc) (S' : Sto), exS (geN tb PT (n + 8)) r3 (rE k none none f ws (some (.lst (ws.map wD))) none none none none none none) S = some (.nx (rE k none none f ws (some (.lst (ws.map wD))) (some (.lst (zs.map lD))) none none none none none), S') ∧ (∀ z ∈ zs, Pl 246 224 z) ∧ zs.length ≤ 3 ∧ Sp k (j + 50) S' ∧ Same k S S' := by
  obtain ⟨b, S1, e1, b0, b1, w1, s1⟩ := Geo.draw (tb := tb) (n := n + 7) hT.toHasD w (by omega) (m := 4) (by omega) (by omega)
  obtain ⟨c, rfl⟩ := Int.eq_ofNat_of_zero_le b0
  obtain ⟨ys, S2, e2, l2, p2, w2, s2⟩ := lc_ind (w := ⟨rngD 0 c, none⟩) (turn := lcTurn (geN tb PT (n + 8)) (.call "_law_any_place" [.var 0, .var 3, .var 5, .lst none []]) (.name 1) [] [1] (rE k none none f ws (some (.lst (ws.map wD))) none none none none none none)) (P := fun d => ∃ z, d = lD z ∧ Pl 246 224 z) (J := fun i T => Sp k (j + 1 + 10 * i) T ∧ Same k S1 T) (fun _ _ _ => ok_none) (xs := rngD 0 c) (i := 0) (S := S1) (fun x hx i T hi ⟨wT, sT⟩ => by
    rw [rng_len] at hi
    obtain ⟨z, T2, e, pz, w', s'⟩ := any_place (n := n + 2) (S := T) hf (ws := ws) (zs := []) sg (by omega) (fun _ h => nomatch h) (by simp) wT (by omega)
    simp only [List.map_nil] at e
    refine ⟨lD z, T2, ?_, ⟨z, rfl, pz⟩, w'.mono (by omega), sT.trans s'⟩
    simp [lcTurn, wipeD, e]) ⟨w1.mono (by omega), Same.refl⟩
  rw [rng_len] at l2 w2
  obtain ⟨zs, rfl, pz⟩ := as_map p2
  rw [List.length_map] at l2
  refine ⟨zs, S2, ?_, pz, by omega, w2.mono (by omega), s1.trans s2⟩
  have sm : smallI (c : Int) = true := small_of (by omega) (by omega)
  have ei : evI (geN tb PT (n + 8)) (.rng1 (.call "_law_draw" [.var 0, .int 4])) (rE k none none f ws (some (.lst (ws.map wD))) none none none none none none) S = some (⟨rngD 0 c, none⟩, S1) := by
    have e5 : evE (geN tb PT (n + 8)) (.call "_law_draw" [.var 0, .int 4]) (rE k none none f ws (some (.lst (ws.map wD))) none none none none none none) S = some (.int (c : Int), S1) := by
      simp only [q_call, q_cons, q_nil, q_var, q_int, vr, mpd_some, bnd_some, e1]
    rw [qw_rng1, e5, bnd_some]
    dsimp only
    rw [if_pos sm, Int.toNat_natCast]
  have le : (zs.map lD).length ≤ 16777216 := by rw [List.length_map]; omega
  rw [x_asg, q_lc, ei, bnd_some]
  dsimp only
  rw [e2, bnd_some]
  dsimp only
  rw [if_pos le, bnd_some]
  simp only [qg_name, mpd_some, List.set_cons_succ, List.set_cons_zero]
end K05

set_option maxHeartbeats 1000000
namespace K05
open PySem PySem.Spec PyProof.Rows L2 Dn
variable {n k j : Nat} {S : Sto}
theorem rowL_lt {α : Type} {f : α → Bool} : ∀ {L : List α} {m i : Nat}, i ∈ rowL f m L → i < m + L.length
  | [], m, i, h => by simp [rowL] at h
  | x :: r, m, i, h => by
    unfold rowL at h
    have ih := fun q => rowL_lt (f := f) (L := r) (m := m + 1) (i := i) q
    rw [List.length_cons]
    split at h
    · rcases List.mem_cons.mp h with rfl | h
      · omega
      · have := ih h; omega
    · have := ih h; omega
theorem prs_mem {r : List Nat} {z : Nat × Nat} (h : z ∈ prs r) : z.1 ∈ r ∧ z.2 ∈ r := by
  unfold prs at h
  obtain ⟨h1, h2⟩ := List.of_mem_zip (a := z.1) (b := z.2) h
  exact ⟨h1, List.mem_of_mem_tail h2⟩
theorem sw_items {ws : List Sg} : (ws.map sD).reverse = ws.reverse.map sD := (List.map_reverse ..).symm
theorem kw_v : kwOf PT ("vertices_of" : Str) 0 ["points", "segments"] = some [1, 0] := by
  unfold kwOf
  rw [l_vo]
  decide +kernel
theorem kw_e : kwOf PT ("edges_of" : Str) 0 ["points", "segments"] = some [1, 0] := by
  unfold kwOf
  rw [l_eo]
  decide +kernel
theorem right_eq (w : Sp k j S) (hj : j + 5000 < 100000000) : ∃ S', callN tb PT (n + 9) "_law_right" [.ref k] S = some (.bl true, S') ∧ Sp k (j + 1500) S' ∧ Same k S S' := by
  obtain ⟨f, ws, S1, hf, sg, wl, w1, s1, go1⟩ := rt_lines (n := n) w (by omega)
  obtain ⟨zs, S2, x3, pz, zl, w2, s2⟩ := rt_lone (n := n) hf sg wl w1 (by omega)
  obtain ⟨C, ec, srt, mem, cl⟩ := cut_eq (n := n + 3) (S := S2) sg wl pz (by omega)
  have vs := cut_vs sg pz srt mem
  have pC : ∀ z ∈ C, Pl 246 224 z := fun z h => mw_pl sg pz ((mem z).mp h)
  have rs := row_same sg pC
  have Ll : (C.map toldP).length ≤ 160 := by rw [List.length_map]; exact cl
  have pPs : ∀ P ∈ zs.map toldP, P2 246 224 P := fun P h => by
    obtain ⟨z, hz, rfl⟩ := List.mem_map.mp h
    exact told_p2 (pz z hz)
  have Pl' : (zs.map toldP).length ≤ 3 := by rw [List.length_map]; exact zl
  have tC := fun (δ : En) (it : CI) (hd : 2 < δ.length) (hi : evI (geN tb PT (n + 8)) it δ S2 = some (⟨C.map lD, none⟩, S2)) => told_lc2 (n := n + 5) (S := S2) (it := it) (δ := δ) (zs := C) hi pC (by omega) hd
  have tZ := fun (δ : En) (it : CI) (hd : 2 < δ.length) (hi : evI (geN tb PT (n + 8)) it δ S2 = some (⟨zs.map lD, none⟩, S2)) => told_lc2 (n := n + 5) (S := S2) (it := it) (δ := δ) (zs := zs) hi pz (by omega) hd
  have kl := keys_all (rows := ws.map (lrow C))
  have kb : ∀ q ∈ (keysOf (ws.map (lrow C))).mergeSort leE, q.1 < 10000 ∧ q.2 < 10000 := fun q hq => by
    rw [(List.mergeSort_perm _ leE).mem_iff, kl.2.1] at hq
    obtain ⟨r, hr, hz⟩ := hq
    obtain ⟨u, _, rfl⟩ := List.mem_map.mp hr
    obtain ⟨m1, m2⟩ := prs_mem hz
    have := rowL_lt m1
    have := rowL_lt m2
    omega
  have kn : ((keysOf (ws.map (lrow C))).mergeSort leE).length ≤ 2000 := by
    have h1 := kl.2.2 160 fun r hr => by
      obtain ⟨u, _, rfl⟩ := List.mem_map.mp hr
      exact Nat.le_trans rowL_len cl
    rw [List.length_map] at h1
    rw [(List.mergeSort_perm _ leE).length_eq]
    have : ws.length * 160 ≤ 12 * 160 := Nat.mul_le_mul_right _ wl
    omega
  obtain ⟨txt, rep⟩ := repr_due vs.bd Ll kb kn
  -- forward
  have av1 := fun S => av_of (n := n) (S := S) sg (by omega) pPs (by omega) vs
  have v1 := vo_eq (n := n) (S := S2) sg (by omega) pPs (by omega) av1
  have g1 := eo_eq (n := n) (S := S2) sg (by omega) pPs (by omega) av1 vs.bd (by omega)
  rw [rs] at g1
  -- backward
  have sgb := back_seg sg
  have bl : (back ws).length ≤ 12 := by unfold back; rw [List.length_map, List.length_reverse]; exact wl
  have pP2 : ∀ P ∈ zs.map toldP ++ zs.map toldP, P2 246 224 P := fun P h => by
    rcases List.mem_append.mp h with h | h <;> exact pPs P h
  have pP3 : ∀ P ∈ (zs.map toldP).reverse, P2 246 224 P := fun P h => pPs P (List.mem_reverse.mp h)
  have vb1 := vs.congr fun Z => mv_back sg (Ps := zs.map toldP) (Ps' := zs.map toldP ++ zs.map toldP) (fun P => by simp) (Z := Z)
  have vb2 := vs.congr fun Z => mv_back sg (Ps := zs.map toldP) (Ps' := (zs.map toldP).reverse) (fun P => by simp) (Z := Z)
  have av2 := fun S => av_of (n := n) (S := S) sgb (by omega) pP2 (by rw [List.length_append]; omega) vb1
  have av3 := fun S => av_of (n := n) (S := S) sgb (by omega) pP3 (by rw [List.length_reverse]; omega) vb2
  have v2 := vo_eq (n := n) (S := S2) sgb (by omega) pP2 (by rw [List.length_append]; omega) av2
  have g2 := eo_eq (n := n) (S := S2) sgb (by omega) pP3 (by rw [List.length_reverse]; omega) av3 vs.bd (by omega)
  rw [keys_back sg vs.bd, rs] at g2
  have bi : (ws.map sD).reverse = ws.reverse.map sD := sw_items
  have lb := loop_map2 (w := ⟨ws.reverse.map sD, none⟩) (S := S2) (g := sD) (f := fun u => sD (swp u)) (ys := ws.reverse) (turn := lcTurn (geN tb PT (n + 8)) (.rev (.var 2)) (.name 2) [] [2] (rE k none none f ws (some (.lst (ws.map wD))) (some (.lst (zs.map lD))) (some (.tup ((zs.map toldP).map pD))) (some (.lst [.tup ((C.map toldP).map pD), .tup (((keysOf (ws.map (lrow C))).mergeSort leE).map eD)])) none (some (.lst (C.map lD))) (some (.lst (((keysOf (ws.map (lrow C))).mergeSort leE).map eD))))) ok_none (fun u hu => by
    have d : Dn.dr S2 (sD u) = .tup [pD u.1, pD u.2] := rfl
    simp only [lcTurn, wipeD, qg_name, bnd_some, qi_nil, ↓reduceIte, q_rev, q_var, List.set_cons_succ, List.set_cons_zero, vr, mpd_some, d]
    rfl)
  have bm : ws.reverse.map (fun u => sD (swp u)) = (back ws).map sD := by unfold back; rw [List.map_map]; rfl
  rw [bm] at lb
  have bl2 : ((back ws).map sD).length ≤ 16777216 := by rw [List.length_map]; omega
  have ab : binD .Add (.tup ((zs.map toldP).map pD)) (.tup ((zs.map toldP).map pD)) = some (.tup ((zs.map toldP ++ zs.map toldP).map pD)) := by
    simp only [binD]
    rw [if_pos (by simp; omega), List.map_append]
  have rb : ((zs.map toldP).map pD).reverse = (zs.map toldP).reverse.map pD := (List.map_reverse ..).symm
  have sA : Same k S S2 := s1.trans s2
  generalize (keysOf (ws.map (lrow C))).mergeSort leE = E at *
  generalize zs.map toldP = Ps at *
  generalize hL : C.map toldP = L at *
  refine ⟨S2, ?_, w2.mono (by omega), sA⟩
  have dl : ∀ T xs, Dn.dr T (.lst xs) = .lst xs := fun _ _ => rfl
  have dt : ∀ T xs, Dn.dr T (.tup xs) = .tup xs := fun _ _ => rfl
  have tu : ∀ xs, bltD S2 "tuple" [.lst xs] = some (.tup xs) := fun xs => by simp [bltD, items]
  have y4 : exS (geN tb PT (n + 8)) r4 (rE k none none f ws (some (.lst (ws.map wD))) (some (.lst (zs.map lD))) none none none none none) S2 = some (.nx (rE k none none f ws (some (.lst (ws.map wD))) (some (.lst (zs.map lD))) (some (.tup (Ps.map pD))) none none none none), S2) := by
    rw [x_asg, tZ _ _ (by simp) (by simp only [qw_seq, q_var, vr, mpd_some, bnd_some, items, srcOf]), bnd_some]
    simp only [qg_name, mpd_some, List.set_cons_succ, List.set_cons_zero]
  have y5 : exS (geN tb PT (n + 8)) r5 (rE k none none f ws (some (.lst (ws.map wD))) (some (.lst (zs.map lD))) (some (.tup (Ps.map pD))) none none none none) S2 = some (.nx (rE k none none f ws (some (.lst (ws.map wD))) (some (.lst (zs.map lD))) (some (.tup (Ps.map pD))) none none (some (.lst (C.map lD))) (some (.lst (E.map eD)))), S2) := by
    simp only [x_asg, q_call, q_cons, q_nil, q_var, vr, mpd_some, bnd_some, ec, qg_tup, qg_cons, qg_nil, qg_name, List.set_cons_succ, List.set_cons_zero]
  have y6 : exS (geN tb PT (n + 8)) r6 (rE k none none f ws (some (.lst (ws.map wD))) (some (.lst (zs.map lD))) (some (.tup (Ps.map pD))) none none (some (.lst (C.map lD))) (some (.lst (E.map eD)))) S2 = some (.nx (rE k none none f ws (some (.lst (ws.map wD))) (some (.lst (zs.map lD))) (some (.tup (Ps.map pD))) (some (.lst [.tup (L.map pD), .tup (E.map eD)])) none (some (.lst (C.map lD))) (some (.lst (E.map eD)))), S2) := by
    rw [x_asg, q_lst, q_cons, tC _ _ (by simp) (by simp only [qw_seq, q_var, vr, mpd_some, bnd_some, items, srcOf]), bnd_some]
    simp only [q_cons, q_nil, q_blt, q_var, vr, mpd_some, bnd_some, tu, List.length_cons, List.length_nil, Nat.reduceAdd, Nat.reduceLeDiff, ↓reduceIte, qg_name, List.set_cons_succ, List.set_cons_zero]
  have y7 : exS (geN tb PT (n + 8)) r7 (rE k none none f ws (some (.lst (ws.map wD))) (some (.lst (zs.map lD))) (some (.tup (Ps.map pD))) (some (.lst [.tup (L.map pD), .tup (E.map eD)])) none (some (.lst (C.map lD))) (some (.lst (E.map eD)))) S2 = some (.nx (rE k none none f ws (some (.lst (ws.map wD))) (some (.lst (zs.map lD))) (some (.tup (Ps.map pD))) (some (.lst [.tup (L.map pD), .tup (E.map eD)])) none (some (.lst (C.map lD))) (some (.lst (E.map eD)))), S2) := by
    have ns : cmpD S2 .NotEq (.str txt) (.str txt) = some false := by simp [cmpD, Dn.dr, eqD, flatD, scal, vD]
    simp only [x_if, qt_cmp, q_blt, q_lst, q_cons, q_nil, q_call, q_var, vr, mpd_some, bnd_some, v1, g1, List.length_cons, List.length_nil, Nat.reduceAdd, Nat.reduceLeDiff, ↓reduceIte, rep, ns, decide_true, Bool.not_true, Bool.false_eq_true, x_nil]
  have y8 : exS (geN tb PT (n + 8)) r8 (rE k none none f ws (some (.lst (ws.map wD))) (some (.lst (zs.map lD))) (some (.tup (Ps.map pD))) (some (.lst [.tup (L.map pD), .tup (E.map eD)])) none (some (.lst (C.map lD))) (some (.lst (E.map eD)))) S2 = some (.nx (rE k none none f ws (some (.lst (ws.map wD))) (some (.lst (zs.map lD))) (some (.tup (Ps.map pD))) (some (.lst [.tup (L.map pD), .tup (E.map eD)])) (some (.tup ((back ws).map sD))) (some (.lst (C.map lD))) (some (.lst (E.map eD)))), S2) := by
    rw [x_asg, q_blt, q_cons, q_lc, qw_seq, q_rev, q_var]
    simp only [vr, mpd_some, bnd_some, dt, bi, items, srcOf]
    rw [lb, bnd_some]
    dsimp only
    rw [if_pos bl2, bnd_some, q_nil, mpd_some, bnd_some]
    dsimp only
    rw [tu, mpd_some, bnd_some]
    simp only [qg_name, mpd_some, List.set_cons_succ, List.set_cons_zero]
  have y9 : exS (geN tb PT (n + 8)) r9 (rE k none none f ws (some (.lst (ws.map wD))) (some (.lst (zs.map lD))) (some (.tup (Ps.map pD))) (some (.lst [.tup (L.map pD), .tup (E.map eD)])) (some (.tup ((back ws).map sD))) (some (.lst (C.map lD))) (some (.lst (E.map eD)))) S2 = some (.rt (.bl true), S2) := by
    have es : cmpD S2 .Eq (.str txt) (.str txt) = some true := by simp [cmpD, Dn.dr, eqD, flatD, scal, vD]
    have p1 : ∀ a b : D, pick [a, b] [1, 0] = some [b, a] := fun _ _ => rfl
    have c1 : evE (geN tb PT (n + 8)) (.callK "vertices_of" [] ["points", "segments"] [.bin .Add (.var 7) (.var 7), .var 9]) (rE k none none f ws (some (.lst (ws.map wD))) (some (.lst (zs.map lD))) (some (.tup (Ps.map pD))) (some (.lst [.tup (L.map pD), .tup (E.map eD)])) (some (.tup ((back ws).map sD))) (some (.lst (C.map lD))) (some (.lst (E.map eD)))) S2 = some (.tup (L.map pD), S2) := by
      simp only [q_callK, q_nil, q_cons, q_bin, q_var, vr, mpd_some, bnd_some, dt, ab, List.length_nil, kw_v, List.nil_append, p1, v2]
    have c2 : evE (geN tb PT (n + 8)) (.callK "edges_of" [] ["points", "segments"] [.rev (.var 7), .var 9]) (rE k none none f ws (some (.lst (ws.map wD))) (some (.lst (zs.map lD))) (some (.tup (Ps.map pD))) (some (.lst [.tup (L.map pD), .tup (E.map eD)])) (some (.tup ((back ws).map sD))) (some (.lst (C.map lD))) (some (.lst (E.map eD)))) S2 = some (.tup (E.map eD), S2) := by
      simp only [q_callK, q_nil, q_cons, q_rev, q_var, vr, mpd_some, bnd_some, dt, rb, List.length_nil, kw_e, List.nil_append, p1, g2]
    rw [x_ret, q_cmp, q_blt, q_cons, q_lst, q_cons, c1, bnd_some, q_cons, c2, bnd_some]
    simp only [q_cons, q_nil, q_blt, q_var, vr, mpd_some, bnd_some, List.length_cons, List.length_nil, Nat.reduceAdd, Nat.reduceLeDiff, ↓reduceIte, rep, es]
  have st : startD c_law_right.N.length [.ref k] = [some (.ref k), none, none, none, none, none, none, none, none, none, none, none] := rfl
  rw [q_of l_right rfl, st, right_body, go1 (ex_st x3 (ex_st y4 (ex_st y5 (ex_st y6 (ex_st y7 (ex_st y8 (ex_rt y9))))))), bnd_some]
  exact gc_same (by rw [sA.1]; exact Nat.le_refl _)
end K05

set_option maxHeartbeats 1000000
namespace K05
open PySem PySem.Spec PyProof.Rows L2 Dn
variable {n k j : Nat} {S : Sto}
theorem l_spring : PT.lookup ("_law_spring" : Str) = some c_law_spring := lk (d := d_law_spring) (by simp only [defs, List.mem_cons, true_or, or_true])
theorem l_law : PT.lookup ("law" : Str) = some c_p_law := lk (d := d_p_law) (by simp only [defs, List.mem_cons, true_or, or_true])
theorem cut_mem {xs : List D} {lo hi : Option Int} {x : D} (h : x ∈ cutD xs lo hi) : x ∈ xs := List.mem_of_mem_drop (List.mem_of_mem_take h)
theorem spring {ns : List Int} {t : Int} (t0 : 0 ≤ t) (t4 : t < 16) : ∃ S', callN tb PT (n + 1) "_law_spring" [.scr (ns.map .int), .int t] S = some (.ref S.length, S') ∧ S'.length = S.length + 1 ∧ Sp S.length 0 S' := by
  have m0 : mulOk 9241 t = true := mul_ok (nat_lt (by omega) (by omega)) (nat_lt (by omega) (by omega))
  have lp := fun (b0 : Int) (h0 : 0 ≤ b0 ∧ b0 < 2147483648) => Dn.for_all' (w := ⟨cutD (ns.map .int) none (some 9), none⟩) (turn := Dn.forTurn (geN tb PT n) (.name 3) [.asg (.name 2) (.bin .Mod (.blt "int" [.bin .Add (.bin .Add (.bin .Mult (.var 2) (.int 58027)) (.bin .Mod (.blt "int" [.var 3]) (.int 2147483587))) (.int 19)]) (.int 2147483629))])
    (I := fun δ T => T = S ∧ ∃ b q, 0 ≤ b ∧ b < 2147483648 ∧ δ = [some (.scr (ns.map .int)), some (.int t), some (.int b), q, none]) (fun _ _ _ => ok_none) (xs := cutD (ns.map .int) none (some 9)) (δ := [some (.scr (ns.map .int)), some (.int t), some (.int b0), none, none]) (S := S)
    (fun x hx δ T ⟨eS, b, q, b0, b1, eδ⟩ => by
      obtain ⟨i, _, rfl⟩ := List.mem_map.mp (cut_mem hx)
      subst eS eδ
      have m1 : mulOk b 58027 = true := mul_ok (nat_lt b0 (by omega)) (nat_lt (by omega) (by omega))
      refine ⟨[some (.scr (ns.map .int)), some (.int t), some (.int ((b * 58027 + i % 2147483587 + 19) % 2147483629)), some (.int i), none], T, ?_, rfl, _, _, ?_, ?_, rfl⟩
      · simp [Dn.forTurn, bltD, binD, dr, m1]
      all_goals omega) ⟨rfl, b0, none, h0.1, h0.2, rfl⟩
  obtain ⟨δ', S', e, eS, b, q, b0, b1, eδ⟩ := lp (855091 + 9241 * t) ⟨by omega, by omega⟩
  subst eS eδ
  -- own
  have own : ∃ o : Int, evE (geN tb PT n) (.ite (.cmp .Lt (.var 1) (.blt "len" [.var 0])) (.blt "int" [.ix (.var 0) (.var 1)]) (.int 0)) [some (.scr (ns.map .int)), some (.int t), some (.int b), q, none] S' = some (.int o, S') := by
    by_cases h : t < ns.length
    · obtain ⟨i, rfl⟩ := Int.eq_ofNat_of_zero_le t0
      have hi : i < ns.length := by omega
      have ea : atI (ns.map D.int) (i : Int) = some (.int ns[i]) := by rw [at_nat (by simpa using hi)]; simp
      exact ⟨ns[i], by simp [cmpD, bltD, items, hi, ixD, ea]⟩
    · exact ⟨0, by simp [cmpD, bltD, items, h]⟩
  obtain ⟨o, eo⟩ := own
  have m2 : mulOk b 61 = true := mul_ok (nat_lt b0 (by omega)) (nat_lt (by omega) (by omega))
  have m3 : mulOk (o % 2147483587) 30011 = true := mul_ok (nat_lt (by omega) (by omega)) (nat_lt (by omega) (by omega))
  have gk : ∀ (x : Int) (c : Int), gc S' (.ref S'.length) (S' ++ [.lst true [.int x, .int c, .int 0]]) = some (.ref S'.length, S' ++ [.lst true [.int x, .int c, .int 0]]) := fun x c => by
    unfold gc
    rw [if_neg (by simp), if_pos (by simp [MO.keep])]
  have big : ∃ x : Int, evE (geN tb PT n) (.ite (.or (.cmp .Lt (.var 4) (.int 0)) (.cmp .GtE (.var 4) (.bin .Pow (.int 10) (.int 15)))) (.blt "abs" [.var 4]) (.int 0)) [some (.scr (ns.map .int)), some (.int t), some (.int ((b * 61 + o % 2147483587 * 30011 + 7) % 2147483629)), q, some (.int o)] S' = some (.int x, S') := by
    by_cases h1 : o < 0
    · exact ⟨-o, by simp [cmpD, h1, bltD]⟩
    · by_cases h2 : 1000000000000000 ≤ o
      · exact ⟨o, by simp [cmpD, h1, bltD, binD, dr, h2]⟩
      · exact ⟨0, by simp [cmpD, h1, bltD, binD, dr, h2]⟩
  obtain ⟨x, ex⟩ := big
  refine ⟨S' ++ [.lst true [.int x, .int ((b * 61 + o % 2147483587 * 30011 + 7) % 2147483629), .int 0]], ?_, by simp, x, _, 0, last_get, by omega, by omega, by omega, by omega⟩
  rw [q_of l_spring rfl]
  simp only [c_law_spring]
  simp [-q_ite, startD, binD, dr, m0, slD, partD, isNonC, items, srcOf, e, eo, bltD, m2, m3, ex, gk]
theorem any_keep {T : Sto} (h : Sp k j T) : T.any MO.keep = true := by
  obtain ⟨a, b, c, e, _⟩ := h
  exact List.any_eq_true.mpr ⟨_, List.mem_of_getElem? e, rfl⟩
end K05

set_option maxHeartbeats 1000000
namespace K05
open PySem PySem.Spec PyProof.Rows L2 Dn
variable {n k j : Nat} {S : Sto}
def cntI (m : Int) : Int := if (if (3 : Int) < m then (3 : Int) else m) > 1 then (if (3 : Int) < m then (3 : Int) else m) else 1
theorem cnt_ex (m : Nat) : ∃ c : Nat, cntI m = (c : Int) ∧ 1 ≤ c ∧ c ≤ 3 := by
  have h : 1 ≤ cntI m ∧ cntI m ≤ 3 := by unfold cntI; split <;> split <;> omega
  obtain ⟨c, hc⟩ := Int.eq_ofNat_of_zero_le (a := cntI m) (by omega)
  exact ⟨c, hc, by omega, by omega⟩
theorem turns (ns : List Int) (n c : Nat) (hc : c ≤ 3) : ∃ ys S', loopLc ⟨rngD 0 c, none⟩ (lcTurn (geN tb PT (n + 29)) (.call "_law_right" [.call "_law_spring" [.var 0, .var 1]]) (.name 1) [] [1] [some (.scr (ns.map .int)), none]) (rngD 0 c) [] = some (ys, S') ∧ ys.length = (rngD 0 c).length ∧ (∀ y ∈ ys, y = .bl true) ∧ (S' = [] ∨ S'.any MO.keep = true) :=
  lc_ind (w := ⟨rngD 0 c, none⟩) (turn := lcTurn (geN tb PT (n + 29)) (.call "_law_right" [.call "_law_spring" [.var 0, .var 1]]) (.name 1) [] [1] [some (.scr (ns.map .int)), none]) (P := fun y => y = .bl true) (J := fun _ T => T = [] ∨ T.any MO.keep = true) (fun _ _ _ => ok_none) (xs := rngD 0 c) (i := 0) (S := []) (fun x hx i T hi hJ => by
    unfold rngD at hx
    obtain ⟨t, ht, rfl⟩ := List.mem_map.mp hx
    have ht' := List.mem_range.mp ht
    obtain ⟨T1, e1, l1, w1⟩ := spring (n := n + 28) (S := T) (ns := ns) (t := 0 + (t : Int)) (by omega) (by omega)
    obtain ⟨T2, e2, w2, s2⟩ := right_eq (n := n + 20) w1 (by omega)
    refine ⟨.bl true, T2, ?_, rfl, .inr (any_keep w2)⟩
    generalize (0 + (t : Int)) = tt at *
    simp [lcTurn, wipeD, e1, e2]) (.inl rfl)
theorem all_true : ∀ {ys : List D}, (∀ y ∈ ys, y = .bl true) → blsD ys = some (ys.map fun _ => true)
  | [], _ => rfl
  | y :: r, h => by
    rw [h y (List.mem_cons_self ..)]
    simp only [blsD, all_true fun z hz => h z (List.mem_cons_of_mem _ hz), Option.map_some, List.map_cons]
theorem gc_end {S' : Sto} {d : D} (hJ : S' = [] ∨ S'.any MO.keep = true) : gc [] d S' = some (d, S') := by
  unfold gc
  by_cases h : S'.length ≤ ([] : Sto).length
  · rw [if_pos h]
  · rw [if_neg h, if_pos]
    rcases hJ with h1 | h1
    · subst h1; simp at h
    · simpa using h1
theorem blt_len {ns : List Int} : bltD [] "len" [.scr (ns.map .int)] = some (.int (ns.length : Int)) := by simp [bltD, items]
theorem blt_min {m : Int} : bltD [] "min" [.int m, .int 3] = some (.int (if (3 : Int) < m then (3 : Int) else m)) := by simp [bltD]
theorem blt_max {m : Int} : bltD [] "max" [.int 1, .int m] = some (.int (if m > 1 then m else 1)) := by simp [bltD]
theorem blt_all {S' : Sto} {ys : List D} (h : ∀ y ∈ ys, y = .bl true) : bltD S' "all" [.lst ys] = some (.bl true) := by simp [bltD, litems, all_true h]
theorem law_rng (ns : List Int) (n c : Nat) (hc : cntI ns.length = (c : Int)) (c4 : c ≤ 3) : evI (geN tb PT (n + 29)) (.rng1 (.blt "max" [.int 1, .blt "min" [.blt "len" [.var 0], .int 3]])) [some (.scr (ns.map .int)), none] [] = some (⟨rngD 0 c, none⟩, []) := by
  have sm : smallI (c : Int) = true := by
    unfold smallI
    rw [Bool.and_eq_true, decide_eq_true_eq, decide_eq_true_eq]
    omega
  have h1 : evE (geN tb PT (n + 29)) (.blt "max" [.int 1, .blt "min" [.blt "len" [.var 0], .int 3]]) [some (.scr (ns.map .int)), none] [] = some (.int (c : Int), []) := by
    rw [← hc]
    simp only [q_blt, q_cons, q_nil, q_int, q_var, vr, bnd_some, mpd_some, blt_len, blt_min, blt_max]
    rfl
  rw [qw_rng1, h1, bnd_some]
  dsimp only
  rw [if_pos sm]
  rfl
theorem law_lc (ns : List Int) (n : Nat) : ∃ S', evE (geN tb PT (n + 29)) (.blt "all" [.lc (.call "_law_right" [.call "_law_spring" [.var 0, .var 1]]) (.name 1) (.rng1 (.blt "max" [.int 1, .blt "min" [.blt "len" [.var 0], .int 3]])) [] [1]]) [some (.scr (ns.map .int)), none] [] = some (.bl true, S') ∧ (S' = [] ∨ S'.any MO.keep = true) := by
  obtain ⟨c, hc, c2, c4⟩ := cnt_ex ns.length
  obtain ⟨ys, S', e, yl, yt, hJ⟩ := turns ns n c c4
  have yn : ys.length ≤ 16777216 := by rw [yl, rng_len]; omega
  refine ⟨S', ?_, hJ⟩
  rw [q_blt, q_cons, q_lc, law_rng ns n c hc c4, bnd_some]
  dsimp only
  rw [e, bnd_some]
  dsimp only
  rw [if_pos yn, bnd_some, q_nil, mpd_some, bnd_some]
  dsimp only
  rw [blt_all yt, mpd_some]
theorem holds (ns : List Int) (n : Nat) : ∃ S, callN tb PT (n + 30) "law" [.scr (ns.map .int)] [] = some (.bl true, S) := by
  obtain ⟨S', e, hJ⟩ := law_lc ns n
  refine ⟨S', ?_⟩
  have sd : startD c_p_law.N.length [.scr (ns.map .int)] = [some (.scr (ns.map .int)), none] := rfl
  have bd : c_p_law.body = [.ret (.blt "all" [.lc (.call "_law_right" [.call "_law_spring" [.var 0, .var 1]]) (.name 1) (.rng1 (.blt "max" [.int 1, .blt "min" [.blt "len" [.var 0], .int 3]])) [] [1]])] := rfl
  rw [q_of l_law rfl, sd, bd, x_cons, x_ret, e, mpd_some, bnd_some]
  dsimp only
  rw [bnd_some]
  dsimp only
  rw [gc_end hJ]
end K05

set_option maxHeartbeats 0
open PySem PySem.W PySem.Calls PyProof.Rows
theorem PySem.Challenge.cw_bendatlas_k05_whole_vertices_and_edges_b_holds : PySem.Challenge.rw_bendatlas_k05_whole_vertices_and_edges_b.Holds := by
  w_on; o_law
  refine HandSHeadRun.head_imp (r := OpenLaw.row PySem.Challenge.rw_bendatlas_k05_whole_vertices_and_edges_b) (q := view (OpenLaw.row PySem.Challenge.rw_bendatlas_k05_whole_vertices_and_edges_b).prog [0, 68]) (H := K05.hk) (ob := K05.ob) (M := 30000) (loose := K05.loose) (d := HandSHeadRun.topDef (OpenLaw.row PySem.Challenge.rw_bendatlas_k05_whole_vertices_and_edges_b).prog 68) (kwd := []) K05.ob_eq
    K05.run (by kernel_rfl) (by kernel_rfl) (by kernel_rfl) (by rfl) (by first | assumption | decide +kernel) (by decide +kernel) ⟨rfl, rfl, rfl, rfl, rfl, by decide +kernel⟩ ?hw ?hc
  case hw => w_witness2
  case hc =>
    exact Dn.law_of (l := PySem.Challenge.rw_bendatlas_k05_whole_vertices_and_edges_b) (n := 63) (k := 60) (x := "script") (dl := K05.d_p_law) rfl (by decide) (by kernel_rfl) ⟨rfl, by decide, by decide⟩ (by simp only [K05.defs, List.mem_cons, true_or, or_true]) (by kernel_rfl) rfl
      K05.nd K05.ck K05.bn K05.bk (by decide +kernel) (by decide +kernel) K05.xi K05.xbn (fun ns h => K05.holds ns 30)

