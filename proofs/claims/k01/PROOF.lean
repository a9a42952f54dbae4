import PyProof.Rows.All
import Wide.All
import OpenK.AllK
import Wide.FinOn
import HandS.Style
import HandS.More
import HandS.TupAny
import HandS.Defaults
import HandS.Iter
import KE.GoesMore
import KE.GoesEnum
import HandS.ForMost
import HandS.Deep
import HandS.Wide
import HandS.Gcd
import HandS.IsInst
import HandS.RaiseMore
import HandS.ExcInit
import KE.SortCalls
import HandS.Comp
import HandS.ExcIs
import HandS.ExcField
import HandS.ExcValue
import KE.KExcIs
import HandS.Flow
import HandS.Zip
import KE.KDictZip
import HandS.Conv
import HandS.Star
import HandS.Head0
import HandS.Head1
import HandS.Head2
import HandS.HeadEnd
import HandS.HeadHook1
import HandS.HeadHook2
import HandS.HeadHook3
import PyProof.Rows.RegStrFacts
import PySem.Challenge.RW_bendatlas_k01_errors_each_of_its_own
import PyProof.StrLawsRepr
import PyProof.Rows.ReprOcc
import HandS.Head3
set_option Elab.async false
set_option linter.all false
set_option maxRecDepth 100000
set_option maxHeartbeats 4000000
namespace Dn
open PySem PySem.Spec PyProof.Rows L2
/-! ### t[::-1] of a tuple -/
section
variable {prog : Program} {w : World} {A : Around} {E : Value → Shared → Prop} {s : Shared}
theorem back_parts (n : Nat) : Builtin.Slice.sliceAdjust none none (-1) (n : Int) = ((n : Int) - 1, -1) := by
  unfold Builtin.Slice.sliceAdjust
  simp
theorem back_places (n : Nat) : Builtin.Slice.slicePlaces ((n : Int) - 1) (-1) (-1) = n := by
  unfold Builtin.Slice.slicePlaces
  simp only [show ¬ ((-1 : Int) > 0) by omega, if_false]
  split
  · rw [show (- -1 : Int) = 1 by decide, Int.ediv_one]; omega
  · omega
theorem back_applied {sl : Addr} {t : Tok} {n : Nat} {Q : Int × Int × Nat → Shared → Prop} (hs : s.heap.IsSliceOf sl .none .none (.int (-1) t)) (h : Q ((n : Int) - 1, -1, n) s) :
    wpAny (model prog w) A (Builtin.Slice.sliceApplied (.ref sl) (pure (n : Int))) Q E s := by
  obtain ⟨os, hos, hcs, hds⟩ := id hs
  unfold Builtin.Slice.sliceApplied Builtin.Slice.sliceFields
  refine wpAny_bind (wpAny_bind (wpAny_field hos hds (x := .none) rfl (wpAny_bind (wpAny_field hos hds (x := .none) rfl (wpAny_bind (wpAny_field hos hds (x := .int (-1) t) rfl (wpAny_pure ?_)))))))
  refine wpAny_bind (slicePart_int ?_)
  show wpAny _ _ (if ((-1 : Int) == 0) = true then _ else _) _ _ s
  rw [if_neg (by decide)]
  refine wpAny_bind (slicePart_none (wpAny_bind (slicePart_none (wpAny_bind (wpAny_pure ?_)))))
  show wpAny _ _ (match Builtin.Slice.sliceAdjust none none (-1) (n : Int) with | (lo, hi) => pure (lo, (-1 : Int), Builtin.Slice.slicePlaces lo hi (-1))) _ _ s
  rw [back_parts n]
  show wpAny _ _ (pure ((n : Int) - 1, (-1 : Int), Builtin.Slice.slicePlaces ((n : Int) - 1) (-1) (-1))) _ _ s
  rw [back_places]
  exact wpAny_pure h
theorem back_pick (xs : Array Value) : ((List.range xs.size).filterMap fun (k : Nat) => xs[(((xs.size : Int) - 1) + (k : Int) * (-1)).toNat]?).toArray = xs.toList.reverse.toArray := by
  have e : (fun (k : Nat) => xs[(((xs.size : Int) - 1) + (k : Int) * (-1)).toNat]?) = fun k => xs[xs.size - 1 - k]? := by
    funext k
    have : (((xs.size : Int) - 1) + (k : Int) * (-1)).toNat = xs.size - 1 - k := by omega
    rw [this]
  rw [e]
  have h2 := PySem.W.krv_range xs.size
  have h3 : (List.range xs.size).filterMap (fun k => xs[xs.size - 1 - k]?) = ((List.range xs.size).map fun k => xs.size - 1 - k).filterMap (xs[·]?) := by
    rw [List.filterMap_map]; rfl
  rw [h3, h2, List.filterMap_reverse, PySem.W.krv_all]
theorem back_tuple {t sl : Addr} {tk : Tok} {items : Array Value} {Q : Value → Shared → Prop} (ht : IsTup s.heap t items) (hs : s.heap.IsSliceOf sl .none .none (.int (-1) tk))
    (h : Q (.ref s.heap.objs.size) { s with heap := s.heap.push { cls := .type "tuple", data := .seq items.toList.reverse.toArray } }) (hsz : items.size ≤ sizeLine) : wpAny (model prog w) A (getItem (.ref t) (.ref sl)) Q E s := by
  have hok : sizeOk (.seq items.toList.reverse.toArray) := by
    show items.toList.reverse.toArray.size ≤ sizeLine
    rw [List.size_toArray, List.length_reverse, Array.length_toList]
    exact hsz
  obtain ⟨os, hos, hcs, hds⟩ := id hs
  have hT : s.TypeIs (.ref sl) "slice" := ⟨os, hos, hcs⟩
  unfold getItem
  try with_reducible refine wpAny_holding ?_
  first | refine wpAny_bind (wpAny_pure ?_) | skip
  refine wpAny_bind (wpAny_sequenceKey ht.typeIs (by decide) ?_)
  refine wpAny_bind (wpAny_callSpecial?_slot (name := Str.ofString "__getitem__") ht.typeIs PyProof.Rows.slot_tuple_getitem
    (wpAny_call_entry PyProof.Rows.slot_tuple_getitem ht.typeIs entry_tuple_getitem ?_ (args_tuple_getitem _ _)))
  show wpAny _ _ (Builtin.Tuple.tupleItemsOf (.ref t) >>= _) _ _ s
  refine wpAny_bind (tupleItemsOf_ ht ?_)
  refine wpAny_bind (wpAny_typeOf hT ?_)
  rw [if_pos (by decide)]
  refine wpAny_bind (back_applied hs ?_)
  show wpAny _ _ (if (((items.size : Int) - 1) == 0 && (-1 : Int) == 1 && items.size == items.size) = true then _ else _) _ _ s
  rw [if_neg (by simp), back_pick]
  first
    | exact wpAny_bind (m := Builtin.Tuple.tupleExact _) (wpAny_newObj_type (wpAny_pure ⟨_, rfl, wpAny_pure h⟩) hok)
    | exact wpAny_bind (m := Builtin.Tuple.tupleExact _) (wpAny_newObj_type (wpAny_bind (wpAny_pure (wpAny_pure ⟨_, rfl, wpAny_pure h⟩))) hok)
    | exact wpAny_bind (wpAny_bind (m := Builtin.Tuple.tupleExact _) (wpAny_newObj_type (wpAny_pure (wpAny_pure ⟨_, rfl, wpAny_pure h⟩)) hok))
    | exact wpAny_bind (wpAny_bind (m := Builtin.Tuple.tupleExact _) (wpAny_newObj_type (wpAny_pure ⟨_, rfl, wpAny_pure h⟩) hok))
end
/-- a list or a tuple, from its end -/
def tBack (K : PySem.W.Frag) (te : TE) : TE := fun σ H Q => te σ H fun x H1 => ∃ a xs, x = .ref a ∧ ((SqL K H1 a xs ∧ ∀ p, H1 p = none → Q (.ref p) (upd H1 p (.lst xs.reverse))) ∨ (SqT K H1 a xs ∧ ∀ p, H1 p = none → Q (.ref p) (upd H1 p (.tup xs.reverse))))
theorem pe_back {X : Cx} {e : Expr} {te : TE} {k : Nat} {p1 p2 p3 pos : Pos} (he : PE X e te) : PE X (.Subscript e (.Slice none none (some (.UnaryOp .USub (.Constant (.int 1) k p1) p2)) p3) pos) (tBack X.K te) := by
  refine ⟨fun pins s σ H Q I h => ?_⟩
  refine Subscript_ (thn (he.run pins s σ H _ I h) fun v s1 ⟨x, H1, I1, r1, q1⟩ => ?_)
  obtain ⟨a, xs, ex, q⟩ := q1
  subst ex
  cases r1
  have hst : PO X (some (.UnaryOp .USub (.Constant (.int 1) k p1) p2)) (tPart (tUn (rU fun i => .int (-i)) (tC (.int 1)))) := po_some (pe_un un_neg pe_int)
  refine wpAny_Slice (thn (po_none.run pins s1 σ H1 (fun o H2 => o = none ∧ H2 = H1) I1 ⟨rfl, rfl⟩) fun vl s2 ⟨l, H2, I2, pl, el, e2⟩ => ?_)
  subst el e2
  refine thn (po_none.run pins s2 σ H2 (fun o H3 => o = none ∧ H3 = H2) I2 ⟨rfl, rfl⟩) fun vu s3 ⟨u, H3, I3, pu, eu, e3⟩ => ?_
  subst eu e3
  refine thn (hst.run pins s3 σ H3 (fun o H4 => o = some (-1) ∧ H4 = H3) I3 ⟨1, rfl, -1, rfl, rfl, rfl⟩) fun vs s4 ⟨o, H4, I4, ps, eo, e4⟩ => ?_
  subst eo e4
  have I5 : Inv X pins σ H4 { s4 with heap := s4.heap.push { cls := .type "slice", data := .fields #[vl, vu, vs] } } := I4.kept (t' := s4.toks) fun b ob q => Heap.get?_push_of_some _ q
  show wpAny (model X.prog X.w) X.A (subscriptTail e (.Slice none none (some (.UnaryOp .USub (.Constant (.int 1) k p1) p2)) p3) (.ref a) (.ref s4.heap.objs.size)) (EP X pins σ Q) X.xe { s4 with heap := s4.heap.push { cls := .type "slice", data := .fields #[vl, vu, vs] } }
  rcases q with ⟨hx, q⟩ | ⟨hx, q⟩
  · obtain ⟨its, r, ht, hz⟩ := I5.list hx
    have hlen := r.length
    refine tail_any (ops := [.ref a, .ref s4.heap.objs.size]) ht.isList.typeIs (PySem.slot_list_getitem.lookup) ?_ (by with_unfolding_all rfl)
    refine wpAny_getItem_list_slice ht.isList (Heap.IsSliceOf.new _ vl vu vs) pl pu ps (by decide) ?_ (by rw [List.size_toArray]; omega)
    rw [PySem.W.krv_pick]
    refine ⟨.ref _, _, I5.laid (t' := s4.toks) (o := .lst xs.reverse) (fun b ob q => Heap.get?_push_of_some _ q) (Nat.le_refl _) ?_, rfl, q _ (I5.hok.fresh (Nat.le_refl _))⟩
    exact ⟨by rw [List.length_reverse]; exact hz, _, 0, r.reverse, Heap.get?_push_size _ rfl⟩
  · obtain ⟨its, r, ht, hz⟩ := I5.tuple hx
    have hlen := r.length
    refine tail_any (ops := [.ref a, .ref s4.heap.objs.size]) ht.typeIs (PyProof.Rows.slot_tuple_getitem.lookup) ?_ (by with_unfolding_all rfl)
    cases pl
    cases pu
    cases ps
    refine back_tuple ht (Heap.IsSliceOf.new _ .none .none _) ?_ (by rw [List.size_toArray]; omega)
    refine ⟨.ref _, _, I5.laid (t' := s4.toks) (o := .tup xs.reverse) (fun b ob q => Heap.get?_push_of_some _ q) (Nat.le_refl _) ?_, rfl, q _ (I5.hok.fresh (Nat.le_refl _))⟩
    exact ⟨by rw [List.length_reverse]; exact hz, _, r.reverse, IsTup.new _ _⟩
end Dn

set_option maxHeartbeats 4000000
namespace Dn
open PySem PySem.Spec PyProof.Rows L2
/-! ### enumerate of a tuple -/
theorem enum_new {v : Value} {o : Obj} {P : Heap → Prop} (B : Begins v o P) :
    Meets (Builtin.«enumerate.__new__» ⟨[.type "enumerate", v], []⟩) (fun _ R s => P s.heap ∧
      R (.ok (.ret (.ref (s.heap.push o).objs.size))) { s with heap := (s.heap.push o).push { cls := .type "enumerate", data := .fields #[.none, .bool false, .ref s.heap.objs.size, rawInt 0, .none, .none] } }) :=
  .of_wp fun prog w A R s h => by
    obtain ⟨hp, g, d, tk, os⟩ := s; obtain ⟨h1, h⟩ := h
    have hsub := sub_enumerate
    have q1 : ∀ {A' : Around} {E : Value → Shared → Prop} {Q : Value → Shared → Prop}, Q (.ref hp.objs.size) ⟨hp.push o, g, d, tk, os⟩ → wpAny (model prog w) A' (pyIter v) Q E ⟨hp, g, d, tk, os⟩ := fun q => B.iter prog w _ _ ⟨hp, g, d, tk, os⟩ _ h1 q
    wp_walk using q1
    refine wpAny_stack_any fun st => wpAny_pure ?_
    split
    · rename_i c _ _ _ _ _
      cases (c == Value.type "enumerate")
      · wp_walk using q1
        exact ⟨_, rfl, h⟩
      · wp_walk using q1
        exact ⟨_, rfl, h⟩
    · wp_walk using q1
      exact ⟨_, rfl, h⟩
theorem enum_call {prog : Program} {w : World} {A : Around} {E : Value → Shared → Prop} {s : Shared} {v : Value} {o : Obj} {P : Heap → Prop} {Q : Value → Shared → Prop} (B : Begins v o P) (h1 : P s.heap)
    (h : ∀ h', IsEnum h' (s.heap.objs.size + 1) s.heap.objs.size 0 .none → h'.get? s.heap.objs.size = some o → (∀ b o, s.heap.get? b = some o → h'.get? b = some o) → Q (.ref (s.heap.objs.size + 1)) { s with heap := h' }) :
    wpAny (model prog w) A (call (.type "enumerate") [v]) Q E s := by
  refine callType_new F.called_enumerate (by decide) (F.typeCall_enumerate_1 _) (F.newCall_enumerate_1 _) (fun obj => F.args_object_init_2 obj _) F.entry_enumerate_new (enum_new B) ⟨h1, ?_⟩
  have hz : (s.heap.push o).objs.size = s.heap.objs.size + 1 := Heap.size_push ..
  show _ ∧ _
  rw [hz]
  have he : IsEnum ((s.heap.push o).push { cls := .type "enumerate", data := .fields #[.none, .bool false, .ref s.heap.objs.size, rawInt 0, .none, .none] }) (s.heap.objs.size + 1) s.heap.objs.size 0 .none := by
    have q := Heap.get?_push_size (s.heap.push o) (o := { cls := .type "enumerate", data := .fields #[.none, .bool false, .ref s.heap.objs.size, rawInt 0, .none, .none] }) rfl
    rw [hz] at q; exact q
  exact ⟨⟨_, he, rfl⟩, h _ he (Heap.get?_push_of_some _ (Heap.get?_push_size _ B.free)) fun b o x => Heap.get?_push_of_some _ (Heap.get?_push_of_some _ x)⟩
/-- the tuple at a, each item in a new pair -/
def IteT (K : PySem.W.Frag) (a : Addr) : It :=
  ⟨fun i H => ∃ (xs : List V) (x : V), SqT K H a xs ∧ xs[i]? = some x, fun i H v H' => ∃ T x, v = .ref T ∧ H T = none ∧ H' = upd H T (.tup [.int (i : Nat), x]) ∧ ∀ xs, SqT K H a xs → xs[i]? = some x, fun i H => ∃ xs : List V, SqT K H a xs ∧ xs.length ≤ i⟩
theorem enum_end {prog : Program} {w : World} {A : Around} {E : Value → Shared → Prop} {s : Shared} {e it a : Addr} {items : Array Value} {j : Nat} {i : Int} {old : Value} {Q : Option Value → Shared → Prop} (hh : A.in1.handled = none) (he : IsEnum s.heap e it i old) (hit : s.heap.IsTupleIter it a j) (ht : s.heap.IsTuple a items)
    (hx : items[j]? = none) (hQ : ∀ h', Heap.ExtBut it s.heap h' → Q none { s with heap := h' }) : wpAny (model prog w) A (pyNext (.ref e)) Q E s := by
  have hT : s.TypeIs (.ref e) "enumerate" := ⟨_, he, rfl⟩
  unfold pyNext
  refine wpAny_bind (wpAny_attempt (wpAny_callSpecial?_slot (name := Str.ofString "__next__") hT F.slot_enumerate_next
    (wpAny_call_entry F.slot_enumerate_next hT F.entry_enumerate_next ?_ (F.args_enumerate_next_1 _))))
  show wpAny _ _ (field (.ref e) 2 >>= _) _ _ _
  refine wpAny_bind (wpAny_field he rfl (x := .ref it) rfl ?_)
  refine wpAny_bind (wpAny_nextOf_tuple_end hh hit ht hx fun h' x he' hx' => ?_)
  obtain ⟨o, ho, hc⟩ := hx'
  refine wpAny_bind (wpAny_isInstance (T := "StopIteration") (b := true) ⟨o, ho, hc⟩ isSubtype_stop ?_)
  exact wpAny_pure (hQ _ he')
theorem turn_enumT {P : Program} {w : World} {K : PySem.W.Frag} {elts : List Expr} {kk : Nat} {tpos : Pos} (a e it : Addr) (ha : a ≠ it) (hae : e ≠ a) :
    Turn P w K (.Tuple elts kk tpos) (IteT K a) [e, it] e (fun i h => (∃ old, IsEnum h e it ((i : Nat) : Int) old) ∧ h.IsTupleIter it a i ∧ e ≠ it) where
  mem := by simp
  obj := fun i h st b hb => by
    obtain ⟨⟨old, he⟩, ⟨o, ho, hc, hd⟩, _⟩ := st
    have e' : b = e ∨ b = it := by simpa using hb
    rcases e' with z | z
    · rw [z]; exact ⟨_, he, fun v q => nomatch q⟩
    · rw [z]; exact ⟨o, ho, fun v q => by rw [hd] at q; cases q⟩
  keep := fun i h h' st k => let ⟨⟨old, he⟩, hi, hne⟩ := st; ⟨⟨old, k e (by simp) _ he⟩, hi.at fun o q => k it (by simp) o q, hne⟩
  item := by
    intro X hP hw hK hc i pins s σ H E I hf st hg
    subst hP hw hK
    obtain ⟨⟨old, he⟩, hit, hne⟩ := st
    obtain ⟨xs, x, hq, hx⟩ := hg
    obtain ⟨its, rv, p, hz⟩ := I.tuple hq
    obtain ⟨u, hu, ru⟩ := rv.get hx
    have hel : e < s.heap.objs.size := Heap.lt_size he
    have hil : it < s.heap.objs.size := by obtain ⟨_, q, _⟩ := hit; exact Heap.lt_size q
    have hsz : its.toArray.size = its.length := List.size_toArray
    have hil2 : i < its.toArray.size := by rw [hsz]; exact (List.getElem?_eq_some_iff.mp hu).1
    refine wpAny_pyNext_enum_itemD (Draws.tuple (show X.A.in1.handled = none from I.ok.hd hc) it a ha its.toArray) he ⟨hit, p⟩ hil2 hne (by simp [hne, hae]) fun y h' tk hy ho hst hT hsz' hk => ?_
    obtain ⟨hit', _⟩ := hst
    have ey : y = u := by
      have h2 : its.toArray[i]? = some u := by simpa using hu
      rw [h2] at hy; cases hy; rfl
    subst ey
    refine ⟨_, rfl, wpAny_letOwnedTupleGo_enum (s := { s with heap := h', toks := tk + 1 }) ho fun h'' he' sb => ?_⟩
    have hT2 : h''.get? s.heap.objs.size = some { cls := .type "tuple", data := .seq #[.int i tk, y] } := (sb.2 _ (Nat.ne_of_gt hel)).trans hT
    have new : ObjOk X.prog X.w (upd H s.heap.objs.size (.tup [.int (i : Nat), x])) h'' s.heap.objs.size (.tup [.int (i : Nat), x]) :=
      ⟨by show 2 ≤ sizeLine; decide, [.int i tk, y], .cons ⟨_, rfl⟩ (.cons ru .nil), ⟨_, hT2, rfl, _, rfl⟩⟩
    have I1 : Inv X pins σ (upd H s.heap.objs.size (.tup [.int (i : Nat), x])) { s with heap := h'', toks := tk + 1 } :=
      I.turnedNew (ch := [e, it]) (fun b ob hb q => (sb.2 b (fun z => hb (by simp [z]))).trans (hk b ob (fun z => hb (by simp [z])) (fun z => hb (by simp [z])) q)) hf (Nat.le_refl _) new
    refine ⟨.ref s.heap.objs.size, _, I1, rfl, ⟨_, x, rfl, I.hok.fresh (Nat.le_refl _), rfl, fun ys hy => by rw [I.tuple_inj hy hq]; exact hx⟩, ⟨⟨y, ?_⟩, hit'.at fun o q => (sb.2 it (Ne.symm hne)).trans q, hne⟩, fun b hb => ?_⟩
    · have e1 : ((i + 1 : Nat) : Int) = (i : Int) + 1 := by omega
      rw [e1]; exact he'
    · have hb' : b < s.heap.objs.size := by
        have e' : b = e ∨ b = it := by simpa using hb
        rcases e' with z | z
        · rw [z]; exact hel
        · rw [z]; exact hil
      rw [upd_ne (Nat.ne_of_lt hb')]
      exact (hf b hb).1
  done := by
    intro X hP hw hK hc i pins s σ H E I hf st hg
    subst hP hw hK
    obtain ⟨⟨old, he⟩, hit, hne⟩ := st
    obtain ⟨xs, hq, hx⟩ := hg
    obtain ⟨its, rv, p, hz⟩ := I.tuple hq
    obtain ⟨f0, f1, f2, f3, f4, f5⟩ := hf it (by simp)
    have hl := rv.length
    exact enum_end (show X.A.in1.handled = none from I.ok.hd hc) he hit p (by simp; omega) fun h' eb => ⟨rfl, I.turned (t' := s.toks) (fun b o hb q => eb b o hb q) f0 f1 f3 f4 f5⟩
  self := fun A i s Q E st h => let ⟨⟨_, he⟩, _⟩ := st; wpAny_pyIter_enum he h
/-- a list or a tuple -/
def iEnumA (K : PySem.W.Frag) (ta : TA) : TI := fun σ H R => ta σ H fun vs H1 => ∃ a xs, vs = [.ref a] ∧ ((SqL K H1 a xs ∧ R (Ite K a) H1) ∨ (SqT K H1 a xs ∧ R (IteT K a) H1))
theorem pi_enumA {X : Cx} {e : Expr} {ta : TA} {p pos tpos : Pos} {elts : List Expr} {kk : Nat} (hg : Gl X "enumerate") (hm : X.mg "enumerate" = none) (ha : PA X [e] ta) (hs : starEach [e] X.env = [(false, eval e X.env)] := by rfl) :
    PI X (.Tuple elts kk tpos) (.Call (.Name "enumerate" p) [e] [] pos) (iEnumA X.K ta) := by
  refine ⟨fun pins s σ H R I h => ?_⟩
  refine Call_ (ld_blt I hg hm boot_enumerate (PyProof.Rows.callWith_type1 (thn (ha.run pos pins s σ H _ I h) fun us s1 ⟨vs, H1, I1, r1, q1⟩ => ?_) hs rfl))
  obtain ⟨a, xs, ex, q⟩ := q1
  subst ex
  cases r1 with
  | cons r rr =>
    cases rr
    cases r
    have fp : ∀ b ∈ [s1.heap.objs.size + 1, s1.heap.objs.size], FpOk X pins H1 b := fun b hb => by
      have e' : b = s1.heap.objs.size + 1 ∨ b = s1.heap.objs.size := by simpa using hb
      have hle : s1.heap.objs.size ≤ b := by
        rcases e' with z | z
        · rw [z]; exact Nat.le_add_right _ _
        · rw [z]; exact Nat.le_refl _
      exact I1.fpOk hle (I1.hok.fresh hle)
    rcases q with ⟨hq, q⟩ | ⟨hq, q⟩
    · obtain ⟨its, rv, p', hz⟩ := I1.list hq
      refine call_enumerate_list p'.isList fun h' he hit hsz hk => wpAny_pyIter_enum he ?_
      have I2 : Inv X pins σ H1 { s1 with heap := h' } := I1.kept (t' := s1.toks) hk
      exact ⟨s1.heap.objs.size + 1, [s1.heap.objs.size + 1, s1.heap.objs.size], _, _, H1, rfl, I2, turn_enum a (s1.heap.objs.size + 1) s1.heap.objs.size, ⟨⟨.none, he⟩, hit, Nat.succ_ne_self _⟩, fp, q⟩
    · obtain ⟨its, rv, p', hz⟩ := I1.tuple hq
      have hal : a < s1.heap.objs.size := by obtain ⟨_, q, _⟩ := p'; exact Heap.lt_size q
      refine enum_call (begins_tuple a its.toArray) p' fun h' he hit hk => wpAny_pyIter_enum he ?_
      have I2 : Inv X pins σ H1 { s1 with heap := h' } := I1.kept (t' := s1.toks) hk
      exact ⟨s1.heap.objs.size + 1, [s1.heap.objs.size + 1, s1.heap.objs.size], _, _, H1, rfl, I2, turn_enumT a (s1.heap.objs.size + 1) s1.heap.objs.size (Nat.ne_of_lt hal) (fun z => absurd hal (by rw [← z]; exact Nat.not_lt.mpr (Nat.le_add_right _ _))), ⟨⟨.none, he⟩, ⟨_, hit, rfl, rfl⟩, Nat.succ_ne_self _⟩, fp, q⟩
end Dn

set_option maxHeartbeats 4000000
namespace Dn
open PySem PySem.Spec PyProof.Rows L2

/-! ### data: what a value stands for; what the store holds -/
inductive D where
  | non | bl (b : Bool) | int (i : Int) | str (x : Str)
  | tup (xs : List D) | lst (xs : List D) | scr (xs : List D) | dic (ks : List Key) (xs : List D) | ref (k : Nat) | exc (C f : Str) (xs : List D)

/-- a mutable object of the store -/
inductive MO where
  | lst (keep : Bool) (xs : List D)
abbrev Sto := List MO
def MO.xs : MO → List D
  | .lst _ xs => xs
def MO.keep : MO → Bool
  | .lst k _ => k

/-- where the store's objects stand; the addresses that are hidden -/
structure Mu where
  ad : List Addr
  hid : List Addr
def Mu.fz (μ : Mu) (a : Addr) : Prop := a ∉ μ.ad ∧ a ∉ μ.hid
/-- a list that is known to the object, or one of the module's -/
def ScrAt (K : PySem.W.Frag) (H : Hp) (a : Addr) (xs : List V) : Prop :=
  (∃ o, H a = some (.frz o (.lst xs))) ∨
    ∃ (o : Obj) (its : Array Value) (n : Nat), K.lookup a = some o ∧ o.cls = .type "list" ∧ o.dict = none ∧ o.data = .seq its n ∧ its.size ≤ sizeLine ∧ Vals xs its.toList

/-- the class of that name of the module -/
def ClsAt (K : PySem.W.Frag) (C : Str) (c : Addr) : Prop := PySem.W.nsIn K mainGlobals C = some (some (.ref c))
/-- an exception of the class at c: no field, one field -/
def ExAt (H : Hp) (a c : Addr) (f : Str) (vs : List V) : Prop := (vs = [] ∧ H a = some (exo a c none)) ∨ ∃ (y : V) (dx : Addr), vs = [y] ∧ H a = some (exo a c (some dx)) ∧ H dx = some (exd dx [(f, y)])

mutual
def Rep (K : PySem.W.Frag) (μ : Mu) (H : Hp) : D → V → Prop
  | .non, v => v = .non
  | .bl b, v => v = .bl b
  | .int i, v => v = .int i
  | .str x, v => v = .str x
  | .tup ds, v => ∃ a vs, v = .ref a ∧ SqT K H a vs ∧ Reps K μ H ds vs
  | .lst ds, v => ∃ a vs, v = .ref a ∧ μ.fz a ∧ H a = some (.lst vs) ∧ Reps K μ H ds vs
  | .scr ds, v => ∃ a vs, v = .ref a ∧ ScrAt K H a vs ∧ Reps K μ H ds vs
  | .dic ks ds, v => ∃ a vs, v = .ref a ∧ μ.fz a ∧ ks.length = vs.length ∧ H a = some (.dK (ks.zip vs)) ∧ Reps K μ H ds vs
  | .ref k, v => ∃ a, v = .ref a ∧ μ.ad[k]? = some a
  | .exc C f ds, v => ∃ a c vs, v = .ref a ∧ ClsAt K C c ∧ ExAt H a c f vs ∧ Reps K μ H ds vs
def Reps (K : PySem.W.Frag) (μ : Mu) (H : Hp) : List D → List V → Prop
  | [], vs => vs = []
  | d :: ds, vs => ∃ v r, vs = v :: r ∧ Rep K μ H d v ∧ Reps K μ H ds r
end

section
variable {K : PySem.W.Frag} {μ μ' : Mu} {H H' : Hp}
theorem reps_nil {vs : List V} : Reps K μ H [] vs ↔ vs = [] := by simp only [Reps]
theorem reps_cons {d : D} {ds : List D} {vs : List V} : Reps K μ H (d :: ds) vs ↔ ∃ v r, vs = v :: r ∧ Rep K μ H d v ∧ Reps K μ H ds r := by simp only [Reps]
theorem Reps.nil : Reps K μ H [] [] := reps_nil.mpr rfl
theorem Reps.cons {d : D} {ds : List D} {v : V} {vs : List V} (h : Rep K μ H d v) (t : Reps K μ H ds vs) : Reps K μ H (d :: ds) (v :: vs) := reps_cons.mpr ⟨v, vs, rfl, h, t⟩
theorem Reps.length : ∀ {ds : List D} {vs : List V}, Reps K μ H ds vs → ds.length = vs.length
  | [], vs, h => by rw [reps_nil.mp h]; rfl
  | d :: ds, vs, h => by
    obtain ⟨v, r, rfl, _, t⟩ := reps_cons.mp h
    rw [List.length_cons, List.length_cons, Reps.length t]
theorem Reps.get : ∀ {ds : List D} {vs : List V} {i : Nat} {d : D}, Reps K μ H ds vs → ds[i]? = some d → ∃ v, vs[i]? = some v ∧ Rep K μ H d v
  | [], vs, i, d, h, e => by simp at e
  | d :: ds, vs, 0, x, h, e => by
    obtain ⟨v, r, rfl, p, t⟩ := reps_cons.mp h
    simp at e; subst e
    exact ⟨v, rfl, p⟩
  | d :: ds, vs, i + 1, x, h, e => by
    obtain ⟨v, r, rfl, p, t⟩ := reps_cons.mp h
    obtain ⟨u, e1, q⟩ := Reps.get (i := i) t (by simpa using e)
    exact ⟨u, by simpa using e1, q⟩
theorem Reps.append : ∀ {ds es : List D} {vs us : List V}, Reps K μ H ds vs → Reps K μ H es us → Reps K μ H (ds ++ es) (vs ++ us)
  | [], es, vs, us, h, g => by rw [reps_nil.mp h]; exact g
  | d :: ds, es, vs, us, h, g => by
    obtain ⟨v, r, rfl, p, t⟩ := reps_cons.mp h
    exact Reps.cons p (Reps.append t g)
theorem Reps.rep {ds : List D} {vs : List V} (h : Reps K μ H ds vs) : ∀ n : Nat, Reps K μ H (List.replicate n ds).flatten (List.replicate n vs).flatten
  | 0 => by rw [List.replicate_zero, List.replicate_zero, List.flatten_nil, List.flatten_nil]; exact Reps.nil
  | n + 1 => by
    rw [List.replicate_succ, List.replicate_succ, List.flatten_cons, List.flatten_cons]
    exact h.append (Reps.rep h n)
theorem Reps.take : ∀ {ds : List D} {vs : List V} (n : Nat), Reps K μ H ds vs → Reps K μ H (ds.take n) (vs.take n)
  | _, _, 0, _ => by simpa using Reps.nil
  | [], vs, n + 1, h => by rw [reps_nil.mp h]; exact Reps.nil
  | d :: ds, vs, n + 1, h => by
    obtain ⟨v, r, rfl, p, t⟩ := reps_cons.mp h
    exact Reps.cons p (Reps.take n t)
theorem Reps.drop : ∀ {ds : List D} {vs : List V} (n : Nat), Reps K μ H ds vs → Reps K μ H (ds.drop n) (vs.drop n)
  | _, _, 0, h => h
  | [], vs, n + 1, h => by rw [reps_nil.mp h]; exact Reps.nil
  | d :: ds, vs, n + 1, h => by
    obtain ⟨v, r, rfl, p, t⟩ := reps_cons.mp h
    exact Reps.drop n t
theorem Reps.set : ∀ {ds : List D} {vs : List V} (n : Nat) {d : D} {v : V}, Reps K μ H ds vs → Rep K μ H d v → Reps K μ H (ds.set n d) (vs.set n v)
  | [], vs, n, d, v, h, _ => by rw [reps_nil.mp h]; exact Reps.nil
  | e :: ds, vs, 0, d, v, h, q => by
    obtain ⟨u, r, rfl, p, t⟩ := reps_cons.mp h
    exact Reps.cons q t
  | e :: ds, vs, n + 1, d, v, h, q => by
    obtain ⟨u, r, rfl, p, t⟩ := reps_cons.mp h
    exact Reps.cons p (Reps.set n t q)
theorem Reps.reverse {ds : List D} {vs : List V} (h : Reps K μ H ds vs) : Reps K μ H ds.reverse vs.reverse := by
  induction ds generalizing vs with
  | nil => rw [reps_nil.mp h]; exact Reps.nil
  | cons d ds ih =>
    obtain ⟨v, r, rfl, p, t⟩ := reps_cons.mp h
    rw [List.reverse_cons, List.reverse_cons]
    exact (ih t).append (Reps.cons p Reps.nil)
end

/-! ### the store stands in the abstract heap -/
def RepM (K : PySem.W.Frag) (μ : Mu) (H : Hp) (a : Addr) : MO → Prop
  | .lst _ xs => ∃ vs, H a = some (.lst vs) ∧ Reps K μ H xs vs
structure Rl (K : PySem.W.Frag) (μ : Mu) (H : Hp) (S : Sto) : Prop where
  len : μ.ad.length = S.length
  nd : μ.ad.Nodup
  at_ : ∀ (k : Nat) (mo : MO) (a : Addr), S[k]? = some mo → μ.ad[k]? = some a → RepM K μ H a mo
  hid : ∀ a ∈ μ.hid, ∃ vs, H a = some (.lst vs)
  sep : ∀ a ∈ μ.hid, a ∉ μ.ad
/-- from the one state to the other: new objects of the store; all that is no object of the store stands -/
structure Ext (μ : Mu) (H : Hp) (μ' : Mu) (H' : Hp) : Prop where
  hid : ∃ ξ, μ'.hid = ξ ++ μ.hid ∧ ∀ a ∈ ξ, H a = none
  pre : ∃ ν, μ'.ad = μ.ad ++ ν ∧ ∀ a ∈ ν, H a = none
  keep : ∀ a o, a ∉ μ.ad → H a = some o → H' a = some o
  live : ∀ a, H a ≠ none → H' a ≠ none
section
variable {K : PySem.W.Frag} {μ μ' μ1 μ2 : Mu} {H H' H1 H2 : Hp} {S S' S1 : Sto}
theorem Rl.get (R : Rl K μ H S) {k : Nat} {mo : MO} (e : S[k]? = some mo) : ∃ a, μ.ad[k]? = some a ∧ RepM K μ H a mo := by
  have hk : k < S.length := (List.getElem?_eq_some_iff.mp e).1
  have hk' : k < μ.ad.length := by rw [R.len]; exact hk
  exact ⟨μ.ad[k], List.getElem?_eq_getElem hk', R.at_ k mo _ e (List.getElem?_eq_getElem hk')⟩
theorem Rl.mem (R : Rl K μ H S) {a : Addr} (h : a ∈ μ.ad) : ∃ vs, H a = some (.lst vs) := by
  obtain ⟨k, hk, e⟩ := List.mem_iff_getElem.mp h
  have hk' : k < S.length := by rw [← R.len]; exact hk
  have q := R.at_ k _ a (List.getElem?_eq_getElem hk') (by rw [List.getElem?_eq_getElem hk, e])
  revert q
  cases S[k] with
  | lst kp xs => intro q; obtain ⟨vs, e1, _⟩ := q; exact ⟨vs, e1⟩
theorem Ext.refl : Ext μ H μ H := ⟨⟨[], by simp, fun _ h => nomatch h⟩, ⟨[], by simp, fun _ h => nomatch h⟩, fun _ _ _ h => h, fun _ h => h⟩
theorem Ext.trans (a : Ext μ H μ1 H1) (b : Ext μ1 H1 μ2 H2) : Ext μ H μ2 H2 := by
  obtain ⟨ν, e1, n1⟩ := a.pre
  obtain ⟨ξ, e2, n2⟩ := b.pre
  obtain ⟨ν', e1', n1'⟩ := a.hid
  obtain ⟨ξ', e2', n2'⟩ := b.hid
  refine ⟨⟨ξ' ++ ν', by rw [e2', e1', List.append_assoc], fun c hc => ?_⟩, ⟨ν ++ ξ, by rw [e2, e1, List.append_assoc], fun c hc => ?_⟩, fun c o hc e => ?_, fun c hc => b.live c (a.live c hc)⟩
  · rcases List.mem_append.mp hc with h | h
    · cases q : H c with
      | none => rfl
      | some o => exact absurd (n2' c h) (a.live c (by rw [q]; simp))
    · exact n1' c h
  · rcases List.mem_append.mp hc with h | h
    · exact n1 c h
    · cases q : H c with
      | none => rfl
      | some o => exact absurd (n2 c h) (a.live c (by rw [q]; simp))
  · refine b.keep c o ?_ (a.keep c o hc e)
    rw [e1]
    intro h
    rcases List.mem_append.mp h with h | h
    · exact hc h
    · rw [n1 c h] at e; cases e
/-- where nothing but new things came -/
theorem Ext.grow (h : ∀ a o, H a = some o → H' a = some o) : Ext μ H μ H' := ⟨⟨[], by simp, fun _ h => nomatch h⟩, ⟨[], by simp, fun _ h => nomatch h⟩, fun a o _ e => h a o e, fun a e q => by
  cases z : H a with
  | none => exact e z
  | some o => rw [h a o z] at q; cases q⟩
theorem Ext.new {p : Addr} {o : HO} (hp : H p = none) : Ext μ H μ (upd H p o) := Ext.grow fun a u e => by
  rw [upd_ne (ne_of_none e hp)]; exact e
/-- frozen addresses stay so -/
theorem Ext.fz (E : Ext μ H μ' H') {a : Addr} {o : HO} (h : μ.fz a) (e : H a = some o) : μ'.fz a := by
  obtain ⟨ν, e1, n1⟩ := E.pre
  obtain ⟨ξ, e2, n2⟩ := E.hid
  refine ⟨?_, ?_⟩
  · rw [e1]
    intro q
    rcases List.mem_append.mp q with q | q
    · exact h.1 q
    · rw [n1 a q] at e; cases e
  · rw [e2]
    intro q
    rcases List.mem_append.mp q with q | q
    · rw [n2 a q] at e; cases e
    · exact h.2 q
theorem Ext.ad (E : Ext μ H μ' H') {k : Nat} {a : Addr} (h : μ.ad[k]? = some a) : μ'.ad[k]? = some a := by
  obtain ⟨ν, e1, _⟩ := E.pre
  rw [e1, List.getElem?_append_left (List.getElem?_eq_some_iff.mp h).1]
  exact h
theorem Ext.notin (E : Ext μ H μ' H') (R : Rl K μ H S) {a : Addr} {o : HO} (e : H a = some o) (n : ∀ vs, o ≠ .lst vs) : H' a = some o :=
  E.keep a o (fun q => by obtain ⟨vs, e2⟩ := R.mem q; rw [e] at e2; cases e2; exact n vs rfl) e
theorem Ext.sqT (E : Ext μ H μ' H') (R : Rl K μ H S) {a : Addr} {vs : List V} (h : SqT K H a vs) : SqT K H' a vs := by
  rcases h with (h | ⟨o, h⟩) | h
  · exact .inl (.inl (E.notin R h (by intro vs z; cases z)))
  · exact .inl (.inr ⟨o, E.notin R h (by intro vs z; cases z)⟩)
  · exact .inr h
theorem Ext.scr (E : Ext μ H μ' H') (R : Rl K μ H S) {a : Addr} {vs : List V} (h : ScrAt K H a vs) : ScrAt K H' a vs := by
  rcases h with ⟨o, h⟩ | h
  · exact .inl ⟨o, E.notin R h (by intro vs z; cases z)⟩
  · exact .inr h
theorem Ext.exAt (E : Ext μ H μ' H') (R : Rl K μ H S) {a c : Addr} {f : Str} {vs : List V} (h : ExAt H a c f vs) : ExAt H' a c f vs := by
  rcases h with ⟨e, h⟩ | ⟨y, dx, e, h1, h2⟩
  · exact .inl ⟨e, E.notin R h (by intro vs z; unfold exo at z; cases z)⟩
  · exact .inr ⟨y, dx, e, E.notin R h1 (by intro vs z; unfold exo at z; cases z), E.notin R h2 (by intro vs z; unfold exd at z; cases z)⟩
mutual
theorem Rep.mono (R : Rl K μ H S) (E : Ext μ H μ' H') : ∀ {d : D} {v : V}, Rep K μ H d v → Rep K μ' H' d v
  | .non, v, h => by simpa only [Rep] using h
  | .bl b, v, h => by simpa only [Rep] using h
  | .int i, v, h => by simpa only [Rep] using h
  | .str x, v, h => by simpa only [Rep] using h
  | .tup ds, v, h => by
    simp only [Rep] at h ⊢
    obtain ⟨a, vs, rfl, h1, h2⟩ := h
    exact ⟨a, vs, rfl, E.sqT R h1, Reps.mono R E h2⟩
  | .lst ds, v, h => by
    simp only [Rep] at h ⊢
    obtain ⟨a, vs, rfl, h0, h1, h2⟩ := h
    exact ⟨a, vs, rfl, E.fz h0 h1, E.keep a _ h0.1 h1, Reps.mono R E h2⟩
  | .scr ds, v, h => by
    simp only [Rep] at h ⊢
    obtain ⟨a, vs, rfl, h1, h2⟩ := h
    exact ⟨a, vs, rfl, E.scr R h1, Reps.mono R E h2⟩
  | .dic ks ds, v, h => by
    simp only [Rep] at h ⊢
    obtain ⟨a, vs, rfl, h0, h1, h2, h3⟩ := h
    exact ⟨a, vs, rfl, E.fz h0 h2, h1, E.keep a _ h0.1 h2, Reps.mono R E h3⟩
  | .ref k, v, h => by
    simp only [Rep] at h ⊢
    obtain ⟨a, rfl, h1⟩ := h
    exact ⟨a, rfl, E.ad h1⟩
  | .exc C f ds, v, h => by
    simp only [Rep] at h ⊢
    obtain ⟨a, c, vs, rfl, h1, h2, h3⟩ := h
    exact ⟨a, c, vs, rfl, h1, E.exAt R h2, Reps.mono R E h3⟩
theorem Reps.mono (R : Rl K μ H S) (E : Ext μ H μ' H') : ∀ {ds : List D} {vs : List V}, Reps K μ H ds vs → Reps K μ' H' ds vs
  | [], vs, h => by simpa only [Reps] using h
  | d :: ds, vs, h => by
    obtain ⟨v, r, rfl, p, t⟩ := reps_cons.mp h
    exact Reps.cons (Rep.mono R E p) (Reps.mono R E t)
end
theorem RepM.mono (R : Rl K μ H S) (E : Ext μ H μ' H') {a : Addr} {mo : MO} (h : RepM K μ H a mo) (k : H' a = H a) : RepM K μ' H' a mo := by
  cases mo with
  | lst kp xs =>
    obtain ⟨vs, e, r⟩ := h
    exact ⟨vs, k.trans e, Reps.mono R E r⟩
/-- all that was there stands -/
theorem Rl.grow (R : Rl K μ H S) (h : ∀ a o, H a = some o → H' a = some o) : Rl K μ H' S := by
  have E : Ext μ H μ H' := Ext.grow h
  refine ⟨R.len, R.nd, fun k mo a e1 e2 => ?_, fun a ha => ?_, R.sep⟩
  · have q := R.at_ k mo a e1 e2
    refine RepM.mono R E q ?_
    cases mo with
    | lst kp xs =>
      obtain ⟨vs, e, _⟩ := q
      rw [h _ _ e, e]
  · obtain ⟨vs, e⟩ := R.hid a ha
    exact ⟨vs, h _ _ e⟩
theorem Rl.new (R : Rl K μ H S) {p : Addr} {o : HO} (hp : H p = none) : Rl K μ (upd H p o) S := R.grow fun a u e => by
  rw [upd_ne (ne_of_none e hp)]; exact e
/-- a new object is no object of the store -/
theorem Rl.fz (R : Rl K μ H S) {p : Addr} (hp : H p = none) : μ.fz p := by
  refine ⟨fun q => ?_, fun q => ?_⟩
  · obtain ⟨vs, e⟩ := R.mem q; rw [hp] at e; cases e
  · obtain ⟨vs, e⟩ := R.hid p q; rw [hp] at e; cases e
/-- a new object of the store -/
def Mu.push (μ : Mu) (p : Addr) : Mu := ⟨μ.ad ++ [p], μ.hid⟩
theorem Ext.push {p : Addr} {o : HO} (hp : H p = none) : Ext μ H (μ.push p) (upd H p o) := by
  refine ⟨⟨[], by simp [Mu.push], fun _ h => nomatch h⟩, ⟨[p], rfl, fun a h => by rw [List.mem_singleton.mp h]; exact hp⟩, fun a u _ e => by rw [upd_ne (ne_of_none e hp)]; exact e, fun a e => ?_⟩
  by_cases h : a = p
  · subst h; rw [upd_same]; simp
  · rw [upd_ne h]; exact e
theorem Rl.push (R : Rl K μ H S) {p : Addr} {kp : Bool} {xs : List D} {vs : List V} (hp : H p = none) (h : Reps K μ H xs vs) : Rl K (μ.push p) (upd H p (.lst vs)) (S ++ [.lst kp xs]) := by
  have E : Ext μ H (μ.push p) (upd H p (.lst vs)) := Ext.push hp
  have hz := R.fz hp
  refine ⟨?_, ?_, fun k mo a e1 e2 => ?_, fun a ha => ?_, fun a ha => ?_⟩
  · show (μ.ad ++ [p]).length = _
    rw [List.length_append, List.length_append, R.len]; rfl
  · show (μ.ad ++ [p]).Nodup
    rw [List.nodup_append]
    exact ⟨R.nd, by simp, fun a ha b hb => by rw [List.mem_singleton.mp hb]; rintro rfl; exact hz.1 ha⟩
  · have e2' : (μ.ad ++ [p])[k]? = some a := e2
    by_cases hk : k < S.length
    · rw [List.getElem?_append_left hk] at e1
      rw [List.getElem?_append_left (by rw [R.len]; exact hk)] at e2'
      refine RepM.mono R E (R.at_ k mo a e1 e2') ?_
      have : a ∈ μ.ad := List.mem_of_getElem? e2'
      rw [upd_ne (show a ≠ p from fun z => hz.1 (z ▸ this))]
    · rw [List.getElem?_append_right (by omega)] at e1
      rw [List.getElem?_append_right (by rw [R.len]; omega), R.len] at e2'
      cases hj : k - S.length with
      | zero =>
        rw [hj] at e1 e2'
        simp at e1 e2'
        subst e1; subst e2'
        exact ⟨vs, upd_same, Reps.mono R E h⟩
      | succ j => rw [hj] at e1; simp at e1
  · obtain ⟨us, e⟩ := R.hid a ha
    exact ⟨us, by rw [upd_ne (ne_of_none e hp)]; exact e⟩
  · show a ∉ μ.ad ++ [p]
    intro q
    rcases List.mem_append.mp q with q | q
    · exact R.sep a ha q
    · rw [List.mem_singleton.mp q] at ha; exact hz.2 ha
/-- an object of the store is changed -/
theorem Ext.put {a : Addr} {o : HO} (ha : a ∈ μ.ad) : Ext μ H μ (upd H a o) := by
  refine ⟨⟨[], by simp, fun _ h => nomatch h⟩, ⟨[], by simp, fun _ h => nomatch h⟩, fun b u hb e => ?_, fun b e => ?_⟩
  · rw [upd_ne (show b ≠ a from fun z => hb (by rw [z]; exact ha))]; exact e
  · by_cases h : b = a
    · subst h; rw [upd_same]; simp
    · rw [upd_ne h]; exact e
theorem Rl.put (R : Rl K μ H S) {k : Nat} {a : Addr} {kp : Bool} {xs : List D} {vs : List V} (ha : μ.ad[k]? = some a) (h : Reps K μ H xs vs) : Rl K μ (upd H a (.lst vs)) (S.set k (.lst kp xs)) := by
  have hm : a ∈ μ.ad := List.mem_of_getElem? ha
  have E : Ext μ H μ (upd H a (.lst vs)) := Ext.put hm
  refine ⟨by rw [List.length_set]; exact R.len, R.nd, fun j mo b e1 e2 => ?_, fun b hb => ?_, R.sep⟩
  · by_cases hj : k = j
    · subst hj
      rw [ha] at e2; cases e2
      have hk : k < S.length := by rw [← R.len]; exact (List.getElem?_eq_some_iff.mp ha).1
      rw [List.getElem?_set_self hk] at e1
      cases e1
      exact ⟨vs, upd_same, Reps.mono R E h⟩
    · rw [List.getElem?_set_ne hj] at e1
      refine RepM.mono R E (R.at_ j mo b e1 e2) (upd_ne fun z => ?_)
      subst z
      obtain ⟨hk, e3⟩ := List.getElem?_eq_some_iff.mp ha
      obtain ⟨hj2, e4⟩ := List.getElem?_eq_some_iff.mp e2
      exact hj (List.getElem_inj R.nd |>.mp (e3.trans e4.symm))
  · obtain ⟨us, e⟩ := R.hid b hb
    exact ⟨us, by rw [upd_ne (show b ≠ a from fun z => R.sep b hb (by rw [z]; exact hm))]; exact e⟩
end

/-! ### names' values -/
def RepEnv (K : PySem.W.Frag) (μ : Mu) (H : Hp) (σ : L2.St) (δ : List (Option D)) : Prop :=
  σ.length = δ.length ∧ ∀ (i : Nat) (d : D), δ[i]? = some (some d) → ∃ v, σ[i]? = some (some v) ∧ Rep K μ H d v
section
variable {K : PySem.W.Frag} {μ μ' : Mu} {H H' : Hp} {S : Sto} {σ : L2.St} {δ : List (Option D)}
theorem RepEnv.mono (R : Rl K μ H S) (E : Ext μ H μ' H') (h : RepEnv K μ H σ δ) : RepEnv K μ' H' σ δ :=
  ⟨h.1, fun i d e => let ⟨v, e1, r⟩ := h.2 i d e; ⟨v, e1, r.mono R E⟩⟩
theorem RepEnv.set (h : RepEnv K μ H σ δ) {i : Nat} {d : D} {v : V} (r : Rep K μ H d v) : RepEnv K μ H (σ.set i (some v)) (δ.set i (some d)) := by
  refine ⟨by rw [List.length_set, List.length_set]; exact h.1, fun j e q => ?_⟩
  by_cases hj : i = j
  · subst hj
    have hi : i < δ.length := by
      have := (List.getElem?_eq_some_iff.mp q).1
      rwa [List.length_set] at this
    rw [List.getElem?_set_self hi] at q
    cases q
    exact ⟨v, by rw [List.getElem?_set_self (by rw [h.1]; exact hi)], r⟩
  · rw [List.getElem?_set_ne hj] at q
    rw [List.getElem?_set_ne hj]
    exact h.2 j e q
end

/-! ### a hidden list -/
def Mu.hide (μ : Mu) (p : Addr) : Mu := ⟨μ.ad, p :: μ.hid⟩
def Mu.show (μ : Mu) (h : List Addr) : Mu := ⟨μ.ad, h⟩
section
variable {K : PySem.W.Frag} {μ μ' : Mu} {H H' : Hp} {S : Sto} {p : Addr}
theorem SqT.keep (h : ∀ xs, H p ≠ some (.tup xs)) (h' : ∀ o u, H p ≠ some (.frz o u)) {o : HO} {a : Addr} {vs : List V} (q : SqT K H a vs) : SqT K (upd H p o) a vs := by
  rcases q with (q | ⟨ob, q⟩) | q
  · exact .inl (.inl (by rw [upd_ne (show a ≠ p from fun z => h _ (z ▸ q))]; exact q))
  · exact .inl (.inr ⟨ob, by rw [upd_ne (show a ≠ p from fun z => h' _ _ (z ▸ q))]; exact q⟩)
  · exact .inr q
theorem ExAt.off {vs0 : List V} {o : HO} (hl : H p = some (.lst vs0)) {a c : Addr} {f : Str} {vs : List V} (h : ExAt H a c f vs) : ExAt (upd H p o) a c f vs := by
  have no : ∀ {b : Addr} {u : HO}, H b = some u → (∀ vs, u ≠ .lst vs) → upd H p o b = some u := fun {b u} e n => by
    rw [upd_ne (show b ≠ p from fun z => by rw [z, hl] at e; exact n _ (Option.some.inj e).symm)]; exact e
  rcases h with ⟨e, h⟩ | ⟨y, dx, e, h1, h2⟩
  · exact .inl ⟨e, no h (by intro vs z; unfold exo at z; cases z)⟩
  · exact .inr ⟨y, dx, e, no h1 (by intro vs z; unfold exo at z; cases z), no h2 (by intro vs z; unfold exd at z; cases z)⟩
mutual
/-- what does not lean on p stands where p is changed -/
theorem Rep.off {vs0 : List V} {o : HO} (hp : ¬ μ.fz p) (hl : H p = some (.lst vs0)) : ∀ {d : D} {v : V}, Rep K μ H d v → Rep K μ (upd H p o) d v
  | .non, v, h => by simpa only [Rep] using h
  | .bl b, v, h => by simpa only [Rep] using h
  | .int i, v, h => by simpa only [Rep] using h
  | .str x, v, h => by simpa only [Rep] using h
  | .tup ds, v, h => by
    simp only [Rep] at h ⊢
    obtain ⟨a, vs, rfl, h1, h2⟩ := h
    exact ⟨a, vs, rfl, SqT.keep (by rw [hl]; intro xs z; cases z) (by rw [hl]; intro ob u z; cases z) h1, Reps.off hp hl h2⟩
  | .lst ds, v, h => by
    simp only [Rep] at h ⊢
    obtain ⟨a, vs, rfl, h0, h1, h2⟩ := h
    exact ⟨a, vs, rfl, h0, by rw [upd_ne (show a ≠ p from fun z => hp (z ▸ h0))]; exact h1, Reps.off hp hl h2⟩
  | .scr ds, v, h => by
    simp only [Rep] at h ⊢
    obtain ⟨a, vs, rfl, h1, h2⟩ := h
    refine ⟨a, vs, rfl, ?_, Reps.off hp hl h2⟩
    rcases h1 with ⟨ob, h1⟩ | h1
    · exact .inl ⟨ob, by rw [upd_ne (show a ≠ p from fun z => by rw [z, hl] at h1; cases h1)]; exact h1⟩
    · exact .inr h1
  | .dic ks ds, v, h => by
    simp only [Rep] at h ⊢
    obtain ⟨a, vs, rfl, h0, h1, h2, h3⟩ := h
    exact ⟨a, vs, rfl, h0, h1, by rw [upd_ne (show a ≠ p from fun z => hp (z ▸ h0))]; exact h2, Reps.off hp hl h3⟩
  | .ref k, v, h => by
    simp only [Rep] at h ⊢
    exact h
  | .exc C f ds, v, h => by
    simp only [Rep] at h ⊢
    obtain ⟨a, c, vs, rfl, h1, h2, h3⟩ := h
    exact ⟨a, c, vs, rfl, h1, h2.off hl, Reps.off hp hl h3⟩
theorem Reps.off {vs0 : List V} {o : HO} (hp : ¬ μ.fz p) (hl : H p = some (.lst vs0)) : ∀ {ds : List D} {vs : List V}, Reps K μ H ds vs → Reps K μ (upd H p o) ds vs
  | [], vs, h => by simpa only [Reps] using h
  | d :: ds, vs, h => by
    obtain ⟨v, r, rfl, q, t⟩ := reps_cons.mp h
    exact Reps.cons (Rep.off hp hl q) (Reps.off hp hl t)
end
mutual
/-- fewer hidden -/
theorem Rep.shown {hs : List Addr} (hh : ∀ a ∈ hs, a ∈ μ.hid) : ∀ {d : D} {v : V}, Rep K μ H d v → Rep K (μ.show hs) H d v
  | .non, v, h => by simpa only [Rep] using h
  | .bl b, v, h => by simpa only [Rep] using h
  | .int i, v, h => by simpa only [Rep] using h
  | .str x, v, h => by simpa only [Rep] using h
  | .tup ds, v, h => by
    simp only [Rep] at h ⊢
    obtain ⟨a, vs, rfl, h1, h2⟩ := h
    exact ⟨a, vs, rfl, h1, Reps.shown hh h2⟩
  | .lst ds, v, h => by
    simp only [Rep] at h ⊢
    obtain ⟨a, vs, rfl, h0, h1, h2⟩ := h
    exact ⟨a, vs, rfl, ⟨h0.1, fun z => h0.2 (hh a z)⟩, h1, Reps.shown hh h2⟩
  | .scr ds, v, h => by
    simp only [Rep] at h ⊢
    obtain ⟨a, vs, rfl, h1, h2⟩ := h
    exact ⟨a, vs, rfl, h1, Reps.shown hh h2⟩
  | .dic ks ds, v, h => by
    simp only [Rep] at h ⊢
    obtain ⟨a, vs, rfl, h0, h1, h2, h3⟩ := h
    exact ⟨a, vs, rfl, ⟨h0.1, fun z => h0.2 (hh a z)⟩, h1, h2, Reps.shown hh h3⟩
  | .ref k, v, h => by
    simp only [Rep] at h ⊢
    exact h
  | .exc C f ds, v, h => by
    simp only [Rep] at h ⊢
    obtain ⟨a, c, vs, rfl, h1, h2, h3⟩ := h
    exact ⟨a, c, vs, rfl, h1, h2, Reps.shown hh h3⟩
theorem Reps.shown {hs : List Addr} (hh : ∀ a ∈ hs, a ∈ μ.hid) : ∀ {ds : List D} {vs : List V}, Reps K μ H ds vs → Reps K (μ.show hs) H ds vs
  | [], vs, h => by simpa only [Reps] using h
  | d :: ds, vs, h => by
    obtain ⟨v, r, rfl, q, t⟩ := reps_cons.mp h
    exact Reps.cons (Rep.shown hh q) (Reps.shown hh t)
end
theorem RepM.off {vs0 : List V} {o : HO} (hp : ¬ μ.fz p) (hl : H p = some (.lst vs0)) {a : Addr} {mo : MO} (ha : a ≠ p) (h : RepM K μ H a mo) : RepM K μ (upd H p o) a mo := by
  cases mo with
  | lst kp xs =>
    obtain ⟨vs, e, r⟩ := h
    exact ⟨vs, by rw [upd_ne ha]; exact e, Reps.off hp hl r⟩
theorem RepM.shown {hs : List Addr} (hh : ∀ a ∈ hs, a ∈ μ.hid) {a : Addr} {mo : MO} (h : RepM K μ H a mo) : RepM K (μ.show hs) H a mo := by
  cases mo with
  | lst kp xs =>
    obtain ⟨vs, e, r⟩ := h
    exact ⟨vs, e, Reps.shown hh r⟩
/-- the hidden list is changed -/
theorem Rl.off (R : Rl K μ H S) {vs vs0 : List V} (hp : p ∈ μ.hid) (hl : H p = some (.lst vs0)) : Rl K μ (upd H p (.lst vs)) S := by
  have hz : ¬ μ.fz p := fun z => z.2 hp
  refine ⟨R.len, R.nd, fun k mo a e1 e2 => RepM.off hz hl (fun z => R.sep p hp (z ▸ List.mem_of_getElem? e2)) (R.at_ k mo a e1 e2), fun a ha => ?_, R.sep⟩
  by_cases h : a = p
  · exact ⟨vs, by rw [h, upd_same]⟩
  · obtain ⟨us, e⟩ := R.hid a ha
    exact ⟨us, by rw [upd_ne h]; exact e⟩
theorem Rl.shown (R : Rl K μ H S) {hs : List Addr} (hh : ∀ a ∈ hs, a ∈ μ.hid) : Rl K (μ.show hs) H S :=
  ⟨R.len, R.nd, fun k mo a e1 e2 => RepM.shown hh (R.at_ k mo a e1 e2), fun a ha => R.hid a (hh a ha), fun a ha => R.sep a (hh a ha)⟩
/-- a new list is hidden -/
theorem Ext.hide {o : HO} (hp : H p = none) : Ext μ H (μ.hide p) (upd H p o) := by
  refine ⟨⟨[p], rfl, fun a h => by rw [List.mem_singleton.mp h]; exact hp⟩, ⟨[], by simp [Mu.hide], fun _ h => nomatch h⟩, fun a u _ e => by rw [upd_ne (ne_of_none e hp)]; exact e, fun a e => ?_⟩
  by_cases h : a = p
  · subst h; rw [upd_same]; simp
  · rw [upd_ne h]; exact e
theorem Rl.hide (R : Rl K μ H S) {vs : List V} (hp : H p = none) : Rl K (μ.hide p) (upd H p (.lst vs)) S := by
  have E : Ext μ H (μ.hide p) (upd H p (.lst vs)) := Ext.hide hp
  have hz := R.fz hp
  refine ⟨R.len, R.nd, fun k mo a e1 e2 => RepM.mono R E (R.at_ k mo a e1 e2) ?_, fun a ha => ?_, fun a ha => ?_⟩
  · have : a ∈ μ.ad := List.mem_of_getElem? e2
    rw [upd_ne (show a ≠ p from fun z => hz.1 (z ▸ this))]
  · rcases List.mem_cons.mp ha with h | h
    · exact ⟨vs, by rw [h, upd_same]⟩
    · obtain ⟨us, e⟩ := R.hid a h
      exact ⟨us, by rw [upd_ne (ne_of_none e hp)]; exact e⟩
  · rcases List.mem_cons.mp ha with h | h
    · rw [h]; exact hz.1
    · exact R.sep a h
end
end Dn

set_option maxHeartbeats 4000000
namespace Dn
open PySem PySem.Spec PyProof.Rows L2

/-! ### the core: expressions, targets, what is walked, statements -/
mutual
inductive C where
  | non | bl (b : Bool) | int (i : Int) | str (x : Str)
  | var (i : Nat)
  | glo (x : Str)
  | tup (es : List C)
  /-- own: none: frozen; some keep: an object of the store -/
  | lst (own : Option Bool) (es : List C)
  | dic0
  | dic1 (k : Str) (i : Int)
  /-- list(zip(a, b)), tuple(zip(a, b)) -/
  | zipV (t : Bool) (own : Option Bool) (a b : C)
  /-- a display of a tuple, some parts starred -/
  | tupS (es : List C) (fl : List Bool)
  /-- e in X, X[e]: X a dict of the module from texts to whole numbers -/
  | din (e : C) (x : Str) (kvs : List (Str × Int))
  | dix (x : Str) (kvs : List (Str × Int)) (e : C)
  /-- C(e), C(f=e), C(): an exception of an own class -/
  | mkx (cn f : Str) (es : List C)
  /-- e.f, e an exception of an own class -/
  | fld (e : C) (f : Str) (tab : List (Str × Option Str))
  /-- isinstance(e, T): cs those of the classes of all that stand under T -/
  | isx (e : C) (T : Str) (cs : List Str) (tab : List (Str × Option Str))
  /-- a + b of lists, the sum an object of the store -/
  | cat (kp : Bool) (a b : C)
  | bin (o : Operator) (a b : C)
  | neg (a : C)
  | not (a : C)
  | cmp (o : CmpOp) (a b : C)
  | cmp2 (o p : CmpOp) (a b c : C)
  | and (a b : C)
  | or (a b : C)
  | ite (c a b : C)
  | call (f : Str) (es : List C)
  | callK (f : Str) (es : List C) (ks : List Str) (kes : List C)
  | blt (f : String) (es : List C)
  | isi (e : C) (T : String)
  | meth (m : String) (o : C) (es : List C)
  | ix (a b : C)
  | sl (a lo hi : C)
  | rev (a : C)
  | lc (elt : C) (t : CT) (it : CI) (ifs : List C) (own : List Nat)
inductive CT where
  | name (i : Nat)
  | tup (ts : List CT)
  | sub (o i : C)
inductive CI where
  | seq (e : C)
  | rng1 (a : C)
  | rng2 (a b : C)
  | enm (e : C)
  | zip (a b : C)
end
inductive CS where
  | expr (e : C)
  | asg (t : CT) (e : C)
  | par (i j : Nat) (a b : C)
  | par3 (i j l : Nat) (a b c : C)
  | ret (e : C)
  | retN
  | ife (c : C) (a b : List CS)
  | for_ (t : CT) (it : CI) (body : List CS)
  | whl (c : C) (body : List CS)
  | aug (i : Nat) (o : Operator) (e : C)
  | pass | brk | cont
  | never

abbrev En := List (Option D)

/-! ### operations -/
def items (S : Sto) : D → Option (List D)
  | .tup xs => some xs
  | .lst xs => some xs
  | .scr xs => some xs
  | .ref k => (S[k]?).map MO.xs
  | _ => none
def litems (S : Sto) : D → Option (List D)
  | .lst xs => some xs
  | .scr xs => some xs
  | .ref k => (S[k]?).map MO.xs
  | _ => none
/-- an object of the store as the list that it is now -/
def dr (S : Sto) : D → D
  | .ref k => match S[k]? with
    | some mo => .lst mo.xs
    | none => .ref k
  | d => d
mutual
def pd : D → Option PyData
  | .non => some .none
  | .bl b => some (.bool b)
  | .int i => some (.int i)
  | .str x => some (.str x)
  | .tup xs => (pds xs).map .tuple
  | .lst xs => (pds xs).map .list
  | .scr xs => (pds xs).map .list
  | .dic _ _ => none
  | .ref _ => none
  | .exc _ _ _ => none
def pds : List D → Option (List PyData)
  | [] => some []
  | d :: ds => (pd d).bind fun p => (pds ds).map fun r => p :: r
end
def kP : Key → PyData
  | .inl i => .int i
  | .inr x => .str x
mutual
/-- what repr shows; dicts too -/
def rp : D → Option PyData
  | .non => some .none
  | .bl b => some (.bool b)
  | .int i => some (.int i)
  | .str x => some (.str x)
  | .tup xs => (rps xs).map .tuple
  | .lst xs => (rps xs).map .list
  | .scr xs => (rps xs).map .list
  | .dic ks xs => (rps xs).map fun ps => .dict ((ks.map kP).zip ps)
  | .ref _ => none
  | .exc _ _ _ => none
def rps : List D → Option (List PyData)
  | [] => some []
  | d :: ds => (rp d).bind fun p => (rps ds).map fun r => p :: r
end
def intsD : List D → Option (List Int)
  | [] => some []
  | .int i :: r => (intsD r).map fun q => i :: q
  | _ :: _ => none
def blsD : List D → Option (List Bool)
  | [] => some []
  | .bl b :: r => (blsD r).map fun q => b :: q
  | _ :: _ => none
def bI (b : Bool) : Int := if b = true then 1 else 0
def mulOk (i j : Int) : Bool := decide (i.natAbs.log2 + j.natAbs.log2 < 1000000)
def divOk (j : Int) : Bool := decide (0 < j) && decide (j.natAbs.log2 < 9000)
def divNk (j : Int) : Bool := decide (j < 0) && decide (j.natAbs.log2 < 9000)
def binD : Operator → D → D → Option D
  | .Add, .int i, .int j => some (.int (i + j))
  | .Sub, .int i, .int j => some (.int (i - j))
  | .Mult, .int i, .int j => if mulOk i j = true then some (.int (i * j)) else none
  | .FloorDiv, .int i, .int j => if divOk j = true then some (.int (i / j)) else if divNk j = true then some (.int (i.fdiv j)) else none
  | .Mod, .int i, .int j => if 0 < j then some (.int (i % j)) else none
  | .Pow, .int i, .int j => if 0 ≤ j ∧ j ≤ 1000000 ∧ i.natAbs < 2 ^ 64 then some (.int (i ^ j.toNat)) else none
  | .Add, .str x, .str y => if x.length + y.length ≤ 16777216 then some (.str (x ++ y)) else none
  | .Add, .tup xs, .tup ys => if xs.length + ys.length ≤ 16777216 then some (.tup (xs ++ ys)) else none
  | .Add, .lst xs, .lst ys => if xs.length + ys.length ≤ 16777216 then some (.lst (xs ++ ys)) else none
  | .Mult, .lst xs, .int n => if 0 ≤ n ∧ n ≤ 16777216 ∧ xs.length * n.toNat ≤ 16777216 then some (.lst (List.replicate n.toNat xs).flatten) else none
  | .Add, .int i, .bl b => some (.int (i + bI b))
  | .Sub, .int i, .bl b => some (.int (i - bI b))
  | .Mult, .int i, .bl b => some (.int (i * bI b))
  | .Add, .bl a, .int j => some (.int (bI a + j))
  | .Sub, .bl a, .int j => some (.int (bI a - j))
  | .Mult, .bl a, .int j => some (.int (bI a * j))
  | .Add, .bl a, .bl b => some (.int (bI a + bI b))
  | .Sub, .bl a, .bl b => some (.int (bI a - bI b))
  | .Mult, .bl a, .bl b => some (.int (bI a * bI b))
  | _, _, _ => none
def flatD : D → Bool
  | .non => true
  | .bl _ => true
  | .int _ => true
  | .str _ => true
  | _ => false
def vD : D → V
  | .non => .non
  | .bl b => .bl b
  | .int i => .int i
  | .str x => .str x
  | _ => .ref 0
def eqP (d e : D) : Option Bool := (pd d).bind fun p => (pd e).bind fun q => if (SeqAt.shaped p && SeqAt.shaped q) = true then some (PyData.eqv p q) else none
def eqD (d e : D) : Option Bool :=
  if (flatD d && flatD e && scal (vD d) (vD e)) = true then some (decide (vD d = vD e)) else match d, e with
    | .tup xs, .tup [] => some xs.isEmpty
    | .tup [], .tup ys => some ys.isEmpty
    | d, e => eqP d e
def isTup : D → Bool
  | .tup _ => true
  | _ => false
/-- y: a list or tuple; x within -/
def inD (S : Sto) (d e : D) : Option Bool :=
  (items S e).bind fun xs => if (flatD d && xs.all flatD) = true then some (xs.any fun y => eqV (vD y) (vD d)) else
    (pd d).bind fun p => (pds xs).bind fun qs => if (SeqAt.shaped p && SeqAt.shaped (.list qs)) = true then some (qs.any fun z => PyData.eqv z p) else none
def cmpD (S : Sto) (o : CmpOp) (d e : D) : Option Bool :=
  match o with
  | .Eq => eqD (dr S d) (dr S e)
  | .NotEq => (eqD (dr S d) (dr S e)).map (!·)
  | .Lt => match d, e with | .int i, .int j => some (decide (i < j)) | _, _ => none
  | .LtE => match d, e with | .int i, .int j => some (decide (i ≤ j)) | _, _ => none
  | .Gt => match d, e with | .int i, .int j => some (decide (j < i)) | _, _ => none
  | .GtE => match d, e with | .int i, .int j => some (decide (j ≤ i)) | _, _ => none
  | .In => inD S d e
  | .NotIn => (inD S d e).map (!·)
  | .Is => match e with | .non => some (match d with | .non => true | _ => false) | _ => none
  | .IsNot => match e with | .non => some (match d with | .non => false | _ => true) | _ => none
def truD (S : Sto) : D → Option Bool
  | .non => some false
  | .bl b => some b
  | .int i => some (i != 0)
  | .str x => if x.length ≤ 16777216 then some ((x.length : Int) != 0) else none
  | .tup xs => some (!xs.isEmpty)
  | .lst xs => some (!xs.isEmpty)
  | .scr xs => some (!xs.isEmpty)
  | .ref k => (S[k]?).map fun mo => !mo.xs.isEmpty
  | _ => none
def tyD : D → String
  | .non => "NoneType"
  | .bl _ => "bool"
  | .int _ => "int"
  | .str _ => "str"
  | .tup _ => "tuple"
  | .lst _ => "list"
  | .scr _ => "list"
  | .dic _ _ => "dict"
  | .ref _ => "list"
  | .exc _ _ _ => ""
def ixD (S : Sto) (d e : D) : Option D := match e with
  | .int i => (items S d).bind fun xs => atI xs i
  | _ => none
def cutD (xs : List D) (lo hi : Option Int) : List D := (xs.drop (HT.sIx xs.length 0 lo)).take (HT.sIx xs.length xs.length hi - HT.sIx xs.length 0 lo)
def slD (S : Sto) (d : D) (lo hi : Option Int) : Option D := match dr S d with
  | .tup xs => some (.tup (cutD xs lo hi))
  | .lst xs => some (.lst (cutD xs lo hi))
  | .scr xs => some (.lst (cutD xs lo hi))
  | _ => none
/-- b: the part is absent -/
def partD : Bool → D → Option (Option Int)
  | true, _ => some none
  | false, .int i => some (some i)
  | false, _ => none
def isNonC : C → Bool
  | .non => true
  | _ => false
/-! sorted(xs) -/
def tupC : PyData → Bool
  | .tuple (_ :: _) => true
  | _ => false
def atomC : PyData → Bool
  | .int _ => true
  | .str _ => true
  | _ => false
def srtOk (ps : List PyData) : Bool := ps.all (fun a => ps.all fun b => PySem.W.alike a b) && (ps.all tupC || ps.all atomC) && ps.all fun p => decide (p.depth ≤ 48)
/-- the key of a datum -/
def kD (d : D) : List (Int ⊕ List Nat) := match pd d with
  | some p => PySem.W.keyToks p
  | none => []
def srtD (xs : List D) : List D := xs.mergeSort (PySem.W.sortLe (PyProof.Rows.listOrd PyProof.Rows.itemOrd) false kD)
def bltD (S : Sto) (f : String) (args : List D) : Option D :=
  if f = "len" then match args with
    | [.str x] => if x.length ≤ 16777216 then some (.int x.length) else none
    | [d] => (items S d).map fun xs => .int xs.length
    | _ => none
  else if f = "abs" then match args with
    | [.int i] => some (.int (if i < 0 then -i else i))
    | _ => none
  else if f = "int" then match args with
    | [.int i] => some (.int i)
    | [.bl b] => some (.int (if b then 1 else 0))
    | _ => none
  else if f = "all" then match args with
    | [d] => (litems S d).bind fun xs => (blsD xs).map fun bs => .bl (bs.all id)
    | _ => none
  else if f = "any" then match args with
    | [d] => (litems S d).bind fun xs => (blsD xs).map fun bs => .bl (bs.any id)
    | _ => none
  else if f = "tuple" then match args with
    | [d] => (items S d).map .tup
    | _ => none
  else if f = "list" then match args with
    | [d] => (items S d).map .lst
    | _ => none
  else if f = "divmod" then match args with
    | [.int i, .int j] => if 0 < j ∧ j < 1073741824 then some (.tup [.int (i / j), .int (i % j)]) else none
    | _ => none
  else if f = "min" then match args with
    | [.int i, .int j] => some (.int (if j < i then j else i))
    | _ => none
  else if f = "max" then match args with
    | [.int i, .int j] => some (.int (if j > i then j else i))
    | [d] => (litems S d).bind fun xs => (intsD xs).bind fun ns => match ns with
      | [] => none
      | n :: r => some (.int (r.foldl max n))
    | _ => none
  else if f = "gcd" then match args with
    | [.int i, .int j] => some (.int ((Nat.gcd i.natAbs j.natAbs : Nat) : Int))
    | _ => none
  else if f = "repr" then match args with
    | [d] => (rp (dr S d)).bind fun p => if (p.showable && decide (p.depth ≤ 64) && decide (p.shown.length ≤ 16777216)) = true then some (.str p.shown) else none
    | _ => none
  else if f = "str" then match args with
    | [.int i] => if i.natAbs.log2 < 1920 then some (.str (toString i : String)) else none
    | [.str x] => some (.str x)
    | [.bl b] => some (.str (if b = true then ("True" : Str) else ("False" : Str)))
    | _ => none
  else if f = "sorted" then match args with
    | [d] => (litems S d).bind fun xs => (pds xs).bind fun ps => if srtOk ps = true then some (.lst (srtD xs)) else none
    | _ => none
  else if f = "sum" then match args with
    | [d] => (litems S d).bind fun xs => (intsD xs).map fun ns => .int ns.sum
    | _ => none
  else none
def methD (S : Sto) (m : String) (o : D) (args : List D) : Option (D × Sto) :=
  if m = "append" then match o, args with
    | .ref k, [x] => match S[k]? with
      | some (.lst kp xs) => if xs.length < 16777216 then some (.non, S.set k (.lst kp (xs ++ [x]))) else none
      | none => none
    | _, _ => none
  else if m = "insert" then match o, args with
    | .ref k, [.int i, x] => match S[k]? with
      | some (.lst kp xs) => if xs.length < 16777216 ∧ 0 ≤ i ∧ i < 9223372036854775808 then some (.non, S.set k (.lst kp (xs.take i.toNat ++ [x] ++ xs.drop i.toNat))) else none
      | none => none
    | _, _ => none
  else none
/-- o[i] = d -/
def setD (S : Sto) (o i d : D) : Option Sto := match o, i with
  | .ref k, .int j => match S[k]? with
    | some (.lst kp xs) => (ixN xs.length j).map fun n => S.set k (.lst kp (xs.set n d))
    | none => none
  | _, _ => none

/-! ### evaluation -/
/-- what is walked: its items, the object of the store that holds them -/
structure Wk where
  xs : List D
  src : Option Nat
def okW (w : Wk) (S : Sto) : Prop := ∀ k, w.src = some k → ∃ mo, S[k]? = some mo ∧ mo.xs = w.xs
/-- the text's tables: the module's data; what a call does -/
structure GE where
  data : List (Str × D)
  call : Str → List D → Sto → Option (D × Sto)
  /-- f with so many arguments and keywords: the arguments' places -/
  kw : Str → Nat → List Str → Option (List Nat)
def wipeD (δ : En) : List Nat → En
  | [] => δ
  | v :: vs => (wipeD δ vs).set v none
open Classical in
noncomputable def loopLc (w : Wk) (turn : D → Sto → Option (Option D × Sto)) : List D → Sto → Option (List D × Sto)
  | [], S => if okW w S then some ([], S) else none
  | x :: r, S => if okW w S then (turn x S).bind fun p => (loopLc w turn r p.2).map fun q => (p.1.toList ++ q.1, q.2) else none
def rngD (lo : Int) (n : Nat) : List D := (List.range n).map fun (i : Nat) => D.int (lo + i)
def enmD : Nat → List D → List D
  | _, [] => []
  | n, x :: r => .tup [.int n, x] :: enmD (n + 1) r
def zipD : List D → List D → List D
  | x :: r, y :: q => .tup [x, y] :: zipD r q
  | _, _ => []
def sprD : List D → List Bool → Option (List D)
  | [], [] => some []
  | d :: ds, b :: bs => (if b = true then (match d with
      | .tup xs => some xs
      | _ => none) else some [d]).bind fun xs => (sprD ds bs).map fun r => xs ++ r
  | _, _ => none
def srcOf : D → Option Nat
  | .ref k => some k
  | _ => none
def smallI (i : Int) : Bool := decide (-(2 ^ 62) ≤ i) && decide (i < 2 ^ 62)
def pick (xs : List D) : List Nat → Option (List D)
  | [] => some []
  | i :: r => (xs[i]?).bind fun x => (pick xs r).map fun q => x :: q
mutual
noncomputable def evE (G : GE) : C → En → Sto → Option (D × Sto)
  | .non, _, S => some (.non, S)
  | .bl b, _, S => some (.bl b, S)
  | .int i, _, S => some (.int i, S)
  | .str x, _, S => some (.str x, S)
  | .var i, δ, S => match δ[i]? with
    | some (some d) => some (d, S)
    | _ => none
  | .glo x, _, S => (G.data.lookup x).map fun d => (d, S)
  | .tup es, δ, S => (evEs G es δ S).bind fun p => if p.1.length ≤ 16777216 then some (.tup p.1, p.2) else none
  | .lst own es, δ, S => (evEs G es δ S).bind fun p => if p.1.length ≤ 16777216 then (match own with
    | none => some (.lst p.1, p.2)
    | some kp => some (.ref p.2.length, p.2 ++ [.lst kp p.1])) else none
  | .dic0, _, S => some (.dic [] [], S)
  | .dic1 k i, _, S => some (.dic [.inr k] [.int i], S)
  | .zipV t own a b, δ, S => (evE G a δ S).bind fun p => (evE G b δ p.2).bind fun q => match p.1, q.1 with
    | .tup xs, .tup ys => if t = true then some (.tup (zipD xs ys), q.2) else (match own with
      | none => some (.lst (zipD xs ys), q.2)
      | some kp => some (.ref q.2.length, q.2 ++ [.lst kp (zipD xs ys)]))
    | _, _ => none
  | .tupS es fl, δ, S => (evEs G es δ S).bind fun p => (sprD p.1 fl).bind fun ds => if ds.length ≤ 16777216 then some (.tup ds, p.2) else none
  | .din e _ kvs, δ, S => (evE G e δ S).bind fun p => match p.1 with
    | .str z => some (.bl (kvs.lookup z).isSome, p.2)
    | _ => none
  | .dix _ kvs e, δ, S => (evE G e δ S).bind fun p => match p.1 with
    | .str z => (kvs.lookup z).map fun i => (.int i, p.2)
    | _ => none
  | .mkx cn f es, δ, S => (evEs G es δ S).bind fun p => if p.1.length ≤ 1 then some (.exc cn f p.1, p.2) else none
  | .fld e f tab, δ, S => (evE G e δ S).bind fun p => match p.1 with
    | .exc C g [d] => if g = f ∧ tab.lookup C = some (some f) then some (d, p.2) else none
    | _ => none
  | .isx e _ cs tab, δ, S => (evE G e δ S).bind fun p => match p.1 with
    | .exc C _ _ => if (tab.lookup C).isSome = true then some (.bl (cs.contains C), p.2) else none
    | _ => none
  | .cat kp a b, δ, S => (evE G a δ S).bind fun p => (evE G b δ p.2).bind fun q => match dr q.2 p.1, dr q.2 q.1 with
    | .lst xs, .lst ys => if xs.length + ys.length ≤ 16777216 then some (.ref q.2.length, q.2 ++ [.lst kp (xs ++ ys)]) else none
    | _, _ => none
  | .bin o a b, δ, S => (evE G a δ S).bind fun p => (evE G b δ p.2).bind fun q => (binD o (dr q.2 p.1) (dr q.2 q.1)).map fun d => (d, q.2)
  | .neg a, δ, S => (evE G a δ S).bind fun p => match p.1 with
    | .int i => some (.int (-i), p.2)
    | _ => none
  | .not a, δ, S => (evE G a δ S).bind fun p => (truD p.2 p.1).map fun k => (.bl (!k), p.2)
  | .cmp o a b, δ, S => (evE G a δ S).bind fun p => (evE G b δ p.2).bind fun q => (cmpD q.2 o p.1 q.1).map fun k => (.bl k, q.2)
  | .cmp2 o o' a b c, δ, S => (evE G a δ S).bind fun p => (evE G b δ p.2).bind fun q => (cmpD q.2 o p.1 q.1).bind fun k =>
    if k = true then (evE G c δ q.2).bind fun r => (cmpD r.2 o' q.1 r.1).map fun k' => (.bl k', r.2) else some (.bl false, q.2)
  | .and a b, δ, S => (evE G a δ S).bind fun p => match p.1 with
    | .bl true => evE G b δ p.2
    | .bl false => some (.bl false, p.2)
    | _ => none
  | .or a b, δ, S => (evE G a δ S).bind fun p => match p.1 with
    | .bl false => evE G b δ p.2
    | .bl true => some (.bl true, p.2)
    | _ => none
  | .ite c a b, δ, S => (evT G c δ S).bind fun p => if p.1 = true then evE G a δ p.2 else evE G b δ p.2
  | .call f es, δ, S => (evEs G es δ S).bind fun p => G.call f p.1 p.2
  | .callK f es ks kes, δ, S => (evEs G es δ S).bind fun p => (evEs G kes δ p.2).bind fun q => (G.kw f es.length ks).bind fun pl =>
    (pick (p.1 ++ q.1) pl).bind fun ds => G.call f ds q.2
  | .blt f es, δ, S => (evEs G es δ S).bind fun p => (bltD p.2 f p.1).map fun d => (d, p.2)
  | .isi e T, δ, S => (evE G e δ S).bind fun p => (kitB (tyD p.1) T).map fun k => (.bl k, p.2)
  | .meth m o es, δ, S => (evE G o δ S).bind fun p => (evEs G es δ p.2).bind fun q => methD q.2 m p.1 q.1
  | .ix a b, δ, S => (evE G a δ S).bind fun p => (evE G b δ p.2).bind fun q => (ixD q.2 p.1 q.1).map fun d => (d, q.2)
  | .sl a lo hi, δ, S => (evE G a δ S).bind fun p => (evE G lo δ p.2).bind fun q => (evE G hi δ q.2).bind fun r =>
    (partD (isNonC lo) q.1).bind fun l => (partD (isNonC hi) r.1).bind fun h => (slD r.2 p.1 l h).map fun d => (d, r.2)
  | .rev a, δ, S => (evE G a δ S).bind fun p => match dr p.2 p.1 with
    | .tup xs => some (.tup xs.reverse, p.2)
    | .lst xs => some (.lst xs.reverse, p.2)
    | .scr xs => some (.lst xs.reverse, p.2)
    | _ => none
  | .lc elt t it ifs own, δ, S => (evI G it δ S).bind fun w => (loopLc w.1 (fun x S1 => (evT' G t x (wipeD δ own) S1).bind fun e =>
      (evIf G ifs e.1 e.2).bind fun b => if b.1 = true then (evE G elt e.1 b.2).map fun y => (some y.1, y.2) else some (none, b.2)) w.1.xs w.2).bind fun q =>
      if q.1.length ≤ 16777216 then some (.lst q.1, q.2) else none
noncomputable def evEs (G : GE) : List C → En → Sto → Option (List D × Sto)
  | [], _, S => some ([], S)
  | e :: es, δ, S => (evE G e δ S).bind fun p => (evEs G es δ p.2).map fun q => (p.1 :: q.1, q.2)
noncomputable def evT (G : GE) : C → En → Sto → Option (Bool × Sto)
  | .not a, δ, S => (evT G a δ S).map fun p => (!p.1, p.2)
  | .and a b, δ, S => (evT G a δ S).bind fun p => if p.1 = true then evT G b δ p.2 else some (false, p.2)
  | .or a b, δ, S => (evT G a δ S).bind fun p => if p.1 = true then some (true, p.2) else evT G b δ p.2
  | .bl b, _, S => some (b, S)
  | .ix a b, δ, S => (evE G a δ S).bind fun p => (evE G b δ p.2).bind fun q => (ixD q.2 p.1 q.1).bind fun d => (truD q.2 d).map fun k => (k, q.2)
  | .cmp o a b, δ, S => (evE G a δ S).bind fun p => (evE G b δ p.2).bind fun q => (cmpD q.2 o p.1 q.1).map fun k => (k, q.2)
  | .cmp2 o o' a b c, δ, S => (evE G a δ S).bind fun p => (evE G b δ p.2).bind fun q => (cmpD q.2 o p.1 q.1).bind fun k =>
    if k = true then (evE G c δ q.2).bind fun r => (cmpD r.2 o' q.1 r.1).map fun k' => (k', r.2) else some (false, q.2)
  | .call f es, δ, S => (evEs G es δ S).bind fun p => (G.call f p.1 p.2).bind fun r => (truD r.2 r.1).map fun k => (k, r.2)
  | .blt f es, δ, S => (evEs G es δ S).bind fun p => (bltD p.2 f p.1).bind fun d => (truD p.2 d).map fun k => (k, p.2)
  | .isi e T, δ, S => (evE G e δ S).bind fun p => (kitB (tyD p.1) T).map fun k => (k, p.2)
  | .din e _ kvs, δ, S => (evE G e δ S).bind fun p => match p.1 with
    | .str z => some ((kvs.lookup z).isSome, p.2)
    | _ => none
  | .var i, δ, S => match δ[i]? with
    | some (some d) => (truD S d).map fun k => (k, S)
    | _ => none
  | _, _, _ => none
noncomputable def evIf (G : GE) : List C → En → Sto → Option (Bool × Sto)
  | [], _, S => some (true, S)
  | c :: _, δ, S => evT G c δ S
noncomputable def evT' (G : GE) : CT → D → En → Sto → Option (En × Sto)
  | .name i, d, δ, S => some (δ.set i (some d), S)
  | .tup ts, d, δ, S => match d with
    | .tup xs => evTs G ts xs δ S
    | _ => none
  | .sub o i, d, δ, S => (evE G o δ S).bind fun p => (evE G i δ p.2).bind fun q => (setD q.2 p.1 q.1 d).map fun S' => (δ, S')
noncomputable def evTs (G : GE) : List CT → List D → En → Sto → Option (En × Sto)
  | [], [], δ, S => some (δ, S)
  | t :: ts, x :: xs, δ, S => (evT' G t x δ S).bind fun p => evTs G ts xs p.1 p.2
  | _, _, _, _ => none
noncomputable def evI (G : GE) : CI → En → Sto → Option (Wk × Sto)
  | .seq e, δ, S => (evE G e δ S).bind fun p => (items p.2 p.1).map fun xs => (⟨xs, srcOf p.1⟩, p.2)
  | .rng1 a, δ, S => (evE G a δ S).bind fun p => match p.1 with
    | .int j => if smallI j = true then some (⟨rngD 0 j.toNat, none⟩, p.2) else none
    | _ => none
  | .rng2 a b, δ, S => (evE G a δ S).bind fun p => (evE G b δ p.2).bind fun q => match p.1, q.1 with
    | .int i, .int j => if smallI i = true ∧ smallI j = true then some (⟨rngD i (j - i).toNat, none⟩, q.2) else none
    | _, _ => none
  | .enm e, δ, S => (evE G e δ S).bind fun p => match p.1 with
    | .lst xs => some (⟨enmD 0 xs, none⟩, p.2)
    | .scr xs => some (⟨enmD 0 xs, none⟩, p.2)
    | .tup xs => some (⟨enmD 0 xs, none⟩, p.2)
    | _ => none
  | .zip a b, δ, S => (evE G a δ S).bind fun p => (evE G b δ p.2).bind fun q => match p.1, q.1 with
    | .lst xs, .lst ys => some (⟨zipD xs ys, none⟩, q.2)
    | .tup xs, .tup ys => some (⟨zipD xs ys, none⟩, q.2)
    | _, _ => none
end
/-! ### statements -/
inductive Fl where
  | nx (δ : En) | rt (d : D) | bk (δ : En) | ct (δ : En)
open Classical in
noncomputable def loopFor (w : Wk) (turn : D → En → Sto → Option (Fl × Sto)) : List D → En → Sto → Option (Fl × Sto)
  | [], δ, S => if okW w S then some (.nx δ, S) else none
  | x :: r, δ, S => if okW w S then (turn x δ S).bind fun p => match p.1 with
    | .nx δ1 => loopFor w turn r δ1 p.2
    | .ct δ1 => loopFor w turn r δ1 p.2
    | .bk δ1 => some (.nx δ1, p.2)
    | .rt d => some (.rt d, p.2) else none
def whN (c : En → Sto → Option (Bool × Sto)) (b : En → Sto → Option (Fl × Sto)) : Nat → En → Sto → Option (Fl × Sto)
  | 0, _, _ => none
  | n + 1, δ, S => (c δ S).bind fun p => if p.1 = true then (b δ p.2).bind fun q => match q.1 with
    | .nx δ1 => whN c b n δ1 q.2
    | .ct δ1 => whN c b n δ1 q.2
    | .bk δ1 => some (.nx δ1, q.2)
    | .rt d => some (.rt d, q.2) else some (.nx δ, p.2)
theorem whN_succ {c : En → Sto → Option (Bool × Sto)} {b : En → Sto → Option (Fl × Sto)} : ∀ (n : Nat) (δ : En) (S : Sto) (r : Fl × Sto), whN c b n δ S = some r → whN c b (n + 1) δ S = some r
  | 0, _, _, _, h => by cases h
  | n + 1, δ, S, r, h => by
    unfold whN at h ⊢
    cases hc : c δ S with
    | none => rw [hc] at h; cases h
    | some p =>
      rw [hc] at h
      simp only [Option.bind_some] at h ⊢
      by_cases hp : p.1 = true
      · rw [if_pos hp] at h ⊢
        cases hb : b δ p.2 with
        | none => rw [hb] at h; cases h
        | some q =>
          rw [hb] at h
          simp only [Option.bind_some] at h ⊢
          obtain ⟨f, S2⟩ := q
          cases f with
          | nx δ1 => exact whN_succ n δ1 S2 r h
          | ct δ1 => exact whN_succ n δ1 S2 r h
          | bk δ1 => exact h
          | rt d => exact h
      · rw [if_neg hp] at h ⊢
        exact h
theorem whN_le {c : En → Sto → Option (Bool × Sto)} {b : En → Sto → Option (Fl × Sto)} {n m : Nat} {δ : En} {S : Sto} {r : Fl × Sto} (h : whN c b n δ S = some r) (hm : n ≤ m) : whN c b m δ S = some r := by
  induction hm with
  | refl => exact h
  | step _ ih => exact whN_succ _ _ _ _ ih
open Classical in
noncomputable def whD (c : En → Sto → Option (Bool × Sto)) (b : En → Sto → Option (Fl × Sto)) (δ : En) (S : Sto) : Option (Fl × Sto) :=
  if h : ∃ r n, whN c b n δ S = some r then some (Classical.choose h) else none
theorem whD_of {c : En → Sto → Option (Bool × Sto)} {b : En → Sto → Option (Fl × Sto)} {n : Nat} {δ : En} {S : Sto} {r : Fl × Sto} (h : whN c b n δ S = some r) : whD c b δ S = some r := by
  have hx : ∃ r n, whN c b n δ S = some r := ⟨r, n, h⟩
  unfold whD
  rw [dif_pos hx]
  obtain ⟨m, e⟩ := Classical.choose_spec hx
  have e1 := whN_le e (Nat.le_max_left m n)
  have e2 := whN_le h (Nat.le_max_right m n)
  rw [e1] at e2
  exact e2
theorem of_whD {c : En → Sto → Option (Bool × Sto)} {b : En → Sto → Option (Fl × Sto)} {δ : En} {S : Sto} {r : Fl × Sto} (h : whD c b δ S = some r) : ∃ n, whN c b n δ S = some r := by
  unfold whD at h
  split at h
  · rename_i hx
    obtain ⟨m, e⟩ := Classical.choose_spec hx
    rw [Option.some.inj h] at e
    exact ⟨m, e⟩
  · cases h
mutual
noncomputable def exS (G : GE) : CS → En → Sto → Option (Fl × Sto)
  | .expr e, δ, S => (evE G e δ S).map fun p => (.nx δ, p.2)
  | .asg t e, δ, S => (evE G e δ S).bind fun p => (evT' G t p.1 δ p.2).map fun q => (.nx q.1, q.2)
  | .par i j a b, δ, S => (evE G a δ S).bind fun p => (evE G b δ p.2).map fun q => (.nx ((δ.set i (some p.1)).set j (some q.1)), q.2)
  | .par3 i j l a b c, δ, S => (evE G a δ S).bind fun p => (evE G b δ p.2).bind fun q => (evE G c δ q.2).map fun r => (.nx (((δ.set i (some p.1)).set j (some q.1)).set l (some r.1)), r.2)
  | .ret e, δ, S => (evE G e δ S).map fun p => (.rt p.1, p.2)
  | .retN, δ, S => some (.rt .non, S)
  | .ife c a b, δ, S => (evT G c δ S).bind fun p => if p.1 = true then exSs G a δ p.2 else exSs G b δ p.2
  | .for_ t it body, δ, S => (evI G it δ S).bind fun w => loopFor w.1 (fun x δ1 S1 => (evT' G t x δ1 S1).bind fun q => exSs G body q.1 q.2) w.1.xs δ w.2
  | .whl c body, δ, S => whD (fun δ S => evT G c δ S) (fun δ S => exSs G body δ S) δ S
  | .aug i o e, δ, S => match δ[i]? with
    | some (some d) => (evE G e δ S).bind fun p => (match d with
      | .ref _ => none
      | d => (binD o d (dr p.2 p.1))).map fun r => (.nx (δ.set i (some r)), p.2)
    | _ => none
  | .pass, δ, S => some (.nx δ, S)
  | .brk, δ, S => some (.bk δ, S)
  | .cont, δ, S => some (.ct δ, S)
  | .never, _, _ => none
noncomputable def exSs (G : GE) : List CS → En → Sto → Option (Fl × Sto)
  | [], δ, S => some (.nx δ, S)
  | s :: r, δ, S => (exS G s δ S).bind fun p => match p.1 with
    | .nx δ1 => exSs G r δ1 p.2
    | f => some (f, p.2)
end

/-! ### calls -/
structure Fn where
  ps : List Str
  N : List Str
  body : List CS
mutual
/-- no object of the store from n on -/
def belowD (n : Nat) : D → Bool
  | .tup xs => belowDs n xs
  | .lst xs => belowDs n xs
  | .scr xs => belowDs n xs
  | .dic _ xs => belowDs n xs
  | .ref k => decide (k < n)
  | .exc _ _ xs => belowDs n xs
  | _ => true
def belowDs (n : Nat) : List D → Bool
  | [] => true
  | d :: ds => belowD n d && belowDs n ds
end
mutual
/-- g: what an object of the store from n on becomes -/
def fzD (n : Nat) (g : Nat → Option D) : D → Option D
  | .tup xs => (fzDs n g xs).map .tup
  | .lst xs => (fzDs n g xs).map .lst
  | .scr xs => (fzDs n g xs).map .scr
  | .dic ks xs => (fzDs n g xs).map (.dic ks)
  | .ref k => if k < n then some (.ref k) else g k
  | .exc C f xs => (fzDs n g xs).map (.exc C f)
  | .non => some .non
  | .bl b => some (.bl b)
  | .int i => some (.int i)
  | .str x => some (.str x)
def fzDs (n : Nat) (g : Nat → Option D) : List D → Option (List D)
  | [] => some []
  | d :: ds => (fzD n g d).bind fun x => (fzDs n g ds).map fun r => x :: r
end
def fzR (S : Sto) (n : Nat) : Nat → Nat → Option D
  | 0, _ => none
  | m + 1, k => match S[k]? with
    | some (.lst _ xs) => (fzDs n (fzR S n m) xs).map .lst
    | none => none
def GcOk (n : Nat) (S S' : Sto) : Prop := ∀ k, k < n → S'[k]? = S[k]? ∨ ∃ mo, S'[k]? = some mo ∧ belowDs n mo.xs = true
open Classical in
noncomputable def gc (S : Sto) (d : D) (S' : Sto) : Option (D × Sto) :=
  if S'.length ≤ S.length then some (d, S')
  else if ((S'.drop S.length).any MO.keep) = true then some (d, S')
  else if GcOk S.length S S' then (fzD S.length (fzR S' S.length 4) d).map fun x => (x, S'.take S.length) else none
def kwOf (P : List (Str × Fn)) (f : Str) (n : Nat) (ks : List Str) : Option (List Nat) := (P.lookup f).bind fun fc =>
  if n + ks.length = fc.ps.length then some ((List.range fc.ps.length).map fun i => if i < n then i else n + ks.idxOf (fc.ps.getD i Str.empty)) else none
def startD (n : Nat) (ds : List D) : En := ds.map some ++ List.replicate (n - ds.length) none
noncomputable def callN (tb : List (Str × D)) (P : List (Str × Fn)) : Nat → Str → List D → Sto → Option (D × Sto)
  | 0, _, _, _ => none
  | n + 1, f, ds, S => (P.lookup f).bind fun fc => if ds.length = fc.ps.length then
      (exSs ⟨tb, callN tb P n, kwOf P⟩ fc.body (startD fc.N.length ds) S).bind fun p => match p.1 with
        | .rt d => gc S d p.2
        | .nx _ => gc S .non p.2
        | _ => none
    else none
noncomputable abbrev geN (tb : List (Str × D)) (P : List (Str × Fn)) (n : Nat) : GE := ⟨tb, callN tb P n, kwOf P⟩
end Dn

set_option maxHeartbeats 4000000
namespace Dn
open PySem PySem.Spec PyProof.Rows L2

/-! ### operations on values keep what they say -/
/-- what is wanted behind an expression -/
def Pst (K : PySem.W.Frag) (μ : Mu) (H : Hp) (S : Sto) (d : D) (Q : VK) : Prop := ∀ v H' μ', Ext μ H μ' H' → Rl K μ' H' S → Rep K μ' H' d v → Q v H'
section
variable {K : PySem.W.Frag} {μ μ' μ1 : Mu} {H H' H1 : Hp} {S S' : Sto} {d : D} {Q : VK} {v : V}
theorem Pst.at (h : Pst K μ H S d Q) (R : Rl K μ H S) (r : Rep K μ H d v) : Q v H := h v H μ Ext.refl R r
theorem Pst.ext (h : Pst K μ H S d Q) (E : Ext μ H μ1 H1) : Pst K μ1 H1 S d Q := fun v H' μ' E' R r => h v H' μ' (E.trans E') R r
theorem Pst.new (h : Pst K μ H S d Q) (R : Rl K μ H S) {p : Addr} {o : HO} (hp : H p = none) (r : Rep K μ (upd H p o) d v) : Q v (upd H p o) := h v _ μ (Ext.new hp) (R.new hp) r

theorem dr_non {d : D} (e : dr S d = .non) : d = .non := by
  cases d <;> simp only [dr] at e <;> first | rfl | exact e | (split at e <;> cases e) | cases e
theorem dr_int {d : D} {i : Int} (e : dr S d = .int i) : d = .int i := by
  cases d <;> simp only [dr] at e <;> first | exact e | (split at e <;> cases e) | cases e
theorem dr_bl {d : D} {i : Bool} (e : dr S d = .bl i) : d = .bl i := by
  cases d <;> simp only [dr] at e <;> first | exact e | (split at e <;> cases e) | cases e
theorem dr_str {d : D} {i : Str} (e : dr S d = .str i) : d = .str i := by
  cases d <;> simp only [dr] at e <;> first | exact e | (split at e <;> cases e) | cases e
theorem dr_tup {d : D} {i : List D} (e : dr S d = .tup i) : d = .tup i := by
  cases d <;> simp only [dr] at e <;> first | exact e | (split at e <;> cases e) | cases e
theorem dr_scr {d : D} {i : List D} (e : dr S d = .scr i) : d = .scr i := by
  cases d <;> simp only [dr] at e <;> first | exact e | (split at e <;> cases e) | cases e
theorem rep_int {i : Int} (h : Rep K μ H (.int i) v) : v = .int i := by simpa only [Rep] using h
theorem rep_bl {i : Bool} (h : Rep K μ H (.bl i) v) : v = .bl i := by simpa only [Rep] using h
theorem rep_str {i : Str} (h : Rep K μ H (.str i) v) : v = .str i := by simpa only [Rep] using h
theorem rep_non (h : Rep K μ H .non v) : v = .non := by simpa only [Rep] using h
theorem rep_tup {xs : List D} (h : Rep K μ H (.tup xs) v) : ∃ a vs, v = .ref a ∧ SqT K H a vs ∧ Reps K μ H xs vs := by simpa only [Rep] using h
theorem mk_int {i : Int} : Rep K μ H (.int i) (.int i) := by simp only [Rep]
theorem mk_bl {i : Bool} : Rep K μ H (.bl i) (.bl i) := by simp only [Rep]
theorem mk_str {i : Str} : Rep K μ H (.str i) (.str i) := by simp only [Rep]
theorem mk_non : Rep K μ H .non .non := by simp only [Rep]
theorem mk_tup {xs : List D} {a : Addr} {vs : List V} (h : SqT K H a vs) (r : Reps K μ H xs vs) : Rep K μ H (.tup xs) (.ref a) := by
  simp only [Rep]; exact ⟨a, vs, rfl, h, r⟩
theorem mk_lst {xs : List D} {a : Addr} {vs : List V} (h0 : μ.fz a) (h : H a = some (.lst vs)) (r : Reps K μ H xs vs) : Rep K μ H (.lst xs) (.ref a) := by
  simp only [Rep]; exact ⟨a, vs, rfl, h0, h, r⟩
theorem mk_ref {k : Nat} {a : Addr} (h : μ.ad[k]? = some a) : Rep K μ H (.ref k) (.ref a) := by
  simp only [Rep]; exact ⟨a, rfl, h⟩
/-- a list that may be read and put together: frozen, or the store's -/
theorem rep_lst (R : Rl K μ H S) {xs : List D} (e : dr S d = .lst xs) (h : Rep K μ H d v) : ∃ a vs, v = .ref a ∧ H a = some (.lst vs) ∧ Reps K μ H xs vs := by
  cases d with
  | ref k =>
    simp only [dr] at e
    cases q : S[k]? with
    | none => rw [q] at e; cases e
    | some mo =>
      rw [q] at e
      cases e
      simp only [Rep] at h
      obtain ⟨a, rfl, h1⟩ := h
      have z := R.at_ k mo a q h1
      cases mo with
      | lst kp ys =>
        obtain ⟨vs, e1, r⟩ := z
        exact ⟨a, vs, rfl, e1, r⟩
  | lst ys =>
    simp only [dr] at e
    cases e
    simp only [Rep] at h
    obtain ⟨a, vs, rfl, _, h1, h2⟩ := h
    exact ⟨a, vs, rfl, h1, h2⟩
  | _ => simp only [dr] at e <;> cases e
theorem ScrAt.sql {a : Addr} {vs : List V} (h : ScrAt K H a vs) : SqL K H a vs := by
  rcases h with ⟨o, h⟩ | h
  · exact .inl (.inr ⟨o, h⟩)
  · exact .inr h
theorem rep_litems (R : Rl K μ H S) {xs : List D} (e : litems S d = some xs) (h : Rep K μ H d v) : ∃ a vs, v = .ref a ∧ SqL K H a vs ∧ Reps K μ H xs vs := by
  cases d with
  | ref k =>
    simp only [litems] at e
    cases q : S[k]? with
    | none => rw [q] at e; cases e
    | some mo =>
      rw [q] at e
      have e2 : mo.xs = xs := Option.some.inj e
      obtain ⟨a, vs, h1, h2, h3⟩ := rep_lst (xs := xs) R (by simp only [dr, q, e2]) h
      exact ⟨a, vs, h1, SqL.of h2, h3⟩
  | lst ys =>
    simp only [litems, Option.some.injEq] at e
    subst e
    obtain ⟨a, vs, h1, h2, h3⟩ := rep_lst (xs := ys) R rfl h
    exact ⟨a, vs, h1, SqL.of h2, h3⟩
  | scr ys =>
    simp only [litems, Option.some.injEq] at e
    subst e
    simp only [Rep] at h
    obtain ⟨a, vs, rfl, h1, h2⟩ := h
    exact ⟨a, vs, rfl, h1.sql, h2⟩
  | _ => simp only [litems] at e <;> cases e
theorem rep_items (R : Rl K μ H S) {xs : List D} (e : items S d = some xs) (h : Rep K μ H d v) : ∃ a vs, v = .ref a ∧ (SqL K H a vs ∨ SqT K H a vs) ∧ Reps K μ H xs vs := by
  cases d with
  | tup ys =>
    simp only [items, Option.some.injEq] at e
    subst e
    obtain ⟨a, vs, h1, h2, h3⟩ := rep_tup h
    exact ⟨a, vs, h1, .inr h2, h3⟩
  | _ =>
    obtain ⟨a, vs, h1, h2, h3⟩ := rep_litems (xs := xs) R (by simpa only [items, litems] using e) h
    exact ⟨a, vs, h1, .inl h2, h3⟩
theorem Ext.refl' : Ext μ H μ H := Ext.refl
end

theorem mulOk_ok {i j : Int} (h : mulOk i j = true) : CMulW i j := by
  unfold mulOk at h
  have h2 : i.natAbs.log2 + j.natAbs.log2 < 1000000 := of_decide_eq_true h
  exact h2
section
variable {X : Cx}
/-- a two-place operation -/
def rBin (K : PySem.W.Frag) (o : Operator) : R2 := fun x y H Q => ∃ μ S d1 d2 d, Rl K μ H S ∧ Rep K μ H d1 x ∧ Rep K μ H d2 y ∧ binD o (dr S d1) (dr S d2) = some d ∧ Pst K μ H S d Q
theorem sizeL : (sizeLine : Nat) = 16777216 := sizeLine_eq
theorem op_fdivNW : OpR X (binaryOp .FloorDiv) (rI (fun _ j => j < 0 ∧ j.natAbs.log2 < 9000) fun i j => .int (i.fdiv j)) := opI fun i j _ _ _ _ _ hc q => by
  have h1 : j < 0 := hc.1
  exact floordiv_int (by omega) q (.inl (PyProof.noPylong_of_log2 hc.2))
theorem op_bin (o : Operator) : OpR X (binaryOp o) (rBin X.K o) := by
  intro pins s σ H x y v u Q I rx ry h
  obtain ⟨μ, S, d1, d2, d, R, r1, r2, e, q⟩ := h
  generalize e1 : dr S d1 = a1 at e
  generalize e2 : dr S d2 = a2 at e
  unfold binD at e
  split at e
  · have z1 := dr_int e1; have z2 := dr_int e2; subst z1 z2; cases e
    cases rep_int r1; cases rep_int r2
    exact op_add pins s σ H _ _ v u Q I rx ry ⟨_, _, rfl, rfl, q.at R mk_int⟩
  · have z1 := dr_int e1; have z2 := dr_int e2; subst z1 z2; cases e
    cases rep_int r1; cases rep_int r2
    exact op_sub pins s σ H _ _ v u Q I rx ry ⟨_, _, rfl, rfl, q.at R mk_int⟩
  · have z1 := dr_int e1; have z2 := dr_int e2; subst z1 z2
    split at e
    · rename_i hm
      cases e
      cases rep_int r1; cases rep_int r2
      exact op_mulW pins s σ H _ _ v u Q I rx ry ⟨_, _, rfl, rfl, mulOk_ok hm, q.at R mk_int⟩
    · cases e
  · have z1 := dr_int e1; have z2 := dr_int e2; subst z1 z2
    split at e
    · rename_i hm
      cases e
      cases rep_int r1; cases rep_int r2
      have hm2 := Bool.and_eq_true_iff.mp hm
      exact op_fdivW pins s σ H _ _ v u Q I rx ry ⟨_, _, rfl, rfl, ⟨of_decide_eq_true hm2.1, of_decide_eq_true hm2.2⟩, q.at R mk_int⟩
    · split at e
      · rename_i hm
        cases e
        cases rep_int r1; cases rep_int r2
        have hm2 := Bool.and_eq_true_iff.mp hm
        exact op_fdivNW pins s σ H _ _ v u Q I rx ry ⟨_, _, rfl, rfl, ⟨of_decide_eq_true hm2.1, of_decide_eq_true hm2.2⟩, q.at R mk_int⟩
      · cases e
  · have z1 := dr_int e1; have z2 := dr_int e2; subst z1 z2
    split at e
    · rename_i hm
      cases e
      cases rep_int r1; cases rep_int r2
      exact op_mod pins s σ H _ _ v u Q I rx ry ⟨_, _, rfl, rfl, hm, q.at R mk_int⟩
    · cases e
  · have z1 := dr_int e1; have z2 := dr_int e2; subst z1 z2
    split at e
    · rename_i hm
      cases e
      cases rep_int r1; cases rep_int r2
      exact op_pow pins s σ H _ _ v u Q I rx ry ⟨_, _, rfl, rfl, hm, q.at R mk_int⟩
    · cases e
  · have z1 := dr_str e1; have z2 := dr_str e2; subst z1 z2
    split at e
    · rename_i hm
      cases e
      cases rep_str r1; cases rep_str r2
      exact op_add_str pins s σ H _ _ v u Q I rx ry ⟨_, _, rfl, rfl, by rw [sizeL]; exact hm, q.at R mk_str⟩
    · cases e
  · rename_i xs ys
    have z1 := dr_tup e1; have z2 := dr_tup e2; subst z1 z2
    split at e
    · rename_i hm
      cases e
      obtain ⟨a, vs, rfl, h1, h2⟩ := rep_tup r1
      obtain ⟨b, us, rfl, h3, h4⟩ := rep_tup r2
      have l1 := h2.length
      have l2 := h4.length
      refine op_catA pins s σ H _ _ v u Q I rx ry ⟨a, b, vs, us, rfl, rfl, h1, h3, by rw [sizeL]; omega, fun z => ?_, fun z z2 => ?_, fun z z2 p hp => ?_⟩
      · subst z
        have x0 : xs = [] := List.eq_nil_of_length_eq_zero l1
        subst x0
        exact q.at R (mk_tup h3 h4)
      · subst z2
        have y0 : ys = [] := List.eq_nil_of_length_eq_zero l2
        subst y0
        rw [List.append_nil] at q
        exact q.at R (mk_tup h1 h2)
      · refine q.new R hp (mk_tup (SqT.of upd_same) ?_)
        exact (h2.append h4).mono R (Ext.new hp)
    · cases e
  · rename_i xs ys
    split at e
    · rename_i hm
      cases e
      obtain ⟨a, vs, rfl, h1, h2⟩ := rep_lst R e1 r1
      obtain ⟨b, us, rfl, h3, h4⟩ := rep_lst R e2 r2
      have l1 := h2.length
      have l2 := h4.length
      refine op_cat pins s σ H _ _ v u Q I rx ry ⟨a, b, vs, us, rfl, rfl, h1, h3, by rw [sizeL]; omega, fun p hp => ?_⟩
      refine q.new R hp (mk_lst (R.fz hp) upd_same ?_)
      exact (h2.append h4).mono R (Ext.new hp)
    · cases e
  · rename_i xs n
    have z2 := dr_int e2; subst z2
    split at e
    · rename_i hm
      obtain ⟨h0, h1, h2⟩ := hm
      cases e
      obtain ⟨a, vs, rfl, h3, h4⟩ := rep_lst R e1 r1
      cases rep_int r2
      have l1 := h4.length
      refine op_rep pins s σ H _ _ v u Q I rx ry ⟨a, n, vs, rfl, rfl, h3, by omega, by omega, by rw [sizeL, ← l1]; exact h2, fun p hp => ?_⟩
      refine q.new R hp (mk_lst (R.fz hp) upd_same ?_)
      exact (h4.rep n.toNat).mono R (Ext.new hp)
    · cases e
  · have z1 := dr_int e1; have z2 := dr_bl e2; subst z1 z2; cases e
    cases rep_int r1; cases rep_bl r2
    obtain ⟨t, rfl⟩ := rx; cases ry
    exact PySem.add_int_bool ⟨.int _, H, I.tok _, ⟨_, rfl⟩, q.at R mk_int⟩
  · have z1 := dr_int e1; have z2 := dr_bl e2; subst z1 z2; cases e
    cases rep_int r1; cases rep_bl r2
    obtain ⟨t, rfl⟩ := rx; cases ry
    exact PySem.IntBool.sub_int_bool ⟨.int _, H, I.tok _, ⟨_, rfl⟩, q.at R mk_int⟩
  · have z1 := dr_int e1; have z2 := dr_bl e2; subst z1 z2; cases e
    cases rep_int r1; cases rep_bl r2
    obtain ⟨t, rfl⟩ := rx; cases ry
    exact PySem.IntBool.mul_int_bool ⟨.int _, H, I.tok _, ⟨_, rfl⟩, q.at R mk_int⟩
  · have z1 := dr_bl e1; have z2 := dr_int e2; subst z1 z2; cases e
    cases rep_bl r1; cases rep_int r2
    cases rx; obtain ⟨t, rfl⟩ := ry
    exact PySem.IntBool.add_bool_int ⟨.int _, H, I.tok _, ⟨_, rfl⟩, q.at R mk_int⟩
  · have z1 := dr_bl e1; have z2 := dr_int e2; subst z1 z2; cases e
    cases rep_bl r1; cases rep_int r2
    cases rx; obtain ⟨t, rfl⟩ := ry
    exact PySem.IntBool.sub_bool_int ⟨.int _, H, I.tok _, ⟨_, rfl⟩, q.at R mk_int⟩
  · have z1 := dr_bl e1; have z2 := dr_int e2; subst z1 z2; cases e
    cases rep_bl r1; cases rep_int r2
    cases rx; obtain ⟨t, rfl⟩ := ry
    exact PySem.IntBool.mul_bool_int ⟨.int _, H, I.tok _, ⟨_, rfl⟩, q.at R mk_int⟩
  · have z1 := dr_bl e1; have z2 := dr_bl e2; subst z1 z2; cases e
    cases rep_bl r1; cases rep_bl r2
    cases rx; cases ry
    exact add_bool ⟨.int _, H, I.tok _, ⟨_, rfl⟩, q.at R mk_int⟩
  · have z1 := dr_bl e1; have z2 := dr_bl e2; subst z1 z2; cases e
    cases rep_bl r1; cases rep_bl r2
    cases rx; cases ry
    exact sub_bool ⟨.int _, H, I.tok _, ⟨_, rfl⟩, q.at R mk_int⟩
  · have z1 := dr_bl e1; have z2 := dr_bl e2; subst z1 z2; cases e
    cases rep_bl r1; cases rep_bl r2
    cases rx; cases ry
    exact mul_bool ⟨.int _, H, I.tok _, ⟨_, rfl⟩, q.at R mk_int⟩
  · cases e
end
/-! ### data as a whole -/
section
variable {K : PySem.W.Frag} {μ : Mu} {H : Hp} {S : Sto}
mutual
theorem dp_of : ∀ {d : D} {p : PyData} {v : V}, pd d = some p → Rep K μ H d v → Dp K H v p
  | .non, p, v, e, h => by simp only [pd, Option.some.injEq] at e; subst e; cases rep_non h; exact .non
  | .bl b, p, v, e, h => by simp only [pd, Option.some.injEq] at e; subst e; cases rep_bl h; exact .bl b
  | .int b, p, v, e, h => by simp only [pd, Option.some.injEq] at e; subst e; cases rep_int h; exact .int b
  | .str b, p, v, e, h => by simp only [pd, Option.some.injEq] at e; subst e; cases rep_str h; exact .str b
  | .tup xs, p, v, e, h => by
    simp only [pd] at e
    cases q : pds xs with
    | none => rw [q] at e; cases e
    | some ps =>
      rw [q] at e; cases e
      obtain ⟨a, vs, rfl, h1, h2⟩ := rep_tup h
      exact .tup h1 (dps_of q h2)
  | .lst xs, p, v, e, h => by
    simp only [pd] at e
    cases q : pds xs with
    | none => rw [q] at e; cases e
    | some ps =>
      rw [q] at e; cases e
      simp only [Rep] at h
      obtain ⟨a, vs, rfl, _, h1, h2⟩ := h
      exact .lst (SqL.of h1) (dps_of q h2)
  | .scr xs, p, v, e, h => by
    simp only [pd] at e
    cases q : pds xs with
    | none => rw [q] at e; cases e
    | some ps =>
      rw [q] at e; cases e
      simp only [Rep] at h
      obtain ⟨a, vs, rfl, h1, h2⟩ := h
      exact .lst h1.sql (dps_of q h2)
  | .dic _ _, p, v, e, h => by simp only [pd] at e; cases e
  | .ref _, p, v, e, h => by simp only [pd] at e; cases e
  | .exc _ _ _, p, v, e, h => by simp only [pd] at e; cases e
theorem dps_of : ∀ {ds : List D} {ps : List PyData} {vs : List V}, pds ds = some ps → Reps K μ H ds vs → DpAll K H vs ps
  | [], ps, vs, e, h => by simp only [pds, Option.some.injEq] at e; subst e; rw [reps_nil.mp h]; exact .nil
  | d :: ds, ps, vs, e, h => by
    simp only [pds] at e
    cases q : pd d with
    | none => rw [q] at e; cases e
    | some p =>
      rw [q] at e
      simp only [Option.bind_some] at e
      cases q2 : pds ds with
      | none => rw [q2] at e; cases e
      | some r =>
        rw [q2] at e; cases e
        obtain ⟨v, us, rfl, h1, h2⟩ := reps_cons.mp h
        exact .cons (dp_of q h1) (dps_of q2 h2)
end
theorem dp_dr (R : Rl K μ H S) {d : D} {p : PyData} {v : V} (e : pd (dr S d) = some p) (h : Rep K μ H d v) : Dp K H v p := by
  cases d with
  | ref k =>
    cases q : S[k]? with
    | none => simp only [dr, q] at e; simp only [pd] at e; cases e
    | some mo =>
      have e1 : dr S (.ref k) = .lst mo.xs := by simp only [dr, q]
      obtain ⟨a, vs, rfl, h1, h2⟩ := rep_lst R e1 h
      rw [e1] at e
      simp only [pd] at e
      cases q2 : pds mo.xs with
      | none => rw [q2] at e; cases e
      | some ps =>
        rw [q2] at e; cases e
        exact .lst (SqL.of h1) (dps_of q2 h2)
  | _ => exact dp_of (by simpa only [dr] using e) h
/-- a flat value is what it stands for -/
theorem flat_v {d : D} {v : V} (f : flatD d = true) (h : Rep K μ H d v) : v = vD d ∧ flatV v = true := by
  cases d with
  | non => cases rep_non h; exact ⟨rfl, rfl⟩
  | bl b => cases rep_bl h; exact ⟨rfl, rfl⟩
  | int b => cases rep_int h; exact ⟨rfl, rfl⟩
  | str b => cases rep_str h; exact ⟨rfl, rfl⟩
  | _ => cases f
theorem flats_v : ∀ {ds : List D} {vs : List V}, ds.all flatD = true → Reps K μ H ds vs → vs = ds.map vD ∧ vs.all flatV = true
  | [], vs, _, h => by rw [reps_nil.mp h]; exact ⟨rfl, rfl⟩
  | d :: ds, vs, f, h => by
    obtain ⟨v, us, rfl, h1, h2⟩ := reps_cons.mp h
    obtain ⟨f1, f2⟩ := Bool.and_eq_true_iff.mp (show (flatD d && ds.all flatD) = true from f)
    obtain ⟨e1, g1⟩ := flat_v f1 h1
    obtain ⟨e2, g2⟩ := flats_v f2 h2
    refine ⟨by rw [e1, e2]; rfl, ?_⟩
    show (flatV v && us.all flatV) = true
    rw [g1, g2]; rfl
theorem dr_flat {d : D} (f : flatD (dr S d) = true) : dr S d = d := by
  cases d with
  | ref k =>
    cases q : S[k]? with
    | none => simp only [dr, q]
    | some mo => simp only [dr, q] at f; cases f
  | _ => simp only [dr]
end

section
variable {X : Cx}
def rCmp (K : PySem.W.Frag) (o : CmpOp) : R2 := fun x y H Q => ∃ μ S d1 d2 k, Rl K μ H S ∧ Rep K μ H d1 x ∧ Rep K μ H d2 y ∧ cmpD S o d1 d2 = some k ∧ Q (.bl k) H
theorem tup_vals {pins : List (Addr × Obj)} {s : Shared} {σ : L2.St} {H : Hp} {μ : Mu} {xs : List D} {v : V} {u : Value} (I : Inv X pins σ H s) (h : Rep X.K μ H (.tup xs) v) (r : RelV v u) :
    ∃ (a : Addr) (its : List Value), v = .ref a ∧ u = .ref a ∧ its.length = xs.length ∧ s.heap.IsTuple a its.toArray := by
  obtain ⟨a, vs, rfl, h1, h2⟩ := rep_tup h
  obtain ⟨its, rv, ht, _⟩ := I.tuple h1
  exact ⟨a, its, rfl, r, by rw [← rv.length, h2.length], ht⟩
theorem emp_all (its its2 : List Value) (e : Nat → Bool) (h : its.length = 0 ∨ its2.length = 0) :
    ((List.range (min its.toArray.size its2.toArray.size)).all e && its.toArray.size == its2.toArray.size) = (its.isEmpty && its2.isEmpty) := by
  rcases h with h | h
  · have e0 : its = [] := List.eq_nil_of_length_eq_zero h
    subst e0
    cases its2 <;> simp
  · have e0 : its2 = [] := List.eq_nil_of_length_eq_zero h
    subst e0
    cases its <;> simp
theorem isEmpty_len {α β : Type} {xs : List α} {ys : List β} (h : xs.length = ys.length) : xs.isEmpty = ys.isEmpty := by
  cases xs <;> cases ys <;> simp at h ⊢
/-- == where one is an empty tuple -/
theorem eq_emp {pins : List (Addr × Obj)} {s : Shared} {σ : L2.St} {H : Hp} {μ : Mu} {xs ys : List D} {x y : V} {v u : Value} {Q : VK} (hu : X.A.units < cLine) (I : Inv X pins σ H s) (rx : RelV x v) (ry : RelV y u)
    (h1 : Rep X.K μ H (.tup xs) x) (h2 : Rep X.K μ H (.tup ys) y) (he : xs = [] ∨ ys = []) (q : Q (.bl (xs.isEmpty && ys.isEmpty)) H) : wpAny (model X.prog X.w) X.A (compareOp .Eq v u) (EP X pins σ Q) X.xe s := by
  obtain ⟨a, its, rfl, rfl, l1, t1⟩ := tup_vals I h1 rx
  obtain ⟨b, its2, rfl, rfl, l2, t2⟩ := tup_vals I h2 ry
  have he' : its.length = 0 ∨ its2.length = 0 := by
    rcases he with e | e
    · left; rw [l1, e]; rfl
    · right; rw [l2, e]; rfl
  refine SeqAt.eq_tupleAt (e := fun _ => true) t1 t2 hu (fun j j1 j2 => ?_) ?_
  · exfalso
    simp only [List.size_toArray] at j1 j2
    omega
  · rw [emp_all its its2 _ he', isEmpty_len l1, isEmpty_len l2]
    exact ⟨.bl _, H, I, rfl, q⟩
theorem ne_emp {pins : List (Addr × Obj)} {s : Shared} {σ : L2.St} {H : Hp} {μ : Mu} {xs ys : List D} {x y : V} {v u : Value} {Q : VK} (hu : X.A.units < cLine) (I : Inv X pins σ H s) (rx : RelV x v) (ry : RelV y u)
    (h1 : Rep X.K μ H (.tup xs) x) (h2 : Rep X.K μ H (.tup ys) y) (he : xs = [] ∨ ys = []) (q : Q (.bl (!(xs.isEmpty && ys.isEmpty))) H) : wpAny (model X.prog X.w) X.A (compareOp .NotEq v u) (EP X pins σ Q) X.xe s := by
  obtain ⟨a, its, rfl, rfl, l1, t1⟩ := tup_vals I h1 rx
  obtain ⟨b, its2, rfl, rfl, l2, t2⟩ := tup_vals I h2 ry
  have he' : its.length = 0 ∨ its2.length = 0 := by
    rcases he with e | e
    · left; rw [l1, e]; rfl
    · right; rw [l2, e]; rfl
  refine (SeqAt.RcNeAt.tuples (A := X.A) (s := s) (e := fun _ => true) t1 t2 hu (fun j j1 j2 => ?_)) X.prog X.w _ _ ?_
  · exfalso
    simp only [List.size_toArray] at j1 j2
    omega
  · rw [emp_all its its2 _ he', isEmpty_len l1, isEmpty_len l2]
    exact ⟨.bl _, H, I, rfl, q⟩
/-- what eqD says, taken apart -/
theorem eqD_ways {d e : D} {k : Bool} (h : eqD d e = some k) :
    (flatD d = true ∧ flatD e = true ∧ scal (vD d) (vD e) = true ∧ k = decide (vD d = vD e)) ∨ (∃ xs ys, d = .tup xs ∧ e = .tup ys ∧ (xs = [] ∨ ys = []) ∧ k = (xs.isEmpty && ys.isEmpty)) ∨
      ∃ p q, pd d = some p ∧ pd e = some q ∧ SeqAt.shaped p = true ∧ SeqAt.shaped q = true ∧ k = PyData.eqv p q := by
  unfold eqD at h
  split at h
  · rename_i c
    simp only [Bool.and_eq_true] at c
    exact .inl ⟨c.1.1, c.1.2, c.2, (Option.some.inj h).symm⟩
  · have go : ∀ {d e : D}, eqP d e = some k → ∃ p q, pd d = some p ∧ pd e = some q ∧ SeqAt.shaped p = true ∧ SeqAt.shaped q = true ∧ k = PyData.eqv p q := by
      intro d e h
      unfold eqP at h
      cases q1 : pd d with
      | none => rw [q1] at h; cases h
      | some p =>
        rw [q1] at h
        simp only [Option.bind_some] at h
        cases q2 : pd e with
        | none => rw [q2] at h; cases h
        | some q =>
          rw [q2] at h
          simp only [Option.bind_some] at h
          split at h
          · rename_i c
            simp only [Bool.and_eq_true] at c
            exact ⟨p, q, rfl, rfl, c.1, c.2, (Option.some.inj h).symm⟩
          · cases h
    split at h
    · exact .inr (.inl ⟨_, _, rfl, rfl, .inr rfl, by rw [← Option.some.inj h]; simp⟩)
    · exact .inr (.inl ⟨_, _, rfl, rfl, .inl rfl, by rw [← Option.some.inj h]; simp⟩)
    · exact .inr (.inr (go h))
theorem inD_ways {S : Sto} {d e : D} {k : Bool} (h : inD S d e = some k) : ∃ xs, items S e = some xs ∧
    ((flatD d = true ∧ xs.all flatD = true ∧ k = xs.any fun y => eqV (vD y) (vD d)) ∨
      ∃ p qs, pd d = some p ∧ pds xs = some qs ∧ SeqAt.shaped p = true ∧ SeqAt.shaped (.list qs) = true ∧ k = qs.any fun z => PyData.eqv z p) := by
  unfold inD at h
  cases q0 : items S e with
  | none => rw [q0] at h; cases h
  | some xs =>
    rw [q0] at h
    simp only [Option.bind_some] at h
    refine ⟨xs, rfl, ?_⟩
    split at h
    · rename_i c
      simp only [Bool.and_eq_true] at c
      exact .inl ⟨c.1, c.2, (Option.some.inj h).symm⟩
    · cases q1 : pd d with
      | none => rw [q1] at h; cases h
      | some p =>
        rw [q1] at h
        simp only [Option.bind_some] at h
        cases q2 : pds xs with
        | none => rw [q2] at h; cases h
        | some q =>
          rw [q2] at h
          simp only [Option.bind_some] at h
          split at h
          · rename_i c
            simp only [Bool.and_eq_true] at c
            exact .inr ⟨p, q, rfl, rfl, c.1, c.2, (Option.some.inj h).symm⟩
          · cases h
theorem op_inX (hu : X.A.units + 66 < cLine) {pins : List (Addr × Obj)} {s : Shared} {σ : L2.St} {H : Hp} {x y : V} {v u : Value} {Q : VK} {μ : Mu} {S : Sto} {d1 d2 : D} {k : Bool} (I : Inv X pins σ H s) (rx : RelV x v) (ry : RelV y u)
    (R : Rl X.K μ H S) (r1 : Rep X.K μ H d1 x) (r2 : Rep X.K μ H d2 y) (e : inD S d1 d2 = some k) :
    (Q (.bl k) H → wpAny (model X.prog X.w) X.A (compareOp .In v u) (EP X pins σ Q) X.xe s) ∧ (Q (.bl (!k)) H → wpAny (model X.prog X.w) X.A (compareOp .NotIn v u) (EP X pins σ Q) X.xe s) := by
  obtain ⟨xs, hi, h⟩ := inD_ways e
  obtain ⟨a, vs, rfl, hs, hr⟩ := rep_items R hi r2
  rcases h with ⟨f1, f2, rfl⟩ | ⟨p, qs, z1, z2, s1, s2, rfl⟩
  · obtain ⟨rfl, g1⟩ := flat_v f1 r1
    obtain ⟨rfl, g2⟩ := flats_v f2 hr
    have e3 : inV (vD d1) (xs.map vD) = xs.any fun y => eqV (vD y) (vD d1) := by unfold inV; rw [List.any_map]; rfl
    refine ⟨fun q => ?_, fun q => ?_⟩
    · refine op_in_seq pins s σ H _ _ v u Q I rx ry ⟨a, _, rfl, hs, g1, g2, ?_⟩
      rw [if_neg Bool.false_ne_true, e3]; exact q
    · refine op_notIn_seq pins s σ H _ _ v u Q I rx ry ⟨a, _, rfl, hs, g1, g2, ?_⟩
      rw [if_pos rfl, e3]; exact q
  · have dp := dp_of z1 r1
    have dps := dps_of z2 hr
    rcases hs with hs | hs
    · exact ⟨fun q => op_inD (by omega) pins s σ H _ _ v u Q I rx ry ⟨p, qs, dp, .lst hs dps, s1, s2, q⟩, fun q => op_notInD (by omega) pins s σ H _ _ v u Q I rx ry ⟨p, qs, dp, .lst hs dps, s1, s2, q⟩⟩
    · obtain ⟨as, w1⟩ := Dp.reads I p x v dp rx
      obtain ⟨bs, w2⟩ := Dp.reads I (.tuple qs) _ u (.tup hs dps) ry
      exact ⟨fun q => SeqAt.in_tuple_reads w2 w1 (SeqAt.canLay_of_shaped s2) (SeqAt.canLay_of_shaped s1) (room_in_shaped s1 (by omega)) ⟨.bl _, H, I, rfl, q⟩,
        fun q => SeqAt.notIn_tuple_reads w2 w1 (SeqAt.canLay_of_shaped s2) (SeqAt.canLay_of_shaped s1) (room_in_shaped s1 (by omega)) ⟨.bl _, H, I, rfl, q⟩⟩
theorem op_cmp (hu : X.A.units + 66 < cLine) (o : CmpOp) : OpR X (compareOp o) (rCmp X.K o) := by
  intro pins s σ H x y v u Q I rx ry h
  obtain ⟨μ, S, d1, d2, k, R, r1, r2, e, q⟩ := h
  cases o with
  | Eq =>
    have e' : eqD (dr S d1) (dr S d2) = some k := e
    rcases eqD_ways e' with ⟨f1, f2, sc, rfl⟩ | ⟨xs, ys, z1, z2, he, rfl⟩ | ⟨p, p', z1, z2, s1, s2, rfl⟩
    · have w1 := dr_flat f1; have w2 := dr_flat f2; rw [w1] at f1 sc q; rw [w2] at f2 sc q
      obtain ⟨rfl, _⟩ := flat_v f1 r1
      obtain ⟨rfl, _⟩ := flat_v f2 r2
      exact op_eq pins s σ H _ _ v u Q I rx ry ⟨sc, q⟩
    · have w1 := dr_tup z1; have w2 := dr_tup z2; subst w1 w2
      exact eq_emp (by omega) I rx ry r1 r2 he q
    · exact op_eqD (by omega) pins s σ H _ _ v u Q I rx ry ⟨p, p', dp_dr R z1 r1, dp_dr R z2 r2, s1, s2, q⟩
  | NotEq =>
    have e' : (eqD (dr S d1) (dr S d2)).map (!·) = some k := e
    cases e2 : eqD (dr S d1) (dr S d2) with
    | none => rw [e2] at e'; cases e'
    | some k' =>
      rw [e2] at e'
      have e3 : (!k') = k := Option.some.inj e'
      subst e3
      rcases eqD_ways e2 with ⟨f1, f2, sc, rfl⟩ | ⟨xs, ys, z1, z2, he, rfl⟩ | ⟨p, p', z1, z2, s1, s2, rfl⟩
      · have w1 := dr_flat f1; have w2 := dr_flat f2; rw [w1] at f1 sc q; rw [w2] at f2 sc q
        obtain ⟨rfl, _⟩ := flat_v f1 r1
        obtain ⟨rfl, _⟩ := flat_v f2 r2
        exact op_ne pins s σ H _ _ v u Q I rx ry ⟨sc, q⟩
      · have w1 := dr_tup z1; have w2 := dr_tup z2; subst w1 w2
        exact ne_emp (by omega) I rx ry r1 r2 he q
      · exact op_neD (by omega) pins s σ H _ _ v u Q I rx ry ⟨p, p', dp_dr R z1 r1, dp_dr R z2 r2, s1, s2, q⟩
  | Lt =>
    simp only [cmpD] at e
    split at e
    · cases rep_int r1; cases rep_int r2
      exact op_lt pins s σ H _ _ v u Q I rx ry ⟨_, _, rfl, rfl, by cases e; exact q⟩
    · cases e
  | LtE =>
    simp only [cmpD] at e
    split at e
    · cases rep_int r1; cases rep_int r2
      exact op_le pins s σ H _ _ v u Q I rx ry ⟨_, _, rfl, rfl, by cases e; exact q⟩
    · cases e
  | Gt =>
    simp only [cmpD] at e
    split at e
    · cases rep_int r1; cases rep_int r2
      exact op_gt pins s σ H _ _ v u Q I rx ry ⟨_, _, rfl, rfl, by cases e; exact q⟩
    · cases e
  | GtE =>
    simp only [cmpD] at e
    split at e
    · cases rep_int r1; cases rep_int r2
      exact op_ge pins s σ H _ _ v u Q I rx ry ⟨_, _, rfl, rfl, by cases e; exact q⟩
    · cases e
  | Is =>
    simp only [cmpD] at e
    split at e
    · cases rep_non r2
      refine op_isN pins s σ H _ _ v u Q I rx ry ⟨rfl, ?_⟩
      rw [← Option.some.inj e] at q
      revert q
      cases d1 <;> simp only [Rep] at r1 <;> first | (subst r1; intro q; simpa using q) | (obtain ⟨a, vs, rfl, _⟩ := r1; intro q; simpa using q) | (obtain ⟨a, rfl, _⟩ := r1; intro q; simpa using q) | (obtain ⟨a, c, vs, rfl, _⟩ := r1; intro q; simpa using q)
    · cases e
  | IsNot =>
    simp only [cmpD] at e
    split at e
    · cases rep_non r2
      refine op_notN pins s σ H _ _ v u Q I rx ry ⟨rfl, ?_⟩
      rw [← Option.some.inj e] at q
      revert q
      cases d1 <;> simp only [Rep] at r1 <;> first | (subst r1; intro q; simpa using q) | (obtain ⟨a, vs, rfl, _⟩ := r1; intro q; simpa using q) | (obtain ⟨a, rfl, _⟩ := r1; intro q; simpa using q) | (obtain ⟨a, c, vs, rfl, _⟩ := r1; intro q; simpa using q)
    · cases e
  | In => exact (op_inX hu I rx ry R r1 r2 (show inD S d1 d2 = some k from e)).1 q
  | NotIn =>
    have e' : (inD S d1 d2).map (!·) = some k := e
    cases e2 : inD S d1 d2 with
    | none => rw [e2] at e'; cases e'
    | some k' =>
      rw [e2] at e'
      have e3 : (!k') = k := Option.some.inj e'
      subst e3
      exact (op_inX hu I rx ry R r1 r2 e2).2 q
end
end Dn

set_option maxHeartbeats 4000000
namespace Dn
open PySem PySem.Spec PyProof.Rows L2

/-! ### what a def promises: its own evaluation -/
abbrev SpG := List V → Hp → VK → Prop
structure FnG (P : Program) (w : World) (K : PySem.W.Frag) (mg : Str → Option Value) (base : Heap) (k : Nat) (f : Addr) (fd : FuncData) (ps : List Str) (sp : SpG) : Prop where
  len : ∀ vs H Q, sp vs H Q → vs.length = ps.length
  run : ∀ (A : Around) (outer : List Env) (s : Shared) (H : Hp) (args : Args) (us : List Value) (vs : List V) (Q : VK), Room k A → A.guards = some [] → Env0 P w K mg base A outer s H → BindsTo s fd args (ps.zip us) → Vals vs us → sp vs H Q →
    codeAny (model P w) A (.call (.ref f) args) (CR CX0 outer P w H s Q E0) s
theorem FnG.mono {P : Program} {w : World} {K : PySem.W.Frag} {mg : Str → Option Value} {base : Heap} {j k : Nat} {f : Addr} {fd : FuncData} {ps : List Str} {sp : SpG} (F : FnG P w K mg base j f fd ps sp) (h : j ≤ k) : FnG P w K mg base k f fd ps sp :=
  ⟨F.len, fun A outer s H args us vs Q hr => F.run A outer s H args us vs Q (hr.mono h)⟩
/-- f at ds, in the store S -/
def spEv (K : PySem.W.Frag) (g : GE) (f : Str) : SpG := fun vs H Q => ∃ μ S ds d S', Rl K μ H S ∧ Reps K μ H ds vs ∧ g.call f ds S = some (d, S') ∧ Pst K μ H S' d Q
theorem fnG_of {P : Program} {w : World} {K : PySem.W.Frag} {mg : Str → Option Value} {base : Heap} {k : Nat} {f : Addr} {name qual : Str} {params : Arguments} {body : List Stmt} {scope : Scope} {dV kV doc pm cdv ct oc : Value} {an od : Option Addr}
    {osl : Array (Option Value)} {N ps : List Str} {sp : SpG} (lk : K.lookup f = some ⟨oc, od, .func (PySem.W.fnOf name qual params body scope dV kV doc pm an cdv ct), osl⟩) (hcd : PySem.W.codeIn K cdv qual = true) (S : FnScope N ps scope)
    (len : ∀ vs H Q, sp vs H Q → vs.length = ps.length)
    (hbody : ∀ (A : Around) (outer : List Env) (s : Shared) (H : Hp) (vs : List V) (Q : VK), Room k (A.deeper (envOfC qual scope s.heap.objs.size f cdv)) → A.guards = some [] → sp vs H Q →
      ∃ t, PSs (cxOf CX0 P w K mg base N qual scope f cdv A outer s H E0) body t ∧ t { nx := fun _ H' => Q .non H', rt := Q } (start N vs) H) :
    FnG P w K mg base (k + 1) f (PySem.W.fnOf name qual params body scope dV kV doc pm an cdv ct) ps sp := by
  refine ⟨len, fun A outer s H args us vs Q room guards at0 bound rel promise => ?_⟩
  have inBase := fun b o e => (at0.bs b o e).1
  have written : K.In s.heap := at0.mod.kin.keeps inBase
  have kinds : ∀ y ∈ ps.zip us, scope.names.lookup y.1 = some .local ∨ (scope.names.lookup y.1 = some .cell ∧ ((cellsFrom (s.heap.objs.size + 1) scope.names []).lookup y.1).isSome = true) := by
    rintro ⟨x, z⟩ hx
    cases S.par x (List.of_mem_zip hx).1 with
    | inl q => exact .inl q
    | inr q => exact .inr ⟨q, PySem.W.cellsFrom_some _ _ _ (.inl q)⟩
  apply codeAny_call_function room.depth (written _ _ lk) rfl S.co S.gen rfl (PySem.W.codeRec_of written hcd)
  apply bound
  apply wpAny_newFunctionEnv_cells S.kind kinds
  rintro env rfl s1 came
  refine ⟨(at0.mod.nolimit.keeps inBase).keeps came.toInCall.keep, codeAny_func ?_⟩
  obtain ⟨t, okB, atB⟩ := hbody A outer s H vs Q (room.deeper _) guards promise
  have J := inv_start (CX := CX0) (E := E0) S room.hd at0 (len _ _ _ promise) rel came
  apply wpAny_mono (okB.run [] s1 (start N vs) H _ J atB)
  · intro fl s2 ended
    cases fl with
    | ret u =>
      obtain ⟨z, σ2, H2, J2, rz, q⟩ := ended
      exact ⟨z, H2, J2.os, J2.bare, J2.base, J2.hok, rz, q⟩
    | next =>
      obtain ⟨σ2, H2, J2, q⟩ := ended
      exact ⟨V.non, H2, J2.os, J2.bare, J2.base, J2.hok, rfl, q⟩
    | brk => exact ended.elim fun _ h => h.elim fun _ h => h.2.elim
    | cont => exact ended.elim fun _ h => h.elim fun _ h => h.2.elim
  · exact fun _ _ h => h
/-! ### what stands around an expression -/
structure Kt where
  N : List Str
  sc : Scope
  /-- names whose cells are the block's own -/
  fl : Str → Bool
  /-- built-in names that the module leaves as they are -/
  free : List Str
  /-- built-in functions brought in -/
  bf : List (Str × String)
  fns : List Str
  /-- calls with keywords: the def, how many positional, the keywords -/
  kwl : List (Str × Nat × List Str)
  /-- the module's data that may be read -/
  dn : List Str
  /-- the module's dicts from texts to whole numbers -/
  dd : List (Str × List (Str × Int))
  /-- own exception classes: the field that __init__ keeps, if they have one -/
  cls : List (Str × Option Str)
  /-- isinstance with a class: those of the classes that stand under it -/
  isx : List (Str × List Str)
structure Kc extends Kt where
  g : GE
def pickV (xs : List Value) (pl : List Nat) : List Value := pl.map fun i => xs.getD i .none
/-- where a def stands, and what it keeps -/
structure CallOk (X : Cx) (k : Kc) (f : Str) (a : Addr) (fd : FuncData) (ps : List Str) (lv : Nat) : Prop where
  mg : X.mg f = some (.ref a)
  kp : PySem.W.keepIn X.K (.ref a) = true
  bd : Binds X.K fd ps []
  fn : FnG X.prog X.w X.K X.mg X.base lv a fd ps (spEv X.K k.g f)
  rm : Room lv X.A
  kw : ∀ (n : Nat) (ks : List Str) (pl : List Nat), (f, n, ks) ∈ k.kwl → k.g.kw f n ks = some pl → pl.length = ps.length ∧ ∀ (s : Shared) (us ws : List Value), us.length = n → ws.length = ks.length → BindsTo s fd ⟨us, ks.zip ws⟩ (ps.zip (pickV (us ++ ws) pl))
/-- a dict of the module -/
def Kdi (K : PySem.W.Frag) (w : World) (a : Addr) (kvs : List (Str × Int)) : Prop := ∃ es n, KDict K w a es n ∧ (∀ z i, kvs.lookup z = some i → ∃ u, PySem.W.nsIn K a z = some (some u) ∧ RelV (.int i) u) ∧ ∀ z, kvs.lookup z = none → PySem.W.nsIn K a z = some none
/-- what an own exception's __init__ does -/
def spIn (K : PySem.W.Frag) (f : Str) : SpG := fun vs H Q => ∃ (a C : Addr) (y : V), vs = [.ref a, y] ∧ OexC K C ∧ PySem.W.findIn K (.ref C) f = some none ∧ H a = some (exo a C none) ∧ ∀ dx, H dx = none → dx ≠ a → Q .non (upd (upd H dx (exd dx [(f, y)])) a (exo a C (some dx)))
structure InitOk (X : Cx) (c : Addr) (f : Str) (fI : Addr) (fd : FuncData) (me : Str) : Prop where
  iC : PySem.W.findIn X.K (.ref c) "__init__" = some (some (.ref fI))
  tI : PySem.W.typeIn X.K (.ref fI) = some (.type "function")
  fn : FnG X.prog X.w X.K X.mg X.base 1 fI fd [me, f] (spIn X.K f)
  b1 : ∀ (s : Shared) (a u : Value), BindsTo s fd ⟨[a, u], []⟩ [(me, a), (f, u)]
  b2 : ∀ (s : Shared) (a u : Value), BindsTo s fd ⟨[a], [(f, u)]⟩ [(me, a), (f, u)]
def veBase : List Value := [.type "ValueError", .type "Exception", .type "BaseException", .type "object"]
structure ClsOk (X : Cx) (cn : Str) (fo : Option Str) (c : Addr) : Prop where
  at_ : ClsAt X.K cn c
  mg : X.mg cn = some (.ref c)
  T : OexC X.K c
  xc : ExcC X.K c
  xf : XfC X.K c
  ini : ∀ f, fo = some f → PySem.W.findIn X.K (.ref c) f = some none ∧ ∃ fI fd self, InitOk X c f fI fd self
  bare : fo = none → PySem.W.excIn X.K c veBase "ValueError.__new__" = true
structure KcOk (X : Cx) (k : Kc) : Prop where
  N : k.N = X.N
  sc : k.sc = X.env.scope
  nd : X.N.Nodup
  calm : X.calm = true
  hu : X.A.units + 66 < cLine
  gd : X.A.guards = some []
  fl : ∀ x, k.fl x = true → X.fn x = true
  data : ∀ x d, k.g.data.lookup x = some d → ∃ u v, X.mg x = some u ∧ RelV v u ∧ ∀ μ H, Rep X.K μ H d v
  dn : ∀ x ∈ k.dn, (k.g.data.lookup x).isSome = true
  free : ∀ x ∈ k.free, X.mg x = none
  bf : ∀ x id, k.bf.lookup x = some id → X.mg x = some (.builtin id)
  call : ∀ f ∈ k.fns, ∃ a fd ps lv, CallOk X k f a fd ps lv
  dd : ∀ x kvs, k.dd.lookup x = some kvs → ∃ a, X.mg x = some (.ref a) ∧ Kdi X.K X.w a kvs
  sys : ∃ o, X.K.lookup sysModules = some o ∧ o.cls = .type "dict"
  r2 : Room 2 X.A
  cls : ∀ cn fo, k.cls.lookup cn = some fo → ∃ c, ClsOk X cn fo c
  isx : ∀ T cs, k.isx.lookup T = some cs → ∃ (tc : V) (tv : Value), (∀ u, RelV tc u → u = tv) ∧ ((X.mg T = some tv ∧ RelV tc tv) ∨ (X.mg T = none ∧ ∃ Ts : String, bootBuiltins T = some (.type Ts) ∧ tc = .ty Ts ∧ tv = .type Ts)) ∧
    ∀ cn fo c, k.cls.lookup cn = some fo → ClsAt X.K cn c → PySem.W.kitOne X.K (.ref c) tv = some (cs.contains cn)

/-! ### readings -/
def tEv (K : PySem.W.Frag) (G : GE) (c : C) : TE := fun σ H Q => ∃ μ δ S d S', RepEnv K μ H σ δ ∧ Rl K μ H S ∧ evE G c δ S = some (d, S') ∧ Pst K μ H S' d Q
def tTv (K : PySem.W.Frag) (G : GE) (c : C) : TT := fun σ H Q => ∃ μ δ S b S', RepEnv K μ H σ δ ∧ Rl K μ H S ∧ evT G c δ S = some (b, S') ∧ ∀ H' μ', Ext μ H μ' H' → Rl K μ' H' S' → Q b H'
def tEvs (K : PySem.W.Frag) (G : GE) (cs : List C) : TA := fun σ H Q => ∃ μ δ S ds S', RepEnv K μ H σ δ ∧ Rl K μ H S ∧ evEs G cs δ S = some (ds, S') ∧ ∀ vs H' μ', Ext μ H μ' H' → Rl K μ' H' S' → Reps K μ' H' ds vs → Q vs H'
section
variable {X : Cx} {k : Kc}
theorem _root_.L2.PE.imp {e : Expr} {t t' : TE} (h : PE X e t) (i : ∀ σ H Q, t' σ H Q → t σ H Q) : PE X e t' := ⟨fun pins s σ H Q I q => h.run pins s σ H Q I (i σ H Q q)⟩
theorem _root_.L2.PT.imp {e : Expr} {t t' : TT} (h : PT X e t) (i : ∀ σ H Q, t' σ H Q → t σ H Q) : PT X e t' := ⟨fun pins s σ H Q I q => h.run pins s σ H Q I (i σ H Q q)⟩
theorem _root_.L2.PW.imp {e : Expr} {t t' : TT} (h : PW X e t) (i : ∀ σ H Q, t' σ H Q → t σ H Q) : PW X e t' := ⟨fun w pins s σ H Q I q => h.run w pins s σ H Q I (i σ H Q q)⟩
theorem _root_.L2.PA.imp {es : List Expr} {t t' : TA} (h : PA X es t) (i : ∀ σ H Q, t' σ H Q → t σ H Q) : PA X es t' := ⟨fun pos pins s σ H Q I q => h.run pos pins s σ H Q I (i σ H Q q)⟩
theorem _root_.L2.PK.imp {es : List Keyword} {t t' : TA} (h : PK X es t) (i : ∀ σ H Q, t' σ H Q → t σ H Q) : PK X es t' := ⟨fun pos pins s σ H Q I q => h.run pos pins s σ H Q I (i σ H Q q)⟩
theorem _root_.L2.PS.imp {e : Stmt} {t t' : TS} (h : PS X e t) (i : ∀ D σ H, t' D σ H → t D σ H) : PS X e t' := ⟨fun pins s σ H D I q => h.run pins s σ H D I (i D σ H q)⟩
theorem _root_.L2.PSs.imp {e : List Stmt} {t t' : TS} (h : PSs X e t) (i : ∀ D σ H, t' D σ H → t D σ H) : PSs X e t' := ⟨fun pins s σ H D I q => h.run pins s σ H D I (i D σ H q)⟩
theorem bindS {α β : Type} {o : Option α} {f : α → Option β} {b : β} (h : o.bind f = some b) : ∃ a, o = some a ∧ f a = some b := by
  cases o with
  | none => cases h
  | some a => exact ⟨a, rfl, h⟩
theorem mapS {α β : Type} {o : Option α} {f : α → β} {b : β} (h : o.map f = some b) : ∃ a, o = some a ∧ f a = b := by
  cases o with
  | none => cases h
  | some a => exact ⟨a, rfl, Option.some.inj h⟩

/-! ### leaves -/
theorem e_const {e : Expr} {v : V} {c : C} {d : D} (h : PE X e (tC v)) (ev : ∀ δ S, evE k.g c δ S = some (d, S)) (r : ∀ μ H, Rep X.K μ H d v) : PE X e (tEv X.K k.g c) := h.imp fun σ H Q ⟨μ, δ, S, d', S', E, R, e1, q⟩ => by
  rw [ev] at e1; cases e1
  exact q.at R (r μ H)
theorem e_non {j pos} : PE X (.Constant .none j pos) (tEv X.K k.g .non) := e_const pe_non (fun _ _ => by simp only [evE]) fun _ _ => mk_non
theorem e_bl {b j pos} : PE X (.Constant (.bool b) j pos) (tEv X.K k.g (.bl b)) := e_const pe_bl (fun _ _ => by simp only [evE]) fun _ _ => mk_bl
theorem e_int {b j pos} : PE X (.Constant (.int b) j pos) (tEv X.K k.g (.int b)) := e_const pe_int (fun _ _ => by simp only [evE]) fun _ _ => mk_int
theorem e_str {b j pos} : PE X (.Constant (.str b) j pos) (tEv X.K k.g (.str b)) := e_const pe_str (fun _ _ => by simp only [evE]) fun _ _ => mk_str
def visB (sc : Scope) (x : Str) : Bool := match sc.names.lookup x with
  | some .local => true
  | some .cell => true
  | some .free => true
  | _ => false
theorem visB_ok {sc : Scope} {x : Str} (h : visB sc x = true) : Vis sc x := by
  unfold visB at h
  unfold Vis
  split at h
  · exact .inl (by assumption)
  · exact .inr (.inl (by assumption))
  · exact .inr (.inr (by assumption))
  · cases h
def glB (sc : Scope) (x : Str) : Bool := decide (sc.names.lookup x = some .globalImplicit)
theorem glB_ok (hk : KcOk X k) {x : Str} (h : glB k.sc x = true) : Gl X x := by
  have h2 : k.sc.names.lookup x = some .globalImplicit := of_decide_eq_true h
  rw [hk.sc] at h2
  exact h2
def nmB (x : Str) : Bool := !(x == ("__debug__" : Str)) && !(x == ("__classdict__" : Str)) && !(decide (x = ("__name__" : Str)))
theorem nmB_ok {x : Str} (h : nmB x = true) : (x == ("__debug__" : Str)) = false ∧ (x == ("__classdict__" : Str)) = false ∧ x ≠ ("__name__" : Str) := by
  unfold nmB at h
  simp only [Bool.and_eq_true, Bool.not_eq_true', decide_eq_false_iff_not] at h
  exact ⟨h.1.1, h.1.2, h.2⟩
theorem e_var (hk : KcOk X k) {i : Nat} {x : Str} {pos : Pos} (h1 : k.N[i]? = some x) (h2 : visB k.sc x = true) (h3 : nmB x = true) : PE X (.Name x pos) (tEv X.K k.g (.var i)) := by
  obtain ⟨n1, n2, _⟩ := nmB_ok h3
  refine (pe_var (X := X) (i := i) (by rw [← hk.N]; exact h1) (by rw [← hk.sc]; exact visB_ok h2) n1 n2).imp fun σ H Q ⟨μ, δ, S, d, S', E, R, e1, q⟩ => ?_
  simp only [evE] at e1
  cases e2 : δ[i]? with
  | none => rw [e2] at e1; cases e1
  | some o =>
    cases o with
    | none => rw [e2] at e1; cases e1
    | some d' =>
      rw [e2] at e1
      cases e1
      obtain ⟨v, e3, r⟩ := E.2 i _ e2
      exact ⟨v, e3, q.at R r⟩
theorem e_glo (hk : KcOk X k) {x : Str} {pos : Pos} (h1 : glB k.sc x = true) (h2 : nmB x = true) (h3 : (k.g.data.lookup x).isSome = true) : PE X (.Name x pos) (tEv X.K k.g (.glo x)) := by
  obtain ⟨d, hd⟩ := Option.isSome_iff_exists.mp h3
  obtain ⟨u, v, m, r, rp⟩ := hk.data x d hd
  refine e_const (pe_glob (glB_ok hk h1) m r (nmB_ok h2).1) (fun _ _ => ?_) rp
  simp only [evE, hd, Option.map_some]

/-! ### argument lists -/
/-- no starred, set, slice -/
def plainX : Expr → Bool
  | .Starred _ _ => false
  | .Set _ _ _ => false
  | .Slice _ _ _ _ => false
  | _ => true
theorem star_of {e : Expr} (h : plainX e = true) (es : List Expr) (env : Env) : starEach (e :: es) env = (false, eval e env) :: starEach es env := by
  cases e <;> first | rfl | cases h
theorem nostar : ∀ {es : List Expr}, es.all plainX = true → ∀ (pos : Pos) (env : Env), (backTo pos (starEach es env)).any (·.1) = false
  | [], _, _, _ => rfl
  | e :: es, h, pos, env => by
    obtain ⟨h1, h2⟩ := Bool.and_eq_true_iff.mp (show (plainX e && es.all plainX) = true from h)
    rw [star_of h1]
    show (false || (backTo pos (starEach es env)).any (·.1)) = false
    rw [nostar h2]; rfl
theorem as_nil : PA X [] (tEvs X.K k.g []) := pa_nil.imp fun σ H Q ⟨μ, δ, S, ds, S', E, R, e1, q⟩ => by
  simp only [evEs] at e1; cases e1
  exact q [] H μ Ext.refl R Reps.nil
theorem as_cons {e : Expr} {es : List Expr} {c : C} {cs : List C} (h1 : PE X e (tEv X.K k.g c)) (h2 : PA X es (tEvs X.K k.g cs)) (hp : plainX e = true) : PA X (e :: es) (tEvs X.K k.g (c :: cs)) := (pa_cons h1 h2 (star_of hp _ _)).imp fun σ H Q ⟨μ, δ, S, ds, S', E, R, e1, q⟩ => by
  simp only [evEs] at e1
  obtain ⟨⟨d, S1⟩, e2, e3⟩ := bindS e1
  obtain ⟨⟨r, S2⟩, e4, e5⟩ := mapS e3
  cases e5
  refine ⟨μ, δ, S, d, S1, E, R, e2, fun v H1 μ1 E1 R1 p1 => ⟨μ1, δ, S1, r, S2, E.mono R E1, R1, e4, fun vs H2 μ2 E2 R2 p2 => ?_⟩⟩
  exact q (v :: vs) H2 μ2 (E1.trans E2) R2 (Reps.cons (p1.mono R1 E2) p2)
theorem ks_nil : PK X [] (tEvs X.K k.g []) := pk_nil.imp fun σ H Q ⟨μ, δ, S, ds, S', E, R, e1, q⟩ => by
  simp only [evEs] at e1; cases e1
  exact q [] H μ Ext.refl R Reps.nil
theorem ks_cons {e : Expr} {es : List Keyword} {c : C} {cs : List C} {nm : Option Str} {kp : Pos} (h1 : PE X e (tEv X.K k.g c)) (h2 : PK X es (tEvs X.K k.g cs)) : PK X (⟨nm, e, kp⟩ :: es) (tEvs X.K k.g (c :: cs)) := (pk_cons h1 h2).imp fun σ H Q ⟨μ, δ, S, ds, S', E, R, e1, q⟩ => by
  simp only [evEs] at e1
  obtain ⟨⟨d, S1⟩, e2, e3⟩ := bindS e1
  obtain ⟨⟨r, S2⟩, e4, e5⟩ := mapS e3
  cases e5
  refine ⟨μ, δ, S, d, S1, E, R, e2, fun v H1 μ1 E1 R1 p1 => ⟨μ1, δ, S1, r, S2, E.mono R E1, R1, e4, fun vs H2 μ2 E2 R2 p2 => ?_⟩⟩
  exact q (v :: vs) H2 μ2 (E1.trans E2) R2 (Reps.cons (p1.mono R1 E2) p2)

/-! ### displays -/
theorem e_tup {es : List Expr} {cs : List C} {x1 pos} (h : PA X es (tEvs X.K k.g cs)) : PE X (.Tuple es x1 pos) (tEv X.K k.g (.tup cs)) := (pe_tup h).imp fun σ H Q ⟨μ, δ, S, d, S', E, R, e1, q⟩ => by
  simp only [evE] at e1
  obtain ⟨⟨ds, S1⟩, e2, e3⟩ := bindS e1
  split at e3
  · rename_i hl
    cases e3
    refine ⟨μ, δ, S, ds, _, E, R, e2, fun vs H1 μ1 E1 R1 p1 => ⟨by rw [sizeL, ← p1.length]; exact hl, fun p hp => ?_⟩⟩
    exact (q.ext E1).new R1 hp (mk_tup (SqT.of upd_same) (p1.mono R1 (Ext.new hp)))
  · cases e3
theorem e_lst {es : List Expr} {cs : List C} {own : Option Bool} {pos} (h : PA X es (tEvs X.K k.g cs)) : PE X (.List es pos) (tEv X.K k.g (.lst own cs)) := (pe_lst h).imp fun σ H Q ⟨μ, δ, S, d, S', E, R, e1, q⟩ => by
  simp only [evE] at e1
  obtain ⟨⟨ds, S1⟩, e2, e3⟩ := bindS e1
  split at e3
  · rename_i hl
    refine ⟨μ, δ, S, ds, S1, E, R, e2, fun vs H1 μ1 E1 R1 p1 => ⟨by rw [sizeL, ← p1.length]; exact hl, fun p hp => ?_⟩⟩
    cases own with
    | none =>
      cases e3
      exact (q.ext E1).new R1 hp (mk_lst (R1.fz hp) upd_same (p1.mono R1 (Ext.new hp)))
    | some kp =>
      cases e3
      refine q _ _ (μ1.push p) (E1.trans (Ext.push hp)) (R1.push hp p1) (mk_ref ?_)
      show (μ1.ad ++ [p])[S1.length]? = some p
      rw [← R1.len, List.getElem?_append_right (Nat.le_refl _)]
      simp
  · cases e3
theorem e_dic0 {pos} : PE X (.Dict [] [] pos) (tEv X.K k.g .dic0) := pe_dnewK.imp fun σ H Q ⟨μ, δ, S, d, S', E, R, e1, q⟩ => by
  simp only [evE] at e1; cases e1
  intro p hp
  refine q.new R hp ?_
  simp only [Rep]
  exact ⟨p, [], rfl, R.fz hp, rfl, upd_same, Reps.nil⟩
theorem upd_twice {H : Hp} {p : Addr} {a b : HO} : upd (upd H p a) p b = upd H p b := by
  funext c
  by_cases e : c = p
  · subst e; rw [upd_same, upd_same]
  · rw [upd_ne e, upd_ne e, upd_ne e]
theorem e_dic1 {x : Str} {i : Int} {j1 j2 : Nat} {p1 p2 pos : Pos} : PE X (.Dict [some (.Constant (.str x) j1 p1)] [.Constant (.int i) j2 p2] pos) (tEv X.K k.g (.dic1 x i)) :=
  (pe_disp (pps_cons (pe_str (X := X)) (pe_int (X := X)) pps_nil) rfl rfl (by simp) (by simp)).imp fun σ H Q ⟨μ, δ, S, d, S', E, R, e1, q⟩ => by
  simp only [evE] at e1; cases e1
  intro p hp
  refine ⟨upd_same, [(.inr x, .int i)], rfl, by simp, ?_⟩
  rw [upd_twice]
  refine q.new R hp ?_
  simp only [Rep]
  exact ⟨p, [.int i], rfl, R.fz hp, rfl, upd_same, Reps.cons mk_int Reps.nil⟩
end
end Dn

set_option maxHeartbeats 4000000
namespace Dn
open PySem PySem.Spec PyProof.Rows L2

section
variable {K : PySem.W.Frag} {G : GE} {σ : L2.St} {H : Hp} {μ : Mu} {δ : En} {S S1 S2 S3 : Sto} {a b c : C} {d1 d2 d3 : D}
theorem ev1 (E : RepEnv K μ H σ δ) (R : Rl K μ H S) (ea : evE G a δ S = some (d1, S1)) {W : V → Hp → Prop}
    (go : ∀ x H1 μ1, Ext μ H μ1 H1 → Rl K μ1 H1 S1 → RepEnv K μ1 H1 σ δ → Rep K μ1 H1 d1 x → W x H1) : tEv K G a σ H W :=
  ⟨μ, δ, S, d1, S1, E, R, ea, fun v H1 μ1 E1 R1 p1 => go v H1 μ1 E1 R1 (E.mono R E1) p1⟩
theorem ev2 (E : RepEnv K μ H σ δ) (R : Rl K μ H S) (ea : evE G a δ S = some (d1, S1)) (eb : evE G b δ S1 = some (d2, S2)) {W : V → V → Hp → Prop}
    (go : ∀ x y H2 μ2, Ext μ H μ2 H2 → Rl K μ2 H2 S2 → RepEnv K μ2 H2 σ δ → Rep K μ2 H2 d1 x → Rep K μ2 H2 d2 y → W x y H2) : tEv K G a σ H fun x H1 => tEv K G b σ H1 fun y H2 => W x y H2 :=
  ev1 E R ea fun x H1 μ1 E1 R1 N1 p1 => ev1 N1 R1 eb fun y H2 μ2 E2 R2 N2 p2 => go x y H2 μ2 (E1.trans E2) R2 N2 (p1.mono R1 E2) p2
theorem evs1 {cs : List C} {ds : List D} (E : RepEnv K μ H σ δ) (R : Rl K μ H S) (ea : evEs G cs δ S = some (ds, S1)) {W : List V → Hp → Prop}
    (go : ∀ xs H1 μ1, Ext μ H μ1 H1 → Rl K μ1 H1 S1 → RepEnv K μ1 H1 σ δ → Reps K μ1 H1 ds xs → W xs H1) : tEvs K G cs σ H W :=
  ⟨μ, δ, S, ds, S1, E, R, ea, fun v H1 μ1 E1 R1 p1 => go v H1 μ1 E1 R1 (E.mono R E1) p1⟩
theorem tv1 {b : Bool} (E : RepEnv K μ H σ δ) (R : Rl K μ H S) (ea : evT G a δ S = some (b, S1)) {W : Bool → Hp → Prop}
    (go : ∀ H1 μ1, Ext μ H μ1 H1 → Rl K μ1 H1 S1 → RepEnv K μ1 H1 σ δ → W b H1) : tTv K G a σ H W :=
  ⟨μ, δ, S, b, S1, E, R, ea, fun H1 μ1 E1 R1 => go H1 μ1 E1 R1 (E.mono R E1)⟩
end

section
variable {X : Cx} {k : Kc} {x y z : Expr} {a b c : C} {pos : Pos}
theorem e_bin {o : Operator} (ha : PE X x (tEv X.K k.g a)) (hb : PE X y (tEv X.K k.g b)) : PE X (.BinOp x o y pos) (tEv X.K k.g (.bin o a b)) := (pe_op (op_bin o) ha hb).imp fun σ H Q ⟨μ, δ, S, d, S', E, R, e1, q⟩ => by
  simp only [evE] at e1
  obtain ⟨⟨d1, S1⟩, e2, e3⟩ := bindS e1
  obtain ⟨⟨d2, S2⟩, e4, e5⟩ := bindS e3
  obtain ⟨r, e6, e7⟩ := mapS e5
  cases e7
  exact ev2 E R e2 e4 fun x y H2 μ2 E2 R2 _ p1 p2 => ⟨μ2, S2, d1, d2, d, R2, p1, p2, e6, q.ext E2⟩
theorem e_neg (ha : PE X x (tEv X.K k.g a)) : PE X (.UnaryOp .USub x pos) (tEv X.K k.g (.neg a)) := (pe_un un_neg ha).imp fun σ H Q ⟨μ, δ, S, d, S', E, R, e1, q⟩ => by
  simp only [evE] at e1
  obtain ⟨⟨d1, S1⟩, e2, e3⟩ := bindS e1
  refine ev1 E R e2 fun x H1 μ1 E1 R1 _ p1 => ?_
  cases d1 with
  | int i =>
    cases e3
    cases rep_int p1
    exact ⟨i, rfl, (q.ext E1).at R1 mk_int⟩
  | _ => cases e3
theorem e_cmp (hk : KcOk X k) {o : CmpOp} (ha : PE X x (tEv X.K k.g a)) (hb : PE X y (tEv X.K k.g b)) (hm : plainX y = true) : PE X (.Compare x [o] [y] pos) (tEv X.K k.g (.cmp o a b)) :=
  (pe_cmpR (op_cmp hk.hu o) ha hb (by cases y <;> first | rfl | cases hm)).imp fun σ H Q ⟨μ, δ, S, d, S', E, R, e1, q⟩ => by
  simp only [evE] at e1
  obtain ⟨⟨d1, S1⟩, e2, e3⟩ := bindS e1
  obtain ⟨⟨d2, S2⟩, e4, e5⟩ := bindS e3
  obtain ⟨r, e6, e7⟩ := mapS e5
  cases e7
  exact ev2 E R e2 e4 fun x y H2 μ2 E2 R2 _ p1 p2 => ⟨μ2, S2, d1, d2, r, R2, p1, p2, e6, (q.ext E2).at R2 mk_bl⟩
theorem t_cmp (hk : KcOk X k) {o : CmpOp} (ha : PE X x (tEv X.K k.g a)) (hb : PE X y (tEv X.K k.g b)) (hm : plainX y = true) : PT X (.Compare x [o] [y] pos) (tTv X.K k.g (.cmp o a b)) :=
  (pt_cmpR (op_cmp hk.hu o) ha hb (by cases y <;> first | rfl | cases hm)).imp fun σ H Q ⟨μ, δ, S, d, S', E, R, e1, q⟩ => by
  simp only [evT] at e1
  obtain ⟨⟨d1, S1⟩, e2, e3⟩ := bindS e1
  obtain ⟨⟨d2, S2⟩, e4, e5⟩ := bindS e3
  obtain ⟨r, e6, e7⟩ := mapS e5
  cases e7
  exact ev2 E R e2 e4 fun x y H2 μ2 E2 R2 _ p1 p2 => ⟨μ2, S2, d1, d2, d, R2, p1, p2, e6, d, rfl, q H2 μ2 E2 R2⟩
theorem last2 {o o' : CmpOp} {y z : Expr} (hm : plainX z = true) : lastMarks [o, o'] [y, z] = false := by
  show behindInMarks o' z = false
  cases z <;> first | rfl | cases hm
theorem e_cmp2 (hk : KcOk X k) {o o' : CmpOp} (ha : PE X x (tEv X.K k.g a)) (hb : PE X y (tEv X.K k.g b)) (hc : PE X z (tEv X.K k.g c)) (hm : plainX z = true) : PE X (.Compare x [o, o'] [y, z] pos) (tEv X.K k.g (.cmp2 o o' a b c)) :=
  (pe_chain (op_cmp hk.hu o) (op_cmp hk.hu o') ha hb hc (last2 hm)).imp fun σ H Q ⟨μ, δ, S, d, S', E, R, e1, q⟩ => by
  simp only [evE] at e1
  obtain ⟨⟨d1, S1⟩, e2, e3⟩ := bindS e1
  obtain ⟨⟨d2, S2⟩, e4, e5⟩ := bindS e3
  obtain ⟨r, e6, e7⟩ := bindS e5
  refine ev2 E R e2 e4 fun x y H2 μ2 E2 R2 N2 p1 p2 => ⟨μ2, S2, d1, d2, r, R2, p1, p2, e6, r, rfl, ?_⟩
  cases r with
  | false =>
    rw [if_neg Bool.false_ne_true] at e7 ⊢
    cases e7
    exact (q.ext E2).at R2 mk_bl
  | true =>
    rw [if_pos rfl] at e7 ⊢
    obtain ⟨⟨d3, S3⟩, e8, e9⟩ := bindS e7
    obtain ⟨r', e10, e11⟩ := mapS e9
    cases e11
    exact ev1 N2 R2 e8 fun w H3 μ3 E3 R3 _ p3 => ⟨μ3, S3, d2, d3, r', R3, p2.mono R2 E3, p3, e10, (q.ext (E2.trans E3)).at R3 mk_bl⟩
theorem t_cmp2 (hk : KcOk X k) {o o' : CmpOp} (ha : PE X x (tEv X.K k.g a)) (hb : PE X y (tEv X.K k.g b)) (hc : PE X z (tEv X.K k.g c)) (hm : plainX z = true) : PT X (.Compare x [o, o'] [y, z] pos) (tTv X.K k.g (.cmp2 o o' a b c)) :=
  (pt_chain (op_cmp hk.hu o) (op_cmp hk.hu o') ha hb hc (last2 hm)).imp fun σ H Q ⟨μ, δ, S, d, S', E, R, e1, q⟩ => by
  simp only [evT] at e1
  obtain ⟨⟨d1, S1⟩, e2, e3⟩ := bindS e1
  obtain ⟨⟨d2, S2⟩, e4, e5⟩ := bindS e3
  obtain ⟨r, e6, e7⟩ := bindS e5
  refine ev2 E R e2 e4 fun x y H2 μ2 E2 R2 N2 p1 p2 => ⟨μ2, S2, d1, d2, r, R2, p1, p2, e6, r, rfl, ?_⟩
  cases r with
  | false =>
    rw [if_neg Bool.false_ne_true] at e7 ⊢
    cases e7
    exact ⟨false, rfl, q H2 μ2 E2 R2⟩
  | true =>
    rw [if_pos rfl] at e7 ⊢
    obtain ⟨⟨d3, S3⟩, e8, e9⟩ := bindS e7
    obtain ⟨r', e10, e11⟩ := mapS e9
    cases e11
    exact ev1 N2 R2 e8 fun w H3 μ3 E3 R3 _ p3 => ⟨μ3, S3, d2, d3, d, R3, p2.mono R2 E3, p3, e10, d, rfl, q H3 μ3 (E2.trans E3) R3⟩
/-! ### and, or, not, if -/
theorem t_not (ha : PT X x (tTv X.K k.g a)) : PT X (.UnaryOp .Not x pos) (tTv X.K k.g (.not a)) := (pt_not ha).imp fun σ H Q ⟨μ, δ, S, d, S', E, R, e1, q⟩ => by
  simp only [evT] at e1
  obtain ⟨⟨b, S1⟩, e2, e3⟩ := mapS e1
  cases e3
  exact tv1 E R e2 fun H1 μ1 E1 R1 _ => q H1 μ1 E1 R1
/-- the rest of a row of and, or -/
def restX (o : BoolOp) (pos : Pos) : List Expr → Expr
  | [y] => y
  | r => .BoolOp o r pos
theorem e_and {r : List Expr} (ha : PE X x (tEv X.K k.g a)) (hb : PE X (restX .And pos (y :: r)) (tEv X.K k.g b)) : PE X (.BoolOp .And (x :: y :: r) pos) (tEv X.K k.g (.and a b)) := by
  have hb' : PE X (.BoolOp .And (y :: r) pos) (tEv X.K k.g b) := by
    cases r with
    | nil => exact pe_one hb
    | cons z r => exact hb
  refine (pe_and ha hb').imp fun σ H Q ⟨μ, δ, S, d, S', E, R, e1, q⟩ => ?_
  simp only [evE] at e1
  obtain ⟨⟨d1, S1⟩, e2, e3⟩ := bindS e1
  refine ev1 E R e2 fun x H1 μ1 E1 R1 N1 p1 => ?_
  cases d1 with
  | bl t =>
    cases rep_bl p1
    cases t with
    | true =>
      refine ⟨true, rfl, ?_⟩
      rw [if_pos rfl]
      exact ⟨μ1, δ, S1, d, S', N1, R1, e3, q.ext E1⟩
    | false =>
      cases e3
      refine ⟨false, rfl, ?_⟩
      rw [if_neg Bool.false_ne_true]
      exact (q.ext E1).at R1 mk_bl
  | _ => cases e3
theorem e_or {r : List Expr} (ha : PE X x (tEv X.K k.g a)) (hb : PE X (restX .Or pos (y :: r)) (tEv X.K k.g b)) : PE X (.BoolOp .Or (x :: y :: r) pos) (tEv X.K k.g (.or a b)) := by
  have hb' : PE X (.BoolOp .Or (y :: r) pos) (tEv X.K k.g b) := by
    cases r with
    | nil => exact pe_one hb
    | cons z r => exact hb
  refine (pe_or ha hb').imp fun σ H Q ⟨μ, δ, S, d, S', E, R, e1, q⟩ => ?_
  simp only [evE] at e1
  obtain ⟨⟨d1, S1⟩, e2, e3⟩ := bindS e1
  refine ev1 E R e2 fun x H1 μ1 E1 R1 N1 p1 => ?_
  cases d1 with
  | bl t =>
    cases rep_bl p1
    cases t with
    | false =>
      refine ⟨false, rfl, ?_⟩
      rw [if_neg Bool.false_ne_true]
      exact ⟨μ1, δ, S1, d, S', N1, R1, e3, q.ext E1⟩
    | true =>
      cases e3
      refine ⟨true, rfl, ?_⟩
      rw [if_pos rfl]
      exact (q.ext E1).at R1 mk_bl
  | _ => cases e3
theorem pt_pw {o : BoolOp} {r : List Expr} {t : TT} (h : PT X (restX o pos (y :: r)) t) : PW X (.BoolOp o (y :: r) pos) t := by
  cases r with
  | nil =>
    cases o with
    | And => exact pw_and1 h
    | Or => exact pw_or1 h
  | cons z r =>
    refine ⟨fun wh pins s σ H Q I q => ?_⟩
    have := h.run pins s σ H Q I q
    cases o <;> exact this
theorem t_and {r : List Expr} (ha : PT X x (tTv X.K k.g a)) (hb : PT X (restX .And pos (y :: r)) (tTv X.K k.g b)) : PT X (.BoolOp .And (x :: y :: r) pos) (tTv X.K k.g (.and a b)) := by
  refine ((pw_and ha (pt_pw hb)).pt).imp fun σ H Q ⟨μ, δ, S, d, S', E, R, e1, q⟩ => ?_
  simp only [evT] at e1
  obtain ⟨⟨t, S1⟩, e2, e3⟩ := bindS e1
  refine tv1 E R e2 fun H1 μ1 E1 R1 N1 => ?_
  cases t with
  | true =>
    rw [if_pos rfl] at e3 ⊢
    exact tv1 N1 R1 e3 fun H2 μ2 E2 R2 _ => q H2 μ2 (E1.trans E2) R2
  | false =>
    rw [if_neg Bool.false_ne_true] at e3 ⊢
    cases e3
    exact q H1 μ1 E1 R1
theorem t_or {r : List Expr} (ha : PT X x (tTv X.K k.g a)) (hb : PT X (restX .Or pos (y :: r)) (tTv X.K k.g b)) : PT X (.BoolOp .Or (x :: y :: r) pos) (tTv X.K k.g (.or a b)) := by
  refine ((pw_or ha (pt_pw hb)).pt).imp fun σ H Q ⟨μ, δ, S, d, S', E, R, e1, q⟩ => ?_
  simp only [evT] at e1
  obtain ⟨⟨t, S1⟩, e2, e3⟩ := bindS e1
  refine tv1 E R e2 fun H1 μ1 E1 R1 N1 => ?_
  cases t with
  | true =>
    rw [if_pos rfl] at e3 ⊢
    cases e3
    exact q H1 μ1 E1 R1
  | false =>
    rw [if_neg Bool.false_ne_true] at e3 ⊢
    exact tv1 N1 R1 e3 fun H2 μ2 E2 R2 _ => q H2 μ2 (E1.trans E2) R2
theorem e_ite (hc : PT X z (tTv X.K k.g c)) (ha : PE X x (tEv X.K k.g a)) (hb : PE X y (tEv X.K k.g b)) : PE X (.IfExp z x y pos) (tEv X.K k.g (.ite c a b)) := (pe_ifExp hc ha hb).imp fun σ H Q ⟨μ, δ, S, d, S', E, R, e1, q⟩ => by
  simp only [evE] at e1
  obtain ⟨⟨t, S1⟩, e2, e3⟩ := bindS e1
  refine tv1 E R e2 fun H1 μ1 E1 R1 N1 => ?_
  cases t with
  | true =>
    rw [if_pos rfl] at e3 ⊢
    exact ⟨μ1, δ, S1, d, S', N1, R1, e3, q.ext E1⟩
  | false =>
    rw [if_neg Bool.false_ne_true] at e3 ⊢
    exact ⟨μ1, δ, S1, d, S', N1, R1, e3, q.ext E1⟩
end
end Dn

set_option maxHeartbeats 4000000
namespace Dn
open PySem PySem.Spec PyProof.Rows L2

/-! ### truth -/
section
variable {K : PySem.W.Frag} {μ : Mu} {H : Hp} {S : Sto}
theorem isEmpty_rep {ds : List D} {vs : List V} (h : Reps K μ H ds vs) : (!vs.isEmpty) = !ds.isEmpty := by
  rw [isEmpty_len h.length]
theorem tru_v (R : Rl K μ H S) {d : D} {v : V} {b : Bool} (e : truD S d = some b) (h : Rep K μ H d v) : TruV K v H b := by
  cases d with
  | non => cases rep_non h; cases e; rfl
  | bl t => cases rep_bl h; cases e; rfl
  | int i => cases rep_int h; cases e; rfl
  | str x =>
    cases rep_str h
    simp only [truD] at e
    split at e
    · rename_i hl
      cases e
      exact ⟨by rw [sizeL]; exact hl, rfl⟩
    · cases e
  | tup xs =>
    obtain ⟨a, vs, rfl, h1, h2⟩ := rep_tup h
    cases e
    exact .inr (.inl ⟨vs, h1, (isEmpty_rep h2).symm⟩)
  | lst xs =>
    obtain ⟨a, vs, rfl, h1, h2⟩ := rep_litems (S := S) R (xs := xs) rfl h
    cases e
    exact .inl ⟨vs, h1, (isEmpty_rep h2).symm⟩
  | scr xs =>
    obtain ⟨a, vs, rfl, h1, h2⟩ := rep_litems (S := S) R (xs := xs) rfl h
    cases e
    exact .inl ⟨vs, h1, (isEmpty_rep h2).symm⟩
  | ref n =>
    simp only [truD] at e
    obtain ⟨mo, e1, e2⟩ := mapS e
    obtain ⟨a, vs, rfl, h1, h2⟩ := rep_litems (S := S) R (xs := mo.xs) (by simp only [litems, e1, Option.map_some]) h
    subst e2
    exact .inl ⟨vs, h1, (isEmpty_rep h2).symm⟩
  | dic _ _ => cases e
  | exc _ _ _ => cases e
end
section
variable {X : Cx} {k : Kc} {x y z : Expr} {a b c : C} {pos : Pos}
theorem e_not (ha : PE X x (tEv X.K k.g a)) : PE X (.UnaryOp .Not x pos) (tEv X.K k.g (.not a)) := (pe_notT ha).imp fun σ H Q ⟨μ, δ, S, d, S', E, R, e1, q⟩ => by
  simp only [evE] at e1
  obtain ⟨⟨d1, S1⟩, e2, e3⟩ := bindS e1
  obtain ⟨b, e4, e5⟩ := mapS e3
  cases e5
  exact ev1 E R e2 fun x H1 μ1 E1 R1 _ p1 => ⟨b, tru_v R1 e4 p1, (q.ext E1).at R1 mk_bl⟩
/-- a test that is its value's truth -/
theorem t_val (ha : PE X x (tEv X.K k.g a)) (he : ∀ whole, isTrue x X.env whole = (do let v ← whole; standAt x.pos; holding [v] (truthy v)))
    (ev : ∀ δ S b S', evT k.g a δ S = some (b, S') → ∃ d, evE k.g a δ S = some (d, S') ∧ truD S' d = some b) : PT X x (tTv X.K k.g a) := (pt_truth ha he).imp fun σ H Q ⟨μ, δ, S, b, S', E, R, e1, q⟩ => by
  obtain ⟨d, e2, e3⟩ := ev δ S b S' e1
  exact ev1 E R e2 fun x H1 μ1 E1 R1 _ p1 => ⟨b, tru_v R1 e3 p1, q H1 μ1 E1 R1⟩
theorem t_var {x : Str} {i : Nat} (ha : PE X (.Name x pos) (tEv X.K k.g (.var i))) : PT X (.Name x pos) (tTv X.K k.g (.var i)) := t_val ha (fun _ => rfl) fun δ S b S' e => by
  simp only [evT] at e
  simp only [evE]
  cases e2 : δ[i]? with
  | none => rw [e2] at e; cases e
  | some o =>
    cases o with
    | none => rw [e2] at e; cases e
    | some d =>
      rw [e2] at e
      obtain ⟨t, e3, e4⟩ := mapS e
      cases e4
      exact ⟨d, rfl, e3⟩
theorem t_call {f : Expr} {es : List Expr} {kw : List Keyword} {g : Str} {cs : List C} (ha : PE X (.Call f es kw pos) (tEv X.K k.g (.call g cs))) : PT X (.Call f es kw pos) (tTv X.K k.g (.call g cs)) := t_val ha (fun _ => rfl) fun δ S b S' e => by
  simp only [evT] at e
  simp only [evE]
  obtain ⟨⟨ds, S1⟩, e2, e3⟩ := bindS e
  obtain ⟨⟨d, S2⟩, e4, e5⟩ := bindS e3
  obtain ⟨t, e6, e7⟩ := mapS e5
  cases e7
  exact ⟨d, by rw [e2]; exact e4, e6⟩
theorem t_blt {f : Expr} {es : List Expr} {kw : List Keyword} {g : String} {cs : List C} (ha : PE X (.Call f es kw pos) (tEv X.K k.g (.blt g cs))) : PT X (.Call f es kw pos) (tTv X.K k.g (.blt g cs)) := t_val ha (fun _ => rfl) fun δ S b S' e => by
  simp only [evT] at e
  simp only [evE]
  obtain ⟨⟨ds, S1⟩, e2, e3⟩ := bindS e
  obtain ⟨d, e4, e5⟩ := bindS e3
  obtain ⟨t, e6, e7⟩ := mapS e5
  cases e7
  exact ⟨d, by rw [e2, Option.bind_some, e4]; rfl, e6⟩
theorem t_isi {f : Expr} {es : List Expr} {kw : List Keyword} {T : String} (ha : PE X (.Call f es kw pos) (tEv X.K k.g (.isi a T))) : PT X (.Call f es kw pos) (tTv X.K k.g (.isi a T)) := t_val ha (fun _ => rfl) fun δ S b S' e => by
  simp only [evT] at e
  simp only [evE]
  obtain ⟨⟨d, S1⟩, e2, e3⟩ := bindS e
  obtain ⟨t, e6, e7⟩ := mapS e3
  cases e7
  exact ⟨.bl b, by rw [e2, Option.bind_some, e6]; rfl, rfl⟩
theorem t_bl {b : Bool} {j : Nat} (ha : PE X (.Constant (.bool b) j pos) (tEv X.K k.g (.bl b))) : PT X (.Constant (.bool b) j pos) (tTv X.K k.g (.bl b)) := t_val ha (fun _ => rfl) fun δ S b' S' e => by
  simp only [evT] at e
  cases e
  simp only [evE]
  exact ⟨.bl b, rfl, rfl⟩
theorem t_ix {x y : Expr} {b : C} (ha : PE X (.Subscript x y pos) (tEv X.K k.g (.ix a b))) : PT X (.Subscript x y pos) (tTv X.K k.g (.ix a b)) := t_val ha (fun _ => rfl) fun δ S b' S' e => by
  simp only [evT] at e
  simp only [evE]
  obtain ⟨⟨d, S1⟩, e2, e3⟩ := bindS e
  obtain ⟨⟨d2, S2⟩, e4, e5⟩ := bindS e3
  obtain ⟨d3, e6, e7⟩ := bindS e5
  obtain ⟨t, e8, e9⟩ := mapS e7
  cases e9
  exact ⟨d3, by rw [e2, Option.bind_some, e4, Option.bind_some, e6]; rfl, e8⟩

/-! ### calls of defs -/
theorem run_g {f : Addr} {fd : FuncData} {ps : List Str} {lv : Nat} {sp : SpG} {pins : List (Addr × Obj)} {σ : L2.St} {H : Hp} {s : Shared} {Q : VK} {args : Args} {us : List Value} {vs : List V} (hk : KcOk X k)
    (F : FnG X.prog X.w X.K X.mg X.base lv f fd ps sp) (hr : Room lv X.A) (I : Inv X pins σ H s) (hb : BindsTo s fd args (ps.zip us)) (r : Vals vs us) (h : sp vs H Q) :
    codeAny (model X.prog X.w) X.A (.call (.ref f) args) (fun r s' => match r with
      | .ok (.ret u) => EP X pins σ Q u s'
      | .ok _ => False
      | .error e => X.xe e s') s := by
  refine codeAny_mono (F.run X.A X.stack s H args us vs Q hr hk.gd I.env0 hb r h) fun r s' hq => ?_
  cases r with
  | error e => exact hq.elim
  | ok fl =>
    cases fl with
    | ret u => exact I.after hq
    | next => exact hq.elim
    | brk => exact hq.elim
    | cont => exact hq.elim
theorem run_g' {f : Addr} {fd : FuncData} {ps : List Str} {lv : Nat} {sp : SpG} {pins : List (Addr × Obj)} {σ : L2.St} {H : Hp} {s : Shared} {Q : VK} {xs : List Value} {kw : List (Str × Value)} {us : List Value} {vs : List V} (hk : KcOk X k)
    (F : FnG X.prog X.w X.K X.mg X.base lv f fd ps sp) (hr : Room lv X.A) (I : Inv X pins σ H s) (hb : BindsTo s fd ⟨xs, kw⟩ (ps.zip us)) (r : Vals vs us) (h : sp vs H Q) :
    wpAny (model X.prog X.w) X.A (call (.ref f) xs kw) (EP X pins σ Q) X.xe s := by
  refine wpAny_call (codeAny_mono (run_g hk F hr I hb r h) fun r s' hq => ?_)
  cases r with
  | error e => exact hq
  | ok fl =>
    cases fl with
    | ret u => exact hq
    | next => exact hq.elim
    | brk => exact hq.elim
    | cont => exact hq.elim
theorem e_call (hk : KcOk X k) {f : Str} {e : Expr} {es : List Expr} {cs : List C} {p : Pos} (ha : PA X (e :: es) (tEvs X.K k.g cs)) (hp : (e :: es).all plainX = true) (hf : f ∈ k.fns) (hg : glB k.sc f = true) (hn : nmB f = true) :
    PE X (.Call (.Name f p) (e :: es) [] pos) (tEv X.K k.g (.call f cs)) := by
  obtain ⟨a, fd, ps, lv, O⟩ := hk.call f hf
  obtain ⟨h1, h2⟩ := Bool.and_eq_true_iff.mp (show (plainX e && es.all plainX) = true from hp)
  refine ⟨fun pins s σ H Q I ⟨μ, δ, S, d, S', E, R, e1, q⟩ => ?_⟩
  simp only [evE] at e1
  obtain ⟨⟨ds, S1⟩, e2, e3⟩ := bindS e1
  refine wpAny_Call_Name_kw (ld_glob I (glB_ok hk hg) O.mg ?_ (nmB_ok hn).1)
  refine PySem.W.callWith_K (h₀ := X.base) I.ok.mod.kin O.kp ?_ (star_of h1 _ _) (nostar h2 _ _)
  refine thn (ha.run pos pins s σ H _ I (evs1 E R e2 (W := fun xs H1 => spEv X.K k.g f xs H1 Q) fun xs H1 μ1 E1 R1 _ p1 => ⟨μ1, S1, ds, d, S', R1, p1, e3, q.ext E1⟩)) fun us s1 ⟨vs, H1, I1, r1, q1⟩ => ⟨I1.kIn, ?_⟩
  have hb := O.bd s1 us I1.kIn (by rw [List.append_nil, ← r1.length]; exact O.fn.len _ _ _ q1)
  rw [List.append_nil] at hb
  exact run_g' hk O.fn O.rm I1 hb r1 q1
theorem e_call0 (hk : KcOk X k) {f : Str} {p : Pos} (hf : f ∈ k.fns) (hg : glB k.sc f = true) (hn : nmB f = true) : PE X (.Call (.Name f p) [] [] pos) (tEv X.K k.g (.call f [])) := by
  obtain ⟨a, fd, ps, lv, O⟩ := hk.call f hf
  refine ⟨fun pins s σ H Q I ⟨μ, δ, S, d, S', E, R, e1, q⟩ => ?_⟩
  simp only [evE, evEs] at e1
  refine wpAny_Call_Name_kw (ld_glob I (glB_ok hk hg) O.mg ?_ (nmB_ok hn).1)
  refine PySem.W.callWith_K0 I.kIn O.kp ?_
  have q1 : spEv X.K k.g f [] H Q := ⟨μ, S, [], d, S', R, Reps.nil, e1, q⟩
  have hb := O.bd s [] I.kIn (by rw [List.append_nil]; exact O.fn.len _ _ _ q1)
  exact run_g' hk O.fn O.rm I hb .nil q1
theorem pick_ok {K : PySem.W.Frag} {μ : Mu} {H : Hp} {xs : List D} {vs : List V} {us : List Value} (h : Reps K μ H xs vs) (r : Vals vs us) : ∀ {pl : List Nat} {ds : List D}, pick xs pl = some ds → ∃ ws, Reps K μ H ds ws ∧ Vals ws (pickV us pl)
  | [], ds, e => by simp only [pick, Option.some.injEq] at e; subst e; exact ⟨[], Reps.nil, .nil⟩
  | i :: pl, ds, e => by
    simp only [pick] at e
    obtain ⟨d, e1, e2⟩ := bindS e
    obtain ⟨q, e3, e4⟩ := mapS e2
    subst e4
    obtain ⟨v, e5, p⟩ := h.get e1
    obtain ⟨u, e6, rv⟩ := r.get e5
    obtain ⟨ws, p2, r2⟩ := pick_ok h r e3
    refine ⟨v :: ws, Reps.cons p p2, ?_⟩
    show Vals (v :: ws) (us.getD i .none :: pickV us pl)
    rw [List.getD_eq_getElem?_getD, e6]
    exact .cons rv r2
theorem kw_names : ∀ (kws : List Keyword) (ks : List Str) (pos : Pos) (env : Env), kws.map (·.arg) = ks.map some →
    (backToKw pos (keywordEach kws env)).all (·.1.isSome) = true ∧ (backToKw pos (keywordEach kws env)).filterMap (·.1) = ks ∧ (backToKw pos (keywordEach kws env)).any (·.1.isNone) = false
  | [], ks, _, _, h => by cases ks with
    | nil => exact ⟨rfl, rfl, rfl⟩
    | cons _ _ => simp at h
  | ⟨nm, e, kp⟩ :: kws, ks, pos, env, h => by
    cases ks with
    | nil => simp at h
    | cons x r =>
      simp only [List.map_cons, List.cons.injEq] at h
      obtain ⟨h1, h2⟩ := h
      subst h1
      obtain ⟨q1, q2, q3⟩ := kw_names kws r pos env h2
      refine ⟨?_, ?_, ?_⟩
      · show (true && (backToKw pos (keywordEach kws env)).all (·.1.isSome)) = true
        rw [q1]; rfl
      · show x :: (backToKw pos (keywordEach kws env)).filterMap (·.1) = x :: r
        rw [q2]
      · show (false || (backToKw pos (keywordEach kws env)).any (·.1.isNone)) = false
        rw [q3]; rfl
theorem evEs_len {G : GE} : ∀ {cs : List C} {δ : En} {S S' : Sto} {ds : List D}, evEs G cs δ S = some (ds, S') → ds.length = cs.length
  | [], δ, S, S', ds, e => by simp only [evEs] at e; cases e; rfl
  | c :: cs, δ, S, S', ds, e => by
    simp only [evEs] at e
    obtain ⟨⟨d, S1⟩, e2, e3⟩ := bindS e
    obtain ⟨⟨r, S2⟩, e4, e5⟩ := mapS e3
    cases e5
    rw [List.length_cons, List.length_cons, evEs_len e4]
theorem e_callK (hk : KcOk X k) {f : Str} {es : List Expr} {kws : List Keyword} {cs ckw : List C} {ks : List Str} {p : Pos} (ha : PA X es (tEvs X.K k.g cs)) (hkw : PK X kws (tEvs X.K k.g ckw)) (hp : es.all plainX = true)
    (hks : kws.map (·.arg) = ks.map some) (hl : ks.length = ckw.length) (hE : es.length = cs.length) (hf : f ∈ k.fns) (hkl : (f, cs.length, ks) ∈ k.kwl) (hg : glB k.sc f = true) (hn : nmB f = true) :
    PE X (.Call (.Name f p) es kws pos) (tEv X.K k.g (.callK f cs ks ckw)) := by
  obtain ⟨a, fd, ps, lv, O⟩ := hk.call f hf
  obtain ⟨w1, w2, w3⟩ := kw_names kws ks pos X.env hks
  refine ⟨fun pins s σ H Q I ⟨μ, δ, S, d, S', E, R, e1, q⟩ => ?_⟩
  simp only [evE] at e1
  obtain ⟨⟨ds, S1⟩, e2, e3⟩ := bindS e1
  obtain ⟨⟨dk, S2⟩, e4, e5⟩ := bindS e3
  obtain ⟨pl, e6, e7⟩ := bindS e5
  obtain ⟨as, e8, e9⟩ := bindS e7
  have l1 := evEs_len e2
  have l2 := evEs_len e4
  obtain ⟨lp, hb⟩ := O.kw _ _ pl hkl e6
  have go : ∀ (us : List Value) (s1 : Shared) (vs : List V) (H1 : Hp) (μ1 : Mu), Inv X pins σ H1 s1 → Vals vs us → Ext μ H μ1 H1 → Rl X.K μ1 H1 S1 → RepEnv X.K μ1 H1 σ δ → Reps X.K μ1 H1 ds vs →
      wpAny (model X.prog X.w) X.A (evalAll ((backToKw pos (keywordEach kws X.env)).map (·.2))) (fun ws s₂ => X.K.In s₂.heap ∧ wpAny (model X.prog X.w) X.A (call (.ref a) ([] ++ us) (((backToKw pos (keywordEach kws X.env)).filterMap (·.1)).zip ws)) (EP X pins σ Q) X.xe s₂) X.xe s1 := by
    intro us s1 vs H1 μ1 I1 r1 E1 R1 N1 p1
    refine thn (hkw.run pos pins s1 σ H1 _ I1 (evs1 N1 R1 e4 (W := fun zs H2 => ∃ μ2, Ext μ1 H1 μ2 H2 ∧ Rl X.K μ2 H2 S2 ∧ Reps X.K μ2 H2 dk zs) fun xs H2 μ2 E2 R2 _ p2 => ⟨μ2, E2, R2, p2⟩)) fun ws s2 ⟨zs, H2, I2, r2, μ2, E2, R2, p2⟩ => ⟨I2.kIn, ?_⟩
    rw [w2]
    have pv := (p1.mono R1 E2).append p2
    obtain ⟨vv, pp, rr⟩ := pick_ok pv (r1.append r2) e8
    refine run_g' hk O.fn O.rm I2 (hb s2 us ws (by rw [← r1.length, ← p1.length, l1]) (by rw [← r2.length, ← p2.length, l2, hl])) rr ?_
    exact ⟨μ2, S2, as, d, S', R2, pp, e9, q.ext (E1.trans E2)⟩
  refine wpAny_Call_Name_kw (ld_glob I (glB_ok hk hg) O.mg ?_ (nmB_ok hn).1)
  cases es with
  | nil =>
    have ec : cs = [] := by
      cases cs with
      | nil => rfl
      | cons c cs =>
        cases hE
    subst ec
    simp only [evEs] at e2
    cases e2
    exact PySem.W.callWith_KW0 (h₀ := X.base) I.ok.mod.kin O.kp w1 (go [] s [] H μ I .nil Ext.refl R E Reps.nil) (by rw [w3]; rfl)
  | cons e es =>
    obtain ⟨h1, h2⟩ := Bool.and_eq_true_iff.mp (show (plainX e && es.all plainX) = true from hp)
    refine PySem.W.callWith_KW (h₀ := X.base) I.ok.mod.kin O.kp w1 ?_ (by rw [w3, nostar hp]; rfl) (star_of h1 _ _)
    exact thn (ha.run pos pins s σ H _ I (evs1 E R e2 (W := fun zs H2 => ∃ μ2, Ext μ H μ2 H2 ∧ Rl X.K μ2 H2 S1 ∧ RepEnv X.K μ2 H2 σ δ ∧ Reps X.K μ2 H2 ds zs) fun xs H2 μ2 E2 R2 N2 p2 => ⟨μ2, E2, R2, N2, p2⟩)) fun us s1 ⟨vs, H1, I1, r1, μ1, E1, R1, N1, p1⟩ => go us s1 vs H1 μ1 I1 r1 E1 R1 N1 p1
end
end Dn

set_option maxHeartbeats 4000000
/-! an own exception made by a call with any arguments, keywords too -/
namespace DnX
open PySem PySem.W PySem.Calls PyProof.Rows PySem.HandSPX
section
variable {prog : Program} {w : World} {A : Around} {R : Result → Shared → Prop} {h : Heap} {g : Array GenState} {d : Drawn} {t : Nat} {os : OsState} {kw : List (Str × Value)}
variable {nm q : Str} {C N : Addr} {bs bm tl : List Value} {hd : Bool} {sn : List Str} {sub : List Value} {ab : Bool} {col : Option Bool} {dd : Option Addr} {k0 k1 k2 k3 k5 : Option Value} {B nw ini : String}
theorem new_check {M : Model} {E : Value → Shared → Prop} (F : ExcBaseFacts B nw ini tl) (hT : ∀ Z : String, bm.contains (.type Z) = tl.contains (.type Z)) {us : List Value} {Q : Unit → Shared → Prop}
    (hC : h.get? C = some (excClassObj nm q C N bs bm hd sn sub ab col dd k0 k1 k2 k3 k5 nw)) (hq : Q () ⟨h, g, d, t, os⟩) : wpAny M A (checkBuiltinCall nw ⟨.ref C :: us, kw⟩) Q E ⟨h, g, d, t, os⟩ := by
  have h1 : (Value.ref C :: bm).contains (.type B) = true := by rw [List.contains_cons, hT, F.hasB, Bool.or_true]
  have h2 := F.noStar
  simp only [checkBuiltinCall, F.newKind, F.newSplit, F.newRow]
  repeat (first | refine wpAny_loadPart_at hC ?_ | (refine wpAny_isSubtype_exc hC ?_; rw [h1]) | refine wpAny_staticBase_exc hC ?_ | refine wpAny_madeBy_exc hC ?_ | simp only [bne_self_eq_false, Bool.false_eq_true, if_false] | wp_step)
  exact hq
theorem new_made (F : ExcBaseFacts B nw ini tl) (hT : ∀ Z : String, bm.contains (.type Z) = tl.contains (.type Z)) {us : List Value} (hC : h.get? C = some (excClassObj nm q C N bs bm hd sn sub ab col dd k0 k1 k2 k3 k5 nw))
    (hl : us.length ≤ sizeLine) (hq : R (.ok (.ret (.ref (h.objs.size + 1)))) ⟨(h.push (kdv_tup us)).push (excO C h.objs.size), g, d, t, os⟩) : codeAny (model prog w) A (.builtin nw ⟨.ref C :: us, kw⟩) R ⟨h, g, d, t, os⟩ := by
  have z0 := F.ends
  have z1 : (Value.ref C :: bm).contains (.type B) = true := by rw [List.contains_cons, hT, F.hasB, Bool.or_true]
  have z2 : (Value.ref C :: bm).contains (.type "AttributeError") = false := by rw [List.contains_cons, hT, F.noAttr]; rfl
  have z3 : (Value.ref C :: bm).contains (.type "NameError") = false := by rw [List.contains_cons, hT, F.noName]; rfl
  refine codeAny_builtinAt F.entry ?_
  unfold Builtin.«BaseException.__new__»
  refine PySem.wpAt_bind ?_
  show PySem.wpAt _ _ _ (stack >>= _) _ _ _
  refine PySem.wpAt_bind (PySem.wpAt_stack fun p below => PySem.wpAt_of_wpAny ?_)
  wp_walk
  refine PySem.wpAt_of_wpAny ?_
  rw [F.owner]
  repeat (first | with_reducible refine wpAny_madeHere_exc F.canon hC ?_ | with_reducible refine wpAny_loadPart_at hC ?_ | (with_reducible refine wpAny_isSubtype_exc hC ?_; first | rw [z1] | rw [z2] | rw [z3]) | wp_step)
  show R _ _
  rw [Heap.size_push]
  exact hq
theorem made_type (F : ExcBaseFacts B nw ini tl) (hT : ∀ Z : String, bm.contains (.type Z) = tl.contains (.type Z)) {us : List Value} {fI : Addr} {E : Value → Shared → Prop} {Q : Fin → Shared → Prop} (hC : h.get? C = some (excClassObj nm q C N bs bm hd sn sub ab col dd k0 k1 k2 k3 k5 nw))
    (hi : Looks (model prog w) h (typeLookup (.ref C) "__init__") (some (.ref fI))) (hb : ∀ self, Looks (model prog w) h (bindSpecial (.ref fI) self) (.ref fI, [self])) (hl : us.length ≤ sizeLine)
    (hq : codeAny (model prog w) A (.call (.ref fI) ⟨.ref (h.objs.size + 1) :: us, kw⟩) (fun r s' => match r with | .ok (.ret v) => v = .none ∧ Q (.done (.ret (.ref (h.objs.size + 1)))) s' | .ok _ => False | .error e => E e s')
      ⟨(h.push (kdv_tup us)).push (excO C h.objs.size), g, d, t, os⟩) : wpAny (model prog w) A (Builtin.«type.__call__» ⟨.ref C :: us, kw⟩) Q E ⟨h, g, d, t, os⟩ := by
  repeat (first | with_reducible refine wpAny_loadPart_at hC ?_ | with_reducible refine wpAny_madeBy_exc hC ?_ | wp_step)
  refine codeAny_call_builtin_code (Code.quiet_builtin _ F.quiet) (new_check F hT hC (new_made F hT hC hl ?_))
  show wpAny _ _ _ _ _ _
  have kk : ∀ b o, h.get? b = some o → ((h.push (kdv_tup us)).push (excO C h.objs.size)).get? b = some o := fun b o e => Heap.get?_push_of_some _ (Heap.get?_push_of_some _ e)
  have hC2 := kk _ _ hC
  have hg : ((h.push (kdv_tup us)).push (excO C h.objs.size)).get? (h.objs.size + 1) = some (excO C h.objs.size) := by heap_get
  have hcc : (Value.ref C :: bm).contains (.ref C) = true := by simp
  have i2 := hi.keeps kk
  have b2 := (hb (.ref (h.objs.size + 1))).keeps kk
  unfold isInstance
  repeat (first | with_reducible refine wpAny_loadPart_at hg ?_ | (with_reducible refine wpAny_isSubtype_exc hC2 ?_; rw [hcc]) | wp_step)
  show wpAny _ _ (typeLookup (.ref C) _) _ _ _
  refine i2.at (wpAny_holding (wpAny_bind (b2.at (wpAny_bind (wpAny_call (codeAny_mono hq fun r s' z => ?_))))))
  rcases r with e | (v | _ | _ | _) <;> first | exact z | exact z.elim | skip
  obtain ⟨rfl, z⟩ := z
  first
    | exact wpAny_pure (wpAny_pure z)
    | (wp_walk; exact z)
theorem made (F : ExcBaseFacts B nw ini tl) (hT : ∀ Z : String, bm.contains (.type Z) = tl.contains (.type Z)) {us : List Value} {fI : Addr} (hC : h.get? C = some (excClassObj nm q C N bs bm hd sn sub ab col dd k0 k1 k2 k3 k5 nw))
    (hi : Looks (model prog w) h (typeLookup (.ref C) "__init__") (some (.ref fI))) (hb : ∀ self, Looks (model prog w) h (bindSpecial (.ref fI) self) (.ref fI, [self])) (hl : us.length ≤ sizeLine)
    (hq : codeAny (model prog w) (A.under (.builtin "type.__call__" ⟨.ref C :: us, kw⟩)) (.call (.ref fI) ⟨.ref (h.objs.size + 1) :: us, kw⟩) (InitBack (h.objs.size + 1) R)
      ⟨(h.push (kdv_tup us)).push (excO C h.objs.size), g, d, t, os⟩) : codeAny (model prog w) A (.call (.ref C) ⟨us, kw⟩) R ⟨h, g, d, t, os⟩ := by
  have y1 := tc_lookup
  have y2 := tc_bind (.ref C)
  have y3 : (⟨h, g, d, t, os⟩ : Shared).TypeIs (.ref C) "type" := ⟨_, hC, rfl⟩
  refine codeAny_of_tree ?_
  show wpAny _ _ (callAny (.ref C) _) _ _ _
  repeat (any_goals (first | assumption | with_reducible refine wpAny_loadPart_at hC ?_ | wp_step))
  refine ⟨rfl, codeAny_call_builtin_at (Code.quiet_builtin _ (by decide +kernel)) entry_typeCall (wpAny_check_type_call_sub hC (made_type F hT hC hi hb hl (codeAny_mono hq fun r s' z => ?_)))⟩
  rcases r with e | (v | _ | _ | _) <;> exact z
end
end DnX

set_option maxHeartbeats 4000000
namespace Dn
open PySem PySem.Spec PyProof.Rows L2
/-! ### an own exception's __init__(self, f): self.f = f -/
theorem init_fn {P : Program} {w : World} {K : PySem.W.Frag} {mg : Str → Option Value} {base : Heap} {k : Nat} {fI : Addr} {f self name qual : Str} {params : Arguments} {scope : Scope} {dV kV doc pm cdv ct oc : Value} {an od : Option Addr} {osl : Array (Option Value)} {p1 p2 p3 p4 : Pos}
    (lk : K.lookup fI = some ⟨oc, od, .func (PySem.W.fnOf name qual params [.Assign [.Attribute (.Name self p1) f p2] (.Name f p3) p4] scope dV kV doc pm an cdv ct), osl⟩) (hcd : PySem.W.codeIn K cdv qual = true) (S : FnScope [self, f] [self, f] scope)
    (v1 : visB scope self = true) (v2 : visB scope f = true) (n1 : nmB self = true) (n2 : nmB f = true) :
    FnG P w K mg base (k + 1) fI (PySem.W.fnOf name qual params [.Assign [.Attribute (.Name self p1) f p2] (.Name f p3) p4] scope dV kV doc pm an cdv ct) [self, f] (spIn K f) := by
  refine fnG_of lk hcd S (fun vs H Q ⟨a, C, y, e, _⟩ => by rw [e]; rfl) fun A outer s H vs Q hr hg ⟨a, C, y, e, T, hno, ha, q⟩ => ?_
  subst e
  have x1 := nmB_ok n1
  have x2 := nmB_ok n2
  refine ⟨_, pss_cons (ps_ost (pe_var (X := cxOf CX0 P w K mg base [self, f] qual scope fI cdv A outer s H E0) (i := 0) rfl (visB_ok v1) x1.1 x1.2.1) (pe_var (i := 1) rfl (visB_ok v2) x2.1 x2.2.1)) pss_nil, ?_⟩
  refine ⟨y, rfl, .ref a, rfl, a, C, rfl, T, hno, .inl ⟨ha, fun dx h1 h2 => q dx h1 h2⟩⟩
end Dn

set_option maxHeartbeats 4000000
namespace Dn
open PySem PySem.Spec PyProof.Rows L2
section
variable {X : Cx} {pins : List (Addr × Obj)} {σ : L2.St} {H : Hp} {s : Shared}
theorem upd3 {a dx : Addr} {o u v : HO} (h : dx ≠ a) : upd (upd (upd H a o) dx u) a v = upd (upd H dx u) a v := by
  funext b
  by_cases e : b = a
  · rw [e, upd_same, upd_same]
  · rw [upd_ne e, upd_ne e]
    by_cases e2 : b = dx
    · rw [e2, upd_same, upd_same]
    · rw [upd_ne e2, upd_ne e2, upd_ne e]
/-- C(..) of an own exception class that has its own __init__ -/
theorem mk_call {C fI : Addr} {lv : Nat} {fd : FuncData} {self f : Str} {us : List Value} {kw : List (Str × Value)} {u : Value} {y : V} {Q : VK} (I : Inv X pins σ H s) (T : OexC X.K C) (iC : PySem.W.findIn X.K (.ref C) "__init__" = some (some (.ref fI)))
    (tI : PySem.W.typeIn X.K (.ref fI) = some (.type "function")) (hno : PySem.W.findIn X.K (.ref C) f = some none) (F : FnG X.prog X.w X.K X.mg X.base lv fI fd [self, f] (spIn X.K f)) (hr : Room (lv + 1) X.A) (hg : X.A.guards = some [])
    (hb : ∀ (s : Shared) (a : Value), BindsTo s fd ⟨a :: us, kw⟩ [(self, a), (f, u)]) (ry : RelV y u) (hl : us.length ≤ sizeLine)
    (h : ∀ a dx, H a = none → H dx = none → dx ≠ a → Q (.ref a) (upd (upd H dx (exd dx [(f, y)])) a (exo a C (some dx)))) : wpAny (model X.prog X.w) X.A (call (.ref C) us kw) (EP X pins σ Q) X.xe s := by
  obtain ⟨nm, q, N, bs, bm, sn, sub, ab, col, dd, k0, k1, k2, k3, k5, hC, hbm⟩ := T.cls
  obtain ⟨hp, g, dr, tk, os⟩ := s
  have z1 : hp.objs.size ≤ hp.objs.size + 1 := Nat.le_succ _
  have hn : H (hp.objs.size + 1) = none := I.hok.fresh z1
  have kk : ∀ b o, hp.get? b = some o → ((hp.push (PySem.W.kdv_tup us)).push (PySem.HandSPX.excO C hp.objs.size)).get? b = some o := fun b o e => Heap.get?_push_of_some _ (Heap.get?_push_of_some _ e)
  have hget : ((hp.push (PySem.W.kdv_tup us)).push (PySem.HandSPX.excO C hp.objs.size)).get? (hp.objs.size + 1) = some (PySem.HandSPX.excO C hp.objs.size) := by heap_get
  have J : Inv X pins σ (upd H (hp.objs.size + 1) (exo (hp.objs.size + 1) C none)) ⟨(hp.push (PySem.W.kdv_tup us)).push (PySem.HandSPX.excO C hp.objs.size), g, dr, tk, os⟩ :=
    I.laid (t' := tk) (a := hp.objs.size + 1) (o := exo (hp.objs.size + 1) C none) (h' := (hp.push (PySem.W.kdv_tup us)).push (PySem.HandSPX.excO C hp.objs.size)) kk z1 (exo_ok hget)
  have spec : spIn X.K f [.ref (hp.objs.size + 1), y] (upd H (hp.objs.size + 1) (exo (hp.objs.size + 1) C none)) (fun v H2 => v = .non ∧ Q (.ref (hp.objs.size + 1)) H2) := by
    refine ⟨_, C, y, rfl, T, hno, upd_same, fun dx h1 h2 => ⟨rfl, ?_⟩⟩
    rw [upd3 h2]
    exact h _ dx hn (by rwa [upd_ne h2] at h1) h2
  refine wpAny_call (DnX.made PySem.F.excBase_ValueError (fun Y => PySem.HandSPX.refsVE_contains Y bm hbm) (I.kIn _ _ hC) (PySem.W.looks_findIn I.kIn iC) (fun self => PySem.W.bind_fn I.kIn self tI) hl
    (codeAny_mono (F.run _ X.stack _ _ ⟨Value.ref (hp.objs.size + 1) :: us, kw⟩ [Value.ref (hp.objs.size + 1), u] _ _ (hr.make C us kw) hg (J.env0.make C us kw) (hb _ _) (Paired.cons (show RelV (V.ref (hp.objs.size + 1)) (Value.ref (hp.objs.size + 1)) from rfl) (.cons ry .nil)) spec) fun r s' hq => ?_))
  cases r with
  | error e => exact hq.elim
  | ok fl =>
    cases fl with
    | ret r' =>
      obtain ⟨v, H2, J2, rv, ev, q2⟩ := J.after hq
      subst ev
      exact ⟨rv, V.ref (hp.objs.size + 1), H2, J2, rfl, q2⟩
    | next => exact hq.elim
    | brk => exact hq.elim
    | cont => exact hq.elim
end
end Dn

set_option maxHeartbeats 4000000
namespace Dn
open PySem PySem.Spec PyProof.Rows L2

/-! ### built-in functions -/
def rBlt (K : PySem.W.Frag) (f : String) : List V → Hp → VK → Prop := fun xs H Q => ∃ μ S ds d, Rl K μ H S ∧ Reps K μ H ds xs ∧ bltD S f ds = some d ∧ Pst K μ H S d Q
section
variable {K : PySem.W.Frag} {μ : Mu} {H : Hp} {S : Sto}
theorem reps1 {d : D} {xs : List V} (h : Reps K μ H [d] xs) : ∃ v, xs = [v] ∧ Rep K μ H d v := by
  obtain ⟨v, r, rfl, p, t⟩ := reps_cons.mp h
  rw [reps_nil.mp t]
  exact ⟨v, rfl, p⟩
theorem reps2 {d e : D} {xs : List V} (h : Reps K μ H [d, e] xs) : ∃ v u, xs = [v, u] ∧ Rep K μ H d v ∧ Rep K μ H e u := by
  obtain ⟨v, r, rfl, p, t⟩ := reps_cons.mp h
  obtain ⟨u, rfl, p2⟩ := reps1 t
  exact ⟨v, u, rfl, p, p2⟩
theorem bls_rep : ∀ {ds : List D} {bs : List Bool} {vs : List V}, blsD ds = some bs → Reps K μ H ds vs → vs = bs.map V.bl
  | [], bs, vs, e, h => by simp only [blsD, Option.some.injEq] at e; subst e; exact reps_nil.mp h
  | d :: ds, bs, vs, e, h => by
    obtain ⟨v, r, rfl, p, t⟩ := reps_cons.mp h
    cases d with
    | bl b =>
      simp only [blsD] at e
      obtain ⟨q, e1, e2⟩ := mapS e
      subst e2
      cases rep_bl p
      rw [bls_rep e1 t]; rfl
    | _ => simp only [blsD] at e; cases e
theorem ints_rep : ∀ {ds : List D} {ns : List Int} {vs : List V}, intsD ds = some ns → Reps K μ H ds vs → vs = ns.map V.int
  | [], bs, vs, e, h => by simp only [intsD, Option.some.injEq] at e; subst e; exact reps_nil.mp h
  | d :: ds, bs, vs, e, h => by
    obtain ⟨v, r, rfl, p, t⟩ := reps_cons.mp h
    cases d with
    | int b =>
      simp only [intsD] at e
      obtain ⟨q, e1, e2⟩ := mapS e
      subst e2
      cases rep_int p
      rw [ints_rep e1 t]; rfl
    | _ => simp only [intsD] at e; cases e
theorem foldl_max_ge : ∀ (r : List Int) (n y : Int), (y = n ∨ y ∈ r) → y ≤ r.foldl max n
  | [], n, y, h => by rcases h with h | h; exact Int.le_of_eq h; cases h
  | x :: r, n, y, h => by
    show y ≤ r.foldl max (max n x)
    rcases h with h | h
    · subst h
      exact Int.le_trans (Int.le_max_left _ _) (foldl_max_ge r _ _ (.inl rfl))
    · rcases List.mem_cons.mp h with h | h
      · subst h
        exact Int.le_trans (Int.le_max_right _ _) (foldl_max_ge r _ _ (.inl rfl))
      · exact foldl_max_ge r _ y (.inr h)
theorem foldl_max_mem : ∀ (r : List Int) (n : Int), r.foldl max n ∈ n :: r
  | [], n => List.mem_cons_self ..
  | x :: r, n => by
    show r.foldl max (max n x) ∈ n :: x :: r
    have h := foldl_max_mem r (max n x)
    rcases List.mem_cons.mp h with h | h
    · rw [h]
      by_cases q : n ≤ x
      · rw [Int.max_eq_right q]; exact List.mem_cons_of_mem _ (List.mem_cons_self ..)
      · rw [Int.max_eq_left (by omega)]; exact List.mem_cons_self ..
    · exact List.mem_cons_of_mem _ (List.mem_cons_of_mem _ h)
end
section
variable {X : Cx} {k : Kc}
theorem CallR.imp' {f : Value} {r r' : List V → Hp → VK → Prop} (h : CallR X f r) (i : ∀ xs H Q, r' xs H Q → r xs H Q) : CallR X f r' := fun pins s σ H xs us Q I rv q => h pins s σ H xs us Q I rv (i xs H Q q)
theorem cr_len : CallR X (.builtin "len") (rBlt X.K "len") := by
  intro pins s σ H xs us Q I rv ⟨μ, S, ds, d, R, p, e, q⟩
  simp only [bltD, ↓reduceIte] at e
  split at e
  · rename_i x
    obtain ⟨v, rfl, p1⟩ := reps1 p
    cases rep_str p1
    split at e
    · rename_i hl
      cases e
      exact call_len_str pins s σ H _ us Q I rv ⟨x, rfl, by rw [sizeL]; exact hl, q.at R mk_int⟩
    · cases e
  · obtain ⟨v, rfl, p1⟩ := reps1 p
    obtain ⟨ys, e1, e2⟩ := mapS e
    subst e2
    obtain ⟨a, vs, rfl, h1, h2⟩ := rep_items R e1 p1
    exact call_len_seq pins s σ H _ us Q I rv ⟨a, vs, rfl, h1, by rw [← h2.length]; exact q.at R mk_int⟩
  · cases e
theorem cr_abs : CallR X (.builtin "abs") (rBlt X.K "abs") := by
  intro pins s σ H xs us Q I rv ⟨μ, S, ds, d, R, p, e, q⟩
  simp only [bltD, String.reduceEq, ↓reduceIte] at e
  split at e
  · obtain ⟨v, rfl, p1⟩ := reps1 p
    cases rep_int p1
    cases e
    exact call_abs pins s σ H _ us Q I rv ⟨_, rfl, q.at R mk_int⟩
  · cases e
theorem cr_int : CallR X (.type "int") (rBlt X.K "int") := by
  intro pins s σ H xs us Q I rv ⟨μ, S, ds, d, R, p, e, q⟩
  simp only [bltD, String.reduceEq, ↓reduceIte] at e
  split at e
  · obtain ⟨v, rfl, p1⟩ := reps1 p
    cases rep_int p1
    cases e
    exact call_int1 pins s σ H _ us Q I rv (.inl ⟨_, rfl, q.at R mk_int⟩)
  · obtain ⟨v, rfl, p1⟩ := reps1 p
    cases rep_bl p1
    cases e
    exact call_int1 pins s σ H _ us Q I rv (.inr ⟨_, rfl, q.at R mk_int⟩)
  · cases e
theorem cr_allD (hk : KcOk X k) : CallR X (.builtin "all") (rBlt X.K "all") := by
  intro pins s σ H xs us Q I rv ⟨μ, S, ds, d, R, p, e, q⟩
  simp only [bltD, String.reduceEq, ↓reduceIte] at e
  split at e
  · obtain ⟨v, rfl, p1⟩ := reps1 p
    obtain ⟨ys, e1, e2⟩ := bindS e
    obtain ⟨bs, e3, e4⟩ := mapS e2
    subst e4
    obtain ⟨a, vs, rfl, h1, h2⟩ := rep_litems R e1 p1
    rw [bls_rep e3 h2] at h1
    exact cr_all hk.calm pins s σ H _ us Q I rv ⟨a, bs, rfl, h1, q.at R mk_bl⟩
  · cases e
theorem cr_anyD (hk : KcOk X k) : CallR X (.builtin "any") (rBlt X.K "any") := by
  intro pins s σ H xs us Q I rv ⟨μ, S, ds, d, R, p, e, q⟩
  simp only [bltD, String.reduceEq, ↓reduceIte] at e
  split at e
  · obtain ⟨v, rfl, p1⟩ := reps1 p
    obtain ⟨ys, e1, e2⟩ := bindS e
    obtain ⟨bs, e3, e4⟩ := mapS e2
    subst e4
    obtain ⟨a, vs, rfl, h1, h2⟩ := rep_litems R e1 p1
    rw [bls_rep e3 h2] at h1
    exact cr_any hk.calm pins s σ H _ us Q I rv ⟨a, bs, rfl, h1, q.at R mk_bl⟩
  · cases e
theorem cr_tuple : CallR X (.type "tuple") (rBlt X.K "tuple") := by
  intro pins s σ H xs us Q I rv ⟨μ, S, ds, d, R, p, e, q⟩
  simp only [bltD, String.reduceEq, ↓reduceIte] at e
  split at e
  · obtain ⟨v, rfl, p1⟩ := reps1 p
    obtain ⟨ys, e1, e2⟩ := mapS e
    subst e2
    obtain ⟨a, vs, rfl, h1, h2⟩ := rep_items R e1 p1
    refine call_tuple_of pins s σ H _ us Q I rv ⟨a, vs, rfl, ?_⟩
    rcases h1 with h1 | h1
    · exact .inl ⟨h1, fun l hl => q.new R hl (mk_tup (SqT.of upd_same) (h2.mono R (Ext.new hl)))⟩
    · exact .inr ⟨h1, q.at R (mk_tup h1 h2)⟩
  · cases e
theorem cr_list : CallR X (.type "list") (rBlt X.K "list") := by
  intro pins s σ H xs us Q I rv ⟨μ, S, ds, d, R, p, e, q⟩
  simp only [bltD, String.reduceEq, ↓reduceIte] at e
  split at e
  · obtain ⟨v, rfl, p1⟩ := reps1 p
    obtain ⟨ys, e1, e2⟩ := mapS e
    subst e2
    obtain ⟨a, vs, rfl, h1, h2⟩ := rep_items R e1 p1
    exact call_list_of pins s σ H _ us Q I rv ⟨a, vs, rfl, h1, fun l hl => q.new R hl (mk_lst (R.fz hl) upd_same (h2.mono R (Ext.new hl)))⟩
  · cases e
theorem cr_divmod : CallR X (.builtin "divmod") (rBlt X.K "divmod") := by
  intro pins s σ H xs us Q I rv ⟨μ, S, ds, d, R, p, e, q⟩
  simp only [bltD, String.reduceEq, ↓reduceIte] at e
  split at e
  · obtain ⟨v, u, rfl, p1, p2⟩ := reps2 p
    cases rep_int p1
    cases rep_int p2
    split at e
    · rename_i hc
      cases e
      exact call_divmod pins s σ H _ us Q I rv ⟨_, _, rfl, hc, fun l hl => q.new R hl (mk_tup (SqT.of upd_same) (Reps.cons mk_int (Reps.cons mk_int Reps.nil)))⟩
    · cases e
  · cases e
theorem cr_minD (hk : KcOk X k) : CallR X (.builtin "min") (rBlt X.K "min") := by
  intro pins s σ H xs us Q I rv ⟨μ, S, ds, d, R, p, e, q⟩
  simp only [bltD, String.reduceEq, ↓reduceIte] at e
  split at e
  · obtain ⟨v, u, rfl, p1, p2⟩ := reps2 p
    cases rep_int p1
    cases rep_int p2
    cases e
    exact call_min2 hk.calm pins s σ H _ us Q I rv ⟨_, _, rfl, q.at R mk_int⟩
  · cases e
theorem cr_maxD (hk : KcOk X k) : CallR X (.builtin "max") (rBlt X.K "max") := by
  intro pins s σ H xs us Q I rv ⟨μ, S, ds, d, R, p, e, q⟩
  simp only [bltD, String.reduceEq, ↓reduceIte] at e
  split at e
  · obtain ⟨v, u, rfl, p1, p2⟩ := reps2 p
    cases rep_int p1
    cases rep_int p2
    cases e
    exact call_max2 hk.calm pins s σ H _ us Q I rv ⟨_, _, rfl, q.at R mk_int⟩
  · obtain ⟨v, rfl, p1⟩ := reps1 p
    obtain ⟨ys, e1, e2⟩ := bindS e
    obtain ⟨ns, e3, e4⟩ := bindS e2
    obtain ⟨a, vs, rfl, h1, h2⟩ := rep_litems R e1 p1
    rw [ints_rep e3 h2] at h1
    cases ns with
    | nil => cases e4
    | cons n r =>
      cases e4
      refine cr_max hk.calm pins s σ H _ us Q I rv ⟨a, n :: r, rfl, h1, by simp, fun m hm hy => ?_⟩
      have e5 : m = r.foldl max n := Int.le_antisymm (foldl_max_ge r n m (List.mem_cons.mp hm)) (hy _ (foldl_max_mem r n))
      rw [e5]
      exact q.at R mk_int
  · cases e
theorem cr_gcdD : CallR X (.builtin "math.gcd") (rBlt X.K "gcd") := by
  intro pins s σ H xs us Q I rv ⟨μ, S, ds, d, R, p, e, q⟩
  simp only [bltD, String.reduceEq, ↓reduceIte] at e
  split at e
  · obtain ⟨v, u, rfl, p1, p2⟩ := reps2 p
    cases rep_int p1
    cases rep_int p2
    cases e
    exact cr_gcd pins s σ H _ us Q I rv ⟨_, _, rfl, q.at R mk_int⟩
  · cases e
/-! repr of data, dicts too -/
theorem keys_read {P : Program} {w : World} {h : Heap} : ∀ {es : List DictEntry} {kvs : List (Key × Value)}, Pairs (mixKind P w) es kvs → ReadsAll h (es.map (·.key)) (kvs.map fun q => kP q.1) []
  | _, _, .nil => .nil
  | e :: es, (kk, v) :: kvs, .cons h1 h2 t => by
    have r := keys_read (h := h) t
    rcases keyIs_shape (show keyIs kk e.key = true from h1) with ⟨i, tk, ek, ev⟩ | ⟨x, tk, ek, ev⟩
    · subst ek
      show ReadsAll h (e.key :: es.map (·.key)) (PyData.int i :: kvs.map fun q => kP q.1) ([] ++ [])
      rw [ev]
      exact .cons (.int i tk) r
    · subst ek
      show ReadsAll h (e.key :: es.map (·.key)) (PyData.str x :: kvs.map fun q => kP q.1) ([] ++ [])
      rw [ev]
      exact .cons (.str x tk) r
theorem vals_read {P : Program} {w : World} : ∀ {es : List DictEntry} {kvs : List (Key × Value)}, Pairs (mixKind P w) es kvs → es.map (·.val) = kvs.map (·.2)
  | _, _, .nil => rfl
  | e :: es, (kk, v) :: kvs, .cons h1 h2 t => by
    rw [List.map_cons, List.map_cons, vals_read t, h2]
theorem kv_split : ∀ {ks : List Key} {vs : List V} {rs : List (Key × Value)}, ks.length = vs.length → KV (ks.zip vs) rs → (rs.map fun q => kP q.1) = ks.map kP ∧ Vals vs (rs.map (·.2))
  | [], [], rs, _, h => by
    cases h
    exact ⟨rfl, .nil⟩
  | kk :: ks, v :: vs, rs, l, h => by
    cases h with
    | cons a b =>
      obtain ⟨h1, h2⟩ := kv_split (by simpa using l) b
      refine ⟨?_, .cons a.2 h2⟩
      rw [List.map_cons, List.map_cons, h1, ← a.1]
  | [], v :: vs, rs, l, h => by cases l
  | kk :: ks, [], rs, l, h => by cases l
theorem rps_len : ∀ {ds : List D} {ps : List PyData}, rps ds = some ps → ps.length = ds.length
  | [], ps, e => by simp only [rps, Option.some.injEq] at e; subst e; rfl
  | d :: ds, ps, e => by
    simp only [rps] at e
    obtain ⟨p, e1, e2⟩ := bindS e
    obtain ⟨r, e3, rfl⟩ := mapS e2
    rw [List.length_cons, List.length_cons, rps_len e3]
section
variable {pins : List (Addr × Obj)} {σ : L2.St} {H : Hp} {s : Shared} {μ : Mu}
theorem list_sys (hy : ∃ o, X.K.lookup sysModules = some o ∧ o.cls = .type "dict") (I : Inv X pins σ H s) {a : Addr} {o : Obj} (ho : s.heap.get? a = some o) (hc : o.cls = .type "list") : sysModules ≠ a := by
  intro q
  obtain ⟨o2, l, c⟩ := hy
  have w := I.kIn _ _ l
  rw [q, ho] at w
  cases w
  rw [hc] at c
  injection c with c
  exact absurd c (by decide)
mutual
theorem rd_of (hy : ∃ o, X.K.lookup sysModules = some o ∧ o.cls = .type "dict") (I : Inv X pins σ H s) : ∀ {d : D} {p : PyData} {v : V} {u : Value}, rp d = some p → Rep X.K μ H d v → RelV v u → ∃ as, Reads s.heap u p as ∧ sysModules ∉ as
  | .non, p, v, u, e, h, r => by simp only [rp, Option.some.injEq] at e; subst e; cases rep_non h; cases r; exact ⟨_, .none, by simp⟩
  | .bl b, p, v, u, e, h, r => by simp only [rp, Option.some.injEq] at e; subst e; cases rep_bl h; cases r; exact ⟨_, .bool b, by simp⟩
  | .int i, p, v, u, e, h, r => by simp only [rp, Option.some.injEq] at e; subst e; cases rep_int h; obtain ⟨t, rfl⟩ := r; exact ⟨_, .int i t, by simp⟩
  | .str x, p, v, u, e, h, r => by simp only [rp, Option.some.injEq] at e; subst e; cases rep_str h; obtain ⟨t, rfl⟩ := r; exact ⟨_, .str x t, by simp⟩
  | .tup ds, p, v, u, e, h, r => by
    simp only [rp] at e
    obtain ⟨ps, e1, rfl⟩ := mapS e
    obtain ⟨a, vs, rfl, h1, h2⟩ := rep_tup h
    cases r
    obtain ⟨its, rv, ⟨o, ho, hc, n, hd⟩, _⟩ := I.tuple h1
    obtain ⟨as, hr, hn⟩ := rds_of hy I e1 h2 rv
    exact ⟨_, .tuple ho hc hd hr, hn⟩
  | .lst ds, p, v, u, e, h, r => by
    simp only [rp] at e
    obtain ⟨ps, e1, rfl⟩ := mapS e
    simp only [Rep] at h
    obtain ⟨a, vs, rfl, _, h1, h2⟩ := h
    cases r
    obtain ⟨its, rv, ⟨o, n, ho, hc, _, hd⟩, _⟩ := I.list (SqL.of h1)
    obtain ⟨as, hr, hn⟩ := rds_of hy I e1 h2 rv
    refine ⟨_, .list ho hc hd hr, fun q => ?_⟩
    rcases List.mem_cons.mp q with q | q
    · exact list_sys hy I ho hc q
    · exact hn q
  | .scr ds, p, v, u, e, h, r => by
    simp only [rp] at e
    obtain ⟨ps, e1, rfl⟩ := mapS e
    simp only [Rep] at h
    obtain ⟨a, vs, rfl, h1, h2⟩ := h
    cases r
    obtain ⟨its, rv, ⟨o, n, ho, hc, _, hd⟩, _⟩ := I.list h1.sql
    obtain ⟨as, hr, hn⟩ := rds_of hy I e1 h2 rv
    refine ⟨_, .list ho hc hd hr, fun q => ?_⟩
    rcases List.mem_cons.mp q with q | q
    · exact list_sys hy I ho hc q
    · exact hn q
  | .dic ks ds, p, v, u, e, h, r => by
    simp only [rp] at e
    obtain ⟨ps, e1, rfl⟩ := mapS e
    simp only [Rep] at h
    obtain ⟨a, vs, rfl, _, hl, h1, h2⟩ := h
    cases r
    obtain ⟨_, hs, rs, kv, o, es, ep, ho, hx, hd, _, hp, _⟩ := I.hok a _ h1
    obtain ⟨k1, v1⟩ := kv_split hl kv
    obtain ⟨as, hr, hn⟩ := rds_of hy I e1 h2 v1
    have l1 := rps_len e1
    have l2 := h2.length
    refine ⟨_, Reads.dict (kvs := (ks.map kP).zip ps) (as := []) (bs := as) ho hx.1 hd ?_ ?_, fun q => ?_⟩
    · rw [List.map_fst_zip (by rw [List.length_map]; omega), ← k1]
      exact keys_read hp
    · rw [List.map_snd_zip (by rw [List.length_map]; omega), vals_read hp]
      exact hr
    · rcases List.mem_cons.mp q with q | q
      · rw [q, beq_self_eq_true] at hs
        cases hs
      · exact hn q
  | .ref _, p, v, u, e, h, r => by simp only [rp] at e; cases e
  | .exc _ _ _, p, v, u, e, h, r => by simp only [rp] at e; cases e
theorem rds_of (hy : ∃ o, X.K.lookup sysModules = some o ∧ o.cls = .type "dict") (I : Inv X pins σ H s) : ∀ {ds : List D} {ps : List PyData} {vs : List V} {us : List Value}, rps ds = some ps → Reps X.K μ H ds vs → Vals vs us → ∃ as, ReadsAll s.heap us ps as ∧ sysModules ∉ as
  | [], ps, vs, us, e, h, r => by
    simp only [rps, Option.some.injEq] at e; subst e
    rw [reps_nil.mp h] at r
    cases r
    exact ⟨_, .nil, by simp⟩
  | d :: ds, ps, vs, us, e, h, r => by
    simp only [rps] at e
    obtain ⟨p, e1, e2⟩ := bindS e
    obtain ⟨rr, e3, rfl⟩ := mapS e2
    obtain ⟨v, vr, rfl, h1, h2⟩ := reps_cons.mp h
    cases r with
    | cons r1 r2 =>
      obtain ⟨as, q1, n1⟩ := rd_of hy I e1 h1 r1
      obtain ⟨bs, q2, n2⟩ := rds_of hy I e3 h2 r2
      exact ⟨_, .cons q1 q2, fun z => (List.mem_append.mp z).elim n1 n2⟩
end
theorem rd_dr (hy : ∃ o, X.K.lookup sysModules = some o ∧ o.cls = .type "dict") (I : Inv X pins σ H s) {S : Sto} (R : Rl X.K μ H S) {d : D} {p : PyData} {v : V} {u : Value} (e : rp (dr S d) = some p) (h : Rep X.K μ H d v) (r : RelV v u) : ∃ as, Reads s.heap u p as ∧ sysModules ∉ as := by
  cases d with
  | ref n =>
    cases q : S[n]? with
    | none => simp only [dr, q] at e; simp only [rp] at e; cases e
    | some mo =>
      have e1 : dr S (.ref n) = .lst mo.xs := by simp only [dr, q]
      obtain ⟨a, vs, rfl, h1, h2⟩ := rep_lst R e1 h
      rw [e1] at e
      simp only [rp] at e
      obtain ⟨ps, e2, rfl⟩ := mapS e
      cases r
      obtain ⟨its, rv, ⟨o, n, ho, hc, _, hd⟩, _⟩ := I.list (SqL.of h1)
      obtain ⟨as, hr, hn⟩ := rds_of hy I e2 h2 rv
      refine ⟨_, .list ho hc hd hr, fun q => ?_⟩
      rcases List.mem_cons.mp q with q | q
      · exact list_sys hy I ho hc q
      · exact hn q
  | _ => exact rd_of hy I (by simpa only [dr] using e) h r
end
theorem cr_repr (hk : KcOk X k) : CallR X (.builtin "repr") (rBlt X.K "repr") := by
  intro pins s σ H xs us Q I rv ⟨μ, S, ds, d, R, p, e, q⟩
  simp only [bltD, String.reduceEq, ↓reduceIte] at e
  split at e
  · obtain ⟨v, rfl, p1⟩ := reps1 p
    obtain ⟨pdt, e1, e2⟩ := bindS e
    split at e2
    · rename_i hc
      cases e2
      simp only [Bool.and_eq_true, decide_eq_true_eq] at hc
      obtain ⟨⟨c1, c3⟩, c4⟩ := hc
      obtain ⟨u, rfl, rx⟩ := vals1 rv
      obtain ⟨as, rdd, hn⟩ := rd_dr hk.sys I R e1 p1 rx
      have hu := hk.hu
      have fin : ∀ a, u = .ref a → wpAny (model X.prog X.w) X.A (call (.builtin "repr") [u]) (EP X pins σ Q) X.xe s := fun a ea => by
        subst ea
        exact repr_of_reads' rdd c1 (fun _ => hn) hk.gd (by omega) (fun _ _ e => e) (fun h' u tk hk' => ⟨.str _, H, I.kept hk', ⟨_, rfl⟩, q.at R mk_str⟩) (by rw [sizeL]; exact c4)
      cases rdd with
      | none =>
        refine PySem.P.repr_of_none ⟨.str _, H, I.tok _, ⟨_, rfl⟩, ?_⟩
        have := q.at R mk_str
        simpa only [PyData.shown] using this
      | bool b =>
        refine PySem.P.repr_of_bool ⟨.str _, H, I.tok _, ⟨_, rfl⟩, ?_⟩
        have := q.at R mk_str
        cases b <;> simpa only [PyData.shown] using this
      | int i t =>
        refine PySem.P.repr_of_int (by simpa [PyData.showable] using c1) ⟨.str _, H, I.tok _, ⟨_, rfl⟩, ?_⟩
        have := q.at R mk_str
        simpa only [PyData.shown] using this
      | str z t =>
        refine PySem.P.repr_of_str ⟨.str _, H, I.tok _, ⟨_, rfl⟩, ?_⟩ (by rw [sizeL]; simpa only [PyData.shown] using c4)
        have := q.at R mk_str
        simpa only [PyData.shown] using this
      | list _ _ _ _ => exact fin _ rfl
      | tuple _ _ _ _ => exact fin _ rfl
      | dict _ _ _ _ _ => exact fin _ rfl
    · cases e2
  · cases e
theorem cr_str : CallR X (.type "str") (rBlt X.K "str") := by
  intro pins s σ H xs us Q I rv ⟨μ, S, ds, d, R, p, e, q⟩
  simp only [bltD, String.reduceEq, ↓reduceIte] at e
  split at e
  · obtain ⟨v, rfl, p1⟩ := reps1 p
    cases rep_int p1
    split at e
    · rename_i hz
      cases e
      exact call_str_int pins s σ H _ us Q I rv ⟨_, rfl, hz, q.at R mk_str⟩
    · cases e
  · obtain ⟨v, rfl, p1⟩ := reps1 p
    cases rep_str p1
    cases e
    exact SkE.call_str_str pins s σ H _ us Q I rv ⟨_, rfl, q.at R mk_str⟩
  · obtain ⟨v, rfl, p1⟩ := reps1 p
    cases rep_bl p1
    cases e
    obtain ⟨u, rfl, r1⟩ := vals1 rv
    cases r1
    exact PySem.P.str_of_bool ⟨.str _, H, I.tok _, ⟨_, rfl⟩, q.at R mk_str⟩
  · cases e
theorem cr_sumD (hk : KcOk X k) : CallR X (.builtin "sum") (rBlt X.K "sum") := by
  intro pins s σ H xs us Q I rv ⟨μ, S, ds, d, R, p, e, q⟩
  simp only [bltD, String.reduceEq, ↓reduceIte] at e
  split at e
  · obtain ⟨v, rfl, p1⟩ := reps1 p
    obtain ⟨ys, e1, e2⟩ := bindS e
    obtain ⟨ns, e3, e4⟩ := mapS e2
    subst e4
    obtain ⟨a, vs, rfl, h1, h2⟩ := rep_litems R e1 p1
    rw [ints_rep e3 h2] at h1
    exact cr_sum hk.calm pins s σ H _ us Q I rv ⟨a, ns, rfl, h1, q.at R mk_int⟩
  · cases e
/-! sorted -/
theorem tupC_is {p : PyData} (h : tupC p = true) : ∃ x r, p = .tuple (x :: r) := by
  cases p with
  | tuple xs =>
    cases xs with
    | nil => cases h
    | cons x r => exact ⟨x, r, rfl⟩
  | _ => cases h
theorem atomC_is {p : PyData} (h : atomC p = true) : p ≠ .none ∧ ∀ xs, p ≠ .tuple xs := by
  cases p <;> first | (cases h; done) | exact ⟨fun q => (by cases q), fun xs q => (by cases q)⟩
theorem srtOk_is {ps : List PyData} (h : srtOk ps = true) : PySem.W.AllAlike ps ∧ PySem.W.Sortable ps ∧ ∀ p ∈ ps, p.depth ≤ 48 := by
  unfold srtOk at h
  obtain ⟨h12, h3⟩ := Bool.and_eq_true_iff.mp h
  obtain ⟨h1, h2⟩ := Bool.and_eq_true_iff.mp h12
  refine ⟨fun d hd d' hd' => List.all_eq_true.mp (List.all_eq_true.mp h1 d hd) d' hd', ?_, fun p hp => of_decide_eq_true (List.all_eq_true.mp h3 p hp)⟩
  rcases Bool.or_eq_true_iff.mp h2 with h2 | h2
  · exact .inl fun d hd => tupC_is (List.all_eq_true.mp h2 d hd)
  · exact .inr fun d hd => atomC_is (List.all_eq_true.mp h2 d hd)
theorem each_of {K : PySem.W.Frag} {μ : Mu} {H : Hp} {P : Value → PyData → Prop} {ps0 : List PyData} : ∀ {ds : List D} {ps : List PyData} {vs : List V} {us : List Value}, pds ds = some ps → (∀ p ∈ ps, p ∈ ps0) → Reps K μ H ds vs → Vals vs us → PySem.W.EachIs P us ps →
    PySem.W.EachIs (fun u d => (∃ v, Rep K μ H d v ∧ RelV v u) ∧ ∃ p ∈ ps0, pd d = some p ∧ P u p) us ds
  | [], ps, vs, us, e, _, r, rv, ea => by
    rw [reps_nil.mp r] at rv
    cases rv
    exact .nil
  | d :: ds, ps, vs, us, e, hm, r, rv, ea => by
    simp only [pds] at e
    obtain ⟨p, e1, e2⟩ := bindS e
    obtain ⟨rs, e3, e4⟩ := mapS e2
    subst e4
    obtain ⟨v, vr, rfl, r1, r2⟩ := reps_cons.mp r
    cases rv with
    | cons a1 a2 =>
      cases ea with
      | cons b1 b2 => exact .cons ⟨⟨v, r1, a1⟩, p, hm p (List.mem_cons_self ..), e1, b1⟩ (each_of e3 (fun q hq => hm q (List.mem_cons_of_mem _ hq)) r2 a2 b2)
theorem reads_each {h : Heap} : ∀ {us : List Value} {ps : List PyData} {as : List Addr}, ReadsAll h us ps as → PySem.W.EachIs (fun v d => ∃ as, Reads h v d as) us ps
  | _, _, _, .nil => .nil
  | _, _, _, .cons a b => .cons ⟨_, a⟩ (reads_each b)
theorem each_vals {K : PySem.W.Frag} {μ : Mu} {H : Hp} : ∀ {us : List Value} {ds : List D}, PySem.W.EachIs (fun u d => (∃ v, Rep K μ H d v ∧ RelV v u)) us ds → ∃ vs, Reps K μ H ds vs ∧ Vals vs us
  | _, _, .nil => ⟨[], Reps.nil, .nil⟩
  | _, _, .cons ⟨v, a, b⟩ t => by
    obtain ⟨vs, r, q⟩ := each_vals t
    exact ⟨v :: vs, Reps.cons a r, .cons b q⟩
theorem cr_sortedD (hk : KcOk X k) : CallR X (.builtin "sorted") (rBlt X.K "sorted") := by
  intro pins s σ H xs us Q I rv ⟨μ, S, ds, d, R, p, e, q⟩
  simp only [bltD, String.reduceEq, ↓reduceIte] at e
  split at e
  · obtain ⟨v, rfl, p1⟩ := reps1 p
    obtain ⟨ys, e1, e2⟩ := bindS e
    obtain ⟨ps, e3, e4⟩ := bindS e2
    split at e4
    · rename_i c
      cases e4
      obtain ⟨a, vs, rfl, h1, h2⟩ := rep_litems R e1 p1
      obtain ⟨its, rvs, hl, hz⟩ := I.list h1
      rw [Vals.ref1 rv]
      obtain ⟨c1, c2, c3⟩ := srtOk_is c
      obtain ⟨as, rd⟩ := Dp.readsAll I ps vs its (dps_of e3 h2) rvs
      have hL : its.length ≤ sizeLine := by rw [← rvs.length]; exact hz
      have hu := hk.hu
      have ea : PySem.W.EachIs (fun v d => ∃ as, Reads (PySem.W.sortingHeap (PySem.W.copyHeap s.heap its) (s.heap.objs.size + 1) its) v d as) its ps := reads_each (PyProof.Rows.ReadsAll.keeps (h := s.heap) (fun b o z => PySem.W.sorting_copy_old z) rd)
      refine PySem.W.sorted_vals (κ := PySem.W.dataKind (PySem.W.sortingHeap (PySem.W.copyHeap s.heap its) (s.heap.objs.size + 1) its) ps) hl.isList (PySem.W.SortsAt.data (s := { s with heap := PySem.W.sortingHeap (PySem.W.copyHeap s.heap its) (s.heap.objs.size + 1) its }) ea c1 c2 fun d hd => ?_) hL ?_
      · have := c3 d hd
        show X.A.units + 1 + 1 + d.depth < cLine
        omega
      · have eb := each_of (ps0 := ps) e3 (fun _ z => z) h2 rvs ea
        have ek : PySem.W.EachIs (fun v b => (PySem.W.dataKind (PySem.W.sortingHeap (PySem.W.copyHeap s.heap its) (s.heap.objs.size + 1) its) ps).keyOf v = some (kD b)) its ys := eb.mono fun u d ⟨_, p, hp, e5, as, r5⟩ => by
          rw [PySem.W.dataKind_some c1 hp r5]
          unfold kD
          rw [e5]
        have eo := PySem.W.sortVals_each (κ := PySem.W.dataKind (PySem.W.sortingHeap (PySem.W.copyHeap s.heap its) (s.heap.objs.size + 1) its) ps) (rev := false) kD (eb.mono fun u d z => z.1) ek
        obtain ⟨vo, ro, rvo⟩ := each_vals eo
        have hlen : vo.length ≤ sizeLine := by
          rw [rvo.length, PySem.W.sortVals_length _ rfl]
          exact hL
        obtain ⟨ep, he'⟩ := PyProof.Rows.sortedAll_at s.heap its (PySem.W.sortVals (PySem.W.dataKind (PySem.W.sortingHeap (PySem.W.copyHeap s.heap its) (s.heap.objs.size + 1) its) ps) false its its).toArray
        have hf := I.hok.fresh (Nat.le_succ s.heap.objs.size)
        exact ⟨.ref _, upd H (s.heap.objs.size + 1) (.lst vo), I.laid (t' := s.toks) (fun _ _ => PyProof.Rows.sortedAll_old) (Nat.le_succ _) ⟨hlen, _, ep, rvo, he'⟩, rfl, q.new R hf (mk_lst (R.fz hf) upd_same (ro.mono R (Ext.new hf)))⟩
    · cases e4
  · cases e
/-- the value of a built-in name -/
inductive BV where
  | fn (id : String) | ty (T : String)
def bltT : List (String × BV) := [("len", .fn "len"), ("abs", .fn "abs"), ("int", .ty "int"), ("all", .fn "all"), ("any", .fn "any"), ("tuple", .ty "tuple"), ("list", .ty "list"), ("divmod", .fn "divmod"), ("min", .fn "min"), ("max", .fn "max"), ("repr", .fn "repr"), ("str", .ty "str"), ("sum", .fn "sum"), ("sorted", .fn "sorted")]
def bltV (f : String) : Option BV := bltT.lookup f
theorem lookup_memS {α : Type} {x : String} {d : α} : ∀ {l : List (String × α)}, l.lookup x = some d → (x, d) ∈ l
  | [], h => by cases h
  | (y, e) :: l, h => by
    rw [List.lookup_cons] at h
    split at h
    · rename_i q
      cases h
      rw [eq_of_beq q]
      exact List.mem_cons_self ..
    · exact List.mem_cons_of_mem _ (lookup_memS h)
theorem bltV_ok (hk : KcOk X k) {f : String} {b : BV} (h : bltV f = some b) : match b with
    | .fn id => bootBuiltins (Str.ofString f) = some (.builtin id) ∧ CallR X (.builtin id) (rBlt X.K f)
    | .ty T => bootBuiltins (Str.ofString f) = some (.type T) ∧ CallR X (.type T) (rBlt X.K f) := by
  have hm := lookup_memS h
  simp only [bltT, List.mem_cons, Prod.mk.injEq, List.not_mem_nil, or_false] at hm
  rcases hm with ⟨rfl, rfl⟩ | ⟨rfl, rfl⟩ | ⟨rfl, rfl⟩ | ⟨rfl, rfl⟩ | ⟨rfl, rfl⟩ | ⟨rfl, rfl⟩ | ⟨rfl, rfl⟩ | ⟨rfl, rfl⟩ | ⟨rfl, rfl⟩ | ⟨rfl, rfl⟩ | ⟨rfl, rfl⟩ | ⟨rfl, rfl⟩ | ⟨rfl, rfl⟩ | ⟨rfl, rfl⟩
  · exact ⟨by decide +kernel, cr_len⟩
  · exact ⟨by decide +kernel, cr_abs⟩
  · exact ⟨by decide +kernel, cr_int⟩
  · exact ⟨by decide +kernel, cr_allD hk⟩
  · exact ⟨by decide +kernel, cr_anyD hk⟩
  · exact ⟨by decide +kernel, cr_tuple⟩
  · exact ⟨by decide +kernel, cr_list⟩
  · exact ⟨by decide +kernel, cr_divmod⟩
  · exact ⟨by decide +kernel, cr_minD hk⟩
  · exact ⟨by decide +kernel, cr_maxD hk⟩
  · exact ⟨by decide +kernel, cr_repr hk⟩
  · exact ⟨by decide +kernel, cr_str⟩
  · exact ⟨by decide +kernel, cr_sumD hk⟩
  · exact ⟨by decide +kernel, cr_sortedD hk⟩
theorem e_blt (hk : KcOk X k) {f : String} {x : Str} {e : Expr} {es : List Expr} {cs : List C} {p pos : Pos} (ha : PA X (e :: es) (tEvs X.K k.g cs)) (hp : (e :: es).all plainX = true) (hx : x = Str.ofString f)
    (hf : (bltV f).isSome = true) (hfree : x ∈ k.free) (hg : glB k.sc x = true) (hn : nmB x = true) : PE X (.Call (.Name x p) (e :: es) [] pos) (tEv X.K k.g (.blt f cs)) := by
  obtain ⟨b, hb⟩ := Option.isSome_iff_exists.mp hf
  obtain ⟨h1, h2⟩ := Bool.and_eq_true_iff.mp (show (plainX e && es.all plainX) = true from hp)
  obtain ⟨n1, _, n3⟩ := nmB_ok hn
  have w := bltV_ok hk hb
  have step : ∀ {r : List V → Hp → VK → Prop}, (∀ xs H Q, rBlt X.K f xs H Q → r xs H Q) → ∀ σ H Q, tEv X.K k.g (.blt f cs) σ H Q → tCB r (tEvs X.K k.g cs) σ H Q := fun {r} i σ H Q ⟨μ, δ, S, d, S', E, R, e1, q⟩ => by
    simp only [evE] at e1
    obtain ⟨⟨ds, S1⟩, e2, e3⟩ := bindS e1
    obtain ⟨d', e4, e5⟩ := mapS e3
    cases e5
    exact evs1 E R e2 fun xs H1 μ1 E1 R1 _ p1 => i _ _ _ ⟨μ1, _, ds, _, R1, p1, e4, q.ext E1⟩
  subst hx
  cases b with
  | fn id => exact (pe_callB w.2 (glB_ok hk hg) (hk.free _ hfree) w.1 ha n3 n1 (star_of h1 _ _) (nostar h2 _ _)).imp (step fun _ _ _ z => z)
  | ty T => exact (pe_callTy w.2 (glB_ok hk hg) (hk.free _ hfree) w.1 ha n3 n1 (star_of h1 _ _) (nostar h2 _ _)).imp (step fun _ _ _ z => z)
theorem e_gcd (hk : KcOk X k) {x : Str} {e : Expr} {es : List Expr} {cs : List C} {p pos : Pos} (ha : PA X (e :: es) (tEvs X.K k.g cs)) (hp : (e :: es).all plainX = true)
    (hb : k.bf.lookup x = some "math.gcd") (hg : glB k.sc x = true) (hn : nmB x = true) : PE X (.Call (.Name x p) (e :: es) [] pos) (tEv X.K k.g (.blt "gcd" cs)) := by
  obtain ⟨h1, h2⟩ := Bool.and_eq_true_iff.mp (show (plainX e && es.all plainX) = true from hp)
  obtain ⟨n1, _, n3⟩ := nmB_ok hn
  exact (pe_callBfun cr_gcdD (glB_ok hk hg) (hk.bf _ _ hb) ha n1 (star_of h1 _ _) (nostar h2 _ _)).imp fun σ H Q ⟨μ, δ, S, d, S', E, R, e1, q⟩ => by
    simp only [evE] at e1
    obtain ⟨⟨ds, S1⟩, e2, e3⟩ := bindS e1
    obtain ⟨d', e4, e5⟩ := mapS e3
    cases e5
    exact evs1 E R e2 fun xs H1 μ1 E1 R1 _ p1 => ⟨μ1, _, ds, _, R1, p1, e4, q.ext E1⟩

/-! ### isinstance with a built-in class -/
theorem tyx_of {K : PySem.W.Frag} {μ : Mu} {H : Hp} {S : Sto} (R : Rl K μ H S) {d : D} {v : V} (h : Rep K μ H d v) (hr : ∀ n, d = .ref n → n < S.length) (hx : tyD d ≠ "") : TyX K H v (.type (tyD d)) := by
  cases d with
  | non => cases rep_non h; exact .base .non
  | bl b => cases rep_bl h; exact .base (.bl b)
  | int b => cases rep_int h; exact .base (.int b)
  | str b => cases rep_str h; exact .base (.str b)
  | tup xs =>
    obtain ⟨a, vs, rfl, h1, h2⟩ := rep_tup h
    rcases h1 with (h1 | ⟨o, h1⟩) | ⟨o, its, n, h1, h3, _⟩
    · exact .base (.tup h1)
    · exact .fTuple h1
    · exact .kTuple h1 h3
  | lst xs =>
    simp only [Rep] at h
    obtain ⟨a, vs, rfl, _, h1, _⟩ := h
    exact .base (.lst h1)
  | scr xs =>
    simp only [Rep] at h
    obtain ⟨a, vs, rfl, h1, _⟩ := h
    rcases h1 with ⟨o, h1⟩ | ⟨o, its, n, h1, h3, _⟩
    · exact .base (.frz h1)
    · exact .kList h1 h3
  | dic ks xs =>
    simp only [Rep] at h
    obtain ⟨a, vs, rfl, _, _, h1, _⟩ := h
    exact .base (.dK h1)
  | ref n =>
    simp only [Rep] at h
    obtain ⟨a, rfl, h1⟩ := h
    obtain ⟨vs, e⟩ := R.mem (List.mem_of_getElem? h1)
    exact .base (.lst e)
  | exc _ _ _ => exact absurd rfl hx
def tyNames : List String := ["int", "str", "bool", "tuple", "list", "dict"]
theorem kit_no {T : String} (h : T ∈ tyNames) : kitB "" T = none := by
  simp only [tyNames, List.mem_cons, List.not_mem_nil, or_false] at h
  rcases h with rfl | rfl | rfl | rfl | rfl | rfl <;> decide +kernel
theorem tyNames_ok {T : String} (h : T ∈ tyNames) : bootBuiltins (Str.ofString T) = some (.type T) := by
  simp only [tyNames, List.mem_cons, List.not_mem_nil, or_false] at h
  rcases h with rfl | rfl | rfl | rfl | rfl | rfl <;> decide +kernel
theorem e_isi (hk : KcOk X k) {T : String} {x t : Str} {e : Expr} {c : C} {p p2 pos : Pos} (ha : PE X e (tEv X.K k.g c)) (hp : plainX e = true) (hx : x = Str.ofString "isinstance") (ht : t = Str.ofString T) (hT : T ∈ tyNames)
    (hf1 : x ∈ k.free) (hf2 : t ∈ k.free) (hg1 : glB k.sc x = true) (hg2 : glB k.sc t = true) (hn : nmB t = true) : PE X (.Call (.Name x p) [e, .Name t p2] [] pos) (tEv X.K k.g (.isi c T)) := by
  subst hx
  obtain ⟨n1, _, n3⟩ := nmB_ok hn
  have hb := tyNames_ok hT
  rw [← ht] at hb
  have hN : PE X (.Name t p2) (tC (.ty T)) := pe_bltn (glB_ok hk hg2) (hk.free _ hf2) hb rfl n3 n1
  refine (pe_callB call_isi (glB_ok hk hg1) (hk.free _ hf1) (by decide +kernel) (pa_cons ha (pa_cons hN pa_nil) (star_of hp _ _)) (by decide +kernel) (by decide +kernel) (star_of hp _ _) rfl).imp fun σ H Q ⟨μ, δ, S, d, S', E, R, e1, q⟩ => ?_
  simp only [evE] at e1
  obtain ⟨⟨d1, S1⟩, e2, e3⟩ := bindS e1
  obtain ⟨b, e4, e5⟩ := mapS e3
  cases e5
  refine ev1 E R e2 fun x H1 μ1 E1 R1 _ p1 => ⟨x, .ty T, _, _, b, rfl, .ty T, tyx_of R1 p1 (fun n en => ?_) (fun z => by dsimp only at e4; rw [z, kit_no hT] at e4; cases e4), kit_ty e4, (q.ext E1).at R1 mk_bl⟩
  subst en
  simp only [Rep] at p1
  obtain ⟨a, _, h1⟩ := p1
  rw [← R1.len]
  exact (List.getElem?_eq_some_iff.mp h1).1

/-! ### subscripts, slices -/
theorem at_rep {K : PySem.W.Frag} {μ : Mu} {H : Hp} {ds : List D} {vs : List V} (h : Reps K μ H ds vs) {i : Int} {d : D} (e : atI ds i = some d) : ∃ v, atI vs i = some v ∧ Rep K μ H d v := by
  unfold atI at e ⊢
  obtain ⟨j, e1, e2⟩ := bindS e
  obtain ⟨v, e3, p⟩ := h.get e2
  refine ⟨v, ?_, p⟩
  rw [← h.length, e1]
  exact e3
theorem e_ix (hk : KcOk X k) {x y : Expr} {a b : C} {pos : Pos} (ha : PE X x (tEv X.K k.g a)) (hb : PE X y (tEv X.K k.g b)) (hp : plainX y = true) : PE X (.Subscript x y pos) (tEv X.K k.g (.ix a b)) :=
  (pe_ix ix_seq ha hb (fun _ _ => by cases y <;> first | rfl | cases hp)).imp fun σ H Q ⟨μ, δ, S, d, S', E, R, e1, q⟩ => by
  simp only [evE] at e1
  obtain ⟨⟨d1, S1⟩, e2, e3⟩ := bindS e1
  obtain ⟨⟨d2, S2⟩, e4, e5⟩ := bindS e3
  obtain ⟨r, e6, e7⟩ := mapS e5
  cases e7
  refine ev2 E R e2 e4 fun x y H2 μ2 E2 R2 _ p1 p2 => ?_
  cases d2 with
  | int i =>
    cases rep_int p2
    obtain ⟨xs, e8, e9⟩ := bindS e6
    obtain ⟨a, vs, rfl, h1, h2⟩ := rep_items R2 e8 p1
    obtain ⟨v, e10, p3⟩ := at_rep h2 e9
    rcases h1 with h1 | h1
    · exact .inl ⟨a, vs, i, v, rfl, rfl, h1, e10, (q.ext E2).at R2 p3⟩
    · exact .inr (.inl ⟨a, vs, i, v, rfl, rfl, h1, e10, (q.ext E2).at R2 p3⟩)
  | _ => cases e6
theorem cut_rep {K : PySem.W.Frag} {μ : Mu} {H : Hp} {ds : List D} {vs : List V} (h : Reps K μ H ds vs) (lo hi : Option Int) : Reps K μ H (cutD ds lo hi) (cutV vs lo hi) := by
  unfold cutD cutV
  rw [h.length]
  exact (h.drop _).take _
theorem cut_whole {ds : List D} {lo hi : Option Int} (h : HT.sIx ds.length 0 lo = 0 ∧ HT.sIx ds.length ds.length hi = ds.length) : cutD ds lo hi = ds := by
  unfold cutD
  rw [h.1, h.2, List.drop_zero, Nat.sub_zero, List.take_length]
def rSlD (K : PySem.W.Frag) : V → Option Int → Option Int → Hp → VK → Prop := fun x lo hi H Q => ∃ μ S d1 d, Rl K μ H S ∧ Rep K μ H d1 x ∧ slD S d1 lo hi = some d ∧ Pst K μ H S d Q
theorem sl_D : SlR X (rSlD X.K) := by
  intro pins s σ H x v vl vu lo hi sl Q I rx hs pl pu ⟨μ, S, d1, d, R, p1, e, q⟩
  unfold slD at e
  split at e
  · rename_i xs e1
    have z := dr_tup e1; subst z
    obtain ⟨a, vs, rfl, h1, h2⟩ := rep_tup p1
    cases e
    refine sl_tupA pins s σ H _ v vl vu lo hi sl Q I rx hs pl pu ⟨a, vs, rfl, h1, fun w => ?_, fun w p hp => ?_⟩
    · rw [← h2.length] at w
      rw [cut_whole w] at q
      exact q.at R (mk_tup h1 h2)
    · exact q.new R hp (mk_tup (SqT.of upd_same) ((cut_rep h2 lo hi).mono R (Ext.new hp)))
  · rename_i xs e1
    obtain ⟨a, vs, rfl, h1, h2⟩ := rep_lst R e1 p1
    cases e
    exact sl_list pins s σ H _ v vl vu lo hi sl Q I rx hs pl pu ⟨a, vs, rfl, SqL.of h1, fun p hp => q.new R hp (mk_lst (R.fz hp) upd_same ((cut_rep h2 lo hi).mono R (Ext.new hp)))⟩
  · rename_i xs e1
    have z := dr_scr e1; subst z
    simp only [Rep] at p1
    obtain ⟨a, vs, rfl, h1, h2⟩ := p1
    cases e
    exact sl_list pins s σ H _ v vl vu lo hi sl Q I rx hs pl pu ⟨a, vs, rfl, h1.sql, fun p hp => q.new R hp (mk_lst (R.fz hp) upd_same ((cut_rep h2 lo hi).mono R (Ext.new hp)))⟩
  · cases e
theorem e_rev {x : Expr} {a : C} {kk : Nat} {p1 p2 p3 pos : Pos} (ha : PE X x (tEv X.K k.g a)) : PE X (.Subscript x (.Slice none none (some (.UnaryOp .USub (.Constant (.int 1) kk p1) p2)) p3) pos) (tEv X.K k.g (.rev a)) := (pe_back ha).imp fun σ H Q ⟨μ, δ, S, d, S', E, R, e1, q⟩ => by
  simp only [evE] at e1
  obtain ⟨⟨d1, S1⟩, e2, e3⟩ := bindS e1
  refine ev1 E R e2 fun x H1 μ1 E1 R1 N1 q1 => ?_
  simp only at e3
  split at e3
  · rename_i xs e4
    cases e3
    have z := dr_tup e4; subst z
    obtain ⟨a, vs, rfl, h1, h2⟩ := rep_tup q1
    exact ⟨a, vs, rfl, .inr ⟨h1, fun p hp => (q.ext E1).new R1 hp (mk_tup (SqT.of upd_same) (h2.reverse.mono R1 (Ext.new hp)))⟩⟩
  · rename_i xs e4
    cases e3
    obtain ⟨a, vs, rfl, h1, h2⟩ := rep_lst R1 e4 q1
    exact ⟨a, vs, rfl, .inl ⟨SqL.of h1, fun p hp => (q.ext E1).new R1 hp (mk_lst (R1.fz hp) upd_same (h2.reverse.mono R1 (Ext.new hp)))⟩⟩
  · rename_i xs e4
    cases e3
    have z := dr_scr e4; subst z
    simp only [Rep] at q1
    obtain ⟨a, vs, rfl, h1, h2⟩ := q1
    exact ⟨a, vs, rfl, .inl ⟨h1.sql, fun p hp => (q.ext E1).new R1 hp (mk_lst (R1.fz hp) upd_same (h2.reverse.mono R1 (Ext.new hp)))⟩⟩
  · cases e3
/-- a part of a slice -/
def tPt (K : PySem.W.Frag) (G : GE) (c : C) : TO := fun σ H Q => ∃ μ δ S d o S', RepEnv K μ H σ δ ∧ Rl K μ H S ∧ evE G c δ S = some (d, S') ∧ partD (isNonC c) d = some o ∧ ∀ H' μ', Ext μ H μ' H' → Rl K μ' H' S' → Q o H'
theorem o_none : PO X none (tPt X.K k.g .non) := ⟨fun pins s σ H Q I ⟨μ, δ, S, d, o, S', E, R, e1, e2, q⟩ => by
  simp only [evE] at e1; cases e1
  simp only [isNonC, partD] at e2; cases e2
  exact po_none.run pins s σ H Q I (q H μ Ext.refl R)⟩
theorem o_some {e : Expr} {c : C} (h : PE X e (tEv X.K k.g c)) (hc : isNonC c = false) : PO X (some e) (tPt X.K k.g c) := ⟨fun pins s σ H Q I ⟨μ, δ, S, d, o, S', E, R, e1, e2, q⟩ => by
  refine (po_some h).run pins s σ H Q I ?_
  refine ev1 E R e1 fun x H1 μ1 E1 R1 _ p1 => ?_
  rw [hc] at e2
  cases d with
  | int i => cases e2; cases rep_int p1; exact ⟨i, rfl, q H1 μ1 E1 R1⟩
  | _ => cases e2⟩
theorem e_sl {x : Expr} {lo hi : Option Expr} {a l h : C} {pos p2 : Pos} (ha : PE X x (tEv X.K k.g a)) (hl : PO X lo (tPt X.K k.g l)) (hh : PO X hi (tPt X.K k.g h)) : PE X (.Subscript x (.Slice lo hi none p2) pos) (tEv X.K k.g (.sl a l h)) :=
  (pe_slice sl_D ha hl hh).imp fun σ H Q ⟨μ, δ, S, d, S', E, R, e1, q⟩ => by
  simp only [evE] at e1
  obtain ⟨⟨d1, S1⟩, e2, e3⟩ := bindS e1
  obtain ⟨⟨d2, S2⟩, e4, e5⟩ := bindS e3
  obtain ⟨⟨d3, S3⟩, e6, e7⟩ := bindS e5
  obtain ⟨o1, e8, e9⟩ := bindS e7
  obtain ⟨o2, e10, e11⟩ := bindS e9
  obtain ⟨r, e12, e13⟩ := mapS e11
  cases e13
  refine ev1 E R e2 fun x H1 μ1 E1 R1 N1 p1 => ⟨μ1, δ, S1, d2, o1, S2, N1, R1, e4, e8, fun H2 μ2 E2 R2 => ⟨μ2, δ, S2, d3, o2, S3, N1.mono R1 E2, R2, e6, e10, fun H3 μ3 E3 R3 => ?_⟩⟩
  exact ⟨μ3, S3, d1, d, R3, (p1.mono R1 E2).mono R2 E3, e12, q.ext ((E1.trans E2).trans E3)⟩

/-! ### methods of lists -/
theorem e_append {x e : Expr} {a : C} {cs : List C} {m : Str} {apos cpos : Pos} (ha : PE X x (tEv X.K k.g a)) (hb : PA X [e] (tEvs X.K k.g cs)) (hx : ∃ n p, x = .Name n p) (hm : m = Str.ofString "append") (hp : plainX e = true)
    (hline : (apos.endLine == cpos.line) = true) : PE X (.Call (.Attribute x m apos) [e] [] cpos) (tEv X.K k.g (.meth "append" a cs)) := by
  obtain ⟨n, p, rfl⟩ := hx
  subst hm
  refine (pe_bm PySem.F.plainAttrs_list PySem.F.slot_list_append PySem.F.type_list_append mt_append ha hb (by rfl) ?_ hline (star_of hp _ _) rfl).imp fun σ H Q ⟨μ, δ, S, d, S', E, R, e1, q⟩ => ?_
  · rw [star_of hp]; rfl
  · simp only [evE] at e1
    obtain ⟨⟨d1, S1⟩, e2, e3⟩ := bindS e1
    obtain ⟨⟨ds, S2⟩, e4, e5⟩ := bindS e3
    simp only [methD, ↓reduceIte] at e5
    split at e5
    · rename_i n' x'
      split at e5
      · rename_i kp xs hS
        split at e5
        · rename_i hl
          cases e5
          refine ev1 E R e2 fun x H1 μ1 E1 R1 N1 p1 => ?_
          have pr : ∃ a, x = .ref a ∧ μ1.ad[n']? = some a := by simpa only [Rep] using p1
          obtain ⟨a, rfl, h1⟩ := pr
          obtain ⟨vs1, e6⟩ := R1.mem (List.mem_of_getElem? h1)
          refine ⟨.inl ⟨rfl, vs1, SqL.of e6⟩, evs1 N1 R1 e4 fun ys H2 μ2 E2 R2 N2 p2 => ?_⟩
          obtain ⟨y, rfl, p3⟩ := reps1 p2
          have h2 := E2.ad h1
          obtain ⟨vs, e7, r7⟩ := R2.at_ n' _ a hS h2
          refine ⟨a, vs, y, rfl, rfl, e7, by rw [sizeL, ← r7.length]; exact hl, ?_⟩
          exact q .non _ μ2 ((E1.trans E2).trans (Ext.put (List.mem_of_getElem? h2))) (R2.put h2 (r7.append (Reps.cons p3 Reps.nil))) mk_non
        · cases e5
      · cases e5
    · cases e5
theorem e_insert {x e e' : Expr} {a : C} {cs : List C} {m : Str} {apos cpos : Pos} (ha : PE X x (tEv X.K k.g a)) (hb : PA X [e, e'] (tEvs X.K k.g cs)) (hx : ∃ n p, x = .Name n p) (hm : m = Str.ofString "insert") (hp : plainX e = true) (hp' : plainX e' = true)
    (hline : (apos.endLine == cpos.line) = true) : PE X (.Call (.Attribute x m apos) [e, e'] [] cpos) (tEv X.K k.g (.meth "insert" a cs)) := by
  obtain ⟨n, p, rfl⟩ := hx
  subst hm
  refine (pe_bm PySem.F.plainAttrs_list PySem.F.slot_list_insert PySem.F.type_list_insert mt_insert ha hb (by rfl) ?_ hline (star_of hp _ _) (by rw [star_of hp']; rfl)).imp fun σ H Q ⟨μ, δ, S, d, S', E, R, e1, q⟩ => ?_
  · rw [star_of hp, star_of hp']; rfl
  · simp only [evE] at e1
    obtain ⟨⟨d1, S1⟩, e2, e3⟩ := bindS e1
    obtain ⟨⟨ds, S2⟩, e4, e5⟩ := bindS e3
    simp only [methD, String.reduceEq, ↓reduceIte] at e5
    split at e5
    · rename_i n' i' x'
      split at e5
      · rename_i kp xs hS
        split at e5
        · rename_i hl
          cases e5
          refine ev1 E R e2 fun x H1 μ1 E1 R1 N1 p1 => ?_
          have pr : ∃ a, x = .ref a ∧ μ1.ad[n']? = some a := by simpa only [Rep] using p1
          obtain ⟨a, rfl, h1⟩ := pr
          obtain ⟨vs1, e6⟩ := R1.mem (List.mem_of_getElem? h1)
          refine ⟨.inl ⟨rfl, vs1, SqL.of e6⟩, evs1 N1 R1 e4 fun ys H2 μ2 E2 R2 N2 p2 => ?_⟩
          obtain ⟨w, y, rfl, p4, p3⟩ := reps2 p2
          cases rep_int p4
          have h2 := E2.ad h1
          obtain ⟨vs, e7, r7⟩ := R2.at_ n' _ a hS h2
          refine ⟨a, vs, i', y, rfl, rfl, e7, by rw [sizeL, ← r7.length]; exact hl.1, hl.2.1, hl.2.2, ?_⟩
          exact q .non _ μ2 ((E1.trans E2).trans (Ext.put (List.mem_of_getElem? h2))) (R2.put h2 (((r7.take _).append (Reps.cons p3 Reps.nil)).append (r7.drop _))) mk_non
        · cases e5
      · cases e5
    · cases e5
end
end Dn

set_option maxHeartbeats 4000000
namespace Dn
open PySem PySem.Spec PyProof.Rows L2
section
variable {X : Cx} {k : Kc} {pins : List (Addr × Obj)} {σ : L2.St} {H : Hp} {s : Shared}
theorem cls_uniq {K : PySem.W.Frag} {C : Str} {a b : Addr} (h : ClsAt K C a) (g : ClsAt K C b) : a = b := by
  unfold ClsAt at h g
  rw [h] at g
  exact Value.ref.inj (Option.some.inj (Option.some.inj g))
/-- a new exception with a field is what it says -/
theorem mkx_end {μ μ1 : Mu} {H1 : Hp} {S : Sto} {cn f : Str} {d : D} {y : V} {Q : VK} {a c dx : Addr} (q : Pst X.K μ H S (.exc cn f [d]) Q) (E1 : Ext μ H μ1 H1) (R1 : Rl X.K μ1 H1 S) (hc : ClsAt X.K cn c) (p : Rep X.K μ1 H1 d y)
    (h1 : H1 a = none) (h2 : H1 dx = none) (h3 : dx ≠ a) : Q (.ref a) (upd (upd H1 dx (exd dx [(f, y)])) a (exo a c (some dx))) := by
  have h1' : upd H1 dx (exd dx [(f, y)]) a = none := by rw [upd_ne (Ne.symm h3)]; exact h1
  have Ea : Ext μ1 H1 μ1 (upd H1 dx (exd dx [(f, y)])) := Ext.new h2
  have Ra := R1.new (o := exd dx [(f, y)]) h2
  have Eb : Ext μ1 (upd H1 dx (exd dx [(f, y)])) μ1 (upd (upd H1 dx (exd dx [(f, y)])) a (exo a c (some dx))) := Ext.new h1'
  refine q _ _ μ1 (E1.trans (Ea.trans Eb)) (Ra.new h1') ?_
  simp only [Rep]
  exact ⟨a, c, [y], rfl, hc, .inr ⟨y, dx, rfl, upd_same, by rw [upd_ne h3, upd_same]⟩, Reps.cons (p.mono R1 (Ea.trans Eb)) Reps.nil⟩
theorem evEs_one {G : GE} {c : C} {δ : En} {S S' : Sto} {ds : List D} (h : evEs G [c] δ S = some (ds, S')) : ∃ d, ds = [d] := by
  have := evEs_len h
  match ds, this with
  | [d], _ => exact ⟨d, rfl⟩
theorem vals_one {vs : List V} {us : List Value} {y : V} (e : vs = [y]) (r : Vals vs us) : ∃ u, us = [u] ∧ RelV y u := by
  subst e
  cases r with
  | cons a b => cases b; exact ⟨_, rfl, a⟩
theorem e_mkx1 (hk : KcOk X k) {cn f : Str} {e : Expr} {c : C} {p pos : Pos} (ha : PA X [e] (tEvs X.K k.g [c])) (hp : plainX e = true) (hc : k.cls.lookup cn = some (some f)) (hg : glB k.sc cn = true) (hn : nmB cn = true) :
    PE X (.Call (.Name cn p) [e] [] pos) (tEv X.K k.g (.mkx cn f [c])) := by
  obtain ⟨a, O⟩ := hk.cls cn _ hc
  obtain ⟨hno, fI, fd, self, N⟩ := O.ini f rfl
  refine ⟨fun pins s σ H Q I ⟨μ, δ, S, d, S', E, R, e1, q⟩ => ?_⟩
  simp only [evE] at e1
  obtain ⟨⟨ds, S1⟩, e2, e3⟩ := bindS e1
  obtain ⟨d1, rfl⟩ := evEs_one e2
  dsimp only at e3
  rw [if_pos (by simp)] at e3
  cases e3
  refine wpAny_Call_Name_kw (ld_glob I (glB_ok hk hg) O.mg ?_ (nmB_ok hn).1)
  refine PySem.W.callWith_K (h₀ := X.base) I.ok.mod.kin O.T.kC ?_ (star_of hp _ _) (nostar rfl _ _)
  refine thn (ha.run pos pins s σ H _ I (evs1 E R e2 (W := fun zs H2 => ∃ y μ2, zs = [y] ∧ Ext μ H μ2 H2 ∧ Rl X.K μ2 H2 S' ∧ Rep X.K μ2 H2 d1 y) fun xs H2 μ2 E2 R2 N2 p2 => ?_)) fun us s1 ⟨vs, H1, I1, r1, y, μ1, ev, E1, R1, p1⟩ => ⟨I1.kIn, ?_⟩
  · obtain ⟨y, r, rfl, p3, p4⟩ := reps_cons.mp p2
    rw [reps_nil.mp p4]
    exact ⟨y, μ2, rfl, E2, R2, p3⟩
  · obtain ⟨u, rfl, ry⟩ := vals_one ev r1
    exact mk_call I1 O.T N.iC N.tI hno N.fn hk.r2 hk.gd (fun s a => N.b1 s a u) ry (by show 1 ≤ sizeLine; rw [sizeL]; omega) fun a dx h1 h2 h3 => mkx_end q E1 R1 O.at_ p1 h1 h2 h3
theorem e_mkxK (hk : KcOk X k) {cn f : Str} {e : Expr} {c : C} {kp p pos : Pos} (ha : PK X [⟨some f, e, kp⟩] (tEvs X.K k.g [c])) (hc : k.cls.lookup cn = some (some f)) (hg : glB k.sc cn = true) (hn : nmB cn = true) :
    PE X (.Call (.Name cn p) [] [⟨some f, e, kp⟩] pos) (tEv X.K k.g (.mkx cn f [c])) := by
  obtain ⟨a, O⟩ := hk.cls cn _ hc
  obtain ⟨hno, fI, fd, self, N⟩ := O.ini f rfl
  obtain ⟨w1, w2, w3⟩ := kw_names [⟨some f, e, kp⟩] [f] pos X.env rfl
  refine ⟨fun pins s σ H Q I ⟨μ, δ, S, d, S', E, R, e1, q⟩ => ?_⟩
  simp only [evE] at e1
  obtain ⟨⟨ds, S1⟩, e2, e3⟩ := bindS e1
  obtain ⟨d1, rfl⟩ := evEs_one e2
  dsimp only at e3
  rw [if_pos (by simp)] at e3
  cases e3
  refine wpAny_Call_Name_kw (ld_glob I (glB_ok hk hg) O.mg ?_ (nmB_ok hn).1)
  refine PySem.W.callWith_KW0 (h₀ := X.base) I.ok.mod.kin O.T.kC w1 ?_ (by rw [w3]; rfl)
  refine thn (ha.run pos pins s σ H _ I (evs1 E R e2 (W := fun zs H2 => ∃ y μ2, zs = [y] ∧ Ext μ H μ2 H2 ∧ Rl X.K μ2 H2 S' ∧ Rep X.K μ2 H2 d1 y) fun xs H2 μ2 E2 R2 N2 p2 => ?_)) fun us s1 ⟨vs, H1, I1, r1, y, μ1, ev, E1, R1, p1⟩ => ⟨I1.kIn, ?_⟩
  · obtain ⟨y, r, rfl, p3, p4⟩ := reps_cons.mp p2
    rw [reps_nil.mp p4]
    exact ⟨y, μ2, rfl, E2, R2, p3⟩
  · obtain ⟨u, rfl, ry⟩ := vals_one ev r1
    rw [w2]
    exact mk_call I1 O.T N.iC N.tI hno N.fn hk.r2 hk.gd (fun s a => N.b2 s a u) ry (by show 0 ≤ sizeLine; omega) fun a dx h1 h2 h3 => mkx_end q E1 R1 O.at_ p1 h1 h2 h3
theorem e_mkx0 (hk : KcOk X k) {cn f : Str} {p pos : Pos} (hc : k.cls.lookup cn = some none) (hg : glB k.sc cn = true) (hn : nmB cn = true) :
    PE X (.Call (.Name cn p) [] [] pos) (tEv X.K k.g (.mkx cn f [])) := by
  obtain ⟨c, O⟩ := hk.cls cn _ hc
  refine ⟨fun pins s σ H Q I ⟨μ, δ, S, d, S', E, R, e1, q⟩ => ?_⟩
  simp only [evE, evEs, Option.bind_some] at e1
  rw [if_pos (by simp)] at e1
  cases e1
  refine wpAny_Call_Name_kw (ld_glob I (glB_ok hk hg) O.mg ?_ (nmB_ok hn).1)
  refine PySem.W.callWith_K0 I.kIn O.T.kC ?_
  obtain ⟨bm, N, nm, qn, bs, hdct, sn, sub, ab, col, dd, k0, k1, k2, k3, k5, mN, hC, hN, hni, T⟩ := exc_obj I.kIn (O.bare rfl)
  refine wpAny_call_exc_subT PySem.F.excBase_ValueError T hC hN hni (fun h' a hm => ?_) (by show 0 ≤ sizeLine; omega)
  have hn : H a = none := I.hok.gone hm.new
  obtain ⟨t, ht, _, _⟩ := hm.there
  refine ⟨.ref a, upd H a (exo a c none), I.laidN hm.keeps hm.new hn (exo_ok ht), rfl, q.new R hn ?_⟩
  simp only [Rep]
  exact ⟨a, c, [], rfl, O.at_, .inl ⟨rfl, upd_same⟩, Reps.nil⟩
/-- e.f -/
theorem e_fld (hk : KcOk X k) {x f : Str} {c : C} {p pos : Pos} (ha : PE X (.Name x p) (tEv X.K k.g c)) : PE X (.Attribute (.Name x p) f pos) (tEv X.K k.g (.fld c f k.cls)) := by
  refine ⟨fun pins s σ H Q I ⟨μ, δ, S, d, S', E, R, e1, q⟩ => ?_⟩
  simp only [evE] at e1
  obtain ⟨⟨d1, S1⟩, e2, e3⟩ := bindS e1
  cases d1 with
  | exc C g ds =>
    rcases ds with _ | ⟨d2, _ | ⟨d3, r⟩⟩ <;> dsimp only at e3 <;> first | (cases e3; done) | skip
    split at e3
    · rename_i hc
      obtain ⟨rfl, hc⟩ := hc
      cases e3
      obtain ⟨c0, O⟩ := hk.cls C _ hc
      obtain ⟨hno, _⟩ := O.ini g rfl
      refine attr_of rfl (thn (ha.run pins s σ H _ I (ev1 E R e2 (W := fun z H1 => ∃ a dx y μ1, z = .ref a ∧ H1 a = some (exo a c0 (some dx)) ∧ H1 dx = some (exd dx [(g, y)]) ∧ Ext μ H μ1 H1 ∧ Rl X.K μ1 H1 S' ∧ Rep X.K μ1 H1 d y) fun z H1 μ1 E1 R1 _ p1 => ?_)) fun u s1 hh => ?_)
      · simp only [Rep] at p1
        obtain ⟨a, c1, vs, rfl, h1, h2, h3⟩ := p1
        have := cls_uniq h1 O.at_
        subst this
        obtain ⟨y, r, rfl, p3, p4⟩ := reps_cons.mp h3
        rcases h2 with ⟨z, _⟩ | ⟨y2, dx, e4, h4, h5⟩
        · cases z
        · cases e4
          exact ⟨a, dx, y, μ1, rfl, h4, h5, E1, R1, p3⟩
      · obtain ⟨z, H1, I1, rx, a, dx, y, μ1, rfl, h4, h5, E1, R1, p3⟩ := hh
        obtain rfl : u = Value.ref a := rx
        obtain ⟨⟨t1, hget⟩, _, _⟩ := I1.hok a _ h4
        obtain ⟨⟨mA, hns, hr⟩, _, _⟩ := I1.hok dx _ h5
        obtain ⟨od, ho, hl⟩ := lookIn_ns hns
        obtain ⟨u, hu, ru⟩ := RelO.some_of (v := y) (o := mA g) (by have := hr g; rwa [List.lookup_cons, beq_self_eq_true] at this)
        have J : PySem.W.InstAt s1.heap a _ c0 (some od) := ⟨hget, rfl, rfl, ho⟩
        exact HandSPX.exc_get I1.kIn J O.xf.ga O.xf.gg O.xf.exC (PySem.W.findObj_own O.xf.hdC hno rfl (by rw [hl, hu])) (handed_of ru) ⟨y, H1, I1.tok _, ru, (q.ext E1).at R1 p3⟩
    · cases e3
  | _ => cases e3
/-- isinstance(e, T) -/
def rIsX (K : PySem.W.Frag) : List V → Hp → VK → Prop := fun xs H Q => ∃ (a c : Addr) (f : Str) (vs : List V) (tc : V) (tv : Value) (b : Bool), xs = [.ref a, tc] ∧ ExAt H a c f vs ∧ ExcC K c ∧ (∀ u, RelV tc u → u = tv) ∧ PySem.W.kitOne K (.ref c) tv = some b ∧ Q (.bl b) H
theorem call_isX : CallR X (.builtin "isinstance") (rIsX X.K) := by
  intro pins s σ H xs us Q I r h
  obtain ⟨a, c, f, vs, tc, tv, b, rfl, hx, C, hcv, e, q⟩ := h
  cases r with
  | cons rx rr =>
    cases rr with
    | cons rt rr =>
      cases rr
      cases rx
      have ec := hcv _ rt
      subst ec
      have J : ∃ oe od, PySem.W.InstAt s.heap a oe c od := by
        rcases hx with ⟨_, h⟩ | ⟨y, dx, _, h, h2⟩
        · obtain ⟨⟨t1, hget⟩, _, _⟩ := I.hok a _ h
          exact ⟨_, none, hget, rfl, rfl, trivial⟩
        · obtain ⟨⟨t1, hget⟩, _, _⟩ := I.hok a _ h
          obtain ⟨⟨mA, hns, hr⟩, _, _⟩ := I.hok dx _ h2
          obtain ⟨od, ho, hl⟩ := lookIn_ns hns
          exact ⟨_, some od, hget, rfl, rfl, ho⟩
      obtain ⟨oe, od, J⟩ := J
      obtain ⟨cd, hcd, _⟩ := PySem.W.any_some C.hd
      exact PySem.W.kia_one (PySem.W.kitx_exc (by rw [hcd]; rfl) C.hg C.hk C.hs C.ha C.hn C.ht C.hm) I.kIn J e (fun z => nomatch z) fun tk => ⟨.bl b, H, I.kept (t' := tk) fun _ _ z => z, rfl, q⟩
theorem e_isx (hk : KcOk X k) {x T : Str} {cs : List Str} {e : Expr} {c : C} {p p2 pos : Pos} (ha : PE X e (tEv X.K k.g c)) (hp : plainX e = true) (hx : x = Str.ofString "isinstance") (hi : k.isx.lookup T = some cs)
    (hf1 : x ∈ k.free) (hg1 : glB k.sc x = true) (hg2 : glB k.sc T = true) (hn : nmB T = true) : PE X (.Call (.Name x p) [e, .Name T p2] [] pos) (tEv X.K k.g (.isx c T cs k.cls)) := by
  subst hx
  obtain ⟨n1, _, n3⟩ := nmB_ok hn
  obtain ⟨tc, tv, hcv, hv, hs⟩ := hk.isx T cs hi
  have hN : PE X (.Name T p2) (tC tc) := by
    rcases hv with ⟨m, r⟩ | ⟨m, Ts, hb, rfl, rfl⟩
    · exact pe_glob (glB_ok hk hg2) m r n1
    · exact pe_bltn (glB_ok hk hg2) m hb rfl n3 n1
  refine (pe_callB call_isX (glB_ok hk hg1) (hk.free _ hf1) (by decide +kernel) (pa_cons ha (pa_cons hN pa_nil) (star_of hp _ _)) (by decide +kernel) (by decide +kernel) (star_of hp _ _) rfl).imp fun σ H Q ⟨μ, δ, S, d, S', E, R, e1, q⟩ => ?_
  simp only [evE] at e1
  obtain ⟨⟨d1, S1⟩, e2, e3⟩ := bindS e1
  cases d1 with
  | exc C g ds =>
    dsimp only at e3
    split at e3
    · rename_i hc
      cases e3
      obtain ⟨fo, hfo⟩ := Option.isSome_iff_exists.mp hc
      obtain ⟨c0, O⟩ := hk.cls C _ hfo
      refine ev1 E R e2 fun x H1 μ1 E1 R1 _ p1 => ?_
      simp only [Rep] at p1
      obtain ⟨a, c1, vs, rfl, h1, h2, h3⟩ := p1
      have := cls_uniq h1 O.at_
      subst this
      exact ⟨a, c1, g, vs, tc, tv, _, rfl, h2, O.xc, hcv, hs C fo c1 hfo h1, (q.ext E1).at R1 mk_bl⟩
    · cases e3
  | _ => cases e3
end
end Dn

set_option maxHeartbeats 4000000
namespace Dn
open PySem PySem.Spec PyProof.Rows L2

/-! ### targets -/
mutual
/-- the slots that a target fills -/
def tsl : CT → List Nat
  | .name i => [i]
  | .tup ts => tsls ts
  | .sub _ _ => []
def tsls : List CT → List Nat
  | [] => []
  | t :: ts => tsl t ++ tsls ts
end
def gEv (K : PySem.W.Frag) (G : GE) (t : CT) : TG := fun v σ H Q => ∃ μ δ S d δ' S', RepEnv K μ H σ δ ∧ Rl K μ H S ∧ Rep K μ H d v ∧ evT' G t d δ S = some (δ', S') ∧
  ∀ σ' H' μ', Ext μ H μ' H' → Rl K μ' H' S' → RepEnv K μ' H' σ' δ' → (∀ vs, (∀ i ∈ tsl t, i ∈ vs) → wipe σ' vs = wipe σ vs) → Q σ' H'
def gEvs (K : PySem.W.Frag) (G : GE) (ts : List CT) : TGs := fun xs σ H Q => ∃ μ δ S ds δ' S', RepEnv K μ H σ δ ∧ Rl K μ H S ∧ Reps K μ H ds xs ∧ evTs G ts ds δ S = some (δ', S') ∧
  ∀ σ' H' μ', Ext μ H μ' H' → Rl K μ' H' S' → RepEnv K μ' H' σ' δ' → (∀ vs, (∀ i ∈ tsls ts, i ∈ vs) → wipe σ' vs = wipe σ vs) → Q σ' H'
theorem wipe_set (σ : L2.St) (i : Nat) (x : Option V) : ∀ vs : List Nat, wipe (σ.set i x) vs = if i ∈ vs then wipe σ vs else (wipe σ vs).set i x
  | [] => by simp [wipe]
  | v :: vs => by
    have ih := wipe_set σ i x vs
    unfold wipe
    rw [ih]
    by_cases h : i = v
    · subst h
      rw [if_pos (List.mem_cons_self ..)]
      split
      · rfl
      · rw [List.set_set]
    · by_cases h2 : i ∈ vs
      · rw [if_pos h2, if_pos (List.mem_cons_of_mem _ h2)]
      · rw [if_neg h2, if_neg (fun z => (List.mem_cons.mp z).elim h h2), List.set_comm _ _ h]
theorem _root_.L2.PG.imp {X : Cx} {e : Expr} {t t' : TG} (h : PG X e t) (i : ∀ v σ H Q, t' v σ H Q → t v σ H Q) : PG X e t' := ⟨fun pins s σ H v u Q I r q => h.run pins s σ H v u Q I r (i v σ H Q q)⟩
theorem _root_.L2.PGs.imp {X : Cx} {e : List Expr} {t t' : TGs} (h : PGs X e t) (i : ∀ v σ H Q, t' v σ H Q → t v σ H Q) : PGs X e t' := ⟨fun pins s σ H v u Q I r q => h.run pins s σ H v u Q I r (i v σ H Q q)⟩
def locB (k : Kt) (x : Str) : Bool := match k.sc.names.lookup x with
  | some .local => true
  | some .cell => k.fl x
  | _ => false
section
variable {X : Cx} {k : Kc} {pos : Pos}
theorem locB_ok (hk : KcOk X k) {x : Str} (h : locB k.toKt x = true) : Loc X.env.scope x ∧ (X.fn x = true ∨ X.env.scope.names.lookup x = some .local) := by
  unfold locB at h
  rw [hk.sc] at h
  split at h
  · rename_i e; exact ⟨.inl e, .inr e⟩
  · rename_i e; exact ⟨.inr e, .inl (hk.fl x h)⟩
  · cases h
theorem g_name (hk : KcOk X k) {i : Nat} {x : Str} (h1 : k.N[i]? = some x) (h2 : locB k.toKt x = true) : PG X (.Name x pos) (gEv X.K k.g (.name i)) := by
  obtain ⟨l1, l2⟩ := locB_ok hk h2
  refine (pg_name (i := i) hk.nd (by rw [← hk.N]; exact h1) l1 l2).imp fun v σ H Q ⟨μ, δ, S, d, δ', S', E, R, r, e, q⟩ => ?_
  simp only [evT'] at e
  cases e
  refine q _ H μ Ext.refl R (E.set r) fun vs hv => ?_
  rw [wipe_set, if_pos (hv i (by simp [tsl]))]
theorem gs_nil : PGs X [] (gEvs X.K k.g []) := pgs_nil.imp fun v σ H Q ⟨μ, δ, S, ds, δ', S', E, R, r, e, q⟩ => by
  cases ds with
  | nil =>
    simp only [evTs] at e; cases e
    exact ⟨reps_nil.mp r, q σ H μ Ext.refl R E fun _ _ => rfl⟩
  | cons d ds => simp only [evTs] at e; cases e
theorem assign_star {e : Expr} (h : plainX e = true) (es : List Expr) (env : Env) : assignEach (e :: es) env = (false, assign e env) :: assignEach es env := by
  cases e <;> first | rfl | cases h
theorem gs_cons {e : Expr} {es : List Expr} {t : CT} {ts : List CT} (h1 : PG X e (gEv X.K k.g t)) (h2 : PGs X es (gEvs X.K k.g ts)) (hp : plainX e = true) : PGs X (e :: es) (gEvs X.K k.g (t :: ts)) :=
  (pgs_cons h1 h2 (by rw [assign_star hp]; rfl)).imp fun v σ H Q ⟨μ, δ, S, ds, δ', S', E, R, r, e, q⟩ => by
  cases ds with
  | nil => simp only [evTs] at e; cases e
  | cons d ds =>
    obtain ⟨x, xs, rfl, r1, r2⟩ := reps_cons.mp r
    simp only [evTs] at e
    obtain ⟨⟨δ1, S1⟩, e1, e2⟩ := bindS e
    refine ⟨x, xs, rfl, μ, δ, S, d, δ1, S1, E, R, r1, e1, fun σ1 H1 μ1 E1 R1 N1 w1 => ⟨μ1, δ1, S1, ds, δ', S', N1, R1, r2.mono R E1, e2, fun σ2 H2 μ2 E2 R2 N2 w2 => ?_⟩⟩
    refine q σ2 H2 μ2 (E1.trans E2) R2 N2 fun vs hv => ?_
    rw [w2 vs fun i hi => hv i (by simp [tsls, hi]), w1 vs fun i hi => hv i (by simp [tsls, hi])]
theorem assign_len : ∀ {es : List Expr}, es.all plainX = true → ∀ env : Env, (assignEach es env).length = es.length ∧ (assignEach es env).findIdx? (·.1) = none
  | [], _, _ => ⟨rfl, rfl⟩
  | e :: es, h, env => by
    obtain ⟨h1, h2⟩ := Bool.and_eq_true_iff.mp (show (plainX e && es.all plainX) = true from h)
    obtain ⟨q1, q2⟩ := assign_len h2 env
    rw [assign_star h1]
    refine ⟨by rw [List.length_cons, List.length_cons, q1], ?_⟩
    rw [List.findIdx?_cons, q2]
    rfl
theorem evTs_len {G : GE} : ∀ {ts : List CT} {ds : List D} {δ δ' : En} {S S' : Sto}, evTs G ts ds δ S = some (δ', S') → ds.length = ts.length
  | [], [], _, _, _, _, _ => rfl
  | [], _ :: _, _, _, _, _, e => by simp only [evTs] at e; cases e
  | _ :: _, [], _, _, _, _, e => by simp only [evTs] at e; cases e
  | t :: ts, d :: ds, δ, δ', S, S', e => by
    simp only [evTs] at e
    obtain ⟨⟨δ1, S1⟩, e1, e2⟩ := bindS e
    rw [List.length_cons, List.length_cons, evTs_len e2]
theorem g_tup (hk : KcOk X k) {es : List Expr} {ts : List CT} {kk : Nat} (h : PGs X es (gEvs X.K k.g ts)) (hp : es.all plainX = true) (hl : es.length = ts.length) : PG X (.Tuple es kk pos) (gEv X.K k.g (.tup ts)) := by
  obtain ⟨q1, q2⟩ := assign_len hp X.env
  refine (pg_tup hk.calm h q1 q2).imp fun v σ H Q ⟨μ, δ, S, d, δ', S', E, R, r, e, q⟩ => ?_
  cases d with
  | tup xs =>
    simp only [evT'] at e
    obtain ⟨a, vs, rfl, h1, h2⟩ := rep_tup r
    refine ⟨a, vs, rfl, h1, by rw [← h2.length, evTs_len e, hl], μ, δ, S, xs, δ', S', E, R, h2, e, fun σ1 H1 μ1 E1 R1 N1 w1 => q σ1 H1 μ1 E1 R1 N1 fun vs hv => w1 vs fun i hi => hv i (by simpa [tsl] using hi)⟩
  | _ => simp only [evT'] at e; cases e
theorem g_sub {o i : Expr} {a b : C} (ha : PE X o (tEv X.K k.g a)) (hb : PE X i (tEv X.K k.g b)) (hp : plainX i = true) : PG X (.Subscript o i pos) (gEv X.K k.g (.sub a b)) :=
  (pg_sub ha hb set_list (by intro v; cases i <;> first | rfl | cases hp)).imp fun v σ H Q ⟨μ, δ, S, d, δ', S', E, R, r, e, q⟩ => by
  simp only [evT'] at e
  obtain ⟨⟨d1, S1⟩, e1, e2⟩ := bindS e
  obtain ⟨⟨d2, S2⟩, e3, e4⟩ := bindS e2
  obtain ⟨S3, e5, e6⟩ := mapS e4
  cases e6
  refine ev2 E R e1 e3 fun x y H2 μ2 E2 R2 N2 p1 p2 => ?_
  cases d1 with
  | ref n =>
    cases d2 with
    | int j =>
      simp only [setD] at e5
      cases hS : S2[n]? with
      | none => rw [hS] at e5; cases e5
      | some mo =>
        cases mo with
        | lst kp xs =>
          rw [hS] at e5
          obtain ⟨m, e7, e8⟩ := mapS e5
          subst e8
          cases rep_int p2
          simp only [Rep] at p1
          obtain ⟨a', rfl, h1⟩ := p1
          obtain ⟨vs, e9, r9⟩ := R2.at_ n _ a' hS h1
          refine ⟨a', vs, j, m, rfl, rfl, e9, by rw [← r9.length]; exact e7, ?_⟩
          have E3 : Ext μ2 H2 μ2 (upd H2 a' (.lst (vs.set m v))) := Ext.put (List.mem_of_getElem? h1)
          exact q σ _ μ2 (E2.trans E3) (R2.put h1 (r9.set m (r.mono R E2))) (N2.mono R2 E3) fun _ _ => rfl
    | _ => simp only [setD] at e5; cases e5
  | _ => simp only [setD] at e5; cases e5

/-! ### what is walked -/
def WalkOk (K : PySem.W.Frag) (μ : Mu) (H : Hp) (w : Wk) (J : L2.It) : Prop := ∀ μ1 H1 S1, Ext μ H μ1 H1 → Rl K μ1 H1 S1 → okW w S1 → ∀ i,
  (∀ d, w.xs[i]? = some d → J.go i H1 ∧ ∀ x H2, J.yld i H1 x H2 → Ext μ1 H1 μ1 H2 ∧ Rl K μ1 H2 S1 ∧ Rep K μ1 H2 d x) ∧ (w.xs.length ≤ i → J.stop i H1)
theorem WalkOk.ext {K : PySem.W.Frag} {μ μ' : Mu} {H H' : Hp} {w : Wk} {J : L2.It} (h : WalkOk K μ H w J) (E : Ext μ H μ' H') : WalkOk K μ' H' w J := fun μ1 H1 S1 E1 R1 o => h μ1 H1 S1 (E.trans E1) R1 o
def tIt (K : PySem.W.Frag) (G : GE) (it : CI) : TI := fun σ H R => ∃ μ δ S w S', RepEnv K μ H σ δ ∧ Rl K μ H S ∧ evI G it δ S = some (w, S') ∧ ∀ J H' μ', Ext μ H μ' H' → Rl K μ' H' S' → WalkOk K μ' H' w J → R J H'
theorem _root_.L2.PI.imp {tg e : Expr} {t t' : TI} (h : PI X tg e t) (i : ∀ σ H Q, t' σ H Q → t σ H Q) : PI X tg e t' := ⟨fun pins s σ H Q I q => h.run pins s σ H Q I (i σ H Q q)⟩
theorem sq_back {K : PySem.W.Frag} {μ μ1 : Mu} {H H1 : Hp} {S S1 : Sto} {d : D} {v : V} {xs : List D} (R : Rl K μ H S) (e : items S d = some xs) (h : Rep K μ H d v) (E : Ext μ H μ1 H1) (R1 : Rl K μ1 H1 S1) (o : okW ⟨xs, srcOf d⟩ S1) :
    items S1 d = some xs ∧ Rep K μ1 H1 d v := by
  refine ⟨?_, h.mono R E⟩
  cases d with
  | ref n =>
    obtain ⟨mo, e1, e2⟩ := o n rfl
    simp only [items, e1, Option.map_some, e2]
  | _ => simpa only [items] using e
theorem get_lt {α : Type} {xs : List α} {i : Nat} {x : α} (h : xs[i]? = some x) : i < xs.length := (List.getElem?_eq_some_iff.mp h).1
theorem i_seq {tg l : Expr} {a : C} (ha : PE X l (tEv X.K k.g a)) : PI X tg l (tIt X.K k.g (.seq a)) := ⟨fun pins s σ H R I ⟨μ, δ, S, w, S', E, Rr, e1, q⟩ => by
  simp only [evI] at e1
  obtain ⟨⟨d, S1⟩, e2, e3⟩ := bindS e1
  obtain ⟨xs, e4, e5⟩ := mapS e3
  cases e5
  by_cases ht : isTup d = true
  · cases d with
    | tup ys =>
      simp only [items, Option.some.injEq] at e4
      subst e4
      refine (pi_tup ha).run pins s σ H R I (ev1 E Rr e2 fun x H1 μ1 E1 R1 _ p1 => ?_)
      obtain ⟨b, vs, rfl, h1, h2⟩ := rep_tup p1
      refine ⟨b, rfl, ⟨vs, h1⟩, q _ H1 μ1 E1 R1 fun μ2 H2 S2 E2 R2 o i => ⟨fun d hd => ?_, fun hi => ?_⟩⟩
      · have h1' := E2.sqT R1 h1
        obtain ⟨v, e6, p3⟩ := h2.get hd
        refine ⟨⟨vs, v, h1', e6⟩, fun x H3 y => ?_⟩
        obtain ⟨rfl, y2⟩ := y
        have e7 := (y2 vs h1').symm.trans e6
        cases e7
        exact ⟨Ext.refl, R2, p3.mono R1 E2⟩
      · exact ⟨vs, E2.sqT R1 h1, by rw [← h2.length]; exact hi⟩
    | _ => cases ht
  · refine (pi_list ha).run pins s σ H R I (ev1 E Rr e2 fun x H1 μ1 E1 R1 _ p1 => ?_)
    have e4' : litems S1 d = some xs := by
      cases d with
      | tup ys => exact absurd rfl ht
      | _ => simpa only [items, litems] using e4
    obtain ⟨b, vs, rfl, h1, h2⟩ := rep_litems R1 e4' p1
    refine ⟨b, rfl, ⟨vs, h1⟩, q _ H1 μ1 E1 R1 fun μ2 H2 S2 E2 R2 o i => ?_⟩
    have back : ∃ us, SqL X.K H2 b us ∧ Reps X.K μ2 H2 xs us := by
      obtain ⟨w1, w2⟩ := sq_back R1 e4 p1 E2 R2 o
      have w1' : litems S2 d = some xs := by
        cases d with
        | tup ys => exact absurd rfl ht
        | _ => simpa only [items, litems] using w1
      obtain ⟨b', us, eb, h3, h4⟩ := rep_litems R2 w1' w2
      cases eb
      exact ⟨us, h3, h4⟩
    obtain ⟨us, h3, h4⟩ := back
    refine ⟨fun d hd => ?_, fun hi => ⟨us, h3, by rw [← h4.length]; exact hi⟩⟩
    obtain ⟨v, e6, p3⟩ := h4.get hd
    refine ⟨⟨us, v, h3, e6⟩, fun x H3 y => ?_⟩
    obtain ⟨rfl, y2⟩ := y
    have e7 := (y2 us h3).symm.trans e6
    cases e7
    exact ⟨Ext.refl, R2, p3⟩⟩
theorem rng_get {lo : Int} {n i : Nat} {d : D} (h : (rngD lo n)[i]? = some d) : i < n ∧ d = .int (lo + i) := by
  unfold rngD at h
  rw [List.getElem?_map] at h
  obtain ⟨j, e1, e2⟩ := mapS h
  obtain ⟨h1, h2⟩ := List.getElem?_eq_some_iff.mp e1
  rw [List.length_range] at h1
  rw [List.getElem_range] at h2
  subst h2
  exact ⟨h1, e2.symm⟩
theorem rng_len {lo : Int} {n : Nat} : (rngD lo n).length = n := by unfold rngD; rw [List.length_map, List.length_range]
theorem walk_rng {K : PySem.W.Frag} {μ : Mu} {H : Hp} {lo : Int} {n : Nat} : WalkOk K μ H ⟨rngD lo n, none⟩ (Itr lo n) := fun μ1 H1 S1 E1 R1 o i => ⟨fun d hd => by
  obtain ⟨h1, rfl⟩ := rng_get hd
  exact ⟨h1, fun x H2 ⟨y1, y2⟩ => by subst y1 y2; exact ⟨Ext.refl, R1, mk_int⟩⟩, fun hi => by rw [rng_len] at hi; exact hi⟩
theorem smallI_ok {i : Int} (h : smallI i = true) : -(2 ^ 62) ≤ i ∧ i < 2 ^ 62 := by
  unfold smallI at h
  simp only [Bool.and_eq_true, decide_eq_true_eq] at h
  exact h
theorem i_rng1 (hk : KcOk X k) {tg e : Expr} {x : Str} {a : C} {p : Pos} (ha : PE X e (tEv X.K k.g a)) (hp : plainX e = true) (hx : x = ("range" : Str)) (hf : x ∈ k.free) (hg : glB k.sc x = true) :
    PI X tg (.Call (.Name x p) [e] [] pos) (tIt X.K k.g (.rng1 a)) := by
  subst hx
  refine (pi_range1 (glB_ok hk hg) (hk.free _ hf) (pa_cons ha pa_nil (star_of hp _ _)) (star_of hp _ _)).imp fun σ H R ⟨μ, δ, S, w, S', E, Rr, e1, q⟩ => ?_
  simp only [evI] at e1
  obtain ⟨⟨d, S1⟩, e2, e3⟩ := bindS e1
  refine ev1 E Rr e2 fun x H1 μ1 E1 R1 _ p1 => ?_
  cases d with
  | int j =>
    simp only at e3
    split at e3
    · rename_i hj
      cases e3
      cases rep_int p1
      obtain ⟨j1, j2⟩ := smallI_ok hj
      exact ⟨j, rfl, j1, j2, q _ H1 μ1 E1 R1 walk_rng⟩
    · cases e3
  | _ => cases e3
theorem i_rng2 (hk : KcOk X k) {tg e e' : Expr} {x : Str} {a b : C} {p : Pos} (ha : PE X e (tEv X.K k.g a)) (hb : PE X e' (tEv X.K k.g b)) (hp : plainX e = true) (hp' : plainX e' = true) (hx : x = ("range" : Str)) (hf : x ∈ k.free) (hg : glB k.sc x = true) :
    PI X tg (.Call (.Name x p) [e, e'] [] pos) (tIt X.K k.g (.rng2 a b)) := by
  subst hx
  refine (pi_range2 (glB_ok hk hg) (hk.free _ hf) (pa_cons ha (pa_cons hb pa_nil (star_of hp' _ _)) (star_of hp _ _)) (by rw [star_of hp, star_of hp']; rfl) (star_of hp' _ _)).imp fun σ H R ⟨μ, δ, S, w, S', E, Rr, e1, q⟩ => ?_
  simp only [evI] at e1
  obtain ⟨⟨d, S1⟩, e2, e3⟩ := bindS e1
  obtain ⟨⟨d2, S2⟩, e4, e5⟩ := bindS e3
  refine ev2 E Rr e2 e4 fun x y H1 μ1 E1 R1 _ p1 p2 => ?_
  cases d with
  | int i =>
    cases d2 with
    | int j =>
      simp only at e5
      split at e5
      · rename_i hj
        cases e5
        cases rep_int p1
        cases rep_int p2
        obtain ⟨i1, i2⟩ := smallI_ok hj.1
        obtain ⟨j1, j2⟩ := smallI_ok hj.2
        exact ⟨i, j, rfl, ⟨i1, i2, j1, j2⟩, q _ H1 μ1 E1 R1 walk_rng⟩
      · cases e5
    | _ => cases e5
  | _ => cases e5
theorem enm_get : ∀ {xs : List D} {n i : Nat} {d : D}, (enmD n xs)[i]? = some d → ∃ x, xs[i]? = some x ∧ d = .tup [.int ((n + i : Nat) : Int), x]
  | [], n, i, d, h => by simp [enmD] at h
  | x :: xs, n, 0, d, h => by
    simp [enmD] at h
    exact ⟨x, rfl, h.symm⟩
  | x :: xs, n, i + 1, d, h => by
    simp only [enmD, List.getElem?_cons_succ] at h
    obtain ⟨y, e1, e2⟩ := enm_get h
    refine ⟨y, by simpa using e1, ?_⟩
    rw [e2]
    congr 3
    omega
theorem enm_len : ∀ {xs : List D} {n : Nat}, (enmD n xs).length = xs.length
  | [], _ => rfl
  | x :: xs, n => by simp [enmD, enm_len]
theorem walk_enm {K : PySem.W.Frag} {μ : Mu} {H : Hp} {a : Addr} {xs : List D} {vs : List V} {S : Sto} (R : Rl K μ H S) (hs : ∀ μ1 H1 S1, Ext μ H μ1 H1 → Rl K μ1 H1 S1 → SqL K H1 a vs) (hr : Reps K μ H xs vs) : WalkOk K μ H ⟨enmD 0 xs, none⟩ (Ite K a) := fun μ1 H1 S1 E1 R1 o i => ⟨fun d hd => by
  obtain ⟨x, e1, rfl⟩ := enm_get hd
  obtain ⟨v, e2, p⟩ := hr.get e1
  have h1 := hs μ1 H1 S1 E1 R1
  refine ⟨⟨vs, v, h1, e2⟩, fun y H2 ⟨T, z, y1, y2, y3, y4⟩ => ?_⟩
  have e3 := (y4 vs h1).symm.trans e2
  cases e3
  subst y1 y3
  refine ⟨Ext.new y2, R1.new y2, mk_tup (SqT.of upd_same) (Reps.cons ?_ (Reps.cons ((p.mono R E1).mono R1 (Ext.new y2)) Reps.nil))⟩
  rw [Nat.zero_add]
  exact mk_int, fun hi => ⟨vs, hs μ1 H1 S1 E1 R1, by rw [← hr.length]; rw [enm_len] at hi; exact hi⟩⟩
theorem walk_enmT {K : PySem.W.Frag} {μ : Mu} {H : Hp} {a : Addr} {xs : List D} {vs : List V} {S : Sto} (R : Rl K μ H S) (hs : ∀ μ1 H1 S1, Ext μ H μ1 H1 → Rl K μ1 H1 S1 → SqT K H1 a vs) (hr : Reps K μ H xs vs) : WalkOk K μ H ⟨enmD 0 xs, none⟩ (IteT K a) := fun μ1 H1 S1 E1 R1 o i => ⟨fun d hd => by
  obtain ⟨x, e1, rfl⟩ := enm_get hd
  obtain ⟨v, e2, p⟩ := hr.get e1
  have h1 := hs μ1 H1 S1 E1 R1
  refine ⟨⟨vs, v, h1, e2⟩, fun y H2 ⟨T, z, y1, y2, y3, y4⟩ => ?_⟩
  have e3 := (y4 vs h1).symm.trans e2
  cases e3
  subst y1 y3
  refine ⟨Ext.new y2, R1.new y2, mk_tup (SqT.of upd_same) (Reps.cons ?_ (Reps.cons ((p.mono R E1).mono R1 (Ext.new y2)) Reps.nil))⟩
  rw [Nat.zero_add]
  exact mk_int, fun hi => ⟨vs, hs μ1 H1 S1 E1 R1, by rw [← hr.length]; rw [enm_len] at hi; exact hi⟩⟩
theorem i_enm (hk : KcOk X k) {e : Expr} {x : Str} {a : C} {p tpos : Pos} {elts : List Expr} {kk : Nat} (ha : PE X e (tEv X.K k.g a)) (hp : plainX e = true) (hx : x = ("enumerate" : Str)) (hf : x ∈ k.free) (hg : glB k.sc x = true) :
    PI X (.Tuple elts kk tpos) (.Call (.Name x p) [e] [] pos) (tIt X.K k.g (.enm a)) := by
  subst hx
  refine (pi_enumA (glB_ok hk hg) (hk.free _ hf) (pa_cons ha pa_nil (star_of hp _ _)) (star_of hp _ _)).imp fun σ H R ⟨μ, δ, S, w, S', E, Rr, e1, q⟩ => ?_
  simp only [evI] at e1
  obtain ⟨⟨d, S1⟩, e2, e3⟩ := bindS e1
  refine ev1 E Rr e2 fun x H1 μ1 E1 R1 _ p1 => ?_
  cases d with
  | lst xs =>
    cases e3
    simp only [Rep] at p1
    obtain ⟨b, vs, rfl, h0, h1, h2⟩ := p1
    exact ⟨b, vs, rfl, .inl ⟨SqL.of h1, q _ H1 μ1 E1 R1 (walk_enm R1 (fun μ2 H2 S2 E2 R2 => SqL.of (E2.keep b _ h0.1 h1)) h2)⟩⟩
  | scr xs =>
    cases e3
    simp only [Rep] at p1
    obtain ⟨b, vs, rfl, h1, h2⟩ := p1
    exact ⟨b, vs, rfl, .inl ⟨h1.sql, q _ H1 μ1 E1 R1 (walk_enm R1 (fun μ2 H2 S2 E2 R2 => (E2.scr R1 h1).sql) h2)⟩⟩
  | tup xs =>
    cases e3
    obtain ⟨b, vs, rfl, h1, h2⟩ := rep_tup p1
    exact ⟨b, vs, rfl, .inr ⟨h1, q _ H1 μ1 E1 R1 (walk_enmT R1 (fun μ2 H2 S2 E2 R2 => E2.sqT R1 h1) h2)⟩⟩
  | _ => cases e3
theorem zip_get : ∀ {xs ys : List D} {i : Nat} {d : D}, (zipD xs ys)[i]? = some d → ∃ x y, xs[i]? = some x ∧ ys[i]? = some y ∧ d = .tup [x, y]
  | [], ys, i, d, h => by cases ys <;> simp [zipD] at h
  | x :: xs, [], i, d, h => by simp [zipD] at h
  | x :: xs, y :: ys, 0, d, h => by
    simp [zipD] at h
    exact ⟨x, y, rfl, rfl, h.symm⟩
  | x :: xs, y :: ys, i + 1, d, h => by
    simp only [zipD, List.getElem?_cons_succ] at h
    obtain ⟨u, v, e1, e2, e3⟩ := zip_get h
    exact ⟨u, v, by simpa using e1, by simpa using e2, e3⟩
theorem zip_len : ∀ {xs ys : List D}, (zipD xs ys).length = min xs.length ys.length
  | [], ys => by cases ys <;> simp [zipD]
  | x :: xs, [] => by simp [zipD]
  | x :: xs, y :: ys => by simp only [zipD, List.length_cons, zip_len]; omega
theorem i_zip (hk : KcOk X k) {e e' : Expr} {x : Str} {a b : C} {p tpos : Pos} {elts : List Expr} {kk : Nat} (ha : PE X e (tEv X.K k.g a)) (hb : PE X e' (tEv X.K k.g b)) (hp : plainX e = true) (hp' : plainX e' = true) (hx : x = ("zip" : Str)) (hf : x ∈ k.free) (hg : glB k.sc x = true) :
    PI X (.Tuple elts kk tpos) (.Call (.Name x p) [e, e'] [] pos) (tIt X.K k.g (.zip a b)) := by
  subst hx
  refine (RZ.pi_zipA (glB_ok hk hg) (hk.free _ hf) (pa_cons ha (pa_cons hb pa_nil (star_of hp' _ _)) (star_of hp _ _)) (star_of hp _ _) (nostar (es := [e']) (by show (plainX e' && true) = true; rw [hp']; rfl) _ _)).imp fun σ H R ⟨μ, δ, S, w, S', E, Rr, e1, q⟩ => ?_
  simp only [evI] at e1
  obtain ⟨⟨d, S1⟩, e2, e3⟩ := bindS e1
  obtain ⟨⟨d2, S2⟩, e4, e5⟩ := bindS e3
  refine ev2 E Rr e2 e4 fun x y H1 μ1 E1 R1 _ p1 p2 => ?_
  cases d with
  | lst xs =>
    cases d2 with
    | lst ys =>
      cases e5
      simp only [Rep] at p1 p2
      obtain ⟨b1, vs1, rfl, f0, f1, f2⟩ := p1
      obtain ⟨b2, vs2, rfl, g0, g1, g2⟩ := p2
      refine ⟨b1, b2, vs1, vs2, rfl, .inl ⟨SqL.of f1, SqL.of g1, q _ H1 μ1 E1 R1 fun μ2 H2 S2 E2 R2 o i => ?_⟩⟩
      have f1' : SqL X.K H2 b1 vs1 := SqL.of (E2.keep b1 _ f0.1 f1)
      have g1' : SqL X.K H2 b2 vs2 := SqL.of (E2.keep b2 _ g0.1 g1)
      refine ⟨fun d hd => ?_, fun hi => ⟨vs1, vs2, f1', g1', ?_⟩⟩
      · obtain ⟨x, y, e6, e7, rfl⟩ := zip_get hd
        obtain ⟨v1, e8, p3⟩ := f2.get e6
        obtain ⟨v2, e9, p4⟩ := g2.get e7
        refine ⟨⟨vs1, vs2, v1, v2, f1', g1', e8, e9⟩, fun y H3 ⟨T, z1, z2, y1, y2, y3, y4, y5⟩ => ?_⟩
        have w1 := (y4 vs1 f1').symm.trans e8
        have w2 := (y5 vs2 g1').symm.trans e9
        cases w1; cases w2
        subst y1 y3
        exact ⟨Ext.new y2, R2.new y2, mk_tup (SqT.of upd_same) (Reps.cons ((p3.mono R1 E2).mono R2 (Ext.new y2)) (Reps.cons ((p4.mono R1 E2).mono R2 (Ext.new y2)) Reps.nil))⟩
      · have hi' : min xs.length ys.length ≤ i := by rw [← zip_len]; exact hi
        rw [← f2.length, ← g2.length]
        omega
    | _ => cases e5
  | tup xs =>
    cases d2 with
    | tup ys =>
      cases e5
      obtain ⟨b1, vs1, rfl, f1, f2⟩ := rep_tup p1
      obtain ⟨b2, vs2, rfl, g1, g2⟩ := rep_tup p2
      refine ⟨b1, b2, vs1, vs2, rfl, .inr ⟨f1, g1, q _ H1 μ1 E1 R1 fun μ2 H2 S2 E2 R2 o i => ?_⟩⟩
      have f1' : SqT X.K H2 b1 vs1 := E2.sqT R1 f1
      have g1' : SqT X.K H2 b2 vs2 := E2.sqT R1 g1
      refine ⟨fun d hd => ?_, fun hi => ⟨vs1, vs2, f1', g1', ?_⟩⟩
      · obtain ⟨x, y, e6, e7, rfl⟩ := zip_get hd
        obtain ⟨v1, e8, p3⟩ := f2.get e6
        obtain ⟨v2, e9, p4⟩ := g2.get e7
        refine ⟨⟨vs1, vs2, v1, v2, f1', g1', e8, e9⟩, fun y H3 ⟨T, z1, z2, y1, y2, y3, y4, y5⟩ => ?_⟩
        have w1 := (y4 vs1 f1').symm.trans e8
        have w2 := (y5 vs2 g1').symm.trans e9
        cases w1; cases w2
        subst y1 y3
        exact ⟨Ext.new y2, R2.new y2, mk_tup (SqT.of upd_same) (Reps.cons ((p3.mono R1 E2).mono R2 (Ext.new y2)) (Reps.cons ((p4.mono R1 E2).mono R2 (Ext.new y2)) Reps.nil))⟩
      · have hi' : min xs.length ys.length ≤ i := by rw [← zip_len]; exact hi
        rw [← f2.length, ← g2.length]
        omega
    | _ => cases e5
  | _ => cases e5
end
end Dn

set_option maxHeartbeats 4000000
namespace Dn
open PySem PySem.Spec PyProof.Rows L2

/-! ### list comprehensions -/
section
variable {K : PySem.W.Frag} {G : GE} {μ μ' : Mu} {H H' : Hp} {S : Sto} {σ : L2.St} {δ : En}
theorem wipeD_length (δ : En) : ∀ vs : List Nat, (wipeD δ vs).length = δ.length
  | [] => rfl
  | v :: vs => by unfold wipeD; rw [List.length_set, wipeD_length δ vs]
theorem wipe_rep (h : RepEnv K μ H σ δ) : ∀ vs : List Nat, RepEnv K μ H (wipe σ vs) (wipeD δ vs)
  | [] => h
  | v :: vs => by
    have ih := wipe_rep h vs
    unfold wipe wipeD
    refine ⟨by rw [List.length_set, List.length_set]; exact ih.1, fun i d e => ?_⟩
    by_cases hv : v = i
    · subst hv
      have hi : v < (wipeD δ vs).length := by
        have := (List.getElem?_eq_some_iff.mp e).1
        rwa [List.length_set] at this
      rw [List.getElem?_set_self hi] at e
      cases e
    · rw [List.getElem?_set_ne hv] at e
      rw [List.getElem?_set_ne hv]
      exact ih.2 i d e
def tIfv (K : PySem.W.Frag) (G : GE) (ifs : List C) : TT := fun σ H Q => ∃ μ δ S b S', RepEnv K μ H σ δ ∧ Rl K μ H S ∧ evIf G ifs δ S = some (b, S') ∧ ∀ H' μ', Ext μ H μ' H' → Rl K μ' H' S' → Q b H'
theorem Ext.off {p : Addr} {o : HO} (E : Ext μ H μ' H') (hp : H p = none) : Ext μ H μ' (upd H' p o) := by
  refine ⟨E.hid, E.pre, fun a u ha e => ?_, fun a e => ?_⟩
  · rw [upd_ne (show a ≠ p from fun z => by rw [z, hp] at e; cases e)]
    exact E.keep a u ha e
  · by_cases h : a = p
    · rw [h, upd_same]; simp
    · rw [upd_ne h]; exact E.live a e
theorem Ext.memHid (E : Ext μ H μ' H') {p : Addr} (h : p ∈ μ.hid) : p ∈ μ'.hid := by
  obtain ⟨ξ, e, _⟩ := E.hid
  rw [e]
  exact List.mem_append_right _ h
theorem drop_cons {α : Type} {xs : List α} {i : Nat} (h : i < xs.length) : xs.drop i = xs[i] :: xs.drop (i + 1) := List.drop_eq_getElem_cons h
theorem wipe_mem (σ : L2.St) (v : Nat) : ∀ us : List Nat, v ∈ us → (wipe σ us).set v none = wipe σ us
  | [], h => by cases h
  | u :: us, h => by
    unfold wipe
    by_cases e : u = v
    · subst e; rw [List.set_set]
    · rw [List.set_comm _ _ e]
      rcases List.mem_cons.mp h with q | q
      · exact absurd q.symm e
      · rw [wipe_mem σ v us q]
theorem wipe_twice (σ : L2.St) : ∀ vs us : List Nat, (∀ v ∈ vs, v ∈ us) → wipe (wipe σ us) vs = wipe σ us
  | [], _, _ => rfl
  | v :: vs, us, h => by
    show (wipe (wipe σ us) vs).set v none = _
    rw [wipe_twice σ vs us fun z hz => h z (List.mem_cons_of_mem _ hz)]
    exact wipe_mem σ v us (h v (List.mem_cons_self ..))
theorem lc_imp {elt : C} {t : CT} {it : CI} {ifs : List C} {own : List Nat} (ht : ∀ i ∈ tsl t, i ∈ own) {Q : VK} (h : tEv K G (.lc elt t it ifs own) σ H Q) :
    tLc (tIt K G it) (gEv K G t) (tIfv K G ifs) (tEv K G elt) own σ H Q := by
  obtain ⟨μ, δ, S, d, S', E, R, e1, q⟩ := h
  simp only [evE] at e1
  obtain ⟨⟨w, S1⟩, e2, e3⟩ := bindS e1
  obtain ⟨⟨ys, S2⟩, e4, e5⟩ := bindS e3
  generalize hturn : (fun (x : D) (S1 : Sto) => (evT' G t x (wipeD δ own) S1).bind fun e => (evIf G ifs e.1 e.2).bind fun b => if b.1 = true then (evE G elt e.1 b.2).map fun y => (some y.1, y.2) else some (none, b.2)) = turn at e4
  split at e5
  · rename_i hlen
    replace hlen : ys.length ≤ 16777216 := hlen
    cases e5
    refine ⟨μ, δ, S, w, S1, E, R, e2, fun J H1 μ1 E1 R1 wk Dl hD => ?_⟩
    refine ⟨fun i m H' => i + m = w.xs.length ∧ ∃ μ' S' acc accD, Ext μ1 H1 μ' H' ∧ Rl K μ' H' S' ∧ Dl ∈ μ'.hid ∧ H' Dl = some (.lst acc) ∧ Reps K μ' H' accD acc ∧ ∃ rest, loopLc w turn (w.xs.drop i) S' = some (rest, S2) ∧ accD ++ rest = ys,
      ⟨w.xs.length, by simp, μ1.hide Dl, S1, [], [], Ext.hide hD, R1.hide hD, List.mem_cons_self .., upd_same, Reps.nil, ys, by simpa using e4, rfl⟩, ?_⟩
    rintro i m H' ⟨him, μ', S', acc, accD, E', R', hid, hacc, racc, rest, e6, e7⟩
    have N' : RepEnv K μ' H' σ δ := (E.mono R E1).mono R1 E'
    by_cases hi : i < w.xs.length
    · rw [drop_cons hi] at e6
      unfold loopLc at e6
      split at e6
      · rename_i ok
        obtain ⟨⟨o, S3⟩, e8, e9⟩ := bindS e6
        obtain ⟨⟨rest', S4⟩, e10, e11⟩ := mapS e9
        obtain ⟨z1, z2⟩ := Prod.mk.inj e11
        replace z2 := z2.symm
        subst z2
        subst z1
        obtain ⟨wgo, _⟩ := wk μ' H' S' E' R' ok i
        obtain ⟨go, yl⟩ := wgo _ (List.getElem?_eq_getElem hi)
        refine .inr ⟨go, fun H'' => ∃ μ' S' acc accD, Ext μ1 H1 μ' H'' ∧ Rl K μ' H'' S' ∧ Dl ∈ μ'.hid ∧ H'' Dl = some (.lst acc) ∧ Reps K μ' H'' accD acc ∧ ∃ rest, loopLc w turn (w.xs.drop (i + 1)) S' = some (rest, S2) ∧ accD ++ rest = ys,
          fun H'' n => ⟨m - 1, by omega, by omega, n⟩, fun x H2 y => ?_⟩
        obtain ⟨E2, R2, p2⟩ := yl x H2 y
        subst hturn
        obtain ⟨⟨δ3, T3⟩, f1, f2⟩ := bindS e8
        obtain ⟨⟨b, T4⟩, f3, f4⟩ := bindS f2
        refine ⟨μ', wipeD δ own, S', _, δ3, T3, wipe_rep (N'.mono R' E2) own, R2, p2, f1, fun σ3 H3 μ3 E3 R3 N3 w3 => ⟨?_, ?_⟩⟩
        · rw [w3 own ht]
          exact wipe_twice σ own own fun _ h => h
        · refine ⟨μ3, δ3, T3, b, T4, N3, R3, f3, fun H4 μ4 E4 R4 => ?_⟩
          have E24 : Ext μ' H' μ4 H4 := (E2.trans E3).trans E4
          have N4 := N3.mono R3 E4
          cases b with
          | true =>
            simp only [↓reduceIte] at f4
            refine iteT ?_
            obtain ⟨⟨y1, T5⟩, f5, f6⟩ := mapS f4
            cases f6
            refine ev1 N4 R4 f5 fun v H5 μ5 E5 R5 _ p5 => ?_
            have E25 : Ext μ' H' μ5 H5 := E24.trans E5
            have hk5 : H5 Dl = some (.lst acc) := E25.keep Dl _ (R'.sep Dl hid) hacc
            have hid5 : Dl ∈ μ5.hid := E25.memHid hid
            have hz : ¬ μ5.fz Dl := fun z => z.2 hid5
            have racc5 := racc.mono R' E25
            have hl : accD.length < 16777216 := by
              have : (accD ++ (some y1).toList ++ rest').length = ys.length := by rw [← e7]; simp
              simp at this
              omega
            refine ⟨acc, hk5, by rw [sizeL, ← racc.length]; exact hl, μ5, T5, acc ++ [v], accD ++ [y1], (E'.trans E25).off hD, R5.off hid5 hk5, hid5, upd_same, ?_, rest', e10, ?_⟩
            · exact (Reps.off hz hk5 racc5).append (Reps.cons (Rep.off hz hk5 p5) Reps.nil)
            · rw [← e7]; simp
          | false =>
            simp only [Bool.false_eq_true, ↓reduceIte] at f4
            refine iteF ?_
            cases f4
            exact ⟨μ4, _, acc, accD, E'.trans E24, R4, E24.memHid hid, E24.keep Dl _ (R'.sep Dl hid) hacc, racc.mono R' E24, rest', e10, by rw [← e7]; simp⟩
      · cases e6
    · have e8 : w.xs.drop i = [] := List.drop_eq_nil_of_le (by omega)
      rw [e8] at e6
      unfold loopLc at e6
      split at e6
      · rename_i ok
        cases e6
        rw [List.append_nil] at e7
        subst e7
        obtain ⟨_, stop⟩ := wk μ' H' _ E' R' ok i
        refine .inl ⟨stop (by omega), ?_⟩
        have hh : ∀ a ∈ μ1.hid, a ∈ μ'.hid := fun a ha => E'.memHid ha
        have E'' : Ext μ1 H1 (μ'.show μ1.hid) H' := ⟨⟨[], rfl, fun _ h => nomatch h⟩, E'.pre, E'.keep, E'.live⟩
        refine q (.ref Dl) H' (μ'.show μ1.hid) (E1.trans E'') (R'.shown hh) (mk_lst ⟨R'.sep Dl hid, fun z => (R1.fz hD).2 z⟩ hacc (Reps.shown hh racc))
      · cases e6
  · cases e5
end
theorem lc_mono {K : PySem.W.Frag} {wi : TI} {g : TG} {tt : TT} {te : TE} {vs : List Nat} {σ : L2.St} {H : Hp} {Q Q' : VK} (h : tLc wi g tt te vs σ H Q) (i : ∀ x H, Q x H → Q' x H)
    (hw : ∀ (R R' : L2.It → Hp → Prop), (∀ J H, R J H → R' J H) → wi σ H R → wi σ H R') : tLc wi g tt te vs σ H Q' := by
  refine hw _ _ (fun J H1 hr Dl hD => ?_) h
  obtain ⟨W, w0, st⟩ := hr Dl hD
  refine ⟨W, w0, fun i' m H' hW => ?_⟩
  rcases st i' m H' hW with ⟨z, q⟩ | z
  · exact .inl ⟨z, i _ _ q⟩
  · exact .inr z
section
variable {X : Cx} {k : Kc} {pos : Pos}
/-- the block of a comprehension -/
def Kt.blk (k : Kt) (scope : Scope) : Kt := { k with sc := relS scope k.sc, fl := fun x => scope.names.lookup x == some .cell }
def Kc.blk (k : Kc) (scope : Scope) : Kc := ⟨k.toKt.blk scope, k.g⟩
theorem KcOk.blk (hk : KcOk X k) {s : Shared} {H : Hp} {scope : Scope} {C : Addr} {cl : List (Str × Addr)} {fp : List Addr} : KcOk (X.blk s H scope (compEnvC scope cl C X.env) fp) (k.blk scope) where
  N := hk.N
  sc := by
    show relS scope k.sc = (compEnvC scope cl C X.env).scope
    rw [hk.sc]; rfl
  nd := hk.nd
  calm := hk.calm
  hu := hk.hu
  gd := hk.gd
  fl := fun x h => h
  data := hk.data
  dn := hk.dn
  free := hk.free
  bf := hk.bf
  dd := hk.dd
  call := fun f hf => by
    obtain ⟨a, fd, ps, lv, O⟩ := hk.call f hf
    exact ⟨a, fd, ps, lv, O.mg, O.kp, O.bd, O.fn, O.rm, O.kw⟩
  sys := hk.sys
  r2 := hk.r2
  cls := fun cn fo h => by
    obtain ⟨c, O⟩ := hk.cls cn fo h
    refine ⟨c, O.at_, O.mg, O.T, O.xc, O.xf, fun f e => ?_, O.bare⟩
    obtain ⟨h1, fI, fd, self, N⟩ := O.ini f e
    exact ⟨h1, fI, fd, self, N.iC, N.tI, N.fn, N.b1, N.b2⟩
  isx := hk.isx
theorem if_nil : PTs X [] (tIfv X.K k.g []) := ⟨fun pins s σ H Q I ⟨μ, δ, S, b, S', E, R, e, q⟩ => by
  simp only [evIf] at e; cases e
  exact pts_nil.run pins s σ H Q I (q H μ Ext.refl R)⟩
theorem if_one {c : Expr} {a : C} (h : PT X c (tTv X.K k.g a)) : PTs X [c] (tIfv X.K k.g [a]) := ⟨fun pins s σ H Q I ⟨μ, δ, S, b, S', E, R, e, q⟩ => by
  simp only [evIf] at e
  exact (pts_one h).run pins s σ H Q I ⟨μ, δ, S, b, S', E, R, e, q⟩⟩
theorem fold_set {e : Expr} (h : plainX e = true) (env : Env) (x : Value) : foldedSetIterable e env x = pure x := by cases e <;> first | rfl | cases h
theorem e_lc (hk : KcOk X k) {elt tg iter : Expr} {ifs : List Expr} {scope : Scope} {own : List (Str × Nat)} {c : C} {t : CT} {it : CI} {cs : List C} (hi : PI X tg iter (tIt X.K k.g it)) (hp : plainX iter = true) (hb : blkC k.N k.sc scope own = true)
    (hg : ∀ (s : Shared) (H : Hp) (C : Addr) (cl : List (Str × Addr)) (fp : List Addr), PG (X.blk s H scope (compEnvC scope cl C X.env) fp) tg (gEv X.K k.g t)) (ht : ∀ (s : Shared) (H : Hp) (C : Addr) (cl : List (Str × Addr)) (fp : List Addr), PTs (X.blk s H scope (compEnvC scope cl C X.env) fp) ifs (tIfv X.K k.g cs))
    (he : ∀ (s : Shared) (H : Hp) (C : Addr) (cl : List (Str × Addr)) (fp : List Addr), PE (X.blk s H scope (compEnvC scope cl C X.env) fp) elt (tEv X.K k.g c)) (hs : ∀ i ∈ tsl t, i ∈ own.map (·.2)) :
    PE X (.ListComp elt [⟨tg, iter, ifs, 0⟩] scope pos) (tEv X.K k.g (.lc c t it cs (own.map (·.2)))) := by
  refine (pe_lc hk.calm hk.nd hi ?_ hg ht he (fold_set hp _)).imp fun σ H Q h => lc_imp hs h
  rw [hk.N, hk.sc] at hb
  exact blkOk_by hb
end
end Dn

set_option maxHeartbeats 4000000
namespace Dn
open PySem PySem.Spec PyProof.Rows L2

/-! ### statements -/
def Fk (K : PySem.W.Frag) (μ : Mu) (H : Hp) (S : Sto) (D : Ends) : Fl → Prop
  | .nx δ => ∀ σ' H' μ', Ext μ H μ' H' → Rl K μ' H' S → RepEnv K μ' H' σ' δ → D.nx σ' H'
  | .ct δ => ∀ σ' H' μ', Ext μ H μ' H' → Rl K μ' H' S → RepEnv K μ' H' σ' δ → D.ct σ' H'
  | .bk δ => ∀ σ' H' μ', Ext μ H μ' H' → Rl K μ' H' S → RepEnv K μ' H' σ' δ → D.bk σ' H'
  | .rt d => Pst K μ H S d D.rt
theorem Fk.ext {K : PySem.W.Frag} {μ μ1 : Mu} {H H1 : Hp} {S : Sto} {D : Ends} {f : Fl} (h : Fk K μ H S D f) (E : Ext μ H μ1 H1) : Fk K μ1 H1 S D f := by
  cases f with
  | nx δ => exact fun σ' H' μ' E' R N => h σ' H' μ' (E.trans E') R N
  | ct δ => exact fun σ' H' μ' E' R N => h σ' H' μ' (E.trans E') R N
  | bk δ => exact fun σ' H' μ' E' R N => h σ' H' μ' (E.trans E') R N
  | rt d => exact Pst.ext h E
def tSt (K : PySem.W.Frag) (G : GE) (s : CS) : TS := fun D σ H => ∃ μ δ S f S', RepEnv K μ H σ δ ∧ Rl K μ H S ∧ exS G s δ S = some (f, S') ∧ Fk K μ H S' D f
def tSts (K : PySem.W.Frag) (G : GE) (ss : List CS) : TS := fun D σ H => ∃ μ δ S f S', RepEnv K μ H σ δ ∧ Rl K μ H S ∧ exSs G ss δ S = some (f, S') ∧ Fk K μ H S' D f
/-- no comprehension -/
def noLc : Expr → Bool
  | .ListComp _ _ _ _ => false
  | .SetComp _ _ _ _ => false
  | .DictComp _ _ _ _ _ => false
  | _ => true
theorem sw_plain {e : Expr} (h : noLc e = true) (t : Option Expr) (l : Nat) (env : Env) : swapsWith e t l env = pure false := by
  cases e <;> first | rfl | cases h
def isStar : Expr → Bool
  | .Starred _ _ => true
  | _ => false
/-- the names that are stored from the right; none: not said -/
def swName (sc : Scope) (l : Nat) : Expr → Option Str
  | .Name id pos => if (sc.names.lookup id == some .local && pos.line == l) = true then some id else none
  | _ => none
def swNames (sc : Scope) (ts : List Expr) : List Str := ts.filterMap (swName sc ((ts.head?.map (·.pos.line)).getD 0))
def swOf (sc : Scope) (ts vs : List Expr) : Option (Option (List Str)) :=
  if (!(ts.length == 2 || ts.length == 3) || vs.length != ts.length) = true then some none else
  if (vs.any isStar) = true then some none else
  if ((swNames sc ts).length != ts.length || (swNames sc ts).eraseDups.length != (swNames sc ts).length) = true then some none else
  if (vs.all (foldedForSure 8)) = true then some none else
  if (vs.all (constantsAlone 8)) = true then none else
  some (some (swNames sc ts))
theorem any_f {f : Expr → Bool} {vs : List Expr} (h : ∀ e, f e = isStar e) : vs.any f = vs.any isStar := by rw [funext h]
theorem fm_f {f : Expr → Option Str} {ts : List Expr} {sc : Scope} (h : ∀ e, f e = swName sc ((ts.head?.map (·.pos.line)).getD 0) e) : ts.filterMap f = swNames sc ts := by rw [funext h]; rfl
theorem sw_of {sc : Scope} {ts vs : List Expr} {r : Option (List Str)} {env : Env} {k k2 : Nat} {p p2 : Pos} (hs : env.scope = sc) (hk : env.scope.kind = .function) (h : swOf sc ts vs = some r) :
    swappedStores [.Tuple ts k p] (.Tuple vs k2 p2) env = pure r := by
  have hb : env.blockKind = .function := by unfold Env.blockKind; rw [hk]; rfl
  subst hs
  have hb2 : (env.blockKind != ScopeKind.function) = false := by rw [hb]; rfl
  unfold swOf at h
  unfold swappedStores
  dsimp only
  rw [hb2, Bool.or_false, any_f (vs := vs) (by intro e; cases e <;> rfl), fm_f (ts := ts) (sc := env.scope) (by intro e; cases e <;> rfl)]
  split at h
  · rename_i c; cases h; rw [if_pos c]
  · rename_i c; rw [if_neg c]
    split at h
    · rename_i c; cases h; rw [if_pos c]
    · rename_i c; rw [if_neg c]
      split at h
      · rename_i c; cases h; rw [if_pos c]
      · rename_i c; rw [if_neg c]
        split at h
        · rename_i c; cases h; rw [if_pos c]
        · rename_i c; rw [if_neg c]
          split at h
          · cases h
          · rename_i c; cases h; rw [if_neg c]
/-- one target, or a value that is no tuple -/
def isTupX : Expr → Bool
  | .Tuple _ _ _ => true
  | _ => false
theorem sw_one {t e : Expr} {env : Env} (h : isTupX t = false ∨ isTupX e = false) (hl : ∀ es p, t ≠ .List es p) : swappedStores [t] e env = pure none := by
  rcases h with h | h
  · cases t <;> cases e <;> first | rfl | (cases h; done) | exact absurd rfl (hl _ _)
  · cases e <;> cases t <;> first | rfl | (cases h; done) | exact absurd rfl (hl _ _)

section
variable {X : Cx} {k : Kc} {pos : Pos}
theorem ss_nil : PSs X [] (tSts X.K k.g []) := pss_nil.imp fun D σ H ⟨μ, δ, S, f, S', E, R, e, q⟩ => by
  simp only [exSs] at e; cases e
  exact q σ H μ Ext.refl R E
theorem ss_cons {st : Stmt} {sts : List Stmt} {s : CS} {ss : List CS} (h1 : PS X st (tSt X.K k.g s)) (h2 : PSs X sts (tSts X.K k.g ss)) : PSs X (st :: sts) (tSts X.K k.g (s :: ss)) := (pss_cons h1 h2).imp fun D σ H ⟨μ, δ, S, f, S', E, R, e, q⟩ => by
  simp only [exSs] at e
  obtain ⟨⟨f1, S1⟩, e1, e2⟩ := bindS e
  refine ⟨μ, δ, S, f1, S1, E, R, e1, ?_⟩
  cases f1 with
  | nx δ1 => exact fun σ1 H1 μ1 E1 R1 N1 => ⟨μ1, δ1, S1, f, S', N1, R1, e2, q.ext E1⟩
  | rt d => cases e2; exact q
  | bk δ1 => cases e2; exact q
  | ct δ1 => cases e2; exact q
theorem s_expr {e : Expr} {c : C} (he : PE X e (tEv X.K k.g c)) (hl : noLc e = true) : PS X (.Expr e pos) (tSt X.K k.g (.expr c)) := (ps_expr he (sw_plain hl _ _ _)).imp fun D σ H ⟨μ, δ, S, f, S', E, R, e, q⟩ => by
  simp only [exS] at e
  obtain ⟨⟨d, S1⟩, e1, e2⟩ := mapS e
  cases e2
  exact ev1 E R e1 fun x H1 μ1 E1 R1 N1 _ => q σ H1 μ1 E1 R1 N1
theorem asg_imp {c : C} {t : CT} {D : Ends} {σ : L2.St} {H : Hp} {K : PySem.W.Frag} {G : GE} (h : tSt K G (.asg t c) D σ H) : tAsg (tEv K G c) (gEv K G t) D σ H := by
  obtain ⟨μ, δ, S, f, S', E, R, e, q⟩ := h
  simp only [exS] at e
  obtain ⟨⟨d, S1⟩, e1, e2⟩ := bindS e
  obtain ⟨⟨δ2, S2⟩, e3, e4⟩ := mapS e2
  cases e4
  exact ev1 E R e1 fun x H1 μ1 E1 R1 N1 p1 => ⟨μ1, δ, S1, d, δ2, _, N1, R1, p1, e3, fun σ2 H2 μ2 E2 R2 N2 _ => q σ2 H2 μ2 (E1.trans E2) R2 N2⟩
theorem s_asg {tg e : Expr} {c : C} {t : CT} (hg : PG X tg (gEv X.K k.g t)) (he : PE X e (tEv X.K k.g c)) (hl : noLc e = true) (hp : plainX tg = true) (hw : isTupX tg = false ∨ isTupX e = false) (hL : ∀ es p, tg ≠ .List es p) :
    PS X (.Assign [tg] e pos) (tSt X.K k.g (.asg t c)) :=
  (ps_asg he hg (sw_plain hl _ _ _) (sw_one hw hL) (by rw [assign_star hp]; rfl)).imp fun D σ H h => asg_imp h
/-- a tuple into a tuple, stored from the left -/
theorem s_asgT {ts vs : List Expr} {k1 k2 : Nat} {p1 p2 : Pos} {c : C} {t : CT} (hk : KcOk X k) (hg : PG X (.Tuple ts k1 p1) (gEv X.K k.g t)) (he : PE X (.Tuple vs k2 p2) (tEv X.K k.g c)) (hw : swOf k.sc ts vs = some none) :
    PS X (.Assign [.Tuple ts k1 p1] (.Tuple vs k2 p2) pos) (tSt X.K k.g (.asg t c)) := ⟨fun pins s σ H D I h =>
  (ps_asg he hg (hw := sw_of hk.sc.symm I.ok.kind hw)).run pins s σ H D I (asg_imp h)⟩
/-- a, b = x, y: plain local names, stored from the right -/
theorem s_par {x y : Str} {a b : Expr} {i j : Nat} {ca cb : C} {px py p1 p2 : Pos} {k1 k2 : Nat} (hk : KcOk X k) (ha : PE X a (tEv X.K k.g ca)) (hb : PE X b (tEv X.K k.g cb)) (hpa : plainX a = true) (hpb : plainX b = true) (hi : k.N[i]? = some x) (hj : k.N[j]? = some y) (hij : i ≠ j)
    (hx : k.sc.names.lookup x = some .local) (hy : k.sc.names.lookup y = some .local) (hw : swOf k.sc [.Name x px, .Name y py] [a, b] = some (some [x, y])) :
    PS X (.Assign [.Tuple [.Name x px, .Name y py] k1 p1] (.Tuple [a, b] k2 p2) pos) (tSt X.K k.g (.par i j ca cb)) := ⟨fun pins s σ H D I ⟨μ, δ, S, f, S', E, R, e, q⟩ => by
  have hA : PA X [a, b] (tCons (tEv X.K k.g ca) (tCons (tEv X.K k.g cb) tNil)) := pa_cons ha (pa_cons hb pa_nil (star_of hpb _ _)) (star_of hpa _ _)
  refine (ps_par (i := i) (j := j) hk.calm hk.nd (by rw [← hk.N]; exact hi) (by rw [← hk.N]; exact hj) hij (by rw [← hk.sc]; exact hx) (by rw [← hk.sc]; exact hy) hA (sw_of hk.sc.symm I.ok.kind hw)).run pins s σ H D I ?_
  simp only [exS] at e
  obtain ⟨⟨d1, S1⟩, e1, e2⟩ := bindS e
  obtain ⟨⟨d2, S2⟩, e3, e4⟩ := mapS e2
  cases e4
  exact ev2 E R e1 e3 fun x y H2 μ2 E2 R2 N2 r1 r2 => ⟨x, y, rfl, q _ H2 μ2 E2 R2 ((N2.set r1).set r2)⟩⟩
/-- three plain local names, stored from the right -/
theorem s_par3 {x y z : Str} {a b c : Expr} {i j l : Nat} {ca cb cc : C} {px py pz p1 p2 : Pos} {k1 k2 : Nat} (hk : KcOk X k) (ha : PE X a (tEv X.K k.g ca)) (hb : PE X b (tEv X.K k.g cb)) (hc : PE X c (tEv X.K k.g cc)) (hpa : plainX a = true) (hpb : plainX b = true) (hpc : plainX c = true)
    (hi : k.N[i]? = some x) (hj : k.N[j]? = some y) (hl : k.N[l]? = some z) (hij : i ≠ j) (hil : i ≠ l) (hjl : j ≠ l)
    (hx : k.sc.names.lookup x = some .local) (hy : k.sc.names.lookup y = some .local) (hz : k.sc.names.lookup z = some .local) (hw : swOf k.sc [.Name x px, .Name y py, .Name z pz] [a, b, c] = some (some [x, y, z])) :
    PS X (.Assign [.Tuple [.Name x px, .Name y py, .Name z pz] k1 p1] (.Tuple [a, b, c] k2 p2) pos) (tSt X.K k.g (.par3 i j l ca cb cc)) := ⟨fun pins s σ H D I ⟨μ, δ, S, f, S', E, R, e, q⟩ => by
  have hA : PA X [a, b, c] (tCons (tEv X.K k.g ca) (tCons (tEv X.K k.g cb) (tCons (tEv X.K k.g cc) tNil))) := pa_cons ha (pa_cons hb (pa_cons hc pa_nil (star_of hpc _ _)) (star_of hpb _ _)) (star_of hpa _ _)
  refine (ps_par3 (i := i) (j := j) (l := l) hk.calm hk.nd (by rw [← hk.N]; exact hi) (by rw [← hk.N]; exact hj) (by rw [← hk.N]; exact hl) hij hil hjl (by rw [← hk.sc]; exact hx) (by rw [← hk.sc]; exact hy) (by rw [← hk.sc]; exact hz) hA (sw_of hk.sc.symm I.ok.kind hw)).run pins s σ H D I ?_
  simp only [exS] at e
  obtain ⟨⟨d1, S1⟩, e1, e2⟩ := bindS e
  obtain ⟨⟨d2, S2⟩, e3, e4⟩ := bindS e2
  obtain ⟨⟨d3, S3⟩, e5, e6⟩ := mapS e4
  cases e6
  exact ev2 E R e1 e3 fun x y H2 μ2 E2 R2 N2 r1 r2 => ev1 N2 R2 e5 fun z H3 μ3 E3 R3 N3 r3 => ⟨x, y, z, rfl, q _ H3 μ3 (E2.trans E3) R3 (((N3.set (r1.mono R2 E3)).set (r2.mono R2 E3)).set r3)⟩⟩
/-- name = [.. for ..] -/
theorem s_lc (hk : KcOk X k) {elt tg iter : Expr} {ifs : List Expr} {scope : Scope} {own : List (Str × Nat)} {c : C} {t : CT} {it : CI} {cs : List C} {i : Nat} {y : Str} {py spos : Pos} (hi : PI X tg iter (tIt X.K k.g it)) (hp : plainX iter = true) (hb : blkC k.N k.sc scope own = true)
    (hg : ∀ (s : Shared) (H : Hp) (C : Addr) (cl : List (Str × Addr)) (fp : List Addr), PG (X.blk s H scope (compEnvC scope cl C X.env) fp) tg (gEv X.K k.g t)) (ht : ∀ (s : Shared) (H : Hp) (C : Addr) (cl : List (Str × Addr)) (fp : List Addr), PTs (X.blk s H scope (compEnvC scope cl C X.env) fp) ifs (tIfv X.K k.g cs))
    (he : ∀ (s : Shared) (H : Hp) (C : Addr) (cl : List (Str × Addr)) (fp : List Addr), PE (X.blk s H scope (compEnvC scope cl C X.env) fp) elt (tEv X.K k.g c)) (hs : ∀ i ∈ tsl t, i ∈ own.map (·.2))
    (hy : k.N[i]? = some y) (hyl : k.sc.names.lookup y = some .local) (hln : (py.line == pos.line) = true) (hnm : (scope.names.any fun (n, kd) => n == y && (kd == .local || kd == .cell)) = false) :
    PS X (.Assign [.Name y py] (.ListComp elt [⟨tg, iter, ifs, 0⟩] scope pos) spos) (tSt X.K k.g (.asg (.name i) (.lc c t it cs (own.map (·.2))))) := by
  have hb' := hb
  rw [hk.N, hk.sc] at hb'
  have hyl' : X.env.scope.names.lookup y = some .local := by rw [← hk.sc]; exact hyl
  refine ⟨fun pins s σ H D I h => ?_⟩
  refine (ps_setLc (i := i) hk.calm hk.nd (by rw [← hk.N]; exact hy) hyl' (sw_true I.ok.kind hyl' hln hnm) hi (blkOk_by hb') hg ht he (fold_set hp _)).run pins s σ H D I ?_
  have h2 := asg_imp h
  have h3 := lc_imp hs (Q := fun x H1 => gEv X.K k.g (.name i) x σ H1 D.nx) h2
  refine lc_mono (K := X.K) h3 (fun x H1 ⟨μ, δ, S, d, δ', S', E, R, r, e, q⟩ => ?_) fun P P' hp ⟨μ, δ, S, w, S', E, R, e, q⟩ => ⟨μ, δ, S, w, S', E, R, e, fun J H' μ' E' R' wk => hp J H' (q J H' μ' E' R' wk)⟩
  simp only [evT'] at e
  cases e
  refine q _ H1 μ Ext.refl R (E.set r) fun vs hv => ?_
  rw [wipe_set, if_pos (hv i (by simp [tsl]))]
theorem s_ret {e : Expr} {c : C} (he : PE X e (tEv X.K k.g c)) : PS X (.Return (some e) pos) (tSt X.K k.g (.ret c)) := (ps_ret he).imp fun D σ H ⟨μ, δ, S, f, S', E, R, e, q⟩ => by
  simp only [exS] at e
  obtain ⟨⟨d, S1⟩, e1, e2⟩ := mapS e
  cases e2
  exact ⟨μ, δ, S, d, S1, E, R, e1, q⟩
theorem s_retN : PS X (.Return none pos) (tSt X.K k.g .retN) := ps_retN.imp fun D σ H ⟨μ, δ, S, f, S', E, R, e, q⟩ => by
  simp only [exS] at e; cases e
  exact Pst.at q R mk_non
theorem s_pass : PS X (.Pass pos) (tSt X.K k.g .pass) := ps_pass.imp fun D σ H ⟨μ, δ, S, f, S', E, R, e, q⟩ => by
  simp only [exS] at e; cases e
  exact q σ H μ Ext.refl R E
theorem s_brk : PS X (.Break pos) (tSt X.K k.g .brk) := ps_break.imp fun D σ H ⟨μ, δ, S, f, S', E, R, e, q⟩ => by
  simp only [exS] at e; cases e
  exact q σ H μ Ext.refl R E
theorem s_cont : PS X (.Continue pos) (tSt X.K k.g .cont) := ps_continue.imp fun D σ H ⟨μ, δ, S, f, S', E, R, e, q⟩ => by
  simp only [exS] at e; cases e
  exact q σ H μ Ext.refl R E
theorem s_never {st : Stmt} : PS X st (tSt X.K k.g .never) := ps_never.imp fun D σ H ⟨μ, δ, S, f, S', E, R, e, q⟩ => by
  simp only [exS] at e; cases e
theorem s_if {c : Expr} {a b : List Stmt} {cc : C} {ca cb : List CS} (hc : PT X c (tTv X.K k.g cc)) (ha : PSs X a (tSts X.K k.g ca)) (hb : PSs X b (tSts X.K k.g cb)) : PS X (.If c a b pos) (tSt X.K k.g (.ife cc ca cb)) := (ps_if hc ha hb).imp fun D σ H ⟨μ, δ, S, f, S', E, R, e, q⟩ => by
  simp only [exS] at e
  obtain ⟨⟨t, S1⟩, e2, e3⟩ := bindS e
  refine tv1 E R e2 fun H1 μ1 E1 R1 N1 => ?_
  cases t with
  | true =>
    simp only [↓reduceIte] at e3
    exact iteT ⟨μ1, δ, S1, f, S', N1, R1, e3, q.ext E1⟩
  | false =>
    simp only [Bool.false_eq_true, ↓reduceIte] at e3
    exact iteF ⟨μ1, δ, S1, f, S', N1, R1, e3, q.ext E1⟩
theorem s_for {tg iter : Expr} {body : List Stmt} {t : CT} {it : CI} {cb : List CS} (hk : KcOk X k) (hx : X.xe = fun _ _ => False) (hi : PI X tg iter (tIt X.K k.g it)) (hg : PG X tg (gEv X.K k.g t)) (hb : PSs X body (tSts X.K k.g cb)) (hp : plainX iter = true) :
    PS X (.For tg iter body [] pos) (tSt X.K k.g (.for_ t it cb)) := (ps_for (by rw [hx]; exact PassesOwn.never) hk.calm hi hg hb (fold_set hp _)).imp fun D σ H ⟨μ, δ, S, f, S', E, R, e, q⟩ => by
  simp only [exS] at e
  obtain ⟨⟨w, S1⟩, e1, e2⟩ := bindS e
  generalize hturn : (fun (x : Dn.D) (δ1 : En) (S1 : Sto) => (evT' k.g t x δ1 S1).bind fun q => exSs k.g cb q.1 q.2) = turn at e2
  refine ⟨μ, δ, S, w, S1, E, R, e1, fun J H1 μ1 E1 R1 wk => ?_⟩
  refine ⟨fun i m σ' H' => i + m = w.xs.length ∧ ∃ μ' δ' S2, Ext μ1 H1 μ' H' ∧ Rl X.K μ' H' S2 ∧ RepEnv X.K μ' H' σ' δ' ∧ loopFor w turn (w.xs.drop i) δ' S2 = some (f, S'),
    ⟨w.xs.length, by simp, μ1, δ, S1, Ext.refl, R1, E.mono R E1, by simpa using e2⟩, ?_⟩
  rintro i m σ' H' ⟨him, μ', δ', S2, E', R', N', e6⟩
  by_cases hi : i < w.xs.length
  · rw [drop_cons hi] at e6
    unfold loopFor at e6
    split at e6
    · rename_i ok
      obtain ⟨⟨f1, S3⟩, e8, e9⟩ := bindS e6
      obtain ⟨wgo, _⟩ := wk μ' H' S2 E' R' ok i
      obtain ⟨go, yl⟩ := wgo _ (List.getElem?_eq_getElem hi)
      refine .inr ⟨go, fun σ'' H'' => ∃ μ' δ' S2, Ext μ1 H1 μ' H'' ∧ Rl X.K μ' H'' S2 ∧ RepEnv X.K μ' H'' σ'' δ' ∧ loopFor w turn (w.xs.drop (i + 1)) δ' S2 = some (f, S'), fun σ'' H'' n => ⟨m - 1, by omega, by omega, n⟩, fun x H2 y => ?_⟩
      obtain ⟨E2, R2, p2⟩ := yl x H2 y
      subst hturn
      obtain ⟨⟨δ3, T3⟩, f1', f2⟩ := bindS e8
      refine ⟨μ', δ', S2, _, δ3, T3, N'.mono R' E2, R2, p2, f1', fun σ3 H3 μ3 E3 R3 N3 _ => ⟨μ3, δ3, T3, f1, S3, N3, R3, f2, ?_⟩⟩
      have E13 : Ext μ H μ3 H3 := ((E1.trans E').trans E2).trans E3
      cases f1 with
      | nx δ1 => exact fun σ4 H4 μ4 E4 R4 N4 => ⟨μ4, δ1, S3, ((E'.trans E2).trans E3).trans E4, R4, N4, e9⟩
      | ct δ1 => exact fun σ4 H4 μ4 E4 R4 N4 => ⟨μ4, δ1, S3, ((E'.trans E2).trans E3).trans E4, R4, N4, e9⟩
      | bk δ1 => cases e9; exact fun σ4 H4 μ4 E4 R4 N4 => q σ4 H4 μ4 (E13.trans E4) R4 N4
      | rt d => cases e9; exact Pst.ext q E13
    · cases e6
  · have e8 : w.xs.drop i = [] := List.drop_eq_nil_of_le (by omega)
    rw [e8] at e6
    unfold loopFor at e6
    split at e6
    · rename_i ok
      cases e6
      obtain ⟨_, stop⟩ := wk μ' H' _ E' R' ok i
      exact .inl ⟨stop (by omega), q σ' H' μ' (E1.trans E') R' N'⟩
    · cases e6
theorem s_whl {c : Expr} {body : List Stmt} {cc : C} {cb : List CS} (hx : X.xe = fun _ _ => False) (hc : PT X c (tTv X.K k.g cc)) (hb : PSs X body (tSts X.K k.g cb)) : PS X (.While c body [] pos) (tSt X.K k.g (.whl cc cb)) := (ps_while (by rw [hx]; exact PassesOwn.never) hc hb).imp fun D σ H ⟨μ, δ, S, f, S', E, R, e, q⟩ => by
  simp only [exS] at e
  obtain ⟨n, en⟩ := of_whD e
  refine ⟨fun m σ' H' => ∃ μ' δ' S2, Ext μ H μ' H' ∧ Rl X.K μ' H' S2 ∧ RepEnv X.K μ' H' σ' δ' ∧ whN (fun δ S => evT k.g cc δ S) (fun δ S => exSs k.g cb δ S) m δ' S2 = some (f, S'), ⟨n, μ, δ, S, Ext.refl, R, E, en⟩, ?_⟩
  rintro m σ' H' ⟨μ', δ', S2, E', R', N', e6⟩
  cases m with
  | zero => cases e6
  | succ m =>
    unfold whN at e6
    obtain ⟨⟨b, S3⟩, e7, e8⟩ := bindS e6
    refine tv1 N' R' e7 fun H1 μ1 E1 R1 N1 => ?_
    cases b with
    | true =>
      simp only [↓reduceIte] at e8
      refine iteT ⟨fun σ'' H'' => ∃ μ' δ' S2, Ext μ H μ' H'' ∧ Rl X.K μ' H'' S2 ∧ RepEnv X.K μ' H'' σ'' δ' ∧ whN (fun δ S => evT k.g cc δ S) (fun δ S => exSs k.g cb δ S) m δ' S2 = some (f, S'), fun σ'' H'' n => ⟨m, Nat.lt_succ_self _, n⟩, ?_⟩
      obtain ⟨⟨f1, S4⟩, e9, e10⟩ := bindS e8
      refine ⟨μ1, δ', S3, f1, S4, N1, R1, e9, ?_⟩
      have E13 : Ext μ H μ1 H1 := E'.trans E1
      cases f1 with
      | nx δ1 => exact fun σ4 H4 μ4 E4 R4 N4 => ⟨μ4, δ1, S4, E13.trans E4, R4, N4, e10⟩
      | ct δ1 => exact fun σ4 H4 μ4 E4 R4 N4 => ⟨μ4, δ1, S4, E13.trans E4, R4, N4, e10⟩
      | bk δ1 => cases e10; exact fun σ4 H4 μ4 E4 R4 N4 => q σ4 H4 μ4 (E13.trans E4) R4 N4
      | rt d => cases e10; exact Pst.ext q E13
    | false =>
      simp only [Bool.false_eq_true, ↓reduceIte] at e8
      cases e8
      exact iteF (q σ' H1 μ1 (E'.trans E1) R1 N1)
end
end Dn

set_option maxHeartbeats 4000000
namespace Zp
open PySem
open PySem.Sem (wp)
open PySem.W (KdxIt kdx_alive)
section
variable {prog : Program} {w : World} {A : Around} {E : Value → Shared → Prop} {s : Shared}
/-! ### zip of two tuples whose tuples stay: one turn -/
theorem zipT_next_item_held {z TI TO T i1 i2 l1 l2 : Addr} {f : Bool} {oT : Obj} {k1 k2 : Nat} {xs ys : Array Value} {x y : Value} {Q : Value → Shared → Prop} (D : ZipApart z TI TO i1 i2 l1 l2)
    (hz : IsZipHeld s.heap z TI TO T f) (hT : s.heap.get? T = some oT) (hTI : IsPair s.heap TI (.ref i1) (.ref i2))
    (h1 : s.heap.IsTupleIter i1 l1 k1) (h2 : s.heap.IsTupleIter i2 l2 k2) (hl1 : s.heap.IsTuple l1 xs) (hl2 : s.heap.IsTuple l2 ys) (hx : xs[k1]? = some x) (hy : ys[k2]? = some y)
    (hQ : ∀ h', IsZipHeld h' z TI TO T true → h'.IsTupleIter i1 l1 (k1 + 1) → h'.IsTupleIter i2 l2 (k2 + 1) → IsPair h' s.heap.objs.size x y → h'.objs.size = s.heap.objs.size + 1 →
      (∀ c o, c ≠ z → c ≠ i1 → c ≠ i2 → s.heap.get? c = some o → h'.get? c = some o) → Q (.ref s.heap.objs.size) { s with heap := h' }) :
    wpAny (model prog w) A (Builtin.«zip.__next__» ⟨[.ref z], []⟩) (fun fin s' => ∃ v, fin = .done (.ret v) ∧ Q v s') E s := by
  show wpAny _ _ (field (.ref z) 2 >>= _) _ _ _
  refine wpAny_bind (wpAny_field hz rfl (x := .bool false) rfl ?_)
  show wpAny _ _ (field (.ref z) 3 >>= _) _ _ _
  refine wpAny_bind (wpAny_field hz rfl (x := .ref TI) rfl ?_)
  refine wpAny_bind (wpAny_seqItems hTI rfl ?_)
  show wpAny _ _ (Builtin.SmallTypes.ownedTupleIsFree (.ref z) >>= _) _ _ _
  refine wpAny_bind (wpAny_tupleHeld_zip hz hT fun h₁ hz₁ hs₁ => ?_)
  simp only [Bool.false_eq_true, if_false]
  refine wpAny_bind ?_
  rw [← Array.forIn_toList]
  simp only [List.forIn_cons, List.forIn_nil]
  refine wpAny_bind (wpAny_bind (wpAny_holding ?_))
  show wpAny _ _ (Builtin.SmallTypes.nextOf (.ref i1) >>= _) _ _ _
  refine wpAny_bind (RZ.nextOf_tuple_item (s := { s with heap := h₁ }) (h1.extBut hs₁.extBut D.i1z) (hl1.extBut hs₁.extBut D.l1z) hx fun h₂ h1₂ hs₂ => wpAny_pure ?_)
  refine wpAny_pure ?_
  refine wpAny_bind (wpAny_bind (wpAny_holding ?_))
  show wpAny _ _ (Builtin.SmallTypes.nextOf (.ref i2) >>= _) _ _ _
  refine wpAny_bind (RZ.nextOf_tuple_item (s := { s with heap := h₂ }) ((h2.extBut hs₁.extBut D.i2z).extBut hs₂.extBut D.i12.symm) ((hl2.extBut hs₁.extBut D.l2z).extBut hs₂.extBut D.l2i1) hy fun h₃ h2₃ hs₃ => wpAny_pure ?_)
  refine wpAny_pure (wpAny_pure ?_)
  show wpAny _ _ (newTuple [x, y] >>= _) _ _ _
  refine wpAny_bind (wpAny_newTuple ?_)
  have hsz : h₃.objs.size = s.heap.objs.size := by rw [hs₃.1, hs₂.1, hs₁.1]
  have hz₃ : IsZipHeld h₃ z TI TO T true := hs₃.extBut _ _ D.i2z.symm (hs₂.extBut _ _ D.i1z.symm hz₁)
  have hk : ∀ c o, c ≠ z → c ≠ i1 → c ≠ i2 → s.heap.get? c = some o → h₃.get? c = some o := fun c o c1 c2 c3 e => hs₃.extBut _ _ c3 (hs₂.extBut _ _ c2 (hs₁.extBut _ _ c1 e))
  have h1₃ : h₃.IsTupleIter i1 l1 (k1 + 1) := h1₂.extBut hs₃.extBut D.i12
  refine wpAny_pure ⟨_, rfl, ?_⟩
  show Q (.ref h₃.objs.size) _
  have hp : IsPair (h₃.push { cls := .type "tuple", data := .seq #[x, y] }) h₃.objs.size x y := Heap.get?_push_size _ rfl
  have hz4 : (h₃.push { cls := .type "tuple", data := .seq #[x, y] }).objs.size = h₃.objs.size + 1 := Heap.size_push ..
  rw [hsz] at hp hz4 ⊢
  exact hQ _ (Heap.get?_push_of_some _ hz₃) (h1₃.at fun o e => Heap.get?_push_of_some _ e) (h2₃.at fun o e => Heap.get?_push_of_some _ e) hp hz4 fun c o c1 c2 c3 e => Heap.get?_push_of_some _ (hk c o c1 c2 c3 e)

theorem zipT_next_end_held {z TI TO T i1 i2 l1 l2 : Addr} {f : Bool} {oT : Obj} {k1 k2 : Nat} {xs ys : Array Value} {Q : Fin → Shared → Prop} (hh : A.handled = none) (D : ZipApart z TI TO i1 i2 l1 l2)
    (hz : IsZipHeld s.heap z TI TO T f) (hT : s.heap.get? T = some oT) (hTI : IsPair s.heap TI (.ref i1) (.ref i2))
    (h1 : s.heap.IsTupleIter i1 l1 k1) (h2 : s.heap.IsTupleIter i2 l2 k2) (hl1 : s.heap.IsTuple l1 xs) (hl2 : s.heap.IsTuple l2 ys) (hend : xs[k1]? = none ∨ ys[k2]? = none)
    (hE : ∀ h' e, (∀ c o, c ≠ z → c ≠ i1 → c ≠ i2 → s.heap.get? c = some o → h'.get? c = some o) → (∃ o, h'.get? e = some o ∧ o.cls = .type "StopIteration") → E (.ref e) { s with heap := h' }) :
    wpAny (model prog w) A (Builtin.«zip.__next__» ⟨[.ref z], []⟩) Q E s := by
  show wpAny _ _ (field (.ref z) 2 >>= _) _ _ _
  refine wpAny_bind (wpAny_field hz rfl (x := .bool false) rfl ?_)
  show wpAny _ _ (field (.ref z) 3 >>= _) _ _ _
  refine wpAny_bind (wpAny_field hz rfl (x := .ref TI) rfl ?_)
  refine wpAny_bind (wpAny_seqItems hTI rfl ?_)
  show wpAny _ _ (Builtin.SmallTypes.ownedTupleIsFree (.ref z) >>= _) _ _ _
  refine wpAny_bind (wpAny_tupleHeld_zip hz hT fun h₁ hz₁ hs₁ => ?_)
  simp only [Bool.false_eq_true, if_false]
  refine wpAny_bind ?_
  rw [← Array.forIn_toList]
  simp only [List.forIn_cons, List.forIn_nil]
  refine wpAny_bind (wpAny_bind (wpAny_holding ?_))
  show wpAny _ _ (Builtin.SmallTypes.nextOf (.ref i1) >>= _) _ _ _
  cases hx : xs[k1]? with
  | none =>
    refine wpAny_bind (RZ.nextOf_tuple_end (s := { s with heap := h₁ }) hh (h1.extBut hs₁.extBut D.i1z) (hl1.extBut hs₁.extBut D.l1z) hx fun h₂ e hs₂ he => ?_)
    exact hE h₂ e (fun c o c1 c2 _ x => hs₂ _ _ c2 (hs₁.extBut _ _ c1 x)) he
  | some x =>
    have hy : ys[k2]? = none := by rcases hend with h | h; rw [hx] at h; cases h; exact h
    refine wpAny_bind (RZ.nextOf_tuple_item (s := { s with heap := h₁ }) (h1.extBut hs₁.extBut D.i1z) (hl1.extBut hs₁.extBut D.l1z) hx fun h₂ h1₂ hs₂ => wpAny_pure ?_)
    refine wpAny_pure ?_
    refine wpAny_bind (wpAny_bind (wpAny_holding ?_))
    show wpAny _ _ (Builtin.SmallTypes.nextOf (.ref i2) >>= _) _ _ _
    refine wpAny_bind (RZ.nextOf_tuple_end (s := { s with heap := h₂ }) hh ((h2.extBut hs₁.extBut D.i2z).extBut hs₂.extBut D.i12.symm) ((hl2.extBut hs₁.extBut D.l2z).extBut hs₂.extBut D.l2i1) hy fun h₃ e hs₃ he => ?_)
    exact hE h₃ e (fun c o c1 c2 c3 x => hs₃ _ _ c3 (hs₂.extBut _ _ c2 (hs₁.extBut _ _ c1 x))) he

theorem pyNext_zipT_item_held {z TI TO T i1 i2 l1 l2 : Addr} {f : Bool} {oT : Obj} {k1 k2 : Nat} {xs ys : Array Value} {x y : Value} {Q : Option Value → Shared → Prop} (D : ZipApart z TI TO i1 i2 l1 l2)
    (hz : IsZipHeld s.heap z TI TO T f) (hT : s.heap.get? T = some oT) (hTI : IsPair s.heap TI (.ref i1) (.ref i2))
    (h1 : s.heap.IsTupleIter i1 l1 k1) (h2 : s.heap.IsTupleIter i2 l2 k2) (hl1 : s.heap.IsTuple l1 xs) (hl2 : s.heap.IsTuple l2 ys) (hx : xs[k1]? = some x) (hy : ys[k2]? = some y)
    (hQ : ∀ h', IsZipHeld h' z TI TO T true → h'.IsTupleIter i1 l1 (k1 + 1) → h'.IsTupleIter i2 l2 (k2 + 1) → IsPair h' s.heap.objs.size x y → h'.objs.size = s.heap.objs.size + 1 →
      (∀ c o, c ≠ z → c ≠ i1 → c ≠ i2 → s.heap.get? c = some o → h'.get? c = some o) → Q (some (.ref s.heap.objs.size)) { s with heap := h' }) :
    wpAny (model prog w) A (pyNext (.ref z)) Q E s := by
  have hTy : s.TypeIs (.ref z) "zip" := ⟨_, hz, rfl⟩
  unfold pyNext
  exact wpAny_bind (wpAny_attempt (wpAny_callSpecial?_slot (name := Str.ofString "__next__") hTy F.slot_zip_next
    (wpAny_call_entry F.slot_zip_next hTy F.entry_zip_next
      (zipT_next_item_held D hz hT hTI h1 h2 hl1 hl2 hx hy fun h' a1 a3 a4 a5 a6 a7 => wpAny_pure (hQ h' a1 a3 a4 a5 a6 a7)) (F.args_zip_next_1 _))))
theorem pyNext_zipT_end_held {z TI TO T i1 i2 l1 l2 : Addr} {f : Bool} {oT : Obj} {k1 k2 : Nat} {xs ys : Array Value} {Q : Option Value → Shared → Prop} (hh : A.handled = none) (D : ZipApart z TI TO i1 i2 l1 l2)
    (hz : IsZipHeld s.heap z TI TO T f) (hT : s.heap.get? T = some oT) (hTI : IsPair s.heap TI (.ref i1) (.ref i2))
    (h1 : s.heap.IsTupleIter i1 l1 k1) (h2 : s.heap.IsTupleIter i2 l2 k2) (hl1 : s.heap.IsTuple l1 xs) (hl2 : s.heap.IsTuple l2 ys) (hend : xs[k1]? = none ∨ ys[k2]? = none)
    (hQ : ∀ h', (∀ c o, c ≠ z → c ≠ i1 → c ≠ i2 → s.heap.get? c = some o → h'.get? c = some o) → Q none { s with heap := h' }) : wpAny (model prog w) A (pyNext (.ref z)) Q E s := by
  have hTy : s.TypeIs (.ref z) "zip" := ⟨_, hz, rfl⟩
  unfold pyNext
  refine wpAny_bind (wpAny_attempt (wpAny_callSpecial?_slot (name := Str.ofString "__next__") hTy F.slot_zip_next
    (wpAny_call_entry F.slot_zip_next hTy F.entry_zip_next (zipT_next_end_held hh D hz hT hTI h1 h2 hl1 hl2 hend fun h' e hk he => ?_) (F.args_zip_next_1 _))))
  obtain ⟨o, ho, hc⟩ := he
  refine wpAny_bind (wpAny_isInstance (T := "StopIteration") (b := true) ⟨o, ho, hc⟩ isSubtype_stop ?_)
  exact wpAny_pure (hQ _ hk)

end
end Zp

set_option maxHeartbeats 4000000
namespace Zp
open PySem
open PySem.Sem (wp)
/-! ### list(zip(a, b)), tuple(zip(a, b)) of tuples: the loop -/
/-- the zip z stands before turn i -/
structure ZS (h : Heap) (z TI TO i1 i2 l1 l2 S : Addr) (xs ys : Array Value) (i : Nat) : Prop where
  ti : IsPair h TI (.ref i1) (.ref i2)
  h1 : h.IsTupleIter i1 l1 i
  h2 : h.IsTupleIter i2 l2 i
  t1 : h.IsTuple l1 xs
  t2 : h.IsTuple l2 ys
  st : (IsZip h z TI TO .none ∧ ∃ a b, IsPair h TO a b) ∨ ∃ T f, T ≠ z ∧ T ≠ i1 ∧ T ≠ i2 ∧ T ≠ S ∧ IsZipHeld h z TI TO T f ∧ ∃ o, h.get? T = some o
/-- the cells that the loop writes -/
def Out (z TO i1 i2 S c : Addr) : Prop := c ≠ z ∧ c ≠ TO ∧ c ≠ i1 ∧ c ≠ i2 ∧ c ≠ S
structure ZA (z TI TO i1 i2 l1 l2 S : Addr) : Prop where
  D : ZipApart z TI TO i1 i2 l1 l2
  TI : Out z TO i1 i2 S TI
  l1 : Out z TO i1 i2 S l1
  l2 : Out z TO i1 i2 S l2
  Sz : S ≠ z
  STO : S ≠ TO
  Si1 : S ≠ i1
  Si2 : S ≠ i2
theorem ZS.keep {h h' : Heap} {z TI TO i1 i2 l1 l2 S : Addr} {xs ys : Array Value} {i : Nat} (Z : ZS h z TI TO i1 i2 l1 l2 S xs ys i) (k : ∀ c o, c ≠ S → h.get? c = some o → h'.get? c = some o) (A : ZA z TI TO i1 i2 l1 l2 S) : ZS h' z TI TO i1 i2 l1 l2 S xs ys i := by
  obtain ⟨a, b, c, d, e, f⟩ := Z
  refine ⟨k _ _ A.TI.2.2.2.2 a, b.at fun o q => k _ o A.Si1.symm q, c.at fun o q => k _ o A.Si2.symm q, ?_, ?_, ?_⟩
  · obtain ⟨o, q, r⟩ := d; exact ⟨o, k _ o A.l1.2.2.2.2 q, r⟩
  · obtain ⟨o, q, r⟩ := e; exact ⟨o, k _ o A.l2.2.2.2.2 q, r⟩
  · rcases f with ⟨f1, x, y, f2⟩ | ⟨T, f, n1, n2, n3, n4, f1, o, f2⟩
    · exact .inl ⟨k _ _ A.Sz.symm f1, x, y, k _ _ A.STO.symm f2⟩
    · exact .inr ⟨T, f, n1, n2, n3, n4, k _ _ A.Sz.symm f1, o, k _ o n4 f2⟩
section
variable {prog : Program} {w : World} {A : Around} {E : Value → Shared → Prop} {s : Shared}
/-- one turn -/
theorem next_item {z TI TO i1 i2 l1 l2 S : Addr} {xs ys : Array Value} {i : Nat} {x y : Value} {Q : Option Value → Shared → Prop} (B : ZA z TI TO i1 i2 l1 l2 S) (Z : ZS s.heap z TI TO i1 i2 l1 l2 S xs ys i) (hS : ∃ o, s.heap.get? S = some o) (hx : xs[i]? = some x) (hy : ys[i]? = some y)
    (hQ : ∀ h', ZS h' z TI TO i1 i2 l1 l2 S xs ys (i + 1) → IsPair h' s.heap.objs.size x y → h'.objs.size = s.heap.objs.size + 1 → (∀ c o, c ≠ z → c ≠ TO → c ≠ i1 → c ≠ i2 → s.heap.get? c = some o → h'.get? c = some o) → Q (some (.ref s.heap.objs.size)) { s with heap := h' }) :
    wpAny (model prog w) A (pyNext (.ref z)) Q E s := by
  obtain ⟨a, b, c, d, e, f⟩ := Z
  have keepT : ∀ {h' : Heap} {l : Addr} {zs : Array Value}, Out z TO i1 i2 S l → (∀ c o, c ≠ z → c ≠ TO → c ≠ i1 → c ≠ i2 → s.heap.get? c = some o → h'.get? c = some o) → s.heap.IsTuple l zs → h'.IsTuple l zs := fun n k ⟨o, q, r⟩ => ⟨o, k _ o n.1 n.2.1 n.2.2.1 n.2.2.2.1 q, r⟩
  rcases f with ⟨f1, u, v, f2⟩ | ⟨T, f, n1, n2, n3, n4, f1, o, f2⟩
  · refine RZ.pyNext_zipT_item B.D f1 a f2 b c d e hx hy fun h' a1 a2 a3 a4 a5 a6 a7 => ?_
    have lt : ∀ {c o}, s.heap.get? c = some o → s.heap.objs.size ≠ c := fun q => Nat.ne_of_gt (Heap.lt_size q)
    obtain ⟨o1, q1, _⟩ := id b
    obtain ⟨o2, q2, _⟩ := id c
    obtain ⟨oS, qS⟩ := hS
    exact hQ h' ⟨a7 _ _ B.TI.1 B.TI.2.1 B.TI.2.2.1 B.TI.2.2.2.1 a, a3, a4, keepT B.l1 a7 d, keepT B.l2 a7 e, .inr ⟨s.heap.objs.size, false, lt f1, lt q1, lt q2, lt qS, a1, _, a5⟩⟩ a5 a6 a7
  · refine pyNext_zipT_item_held B.D f1 f2 a b c d e hx hy fun h' a1 a3 a4 a5 a6 a7 => ?_
    have a8 : ∀ c o, c ≠ z → c ≠ TO → c ≠ i1 → c ≠ i2 → s.heap.get? c = some o → h'.get? c = some o := fun c o h1 _ h3 h4 q => a7 c o h1 h3 h4 q
    exact hQ h' ⟨a8 _ _ B.TI.1 B.TI.2.1 B.TI.2.2.1 B.TI.2.2.2.1 a, a3, a4, keepT B.l1 a8 d, keepT B.l2 a8 e, .inr ⟨T, true, n1, n2, n3, n4, a1, _, a7 _ _ n1 n2 n3 f2⟩⟩ a5 a6 a8
theorem next_end {z TI TO i1 i2 l1 l2 S : Addr} {xs ys : Array Value} {i : Nat} {Q : Option Value → Shared → Prop} (hh : A.handled = none) (B : ZA z TI TO i1 i2 l1 l2 S) (Z : ZS s.heap z TI TO i1 i2 l1 l2 S xs ys i) (hend : xs[i]? = none ∨ ys[i]? = none)
    (hQ : ∀ h', (∀ c o, c ≠ z → c ≠ TO → c ≠ i1 → c ≠ i2 → s.heap.get? c = some o → h'.get? c = some o) → Q none { s with heap := h' }) :
    wpAny (model prog w) A (pyNext (.ref z)) Q E s := by
  obtain ⟨a, b, c, d, e, f⟩ := Z
  rcases f with ⟨f1, u, v, f2⟩ | ⟨T, f, n1, n2, n3, n4, f1, o, f2⟩
  · exact RZ.pyNext_zipT_end hh B.D f1 a f2 b c d e hend hQ
  · exact pyNext_zipT_end_held hh B.D f1 f2 a b c d e hend fun h' k => hQ h' fun c o h1 _ h3 h4 q => k c o h1 h3 h4 q
/-- the pairs so far -/
structure Got (N0 : Nat) (h : Heap) (xs ys acc : Array Value) (i : Nat) : Prop where
  sz : acc.size = i
  at_ : ∀ j, j < i → ∃ (a : Addr) (x y : Value), acc[j]? = some (Value.ref a) ∧ N0 ≤ a ∧ IsPair h a x y ∧ xs[j]? = some x ∧ ys[j]? = some y
  inj : ∀ (j k : Nat) (a : Addr), acc[j]? = some (Value.ref a) → acc[k]? = some (Value.ref a) → j = k
theorem Got.nil {N0 : Nat} {h : Heap} {xs ys : Array Value} : Got N0 h xs ys #[] 0 := ⟨rfl, fun j q => absurd q (Nat.not_lt_zero _), fun j k a q => by simp at q⟩
theorem Got.push {N0 : Nat} {h h' : Heap} {xs ys acc : Array Value} {i : Nat} {x y : Value} {a : Addr} (g : Got N0 h xs ys acc i) (k : ∀ c o, N0 ≤ c → h.get? c = some o → h'.get? c = some o) (ha : N0 ≤ a) (hz : h.objs.size ≤ a) (hp : IsPair h' a x y) (hx : xs[i]? = some x) (hy : ys[i]? = some y) : Got N0 h' xs ys (acc.push (Value.ref a)) (i + 1) := by
  obtain ⟨g1, g2, g3⟩ := g
  have old : ∀ j (b : Addr), acc[j]? = some (Value.ref b) → b ≠ a := fun j b q => by
    have hj : j < i := by rw [← g1]; exact (Array.getElem?_eq_some_iff.mp q).1
    obtain ⟨c, u, v, q1, _, q2, _⟩ := g2 j hj
    rw [q] at q1
    cases q1
    exact Nat.ne_of_lt (Nat.lt_of_lt_of_le (Heap.lt_size q2) hz)
  refine ⟨by rw [Array.size_push, g1], fun j hj => ?_, fun j l b q1 q2 => ?_⟩
  · by_cases e : j = i
    · subst e
      exact ⟨a, x, y, by rw [← g1, Array.getElem?_push_size], ha, hp, hx, hy⟩
    · obtain ⟨c, u, v, q1, q2, q3, q4⟩ := g2 j (by omega)
      exact ⟨c, u, v, by rw [Array.getElem?_push, if_neg (by rw [g1]; exact e)]; exact q1, q2, k _ _ q2 q3, q4⟩
  · rw [Array.getElem?_push] at q1 q2
    split at q1 <;> split at q2
    · omega
    · cases q1; exact absurd rfl (old _ _ q2)
    · cases q2; exact absurd rfl (old _ _ q1)
    · exact g3 j l b q1 q2
theorem loopZ {R : Result → Shared → Prop} (hh : A.handled = none) {z TI TO i1 i2 l1 l2 S : Addr} {xs ys : Array Value} (B : ZA z TI TO i1 i2 l1 l2 S) (res : Value) {N0 n : Nat} (hn : n = min xs.size ys.size) (hz : n ≤ sizeLine) (b1 : z < N0) (b2 : TO < N0) (b3 : i1 < N0) (b4 : i2 < N0) (b5 : S < N0) :
    ∀ (k i : Nat) (s : Shared) (acc : Array Value) (c : Nat), n - i = k → i ≤ n → ZS s.heap z TI TO i1 i2 l1 l2 S xs ys i → N0 ≤ s.heap.objs.size → s.heap.get? S = some { cls := .type "list", dict := none, data := .seq acc c, slots := #[] } → Got N0 s.heap xs ys acc i →
    (∀ h' acc' c', (∀ b o, Out z TO i1 i2 S b → s.heap.get? b = some o → h'.get? b = some o) → h'.get? S = some { cls := .type "list", dict := none, data := .seq acc' c', slots := #[] } → Got N0 h' xs ys acc' n → R (.ok (.ret res)) { s with heap := h' }) →
    codeAny (model prog w) A (.builtin "list.extend.loop" ⟨[.ref S, .ref z, res], []⟩) R s := by
  have out : ∀ c : Nat, N0 ≤ c → Out z TO i1 i2 S c := fun c hc => ⟨Nat.ne_of_gt (Nat.lt_of_lt_of_le b1 hc), Nat.ne_of_gt (Nat.lt_of_lt_of_le b2 hc), Nat.ne_of_gt (Nat.lt_of_lt_of_le b3 hc), Nat.ne_of_gt (Nat.lt_of_lt_of_le b4 hc), Nat.ne_of_gt (Nat.lt_of_lt_of_le b5 hc)⟩
  intro k
  induction k with
  | zero =>
    intro i s acc c hk hi Z hN hS hg hR
    have hin : i = n := by omega
    subst hin
    have hend : xs[i]? = none ∨ ys[i]? = none := by
      rcases Nat.le_total xs.size ys.size with q | q
      · exact .inl (Array.getElem?_eq_none (by omega))
      · exact .inr (Array.getElem?_eq_none (by omega))
    refine codeAny_builtin F.entry_extend_loop ?_
    rw [Around.under_plainId F.plain_extend_loop _]
    show wpAny _ A.in1 (pyNext (.ref z) >>= _) _ _ s
    refine wpAny_bind (next_end (A := A.in1) hh B Z hend fun h' kp => ?_)
    refine wpAny_pure (hR h' acc c (fun b o q e => kp b o q.1 q.2.1 q.2.2.1 q.2.2.2.1 e) (kp S _ B.Sz B.STO B.Si1 B.Si2 hS) ⟨hg.sz, fun j hj => ?_, hg.inj⟩)
    obtain ⟨a, x, y, q1, q2, q3, q4⟩ := hg.at_ j hj
    have := out a q2
    exact ⟨a, x, y, q1, q2, kp _ _ this.1 this.2.1 this.2.2.1 this.2.2.2.1 q3, q4⟩
  | succ k ih =>
    intro i s acc c hk hi Z hN hS hg hR
    have hlt : i < n := by omega
    have hx : xs[i]? = some xs[i] := Array.getElem?_eq_getElem (by omega)
    have hy : ys[i]? = some ys[i] := Array.getElem?_eq_getElem (by omega)
    refine codeAny_builtin F.entry_extend_loop ?_
    rw [Around.under_plainId F.plain_extend_loop _]
    show wpAny _ A.in1 (pyNext (.ref z) >>= _) _ _ s
    refine wpAny_bind (next_item (A := A.in1) B Z ⟨_, hS⟩ hx hy fun h' Z' hp hs kp => ?_)
    have hS' := kp S _ B.Sz B.STO B.Si1 B.Si2 hS
    show wpAny _ A.in1 (updateSeq S (·.push (.ref s.heap.objs.size)) >>= _) _ _ _
    refine wpAny_bind ?_
    have oth : ∀ b o, b ≠ S → h'.get? b = some o → (h'.update S (Obj.mapSeq (·.push (.ref s.heap.objs.size)))).get? b = some o := fun b o hb e => (Heap.get?_update_other _ _ (Ne.symm hb)).trans e
    have hsz : (h'.update S (Obj.mapSeq (·.push (.ref s.heap.objs.size)))).objs.size = s.heap.objs.size + 1 := by rw [Heap.size_update, hs]
    refine wpAny_updateSeq (s := { s with heap := h' }) hS' rfl (wpAny_pure ⟨plainId_quiet F.plain_extend_loop _, ih (i + 1) _ (acc.push (.ref s.heap.objs.size)) _ (by omega) hlt (Z'.keep (fun c o hc e => oth c o hc e) B) ?_ (Heap.get?_update_self _ hS' rfl) ?_ fun h'' acc' c' kp' hS'' hg' => ?_⟩)
      (by rw [hg.sz]; omega) (by show (acc.push (.ref s.heap.objs.size)).size ≤ sizeLine + 1; rw [Array.size_push, hg.sz]; omega)
    · show N0 ≤ (h'.update S _).objs.size
      rw [hsz]; exact Nat.le_succ_of_le hN
    · refine hg.push (fun c o hc e => ?_) hN (Nat.le_refl _) (oth _ _ (Nat.ne_of_gt (Nat.lt_of_lt_of_le b5 hN)) hp) hx hy
      have := out c hc
      exact oth _ _ this.2.2.2.2 (kp _ _ this.1 this.2.1 this.2.2.1 this.2.2.2.1 e)
    · exact hR h'' acc' c' (fun b o q e => kp' b o q (oth _ _ q.2.2.2.2 (kp b o q.1 q.2.1 q.2.2.1 q.2.2.2.1 e))) hS'' hg'
end
end Zp

set_option maxHeartbeats 4000000
namespace Zp
open PySem
open PySem.Sem (wp)
theorem zip_no_len : typeLookup (.type "zip") "__len__" = pure none := by rw [typeLookup_type, builtinLookup_eq_fast]; kernel_rfl
theorem zip_no_hint : typeLookup (.type "zip") "__length_hint__" = pure none := by rw [typeLookup_type, builtinLookup_eq_fast]; kernel_rfl
section
variable {prog : Program} {w : World} {A : Around} {E : Value → Shared → Prop} {s : Shared}
/-- the zip as it comes: its cells; old: what stood ahead of it -/
structure Zp0 (s : Shared) (N : Nat) (l1 l2 : Addr) (xs ys : Array Value) : Prop where
  hz : IsZip s.heap (N + 4) (N + 2) (N + 3) .none
  ti : IsPair s.heap (N + 2) (.ref N) (.ref (N + 1))
  to : IsPair s.heap (N + 3) .none .none
  h1 : s.heap.IsTupleIter N l1 0
  h2 : s.heap.IsTupleIter (N + 1) l2 0
  t1 : s.heap.IsTuple l1 xs
  t2 : s.heap.IsTuple l2 ys
  b1 : l1 < N
  b2 : l2 < N
theorem Zp0.keep {s s' : Shared} {N : Nat} {l1 l2 : Addr} {xs ys : Array Value} (Z : Zp0 s N l1 l2 xs ys) (k : ∀ b o, s.heap.get? b = some o → s'.heap.get? b = some o) : Zp0 s' N l1 l2 xs ys := by
  obtain ⟨a, b, c, d, e, f, g, h, i⟩ := Z
  obtain ⟨o1, q1, r1⟩ := f
  obtain ⟨o2, q2, r2⟩ := g
  exact ⟨k _ _ a, k _ _ b, k _ _ c, d.at fun o q => k _ o q, e.at fun o q => k _ o q, ⟨o1, k _ _ q1, r1⟩, ⟨o2, k _ _ q2, r2⟩, h, i⟩
theorem za {N : Nat} {l1 l2 S : Nat} (b1 : l1 < N) (b2 : l2 < N) (hS : N + 5 ≤ S) : ZA (N + 4) (N + 2) (N + 3) N (N + 1) l1 l2 S := by
  have ne : ∀ {a b : Nat}, a < b → (a : Addr) ≠ b := fun h => Nat.ne_of_lt h
  have ne' : ∀ {a b : Nat}, b < a → (a : Addr) ≠ b := fun h => Nat.ne_of_gt h
  exact ⟨PySem.W.ktu_apart N l1 l2 b1 b2, ⟨ne (by omega), ne (by omega), ne' (by omega), ne' (by omega), ne (by omega)⟩, ⟨ne (by omega), ne (by omega), ne (by omega), ne (by omega), ne (by omega)⟩, ⟨ne (by omega), ne (by omega), ne (by omega), ne (by omega), ne (by omega)⟩, ne' (by omega), ne' (by omega), ne' (by omega), ne' (by omega)⟩
theorem extend_zip {R : Result → Shared → Prop} {N : Nat} {l1 l2 : Addr} {xs ys : Array Value} (hh : A.handled = none) (Z : Zp0 s N l1 l2 xs ys) (hx : xs.size ≤ sizeLine) (S : Nat) (hNS : N + 5 ≤ S) (res : Value) (c₀ : Nat) (hS : s.heap.get? S = some { cls := .type "list", data := .seq #[] c₀ })
    (hR : ∀ h' acc' c', (∀ b o, b < N → s.heap.get? b = some o → h'.get? b = some o) → h'.get? S = some { cls := .type "list", dict := none, data := .seq acc' c', slots := #[] } →
      Got (S + 1) h' xs ys acc' (min xs.size ys.size) → R (.ok (.ret res)) { s with heap := h' }) :
    wpAny (model prog w) A.in1 (Builtin.List.listExtendWith (.ref S) (.ref (N + 4)) res)
      (fun fin s' => match fin with | .done f => R (.ok f) s' | .again c' => c'.quiet = true ∧ codeAny (model prog w) A c' R s') (fun e s' => R (.error e) s') s := by
  have hSlt : S < s.heap.objs.size := Heap.lt_size hS
  have hT : ∀ {h : Heap}, IsZip h (N + 4) (N + 2) (N + 3) .none → (({ s with heap := h } : Shared)).TypeIs (.ref (N + 4)) "zip" := fun q => ⟨_, q, rfl⟩
  unfold Builtin.List.listExtendWith
  refine wpAny_bind (wpAny_typeOf (T := "zip") ⟨_, Z.hz, rfl⟩ ?_)
  have hne : ¬ (S : Addr) = N + 4 := Nat.ne_of_gt (show N + 4 < S by omega)
  have h1 : Builtin.List.listSameRef (.ref S) (.ref (N + 4)) = false := by
    show ((S : Addr) == (N + 4 : Nat)) = false
    exact beq_false_of_ne hne
  have h2 : (Value.type "zip" == Value.type "list") = false := by decide
  have h3 : (Value.type "zip" == Value.type "tuple") = false := by decide
  simp only [h1, h2, h3, Bool.or_false, Bool.false_eq_true, if_false]
  refine wpAny_bind (wpAny_pyIter_zip Z.hz ?_)
  refine wpAny_bind (wpAny_holding ?_)
  unfold Builtin.List.listLengthHint
  refine wpAny_bind (wpAny_specialOf (T := "zip") ⟨_, Z.hz, rfl⟩ zip_no_len ?_)
  show wpAny _ A.in1 (specialOf (Value.ref (N + 4)) (Str.ofString "__length_hint__") >>= _) _ _ _
  refine wpAny_bind (wpAny_specialOf (T := "zip") ⟨_, Z.hz, rfl⟩ zip_no_hint ?_)
  refine wpAny_pure ?_
  show wpAny _ A.in1 (rule "list.extend.makes-room" >>= fun _ => Builtin.List.listTouch (.ref S) >>= fun _ =>
    again (.builtin "list.extend.loop" ⟨[.ref S, .ref (N + 4), res], []⟩)) _ _ _
  refine wpAny_bind (wpAny_rule ?_)
  refine wpAny_bind ?_
  show wpAny _ A.in1 (updateSeq S (·.push .none) >>= fun _ => updateSeq S (·.pop)) _ _ _
  refine wpAny_bind (wpAny_updateSeq hS rfl ?_)
  have hS₂ := Heap.get?_update_self (Obj.mapSeq (·.push Value.none)) hS rfl
  refine wpAny_updateSeq (hz := by seq_fits) hS₂ rfl ?_
  have hS₃ := Heap.get?_update_self (Obj.mapSeq (·.pop)) hS₂ rfl
  have oth : ∀ b o, b ≠ S → s.heap.get? b = some o → ((s.heap.update S (Obj.mapSeq (·.push Value.none))).update S (Obj.mapSeq (·.pop))).get? b = some o :=
    fun b o hb e => (Heap.get?_update_other _ _ (Ne.symm hb)).trans ((Heap.get?_update_other _ _ (Ne.symm hb)).trans e)
  have B := za (S := S) Z.b1 Z.b2 hNS
  have Z1 : ZS s.heap (N + 4) (N + 2) (N + 3) N (N + 1) l1 l2 S xs ys 0 := ⟨Z.ti, Z.h1, Z.h2, Z.t1, Z.t2, .inl ⟨Z.hz, _, _, Z.to⟩⟩
  refine wpAny_pure ⟨plainId_quiet F.plain_extend_loop _, loopZ hh B res (N0 := S + 1) (n := min xs.size ys.size) rfl (Nat.le_trans (Nat.min_le_left _ _) hx) (show N + 4 < S + 1 by omega) (show N + 3 < S + 1 by omega) (show N < S + 1 by omega) (show N + 1 < S + 1 by omega) (Nat.lt_succ_self S) _ 0 _ #[] _ rfl (Nat.zero_le _) (Z1.keep (fun c o hc e => oth c o hc e) B) ?_ hS₃ Got.nil fun h' acc' c' hk hS' hg => ?_⟩
  · show S + 1 ≤ ((s.heap.update S _).update S _).objs.size
    rw [Heap.size_update, Heap.size_update]; exact hSlt
  · refine hR h' acc' c' (fun b o hb e => hk b o ⟨Nat.ne_of_lt (show b < N + 4 by omega), Nat.ne_of_lt (show b < N + 3 by omega), Nat.ne_of_lt hb, Nat.ne_of_lt (show b < N + 1 by omega), Nat.ne_of_lt (show b < S by omega)⟩ (oth b o (Nat.ne_of_lt (show b < S by omega)) e)) hS' hg
/-- list(z) -/
theorem call_list_zip {N : Nat} {l1 l2 : Addr} {xs ys : Array Value} {Q : Value → Shared → Prop} (hh : A.handled = none) (Z : Zp0 s N l1 l2 xs ys) (hx : xs.size ≤ sizeLine)
    (hQ : ∀ h' acc c, (∀ b o, b < N → s.heap.get? b = some o → h'.get? b = some o) → h'.get? s.heap.objs.size = some { cls := .type "list", dict := none, data := .seq acc c, slots := #[] } → Got (s.heap.objs.size + 1) h' xs ys acc (min xs.size ys.size) → Q (.ref s.heap.objs.size) { s with heap := h' }) :
    wpAny (model prog w) A (call (.type "list") [.ref (N + 4)]) Q E s := by
  have lt : N + 4 < s.heap.objs.size := Heap.lt_size Z.hz
  refine callType_codes (Q₁ := fun obj s₁ => obj = .ref s.heap.objs.size ∧ s₁ = { s with heap := s.heap.push { cls := .type "list", data := .seq #[] } }) F.called_list (F.typeCall_list_1 _) F.entry_list_init
    (code_list_new _ ⟨rfl, rfl⟩) fun obj s₁ h₁ => ?_
  obtain ⟨rfl, rfl⟩ := h₁
  have hS : (s.heap.push { cls := .type "list", data := .seq #[] }).get? s.heap.objs.size = some { cls := .type "list", data := .seq #[] } := Heap.get?_push_size _ rfl
  refine ⟨⟨_, hS, rfl⟩, F.args_list_init_2 _ _, ?_⟩
  show wpAny _ _ (do let old ← Builtin.List.listItems (.ref s.heap.objs.size); Builtin.List.listUpdate (.ref s.heap.objs.size) (fun _ => #[]); letGo old.toList.reverse; Builtin.List.listExtendWith (.ref s.heap.objs.size) (.ref (N + 4)) .none) _ _ _
  refine wpAny_bind ?_
  unfold Builtin.List.listItems
  refine wpAny_bind (wpAny_seqItems hS rfl (wpAny_pure ?_))
  show wpAny _ _ (updateSeq s.heap.objs.size (fun _ => #[]) >>= fun _ => letGo (#[] : Array Value).toList.reverse >>= fun _ => Builtin.List.listExtendWith (.ref s.heap.objs.size) (.ref (N + 4)) .none) _ _ _
  refine wpAny_bind (wpAny_updateSeq hS rfl ?_)
  have hS₂ := Heap.get?_update_self (Obj.mapSeq (fun _ => (#[] : Array Value))) hS rfl
  have oth : ∀ b o, s.heap.get? b = some o → ((s.heap.push { cls := .type "list", data := .seq #[] }).update s.heap.objs.size (Obj.mapSeq (fun _ => (#[] : Array Value)))).get? b = some o :=
    fun b o e => (Heap.get?_update_other _ _ (Nat.ne_of_gt (Heap.lt_size e))).trans (Heap.get?_push_of_some _ e)
  refine wpAny_bind (wpAny_letGo ?_)
  refine extend_zip (A := A.in1) hh (Z.keep oth) hx s.heap.objs.size lt .none _ hS₂ fun h' acc' c' hk hS' hg => ?_
  exact ⟨rfl, hQ h' acc' c' (fun b o hb e => hk b o hb (oth b o e)) hS' hg⟩
theorem collect_zip {N : Nat} {l1 l2 : Addr} {xs ys : Array Value} {Q : List Value → Shared → Prop} (hh : A.handled = none) (Z : Zp0 s N l1 l2 xs ys) (hx : xs.size ≤ sizeLine)
    (hQ : ∀ h' acc, (∀ b o, b < N → s.heap.get? b = some o → h'.get? b = some o) → Got (s.heap.objs.size + 1) h' xs ys acc (min xs.size ys.size) → Q acc.toList { s with heap := h' }) :
    wpAny (model prog w) A (collect (.ref (N + 4))) Q E s := by
  have lt : N + 4 < s.heap.objs.size := Heap.lt_size Z.hz
  unfold collect
  refine wpAny_bind (wpAny_runValue (codeAny_builtin F.entry_proto_collect ?_))
  rw [Around.under_plainId F.plain_proto_collect _]
  show wpAny _ A.in1 (newList [] >>= fun l => again (.builtin "list.__iadd__" ⟨[l, .ref (N + 4)], []⟩)) _ _ s
  refine wpAny_bind (wpAny_newObj_type ?_)
  refine wpAny_pure ⟨plainId_quiet F.plain_list_iadd _, codeAny_builtin F.entry_list_iadd ?_⟩
  rw [Around.under_plainId F.plain_list_iadd _]
  show wpAny _ A.in1 (Builtin.List.listExtendWith (.ref s.heap.objs.size) (.ref (N + 4)) (.ref s.heap.objs.size)) _ _ _
  have hS : (s.heap.push { cls := .type "list", data := .seq ([] : List Value).toArray }).get? s.heap.objs.size = some { cls := .type "list", data := .seq #[] 0 } := Heap.get?_push_size _ rfl
  refine wpAny_mono (extend_zip (A := A) (R := fun rr s' => rr = .ok (.ret (.ref s.heap.objs.size)) ∧ ∃ (h' : Heap) (acc : Array Value) (c' : Nat), s' = { s with heap := h' } ∧
      (∀ b o, b < N → s.heap.get? b = some o → h'.get? b = some o) ∧ h'.get? s.heap.objs.size = some { cls := .type "list", dict := none, data := .seq acc c', slots := #[] } ∧ Got (s.heap.objs.size + 1) h' xs ys acc (min xs.size ys.size))
    (s := { s with heap := s.heap.push { cls := .type "list", data := .seq ([] : List Value).toArray } }) hh (Z.keep fun b o e => Heap.get?_push_of_some _ e) hx s.heap.objs.size lt _ 0 hS
    (fun h' acc c' hk e hi => ⟨rfl, h', acc, c', rfl, fun b o hb q => hk b o hb (Heap.get?_push_of_some _ q), e, hi⟩)) (fun fin s' h => ?_) (fun e s' h => ?_)
  · cases fin with
    | done f =>
      obtain ⟨e, h', acc, c', rfl, hk, hS', hi⟩ := h
      cases e
      show wpAny _ A (load s.heap.objs.size >>= _) _ _ _
      exact wpAny_bind (wpAny_load hS' (wpAny_pure (hQ h' acc hk hi)))
    | again c' =>
      refine ⟨h.1, codeAny_mono h.2 fun rr s'' hr' => ?_⟩
      obtain ⟨rfl, h', acc, c', rfl, hk, hS', hi⟩ := hr'
      show wpAny _ A (load s.heap.objs.size >>= _) _ _ _
      exact wpAny_bind (wpAny_load hS' (wpAny_pure (hQ h' acc hk hi)))
  · exact absurd h.1 (by simp)
theorem code_tuple_new_zip {N : Nat} {l1 l2 : Addr} {xs ys : Array Value} {Q₁ : Value → Shared → Prop} (hh : A.handled = none) (Z : Zp0 s N l1 l2 xs ys) (hx : xs.size ≤ sizeLine)
    (h : ∀ h' acc, (∀ b o, b < N → s.heap.get? b = some o → h'.get? b = some o) → Got (s.heap.objs.size + 1) h' xs ys acc (min xs.size ys.size) → Q₁ (.ref h'.objs.size) { s with heap := h'.push { cls := .type "tuple", data := .seq acc } }) :
    codeAny (model prog w) A (.call (.builtin "tuple.__new__") ⟨[.type "tuple", .ref (N + 4)], []⟩) (wants Q₁ E) s := by
  refine codeAny_of_tree ?_
  show wpAny _ A.in1 (do checkBuiltinCall "tuple.__new__" ⟨[.type "tuple", .ref (N + 4)], []⟩; again (.builtin "tuple.__new__" ⟨[.type "tuple", .ref (N + 4)], []⟩)) _ _ s
  refine wpAny_bind (wpAny_of_eq (F.newCall_tuple_1 _) (wpAny_pure ⟨plainId_quiet F.plain_tuple_new _, codeAny_builtin F.entry_tuple_new ?_⟩))
  rw [Around.under_plainId F.plain_tuple_new _]
  have hsub := sub_tuple_self
  have hinit := init_tuple_lookup
  have hmh := madeHere_tuple
  have hTI : s.TypeIs (.ref (N + 4)) "zip" := ⟨_, Z.hz, rfl⟩
  have hh1 : A.in1.handled = none := hh
  wp_walk using wpAny_typeOf hTI, collect_zip (A := A.in1) hh1 Z hx
  intro h' acc hk hacc
  show wpAny _ _ (Builtin.Tuple.tupleExact acc.toList.toArray >>= fun v => ret v) _ _ _
  unfold Builtin.Tuple.tupleExact
  refine wpAny_bind (wpAny_newObj_type ?_ (by show acc.toList.toArray.size ≤ sizeLine; simp only [Array.toArray_toList]; rw [hacc.sz]; exact Nat.le_trans (Nat.min_le_left _ _) hx))
  refine wpAny_pure ?_
  have e : acc.toList.toArray = acc := by simp
  rw [e]
  exact h h' acc hk hacc
/-- tuple(z) -/
theorem call_tuple_zip {N : Nat} {l1 l2 : Addr} {xs ys : Array Value} {Q : Value → Shared → Prop} (hh : A.handled = none) (Z : Zp0 s N l1 l2 xs ys) (hx : xs.size ≤ sizeLine)
    (hQ : ∀ h' acc, (∀ b o, b < N → s.heap.get? b = some o → h'.get? b = some o) → Got (s.heap.objs.size + 1) h' xs ys acc (min xs.size ys.size) → Q (.ref h'.objs.size) { s with heap := h'.push { cls := .type "tuple", data := .seq acc } }) :
    wpAny (model prog w) A (call (.type "tuple") [.ref (N + 4)]) Q E s := by
  refine callType_codes (Q₁ := fun obj s₁ => s₁.TypeIs obj "tuple" ∧ Q obj s₁) F.called_tuple (F.typeCall_tuple_1 _) F.entry_object_init
    (code_tuple_new_zip (A := A.in1) hh Z hx fun h' acc hk hacc => ⟨⟨_, Heap.get?_push_size _ rfl, rfl⟩, hQ h' acc hk hacc⟩) fun obj s₁ h₁ => ?_
  exact ⟨h₁.1, F.args_object_init_2 obj _, object_init_meets F.called_tuple.init.lookup F.called_tuple.made (by decide) prog w A.in1 _ s₁ ⟨h₁.1, rfl, h₁.2⟩⟩
end
end Zp

set_option maxHeartbeats 4000000
namespace L2
open PySem PySem.Spec PyProof.Rows Zp
/-! ### the pairs in the abstract heap -/
def layT (H : Hp) : List (Addr × V × V) → Hp
  | [] => H
  | e :: r => upd (layT H r) e.1 (.tup [e.2.1, e.2.2])
theorem layT_off {H : Hp} : ∀ {L : List (Addr × V × V)} {c : Addr}, (∀ e ∈ L, e.1 ≠ c) → layT H L c = H c
  | [], _, _ => rfl
  | e :: r, c, h => by
    show upd (layT H r) e.1 _ c = H c
    rw [upd_ne (fun z => h e (List.mem_cons_self ..) z.symm)]
    exact layT_off fun x hx => h x (List.mem_cons_of_mem _ hx)
theorem layT_at {H : Hp} : ∀ {L : List (Addr × V × V)} {e : Addr × V × V}, (L.map (·.1)).Nodup → e ∈ L → layT H L e.1 = some (.tup [e.2.1, e.2.2])
  | x :: r, e, nd, he => by
    obtain ⟨n1, n2⟩ := List.nodup_cons.mp (show (x.1 :: r.map (·.1)).Nodup from nd)
    show upd (layT H r) x.1 _ e.1 = _
    rcases List.mem_cons.mp he with rfl | he'
    · exact upd_same
    · rw [upd_ne (fun z => n1 (by rw [← z]; exact List.mem_map.mpr ⟨e, he', rfl⟩))]
      exact layT_at n2 he'
theorem hok_layT {P : Program} {w : World} {H : Hp} {h : Heap} (x : HOk P w H h) : ∀ {L : List (Addr × V × V)}, (L.map (·.1)).Nodup → (∀ e ∈ L, H e.1 = none ∧ ∃ u v, RelV e.2.1 u ∧ RelV e.2.2 v ∧ IsPair h e.1 u v) → HOk P w (layT H L) h
  | [], _, _ => x
  | e :: r, nd, he => by
    obtain ⟨n1, n2⟩ := List.nodup_cons.mp (show (e.1 :: r.map (·.1)).Nodup from nd)
    obtain ⟨h0, u, v, r1, r2, hp⟩ := he e (List.mem_cons_self ..)
    refine (hok_layT x n2 fun y hy => he y (List.mem_cons_of_mem _ hy)).laidN (fun _ _ q => q) ?_ ?_
    · rw [layT_off fun y hy z => n1 (by rw [← z]; exact List.mem_map.mpr ⟨y, hy, rfl⟩)]; exact h0
    · exact ⟨by rw [sizeLine_eq]; show 2 ≤ 16777216; decide, [u, v], .cons r1 (.cons r2 .nil), ⟨_, hp, rfl, _, rfl⟩⟩
section
variable {X : Cx}
theorem Inv.layT {pins : List (Addr × Obj)} {s : Shared} {σ : St} {H : Hp} {h' : Heap} {t' : Nat} (I : Inv X pins σ H s) (k : ∀ b u, s.heap.get? b = some u → h'.get? b = some u) {L : List (Addr × V × V)} (nd : (L.map (·.1)).Nodup)
    (he : ∀ e ∈ L, s.heap.get? e.1 = none ∧ H e.1 = none ∧ ∃ u v, RelV e.2.1 u ∧ RelV e.2.2 v ∧ IsPair h' e.1 u v) : Inv X pins σ (L2.layT H L) { s with heap := h', toks := t' } := by
  have off : ∀ {b : Addr}, (∀ e ∈ L, e.1 ≠ b) → L2.layT H L b = H b := fun h => layT_off h
  have old : ∀ {b : Addr} {u : HO}, H b = some u → L2.layT H L b = some u := fun {b u} q => by
    rw [off fun e m z => by rw [← z, (he e m).2.1] at q; cases q]; exact q
  refine I.un ⟨fun b u q _ _ _ => k b u q, fun b u q _ _ _ => ⟨u.slots, k b u q⟩, fun b u q n _ => ?_, fun b u q _ => ⟨u, k b u q⟩, fun b xs q => old q, fun b o u q => old q, fun b ps q => ⟨#[], by rw [old q]; simp⟩⟩ ((hok_layT (I.hok.kept k) nd) fun e m => (he e m).2)
  rw [off fun e m z => by have f := (he e m).1; rw [z, q] at f; cases f]
  exact n
theorem refs_ofZ : ∀ (l : List Value), (∀ v ∈ l, ∃ a, v = Value.ref a) → ∃ ps : List Addr, l = ps.map Value.ref
  | [], _ => ⟨[], rfl⟩
  | v :: l, h => by
    obtain ⟨a, rfl⟩ := h v (List.mem_cons_self ..)
    obtain ⟨ps, rfl⟩ := refs_ofZ l fun u hu => h u (List.mem_cons_of_mem _ hu)
    exact ⟨a :: ps, rfl⟩
theorem vals_refsZ : ∀ (ps : List Addr), Vals (ps.map V.ref) (ps.map Value.ref)
  | [] => .nil
  | p :: ps => .cons rfl (vals_refsZ ps)
/-- what the pairs are behind the loop -/
theorem got_L {N0 n : Nat} {h : Heap} {xs ys acc : Array Value} {us vs : List V} (g : Got N0 h xs ys acc n) (r1 : Vals us xs.toList) (r2 : Vals vs ys.toList) (hn : n = min xs.size ys.size) :
    ∃ (ps : List Addr), acc.toList = ps.map Value.ref ∧ ps.length = min us.length vs.length ∧ ((ps.zip (us.zip vs)).map (·.1)).Nodup ∧ (ps.zip (us.zip vs)).map (·.1) = ps ∧
      ∀ e ∈ ps.zip (us.zip vs), N0 ≤ e.1 ∧ ∃ u v, RelV e.2.1 u ∧ RelV e.2.2 v ∧ IsPair h e.1 u v := by
  have l1 : us.length = xs.size := by rw [r1.length, Array.length_toList]
  have l2 : vs.length = ys.size := by rw [r2.length, Array.length_toList]
  obtain ⟨ps, hps⟩ := refs_ofZ acc.toList fun v hv => by
    obtain ⟨j, hj, e⟩ := List.mem_iff_getElem.mp hv
    obtain ⟨a, x, y, q, _⟩ := g.at_ j (by rw [← g.sz, ← Array.length_toList]; exact hj)
    refine ⟨a, ?_⟩
    rw [← Array.getElem?_toList, List.getElem?_eq_getElem hj, e] at q
    exact Option.some.inj q
  have pl : ps.length = n := by
    have := congrArg List.length hps
    rw [Array.length_toList, List.length_map, g.sz] at this
    exact this.symm
  have pm : ps.length = min us.length vs.length := by rw [pl, hn, l1, l2]
  have at_ : ∀ j (p : Addr), ps[j]? = some p → acc[j]? = some (Value.ref p) := fun j p q => by
    rw [← Array.getElem?_toList, hps, List.getElem?_map, q]; rfl
  have fs : (ps.zip (us.zip vs)).map (·.1) = ps := by
    rw [← List.unzip_fst, List.unzip_zip_left (by rw [List.length_zip]; omega)]
  have nd : ps.Nodup := by
    rw [List.nodup_iff_pairwise_ne, List.pairwise_iff_getElem]
    intro i j hi hj hij e
    have := g.inj i j ps[i] (at_ i _ (List.getElem?_eq_getElem hi)) (at_ j _ (by rw [List.getElem?_eq_getElem hj, e]))
    omega
  refine ⟨ps, hps, pm, by rw [fs]; exact nd, fs, fun e he => ?_⟩
  obtain ⟨j, hj, e1⟩ := List.mem_iff_getElem.mp he
  rw [List.length_zip, List.length_zip] at hj
  rw [List.getElem_zip, List.getElem_zip] at e1
  subst e1
  have hjp : j < ps.length := by omega
  obtain ⟨a, x, y, q1, q2, q3, q4, q5⟩ := g.at_ j (by omega)
  rw [at_ j _ (List.getElem?_eq_getElem hjp)] at q1
  cases q1
  obtain ⟨u, e2, s2⟩ := r1.get (i := j) (List.getElem?_eq_getElem (by omega))
  obtain ⟨v, e3, s3⟩ := r2.get (i := j) (List.getElem?_eq_getElem (by omega))
  rw [Array.getElem?_toList, q4] at e2
  rw [Array.getElem?_toList, q5] at e3
  cases e2; cases e3
  exact ⟨q2, x, y, s2, s3, q3⟩
/-- list(zip(a, b)), tuple(zip(a, b)) of tuples: mk says which -/
def tZip (K : PySem.W.Frag) (mk : List V → HO) (ta : TA) : TE := fun σ H Q => ta σ H fun vs H1 => ∃ a b xs ys, vs = [.ref a, .ref b] ∧ SqT K H1 a xs ∧ SqT K H1 b ys ∧
  ∀ (L : List (Addr × V × V)) (p : Addr), (L.map (·.1)).Nodup → L.map (·.2) = xs.zip ys → (∀ e ∈ L, H1 e.1 = none) → layT H1 L p = none → Q (.ref p) (upd (layT H1 L) p (mk ((L.map (·.1)).map V.ref)))
theorem zip_snd {ps : List Addr} {us vs : List V} (h : ps.length = min us.length vs.length) : (ps.zip (us.zip vs)).map (·.2) = us.zip vs := by
  rw [← List.unzip_snd, List.unzip_zip_right (by rw [List.length_zip]; omega)]
variable {e e2 : Expr} {ta : TA} {p p2 pos pos2 : Pos}
theorem pe_listZip (hc : X.calm = true) (hg : Gl X "list") (hm : X.mg "list" = none) (hg2 : Gl X "zip") (hm2 : X.mg "zip" = none) (ha : PA X [e, e2] ta)
    (hs : starEach [e, e2] X.env = (false, eval e X.env) :: starEach [e2] X.env := by rfl) (hpl : (backTo pos2 (starEach [e2] X.env)).any (·.1) = false := by rfl)
    (hs2 : starEach [.Call (.Name "zip" p2) [e, e2] [] pos2] X.env = (false, eval (.Call (.Name "zip" p2) [e, e2] [] pos2) X.env) :: starEach [] X.env := by rfl) :
    PE X (.Call (.Name "list" p) [.Call (.Name "zip" p2) [e, e2] [] pos2] [] pos) (tZip X.K .lst ta) := by
  refine ⟨fun pins s σ H Q I h => ?_⟩
  refine Call_ (ld_blt I hg hm boot_list (PyProof.Rows.callWith_type1 (args_cons (Call_ (ld_blt I hg2 hm2 PyProof.Rows.boot_zip (PyProof.Rows.callWith_type1 (thn (ha.run pos2 pins s σ H _ I h) fun us s1 ⟨vs, H1, I1, r1, q1⟩ => ?_) hs hpl))) hs2) hs2 rfl))
  obtain ⟨a, b, xs, ys, ex, hqx, hqy, q⟩ := q1
  subst ex
  cases r1 with
  | cons r rr =>
    cases rr with
    | cons r' rr =>
      cases rr
      cases r
      cases r'
      obtain ⟨its, rv, p1, z1⟩ := I1.tuple hqx
      obtain ⟨its2, rv2, p2', _⟩ := I1.tuple hqy
      obtain ⟨o1, ho1, _⟩ := id p1
      obtain ⟨o2, ho2, _⟩ := id p2'
      refine RZ.call_zipT (show s1.heap.IsTuple a its.toArray from p1) (show s1.heap.IsTuple b its2.toArray from p2') fun h' hz hTI hTO h1 h2 hsz hk => args_nil ?_
      have Z : Zp0 { s1 with heap := h' } s1.heap.objs.size a b its.toArray its2.toArray := ⟨hz, hTI, hTO, h1, h2, by obtain ⟨o, q1, q2⟩ := (show s1.heap.IsTuple a its.toArray from p1); exact ⟨o, hk _ _ q1, q2⟩, by obtain ⟨o, q1, q2⟩ := (show s1.heap.IsTuple b its2.toArray from p2'); exact ⟨o, hk _ _ q1, q2⟩, Heap.lt_size ho1, Heap.lt_size ho2⟩
      refine call_list_zip (s := { s1 with heap := h' }) (I1.ok.hd hc) Z (by rw [List.size_toArray, ← rv.length]; exact z1) fun h'' acc c hk2 hS hg => ?_
      obtain ⟨ps, eps, pm, nd, fs, hL⟩ := got_L hg (us := xs) (vs := ys) (by simpa using rv) (by simpa using rv2) rfl
      have hk3 : ∀ c o, s1.heap.get? c = some o → h''.get? c = some o := fun c o q1 => hk2 c o (Heap.lt_size q1) (hk c o q1)
      have sz : (h' : Heap).objs.size = s1.heap.objs.size + 5 := hsz
      have fr : ∀ c : Nat, s1.heap.objs.size ≤ c → s1.heap.get? c = none ∧ H1 c = none := fun c hcc => ⟨by
        cases q1 : s1.heap.get? c with
        | none => rfl
        | some o => exact absurd (Heap.lt_size q1) (Nat.not_lt_of_le hcc), I1.hok.fresh hcc⟩
      have I2 : Inv X pins σ (layT H1 (ps.zip (xs.zip ys))) { s1 with heap := h'', toks := s1.toks } := I1.layT hk3 nd fun e m => by
        obtain ⟨g1, g2⟩ := hL e m
        have g3 : h'.objs.size + 1 ≤ e.1 := g1
        have f := fr e.1 (show s1.heap.objs.size ≤ e.1 by omega)
        exact ⟨f.1, f.2, g2⟩
      have fp := fr h'.objs.size (show s1.heap.objs.size ≤ h'.objs.size by omega)
      have np : layT H1 (ps.zip (xs.zip ys)) h'.objs.size = none := by
        rw [layT_off fun e m z => ?_]
        · exact fp.2
        · have g3 : h'.objs.size + 1 ≤ e.1 := (hL e m).1
          rw [z] at g3
          exact absurd g3 (Nat.not_succ_le_self _)
      have hz2 : ((ps.map V.ref).length) ≤ sizeLine := by rw [List.length_map, pm]; exact Nat.le_trans (Nat.min_le_left _ _) z1
      refine ⟨.ref h'.objs.size, upd (layT H1 (ps.zip (xs.zip ys))) h'.objs.size (.lst (ps.map V.ref)), ?_, rfl, ?_⟩
      · have e1 : ({ s1 with heap := h'', toks := s1.toks } : Shared) = { s1 with heap := h'' } := rfl
        refine I1.un (H' := upd (layT H1 (ps.zip (xs.zip ys))) h'.objs.size (.lst (ps.map V.ref))) (t' := s1.toks) ?_ ?_
        · have off : ∀ {b : Addr}, s1.heap.get? b ≠ none ∨ H1 b ≠ none → upd (layT H1 (ps.zip (xs.zip ys))) h'.objs.size (.lst (ps.map V.ref)) b = H1 b := fun {b} q1 => by
            have nb : ∀ c : Nat, s1.heap.objs.size ≤ c → (c : Addr) ≠ b := fun c hcc z => by
              have f := fr c hcc
              rw [z] at f
              rcases q1 with q1 | q1
              · exact q1 f.1
              · exact q1 f.2
            rw [upd_ne (nb _ (show s1.heap.objs.size ≤ h'.objs.size by omega)).symm, layT_off fun e m => nb e.1 (by have g3 : h'.objs.size + 1 ≤ e.1 := (hL e m).1; omega)]
          have old : ∀ {b : Addr} {u : HO}, H1 b = some u → upd (layT H1 (ps.zip (xs.zip ys))) h'.objs.size (.lst (ps.map V.ref)) b = some u := fun {b u} q1 => by rw [off (.inr (by rw [q1]; simp))]; exact q1
          exact ⟨fun b u q _ _ _ => hk3 b u q, fun b u q _ _ _ => ⟨u.slots, hk3 b u q⟩, fun b u q n _ => by rw [off (.inl (by rw [q]; simp))]; exact n, fun b u q _ => ⟨u, hk3 b u q⟩, fun b xs q => old q, fun b o u q => old q, fun b ps q => ⟨#[], by rw [old q]; simp⟩⟩
        · exact I2.hok.laidN (fun _ _ q => q) np ⟨hz2, acc.toList, c, by rw [eps]; exact vals_refsZ ps, by rw [Array.toArray_toList]; exact hS⟩
      · have := q (ps.zip (xs.zip ys)) h'.objs.size nd (zip_snd pm) (fun e m => (fr e.1 (by have g3 : h'.objs.size + 1 ≤ e.1 := (hL e m).1; omega)).2) np
        rw [fs] at this
        exact this
theorem pe_tupZip (hc : X.calm = true) (hg : Gl X "tuple") (hm : X.mg "tuple" = none) (hg2 : Gl X "zip") (hm2 : X.mg "zip" = none) (ha : PA X [e, e2] ta)
    (hs : starEach [e, e2] X.env = (false, eval e X.env) :: starEach [e2] X.env := by rfl) (hpl : (backTo pos2 (starEach [e2] X.env)).any (·.1) = false := by rfl)
    (hs2 : starEach [.Call (.Name "zip" p2) [e, e2] [] pos2] X.env = (false, eval (.Call (.Name "zip" p2) [e, e2] [] pos2) X.env) :: starEach [] X.env := by rfl) :
    PE X (.Call (.Name "tuple" p) [.Call (.Name "zip" p2) [e, e2] [] pos2] [] pos) (tZip X.K .tup ta) := by
  refine ⟨fun pins s σ H Q I h => ?_⟩
  refine Call_ (ld_blt I hg hm boot_tuple (PyProof.Rows.callWith_type1 (args_cons (Call_ (ld_blt I hg2 hm2 PyProof.Rows.boot_zip (PyProof.Rows.callWith_type1 (thn (ha.run pos2 pins s σ H _ I h) fun us s1 ⟨vs, H1, I1, r1, q1⟩ => ?_) hs hpl))) hs2) hs2 rfl))
  obtain ⟨a, b, xs, ys, ex, hqx, hqy, q⟩ := q1
  subst ex
  cases r1 with
  | cons r rr =>
    cases rr with
    | cons r' rr =>
      cases rr
      cases r
      cases r'
      obtain ⟨its, rv, p1, z1⟩ := I1.tuple hqx
      obtain ⟨its2, rv2, p2', _⟩ := I1.tuple hqy
      obtain ⟨o1, ho1, _⟩ := id p1
      obtain ⟨o2, ho2, _⟩ := id p2'
      refine RZ.call_zipT (show s1.heap.IsTuple a its.toArray from p1) (show s1.heap.IsTuple b its2.toArray from p2') fun h' hz hTI hTO h1 h2 hsz hk => args_nil ?_
      have Z : Zp0 { s1 with heap := h' } s1.heap.objs.size a b its.toArray its2.toArray := ⟨hz, hTI, hTO, h1, h2, by obtain ⟨o, q1, q2⟩ := (show s1.heap.IsTuple a its.toArray from p1); exact ⟨o, hk _ _ q1, q2⟩, by obtain ⟨o, q1, q2⟩ := (show s1.heap.IsTuple b its2.toArray from p2'); exact ⟨o, hk _ _ q1, q2⟩, Heap.lt_size ho1, Heap.lt_size ho2⟩
      refine call_tuple_zip (s := { s1 with heap := h' }) (I1.ok.hd hc) Z (by rw [List.size_toArray, ← rv.length]; exact z1) fun h'' acc hk2 hg => ?_
      obtain ⟨ps, eps, pm, nd, fs, hL⟩ := got_L hg (us := xs) (vs := ys) (by simpa using rv) (by simpa using rv2) rfl
      have hk3 : ∀ c o, s1.heap.get? c = some o → h''.get? c = some o := fun c o q1 => hk2 c o (Heap.lt_size q1) (hk c o q1)
      have sz : (h' : Heap).objs.size = s1.heap.objs.size + 5 := hsz
      have fr : ∀ c : Nat, s1.heap.objs.size ≤ c → s1.heap.get? c = none ∧ H1 c = none := fun c hcc => ⟨by
        cases q1 : s1.heap.get? c with
        | none => rfl
        | some o => exact absurd (Heap.lt_size q1) (Nat.not_lt_of_le hcc), I1.hok.fresh hcc⟩
      have I2 : Inv X pins σ (layT H1 (ps.zip (xs.zip ys))) { s1 with heap := h'', toks := s1.toks } := I1.layT hk3 nd fun e m => by
        obtain ⟨g1, g2⟩ := hL e m
        have g3 : h'.objs.size + 1 ≤ e.1 := g1
        have f := fr e.1 (show s1.heap.objs.size ≤ e.1 by omega)
        exact ⟨f.1, f.2, g2⟩
      have hz2 : ((ps.map V.ref).length) ≤ sizeLine := by rw [List.length_map, pm]; exact Nat.le_trans (Nat.min_le_left _ _) z1
      have np : layT H1 (ps.zip (xs.zip ys)) h''.objs.size = none := I2.hok.fresh (Nat.le_refl _)
      refine ⟨.ref h''.objs.size, upd (layT H1 (ps.zip (xs.zip ys))) h''.objs.size (.tup (ps.map V.ref)), ?_, rfl, ?_⟩
      · exact I2.laid (t' := s1.toks) (fun b o e => Heap.get?_push_of_some _ e) (Nat.le_refl _) (show ObjOk X.prog X.w _ _ _ (.tup (ps.map V.ref)) from ⟨hz2, acc.toList, by rw [eps]; exact vals_refsZ ps, by rw [Array.toArray_toList]; exact IsTup.new _ _⟩)
      · have := q (ps.zip (xs.zip ys)) h''.objs.size nd (zip_snd pm) (fun e m => (fr e.1 (by have g3 : h'.objs.size + 1 ≤ e.1 := (hL e m).1; omega)).2) np
        rw [fs] at this
        exact this
end
end L2

set_option maxHeartbeats 4000000
namespace Dn
open PySem PySem.Spec PyProof.Rows L2
variable {X : Cx} {k : Kc}
/-! ### zip as a value -/
theorem reps_zip {K : PySem.W.Frag} {μ : Mu} {H : Hp} : ∀ {xs ys : List D} {us vs : List V} {L : List (Addr × V × V)}, Reps K μ H xs us → Reps K μ H ys vs → L.map (·.2) = us.zip vs → (∀ e ∈ L, H e.1 = some (.tup [e.2.1, e.2.2])) → Reps K μ H (zipD xs ys) ((L.map (·.1)).map V.ref)
  | [], ys, us, vs, L, h1, _, e, _ => by
    rw [reps_nil.mp h1] at e
    have : L = [] := by cases L with
      | nil => rfl
      | cons l r => simp at e
    subst this
    rw [show zipD [] ys = [] by cases ys <;> rfl]
    exact Reps.nil
  | x :: xs, [], us, vs, L, _, h2, e, _ => by
    rw [reps_nil.mp h2] at e
    have : L = [] := by cases L with
      | nil => rfl
      | cons l r => simp at e
    subst this
    exact Reps.nil
  | x :: xs, y :: ys, us, vs, L, h1, h2, e, h => by
    obtain ⟨u, us', rfl, p1, t1⟩ := reps_cons.mp h1
    obtain ⟨v, vs', rfl, p2, t2⟩ := reps_cons.mp h2
    cases L with
    | nil => cases e
    | cons l L =>
      simp only [List.map_cons, List.zip_cons_cons, List.cons.injEq] at e
      obtain ⟨e1, e2⟩ := e
      have hl := h l (List.mem_cons_self ..)
      rw [e1] at hl
      exact Reps.cons (mk_tup (SqT.of hl) (Reps.cons p1 (Reps.cons p2 Reps.nil))) (reps_zip t1 t2 e2 fun z hz => h z (List.mem_cons_of_mem _ hz))
theorem zip_len_le {xs ys : List D} {n : Nat} (h : xs.length ≤ n) : (zipD xs ys).length ≤ n := by rw [zip_len]; omega
theorem e_lzip (hk : KcOk X k) {x y : Expr} {a b : C} {own : Option Bool} {p p2 pos pos2 : Pos} (ha : PE X x (tEv X.K k.g a)) (hb : PE X y (tEv X.K k.g b)) (hp : plainX x = true) (hp' : plainX y = true) (hg : glB k.sc "list" = true) (hf : ("list" : Str) ∈ k.free) (hg2 : glB k.sc "zip" = true) (hf2 : ("zip" : Str) ∈ k.free) :
    PE X (.Call (.Name "list" p) [.Call (.Name "zip" p2) [x, y] [] pos2] [] pos) (tEv X.K k.g (.zipV false own a b)) := by
  refine (pe_listZip hk.calm (glB_ok hk hg) (hk.free _ hf) (glB_ok hk hg2) (hk.free _ hf2) (as_cons ha (as_cons hb as_nil hp') hp) (star_of hp _ _) (nostar (es := [y]) (by show (plainX y && true) = true; rw [hp']; rfl) _ _)).imp fun σ H Q ⟨μ, δ, S, d, S', E, R, e1, q⟩ => ?_
  simp only [evE] at e1
  obtain ⟨⟨d1, S1⟩, e2, e3⟩ := bindS e1
  obtain ⟨⟨d2, S2⟩, e4, e5⟩ := bindS e3
  refine ⟨μ, δ, S, [d1, d2], S2, E, R, by simp only [evEs, e2, e4, Option.bind_some, Option.map_some], fun vs H1 μ1 E1 R1 p1 => ?_⟩
  obtain ⟨u, r1, rfl, q1, t1⟩ := reps_cons.mp p1
  obtain ⟨v, r2, rfl, q2, t2⟩ := reps_cons.mp t1
  obtain rfl := reps_nil.mp t2
  cases d1 with
  | tup xs =>
    cases d2 with
    | tup ys =>
      obtain ⟨b1, us, rfl, f1, f2⟩ := rep_tup q1
      obtain ⟨b2, ws, rfl, g1, g2⟩ := rep_tup q2
      refine ⟨b1, b2, us, ws, rfl, f1, g1, fun L p nd eL h0 hp => ?_⟩
      have E2 : Ext μ1 H1 μ1 (layT H1 L) := Ext.grow fun c o e => by rw [layT_off fun l hl z => by rw [← z, h0 l hl] at e; cases e]; exact e
      have R2 : Rl X.K μ1 (layT H1 L) S2 := R1.grow fun c o e => by rw [layT_off fun l hl z => by rw [← z, h0 l hl] at e; cases e]; exact e
      have pz := reps_zip (f2.mono R1 E2) (g2.mono R1 E2) eL fun l hl => layT_at nd hl
      dsimp only at e5
      rw [if_neg (by decide)] at e5
      cases own with
      | none =>
        cases e5
        exact (q.ext (E1.trans E2)).new R2 hp (mk_lst (R2.fz hp) upd_same (pz.mono R2 (Ext.new hp)))
      | some kp =>
        cases e5
        refine q _ _ (μ1.push p) ((E1.trans E2).trans (Ext.push hp)) (R2.push hp pz) (mk_ref ?_)
        show (μ1.ad ++ [p])[S2.length]? = some p
        rw [← R2.len, List.getElem?_append_right (Nat.le_refl _)]
        simp
    | _ => cases e5
  | _ => cases e5
theorem e_tzip (hk : KcOk X k) {x y : Expr} {a b : C} {own : Option Bool} {p p2 pos pos2 : Pos} (ha : PE X x (tEv X.K k.g a)) (hb : PE X y (tEv X.K k.g b)) (hp : plainX x = true) (hp' : plainX y = true) (hg : glB k.sc "tuple" = true) (hf : ("tuple" : Str) ∈ k.free) (hg2 : glB k.sc "zip" = true) (hf2 : ("zip" : Str) ∈ k.free) :
    PE X (.Call (.Name "tuple" p) [.Call (.Name "zip" p2) [x, y] [] pos2] [] pos) (tEv X.K k.g (.zipV true own a b)) := by
  refine (pe_tupZip hk.calm (glB_ok hk hg) (hk.free _ hf) (glB_ok hk hg2) (hk.free _ hf2) (as_cons ha (as_cons hb as_nil hp') hp) (star_of hp _ _) (nostar (es := [y]) (by show (plainX y && true) = true; rw [hp']; rfl) _ _)).imp fun σ H Q ⟨μ, δ, S, d, S', E, R, e1, q⟩ => ?_
  simp only [evE] at e1
  obtain ⟨⟨d1, S1⟩, e2, e3⟩ := bindS e1
  obtain ⟨⟨d2, S2⟩, e4, e5⟩ := bindS e3
  refine ⟨μ, δ, S, [d1, d2], S2, E, R, by simp only [evEs, e2, e4, Option.bind_some, Option.map_some], fun vs H1 μ1 E1 R1 p1 => ?_⟩
  obtain ⟨u, r1, rfl, q1, t1⟩ := reps_cons.mp p1
  obtain ⟨v, r2, rfl, q2, t2⟩ := reps_cons.mp t1
  obtain rfl := reps_nil.mp t2
  cases d1 with
  | tup xs =>
    cases d2 with
    | tup ys =>
      obtain ⟨b1, us, rfl, f1, f2⟩ := rep_tup q1
      obtain ⟨b2, ws, rfl, g1, g2⟩ := rep_tup q2
      refine ⟨b1, b2, us, ws, rfl, f1, g1, fun L p nd eL h0 hp => ?_⟩
      have E2 : Ext μ1 H1 μ1 (layT H1 L) := Ext.grow fun c o e => by rw [layT_off fun l hl z => by rw [← z, h0 l hl] at e; cases e]; exact e
      have R2 : Rl X.K μ1 (layT H1 L) S2 := R1.grow fun c o e => by rw [layT_off fun l hl z => by rw [← z, h0 l hl] at e; cases e]; exact e
      have pz := reps_zip (f2.mono R1 E2) (g2.mono R1 E2) eL fun l hl => layT_at nd hl
      dsimp only at e5
      rw [if_pos True.intro] at e5
      cases e5
      exact (q.ext (E1.trans E2)).new R2 hp (mk_tup (SqT.of upd_same) (pz.mono R2 (Ext.new hp)))
    | _ => cases e5
  | _ => cases e5
theorem e_cat {x y : Expr} {a b : C} {kp : Bool} {pos : Pos} (ha : PE X x (tEv X.K k.g a)) (hb : PE X y (tEv X.K k.g b)) : PE X (.BinOp x .Add y pos) (tEv X.K k.g (.cat kp a b)) := (pe_op op_cat ha hb).imp fun σ H Q ⟨μ, δ, S, d, S', E, R, e1, q⟩ => by
  simp only [evE] at e1
  obtain ⟨⟨d1, S1⟩, e2, e3⟩ := bindS e1
  obtain ⟨⟨d2, S2⟩, e4, e5⟩ := bindS e3
  refine ev2 E R e2 e4 fun x y H2 μ2 E2 R2 _ p1 p2 => ?_
  dsimp only at e5
  split at e5
  · rename_i xs ys z1 z2
    split at e5
    · rename_i hl
      cases e5
      obtain ⟨b1, us, rfl, f1, f2⟩ := rep_lst R2 z1 p1
      obtain ⟨b2, vs, rfl, g1, g2⟩ := rep_lst R2 z2 p2
      refine ⟨b1, b2, us, vs, rfl, rfl, f1, g1, by rw [sizeL, ← f2.length, ← g2.length]; exact hl, fun p hp => ?_⟩
      refine q _ _ (μ2.push p) (E2.trans (Ext.push hp)) (R2.push hp (f2.append g2)) (mk_ref ?_)
      show (μ2.ad ++ [p])[S2.length]? = some p
      rw [← R2.len, List.getElem?_append_right (Nat.le_refl _)]
      simp
    · cases e5
  · cases e5
/-! ### displays with starred parts -/
def tEvS (K : PySem.W.Frag) (G : GE) (cs : List C) (fl : List Bool) : TA := fun σ H Q => ∃ μ δ S ds S' xs, RepEnv K μ H σ δ ∧ Rl K μ H S ∧ evEs G cs δ S = some (ds, S') ∧ sprD ds fl = some xs ∧ ∀ vs H' μ', Ext μ H μ' H' → Rl K μ' H' S' → Reps K μ' H' xs vs → Q vs H'
theorem sps_nil : PA X [] (tEvS X.K k.g [] []) := pa_nil.imp fun σ H Q ⟨μ, δ, S, ds, S', xs, E, R, e1, e2, q⟩ => by
  simp only [evEs] at e1; cases e1
  simp only [sprD] at e2; cases e2
  exact q [] H μ Ext.refl R Reps.nil
theorem sps_cons {e : Expr} {es : List Expr} {c : C} {cs : List C} {fl : List Bool} (h1 : PE X e (tEv X.K k.g c)) (h2 : PA X es (tEvS X.K k.g cs fl)) (hp : plainX e = true) : PA X (e :: es) (tEvS X.K k.g (c :: cs) (false :: fl)) := (pa_cons h1 h2 (star_of hp _ _)).imp fun σ H Q ⟨μ, δ, S, ds, S', xs, E, R, e1, ex, q⟩ => by
  simp only [evEs] at e1
  obtain ⟨⟨d, S1⟩, e2, e3⟩ := bindS e1
  obtain ⟨⟨r, S2⟩, e4, e5⟩ := mapS e3
  cases e5
  simp only [sprD, Bool.false_eq_true, ↓reduceIte, Option.bind_some] at ex
  obtain ⟨ys, e6, e7⟩ := mapS ex
  subst e7
  refine ⟨μ, δ, S, d, S1, E, R, e2, fun v H1 μ1 E1 R1 p1 => ⟨μ1, δ, S1, r, S2, ys, E.mono R E1, R1, e4, e6, fun vs H2 μ2 E2 R2 p2 => ?_⟩⟩
  exact q (v :: vs) H2 μ2 (E1.trans E2) R2 (Reps.cons (p1.mono R1 E2) p2)
theorem sps_star {e : Expr} {es : List Expr} {c : C} {cs : List C} {fl : List Bool} {p : Pos} (h1 : PE X e (tEv X.K k.g c)) (h2 : PA X es (tEvS X.K k.g cs fl)) : PA X (.Starred e p :: es) (tEvS X.K k.g (c :: cs) (true :: fl)) := (StX.pa_star h1 h2).imp fun σ H Q ⟨μ, δ, S, ds, S', xs, E, R, e1, ex, q⟩ => by
  simp only [evEs] at e1
  obtain ⟨⟨d, S1⟩, e2, e3⟩ := bindS e1
  obtain ⟨⟨r, S2⟩, e4, e5⟩ := mapS e3
  cases e5
  simp only [sprD, ↓reduceIte] at ex
  obtain ⟨zs, e8, e9⟩ := bindS ex
  obtain ⟨ys, e6, e7⟩ := mapS e9
  subst e7
  cases d with
  | tup ws =>
    cases e8
    refine ⟨μ, δ, S, _, S1, E, R, e2, fun v H1 μ1 E1 R1 p1 => ?_⟩
    obtain ⟨a, us, rfl, f1, f2⟩ := rep_tup p1
    exact ⟨a, us, rfl, .inl f1, μ1, δ, S1, r, S2, ys, E.mono R E1, R1, e4, e6, fun vs H2 μ2 E2 R2 p2 => q (us ++ vs) H2 μ2 (E1.trans E2) R2 ((f2.mono R1 E2).append p2)⟩
  | _ => cases e8
theorem e_tupS {es : List Expr} {cs : List C} {fl : List Bool} {x1 pos} (h : PA X es (tEvS X.K k.g cs fl)) : PE X (.Tuple es x1 pos) (tEv X.K k.g (.tupS cs fl)) := (pe_tup h).imp fun σ H Q ⟨μ, δ, S, d, S', E, R, e1, q⟩ => by
  simp only [evE] at e1
  obtain ⟨⟨ds, S1⟩, e2, e3⟩ := bindS e1
  obtain ⟨xs, e4, e5⟩ := bindS e3
  split at e5
  · rename_i hl
    cases e5
    refine ⟨μ, δ, S, ds, _, xs, E, R, e2, e4, fun vs H1 μ1 E1 R1 p1 => ⟨by rw [sizeL, ← p1.length]; exact hl, fun p hp => ?_⟩⟩
    exact (q.ext E1).new R1 hp (mk_tup (SqT.of upd_same) (p1.mono R1 (Ext.new hp)))
  · cases e5
/-! ### dicts of the module -/
theorem e_din (hk : KcOk X k) {e : Expr} {c : C} {x : Str} {kvs : List (Str × Int)} {p pos : Pos} (he : PE X e (tEv X.K k.g c)) (h1 : glB k.sc x = true) (h2 : nmB x = true) (h3 : k.dd.lookup x = some kvs) : PE X (.Compare e [.In] [.Name x p] pos) (tEv X.K k.g (.din c x kvs)) := by
  obtain ⟨a, m, es, n, D, y, z⟩ := hk.dd x kvs h3
  refine (pe_cmpR (op_in_kd D) he (pe_glob (v := .ref a) (glB_ok hk h1) m rfl (nmB_ok h2).1) rfl).imp fun σ H Q ⟨μ, δ, S, d, S', E, R, e1, q⟩ => ?_
  simp only [evE] at e1
  obtain ⟨⟨d1, S1⟩, e2, e3⟩ := bindS e1
  refine ev1 E R e2 fun v H1 μ1 E1 R1 N1 p1 => ?_
  cases d1 with
  | str w =>
    cases e3
    obtain rfl := rep_str p1
    cases hl : kvs.lookup w with
    | none => exact ⟨w, _, rfl, rfl, z w hl, by rw [hl] at q; exact (q.ext E1).at R1 mk_bl⟩
    | some i =>
      obtain ⟨u, yu, _⟩ := y w i hl
      exact ⟨w, _, rfl, rfl, yu, by rw [hl] at q; exact (q.ext E1).at R1 mk_bl⟩
  | _ => cases e3
theorem t_din (hk : KcOk X k) {e : Expr} {c : C} {x : Str} {kvs : List (Str × Int)} {p pos : Pos} (he : PE X e (tEv X.K k.g c)) (h1 : glB k.sc x = true) (h2 : nmB x = true) (h3 : k.dd.lookup x = some kvs) : PT X (.Compare e [.In] [.Name x p] pos) (tTv X.K k.g (.din c x kvs)) := by
  obtain ⟨a, m, es, n, D, y, z⟩ := hk.dd x kvs h3
  refine (pt_cmpR (op_in_kd D) he (pe_glob (v := .ref a) (glB_ok hk h1) m rfl (nmB_ok h2).1) rfl).imp fun σ H Q ⟨μ, δ, S, d, S', E, R, e1, q⟩ => ?_
  simp only [evT] at e1
  obtain ⟨⟨d1, S1⟩, e2, e3⟩ := bindS e1
  refine ev1 E R e2 fun v H1 μ1 E1 R1 N1 p1 => ?_
  cases d1 with
  | str w =>
    cases e3
    obtain rfl := rep_str p1
    cases hl : kvs.lookup w with
    | none => exact ⟨w, _, rfl, rfl, z w hl, _, rfl, by rw [hl] at q; exact q H1 μ1 E1 R1⟩
    | some i =>
      obtain ⟨u, yu, _⟩ := y w i hl
      exact ⟨w, _, rfl, rfl, yu, _, rfl, by rw [hl] at q; exact q H1 μ1 E1 R1⟩
  | _ => cases e3
theorem e_dix (hk : KcOk X k) {e : Expr} {c : C} {x : Str} {kvs : List (Str × Int)} {p pos : Pos} (he : PE X e (tEv X.K k.g c)) (hp : plainX e = true) (h1 : glB k.sc x = true) (h2 : nmB x = true) (h3 : k.dd.lookup x = some kvs) : PE X (.Subscript (.Name x p) e pos) (tEv X.K k.g (.dix x kvs c)) := by
  obtain ⟨a, m, es, n, D, y, z⟩ := hk.dd x kvs h3
  refine (pe_ix ix_kdict (pe_glob (v := .ref a) (glB_ok hk h1) m rfl (nmB_ok h2).1) he (fun _ _ => by cases e <;> first | rfl | cases hp)).imp fun σ H Q ⟨μ, δ, S, d, S', E, R, e1, q⟩ => ?_
  simp only [evE] at e1
  obtain ⟨⟨d1, S1⟩, e2, e3⟩ := bindS e1
  refine ev1 E R e2 fun v H1 μ1 E1 R1 N1 p1 => ?_
  cases d1 with
  | str w =>
    obtain ⟨i, e4, e5⟩ := mapS e3
    cases e5
    obtain rfl := rep_str p1
    obtain ⟨u, yu, ru⟩ := y w i e4
    exact ⟨a, w, .int i, rfl, rfl, ⟨es, n, u, D.at_, D.lit, yu, ru⟩, (q.ext E1).at R1 mk_int⟩
  | _ => cases e3
end Dn

set_option maxHeartbeats 4000000
namespace Dn
open PySem PySem.Spec PyProof.Rows L2

/-! ### that a core term is the given text -/
def notListX : Expr → Bool
  | .List _ _ => false
  | _ => true
/-- cannot be None -/
def intC : C → Bool
  | .int _ => true
  | .neg _ => true
  | .bin _ _ _ => true
  | .var _ => false
  | _ => false
def nilE : List Expr → Bool
  | [] => true
  | _ => false
mutual
def ckE : C → Kt → Expr → Bool
  | .non, _, e => match e with
    | .Constant .none _ _ => true
    | _ => false
  | .bl b, _, e => match e with
    | .Constant (.bool b') _ _ => b == b'
    | _ => false
  | .int i, _, e => match e with
    | .Constant (.int j) _ _ => decide (i = j)
    | _ => false
  | .str x, _, e => match e with
    | .Constant (.str y) _ _ => decide (x = y)
    | _ => false
  | .var i, k, e => match e with
    | .Name x _ => decide (k.N[i]? = some x) && visB k.sc x && nmB x
    | _ => false
  | .glo x, k, e => match e with
    | .Name y _ => decide (x = y) && glB k.sc y && nmB y && decide (y ∈ k.dn)
    | _ => false
  | .tup cs, k, e => match e with
    | .Tuple es _ _ => ckEs cs k es
    | _ => false
  | .lst _ cs, k, e => match e with
    | .List es _ => ckEs cs k es
    | _ => false
  | .dic0, _, e => match e with
    | .Dict [] [] _ => true
    | _ => false
  | .dic1 x i, _, e => match e with
    | .Dict [some (.Constant (.str y) _ _)] [.Constant (.int j) _ _] _ => decide (x = y) && decide (i = j)
    | _ => false
  | .zipV t _ a b, k, e => match e with
    | .Call (.Name f _) [.Call (.Name z _) [x, y] [] _] [] _ => decide (f = (if t = true then ("tuple" : Str) else ("list" : Str))) && decide (z = ("zip" : Str)) && glB k.sc f && decide (f ∈ k.free) && glB k.sc z && decide (z ∈ k.free) && ckE a k x && ckE b k y
    | _ => false
  | .tupS cs fl, k, e => match e with
    | .Tuple es _ _ => ckSp cs fl k es
    | _ => false
  | .din c x kvs, k, e => match e with
    | .Compare y [.In] [.Name z _] _ => decide (z = x) && ckE c k y && glB k.sc x && nmB x && decide (k.dd.lookup x = some kvs)
    | _ => false
  | .dix x kvs c, k, e => match e with
    | .Subscript (.Name z _) y _ => decide (z = x) && ckE c k y && glB k.sc x && nmB x && decide (k.dd.lookup x = some kvs)
    | _ => false
  | .mkx cn f cs, k, e => match cs, e with
    | [c], .Call (.Name x _) [y] [] _ => decide (x = cn) && decide (k.cls.lookup cn = some (some f)) && glB k.sc cn && nmB cn && ckE c k y
    | [c], .Call (.Name x _) [] [⟨some g, y, _⟩] _ => decide (x = cn) && decide (g = f) && decide (k.cls.lookup cn = some (some f)) && glB k.sc cn && nmB cn && ckE c k y
    | [], .Call (.Name x _) [] [] _ => decide (x = cn) && decide (k.cls.lookup cn = some none) && glB k.sc cn && nmB cn
    | _, _ => false
  | .fld c f tab, k, e => match e with
    | .Attribute (.Name x p) g _ => decide (g = f) && decide (tab = k.cls) && ckE c k (.Name x p)
    | _ => false
  | .isx c T cs tab, k, e => match e with
    | .Call (.Name x _) [a, .Name t _] [] _ => decide (x = Str.ofString "isinstance") && decide (t = T) && decide (tab = k.cls) && decide (k.isx.lookup T = some cs) && decide (x ∈ k.free) && glB k.sc x && glB k.sc t && nmB t && ckE c k a
    | _ => false
  | .cat _ a b, k, e => match e with
    | .BinOp x .Add y _ => ckE a k x && ckE b k y
    | _ => false
  | .bin o a b, k, e => match e with
    | .BinOp x o' y _ => decide (o = o') && ckE a k x && ckE b k y
    | _ => false
  | .neg a, k, e => match e with
    | .UnaryOp .USub x _ => ckE a k x
    | _ => false
  | .not a, k, e => match e with
    | .UnaryOp .Not x _ => ckE a k x
    | _ => false
  | .cmp o a b, k, e => match e with
    | .Compare x [o'] [y] _ => decide (o = o') && ckE a k x && ckE b k y
    | _ => false
  | .cmp2 o p a b c, k, e => match e with
    | .Compare x [o', p'] [y, z] _ => decide (o = o') && decide (p = p') && ckE a k x && ckE b k y && ckE c k z
    | _ => false
  | .and a b, k, e => match e with
    | .BoolOp .And (x :: y :: r) pos => ckE a k x && ckE b k (restX .And pos (y :: r))
    | _ => false
  | .or a b, k, e => match e with
    | .BoolOp .Or (x :: y :: r) pos => ckE a k x && ckE b k (restX .Or pos (y :: r))
    | _ => false
  | .ite c a b, k, e => match e with
    | .IfExp z x y _ => ckE c k z && ckE a k x && ckE b k y
    | _ => false
  | .call f cs, k, e => match e with
    | .Call (.Name x _) es [] _ => decide (x = f) && decide (f ∈ k.fns) && glB k.sc f && nmB f && ckEs cs k es
    | _ => false
  | .callK f cs ks kcs, k, e => match e with
    | .Call (.Name x _) es kws _ => decide (x = f) && decide (f ∈ k.fns) && glB k.sc f && nmB f && decide (kws.map (·.arg) = ks.map some) && decide (ks.length = kcs.length) && decide ((f, cs.length, ks) ∈ k.kwl) && ckEs cs k es && ckEs kcs k (kws.map (·.value))
    | _ => false
  | .blt f cs, k, e => match e with
    | .Call (.Name x _) es [] _ => glB k.sc x && nmB x && ckEs cs k es && !nilE es && (if f = "gcd" then decide (k.bf.lookup x = some "math.gcd") else decide (x = Str.ofString f) && (bltV f).isSome && decide (x ∈ k.free))
    | _ => false
  | .isi c T, k, e => match e with
    | .Call (.Name x _) [a, .Name t _] [] _ => decide (x = Str.ofString "isinstance") && decide (t = Str.ofString T) && decide (T ∈ tyNames) && decide (x ∈ k.free) && decide (t ∈ k.free) && glB k.sc x && glB k.sc t && nmB t && ckE c k a
    | _ => false
  | .meth m o cs, k, e => match e with
    | .Call (.Attribute (.Name n p) a apos) [y, z] [] cpos => decide (m = "insert") && decide (a = Str.ofString "insert") && ckE o k (.Name n p) && ckEs cs k [y, z] && (apos.endLine == cpos.line)
    | .Call (.Attribute (.Name n p) a apos) [y] [] cpos => decide (m = "append") && decide (a = Str.ofString "append") && ckE o k (.Name n p) && ckEs cs k [y] && (apos.endLine == cpos.line)
    | _ => false
  | .ix a b, k, e => match e with
    | .Subscript x y _ => ckE a k x && ckE b k y
    | _ => false
  | .sl a lo hi, k, e => match e with
    | .Subscript x (.Slice l h none _) _ => ckE a k x && (match l with | none => isNonC lo | some y => ckE lo k y && !isNonC lo) && (match h with | none => isNonC hi | some y => ckE hi k y && !isNonC hi)
    | _ => false
  | .rev a, k, e => match e with
    | .Subscript x (.Slice none none (some (.UnaryOp .USub (.Constant (.int 1) _ _) _)) _) _ => ckE a k x
    | _ => false
  | .lc c t it ifs own, k, e => match e with
    | .ListComp elt [⟨tg, iter, cs, 0⟩] scope _ => blkC k.N k.sc scope (own.map fun i => (k.N.getD i Str.empty, i)) && ckI it k tg iter && ckG t (k.blk scope) tg && ckIf ifs (k.blk scope) cs && ckE c (k.blk scope) elt && (tsl t).all fun i => decide (i ∈ own)
    | _ => false
def ckEs : List C → Kt → List Expr → Bool
  | [], _, es => match es with
    | [] => true
    | _ => false
  | c :: cs, k, es => match es with
    | e :: es => ckE c k e && ckEs cs k es
    | [] => false
def ckSp : List C → List Bool → Kt → List Expr → Bool
  | [], fl, _, es => match fl, es with
    | [], [] => true
    | _, _ => false
  | c :: cs, fl, k, es => match fl, es with
    | true :: fl, .Starred e _ :: es => ckE c k e && ckSp cs fl k es
    | false :: fl, e :: es => ckE c k e && ckSp cs fl k es
    | _, _ => false
def ckIf : List C → Kt → List Expr → Bool
  | [], _, es => match es with
    | [] => true
    | _ => false
  | c :: cs, k, es => match es with
    | [e] => ckE c k e && cs.isEmpty
    | _ => false
def ckG : CT → Kt → Expr → Bool
  | .name i, k, e => match e with
    | .Name x _ => decide (k.N[i]? = some x) && locB k x
    | _ => false
  | .tup ts, k, e => match e with
    | .Tuple es _ _ => ckGs ts k es
    | _ => false
  | .sub a b, k, e => match e with
    | .Subscript o i _ => ckE a k o && ckE b k i
    | _ => false
def ckGs : List CT → Kt → List Expr → Bool
  | [], _, es => match es with
    | [] => true
    | _ => false
  | t :: ts, k, es => match es with
    | e :: es => ckG t k e && ckGs ts k es
    | [] => false
def ckI : CI → Kt → Expr → Expr → Bool
  | .seq a, k, _, e => ckE a k e
  | .rng1 a, k, _, e => match e with
    | .Call (.Name x _) [y] [] _ => decide (x = ("range" : Str)) && decide (x ∈ k.free) && glB k.sc x && ckE a k y
    | _ => false
  | .rng2 a b, k, _, e => match e with
    | .Call (.Name x _) [y, z] [] _ => decide (x = ("range" : Str)) && decide (x ∈ k.free) && glB k.sc x && ckE a k y && ckE b k z
    | _ => false
  | .enm a, k, tg, e => match tg, e with
    | .Tuple _ _ _, .Call (.Name x _) [y] [] _ => decide (x = ("enumerate" : Str)) && decide (x ∈ k.free) && glB k.sc x && ckE a k y
    | _, _ => false
  | .zip a b, k, tg, e => match tg, e with
    | .Tuple _ _ _, .Call (.Name x _) [y, z] [] _ => decide (x = ("zip" : Str)) && decide (x ∈ k.free) && glB k.sc x && ckE a k y && ckE b k z
    | _, _ => false
end
theorem ckE_plain : ∀ {c : C} {k : Kt} {e : Expr}, ckE c k e = true → plainX e = true := by
  intro c k e h
  cases e with
  | Starred _ _ => cases c <;> simp only [ckE] at h <;> cases h
  | Set _ _ _ => cases c <;> simp only [ckE] at h <;> cases h
  | Slice _ _ _ _ => cases c <;> simp only [ckE] at h <;> cases h
  | _ => rfl
theorem ckG_plain : ∀ {c : CT} {k : Kt} {e : Expr}, ckG c k e = true → plainX e = true := by
  intro c k e h
  cases e with
  | Starred _ _ => cases c <;> simp only [ckG] at h <;> cases h
  | Set _ _ _ => cases c <;> simp only [ckG] at h <;> cases h
  | Slice _ _ _ _ => cases c <;> simp only [ckG] at h <;> cases h
  | _ => rfl
section
variable {X : Cx} {k : Kc}
theorem t_none {e : Expr} {c : C} (h : ∀ δ S, evT k.g c δ S = none) : PT X e (tTv X.K k.g c) := ⟨fun pins s σ H Q I ⟨μ, δ, S, b, S', E, R, e1, q⟩ => by rw [h] at e1; cases e1⟩
theorem not_non {c : C} (h : isNonC c = false) {G : GE} : True := True.intro
end
end Dn

set_option maxHeartbeats 4000000
namespace Dn
open PySem PySem.Spec PyProof.Rows L2
theorem own_map (N : List Str) (own : List Nat) : (own.map fun i => (N.getD i Str.empty, i)).map (·.2) = own := by
  induction own with
  | nil => rfl
  | cons i r ih => rw [List.map_cons, List.map_cons, ih]
theorem ckEs_plain : ∀ {cs : List C} {k : Kt} {es : List Expr}, ckEs cs k es = true → es.all plainX = true ∧ es.length = cs.length
  | [], k, [], h => ⟨rfl, rfl⟩
  | [], k, _ :: _, h => by simp only [ckEs] at h; cases h
  | c :: cs, k, [], h => by simp only [ckEs] at h; cases h
  | c :: cs, k, e :: es, h => by
    simp only [ckEs, Bool.and_eq_true] at h
    obtain ⟨h1, h2⟩ := ckEs_plain h.2
    exact ⟨by rw [List.all_cons, ckE_plain h.1, h1]; rfl, by rw [List.length_cons, List.length_cons, h2]⟩
theorem ckGs_plain : ∀ {cs : List CT} {k : Kt} {es : List Expr}, ckGs cs k es = true → es.all plainX = true ∧ es.length = cs.length
  | [], k, [], h => ⟨rfl, rfl⟩
  | [], k, _ :: _, h => by simp only [ckGs] at h; cases h
  | c :: cs, k, [], h => by simp only [ckGs] at h; cases h
  | c :: cs, k, e :: es, h => by
    simp only [ckGs, Bool.and_eq_true] at h
    obtain ⟨h1, h2⟩ := ckGs_plain h.2
    exact ⟨by rw [List.all_cons, ckG_plain h.1, h1]; rfl, by rw [List.length_cons, List.length_cons, h2]⟩
theorem nostarI {e : Expr} {p : Pos} {ct : CI} {k : Kt} {tg : Expr} (h : ckI ct k tg e = true) : plainX e = true := by
  cases e with
  | Starred _ _ => cases ct <;> simp only [ckI] at h <;> first | (cases h; done) | exact ckE_plain h | (cases tg <;> simp at h)
  | Set _ _ _ => cases ct <;> simp only [ckI] at h <;> first | (cases h; done) | exact ckE_plain h | (cases tg <;> simp at h)
  | Slice _ _ _ _ => cases ct <;> simp only [ckI] at h <;> first | (cases h; done) | exact ckE_plain h | (cases tg <;> simp at h)
  | _ => rfl
theorem ks_of {X : Cx} {k : Kc} : ∀ {kws : List Keyword} {cs : List C}, PA X (kws.map (·.value)) (tEvs X.K k.g cs) → True := fun _ => trivial
def OkE (c : C) : Prop := ∀ {X : Cx} {k : Kc} {e : Expr}, KcOk X k → ckE c k.toKt e = true → PE X e (tEv X.K k.g c) ∧ PT X e (tTv X.K k.g c)
def OkEs (cs : List C) : Prop := ∀ {X : Cx} {k : Kc} {es : List Expr}, KcOk X k → ckEs cs k.toKt es = true → PA X es (tEvs X.K k.g cs)
def OkKs (cs : List C) : Prop := ∀ {X : Cx} {k : Kc} {es : List Keyword}, KcOk X k → ckEs cs k.toKt (es.map (·.value)) = true → PK X es (tEvs X.K k.g cs)
def OkIf (cs : List C) : Prop := ∀ {X : Cx} {k : Kc} {es : List Expr}, KcOk X k → ckIf cs k.toKt es = true → PTs X es (tIfv X.K k.g cs)
def OkG (t : CT) : Prop := ∀ {X : Cx} {k : Kc} {e : Expr}, KcOk X k → ckG t k.toKt e = true → PG X e (gEv X.K k.g t)
def OkGs (ts : List CT) : Prop := ∀ {X : Cx} {k : Kc} {es : List Expr}, KcOk X k → ckGs ts k.toKt es = true → PGs X es (gEvs X.K k.g ts)
def OkI (it : CI) : Prop := ∀ {X : Cx} {k : Kc} {tg e : Expr}, KcOk X k → ckI it k.toKt tg e = true → PI X tg e (tIt X.K k.g it)
section
open Lean.Parser.Tactic
theorem okE_non : OkE .non := fun {X k e} hk h => by
  simp only [ckE] at h
  split at h
  · exact ⟨e_non, t_none fun δ S => by simp only [evT]⟩
  · cases h
theorem okE_bl {b : Bool} : OkE (.bl b) := fun {X k e} hk h => by
  simp only [ckE] at h
  split at h
  · simp only [beq_iff_eq] at h
    subst h
    exact ⟨e_bl, t_bl e_bl⟩
  · cases h
theorem okE_int {b : Int} : OkE (.int b) := fun {X k e} hk h => by
  simp only [ckE] at h
  split at h
  · simp only [decide_eq_true_eq] at h
    subst h
    exact ⟨e_int, t_none fun δ S => by simp only [evT]⟩
  · cases h
theorem okE_str {b : Str} : OkE (.str b) := fun {X k e} hk h => by
  simp only [ckE] at h
  split at h
  · simp only [decide_eq_true_eq] at h
    subst h
    exact ⟨e_str, t_none fun δ S => by simp only [evT]⟩
  · cases h
theorem okE_var {i : Nat} : OkE (.var i) := fun {X k e} hk h => by
  simp only [ckE] at h
  split at h
  · simp only [Bool.and_eq_true, decide_eq_true_eq] at h
    have w := e_var (pos := by assumption) hk h.1.1 h.1.2 h.2
    exact ⟨w, t_var w⟩
  · cases h
theorem okE_glo {x : Str} : OkE (.glo x) := fun {X k e} hk h => by
  simp only [ckE] at h
  split at h
  · simp only [Bool.and_eq_true, decide_eq_true_eq] at h
    obtain ⟨⟨⟨rfl, h1⟩, h2⟩, h3⟩ := h
    exact ⟨e_glo hk h1 h2 (hk.dn _ h3), t_none fun δ S => by simp only [evT]⟩
  · cases h
theorem okE_tup {cs : List C} (I : OkEs cs) : OkE (.tup cs) := fun {X k e} hk h => by
  simp only [ckE] at h
  split at h
  · exact ⟨e_tup (I hk h), t_none fun δ S => by simp only [evT]⟩
  · cases h
theorem okE_lst {own : Option Bool} {cs : List C} (I : OkEs cs) : OkE (.lst own cs) := fun {X k e} hk h => by
  simp only [ckE] at h
  split at h
  · exact ⟨e_lst (I hk h), t_none fun δ S => by simp only [evT]⟩
  · cases h
theorem okE_dic0 : OkE .dic0 := fun {X k e} hk h => by
  simp only [ckE] at h
  split at h
  · exact ⟨e_dic0, t_none fun δ S => by simp only [evT]⟩
  · cases h
theorem okE_dic1 {x : Str} {i : Int} : OkE (.dic1 x i) := fun {X k e} hk h => by
  simp only [ckE] at h
  split at h
  · simp only [Bool.and_eq_true, decide_eq_true_eq] at h
    obtain ⟨rfl, rfl⟩ := h
    exact ⟨e_dic1, t_none fun δ S => by simp only [evT]⟩
  · cases h
theorem okE_zipV {t : Bool} {own : Option Bool} {a b : C} (A : OkE a) (B : OkE b) : OkE (.zipV t own a b) := fun {X k e} hk h => by
  simp only [ckE] at h
  split at h
  · simp only [Bool.and_eq_true, decide_eq_true_eq] at h
    obtain ⟨⟨⟨⟨⟨⟨⟨h1, h2⟩, h3⟩, h4⟩, h5⟩, h6⟩, h7⟩, h8⟩ := h
    subst h2
    cases t with
    | true =>
      rw [if_pos rfl] at h1
      subst h1
      exact ⟨e_tzip hk (A hk h7).1 (B hk h8).1 (ckE_plain h7) (ckE_plain h8) h3 h4 h5 h6, t_none fun δ S => by simp only [evT]⟩
    | false =>
      rw [if_neg (by decide)] at h1
      subst h1
      exact ⟨e_lzip hk (A hk h7).1 (B hk h8).1 (ckE_plain h7) (ckE_plain h8) h3 h4 h5 h6, t_none fun δ S => by simp only [evT]⟩
  · cases h
def OkSp (cs : List C) : Prop := ∀ {X : Cx} {k : Kc} {fl : List Bool} {es : List Expr}, KcOk X k → ckSp cs fl k.toKt es = true → PA X es (tEvS X.K k.g cs fl)
theorem okE_tupS {cs : List C} {fl : List Bool} (I : OkSp cs) : OkE (.tupS cs fl) := fun {X k e} hk h => by
  simp only [ckE] at h
  split at h
  · exact ⟨e_tupS (I hk h), t_none fun δ S => by simp only [evT]⟩
  · cases h
theorem okSp_nil : OkSp [] := fun {X k fl es} hk h => by
  simp only [ckSp] at h
  split at h
  · exact sps_nil
  · cases h
theorem okSp_cons {c : C} {cs : List C} (A : OkE c) (B : OkSp cs) : OkSp (c :: cs) := fun {X k fl es} hk h => by
  simp only [ckSp] at h
  split at h
  · simp only [Bool.and_eq_true] at h
    exact sps_star (A hk h.1).1 (B hk h.2)
  · simp only [Bool.and_eq_true] at h
    exact sps_cons (A hk h.1).1 (B hk h.2) (ckE_plain h.1)
  · cases h
theorem okE_din {c : C} {x : Str} {kvs : List (Str × Int)} (A : OkE c) : OkE (.din c x kvs) := fun {X k e} hk h => by
  simp only [ckE] at h
  split at h
  · simp only [Bool.and_eq_true, decide_eq_true_eq] at h
    obtain ⟨⟨⟨⟨rfl, h2⟩, h3⟩, h4⟩, h5⟩ := h
    exact ⟨e_din hk (A hk h2).1 h3 h4 h5, t_din hk (A hk h2).1 h3 h4 h5⟩
  · cases h
theorem okE_dix {c : C} {x : Str} {kvs : List (Str × Int)} (A : OkE c) : OkE (.dix x kvs c) := fun {X k e} hk h => by
  simp only [ckE] at h
  split at h
  · simp only [Bool.and_eq_true, decide_eq_true_eq] at h
    obtain ⟨⟨⟨⟨rfl, h2⟩, h3⟩, h4⟩, h5⟩ := h
    exact ⟨e_dix hk (A hk h2).1 (ckE_plain h2) h3 h4 h5, t_none fun δ S => by simp only [evT]⟩
  · cases h
theorem okE_mkxK' {cn f : Str} {cs : List C} (A : OkEs cs) (B : OkKs cs) : OkE (.mkx cn f cs) := fun {X k e} hk h => by
  refine ⟨?_, t_none fun δ S => by simp only [evT]⟩
  unfold ckE at h
  split at h
  · rename_i c x p1 y p2
    simp only [Bool.and_eq_true, decide_eq_true_eq] at h
    obtain ⟨⟨⟨⟨rfl, h1⟩, h2⟩, h3⟩, h4⟩ := h
    have w : ckEs [c] k.toKt [y] = true := by simp only [ckEs, h4, Bool.and_self]
    exact e_mkx1 hk (A hk w) (ckE_plain h4) h1 h2 h3
  · rename_i c x p1 g y kp p2
    simp only [Bool.and_eq_true, decide_eq_true_eq] at h
    obtain ⟨⟨⟨⟨⟨rfl, rfl⟩, h1⟩, h2⟩, h3⟩, h4⟩ := h
    have w : ckEs [c] k.toKt ([(⟨some g, y, kp⟩ : Keyword)].map (·.value)) = true := by simp only [List.map_cons, List.map_nil, ckEs, h4, Bool.and_self]
    exact e_mkxK hk (B hk w) h1 h2 h3
  · simp only [Bool.and_eq_true, decide_eq_true_eq] at h
    obtain ⟨⟨⟨rfl, h1⟩, h2⟩, h3⟩ := h
    exact e_mkx0 hk h1 h2 h3
  · cases h
theorem okE_fld {c : C} {f : Str} {tab : List (Str × Option Str)} (A : OkE c) : OkE (.fld c f tab) := fun {X k e} hk h => by
  refine ⟨?_, t_none fun δ S => by simp only [evT]⟩
  simp only [ckE] at h
  split at h
  · simp only [Bool.and_eq_true, decide_eq_true_eq] at h
    obtain ⟨⟨rfl, rfl⟩, h1⟩ := h
    exact e_fld hk (A hk h1).1
  · cases h
theorem okE_isx {c : C} {T : Str} {cs : List Str} {tab : List (Str × Option Str)} (A : OkE c) : OkE (.isx c T cs tab) := fun {X k e} hk h => by
  refine ⟨?_, t_none fun δ S => by simp only [evT]⟩
  simp only [ckE] at h
  split at h
  · simp only [Bool.and_eq_true, decide_eq_true_eq] at h
    obtain ⟨⟨⟨⟨⟨⟨⟨⟨h1, rfl⟩, rfl⟩, h4⟩, h5⟩, h6⟩, h7⟩, h8⟩, h9⟩ := h
    exact e_isx hk (A hk h9).1 (ckE_plain h9) h1 h4 h5 h6 h7 h8
  · cases h
theorem okE_cat {kp : Bool} {a b : C} (A : OkE a) (B : OkE b) : OkE (.cat kp a b) := fun {X k e} hk h => by
  simp only [ckE] at h
  split at h
  · simp only [Bool.and_eq_true] at h
    exact ⟨e_cat (A hk h.1).1 (B hk h.2).1, t_none fun δ S => by simp only [evT]⟩
  · cases h
theorem okE_bin {o : Operator} {a b : C} (A : OkE a) (B : OkE b) : OkE (.bin o a b) := fun {X k e} hk h => by
  simp only [ckE] at h
  split at h
  · simp only [Bool.and_eq_true, decide_eq_true_eq] at h
    obtain ⟨⟨rfl, h1⟩, h2⟩ := h
    exact ⟨e_bin (A hk h1).1 (B hk h2).1, t_none fun δ S => by simp only [evT]⟩
  · cases h
theorem okE_neg {a : C} (A : OkE a) : OkE (.neg a) := fun {X k e} hk h => by
  simp only [ckE] at h
  split at h
  · exact ⟨e_neg (A hk h).1, t_none fun δ S => by simp only [evT]⟩
  · cases h
theorem okE_not {a : C} (A : OkE a) : OkE (.not a) := fun {X k e} hk h => by
  simp only [ckE] at h
  split at h
  · exact ⟨e_not (A hk h).1, t_not (A hk h).2⟩
  · cases h
theorem okE_cmp {o : CmpOp} {a b : C} (A : OkE a) (B : OkE b) : OkE (.cmp o a b) := fun {X k e} hk h => by
  simp only [ckE] at h
  split at h
  · simp only [Bool.and_eq_true, decide_eq_true_eq] at h
    obtain ⟨⟨rfl, h1⟩, h2⟩ := h
    exact ⟨e_cmp hk (A hk h1).1 (B hk h2).1 (ckE_plain h2), t_cmp hk (A hk h1).1 (B hk h2).1 (ckE_plain h2)⟩
  · cases h
theorem okE_cmp2 {o p : CmpOp} {a b c : C} (A : OkE a) (B : OkE b) (D : OkE c) : OkE (.cmp2 o p a b c) := fun {X k e} hk h => by
  simp only [ckE] at h
  split at h
  · simp only [Bool.and_eq_true, decide_eq_true_eq] at h
    obtain ⟨⟨⟨⟨rfl, rfl⟩, h1⟩, h2⟩, h3⟩ := h
    exact ⟨e_cmp2 hk (A hk h1).1 (B hk h2).1 (D hk h3).1 (ckE_plain h3), t_cmp2 hk (A hk h1).1 (B hk h2).1 (D hk h3).1 (ckE_plain h3)⟩
  · cases h
theorem okE_and {a b : C} (A : OkE a) (B : OkE b) : OkE (.and a b) := fun {X k e} hk h => by
  simp only [ckE] at h
  split at h
  · simp only [Bool.and_eq_true] at h
    exact ⟨e_and (A hk h.1).1 (B hk h.2).1, t_and (A hk h.1).2 (B hk h.2).2⟩
  · cases h
theorem okE_or {a b : C} (A : OkE a) (B : OkE b) : OkE (.or a b) := fun {X k e} hk h => by
  simp only [ckE] at h
  split at h
  · simp only [Bool.and_eq_true] at h
    exact ⟨e_or (A hk h.1).1 (B hk h.2).1, t_or (A hk h.1).2 (B hk h.2).2⟩
  · cases h
theorem okE_ite {c a b : C} (A : OkE c) (B : OkE a) (D : OkE b) : OkE (.ite c a b) := fun {X k e} hk h => by
  simp only [ckE] at h
  split at h
  · simp only [Bool.and_eq_true] at h
    exact ⟨e_ite (A hk h.1.1).2 (B hk h.1.2).1 (D hk h.2).1, t_none fun δ S => by simp only [evT]⟩
  · cases h
theorem okE_call {f : Str} {cs : List C} (A : OkEs cs) : OkE (.call f cs) := fun {X k e} hk h => by
  simp only [ckE] at h
  split at h
  · simp only [Bool.and_eq_true, decide_eq_true_eq] at h
    obtain ⟨⟨⟨⟨rfl, h1⟩, h2⟩, h3⟩, h4⟩ := h
    rename_i es _
    obtain ⟨p1, p2⟩ := ckEs_plain h4
    cases es with
    | nil =>
      cases cs with
      | nil => exact ⟨e_call0 hk h1 h2 h3, t_call (e_call0 hk h1 h2 h3)⟩
      | cons c cs => cases p2
    | cons e es => exact ⟨e_call hk (A hk h4) p1 h1 h2 h3, t_call (e_call hk (A hk h4) p1 h1 h2 h3)⟩
  · cases h
theorem okE_callK {f : Str} {cs : List C} {ks : List Str} {kes : List C} (A : OkEs cs) (B : OkKs kes) : OkE (.callK f cs ks kes) := fun {X k e} hk h => by
  simp only [ckE] at h
  split at h
  · simp only [Bool.and_eq_true, decide_eq_true_eq] at h
    obtain ⟨⟨⟨⟨⟨⟨⟨⟨rfl, h1⟩, h2⟩, h3⟩, h4⟩, h5⟩, h6⟩, h7⟩, h8⟩ := h
    obtain ⟨p1, p2⟩ := ckEs_plain h7
    exact ⟨e_callK hk (A hk h7) (B hk h8) p1 h4 h5 p2 h1 h6 h2 h3, t_none fun δ S => by simp only [evT]⟩
  · cases h
theorem okE_blt {f : String} {cs : List C} (A : OkEs cs) : OkE (.blt f cs) := fun {X k e} hk h => by
  simp only [ckE] at h
  split at h
  · simp only [Bool.and_eq_true] at h
    obtain ⟨⟨⟨⟨h1, h2⟩, h3⟩, h4⟩, h5⟩ := h
    rename_i x p es pos
    obtain ⟨p1, p2⟩ := ckEs_plain h3
    have w : PE X (.Call (.Name x p) es [] pos) (tEv X.K k.g (.blt f cs)) := by
      cases es with
      | nil => simp [nilE] at h4
      | cons e es =>
        split at h5
        · subst_vars
          simp only [decide_eq_true_eq] at h5
          exact e_gcd hk (A hk h3) p1 h5 h1 h2
        · simp only [Bool.and_eq_true, decide_eq_true_eq] at h5
          exact e_blt hk (A hk h3) p1 h5.1.1 h5.1.2 h5.2 h1 h2
    exact ⟨w, t_blt w⟩
  · cases h
theorem okE_isi {c : C} {T : String} (A : OkE c) : OkE (.isi c T) := fun {X k e} hk h => by
  simp only [ckE] at h
  split at h
  · simp only [Bool.and_eq_true, decide_eq_true_eq] at h
    obtain ⟨⟨⟨⟨⟨⟨⟨⟨h1, h2⟩, h3⟩, h4⟩, h5⟩, h6⟩, h7⟩, h8⟩, h9⟩ := h
    have w := fun p p2 pos => e_isi (p := p) (p2 := p2) (pos := pos) hk (A hk h9).1 (ckE_plain h9) h1 h2 h3 h4 h5 h6 h7 h8
    exact ⟨w _ _ _, t_isi (w _ _ _)⟩
  · cases h
theorem okE_meth {m : String} {o : C} {cs : List C} (A : OkE o) (B : OkEs cs) : OkE (.meth m o cs) := fun {X k e} hk h => by
  simp only [ckE] at h
  split at h
  · simp only [Bool.and_eq_true, decide_eq_true_eq] at h
    obtain ⟨⟨⟨⟨rfl, h2⟩, h3⟩, h4⟩, h5⟩ := h
    have p1 := (ckEs_plain h4).1
    simp only [List.all_cons, List.all_nil, Bool.and_true, Bool.and_eq_true] at p1
    exact ⟨e_insert (A hk h3).1 (B hk h4) ⟨_, _, rfl⟩ h2 p1.1 p1.2 h5, t_none fun δ S => by simp only [evT]⟩
  · simp only [Bool.and_eq_true, decide_eq_true_eq] at h
    obtain ⟨⟨⟨⟨rfl, h2⟩, h3⟩, h4⟩, h5⟩ := h
    have p1 := (ckEs_plain h4).1
    refine ⟨e_append (A hk h3).1 (B hk h4) ⟨_, _, rfl⟩ h2 ?_ h5, t_none fun δ S => by simp only [evT]⟩
    simpa using p1
  · cases h
theorem okE_ix {a b : C} (A : OkE a) (B : OkE b) : OkE (.ix a b) := fun {X k e} hk h => by
  simp only [ckE] at h
  split at h
  · simp only [Bool.and_eq_true] at h
    have w := fun p => e_ix (pos := p) hk (A hk h.1).1 (B hk h.2).1 (ckE_plain h.2)
    exact ⟨w _, t_ix (w _)⟩
  · cases h
theorem okE_sl {a l u : C} (A : OkE a) (B : OkE l) (D : OkE u) : OkE (.sl a l u) := fun {X k e} hk h => by
  simp only [ckE] at h
  split at h
  · simp only [Bool.and_eq_true] at h
    obtain ⟨⟨h1, h2⟩, h3⟩ := h
    have part : ∀ {l : C} {o : Option Expr}, OkE l → (match o with | none => isNonC l | some y => ckE l k.toKt y && !isNonC l) = true → PO X o (tPt X.K k.g l) := fun {l o} B h => by
      cases o with
      | none =>
        cases l <;> simp only [isNonC] at h <;> first | exact o_none | cases h
      | some y =>
        simp only [Bool.and_eq_true, Bool.not_eq_true'] at h
        exact o_some (B hk h.1).1 h.2
    exact ⟨e_sl (A hk h1).1 (part B h2) (part D h3), t_none fun δ S => by simp only [evT]⟩
  · cases h
theorem lc_parts {c : C} {t : CT} {it : CI} {ifs : List C} {own : List Nat} {k : Kt} {elt tg iter : Expr} {cs : List Expr} {scope : Scope} {pos : Pos} (h : ckE (.lc c t it ifs own) k (.ListComp elt [⟨tg, iter, cs, 0⟩] scope pos) = true) :
    blkC k.N k.sc scope (own.map fun i => (k.N.getD i Str.empty, i)) = true ∧ ckI it k tg iter = true ∧ ckG t (k.blk scope) tg = true ∧ ckIf ifs (k.blk scope) cs = true ∧ ckE c (k.blk scope) elt = true ∧ ∀ i ∈ tsl t, i ∈ own := by
  simp only [ckE, Bool.and_eq_true, List.all_eq_true, decide_eq_true_eq] at h
  obtain ⟨⟨⟨⟨⟨h1, h2⟩, h3⟩, h4⟩, h5⟩, h6⟩ := h
  exact ⟨h1, h2, h3, h4, h5, h6⟩
theorem okE_lc {c : C} {t : CT} {it : CI} {ifs : List C} {own : List Nat} (A : OkE c) (T : OkG t) (I : OkI it) (F : OkIf ifs) : OkE (.lc c t it ifs own) := fun {X k e} hk h => by
  refine ⟨?_, t_none fun δ S => by simp only [evT]⟩
  have h' := h
  simp only [ckE] at h
  split at h
  · obtain ⟨h1, h2, h3, h4, h5, h6⟩ := lc_parts h'
    have w := e_lc (pos := by assumption) hk (I hk h2) (nostarI (p := by assumption) h2) h1 (fun s H C cl fp => T (X := X.blk s H _ (compEnvC _ cl C X.env) fp) (k := k.blk _) hk.blk h3) (fun s H C cl fp => F (X := X.blk s H _ (compEnvC _ cl C X.env) fp) (k := k.blk _) hk.blk h4)
      (fun s H C cl fp => (A (X := X.blk s H _ (compEnvC _ cl C X.env) fp) (k := k.blk _) hk.blk h5).1) (by rw [own_map]; exact h6)
    rw [own_map] at w
    exact w
  · cases h
theorem okE_rev {a : C} (A : OkE a) : OkE (.rev a) := fun {X k e} hk h => by
  simp only [ckE] at h
  split at h
  · exact ⟨e_rev (A hk h).1, t_none fun δ S => by simp only [evT]⟩
  · cases h
theorem okEs_nil : OkEs [] := fun {X k es} hk h => by
  cases es with
  | nil => exact as_nil
  | cons e es => simp only [ckEs] at h; cases h
theorem okEs_cons {c : C} {cs : List C} (A : OkE c) (B : OkEs cs) : OkEs (c :: cs) := fun {X k es} hk h => by
  cases es with
  | nil => simp only [ckEs] at h; cases h
  | cons e es =>
    simp only [ckEs, Bool.and_eq_true] at h
    exact as_cons (A hk h.1).1 (B hk h.2) (ckE_plain h.1)
theorem okKs_nil : OkKs [] := fun {X k es} hk h => by
  cases es with
  | nil => exact ks_nil
  | cons e es => simp only [List.map_cons, ckEs] at h; cases h
theorem okKs_cons {c : C} {cs : List C} (A : OkE c) (B : OkKs cs) : OkKs (c :: cs) := fun {X k es} hk h => by
  cases es with
  | nil => simp only [List.map_nil, ckEs] at h; cases h
  | cons e es =>
    obtain ⟨n, e, p⟩ := e
    simp only [List.map_cons, ckEs, Bool.and_eq_true] at h
    exact ks_cons (A hk h.1).1 (B hk h.2)
theorem okIf_nil : OkIf [] := fun {X k es} hk h => by
  cases es with
  | nil => exact if_nil
  | cons e es => simp only [ckIf] at h; cases h
theorem okIf_cons {c : C} {cs : List C} (A : OkE c) : OkIf (c :: cs) := fun {X k es} hk h => by
  simp only [ckIf] at h
  split at h
  · simp only [Bool.and_eq_true, List.isEmpty_iff] at h
    obtain ⟨h1, rfl⟩ := h
    exact if_one (A hk h1).2
  · cases h
theorem okG_name {i : Nat} : OkG (.name i) := fun {X k e} hk h => by
  simp only [ckG] at h
  split at h
  · simp only [Bool.and_eq_true, decide_eq_true_eq] at h
    exact g_name hk h.1 h.2
  · cases h
theorem okG_tup {ts : List CT} (A : OkGs ts) : OkG (.tup ts) := fun {X k e} hk h => by
  simp only [ckG] at h
  split at h
  · obtain ⟨p1, p2⟩ := ckGs_plain h
    exact g_tup hk (A hk h) p1 p2
  · cases h
theorem okG_sub {a b : C} (A : OkE a) (B : OkE b) : OkG (.sub a b) := fun {X k e} hk h => by
  simp only [ckG] at h
  split at h
  · simp only [Bool.and_eq_true] at h
    exact g_sub (A hk h.1).1 (B hk h.2).1 (ckE_plain h.2)
  · cases h
theorem okGs_nil : OkGs [] := fun {X k es} hk h => by
  cases es with
  | nil => exact gs_nil
  | cons e es => simp only [ckGs] at h; cases h
theorem okGs_cons {c : CT} {cs : List CT} (A : OkG c) (B : OkGs cs) : OkGs (c :: cs) := fun {X k es} hk h => by
  cases es with
  | nil => simp only [ckGs] at h; cases h
  | cons e es =>
    simp only [ckGs, Bool.and_eq_true] at h
    exact gs_cons (A hk h.1) (B hk h.2) (ckG_plain h.1)
theorem okI_seq {a : C} (A : OkE a) : OkI (.seq a) := fun {X k tg e} hk h => by
  simp only [ckI] at h
  exact i_seq (A hk h).1
theorem okI_rng1 {a : C} (A : OkE a) : OkI (.rng1 a) := fun {X k tg e} hk h => by
  simp only [ckI] at h
  split at h
  · simp only [Bool.and_eq_true, decide_eq_true_eq] at h
    obtain ⟨⟨⟨h1, h2⟩, h3⟩, h4⟩ := h
    exact i_rng1 hk (A hk h4).1 (ckE_plain h4) h1 h2 h3
  · cases h
theorem okI_rng2 {a b : C} (A : OkE a) (B : OkE b) : OkI (.rng2 a b) := fun {X k tg e} hk h => by
  simp only [ckI] at h
  split at h
  · simp only [Bool.and_eq_true, decide_eq_true_eq] at h
    obtain ⟨⟨⟨⟨h1, h2⟩, h3⟩, h4⟩, h5⟩ := h
    exact i_rng2 hk (A hk h4).1 (B hk h5).1 (ckE_plain h4) (ckE_plain h5) h1 h2 h3
  · cases h
theorem okI_enm {a : C} (A : OkE a) : OkI (.enm a) := fun {X k tg e} hk h => by
  simp only [ckI] at h
  split at h
  · simp only [Bool.and_eq_true, decide_eq_true_eq] at h
    obtain ⟨⟨⟨h1, h2⟩, h3⟩, h4⟩ := h
    exact i_enm hk (A hk h4).1 (ckE_plain h4) h1 h2 h3
  · cases h
theorem okI_zip {a b : C} (A : OkE a) (B : OkE b) : OkI (.zip a b) := fun {X k tg e} hk h => by
  simp only [ckI] at h
  split at h
  · simp only [Bool.and_eq_true, decide_eq_true_eq] at h
    obtain ⟨⟨⟨⟨h1, h2⟩, h3⟩, h4⟩, h5⟩ := h
    exact i_zip hk (A hk h4).1 (B hk h5).1 (ckE_plain h4) (ckE_plain h5) h1 h2 h3
  · cases h
mutual
theorem okE : ∀ c : C, OkE c
  | .non => okE_non
  | .bl b => okE_bl
  | .int i => okE_int
  | .str x => okE_str
  | .var i => okE_var
  | .glo x => okE_glo
  | .tup es => okE_tup (okEs es)
  | .lst own es => okE_lst (okEs es)
  | .dic0 => okE_dic0
  | .dic1 x i => okE_dic1
  | .zipV t own a b => okE_zipV (okE a) (okE b)
  | .tupS es fl => okE_tupS (okSp es)
  | .din e x kvs => okE_din (okE e)
  | .dix x kvs e => okE_dix (okE e)
  | .mkx cn f es => okE_mkxK' (okEs es) (okKs es)
  | .fld e f tab => okE_fld (okE e)
  | .isx e T cs tab => okE_isx (okE e)
  | .cat kp a b => okE_cat (okE a) (okE b)
  | .bin o a b => okE_bin (okE a) (okE b)
  | .neg a => okE_neg (okE a)
  | .not a => okE_not (okE a)
  | .cmp o a b => okE_cmp (okE a) (okE b)
  | .cmp2 o p a b c => okE_cmp2 (okE a) (okE b) (okE c)
  | .and a b => okE_and (okE a) (okE b)
  | .or a b => okE_or (okE a) (okE b)
  | .ite c a b => okE_ite (okE c) (okE a) (okE b)
  | .call f es => okE_call (okEs es)
  | .callK f es ks kes => okE_callK (okEs es) (okKs kes)
  | .blt f es => okE_blt (okEs es)
  | .isi e T => okE_isi (okE e)
  | .meth m o es => okE_meth (okE o) (okEs es)
  | .ix a b => okE_ix (okE a) (okE b)
  | .sl a lo hi => okE_sl (okE a) (okE lo) (okE hi)
  | .rev a => okE_rev (okE a)
  | .lc elt t it ifs own => okE_lc (okE elt) (okG t) (okI it) (okIf ifs)
theorem okEs : ∀ cs : List C, OkEs cs
  | [] => okEs_nil
  | c :: cs => okEs_cons (okE c) (okEs cs)
theorem okSp : ∀ cs : List C, OkSp cs
  | [] => okSp_nil
  | c :: cs => okSp_cons (okE c) (okSp cs)
theorem okKs : ∀ cs : List C, OkKs cs
  | [] => okKs_nil
  | c :: cs => okKs_cons (okE c) (okKs cs)
theorem okIf : ∀ cs : List C, OkIf cs
  | [] => okIf_nil
  | c :: cs => okIf_cons (okE c)
theorem okG : ∀ t : CT, OkG t
  | .name i => okG_name
  | .tup ts => okG_tup (okGs ts)
  | .sub a b => okG_sub (okE a) (okE b)
theorem okGs : ∀ ts : List CT, OkGs ts
  | [] => okGs_nil
  | t :: ts => okGs_cons (okG t) (okGs ts)
theorem okI : ∀ it : CI, OkI it
  | .seq e => okI_seq (okE e)
  | .rng1 a => okI_rng1 (okE a)
  | .rng2 a b => okI_rng2 (okE a) (okE b)
  | .enm e => okI_enm (okE e)
  | .zip a b => okI_zip (okE a) (okE b)
end
end
end Dn

set_option maxHeartbeats 4000000
namespace Dn
open PySem PySem.Spec PyProof.Rows L2
def lcOfX : Expr → Option (Scope × Pos)
  | .ListComp _ _ scope pos => some (scope, pos)
  | _ => none
def isLcC : C → Bool
  | .lc _ _ _ _ _ => true
  | _ => false
def tupsX : Expr → Option (List Expr)
  | .Tuple es _ _ => some es
  | _ => none
mutual
def ckS : CS → Kt → Stmt → Bool
  | .expr c, k, st => match st with
    | .Expr e _ => ckE c k e && noLc e
    | _ => false
  | .asg t c, k, st => match st with
    | .Assign [tg] e _ => ckG t k tg && ckE c k e && (match lcOfX e with
      | some (scope, pos) => (match tg with
        | .Name y py => isLcC c && decide (k.sc.names.lookup y = some .local) && (py.line == pos.line) && !(scope.names.any fun (n, kd) => n == y && (kd == .local || kd == .cell))
        | _ => false)
      | none => noLc e && (match tupsX tg, tupsX e with
        | some ts, some vs => (match swOf k.sc ts vs with
          | some none => true
          | _ => false)
        | _, _ => true))
    | _ => false
  | .par i j a b, k, st => match st with
    | .Assign [.Tuple [.Name x px, .Name y py] _ _] (.Tuple [ea, eb] _ _) _ => ckE a k ea && ckE b k eb && decide (k.N[i]? = some x) && decide (k.N[j]? = some y) && decide (i ≠ j) && decide (k.sc.names.lookup x = some .local) && decide (k.sc.names.lookup y = some .local)
      && decide (swOf k.sc [.Name x px, .Name y py] [ea, eb] = some (some [x, y]))
    | _ => false
  | .par3 i j l a b c, k, st => match st with
    | .Assign [.Tuple [.Name x px, .Name y py, .Name z pz] _ _] (.Tuple [ea, eb, ec] _ _) _ => ckE a k ea && ckE b k eb && ckE c k ec && decide (k.N[i]? = some x) && decide (k.N[j]? = some y) && decide (k.N[l]? = some z) && decide (i ≠ j) && decide (i ≠ l) && decide (j ≠ l)
      && decide (k.sc.names.lookup x = some .local) && decide (k.sc.names.lookup y = some .local) && decide (k.sc.names.lookup z = some .local) && decide (swOf k.sc [.Name x px, .Name y py, .Name z pz] [ea, eb, ec] = some (some [x, y, z]))
    | _ => false
  | .ret c, k, st => match st with
    | .Return (some e) _ => ckE c k e
    | _ => false
  | .retN, _, st => match st with
    | .Return none _ => true
    | _ => false
  | .ife c a b, k, st => match st with
    | .If e x y _ => ckE c k e && ckSs a k x && ckSs b k y
    | _ => false
  | .for_ t it body, k, st => match st with
    | .For tg iter b [] _ => ckI it k tg iter && ckG t k tg && ckSs body k b
    | _ => false
  | .whl c body, k, st => match st with
    | .While e b [] _ => ckE c k e && ckSs body k b
    | _ => false
  | .aug _ _ _, _, _ => false
  | .pass, _, st => match st with
    | .Pass _ => true
    | _ => false
  | .brk, _, st => match st with
    | .Break _ => true
    | _ => false
  | .cont, _, st => match st with
    | .Continue _ => true
    | _ => false
  | .never, _, _ => true
def ckSs : List CS → Kt → List Stmt → Bool
  | [], _, sts => match sts with
    | [] => true
    | _ => false
  | s :: ss, k, sts => match sts with
    | st :: r => ckS s k st && ckSs ss k r
    | [] => false
end
def OkS (s : CS) : Prop := ∀ {X : Cx} {k : Kc} {st : Stmt}, KcOk X k → X.xe = (fun _ _ => False) → ckS s k.toKt st = true → PS X st (tSt X.K k.g s)
def OkSs (ss : List CS) : Prop := ∀ {X : Cx} {k : Kc} {sts : List Stmt}, KcOk X k → X.xe = (fun _ _ => False) → ckSs ss k.toKt sts = true → PSs X sts (tSts X.K k.g ss)
theorem okS_expr {c : C} : OkS (.expr c) := fun {X k st} hk hx h => by
  simp only [ckS] at h
  split at h
  · simp only [Bool.and_eq_true] at h
    exact s_expr (okE c hk h.1).1 h.2
  · cases h
theorem okS_asg {t : CT} {c : C} : OkS (.asg t c) := fun {X k st} hk hx h => by
  simp only [ckS] at h
  split at h
  · rename_i tg e p
    simp only [Bool.and_eq_true] at h
    obtain ⟨⟨h1, h2⟩, h3⟩ := h
    split at h3
    · rename_i scope pos hl
      split at h3
      · rename_i y py
        simp only [Bool.and_eq_true, decide_eq_true_eq, Bool.not_eq_true'] at h3
        obtain ⟨⟨⟨h4, h5⟩, h6⟩, h7⟩ := h3
        cases c <;> simp only [isLcC] at h4 <;> first | (cases h4; done) | skip
        rename_i c tt it ifs own
        cases e <;> simp only [lcOfX] at hl <;> first | (cases hl; done) | skip
        cases hl
        have h2' := h2
        simp only [ckE] at h2
        split at h2
        · rename_i heq
          cases heq
          obtain ⟨g1, g2, g3, g4, g5, g6⟩ := lc_parts h2'
          cases t with
          | name i =>
            simp only [ckG, Bool.and_eq_true, decide_eq_true_eq] at h1
            have w := s_lc (pos := _) (spos := p) (py := py) hk (okI it hk g2) (nostarI (p := py) g2) g1 (fun s H C cl fp => okG tt (X := X.blk s H _ (compEnvC _ cl C X.env) fp) (k := k.blk _) hk.blk g3) (fun s H C cl fp => okIf ifs (X := X.blk s H _ (compEnvC _ cl C X.env) fp) (k := k.blk _) hk.blk g4)
              (fun s H C cl fp => (okE c (X := X.blk s H _ (compEnvC _ cl C X.env) fp) (k := k.blk _) hk.blk g5).1) (by rw [own_map]; exact g6) h1.1 h5 h6 h7
            rw [own_map] at w
            exact w
          | tup ts => simp only [ckG] at h1; cases h1
          | sub a b => simp only [ckG] at h1; cases h1
        · cases h2
      · cases h3
    · simp only [Bool.and_eq_true] at h3
      obtain ⟨h4, h5⟩ := h3
      have hL : ∀ es p, tg ≠ .List es p := by
        rintro es p rfl
        cases t <;> simp only [ckG] at h1 <;> cases h1
      split at h5
      · rename_i ts vs e1 e2
        split at h5
        · rename_i hw
          cases tg <;> simp only [tupsX] at e1 <;> first | (cases e1; done) | skip
          cases e <;> simp only [tupsX] at e2 <;> first | (cases e2; done) | skip
          cases e1; cases e2
          exact s_asgT hk (okG t hk h1) (okE c hk h2).1 hw
        · cases h5
      · rename_i hn
        refine s_asg (okG t hk h1) (okE c hk h2).1 h4 (ckG_plain h1) ?_ hL
        cases tg <;> first | exact .inl rfl | skip
        cases e <;> first | exact .inr rfl | skip
        exact absurd rfl (hn _ _ rfl)
  · cases h
theorem okS_par {i j : Nat} {a b : C} : OkS (.par i j a b) := fun {X k st} hk hx h => by
  simp only [ckS] at h
  split at h
  · simp only [Bool.and_eq_true, decide_eq_true_eq] at h
    obtain ⟨⟨⟨⟨⟨⟨⟨h1, h2⟩, h3⟩, h4⟩, h5⟩, h6⟩, h7⟩, h8⟩ := h
    exact s_par hk (okE a hk h1).1 (okE b hk h2).1 (ckE_plain h1) (ckE_plain h2) h3 h4 h5 h6 h7 h8
  · cases h
theorem okS_par3 {i j l : Nat} {a b c : C} : OkS (.par3 i j l a b c) := fun {X k st} hk hx h => by
  simp only [ckS] at h
  split at h
  · simp only [Bool.and_eq_true, decide_eq_true_eq] at h
    obtain ⟨⟨⟨⟨⟨⟨⟨⟨⟨⟨⟨⟨h1, h2⟩, h3⟩, h4⟩, h5⟩, h6⟩, h7⟩, h8⟩, h9⟩, g1⟩, g2⟩, g3⟩, g4⟩ := h
    exact s_par3 hk (okE a hk h1).1 (okE b hk h2).1 (okE c hk h3).1 (ckE_plain h1) (ckE_plain h2) (ckE_plain h3) h4 h5 h6 h7 h8 h9 g1 g2 g3 g4
  · cases h
theorem okS_ret {c : C} : OkS (.ret c) := fun {X k st} hk hx h => by
  simp only [ckS] at h
  split at h
  · exact s_ret (okE c hk h).1
  · cases h
theorem okS_retN : OkS .retN := fun {X k st} hk hx h => by
  simp only [ckS] at h
  split at h
  · exact s_retN
  · cases h
theorem okS_pass : OkS .pass := fun {X k st} hk hx h => by
  simp only [ckS] at h
  split at h
  · exact s_pass
  · cases h
theorem okS_brk : OkS .brk := fun {X k st} hk hx h => by
  simp only [ckS] at h
  split at h
  · exact s_brk
  · cases h
theorem okS_cont : OkS .cont := fun {X k st} hk hx h => by
  simp only [ckS] at h
  split at h
  · exact s_cont
  · cases h
theorem okS_never : OkS .never := fun {X k st} hk hx h => s_never
theorem okS_aug {i : Nat} {o : Operator} {c : C} : OkS (.aug i o c) := fun {X k st} hk hx h => by
  simp only [ckS] at h
  cases h
theorem okS_ife {c : C} {a b : List CS} (A : OkSs a) (B : OkSs b) : OkS (.ife c a b) := fun {X k st} hk hx h => by
  simp only [ckS] at h
  split at h
  · simp only [Bool.and_eq_true] at h
    exact s_if (okE c hk h.1.1).2 (A hk hx h.1.2) (B hk hx h.2)
  · cases h
theorem okS_for {t : CT} {it : CI} {a : List CS} (A : OkSs a) : OkS (.for_ t it a) := fun {X k st} hk hx h => by
  simp only [ckS] at h
  split at h
  · rename_i p
    simp only [Bool.and_eq_true] at h
    exact s_for hk hx (okI it hk h.1.1) (okG t hk h.1.2) (A hk hx h.2) (nostarI (p := p) h.1.1)
  · cases h
theorem okS_whl {c : C} {a : List CS} (A : OkSs a) : OkS (.whl c a) := fun {X k st} hk hx h => by
  simp only [ckS] at h
  split at h
  · simp only [Bool.and_eq_true] at h
    exact s_whl hx (okE c hk h.1).2 (A hk hx h.2)
  · cases h
theorem okSs_nil : OkSs [] := fun {X k sts} hk hx h => by
  cases sts with
  | nil => exact ss_nil
  | cons e es => simp only [ckSs] at h; cases h
theorem okSs_cons {s : CS} {ss : List CS} (A : OkS s) (B : OkSs ss) : OkSs (s :: ss) := fun {X k sts} hk hx h => by
  cases sts with
  | nil => simp only [ckSs] at h; cases h
  | cons e es =>
    simp only [ckSs, Bool.and_eq_true] at h
    exact ss_cons (A hk hx h.1) (B hk hx h.2)
mutual
theorem okS : ∀ s : CS, OkS s
  | .expr e => okS_expr
  | .asg t e => okS_asg
  | .par i j a b => okS_par
  | .par3 i j l a b c => okS_par3
  | .ret e => okS_ret
  | .retN => okS_retN
  | .ife c a b => okS_ife (okSs a) (okSs b)
  | .for_ t it body => okS_for (okSs body)
  | .whl c body => okS_whl (okSs body)
  | .aug i o e => okS_aug
  | .pass => okS_pass
  | .brk => okS_brk
  | .cont => okS_cont
  | .never => okS_never
theorem okSs : ∀ ss : List CS, OkSs ss
  | [] => okSs_nil
  | s :: ss => okSs_cons (okS s) (okSs ss)
end
end Dn

set_option maxHeartbeats 4000000
namespace Dn
open PySem PySem.Spec PyProof.Rows L2
/-! ### the end of a call: its own objects are let go or frozen -/
def Mu.cut (μ : Mu) (n : Nat) : Mu := ⟨μ.ad.take n, μ.hid⟩
section
variable {K : PySem.W.Frag} {μ μ' : Mu} {H H' : Hp} {S S' S2 : Sto} {n : Nat}
theorem cut_fz {a : Addr} (h : μ.fz a) : (μ.cut n).fz a := ⟨fun q => h.1 (List.mem_of_mem_take q), h.2⟩
mutual
theorem Rep.below : ∀ {d : D} {v : V}, Rep K μ H d v → belowD μ.ad.length d = true
  | .non, v, h => rfl
  | .bl b, v, h => rfl
  | .int i, v, h => rfl
  | .str x, v, h => rfl
  | .tup ds, v, h => by
    simp only [Rep] at h; obtain ⟨a, vs, _, _, r⟩ := h
    simp only [belowD]; exact Reps.below r
  | .lst ds, v, h => by
    simp only [Rep] at h; obtain ⟨a, vs, _, _, _, r⟩ := h
    simp only [belowD]; exact Reps.below r
  | .scr ds, v, h => by
    simp only [Rep] at h; obtain ⟨a, vs, _, _, r⟩ := h
    simp only [belowD]; exact Reps.below r
  | .dic ks ds, v, h => by
    simp only [Rep] at h; obtain ⟨a, vs, _, _, _, _, r⟩ := h
    simp only [belowD]; exact Reps.below r
  | .exc C f ds, v, h => by
    simp only [Rep] at h; obtain ⟨a, c, vs, _, _, _, r⟩ := h
    simp only [belowD]; exact Reps.below r
  | .ref k, v, h => by
    simp only [Rep] at h; obtain ⟨a, _, e⟩ := h
    simp only [belowD, decide_eq_true_eq]
    exact (List.getElem?_eq_some_iff.mp e).1
theorem Reps.below : ∀ {ds : List D} {vs : List V}, Reps K μ H ds vs → belowDs μ.ad.length ds = true
  | [], vs, h => by simp only [belowDs]
  | d :: ds, vs, h => by
    obtain ⟨v, r, rfl, p, t⟩ := reps_cons.mp h
    simp only [belowDs, Bool.and_eq_true]
    exact ⟨Rep.below p, Reps.below t⟩
end
mutual
theorem Rep.cut : ∀ {d : D} {v : V}, belowD n d = true → Rep K μ H d v → Rep K (μ.cut n) H d v
  | .non, v, b, h => by simpa only [Rep] using h
  | .bl _, v, b, h => by simpa only [Rep] using h
  | .int i, v, b, h => by simpa only [Rep] using h
  | .str x, v, b, h => by simpa only [Rep] using h
  | .tup ds, v, b, h => by
    simp only [Rep] at h ⊢; obtain ⟨a, vs, h1, h2, r⟩ := h
    simp only [belowD] at b; exact ⟨a, vs, h1, h2, Reps.cut b r⟩
  | .lst ds, v, b, h => by
    simp only [Rep] at h ⊢; obtain ⟨a, vs, h1, h2, h3, r⟩ := h
    simp only [belowD] at b; exact ⟨a, vs, h1, cut_fz h2, h3, Reps.cut b r⟩
  | .scr ds, v, b, h => by
    simp only [Rep] at h ⊢; obtain ⟨a, vs, h1, h2, r⟩ := h
    simp only [belowD] at b; exact ⟨a, vs, h1, h2, Reps.cut b r⟩
  | .dic ks ds, v, b, h => by
    simp only [Rep] at h ⊢; obtain ⟨a, vs, h1, h2, h3, h4, r⟩ := h
    simp only [belowD] at b; exact ⟨a, vs, h1, cut_fz h2, h3, h4, Reps.cut b r⟩
  | .exc C f ds, v, b, h => by
    simp only [Rep] at h ⊢; obtain ⟨a, c, vs, h1, h2, h3, r⟩ := h
    simp only [belowD] at b; exact ⟨a, c, vs, h1, h2, h3, Reps.cut b r⟩
  | .ref k, v, b, h => by
    simp only [Rep] at h ⊢; obtain ⟨a, h1, e⟩ := h
    simp only [belowD, decide_eq_true_eq] at b
    refine ⟨a, h1, ?_⟩
    show (μ.ad.take n)[k]? = some a
    rw [List.getElem?_take, if_pos b]; exact e
theorem Reps.cut : ∀ {ds : List D} {vs : List V}, belowDs n ds = true → Reps K μ H ds vs → Reps K (μ.cut n) H ds vs
  | [], vs, b, h => by rw [reps_nil.mp h]; exact Reps.nil
  | d :: ds, vs, b, h => by
    obtain ⟨v, r, rfl, p, t⟩ := reps_cons.mp h
    simp only [belowDs, Bool.and_eq_true] at b
    exact Reps.cons (Rep.cut b.1 p) (Reps.cut b.2 t)
end
mutual
theorem fz_ok {g : Nat → Option D} (hg : ∀ k d v, n ≤ k → g k = some d → Rep K μ H (.ref k) v → Rep K (μ.cut n) H d v) : ∀ {d x : D} {v : V}, fzD n g d = some x → Rep K μ H d v → Rep K (μ.cut n) H x v
  | .non, x, v, e, h => by simp only [fzD] at e; cases e; exact Rep.cut rfl h
  | .bl _, x, v, e, h => by simp only [fzD] at e; cases e; exact Rep.cut rfl h
  | .int i, x, v, e, h => by simp only [fzD] at e; cases e; exact Rep.cut rfl h
  | .str _, x, v, e, h => by simp only [fzD] at e; cases e; exact Rep.cut rfl h
  | .tup ds, x, v, e, h => by
    simp only [fzD] at e
    obtain ⟨xs, e1, rfl⟩ := mapS e
    simp only [Rep] at h ⊢; obtain ⟨a, vs, h1, h2, r⟩ := h
    exact ⟨a, vs, h1, h2, fzs_ok hg e1 r⟩
  | .lst ds, x, v, e, h => by
    simp only [fzD] at e
    obtain ⟨xs, e1, rfl⟩ := mapS e
    simp only [Rep] at h ⊢; obtain ⟨a, vs, h1, h2, h3, r⟩ := h
    exact ⟨a, vs, h1, cut_fz h2, h3, fzs_ok hg e1 r⟩
  | .scr ds, x, v, e, h => by
    simp only [fzD] at e
    obtain ⟨xs, e1, rfl⟩ := mapS e
    simp only [Rep] at h ⊢; obtain ⟨a, vs, h1, h2, r⟩ := h
    exact ⟨a, vs, h1, h2, fzs_ok hg e1 r⟩
  | .dic ks ds, x, v, e, h => by
    simp only [fzD] at e
    obtain ⟨xs, e1, rfl⟩ := mapS e
    simp only [Rep] at h ⊢; obtain ⟨a, vs, h1, h2, h3, h4, r⟩ := h
    exact ⟨a, vs, h1, cut_fz h2, h3, h4, fzs_ok hg e1 r⟩
  | .exc C f ds, x, v, e, h => by
    simp only [fzD] at e
    obtain ⟨xs, e1, rfl⟩ := mapS e
    simp only [Rep] at h ⊢; obtain ⟨a, c, vs, h1, h2, h3, r⟩ := h
    exact ⟨a, c, vs, h1, h2, h3, fzs_ok hg e1 r⟩
  | .ref k, x, v, e, h => by
    simp only [fzD] at e
    split at e
    · rename_i hk
      cases e
      exact Rep.cut (by simp only [belowD, decide_eq_true_eq]; exact hk) h
    · rename_i hk
      exact hg k x v (Nat.le_of_not_lt hk) e h
theorem fzs_ok {g : Nat → Option D} (hg : ∀ k d v, n ≤ k → g k = some d → Rep K μ H (.ref k) v → Rep K (μ.cut n) H d v) : ∀ {ds xs : List D} {vs : List V}, fzDs n g ds = some xs → Reps K μ H ds vs → Reps K (μ.cut n) H xs vs
  | [], xs, vs, e, h => by simp only [fzDs] at e; cases e; rw [reps_nil.mp h]; exact Reps.nil
  | d :: ds, xs, vs, e, h => by
    simp only [fzDs] at e
    obtain ⟨x, e1, e2⟩ := bindS e
    obtain ⟨r, e3, rfl⟩ := mapS e2
    obtain ⟨v, us, rfl, p, t⟩ := reps_cons.mp h
    exact Reps.cons (fz_ok hg e1 p) (fzs_ok hg e3 t)
end
theorem fzR_ok (R : Rl K μ H S) : ∀ (m k : Nat) (d : D) (v : V), n ≤ k → fzR S n m k = some d → Rep K μ H (.ref k) v → Rep K (μ.cut n) H d v
  | 0, k, d, v, hk, e, h => by cases e
  | m + 1, k, d, v, hk, e, h => by
    simp only [fzR] at e
    split at e
    · rename_i kp xs hS
      obtain ⟨ys, e1, rfl⟩ := mapS e
      simp only [Rep] at h ⊢
      obtain ⟨a, rfl, ha⟩ := h
      obtain ⟨vs, h1, h2⟩ := R.at_ k _ a hS ha
      refine ⟨a, vs, rfl, ⟨fun q => ?_, fun q => R.sep a q (List.mem_of_getElem? ha)⟩, h1, fzs_ok (fun k d v hk e h => fzR_ok R m k d v hk e h) e1 h2⟩
      obtain ⟨j, hj, ej⟩ := List.mem_iff_getElem.mp (show a ∈ μ.ad.take n from q)
      rw [List.getElem_take] at ej
      have hj2 : j < n := by rw [List.length_take] at hj; omega
      have hk2 := (List.getElem?_eq_some_iff.mp ha)
      obtain ⟨hk3, ek⟩ := hk2
      exact List.pairwise_iff_getElem.mp R.nd j k (by rw [List.length_take] at hj; omega) hk3 (by omega) (ej.trans ek.symm)
    · cases e
theorem gc_ok {d0 d : D} {Q : VK} (R : Rl K μ H S) (e : gc S d0 S2 = some (d, S')) (q : Pst K μ H S' d Q) : Pst K μ H S2 d0 Q := by
  unfold gc at e
  split at e
  · cases e; exact q
  split at e
  · cases e; exact q
  split at e
  · rename_i h1 h2 hg
    obtain ⟨x, e1, e2⟩ := mapS e
    cases e2
    intro v H' μ' E' R' r
    obtain ⟨ν, en, nn⟩ := E'.pre
    have hcut : (μ'.cut S.length).ad = μ.ad := by
      show μ'.ad.take S.length = μ.ad
      rw [en, ← R.len, List.take_left]
    refine q v H' (μ'.cut S.length) ⟨E'.hid, ⟨[], by rw [hcut]; simp, fun _ h => nomatch h⟩, E'.keep, E'.live⟩ ?_ (fz_ok (fun k d v hk e h => fzR_ok R' 4 k d v hk e h) e1 r)
    refine ⟨by rw [hcut, R.len, List.length_take]; omega, by rw [hcut]; exact R.nd, fun k mo a hk ha => ?_, R'.hid, fun a ha hq => R'.sep a ha (List.mem_of_mem_take hq)⟩
    rw [List.getElem?_take] at hk
    split at hk
    · rename_i hl
      have ha' : μ'.ad[k]? = some a := by
        have : (μ'.ad.take S.length)[k]? = some a := ha
        rw [List.getElem?_take, if_pos hl] at this
        exact this
      have M := R'.at_ k mo a hk ha'
      have hb : belowDs S.length mo.xs = true := by
        rcases hg k hl with h | ⟨mo', h, hb⟩
        · rw [hk] at h
          obtain ⟨a2, _, M2⟩ := R.get h.symm
          cases mo with
          | lst kp xs =>
            obtain ⟨vs, _, r2⟩ := M2
            have := Reps.below r2
            rw [R.len] at this
            exact this
        · rw [hk] at h; cases h; exact hb
      cases mo with
      | lst kp xs =>
        obtain ⟨vs, h3, r2⟩ := M
        exact ⟨vs, h3, Reps.cut hb r2⟩
    · cases hk
  · cases e
end
end Dn

set_option maxHeartbeats 4000000
namespace Dn
open PySem PySem.Spec PyProof.Rows L2
/-! ### a program: its defs -/
structure Dfn where
  nm : Str
  fc : Fn
  st : Stmt
abbrev Dfn.fd (d : Dfn) (kV doc pm : Value) (an : Option Addr) (cdv ct : Value) : FuncData := PySem.W.fnOf d.nm d.nm (defArgs d.st) (defBody d.st) (defScope d.st) .none kV doc pm an cdv ct
/-- its parameters, one behind another -/
def Dfn.Bn (d : Dfn) : Prop := ∀ (kV doc pm : Value) (an : Option Addr) (cdv ct : Value) (us : List Value), us.length = d.fc.ps.length → bindArgs (d.fd kV doc pm an cdv ct) ⟨us, []⟩ = pure (d.fc.ps.zip us)
/-- a call with keywords -/
def kwPl (ps : List Str) (n : Nat) (ks : List Str) : List Nat := (List.range ps.length).map fun i => if i < n then i else n + ks.idxOf (ps.getD i Str.empty)
def Dfn.BnK (d : Dfn) (n : Nat) (ks : List Str) : Prop := ∀ (kV doc pm : Value) (an : Option Addr) (cdv ct : Value) (us ws : List Value), us.length = n → ws.length = ks.length →
  bindArgs (d.fd kV doc pm an cdv ct) ⟨us, ks.zip ws⟩ = pure (d.fc.ps.zip (pickV (us ++ ws) (kwPl d.fc.ps n ks)))
def scB (N ps : List Str) (sc : Scope) : Bool := decide (sc.kind = .function) && !sc.isCoroutine && !sc.isGenerator && decide N.Nodup && decide (N.take ps.length = ps) &&
  (ps.all fun x => decide (sc.names.lookup x = some .local) || decide (sc.names.lookup x = some .cell)) && sc.names.all fun y => !decide (y.2 = .free)
theorem scB_ok {N ps : List Str} {sc : Scope} (h : scB N ps sc = true) : FnScope N ps sc := by
  unfold scB at h
  simp only [Bool.and_eq_true, decide_eq_true_eq, Bool.not_eq_true', List.all_eq_true, Bool.or_eq_true, decide_eq_false_iff_not] at h
  obtain ⟨⟨⟨⟨⟨⟨h1, h2⟩, h3⟩, h4⟩, h5⟩, h6⟩, h7⟩ := h
  exact ⟨h1, h2, h3, h4, h5, h6, h7⟩
/-- an own exception class: its name, the field that its __init__ keeps, its text -/
structure Xcl where
  cn : Str
  fo : Option Str
  st : Stmt
def clsBody : Stmt → List Stmt
  | .ClassDef _ _ _ b _ _ _ _ _ _ _ => b
  | _ => []
def Xcl.ini (x : Xcl) : Stmt := (clsBody x.st).getD 0 (.Pass ⟨0, 0, 0, 0⟩)
def Xcl.qual (x : Xcl) : Str := x.cn ++ (".__init__" : Str)
abbrev Xcl.fd (x : Xcl) (kV doc pm : Value) (an : Option Addr) (cdv ct : Value) : FuncData := PySem.W.fnOf "__init__" x.qual (defArgs x.ini) (defBody x.ini) (defScope x.ini) .none kV doc pm an cdv ct
def Xcl.Bn (x : Xcl) (f : Str) : Prop := ∀ (kV doc pm : Value) (an : Option Addr) (cdv ct : Value) (a u : Value),
  bindArgs (x.fd kV doc pm an cdv ct) ⟨[a, u], []⟩ = pure [(("self" : Str), a), (f, u)] ∧ bindArgs (x.fd kV doc pm an cdv ct) ⟨[a], [(f, u)]⟩ = pure [(("self" : Str), a), (f, u)]
def iniB (f : Str) (st : Stmt) : Bool := match defBody st with
  | [.Assign [.Attribute (.Name s _) g _] (.Name h _) _] => decide (s = ("self" : Str)) && decide (g = f) && decide (h = f) && scB ["self", f] ["self", f] (defScope st) && visB (defScope st) "self" && visB (defScope st) f && nmB "self" && nmB f
  | _ => false
theorem iniB_ok {f : Str} {st : Stmt} (h : iniB f st = true) : ∃ p1 p2 p3 p4, defBody st = [.Assign [.Attribute (.Name "self" p1) f p2] (.Name f p3) p4] ∧ FnScope ["self", f] ["self", f] (defScope st) ∧ visB (defScope st) "self" = true ∧ visB (defScope st) f = true ∧ nmB "self" = true ∧ nmB f = true := by
  unfold iniB at h
  split at h
  · rename_i s p1 g p2 z p3 p4 e
    simp only [Bool.and_eq_true, decide_eq_true_eq] at h
    obtain ⟨⟨⟨⟨⟨⟨⟨rfl, rfl⟩, rfl⟩, h4⟩, h5⟩, h6⟩, h7⟩, h8⟩ := h
    exact ⟨p1, p2, p3, p4, e, scB_ok h4, h5, h6, h7, h8⟩
  · cases h
def Xcl.ok (x : Xcl) : Bool := match x.fo with
  | some f => iniB f x.ini
  | none => true
/-- what all defs share -/
structure Mk where
  free : List Str
  bf : List (Str × String)
  fns : List Str
  kwl : List (Str × Nat × List Str)
  dn : List Str
  dd : List (Str × List (Str × Int))
  /-- own exception classes -/
  xs : List Xcl := []
  isx : List (Str × List Str) := []
def Mk.cls (m : Mk) : List (Str × Option Str) := m.xs.map fun x => (x.cn, x.fo)
def Mk.kt (m : Mk) (d : Dfn) : Kt := ⟨d.fc.N, defScope d.st, fun _ => true, m.free, m.bf, m.fns, m.kwl, m.dn, m.dd, m.cls, m.isx⟩
def ckD (m : Mk) (d : Dfn) : Bool := scB d.fc.N d.fc.ps (defScope d.st) && ckSs d.fc.body (m.kt d) (defBody d.st)
def tabOf (ds : List Dfn) : List (Str × Fn) := ds.map fun d => (d.nm, d.fc)
theorem tab_get : ∀ {ds : List Dfn} {d : Dfn}, (ds.map Dfn.nm).Nodup → d ∈ ds → (tabOf ds).lookup d.nm = some d.fc
  | [], d, _, h => by cases h
  | e :: ds, d, hn, h => by
    have hn' := List.nodup_cons.mp (show (e.nm :: ds.map Dfn.nm).Nodup from hn)
    show ((e.nm, e.fc) :: tabOf ds).lookup d.nm = some d.fc
    rcases List.mem_cons.mp h with rfl | h
    · simp [List.lookup]
    · have ne : (d.nm == e.nm) = false := by
        rw [beq_eq_false_iff_ne]
        intro q
        exact hn'.1 (by rw [← q]; exact List.mem_map.mpr ⟨d, h, rfl⟩)
      rw [List.lookup_cons, ne]
      exact tab_get hn'.2 h
structure PrOk (w : World) (K : PySem.W.Frag) (mg : Str → Option Value) (ds : List Dfn) (tb : List (Str × D)) (m : Mk) : Prop where
  nd : (ds.map Dfn.nm).Nodup
  ck : ∀ d ∈ ds, ckD m d = true
  fn : ∀ d ∈ ds, ∃ f fd, mg d.nm = some (.ref f) ∧ FunD K d.nm d.nm (defArgs d.st) (defBody d.st) (defScope d.st) [] [] f fd
  bn : ∀ d ∈ ds, d.Bn
  bk : ∀ p ∈ m.kwl, ∀ d ∈ ds, d.nm = p.1 → d.BnK p.2.1 p.2.2
  fns : ∀ x ∈ m.fns, ∃ d ∈ ds, d.nm = x
  data : ∀ x d, tb.lookup x = some d → ∃ u v, mg x = some u ∧ RelV v u ∧ ∀ μ H, Rep K μ H d v
  dn : ∀ x ∈ m.dn, (tb.lookup x).isSome = true
  free : ∀ x ∈ m.free, mg x = none
  bf : ∀ x id, m.bf.lookup x = some id → mg x = some (.builtin id)
  dd : ∀ x kvs, m.dd.lookup x = some kvs → ∃ a, mg x = some (.ref a) ∧ Kdi K w a kvs
  sys : ∃ o, K.lookup sysModules = some o ∧ o.cls = .type "dict"
  xs : ∀ x ∈ m.xs, ∃ c, ClsAt K x.cn c ∧ mg x.cn = some (.ref c) ∧ OexC K c ∧ ExcC K c ∧ XfC K c ∧
    (∀ f, x.fo = some f → PySem.W.findIn K (.ref c) f = some none ∧ iniB f x.ini = true ∧ x.Bn f ∧ ∃ fI fd, PySem.W.findIn K (.ref c) "__init__" = some (some (.ref fI)) ∧ PySem.W.typeIn K (.ref fI) = some (.type "function") ∧
      FunD K "__init__" x.qual (defArgs x.ini) (defBody x.ini) (defScope x.ini) [] [] fI fd) ∧ (x.fo = none → PySem.W.excIn K c veBase "ValueError.__new__" = true)
  isx : ∀ T cs, m.isx.lookup T = some cs → ∃ (tc : V) (tv : Value), (∀ u, RelV tc u → u = tv) ∧ ((mg T = some tv ∧ RelV tc tv) ∨ (mg T = none ∧ ∃ Ts : String, bootBuiltins T = some (.type Ts) ∧ tc = .ty Ts ∧ tv = .type Ts)) ∧
    ∀ cn fo c, m.cls.lookup cn = some fo → ClsAt K cn c → PySem.W.kitOne K (.ref c) tv = some (cs.contains cn)
theorem lookup_memD {α : Type} {x : Str} {d : α} : ∀ {l : List (Str × α)}, l.lookup x = some d → (x, d) ∈ l
  | [], h => by cases h
  | (y, e) :: l, h => by
    rw [List.lookup_cons] at h
    split at h
    · rename_i q
      cases h
      rw [eq_of_beq q]
      exact List.mem_cons_self ..
    · exact List.mem_cons_of_mem _ (lookup_memD h)
theorem rep_start {K : PySem.W.Frag} {μ : Mu} {H : Hp} {N : List Str} {ds : List D} {vs : List V} (h : Reps K μ H ds vs) : RepEnv K μ H (start N vs) (startD N.length ds) := by
  have hl := h.length
  refine ⟨?_, fun i d e => ?_⟩
  · unfold L2.start startD
    simp only [List.length_append, List.length_map, List.length_replicate]
    omega
  · unfold startD at e
    unfold L2.start
    by_cases hi : i < ds.length
    · rw [List.getElem?_append_left (by rw [List.length_map]; exact hi), List.getElem?_map] at e
      cases e2 : ds[i]? with
      | none => rw [e2] at e; cases e
      | some d' =>
        rw [e2] at e
        cases e
        obtain ⟨v, e3, r⟩ := h.get e2
        exact ⟨v, by rw [List.getElem?_append_left (by rw [List.length_map, ← hl]; exact hi), List.getElem?_map, e3]; rfl, r⟩
    · rw [List.getElem?_append_right (by rw [List.length_map]; omega)] at e
      have := List.mem_of_getElem? e
      rw [List.mem_replicate] at this
      cases this.2
theorem kwOf_get {Pt : List (Str × Fn)} {f : Str} {n : Nat} {ks : List Str} {pl : List Nat} {fc : Fn} (hf : Pt.lookup f = some fc) (h : kwOf Pt f n ks = some pl) : pl = kwPl fc.ps n ks := by
  unfold kwOf at h
  rw [hf] at h
  simp only [Option.bind_some] at h
  split at h
  · cases h; rfl
  · cases h
theorem prog_ok {P : Program} {w : World} {K : PySem.W.Frag} {mg : Str → Option Value} {base : Heap} {ds : List Dfn} {tb : List (Str × D)} {m : Mk} (O : PrOk w K mg ds tb m) :
    ∀ (n : Nat) (d : Dfn) (f : Addr) (fd : FuncData), d ∈ ds → mg d.nm = some (.ref f) → FunD K d.nm d.nm (defArgs d.st) (defBody d.st) (defScope d.st) [] [] f fd →
      FnG P w K mg base (n + 2) f fd d.fc.ps (spEv K (geN tb (tabOf ds) n) d.nm)
  | 0, d, f, fd, hd, hm, F => ⟨fun vs H Q ⟨μ, S, as, x, S', R, p, e, q⟩ => (by cases e), fun A outer s H args us vs Q r g e0 b v ⟨μ, S, as, x, S', R, p, e, q⟩ => (by cases e)⟩
  | n + 1, d, f, fd, hd, hm, F => by
    have hl := tab_get O.nd hd
    have hc := O.ck d hd
    unfold ckD at hc
    rw [Bool.and_eq_true] at hc
    have S := scB_ok hc.1
    obtain ⟨oc, od, dV, kV, doc, pm, an, cdv, ct, osl, rfl, lk, hcd, _, _⟩ := F.ex
    have un : ∀ {vs : List V} {H : Hp} {Q : VK}, spEv K (geN tb (tabOf ds) (n + 1)) d.nm vs H Q → ∃ μ S as, Rl K μ H S ∧ Reps K μ H as vs ∧ as.length = d.fc.ps.length ∧ ∃ fl S2, exSs (geN tb (tabOf ds) n) d.fc.body (startD d.fc.N.length as) S = some (fl, S2) ∧
        Fk K μ H S2 { nx := fun _ H' => Q .non H', rt := Q } fl := by
      rintro vs H Q ⟨μ, S, as, x, S', R, p, e, q⟩
      replace e : callN tb (tabOf ds) (n + 1) d.nm as S = some (x, S') := e
      unfold callN at e
      rw [hl] at e
      simp only [Option.bind_some] at e
      split at e
      · rename_i hlen
        obtain ⟨⟨fl, S2⟩, e1, e2⟩ := bindS e
        refine ⟨μ, S, as, R, p, hlen, fl, S2, e1, ?_⟩
        cases fl with
        | rt d0 => exact gc_ok R e2 q
        | nx δ => exact fun σ' H' μ' E' R' N' => gc_ok R e2 q .non H' μ' E' R' mk_non
        | bk δ => cases e2
        | ct δ => cases e2
      · cases e
    refine fnG_of lk hcd S (fun vs H Q h => ?_) fun A outer s H vs Q hr hg h => ?_
    · obtain ⟨μ, S, as, R, p, hlen, _⟩ := un h
      rw [← p.length, hlen]
    · obtain ⟨μ, S0, as, R, p, hlen, fl, S2, e1, q⟩ := un h
      refine ⟨_, PSs.nox (okSs d.fc.body (X := (cxOf CX0 P w K mg base d.fc.N d.nm (defScope d.st) f cdv A outer s H E0).nox) (k := ⟨m.kt d, geN tb (tabOf ds) n⟩) ?_ rfl hc.2), μ, _, S0, fl, S2, rep_start p, R, e1, q⟩
      refine ⟨rfl, rfl, S.nd, rfl, ?_, hg, fun _ _ => rfl, O.data, O.dn, O.free, O.bf, fun x hx => ?_, O.dd, O.sys, hr.mono (Nat.le_add_left 2 n), fun cn fo hc => ?_, O.isx⟩
      · have := hr.un
        show (A.deeper (envOfC d.nm (defScope d.st) s.heap.objs.size f cdv)).units + 66 < cLine
        omega
      · obtain ⟨d', hd', rfl⟩ := O.fns x hx
        obtain ⟨f', fd', hm', F'⟩ := O.fn d' hd'
        refine ⟨f', fd', d'.fc.ps, n + 2, hm', F'.kp, F'.bindsN (O.bn d' hd'), prog_ok O n d' f' fd' hd' hm' F', hr, fun j ks pl hkl hpl => ?_⟩
        have e := kwOf_get (tab_get O.nd hd') hpl
        subst e
        refine ⟨by unfold kwPl; simp, fun s us ws h1 h2 => ?_⟩
        obtain ⟨oc, od, dV, kV, doc, pm, an, cdv, ct, osl, rfl, lk, hcd, hD, hK⟩ := F'.ex
        rcases hD with ⟨_, rfl⟩ | ⟨e, _⟩
        · exact .of_eq (O.bk _ hkl d' hd' rfl kV doc pm an cdv ct us ws h1 h2)
        · exact absurd rfl e
      · obtain ⟨x, hx, e⟩ := List.mem_map.mp (lookup_memD hc)
        cases e
        obtain ⟨c, h1, h2, h3, h4, h5, h6, h7⟩ := O.xs x hx
        refine ⟨c, h1, h2, h3, h4, h5, fun f ef => ?_, h7⟩
        obtain ⟨g1, g2, g3, fI, fd2, g4, g5, g6⟩ := h6 f ef
        obtain ⟨oc, od, dV, kV, doc, pm, an, cdv, ct, osl, rfl, lk, hcd, hD, hK⟩ := g6.ex
        obtain ⟨p1, p2, p3, p4, eb, S2, v1, v2, n1, n2⟩ := iniB_ok g2
        rcases hD with ⟨_, rfl⟩ | ⟨e, _⟩
        · refine ⟨g1, fI, _, "self", g4, g5, ?_, fun s a u => .of_eq (g3 kV doc pm an cdv ct a u).1, fun s a u => .of_eq (g3 kV doc pm an cdv ct a u).2⟩
          show FnG P w K mg base 1 fI (PySem.W.fnOf "__init__" x.qual (defArgs x.ini) (defBody x.ini) (defScope x.ini) .none kV doc pm an cdv ct) ["self", f] (spIn K f)
          rw [eb] at lk ⊢
          exact init_fn (k := 0) lk hcd S2 v1 v2 n1 n2
        · exact absurd rfl e
/-! ### the module's data -/
mutual
def datB (K : PySem.W.Frag) : D → Value → Bool
  | .tup xs, u => match u with
    | .ref a => match K.lookup a with
      | some ⟨.type c, _, .seq its _, _⟩ => decide (c = "tuple") && decide (its.size ≤ sizeLine) && datsB K xs its.toList
      | _ => false
    | _ => false
  | .scr xs, u => match u with
    | .ref a => match K.lookup a with
      | some ⟨.type c, none, .seq its _, _⟩ => decide (c = "list") && decide (its.size ≤ sizeLine) && datsB K xs its.toList
      | _ => false
    | _ => false
  | .lst _, _ => false
  | .dic _ _, _ => false
  | .ref _, _ => false
  | .exc _ _ _, _ => false
  | .non, u => He.relB .non u
  | .bl b, u => He.relB (.bl b) u
  | .int i, u => He.relB (.int i) u
  | .str x, u => He.relB (.str x) u
def datsB (K : PySem.W.Frag) : List D → List Value → Bool
  | [], us => us.isEmpty
  | d :: ds, us => match us with
    | u :: r => datB K d u && datsB K ds r
    | [] => false
end
mutual
theorem dat_ok {K : PySem.W.Frag} : ∀ {d : D} {u : Value}, datB K d u = true → ∃ v, RelV v u ∧ ∀ μ H, Rep K μ H d v
  | .tup xs, u, h => by
    simp only [datB] at h
    split at h
    · split at h
      · rename_i a _ c od its n osl hl
        simp only [Bool.and_eq_true, decide_eq_true_eq] at h
        obtain ⟨⟨rfl, h2⟩, h3⟩ := h
        obtain ⟨vs, r, p⟩ := dats_ok h3
        refine ⟨.ref a, rfl, fun μ H => ?_⟩
        simp only [Rep]
        exact ⟨a, vs, rfl, .inr ⟨_, its, n, hl, rfl, rfl, h2, r⟩, p μ H⟩
      · cases h
    · cases h
  | .scr xs, u, h => by
    simp only [datB] at h
    split at h
    · split at h
      · rename_i a _ c its n osl hl
        simp only [Bool.and_eq_true, decide_eq_true_eq] at h
        obtain ⟨⟨rfl, h2⟩, h3⟩ := h
        obtain ⟨vs, r, p⟩ := dats_ok h3
        refine ⟨.ref a, rfl, fun μ H => ?_⟩
        simp only [Rep]
        exact ⟨a, vs, rfl, .inr ⟨_, its, n, hl, rfl, rfl, rfl, h2, r⟩, p μ H⟩
      · cases h
    · cases h
  | .lst _, u, h => by simp only [datB] at h; cases h
  | .dic _ _, u, h => by simp only [datB] at h; cases h
  | .ref _, u, h => by simp only [datB] at h; cases h
  | .exc _ _ _, u, h => by simp only [datB] at h; cases h
  | .non, u, h => by simp only [datB] at h; exact ⟨_, He.relB_ok h, fun μ H => mk_non⟩
  | .bl b, u, h => by simp only [datB] at h; exact ⟨_, He.relB_ok h, fun μ H => mk_bl⟩
  | .int i, u, h => by simp only [datB] at h; exact ⟨_, He.relB_ok h, fun μ H => mk_int⟩
  | .str x, u, h => by simp only [datB] at h; exact ⟨_, He.relB_ok h, fun μ H => mk_str⟩
theorem dats_ok {K : PySem.W.Frag} : ∀ {ds : List D} {us : List Value}, datsB K ds us = true → ∃ vs, Vals vs us ∧ ∀ μ H, Reps K μ H ds vs
  | [], us, h => by
    simp only [datsB, List.isEmpty_iff] at h
    subst h
    exact ⟨[], .nil, fun μ H => Reps.nil⟩
  | d :: ds, us, h => by
    cases us with
    | nil => simp only [datsB] at h; cases h
    | cons u us =>
      simp only [datsB, Bool.and_eq_true] at h
      obtain ⟨v, r, p⟩ := dat_ok h.1
      obtain ⟨vs, rs, ps⟩ := dats_ok h.2
      exact ⟨v :: vs, .cons r rs, fun μ H => Reps.cons (p μ H) (ps μ H)⟩
end
/-! ### the facts by the Hook -/
def Dfn.at_ (d : Dfn) : He.DefD := ⟨(d.nm, none), d.nm, d.nm, defArgs d.st, defBody d.st, defScope d.st, [], []⟩
def gloIs (K : PySem.W.Frag) (x : Str) (t : Value → Bool) : Bool := match PySem.W.nsIn K mainGlobals x with
  | some (some u) => t u
  | _ => false
def bltIs (id : String) : Value → Bool
  | .builtin i => decide (i = id)
  | _ => false
def kdB (K : PySem.W.Frag) (x : Str) (kvs : List (Str × Int)) : Bool := match PySem.W.nsIn K mainGlobals x with
  | some (some (.ref a)) => kvs.all fun q => match PySem.W.nsIn K a q.1 with
    | some (some u) => He.relB (.int q.2) u
    | _ => false
  | _ => false
def dadr (K : PySem.W.Frag) (x : Str) : Addr := match PySem.W.nsIn K mainGlobals x with
  | some (some (.ref a)) => a
  | _ => 0
def sysB (K : PySem.W.Frag) : Bool := match K.lookup sysModules with
  | some o => decide (o.cls = .type "dict")
  | none => false
def oexB (K : PySem.W.Frag) (C : Addr) : Bool := (match K.lookup C with
  | some ⟨.type "type", _, .cls cd, sl⟩ => (match cd.mro, sl.toList with
    | .ref C' :: bm, [_, _, _, _, some (.builtin n), _] => C' == C && n == "ValueError.__new__" && !cd.hasDel && cd.hasDict && PySem.HandSPX.refsVE bm
    | _, _ => false)
  | _ => false) && (decide (PySem.W.findIn K (.ref C) "__setattr__" = some (some (.builtin "object.__setattr__"))) && (decide (PySem.W.typeIn K (.ref C) = some (.type "type")) && PySem.W.keepIn K (.ref C)))
theorem oexB_ok {K : PySem.W.Frag} {C : Addr} (h : oexB K C = true) (hs : PySem.W.subIn K (.ref C) (.type "BaseException") = some true) : OexC K C := by
  unfold oexB at h
  obtain ⟨q, h⟩ := Bool.and_eq_true_iff.mp h
  obtain ⟨h2, h⟩ := Bool.and_eq_true_iff.mp h
  obtain ⟨h3, h4⟩ := Bool.and_eq_true_iff.mp h
  refine ⟨?_, of_decide_eq_true h2, hs, of_decide_eq_true h3, h4⟩
  split at q
  · rename_i dd cd sl ho
    split at q
    · rename_i C' bm k0 k1 k2 k3 n k5 hm hs
      simp only [Bool.and_eq_true, beq_iff_eq, Bool.not_eq_true'] at q
      obtain ⟨⟨⟨⟨rfl, rfl⟩, hdel⟩, hdict⟩, ht⟩ := q
      obtain ⟨nm, bs, mro, ns, qn, hd, sn, sub, ab, col, del⟩ := cd
      dsimp only at hm hdel hdict
      subst hm hdel hdict
      have hsl : sl = #[k0, k1, k2, k3, some (.builtin "ValueError.__new__"), k5] := by
        obtain ⟨l⟩ := sl
        simp only at hs
        rw [hs]
      subst hsl
      exact ⟨nm, qn, ns, bs, bm, sn, sub, ab, col, dd, k0, k1, k2, k3, k5, ho, ht⟩
    · cases q
  · cases q
def excB (K : PySem.W.Frag) (D : Addr) : Bool := decide (PySem.W.findIn K (.ref D) "__getattribute__" = some (some (.builtin "BaseException.__getattribute__"))) && (decide (PySem.W.findIn K (.ref D) "__getattr__" = some none) && (decide (PySem.W.subIn K (.ref D) (.type "BaseException") = some true) &&
  (PySem.W.hasDictIn K D && (decide (PySem.W.findIn K (.ref D) "__class__" = some (some (.builtin "object.__class__"))) && (decide (PySem.W.specialIn K (.builtin "object.__class__") "__get__" = some (some (.builtin "getset_descriptor.__get__"))) &&
  (decide (PySem.W.takesIn K (.builtin "object.__class__") = some true) && decide (PySem.W.mroIn K D (.type "object") = some true)))))))
theorem excB_ok {K : PySem.W.Frag} {D : Addr} (h : excB K D = true) : ExcC K D := by
  unfold excB at h
  obtain ⟨h1, h⟩ := Bool.and_eq_true_iff.mp h
  obtain ⟨h2, h⟩ := Bool.and_eq_true_iff.mp h
  obtain ⟨h3, h⟩ := Bool.and_eq_true_iff.mp h
  obtain ⟨h4, h⟩ := Bool.and_eq_true_iff.mp h
  obtain ⟨h5, h⟩ := Bool.and_eq_true_iff.mp h
  obtain ⟨h6, h⟩ := Bool.and_eq_true_iff.mp h
  obtain ⟨h7, h8⟩ := Bool.and_eq_true_iff.mp h
  exact ⟨of_decide_eq_true h1, of_decide_eq_true h2, of_decide_eq_true h3, h4, of_decide_eq_true h5, of_decide_eq_true h6, of_decide_eq_true h7, of_decide_eq_true h8⟩
def Xcl.at_ (x : Xcl) : He.DefD := ⟨(x.cn, some "__init__"), "__init__", x.qual, defArgs x.ini, defBody x.ini, defScope x.ini, [], []⟩
def clsB (K : PySem.W.Frag) (x : Xcl) : Bool := (He.Fa.glo x.cn).ok K && (oexB K (He.ga K x.cn) && (excB K (He.ga K x.cn) && (L2.xfB K (He.ga K x.cn) && (match x.fo with
  | some f => decide (PySem.W.findIn K (.ref (He.ga K x.cn)) f = some none) && (decide (PySem.W.findIn K (.ref (He.ga K x.cn)) "__init__" = some (some (.ref (He.ma K (He.ga K x.cn) "__init__")))) && decide (PySem.W.typeIn K (.ref (He.ma K (He.ga K x.cn) "__init__")) = some (.type "function")))
  | none => PySem.W.excIn K (He.ga K x.cn) veBase "ValueError.__new__"))))
/-- the class that a name of an isinstance tells -/
def tvIn (K : PySem.W.Frag) (T : Str) : Option Value := match PySem.W.nsIn K mainGlobals T with
  | some (some (.ref a)) => some (.ref a)
  | some none => (match bootBuiltins T with
    | some (.type Ts) => some (.type Ts)
    | _ => none)
  | _ => none
def isxB (K : PySem.W.Frag) (cls : List (Str × Option Str)) (T : Str) (cs : List Str) : Bool := match tvIn K T with
  | some tv => cls.all fun q => decide (PySem.W.kitOne K (.ref (He.ga K q.1)) tv = some (cs.contains q.1))
  | none => false
theorem ga_at {K : PySem.W.Frag} {x : Str} {c : Addr} (h : ClsAt K x c) : He.ga K x = c := by
  unfold ClsAt at h
  unfold He.ga
  rw [h]
theorem isxB_ok {K : PySem.W.Frag} {h : Heap} {mg : Str → Option Value} (X : K.In h) (G : h.Ns mainGlobals mg) {cls : List (Str × Option Str)} {T : Str} {cs : List Str} (c : isxB K cls T cs = true) :
    ∃ (tc : V) (tv : Value), (∀ u, RelV tc u → u = tv) ∧ ((mg T = some tv ∧ RelV tc tv) ∨ (mg T = none ∧ ∃ Ts : String, bootBuiltins T = some (.type Ts) ∧ tc = .ty Ts ∧ tv = .type Ts)) ∧
    ∀ cn fo c, cls.lookup cn = some fo → ClsAt K cn c → PySem.W.kitOne K (.ref c) tv = some (cs.contains cn) := by
  unfold isxB at c
  split at c
  · rename_i tv e
    have fin : ∀ cn fo c, cls.lookup cn = some fo → ClsAt K cn c → PySem.W.kitOne K (.ref c) tv = some (cs.contains cn) := fun cn fo c0 hl hc => by
      have := of_decide_eq_true (List.all_eq_true.mp c _ (lookup_memD hl))
      rw [← ga_at hc]
      exact this
    unfold tvIn at e
    split at e
    · rename_i a hn
      cases e
      exact ⟨.ref a, _, fun u r => r, .inl ⟨PySem.W.mg_of X G hn, rfl⟩, fin⟩
    · rename_i hn
      split at e
      · rename_i Ts hb
        cases e
        exact ⟨.ty Ts, _, fun u r => r, .inr ⟨PySem.W.mg_none_of X G hn, Ts, hb, rfl, rfl⟩, fin⟩
      · cases e
    · cases e
  · cases c
/-- the defs, the classes' __init__s -/
def dfs (ds : List Dfn) (m : Mk) : List He.DefD := ds.map Dfn.at_ ++ (m.xs.filter (·.fo.isSome)).map Xcl.at_
def exB (ds : List Dfn) (tb : List (Str × D)) (m : Mk) (K : PySem.W.Frag) : Bool :=
  (ds.all fun d => (He.Fa.glo d.nm).ok K) && (m.free.all fun x => (He.Fa.free x).ok K) && (tb.all fun p => gloIs K p.1 (datB K p.2)) && (m.bf.all fun p => gloIs K p.1 (bltIs p.2)) && (m.dd.all fun p => kdB K p.1 p.2) && sysB K && (m.xs.all fun x => clsB K x) && m.isx.all fun p => isxB K m.cls p.1 p.2
abbrev AlN : Type := He.AlD × List (Option (List (Option (Str × Int))))
def obsN (ds : List Dfn) (tb : List (Str × D)) (m : Mk) (K : PySem.W.Frag) : AlN := ((exB ds tb m K && (dfs ds m).all fun d => d.ok K, (dfs ds m).map fun d => He.fnW K d.at_), m.dd.map fun p => He.dicW K (dadr K p.1))
def valN (ds : List Dfn) (m : Mk) (w : World) : AlN := ((true, (dfs ds m).map fun d => d.val), m.dd.map fun p => some (He.keysIn w.params (p.2.map (·.1))))
def obsNG (n : Nat) (ds : List Dfn) (tb : List (Str × D)) (m : Mk) (g : Addr → Option Obj) : AlN := obsN ds tb m (He.frG g (He.asD g n ++ [sysModules]))
def hookN (n : Nat) (ds : List Dfn) (tb : List (Str × D)) (m : Mk) : PySem.W.Hook where
  α := AlN
  obs s := obsNG n ds tb m s.heap.get?
  val w := valN ds m w
  says w h := ∃ F : PySem.W.Frag, F.In h ∧ obsN ds tb m F = valN ds m w
  of _ _ e := ⟨_, He.frG_in, e⟩
  keeps _ _ _ := fun ⟨F, hF, c⟩ k => ⟨F, PySem.W.Frag.In.keeps hF k, c⟩
theorem obsNG_eq {n : Nat} {ds : List Dfn} {tb : List (Str × D)} {m : Mk} {g : Addr → Option Obj} {s : Shared} (h : ∀ a, g a = s.heap.get? a) : obsNG n ds tb m g = (hookN n ds tb m).obs s := by
  rw [show g = s.heap.get? from funext h]; rfl
theorem gloIs_ok {K : PySem.W.Frag} {h : Heap} {mg : Str → Option Value} (X : K.In h) (G : h.Ns mainGlobals mg) {x : Str} {t : Value → Bool} (c : gloIs K x t = true) : ∃ u, mg x = some u ∧ t u = true := by
  unfold gloIs at c
  split at c
  · rename_i u e
    exact ⟨u, PySem.W.mg_of X G e, c⟩
  · cases c
theorem lookup_no {α : Type} {z : Str} : ∀ {l : List (Str × α)}, l.lookup z = none → z ∉ l.map (·.1)
  | [], _ => by simp
  | (y, e) :: l, h => by
    rw [List.lookup_cons] at h
    split at h
    · cases h
    · rename_i q
      rw [List.map_cons, List.mem_cons]
      rintro (c | c)
      · rw [c, beq_self_eq_true] at q; cases q
      · exact lookup_no h c
theorem nsIn_none {K : PySem.W.Frag} {a : Addr} {es : Array DictEntry} {n : Nat} {P : Params} {ks : List Str} {z : Str} (hl : K.lookup a = some ⟨.type "dict", none, .dict es n, #[]⟩) (hk : es.toList.map He.keyOf = He.keysIn P ks) (hz : z ∉ ks) : PySem.W.nsIn K a z = some none := by
  have ek : ∀ e ∈ es.toList, ∃ x t, e.key = .str x t ∧ x ∈ ks := fun e he => by
    have h1 : He.keyOf e ∈ He.keysIn P ks := by rw [← hk]; exact List.mem_map.mpr ⟨e, he, rfl⟩
    obtain ⟨y, hy, e1⟩ := List.mem_map.mp h1
    unfold He.keyOf at e1
    split at e1
    · rename_i x t q
      have e2 := Option.some.inj e1
      have e3 : y = x := (Prod.mk.inj e2).1
      exact ⟨x, t, q, by rw [← e3]; exact hy⟩
    · cases e1
  unfold PySem.W.nsIn
  rw [hl]
  dsimp only
  have h1 : es.toList.find? (·.key.isStr z) = none := by
    rw [List.find?_eq_none]
    intro e he
    obtain ⟨x, t, q, hx⟩ := ek e he
    rw [q]
    intro c
    have c2 : x = z := eq_of_beq c
    exact hz (by rw [← c2]; exact hx)
  have h2 : es.toList.any (·.refKey) = false := by
    rw [List.any_eq_false]
    intro e he
    obtain ⟨x, t, q, hx⟩ := ek e he
    unfold DictEntry.refKey
    rw [q]
    simp
  rw [h1, h2]
  rfl
theorem prOk_of {w : World} {K : PySem.W.Frag} {h : Heap} {mg : Str → Option Value} {ds : List Dfn} {tb : List (Str × D)} {m : Mk} (X : K.In h) (G : h.Ns mainGlobals mg) (c : obsN ds tb m K = valN ds m w) (nd : (ds.map Dfn.nm).Nodup) (ck : ∀ d ∈ ds, ckD m d = true)
    (bn : ∀ d ∈ ds, d.Bn) (bk : ∀ p ∈ m.kwl, ∀ d ∈ ds, d.nm = p.1 → d.BnK p.2.1 p.2.2) (fns : m.fns.all (fun x => ds.any fun d => decide (d.nm = x)) = true) (dn : m.dn.all (fun x => (tb.lookup x).isSome) = true)
    (xi : m.xs.all Xcl.ok = true) (xbn : ∀ x ∈ m.xs, ∀ f, x.fo = some f → x.Bn f) : PrOk w K mg ds tb m := by
  have c1 : (exB ds tb m K && (dfs ds m).all fun d => d.ok K) = true := congrArg (fun z : AlN => z.1.1) c
  have c2 : ((dfs ds m).map fun d => He.fnW K d.at_) = (dfs ds m).map fun d => d.val := congrArg (fun z : AlN => z.1.2) c
  have c3 : (m.dd.map fun p => He.dicW K (dadr K p.1)) = m.dd.map fun p => some (He.keysIn w.params (p.2.map (·.1))) := congrArg (fun z : AlN => z.2) c
  unfold exB at c1
  simp only [Bool.and_eq_true, List.all_eq_true] at c1
  obtain ⟨⟨⟨⟨⟨⟨⟨⟨g1, g2⟩, g3⟩, g4⟩, g6⟩, g7⟩, g8⟩, g9⟩, g5⟩ := c1
  refine ⟨nd, ck, fun d hd => ?_, bn, bk, fun x hx => ?_, fun x d e => ?_, fun x hx => List.all_eq_true.mp dn x hx, fun x hx => He.free_ok X G (g2 x hx), fun x id e => ?_, fun x kvs e => ?_, ?_, fun x hx => ?_, fun T cs e => isxB_ok X G (g9 _ (lookup_memD e))⟩
  · have hm : d.at_ ∈ dfs ds m := List.mem_append_left _ (List.mem_map.mpr ⟨d, hd, rfl⟩)
    have e : He.fnW K d.at_.at_ = d.at_.val := List.map_inj_left.mp c2 _ hm
    obtain ⟨fd, F⟩ := He.DefD.funD e (g5 _ hm)
    exact ⟨_, fd, He.glo_ok X G (g1 d hd), F⟩
  · have := List.all_eq_true.mp fns x hx
    obtain ⟨d, hd, e⟩ := List.any_eq_true.mp this
    exact ⟨d, hd, of_decide_eq_true e⟩
  · obtain ⟨u, e1, e2⟩ := gloIs_ok X G (g3 _ (lookup_memD e))
    obtain ⟨v, r, p⟩ := dat_ok e2
    exact ⟨u, v, e1, r, p⟩
  · obtain ⟨u, e1, e2⟩ := gloIs_ok X G (g4 _ (lookup_memD e))
    cases u <;> simp only [bltIs] at e2 <;> first | (cases e2; done) | skip
    rw [e1, of_decide_eq_true e2]
  · have hm := lookup_memD e
    have e1 := List.map_inj_left.mp c3 _ hm
    have e2 := g6 _ hm
    unfold kdB at e2
    split at e2
    · rename_i a hn
      have ea : dadr K x = a := by unfold dadr; rw [hn]
      rw [show dadr K (x, kvs).1 = a from ea] at e1
      obtain ⟨es, n, D⟩ := He.dicW_ok e1
      refine ⟨a, PySem.W.mg_of X G hn, es, n, D, fun z i hz => ?_, fun z hz => ?_⟩
      · have e3 := List.all_eq_true.mp e2 _ (lookup_memD hz)
        dsimp only at e3
        split at e3
        · rename_i u hu
          exact ⟨u, hu, He.relB_ok e3⟩
        · cases e3
      · refine nsIn_none D.at_ (P := w.params) (ks := kvs.map (·.1)) ?_ (lookup_no hz)
        unfold He.dicW at e1
        rw [D.at_] at e1
        dsimp only at e1
        split at e1
        · exact Option.some.inj e1
        · cases e1
    · cases e2
  · unfold sysB at g7
    split at g7
    · rename_i o ho
      exact ⟨o, ho, of_decide_eq_true g7⟩
    · cases g7
  · have q := g8 x hx
    unfold clsB at q
    obtain ⟨q1, q⟩ := Bool.and_eq_true_iff.mp q
    obtain ⟨q2, q⟩ := Bool.and_eq_true_iff.mp q
    obtain ⟨q3, q⟩ := Bool.and_eq_true_iff.mp q
    obtain ⟨q4, q5⟩ := Bool.and_eq_true_iff.mp q
    have x3 := excB_ok q3
    refine ⟨He.ga K x.cn, He.eqO_ok q1, He.glo_ok X G q1, oexB_ok q2 x3.hs, x3, xfB_ok q4, fun f ef => ?_, fun ef => ?_⟩
    · rw [ef] at q5
      dsimp only at q5
      obtain ⟨r1, r⟩ := Bool.and_eq_true_iff.mp q5
      obtain ⟨r2, r3⟩ := Bool.and_eq_true_iff.mp r
      have hm : x.at_ ∈ dfs ds m := List.mem_append_right _ (List.mem_map.mpr ⟨x, List.mem_filter.mpr ⟨hx, by rw [ef]; rfl⟩, rfl⟩)
      have e : He.fnW K x.at_.at_ = x.at_.val := List.map_inj_left.mp c2 _ hm
      obtain ⟨fd, F⟩ := He.DefD.funD e (g5 _ hm)
      have hi := List.all_eq_true.mp xi x hx
      unfold Xcl.ok at hi
      rw [ef] at hi
      exact ⟨of_decide_eq_true r1, hi, xbn x hx f ef, _, fd, of_decide_eq_true r2, of_decide_eq_true r3, F⟩
    · rw [ef] at q5
      exact q5
end Dn

set_option maxHeartbeats 4000000
namespace Dn
open PySem PySem.Spec PyProof.Rows L2
/-! ### the law's call -/
theorem law_g {P : Program} {w : World} {K : PySem.W.Frag} {mg mb : Str → Option Value} {k : Nat} {fa a : Addr} {fd : FuncData} {x : Str} {sp : SpG} {s₁ : Shared} {vs : List Value} {ns : List Int}
    (KX : K.In s₁.heap) (hns : s₁.heap.Ns mainGlobals mg) (hb : s₁.heap.Ns builtinsNs mb) (hbb : ∀ x : Str, x ≠ "__name__" → mb x = bootBuiltins x) (hlim : s₁.heap.NoLimit) (hg : s₁.gens = #[])
    (ha : s₁.heap.get? a = some { cls := .type "list", data := .seq vs.toArray }) (hi : IntsAre vs ns) (hl : ns.length ≤ sizeLine) (hr : Room k callerA)
    (F : ∀ base : Heap, FnG P w K mg base k fa fd [x] sp) (hbind : ∀ (s : Shared) (u : Value), BindsTo s fd ⟨[u], []⟩ [(x, u)])
    (hsp : ∀ H : Hp, ScrAt K H a (ns.map V.int) → sp [.ref a] H fun v _ => v = .bl true) :
    codeAny (model P w) callerA (.call (.ref fa) ⟨[.ref a], []⟩) (fun r s' => r = .ok (.ret (.bool true)) ∧ OldK s₁.heap s'.heap ∧ s'.os = s₁.os ∧ AllBare s'.gens) s₁ := by
  have rv := vals_ints hi
  have lenV := hi.length
  have main : ∀ H : Hp, (∀ b, H b = none ∨ ∃ o xs, H b = some (.frz o (.lst xs))) → ScrAt K H a (ns.map V.int) → HOk P w H s₁.heap → (∀ b, H b ≠ none → b = a) → (H a ≠ none → K.lookup a = none) →
      codeAny (model P w) callerA (.call (.ref fa) ⟨[.ref a], []⟩) (fun r s' => r = .ok (.ret (.bool true)) ∧ OldK s₁.heap s'.heap ∧ s'.os = s₁.os ∧ AllBare s'.gens) s₁ := by
    intro H hO hS hok hA hK
    have free : ∀ {b : Addr} {o : Obj}, s₁.heap.get? b = some o → (b = a → ∃ es ep, o.data = .dict es ep) → H b = none := fun {b o} e d => Classical.byContradiction fun q => by
      have e' := hA b q
      subst e'
      obtain ⟨es, ep, d'⟩ := d rfl
      rw [ha] at e
      cases e
      cases d'
    have ns0 : ∀ {b : Addr} {m : Str → Option Value}, s₁.heap.Ns b m → (hidT s₁.heap H).Ns b m := fun {b m} ⟨o, es, ep, e, d, r⟩ => ⟨o, es, ep, hidT_get e (free e fun _ => ⟨es, ep, d⟩), d, r⟩
    have kb : K.In (hidT s₁.heap H) := fun b o e => hidT_get (KX b o e) (Classical.byContradiction fun q => by
      have e' := hA b q
      subst e'
      rw [hK q] at e
      cases e)
    have md : Mod K mg (hidT s₁.heap H) := ⟨kb, ns0 hns, ⟨mb, ns0 hb, hbb⟩, let ⟨mc, h1, h2⟩ := hlim; ⟨mc, ns0 h1, h2⟩⟩
    have at0 : Env0 P w K mg (hidT s₁.heap H) callerA [] s₁ H := ⟨rfl, md, fun b o e => of_hidT e, Nat.le_of_eq (hidT_size _ _), trivial, fun b hb => absurd (show b ∈ ([] : List Addr) from hb) (by simp), hok, .of_eq hg⟩
    refine codeAny_mono ((F _).run callerA [] s₁ H ⟨[.ref a], []⟩ [.ref a] [.ref a] _ hr rfl at0 (hbind s₁ (.ref a)) (.cons rfl .nil) (hsp H hS)) fun r s' h => ?_
    cases r with
    | error e => exact h.elim
    | ok fl =>
      cases fl with
      | ret u =>
        obtain ⟨v, H', os, bare, un, hok', r', q⟩ := h
        have q' : v = .bl true := q
        subst q'
        obtain rfl : u = Value.bool true := r'
        refine ⟨rfl, OldK.of_keep fun b o e => ?_, os, bare⟩
        cases q : H b with
        | none => exact un.keep b o e q (by intro z; exact absurd (show b ∈ ([] : List Addr) from z) (by simp)) (by simp)
        | some u =>
          rcases hO b with z | ⟨ob, xs, z⟩
          · rw [q] at z; cases z
          · obtain ⟨e1, _⟩ := hok b _ z
            obtain ⟨e2, _⟩ := hok' b _ (un.frzs b ob _ z)
            rw [e] at e1; cases e1
            exact e2
      | next => exact False.elim h
      | brk => exact False.elim h
      | cont => exact False.elim h
  cases hk : K.lookup a with
  | some o =>
    have e := KX a o hk
    rw [ha] at e
    cases e
    exact main (fun _ => none) (fun _ => .inl rfl) (.inr ⟨_, vs.toArray, _, hk, rfl, rfl, rfl, by rw [List.size_toArray, lenV]; exact hl, by simpa using rv⟩) (fun b u z => by cases (show (none : Option HO) = some u from z)) (fun b z => absurd rfl z) fun z => absurd rfl z
  | none =>
    have one : ∀ b, (if b = a then some (HO.frz { cls := .type "list", data := .seq vs.toArray } (.lst (ns.map V.int))) else none) ≠ none → b = a := fun b z => Classical.byContradiction fun q => z (if_neg q)
    refine main (fun b => if b = a then some (.frz { cls := .type "list", data := .seq vs.toArray } (.lst (ns.map V.int))) else none) (fun b => ?_) (.inl ⟨_, if_pos rfl⟩) (fun b u z => ?_) one fun _ => hk
    · by_cases q : b = a
      · exact .inr ⟨_, _, if_pos q⟩
      · exact .inl (if_neg q)
    · have q := one b (by rw [show (if b = a then some (HO.frz { cls := .type "list", data := .seq vs.toArray } (.lst (ns.map V.int))) else none) = some u from z]; simp)
      have z' := (if_pos q).symm.trans z
      cases z'
      subst q
      exact ⟨ha, by rw [List.length_map]; exact hl, vs, _, rv, ha⟩
/-- the walk of the law's def, from what it answers -/
theorem law_of {l : PySem.W.OpenLaw} {n j k : Nat} {q : Program} {loose : List Str} {XP : (Str → Option Value) → Heap → Prop} {d : DefRec} {ds : List Dfn} {tb : List (Str × D)} {m : Mk} {dl : Dfn} {x : Str}
    (hn : l.most = some n) (hn2 : n ≤ sizeLine) (hdf : d.params.defaults = []) (hr : Room (k + 2) callerA) (hdl : dl ∈ ds) (hnm : d.name = dl.nm) (hps : dl.fc.ps = [x])
    (nd : (ds.map Dfn.nm).Nodup) (ck : ∀ d ∈ ds, ckD m d = true) (bn : ∀ d ∈ ds, d.Bn) (bk : ∀ p ∈ m.kwl, ∀ d ∈ ds, d.nm = p.1 → d.BnK p.2.1 p.2.2)
    (fns : m.fns.all (fun x => ds.any fun d => decide (d.nm = x)) = true) (dn : m.dn.all (fun x => (tb.lookup x).isSome) = true)
    (xi : m.xs.all Xcl.ok = true) (xbn : ∀ x ∈ m.xs, ∀ f, x.fo = some f → x.Bn f)
    (holds : ∀ ns : List Int, ns.length ≤ n → ∃ S, callN tb (tabOf ds) k dl.nm [.scr (ns.map .int)] [] = some (.bl true, S)) :
    PySem.W.WalkO q loose XP (hookN j ds tb m).says l.row.toRowW d [] (fun f vs => PySem.call f vs) := by
  refine Att.attach_call hn hdf fun w s₀ s₁ mg mb fa o pm cd doc a vs ns G Y ho hd hcd hmg hobj hints hlen hg => ?_
  obtain ⟨K, KX, c⟩ := Y
  have O : PrOk w K mg ds tb m := prOk_of KX G.T.g c nd ck bn bk fns dn xi xbn
  obtain ⟨f, fd, hm, F⟩ := O.fn dl hdl
  rw [hnm, hm] at hmg
  cases hmg
  have bs : ∀ (s : Shared) (u : Value), BindsTo s fd ⟨[u], []⟩ [(x, u)] := fun s u => by
    have := F.bindsA (ps := dl.fc.ps) (O.bn dl hdl) s [u] (by rw [hps]; rfl)
    rw [hps] at this
    exact this
  have FF := fun base => prog_ok (P := l.prog) (w := w) (base := base) O k dl fa fd hdl hm F
  rw [hps] at FF
  refine law_g KX G.T.g G.T.b G.T.builtins G.T.nolimit hg hobj hints (Nat.le_trans hlen hn2) hr FF bs fun H hS => ?_
  obtain ⟨S, e⟩ := holds ns hlen
  refine ⟨⟨[], []⟩, [], _, .bl true, S, ⟨rfl, List.nodup_nil, fun k mo a h => (by simp at h), fun a h => (by cases h), fun a h => (by cases h)⟩, Reps.cons (v := .ref a) (vs := []) ?_ Reps.nil, e, fun v H' μ' E R r => rep_bl r⟩
  simp only [Rep]
  refine ⟨a, _, rfl, hS, ?_⟩
  generalize ns = ms
  induction ms with
  | nil => exact Reps.nil
  | cons i r ih => exact Reps.cons mk_int ih
theorem name_one {ds : List Dfn} {d e : Dfn} (h : (ds.map Dfn.nm).Nodup) (hd : d ∈ ds) (he : e ∈ ds) (q : d.nm = e.nm) : d = e := by
  induction ds with
  | nil => cases hd
  | cons x r ih =>
    obtain ⟨h1, h2⟩ := List.nodup_cons.mp (show (x.nm :: r.map Dfn.nm).Nodup from h)
    rcases List.mem_cons.mp hd with rfl | hd'
    · rcases List.mem_cons.mp he with rfl | he'
      · rfl
      · exact absurd (List.mem_map.mpr ⟨e, he', q.symm⟩) h1
    · rcases List.mem_cons.mp he with rfl | he'
      · exact absurd (List.mem_map.mpr ⟨d, hd', q⟩) h1
      · exact ih h2 hd' he'
end Dn

set_option maxHeartbeats 4000000
namespace Dn
open PySem PySem.Spec PyProof.Rows L2
/-! ### evaluation in the order of the text: what follows is not looked into before its turn -/
def bnd {α β : Type} (o : Option α) [K : Inhabited (α → Option β)] : Option β := o.bind K.default
def mpd {α β : Type} (o : Option α) [K : Inhabited (α → β)] : Option β := o.map K.default
@[simp] theorem bnd_some {α β : Type} {a : α} {f : α → Option β} : @bnd α β (some a) ⟨f⟩ = f a := rfl
@[simp] theorem mpd_some {α β : Type} {a : α} {f : α → β} : @mpd α β (some a) ⟨f⟩ = some (f a) := rfl
def vr : En → Nat → Option D
  | [], _ => none
  | x :: _, 0 => x
  | _ :: r, i + 1 => vr r i
theorem vr_get : ∀ (δ : En) (i : Nat), vr δ i = match δ[i]? with
    | some (some d) => some d
    | _ => none
  | [], i => by simp [vr]
  | x :: r, 0 => by cases x <;> rfl
  | x :: r, i + 1 => by simp only [vr, List.getElem?_cons_succ]; exact vr_get r i
@[simp] theorem vr_0 {x : Option D} {r : En} : vr (x :: r) 0 = x := rfl
@[simp] theorem vr_s {x : Option D} {r : En} {i : Nat} : vr (x :: r) (i + 1) = vr r i := rfl
section
variable {G : GE} {δ : En} {S : Sto} {a b c lo hi e elt o' : C} {es kes ifs : List C} {t : CT} {ts : List CT} {it : CI} {i : Nat} {o op oq : Operator} {f : Str} {g T m : String} {d : D}
@[simp] theorem q_non : evE G .non δ S = some (.non, S) := by simp only [evE]
@[simp] theorem q_bl {b : Bool} : evE G (.bl b) δ S = some (.bl b, S) := by simp only [evE]
@[simp] theorem q_int {i : Int} : evE G (.int i) δ S = some (.int i, S) := by simp only [evE]
@[simp] theorem q_str {x : Str} : evE G (.str x) δ S = some (.str x, S) := by simp only [evE]
@[simp] theorem q_var : evE G (.var i) δ S = @mpd _ _ (vr δ i) ⟨fun d => (d, S)⟩ := by
  simp only [evE, mpd, vr_get]
  cases δ[i]? with
  | none => rfl
  | some o => cases o <;> rfl
@[simp] theorem q_glo {x : Str} : evE G (.glo x) δ S = @mpd _ _ (G.data.lookup x) ⟨fun d => (d, S)⟩ := by simp only [evE]; rfl
@[simp] theorem q_tup : evE G (.tup es) δ S = @bnd _ _ (evEs G es δ S) ⟨fun p => if p.1.length ≤ 16777216 then some (.tup p.1, p.2) else none⟩ := by simp only [evE]; rfl
@[simp] theorem q_lst {own : Option Bool} : evE G (.lst own es) δ S = @bnd _ _ (evEs G es δ S) ⟨fun p => if p.1.length ≤ 16777216 then (match own with
    | none => some (.lst p.1, p.2)
    | some kp => some (.ref p.2.length, p.2 ++ [.lst kp p.1])) else none⟩ := by simp only [evE]; rfl
@[simp] theorem q_dic : evE G .dic0 δ S = some (.dic [] [], S) := by simp only [evE]
@[simp] theorem q_dic1 {x : Str} {i : Int} : evE G (.dic1 x i) δ S = some (.dic [.inr x] [.int i], S) := by simp only [evE]
@[simp] theorem q_zipV {t : Bool} {own : Option Bool} : evE G (.zipV t own a b) δ S = @bnd _ _ (evE G a δ S) ⟨fun p => @bnd _ _ (evE G b δ p.2) ⟨fun q => match p.1, q.1 with
    | .tup xs, .tup ys => if t = true then some (.tup (zipD xs ys), q.2) else (match own with
      | none => some (.lst (zipD xs ys), q.2)
      | some kp => some (.ref q.2.length, q.2 ++ [.lst kp (zipD xs ys)]))
    | _, _ => none⟩⟩ := by simp only [evE]; rfl
@[simp] theorem q_tupS {fl : List Bool} : evE G (.tupS es fl) δ S = @bnd _ _ (evEs G es δ S) ⟨fun p => @bnd _ _ (sprD p.1 fl) ⟨fun ds => if ds.length ≤ 16777216 then some (.tup ds, p.2) else none⟩⟩ := by simp only [evE]; rfl
@[simp] theorem q_din {x : Str} {kvs : List (Str × Int)} : evE G (.din e x kvs) δ S = @bnd _ _ (evE G e δ S) ⟨fun p => match p.1 with
    | .str z => some (.bl (kvs.lookup z).isSome, p.2)
    | _ => none⟩ := by simp only [evE]; rfl
@[simp] theorem q_dix {x : Str} {kvs : List (Str × Int)} : evE G (.dix x kvs e) δ S = @bnd _ _ (evE G e δ S) ⟨fun p => match p.1 with
    | .str z => @mpd _ _ (kvs.lookup z) ⟨fun i => (.int i, p.2)⟩
    | _ => none⟩ := by simp only [evE]; rfl
@[simp] theorem q_mkx {cn f : Str} : evE G (.mkx cn f es) δ S = @bnd _ _ (evEs G es δ S) ⟨fun p => if p.1.length ≤ 1 then some (.exc cn f p.1, p.2) else none⟩ := by simp only [evE]; rfl
@[simp] theorem q_fld {f : Str} {tab : List (Str × Option Str)} : evE G (.fld e f tab) δ S = @bnd _ _ (evE G e δ S) ⟨fun p => match p.1 with
    | .exc C g [d] => if g = f ∧ tab.lookup C = some (some f) then some (d, p.2) else none
    | _ => none⟩ := by simp only [evE]; rfl
@[simp] theorem q_isx {T : Str} {cs : List Str} {tab : List (Str × Option Str)} : evE G (.isx e T cs tab) δ S = @bnd _ _ (evE G e δ S) ⟨fun p => match p.1 with
    | .exc C _ _ => if (tab.lookup C).isSome = true then some (.bl (cs.contains C), p.2) else none
    | _ => none⟩ := by simp only [evE]; rfl
@[simp] theorem q_cat {kp : Bool} : evE G (.cat kp a b) δ S = @bnd _ _ (evE G a δ S) ⟨fun p => @bnd _ _ (evE G b δ p.2) ⟨fun q => match dr q.2 p.1, dr q.2 q.1 with
    | .lst xs, .lst ys => if xs.length + ys.length ≤ 16777216 then some (.ref q.2.length, q.2 ++ [.lst kp (xs ++ ys)]) else none
    | _, _ => none⟩⟩ := by simp only [evE]; rfl
@[simp] theorem q_bin : evE G (.bin o a b) δ S = @bnd _ _ (evE G a δ S) ⟨fun p => @bnd _ _ (evE G b δ p.2) ⟨fun q => @mpd _ _ (binD o (dr q.2 p.1) (dr q.2 q.1)) ⟨fun d => (d, q.2)⟩⟩⟩ := by simp only [evE]; rfl
@[simp] theorem q_neg : evE G (.neg a) δ S = @bnd _ _ (evE G a δ S) ⟨fun p => match p.1 with
    | .int i => some (.int (-i), p.2)
    | _ => none⟩ := by simp only [evE]; rfl
@[simp] theorem q_not : evE G (.not a) δ S = @bnd _ _ (evE G a δ S) ⟨fun p => @mpd _ _ (truD p.2 p.1) ⟨fun k => (.bl (!k), p.2)⟩⟩ := by simp only [evE]; rfl
@[simp] theorem q_cmp {o : CmpOp} : evE G (.cmp o a b) δ S = @bnd _ _ (evE G a δ S) ⟨fun p => @bnd _ _ (evE G b δ p.2) ⟨fun q => @mpd _ _ (cmpD q.2 o p.1 q.1) ⟨fun k => (.bl k, q.2)⟩⟩⟩ := by simp only [evE]; rfl
@[simp] theorem q_cmp2 {o o' : CmpOp} : evE G (.cmp2 o o' a b c) δ S = @bnd _ _ (evE G a δ S) ⟨fun p => @bnd _ _ (evE G b δ p.2) ⟨fun q => @bnd _ _ (cmpD q.2 o p.1 q.1) ⟨fun k =>
    if k = true then @bnd _ _ (evE G c δ q.2) ⟨fun r => @mpd _ _ (cmpD r.2 o' q.1 r.1) ⟨fun k' => (.bl k', r.2)⟩⟩ else some (.bl false, q.2)⟩⟩⟩ := by simp only [evE]; rfl
@[simp] theorem q_and : evE G (.and a b) δ S = @bnd _ _ (evE G a δ S) ⟨fun p => match p.1 with
    | .bl true => evE G b δ p.2
    | .bl false => some (.bl false, p.2)
    | _ => none⟩ := by simp only [evE]; rfl
@[simp] theorem q_or : evE G (.or a b) δ S = @bnd _ _ (evE G a δ S) ⟨fun p => match p.1 with
    | .bl false => evE G b δ p.2
    | .bl true => some (.bl true, p.2)
    | _ => none⟩ := by simp only [evE]; rfl
@[simp] theorem q_ite : evE G (.ite c a b) δ S = @bnd _ _ (evT G c δ S) ⟨fun p => if p.1 = true then evE G a δ p.2 else evE G b δ p.2⟩ := by simp only [evE]; rfl
@[simp] theorem q_call : evE G (.call f es) δ S = @bnd _ _ (evEs G es δ S) ⟨fun p => G.call f p.1 p.2⟩ := by simp only [evE]; rfl
@[simp] theorem q_callK {ks : List Str} : evE G (.callK f es ks kes) δ S = @bnd _ _ (evEs G es δ S) ⟨fun p => @bnd _ _ (evEs G kes δ p.2) ⟨fun q => @bnd _ _ (G.kw f es.length ks) ⟨fun pl =>
    @bnd _ _ (pick (p.1 ++ q.1) pl) ⟨fun ds => G.call f ds q.2⟩⟩⟩⟩ := by simp only [evE]; rfl
@[simp] theorem q_blt : evE G (.blt g es) δ S = @bnd _ _ (evEs G es δ S) ⟨fun p => @mpd _ _ (bltD p.2 g p.1) ⟨fun d => (d, p.2)⟩⟩ := by simp only [evE]; rfl
@[simp] theorem q_isi : evE G (.isi e T) δ S = @bnd _ _ (evE G e δ S) ⟨fun p => @mpd _ _ (kitB (tyD p.1) T) ⟨fun k => (.bl k, p.2)⟩⟩ := by simp only [evE]; rfl
@[simp] theorem q_meth : evE G (.meth m o' es) δ S = @bnd _ _ (evE G o' δ S) ⟨fun p => @bnd _ _ (evEs G es δ p.2) ⟨fun q => methD q.2 m p.1 q.1⟩⟩ := by simp only [evE]; rfl
@[simp] theorem q_ix : evE G (.ix a b) δ S = @bnd _ _ (evE G a δ S) ⟨fun p => @bnd _ _ (evE G b δ p.2) ⟨fun q => @mpd _ _ (ixD q.2 p.1 q.1) ⟨fun d => (d, q.2)⟩⟩⟩ := by simp only [evE]; rfl
@[simp] theorem q_sl : evE G (.sl a lo hi) δ S = @bnd _ _ (evE G a δ S) ⟨fun p => @bnd _ _ (evE G lo δ p.2) ⟨fun q => @bnd _ _ (evE G hi δ q.2) ⟨fun r =>
    @bnd _ _ (partD (isNonC lo) q.1) ⟨fun l => @bnd _ _ (partD (isNonC hi) r.1) ⟨fun h => @mpd _ _ (slD r.2 p.1 l h) ⟨fun d => (d, r.2)⟩⟩⟩⟩⟩⟩ := by simp only [evE]; rfl
@[simp] theorem q_rev : evE G (.rev a) δ S = @bnd _ _ (evE G a δ S) ⟨fun p => match dr p.2 p.1 with
    | .tup xs => some (.tup xs.reverse, p.2)
    | .lst xs => some (.lst xs.reverse, p.2)
    | .scr xs => some (.lst xs.reverse, p.2)
    | _ => none⟩ := by simp only [evE]; rfl
/-- a comprehension: one turn -/
noncomputable def lcTurn (G : GE) (elt : C) (t : CT) (ifs : List C) (own : List Nat) (δ : En) (x : D) (S : Sto) : Option (Option D × Sto) :=
  @bnd _ _ (evT' G t x (wipeD δ own) S) ⟨fun e => @bnd _ _ (evIf G ifs e.1 e.2) ⟨fun b => if b.1 = true then @mpd _ _ (evE G elt e.1 b.2) ⟨fun y => (some y.1, y.2)⟩ else some (none, b.2)⟩⟩
@[simp] theorem q_lc {own : List Nat} : evE G (.lc elt t it ifs own) δ S = @bnd _ _ (evI G it δ S) ⟨fun w => @bnd _ _ (loopLc w.1 (lcTurn G elt t ifs own δ) w.1.xs w.2) ⟨fun q =>
      if q.1.length ≤ 16777216 then some (.lst q.1, q.2) else none⟩⟩ := by simp only [evE]; rfl
@[simp] theorem q_nil : evEs G [] δ S = some ([], S) := by simp only [evEs]
@[simp] theorem q_cons : evEs G (e :: es) δ S = @bnd _ _ (evE G e δ S) ⟨fun p => @mpd _ _ (evEs G es δ p.2) ⟨fun q => (p.1 :: q.1, q.2)⟩⟩ := by simp only [evEs]; rfl
@[simp] theorem qt_not : evT G (.not a) δ S = @mpd _ _ (evT G a δ S) ⟨fun p => (!p.1, p.2)⟩ := by simp only [evT]; rfl
@[simp] theorem qt_and : evT G (.and a b) δ S = @bnd _ _ (evT G a δ S) ⟨fun p => if p.1 = true then evT G b δ p.2 else some (false, p.2)⟩ := by simp only [evT]; rfl
@[simp] theorem qt_or : evT G (.or a b) δ S = @bnd _ _ (evT G a δ S) ⟨fun p => if p.1 = true then some (true, p.2) else evT G b δ p.2⟩ := by simp only [evT]; rfl
@[simp] theorem qt_bl {b : Bool} : evT G (.bl b) δ S = some (b, S) := by simp only [evT]
@[simp] theorem qt_ix : evT G (.ix a b) δ S = @bnd _ _ (evE G a δ S) ⟨fun p => @bnd _ _ (evE G b δ p.2) ⟨fun q => @bnd _ _ (ixD q.2 p.1 q.1) ⟨fun d => @mpd _ _ (truD q.2 d) ⟨fun k => (k, q.2)⟩⟩⟩⟩ := by simp only [evT]; rfl
@[simp] theorem qt_cmp {o : CmpOp} : evT G (.cmp o a b) δ S = @bnd _ _ (evE G a δ S) ⟨fun p => @bnd _ _ (evE G b δ p.2) ⟨fun q => @mpd _ _ (cmpD q.2 o p.1 q.1) ⟨fun k => (k, q.2)⟩⟩⟩ := by simp only [evT]; rfl
@[simp] theorem qt_cmp2 {o o' : CmpOp} : evT G (.cmp2 o o' a b c) δ S = @bnd _ _ (evE G a δ S) ⟨fun p => @bnd _ _ (evE G b δ p.2) ⟨fun q => @bnd _ _ (cmpD q.2 o p.1 q.1) ⟨fun k =>
    if k = true then @bnd _ _ (evE G c δ q.2) ⟨fun r => @mpd _ _ (cmpD r.2 o' q.1 r.1) ⟨fun k' => (k', r.2)⟩⟩ else some (false, q.2)⟩⟩⟩ := by simp only [evT]; rfl
@[simp] theorem qt_call : evT G (.call f es) δ S = @bnd _ _ (evEs G es δ S) ⟨fun p => @bnd _ _ (G.call f p.1 p.2) ⟨fun r => @mpd _ _ (truD r.2 r.1) ⟨fun k => (k, r.2)⟩⟩⟩ := by simp only [evT]; rfl
@[simp] theorem qt_blt : evT G (.blt g es) δ S = @bnd _ _ (evEs G es δ S) ⟨fun p => @bnd _ _ (bltD p.2 g p.1) ⟨fun d => @mpd _ _ (truD p.2 d) ⟨fun k => (k, p.2)⟩⟩⟩ := by simp only [evT]; rfl
@[simp] theorem qt_din {x : Str} {kvs : List (Str × Int)} : evT G (.din e x kvs) δ S = @bnd _ _ (evE G e δ S) ⟨fun p => match p.1 with
    | .str z => some ((kvs.lookup z).isSome, p.2)
    | _ => none⟩ := by simp only [evT]; rfl
@[simp] theorem qt_isi : evT G (.isi e T) δ S = @bnd _ _ (evE G e δ S) ⟨fun p => @mpd _ _ (kitB (tyD p.1) T) ⟨fun k => (k, p.2)⟩⟩ := by simp only [evT]; rfl
@[simp] theorem qt_var : evT G (.var i) δ S = @bnd _ _ (vr δ i) ⟨fun d => @mpd _ _ (truD S d) ⟨fun k => (k, S)⟩⟩ := by
  simp only [evT, bnd, vr_get]
  cases δ[i]? with
  | none => rfl
  | some o => cases o <;> rfl
@[simp] theorem qi_nil : evIf G [] δ S = some (true, S) := by simp only [evIf]
@[simp] theorem qi_one : evIf G [c] δ S = evT G c δ S := by simp only [evIf]
@[simp] theorem qg_name : evT' G (.name i) d δ S = some (δ.set i (some d), S) := by simp only [evT']
@[simp] theorem qg_tup {xs : List D} : evT' G (.tup ts) (.tup xs) δ S = evTs G ts xs δ S := by simp only [evT']
@[simp] theorem qg_sub : evT' G (.sub a b) d δ S = @bnd _ _ (evE G a δ S) ⟨fun p => @bnd _ _ (evE G b δ p.2) ⟨fun q => @mpd _ _ (setD q.2 p.1 q.1 d) ⟨fun S' => (δ, S')⟩⟩⟩ := by simp only [evT']; rfl
@[simp] theorem qg_nil : evTs G [] [] δ S = some (δ, S) := by simp only [evTs]
@[simp] theorem qg_cons {x : D} {xs : List D} : evTs G (t :: ts) (x :: xs) δ S = @bnd _ _ (evT' G t x δ S) ⟨fun p => evTs G ts xs p.1 p.2⟩ := by simp only [evTs]; rfl
@[simp] theorem qw_seq : evI G (.seq e) δ S = @bnd _ _ (evE G e δ S) ⟨fun p => @mpd _ _ (items p.2 p.1) ⟨fun xs => (⟨xs, srcOf p.1⟩, p.2)⟩⟩ := by simp only [evI]; rfl
@[simp] theorem qw_rng1 : evI G (.rng1 a) δ S = @bnd _ _ (evE G a δ S) ⟨fun p => match p.1 with
    | .int j => if smallI j = true then some (⟨rngD 0 j.toNat, none⟩, p.2) else none
    | _ => none⟩ := by simp only [evI]; rfl
@[simp] theorem qw_rng2 : evI G (.rng2 a b) δ S = @bnd _ _ (evE G a δ S) ⟨fun p => @bnd _ _ (evE G b δ p.2) ⟨fun q => match p.1, q.1 with
    | .int i, .int j => if smallI i = true ∧ smallI j = true then some (⟨rngD i (j - i).toNat, none⟩, q.2) else none
    | _, _ => none⟩⟩ := by simp only [evI]; rfl
@[simp] theorem qw_enm : evI G (.enm e) δ S = @bnd _ _ (evE G e δ S) ⟨fun p => match p.1 with
    | .lst xs => some (⟨enmD 0 xs, none⟩, p.2)
    | .scr xs => some (⟨enmD 0 xs, none⟩, p.2)
    | .tup xs => some (⟨enmD 0 xs, none⟩, p.2)
    | _ => none⟩ := by simp only [evI]; rfl
@[simp] theorem qw_zip : evI G (.zip a b) δ S = @bnd _ _ (evE G a δ S) ⟨fun p => @bnd _ _ (evE G b δ p.2) ⟨fun q => match p.1, q.1 with
    | .lst xs, .lst ys => some (⟨zipD xs ys, none⟩, q.2)
    | .tup xs, .tup ys => some (⟨zipD xs ys, none⟩, q.2)
    | _, _ => none⟩⟩ := by simp only [evI]; rfl
variable {ss tt body : List CS} {s : CS}
@[simp] theorem x_expr : exS G (.expr e) δ S = @mpd _ _ (evE G e δ S) ⟨fun p => (.nx δ, p.2)⟩ := by simp only [exS]; rfl
@[simp] theorem x_asg : exS G (.asg t e) δ S = @bnd _ _ (evE G e δ S) ⟨fun p => @mpd _ _ (evT' G t p.1 δ p.2) ⟨fun q => (.nx q.1, q.2)⟩⟩ := by simp only [exS]; rfl
@[simp] theorem x_par {i j : Nat} : exS G (.par i j a b) δ S = @bnd _ _ (evE G a δ S) ⟨fun p => @mpd _ _ (evE G b δ p.2) ⟨fun q => (.nx ((δ.set i (some p.1)).set j (some q.1)), q.2)⟩⟩ := by simp only [exS]; rfl
@[simp] theorem x_par3 {i j l : Nat} : exS G (.par3 i j l a b c) δ S = @bnd _ _ (evE G a δ S) ⟨fun p => @bnd _ _ (evE G b δ p.2) ⟨fun q => @mpd _ _ (evE G c δ q.2) ⟨fun r => (.nx (((δ.set i (some p.1)).set j (some q.1)).set l (some r.1)), r.2)⟩⟩⟩ := by simp only [exS]; rfl
@[simp] theorem x_ret : exS G (.ret e) δ S = @mpd _ _ (evE G e δ S) ⟨fun p => (.rt p.1, p.2)⟩ := by simp only [exS]; rfl
@[simp] theorem x_retN : exS G .retN δ S = some (.rt .non, S) := by simp only [exS]
@[simp] theorem x_if : exS G (.ife c ss tt) δ S = @bnd _ _ (evT G c δ S) ⟨fun p => if p.1 = true then exSs G ss δ p.2 else exSs G tt δ p.2⟩ := by simp only [exS]; rfl
/-- one turn of a for loop -/
noncomputable def forTurn (G : GE) (t : CT) (body : List CS) (x : D) (δ : En) (S : Sto) : Option (Fl × Sto) := @bnd _ _ (evT' G t x δ S) ⟨fun q => exSs G body q.1 q.2⟩
@[simp] theorem x_for : exS G (.for_ t it body) δ S = @bnd _ _ (evI G it δ S) ⟨fun w => loopFor w.1 (forTurn G t body) w.1.xs δ w.2⟩ := by simp only [exS]; rfl
/-- a while loop, not looked into -/
noncomputable def whX (G : GE) (c : C) (body : List CS) (δ : En) (S : Sto) : Option (Fl × Sto) := whD (fun δ S => evT G c δ S) (fun δ S => exSs G body δ S) δ S
@[simp] theorem x_whl : exS G (.whl c body) δ S = whX G c body δ S := by simp only [exS]; rfl
@[simp] theorem x_pass : exS G .pass δ S = some (.nx δ, S) := by simp only [exS]
@[simp] theorem x_brk : exS G .brk δ S = some (.bk δ, S) := by simp only [exS]
@[simp] theorem x_cont : exS G .cont δ S = some (.ct δ, S) := by simp only [exS]
@[simp] theorem x_nil : exSs G [] δ S = some (.nx δ, S) := by simp only [exSs]
@[simp] theorem x_cons : exSs G (s :: ss) δ S = @bnd _ _ (exS G s δ S) ⟨fun p => match p.1 with
    | .nx δ1 => exSs G ss δ1 p.2
    | f => some (f, p.2)⟩ := by simp only [exSs]; rfl
end
theorem q_of {tb : List (Str × D)} {P : List (Str × Fn)} {n : Nat} {f : Str} {ds : List D} {S : Sto} {fc : Fn} (h : P.lookup f = some fc) (hl : ds.length = fc.ps.length) :
    callN tb P (n + 1) f ds S = @bnd _ _ (exSs (geN tb P n) fc.body (startD fc.N.length ds) S) ⟨fun p => match p.1 with
      | .rt d => gc S d p.2
      | .nx _ => gc S .non p.2
      | _ => none⟩ := by
  unfold callN
  rw [h]
  simp only [Option.bind_some, hl, ↓reduceIte]
  rfl
theorem gc_same {S S' : Sto} {d : D} (h : S'.length ≤ S.length) : gc S d S' = some (d, S') := by
  unfold gc
  rw [if_pos h]
/-! ### bounds -/
theorem log_lt {n k : Nat} (h : n < 2 ^ k) (hk : 0 < k) : n.log2 < k := by
  by_cases h0 : n = 0
  · subst h0; simpa using hk
  · exact (Nat.log2_lt h0).mpr h
theorem mul_ok {i j : Int} (hi : i.natAbs < 2 ^ 400000) (hj : j.natAbs < 2 ^ 400000) : mulOk i j = true := by
  have h1 := log_lt hi (by omega)
  have h2 := log_lt hj (by omega)
  unfold mulOk
  rw [decide_eq_true_eq]
  omega
theorem nat_lt {i : Int} (h1 : 0 ≤ i) (h2 : i < 2 ^ 62) : i.natAbs < 2 ^ 400000 := by
  have : (2 : Nat) ^ 62 ≤ 2 ^ 400000 := Nat.pow_le_pow_right (by omega) (by omega)
  have h3 : i.natAbs < 2 ^ 62 := by omega
  omega
theorem div_ok {j : Int} (h1 : 0 < j) (h2 : j < 2 ^ 62) : divOk j = true := by
  have := log_lt (n := j.natAbs) (k := 62) (by omega) (by omega)
  unfold divOk
  simp only [Bool.and_eq_true, decide_eq_true_eq]
  omega
end Dn

set_option maxHeartbeats 4000000
namespace Dn
open PySem PySem.Spec PyProof.Rows L2
/-! ### classes of values; lists -/
@[simp] theorem kit_NoneType_int : kitB "NoneType" "int" = some false := by decide +kernel
@[simp] theorem kit_NoneType_str : kitB "NoneType" "str" = some false := by decide +kernel
@[simp] theorem kit_NoneType_bool : kitB "NoneType" "bool" = some false := by decide +kernel
@[simp] theorem kit_NoneType_tuple : kitB "NoneType" "tuple" = some false := by decide +kernel
@[simp] theorem kit_NoneType_list : kitB "NoneType" "list" = some false := by decide +kernel
@[simp] theorem kit_NoneType_dict : kitB "NoneType" "dict" = some false := by decide +kernel
@[simp] theorem kit_bool_int : kitB "bool" "int" = some true := by decide +kernel
@[simp] theorem kit_bool_str : kitB "bool" "str" = some false := by decide +kernel
@[simp] theorem kit_bool_bool : kitB "bool" "bool" = some true := by decide +kernel
@[simp] theorem kit_bool_tuple : kitB "bool" "tuple" = some false := by decide +kernel
@[simp] theorem kit_bool_list : kitB "bool" "list" = some false := by decide +kernel
@[simp] theorem kit_bool_dict : kitB "bool" "dict" = some false := by decide +kernel
@[simp] theorem kit_int_int : kitB "int" "int" = some true := by decide +kernel
@[simp] theorem kit_int_str : kitB "int" "str" = some false := by decide +kernel
@[simp] theorem kit_int_bool : kitB "int" "bool" = some false := by decide +kernel
@[simp] theorem kit_int_tuple : kitB "int" "tuple" = some false := by decide +kernel
@[simp] theorem kit_int_list : kitB "int" "list" = some false := by decide +kernel
@[simp] theorem kit_int_dict : kitB "int" "dict" = some false := by decide +kernel
@[simp] theorem kit_str_int : kitB "str" "int" = some false := by decide +kernel
@[simp] theorem kit_str_str : kitB "str" "str" = some true := by decide +kernel
@[simp] theorem kit_str_bool : kitB "str" "bool" = some false := by decide +kernel
@[simp] theorem kit_str_tuple : kitB "str" "tuple" = some false := by decide +kernel
@[simp] theorem kit_str_list : kitB "str" "list" = some false := by decide +kernel
@[simp] theorem kit_str_dict : kitB "str" "dict" = some false := by decide +kernel
@[simp] theorem kit_tuple_int : kitB "tuple" "int" = some false := by decide +kernel
@[simp] theorem kit_tuple_str : kitB "tuple" "str" = some false := by decide +kernel
@[simp] theorem kit_tuple_bool : kitB "tuple" "bool" = some false := by decide +kernel
@[simp] theorem kit_tuple_tuple : kitB "tuple" "tuple" = some true := by decide +kernel
@[simp] theorem kit_tuple_list : kitB "tuple" "list" = some false := by decide +kernel
@[simp] theorem kit_tuple_dict : kitB "tuple" "dict" = some false := by decide +kernel
@[simp] theorem kit_list_int : kitB "list" "int" = some false := by decide +kernel
@[simp] theorem kit_list_str : kitB "list" "str" = some false := by decide +kernel
@[simp] theorem kit_list_bool : kitB "list" "bool" = some false := by decide +kernel
@[simp] theorem kit_list_tuple : kitB "list" "tuple" = some false := by decide +kernel
@[simp] theorem kit_list_list : kitB "list" "list" = some true := by decide +kernel
@[simp] theorem kit_list_dict : kitB "list" "dict" = some false := by decide +kernel
@[simp] theorem kit_dict_int : kitB "dict" "int" = some false := by decide +kernel
@[simp] theorem kit_dict_str : kitB "dict" "str" = some false := by decide +kernel
@[simp] theorem kit_dict_bool : kitB "dict" "bool" = some false := by decide +kernel
@[simp] theorem kit_dict_tuple : kitB "dict" "tuple" = some false := by decide +kernel
@[simp] theorem kit_dict_list : kitB "dict" "list" = some false := by decide +kernel
@[simp] theorem kit_dict_dict : kitB "dict" "dict" = some true := by decide +kernel
theorem ok_none {xs : List D} {S : Sto} : okW ⟨xs, none⟩ S := fun k h => by cases h
/-- a comprehension whose turns leave the store -/
theorem loop_map {w : Wk} {turn : D → Sto → Option (Option D × Sto)} {S : Sto} {f : D → D} (hw : okW w S) : ∀ {xs : List D}, (∀ x ∈ xs, turn x S = some (some (f x), S)) → loopLc w turn xs S = some (xs.map f, S)
  | [], _ => by unfold loopLc; rw [if_pos hw]; rfl
  | x :: xs, h => by
    unfold loopLc
    rw [if_pos hw, h x (List.mem_cons_self ..), Option.bind_some, loop_map hw fun y hy => h y (List.mem_cons_of_mem _ hy)]
    rfl
theorem bls_map {α : Type} {g : α → Bool} : ∀ {xs : List α}, blsD (xs.map fun x => .bl (g x)) = some (xs.map g)
  | [] => rfl
  | x :: xs => by simp only [List.map_cons, blsD, bls_map, Option.map_some]
theorem ints_map {α : Type} {g : α → Int} : ∀ {xs : List α}, intsD (xs.map fun x => .int (g x)) = some (xs.map g)
  | [] => rfl
  | x :: xs => by simp only [List.map_cons, intsD, ints_map, Option.map_some]
theorem flat_map {α : Type} {g : α → Int} : ∀ {xs : List α}, (xs.map fun x => D.int (g x)).all flatD = true
  | [] => rfl
  | x :: xs => by simp only [List.map_cons, List.all_cons, flat_map, flatD, Bool.and_self]
theorem any_map {α : Type} {g : α → Int} {i : Int} : ∀ {xs : List α}, ((xs.map fun x => D.int (g x)).any fun y => eqV (vD y) (vD (.int i))) = decide (i ∈ xs.map g)
  | [] => rfl
  | x :: xs => by
    rw [List.map_cons, List.any_cons, any_map (xs := xs), List.map_cons]
    simp only [vD, eqV]
    by_cases h : g x = i
    · simp [h]
    · simp [h, Ne.symm h]
theorem in_ints {α : Type} {g : α → Int} {i : Int} {xs : List α} {S : Sto} : inD S (.int i) (.lst (xs.map fun x => .int (g x))) = some (decide (i ∈ xs.map g)) := by
  unfold inD
  simp only [items, Option.bind_some, flat_map, flatD, Bool.and_self, ↓reduceIte]
  rw [any_map]
theorem cut_tail {x : D} {xs : List D} : cutD (x :: xs) (some 1) none = xs := by
  unfold cutD
  simp [HT.sIx]
theorem at_nat {α : Type} {xs : List α} {i : Nat} (h : i < xs.length) : atI xs (i : Int) = some xs[i] := by
  unfold atI ixN
  rw [if_pos (by omega), if_pos (by omega)]
  simp [h]
end Dn

set_option maxHeartbeats 4000000
namespace Dn
open PySem PySem.Spec PyProof.Rows L2
/-! ### while, without its count -/
theorem wh_stop {G : GE} {c : C} {body : List CS} {δ : En} {S S1 : Sto} (h : evT G c δ S = some (false, S1)) : whX G c body δ S = some (.nx δ, S1) :=
  whD_of (n := 1) (by unfold whN; rw [h]; rfl)
theorem wh_go {G : GE} {c : C} {body : List CS} {δ δ1 : En} {S S1 S2 : Sto} {r : Fl × Sto} (h : evT G c δ S = some (true, S1)) (h1 : exSs G body δ S1 = some (.nx δ1, S2)) (h2 : whX G c body δ1 S2 = some r) : whX G c body δ S = some r := by
  obtain ⟨n, e⟩ := of_whD h2
  refine whD_of (n := n + 1) ?_
  unfold whN
  rw [h]
  simp only [Option.bind_some, ↓reduceIte]
  rw [h1]
  exact e
/-! ### the store but for one object -/
def Same (k : Nat) (S S' : Sto) : Prop := S'.length = S.length ∧ ∀ i, i ≠ k → S'[i]? = S[i]?
theorem Same.refl {k : Nat} {S : Sto} : Same k S S := ⟨rfl, fun _ _ => rfl⟩
theorem Same.trans {k : Nat} {S S1 S2 : Sto} (a : Same k S S1) (b : Same k S1 S2) : Same k S S2 := ⟨b.1.trans a.1, fun i h => (b.2 i h).trans (a.2 i h)⟩
theorem Same.set {k : Nat} {S : Sto} {mo : MO} : Same k S (S.set k mo) := ⟨List.length_set, fun i h => List.getElem?_set_ne (Ne.symm h)⟩
/-- a spring at k, drawn from at most j times past its own digits -/
def Sp (k j : Nat) (S : Sto) : Prop := ∃ a b c : Int, S[k]? = some (.lst true [.int a, .int b, .int c]) ∧ 0 ≤ b ∧ b < 2147483648 ∧ 0 ≤ c ∧ c ≤ j
theorem Sp.mono {k j j' : Nat} {S : Sto} (h : Sp k j S) (hj : j ≤ j') : Sp k j' S := by
  obtain ⟨a, b, c, e, h1, h2, h3, h4⟩ := h
  exact ⟨a, b, c, e, h1, h2, h3, by omega⟩
def gcdI (x y : Int) : Int := ((Nat.gcd x.natAbs y.natAbs : Nat) : Int)
end Dn
namespace Geo
open PySem PySem.Spec PyProof.Rows L2 Dn
def g_draw : Fn := ⟨["spring", "many"], ["spring", "many", "seed", "digit"], [
  .ife (.cmp .Gt (.ix (.var 0) (.int 0)) (.int 0)) [.asg (.tup [(.sub (.var 0) (.int 0)), (.name 3)]) (.blt "divmod" [.ix (.var 0) (.int 0), .var 1]), .ret (.var 3)] [],
  .asg (.sub (.var 0) (.int 2)) (.bin .Add (.ix (.var 0) (.int 2)) (.int 1)),
  .asg (.name 2) (.bin .Mod (.blt "int" [.bin .Add (.ix (.var 0) (.int 1)) (.bin .Mult (.int 70003) (.ix (.var 0) (.int 2)))]) (.int 2147483629)),
  .asg (.sub (.var 0) (.int 1)) (.bin .Mod (.blt "int" [.bin .Add (.bin .Mult (.var 2) (.bin .Add (.bin .Mod (.blt "int" [.var 2]) (.int 6007)) (.int 50021))) (.bin .Mult (.int 29) (.ix (.var 0) (.int 2)))]) (.int 2147483629)),
  .ret (.bin .Mod (.blt "int" [.bin .FloorDiv (.ix (.var 0) (.int 1)) (.int 769)]) (.var 1))]⟩
def g_one_of : Fn := ⟨["spring", "some"], ["spring", "some"], [
  .ret (.ix (.var 1) (.call "_law_draw" [.var 0, .blt "len" [.var 1]]))]⟩
def g_divisor : Fn := ⟨["one", "two"], ["one", "two", "far", "rest"], [
  .par 2 3 (.blt "abs" [.var 0]) (.blt "abs" [.var 1]),
  .whl (.cmp .NotEq (.var 3) (.int 0)) [.par 2 3 (.var 3) (.bin .Mod (.blt "int" [.var 2]) (.var 3))],
  .ret (.var 2)]⟩
def g_part : Fn := ⟨["top", "base"], ["top", "base", "far"], [
  .asg (.name 2) (.ite (.cmp .Gt (.var 1) (.int 0)) (.call "_law_divisor" [.var 0, .var 1]) (.bin .Sub (.int 0) (.call "_law_divisor" [.var 0, .var 1]))),
  .ret (.tup [.bin .FloorDiv (.var 0) (.var 2), .bin .FloorDiv (.var 1) (.var 2)])]⟩
def g_place : Fn := ⟨["x", "y", "w"], ["x", "y", "w", "far"], [
  .asg (.name 3) (.ite (.cmp .Gt (.var 2) (.int 0)) (.call "_law_divisor" [.call "_law_divisor" [.var 0, .var 1], .var 2]) (.bin .Sub (.int 0) (.call "_law_divisor" [.call "_law_divisor" [.var 0, .var 1], .var 2]))),
  .ret (.tup [.bin .FloorDiv (.var 0) (.var 3), .bin .FloorDiv (.var 1) (.var 3), .bin .FloorDiv (.var 2) (.var 3)])]⟩
def g_told : Fn := ⟨["place"], ["place"], [
  .ret (.tup [.call "_law_part" [.ix (.var 0) (.int 0), .ix (.var 0) (.int 2)], .call "_law_part" [.ix (.var 0) (.int 1), .ix (.var 0) (.int 2)]])]⟩
def g_own : Fn := ⟨["told"], ["told", "a", "b", "c", "d"], [
  .asg (.tup [(.tup [(.name 1), (.name 2)]), (.tup [(.name 3), (.name 4)])]) (.var 0),
  .ret (.call "_law_place" [.bin .Mult (.var 1) (.var 4), .bin .Mult (.var 3) (.var 2), .bin .Mult (.var 2) (.var 4)])]⟩
def g_frame : Fn := ⟨["spring"], ["spring", "wide", "x", "y", "step", "under"], [
  .asg (.name 1) (.call "_law_one_of" [.var 0, .tup [.int 3, .int 4, .int 5]]),
  .asg (.tup [(.name 2), (.name 3), (.name 4), (.name 5)]) (.call "_law_one_of" [.var 0, .tup [.tup [.int 0, .int 0, .int 1, .int 1], .tup [.int 0, .int 0, .int 1, .int 1], .tup [.neg (.int 2), .neg (.int 1), .int 1, .int 1], .tup [.neg (.int 3), .int 1, .int 1, .int 2], .tup [.int 0, .neg (.int 5), .int 2, .int 3], .tup [.int 1, .int 1, .int 5, .int 6], .tup [.neg (.int 700000), .int 250001, .int 100003, .int 1], .tup [.neg (.int 1), .neg (.int 2), .int 2, .int 1]]]),
  .ret (.tup [.var 2, .var 3, .var 4, .var 5, .var 1])]⟩
def g_grid : Fn := ⟨["frame", "i", "j", "n"], ["frame", "i", "j", "n", "x", "y", "step", "under", "wide"], [
  .asg (.tup [(.name 4), (.name 5), (.name 6), (.name 7), (.name 8)]) (.var 0),
  .ret (.tup [.call "_law_part" [.bin .Add (.bin .Mult (.var 4) (.var 3)) (.bin .Mult (.var 6) (.var 1)), .bin .Mult (.var 7) (.var 3)], .call "_law_part" [.bin .Add (.bin .Mult (.var 5) (.var 3)) (.bin .Mult (.var 6) (.var 2)), .bin .Mult (.var 7) (.var 3)]])]⟩
def g_dot : Fn := ⟨["spring", "frame"], ["spring", "frame", "n", "i", "j"], [
  .asg (.name 2) (.call "_law_one_of" [.var 0, .tup [.int 1, .int 1, .int 2, .int 2, .int 3]]),
  .par 3 4 (.call "_law_draw" [.var 0, .bin .Add (.bin .Mult (.var 2) (.ix (.var 1) (.int 4))) (.int 1)]) (.call "_law_draw" [.var 0, .bin .Add (.bin .Mult (.var 2) (.ix (.var 1) (.int 4))) (.int 1)]),
  .ret (.call "_law_grid" [.var 1, .var 3, .var 4, .var 2])]⟩
def g_is_whole : Fn := ⟨["value"], ["value"], [
  .ret (.and (.isi (.var 0) "int") (.not (.isi (.var 0) "bool")))]⟩
def g_are_wholes : Fn := ⟨["value", "many"], ["value", "many", "each"], [
  .ret (.and (.isi (.var 0) "tuple") (.and (.cmp .Eq (.blt "len" [.var 0]) (.var 1)) (.blt "all" [.lc (.call "is_whole" [.var 2]) (.name 2) (.seq (.var 0)) [] [2]])))]⟩
def g_is_ratio : Fn := ⟨["value"], ["value"], [
  .ret (.and (.call "are_wholes" [.var 0, .int 2]) (.and (.cmp .Gt (.ix (.var 0) (.int 1)) (.int 0)) (.cmp .Eq (.blt "gcd" [.ix (.var 0) (.int 0), .ix (.var 0) (.int 1)]) (.int 1))))]⟩
def g_ratio : Fn := ⟨["top", "low"], ["top", "low", "part"], [
  .asg (.name 2) (.ite (.cmp .Gt (.var 1) (.int 0)) (.blt "gcd" [.var 0, .var 1]) (.neg (.blt "gcd" [.var 0, .var 1]))),
  .ret (.tup [.bin .FloorDiv (.var 0) (.var 2), .bin .FloorDiv (.var 1) (.var 2)])]⟩
def g_minus : Fn := ⟨["one", "two"], ["one", "two"], [
  .ret (.call "ratio" [.bin .Sub (.bin .Mult (.ix (.var 0) (.int 0)) (.ix (.var 1) (.int 1))) (.bin .Mult (.ix (.var 1) (.int 0)) (.ix (.var 0) (.int 1))), .bin .Mult (.ix (.var 0) (.int 1)) (.ix (.var 1) (.int 1))])]⟩
def g_times : Fn := ⟨["one", "two"], ["one", "two"], [
  .ret (.call "ratio" [.bin .Mult (.ix (.var 0) (.int 0)) (.ix (.var 1) (.int 0)), .bin .Mult (.ix (.var 0) (.int 1)) (.ix (.var 1) (.int 1))])]⟩
def g_is_pointed : Fn := ⟨["value"], ["value", "each"], [
  .ret (.and (.isi (.var 0) "tuple") (.and (.cmp .Eq (.blt "len" [.var 0]) (.int 2)) (.blt "all" [.lc (.call "is_ratio" [.var 1]) (.name 1) (.seq (.var 0)) [] [1]])))]⟩
def g_step_of : Fn := ⟨["start", "end"], ["start", "end"], [
  .ret (.tup [.call "minus" [.ix (.var 1) (.int 0), .ix (.var 0) (.int 0)], .call "minus" [.ix (.var 1) (.int 1), .ix (.var 0) (.int 1)]])]⟩
def g_cross : Fn := ⟨["one", "two"], ["one", "two"], [
  .ret (.call "minus" [.call "times" [.ix (.var 0) (.int 0), .ix (.var 1) (.int 1)], .call "times" [.ix (.var 0) (.int 1), .ix (.var 1) (.int 0)]])]⟩
structure HasD (PT : List (Str × Fn)) : Prop where
  draw : PT.lookup ("_law_draw" : Str) = some g_draw
  one_of : PT.lookup ("_law_one_of" : Str) = some g_one_of
  divisor : PT.lookup ("_law_divisor" : Str) = some g_divisor
  part : PT.lookup ("_law_part" : Str) = some g_part
structure Has (PT : List (Str × Fn)) : Prop extends HasD PT where
  place : PT.lookup ("_law_place" : Str) = some g_place
  told : PT.lookup ("_law_told" : Str) = some g_told
  own : PT.lookup ("_law_own" : Str) = some g_own
section
variable {tb : List (Str × D)} {PT : List (Str × Fn)} {n j k : Nat} {S : Sto}
theorem draw1 (T : HasD PT) {a b c m : Int} (hS : S[k]? = some (.lst true [.int a, .int b, .int c])) (ha : 0 < a) (hm : 0 < m) (hm2 : m < 1073741824) :
    callN tb PT (n + 1) "_law_draw" [.ref k, .int m] S = some (.int (a % m), S.set k (.lst true [.int (a / m), .int b, .int c])) := by
  have hk : k < S.length := (List.getElem?_eq_some_iff.mp hS).1
  have hset : ∀ v, (S.set k v)[k]? = some v := fun v => List.getElem?_set_self hk
  clear hk
  rw [q_of T.draw rfl]
  simp only [g_draw]
  simp [startD, MO.xs, gc_same, ixD, items, cmpD, atI, bltD, setD, ixN, hS, hset, ha, hm, hm2]
theorem draw2 (T : HasD PT) {a b c m : Int} (hS : S[k]? = some (.lst true [.int a, .int b, .int c])) (ha : ¬ 0 < a) (hm : 0 < m) (hb : 0 ≤ b ∧ b < 2147483648) (hc : 0 ≤ c ∧ c < 1000000000000) :
    ∃ b', 0 ≤ b' ∧ b' < 2147483648 ∧ callN tb PT (n + 1) "_law_draw" [.ref k, .int m] S = some (.int (b' / 769 % m), S.set k (.lst true [.int a, .int b', .int (c + 1)])) := by
  have hk : k < S.length := (List.getElem?_eq_some_iff.mp hS).1
  have m1 : mulOk 70003 (c + 1) = true := mul_ok (nat_lt (by omega) (by omega)) (nat_lt (by omega) (by omega))
  have m2 : mulOk 29 (c + 1) = true := mul_ok (nat_lt (by omega) (by omega)) (nat_lt (by omega) (by omega))
  generalize hs : (b + 70003 * (c + 1)) % 2147483629 = s
  have m3 : mulOk s (s % 6007 + 50021) = true := mul_ok (nat_lt (by omega) (by omega)) (nat_lt (by omega) (by omega))
  have d1 : divOk 769 = true := div_ok (by omega) (by omega)
  refine ⟨(s * (s % 6007 + 50021) + 29 * (c + 1)) % 2147483629, by omega, by omega, ?_⟩
  have hset : ∀ v, (S.set k v)[k]? = some v := fun v => List.getElem?_set_self hk
  clear hk
  rw [q_of T.draw rfl]
  simp only [g_draw]
  simp [startD, MO.xs, gc_same, ixD, items, cmpD, atI, bltD, setD, ixN, binD, dr, hS, hset, ha, hm, hs, m1, m2, m3, d1]
theorem draw (T : HasD PT) {m : Int} (h : Sp k j S) (hj : j < 100000000) (hm : 0 < m) (hm2 : m < 1073741824) :
    ∃ r S', callN tb PT (n + 1) "_law_draw" [.ref k, .int m] S = some (.int r, S') ∧ 0 ≤ r ∧ r < m ∧ Sp k (j + 1) S' ∧ Same k S S' := by
  obtain ⟨a, b, c, e, h1, h2, h3, h4⟩ := h
  have hk : k < S.length := (List.getElem?_eq_some_iff.mp e).1
  by_cases ha : 0 < a
  · exact ⟨_, _, draw1 T e ha hm hm2, Int.emod_nonneg _ (by omega), Int.emod_lt_of_pos _ hm, ⟨_, _, _, List.getElem?_set_self hk, h1, h2, h3, by omega⟩, Same.set⟩
  · obtain ⟨b', g1, g2, e'⟩ := draw2 (n := n) (tb := tb) T e ha hm ⟨h1, h2⟩ ⟨h3, by omega⟩
    exact ⟨_, _, e', Int.emod_nonneg _ (by omega), Int.emod_lt_of_pos _ hm, ⟨_, _, _, List.getElem?_set_self hk, g1, g2, by omega, by omega⟩, Same.set⟩
theorem at_in {xs : List D} {r : Int} (h0 : 0 ≤ r) (h1 : r < xs.length) : ∃ d ∈ xs, atI xs r = some d := by
  obtain ⟨i, rfl⟩ := Int.eq_ofNat_of_zero_le h0
  have hi : i < xs.length := by omega
  exact ⟨xs[i], List.getElem_mem hi, at_nat hi⟩
theorem one_of (T : HasD PT) {xs : List D} (h : Sp k j S) (hj : j < 100000000) (hx : 0 < xs.length) (hx2 : xs.length < 1073741824) :
    ∃ d ∈ xs, ∃ S', callN tb PT (n + 2) "_law_one_of" [.ref k, .tup xs] S = some (d, S') ∧ Sp k (j + 1) S' ∧ Same k S S' := by
  obtain ⟨r, S1, e, h0, h1, w1, s1⟩ := draw (tb := tb) (n := n) T h hj (m := xs.length) (by omega) (by omega)
  obtain ⟨d, hd, ed⟩ := at_in h0 h1
  refine ⟨d, hd, S1, ?_, w1, s1⟩
  rw [q_of T.one_of rfl]
  simp only [g_one_of]
  simp [startD, bltD, items, e, ixD, ed, gc_same, s1.1]
theorem one_of_l (T : HasD PT) {xs : List D} (h : Sp k j S) (hj : j < 100000000) (hx : 0 < xs.length) (hx2 : xs.length < 1073741824) :
    ∃ d ∈ xs, ∃ S', callN tb PT (n + 2) "_law_one_of" [.ref k, .lst xs] S = some (d, S') ∧ Sp k (j + 1) S' ∧ Same k S S' := by
  obtain ⟨r, S1, e, h0, h1, w1, s1⟩ := draw (tb := tb) (n := n) T h hj (m := xs.length) (by omega) (by omega)
  obtain ⟨d, hd, ed⟩ := at_in h0 h1
  refine ⟨d, hd, S1, ?_, w1, s1⟩
  rw [q_of T.one_of rfl]
  simp only [g_one_of]
  simp [startD, bltD, items, e, ixD, ed, gc_same, s1.1]
theorem div_loop {G : GE} {o t : Option D} : ∀ (r f : Nat), whX G (.cmp .NotEq (.var 3) (.int 0)) [.par 2 3 (.var 3) (.bin .Mod (.blt "int" [.var 2]) (.var 3))] [o, t, some (.int f), some (.int r)] S = some (.nx [o, t, some (.int (Nat.gcd f r : Nat)), some (.int 0)], S) := by
  intro r
  induction r using Nat.strongRecOn with
  | _ r ih =>
    intro f
    by_cases hr : r = 0
    · subst hr
      refine (wh_stop (S1 := S) (by simp [vr, cmpD, dr, eqD, flatD, scal, vD])).trans ?_
      simp
    · have hp : 0 < r := by omega
      have h0 : ¬ ((r : Int) = 0) := by omega
      refine wh_go (δ1 := [o, t, some (.int r), some (.int ((f % r : Nat) : Int))]) (S1 := S) (S2 := S) ?_ ?_ ?_
      · simp [vr, cmpD, dr, eqD, flatD, scal, vD, hr]
      · simp [vr, bltD, binD, dr, hp]
      · rw [ih (f % r) (Nat.mod_lt _ (by omega)) r, Nat.gcd_comm f r, Nat.gcd_rec r f, Nat.gcd_comm]
theorem divisor (T : HasD PT) {x y : Int} : callN tb PT (n + 1) "_law_divisor" [.int x, .int y] S = some (.int (gcdI x y), S) := by
  rw [q_of T.divisor rfl]
  simp only [g_divisor]
  have e := fun o t => div_loop (S := S) (G := geN tb PT n) (o := o) (t := t) y.natAbs x.natAbs
  have a1 : (if x < 0 then -x else x) = (x.natAbs : Int) := by split <;> omega
  have a2 : (if y < 0 then -y else y) = (y.natAbs : Int) := by split <;> omega
  simp [startD, bltD, a1, a2, e, gc_same, gcdI]
end
end Geo

set_option maxHeartbeats 4000000
namespace Dn
open PySem PySem.Spec PyProof.Rows L2
/-! ### sizes -/
def Lt (k : Nat) (i : Int) : Prop := i.natAbs < 2 ^ k
theorem Lt.mono {a b : Nat} {i : Int} (h : Lt a i) (hb : a ≤ b) : Lt b i := Nat.lt_of_lt_of_le h (Nat.pow_le_pow_right (by omega) hb)
theorem Lt.mul {a b : Nat} {i j : Int} (h : Lt a i) (g : Lt b j) : Lt (a + b) (i * j) := by
  unfold Lt
  rw [Int.natAbs_mul, Nat.pow_add]
  exact Nat.mul_lt_mul'' h g
theorem Lt.add {a : Nat} {i j : Int} (h : Lt a i) (g : Lt a j) : Lt (a + 1) (i + j) := by
  have h' : i.natAbs < 2 ^ a := h
  have g' : j.natAbs < 2 ^ a := g
  unfold Lt
  rw [Nat.pow_succ]
  omega
theorem Lt.sub {a : Nat} {i j : Int} (h : Lt a i) (g : Lt a j) : Lt (a + 1) (i - j) := by
  have h' : i.natAbs < 2 ^ a := h
  have g' : j.natAbs < 2 ^ a := g
  unfold Lt
  rw [Nat.pow_succ]
  omega
theorem Lt.of_le {a : Nat} {i j : Int} (h : Lt a i) (hj : j.natAbs ≤ i.natAbs) : Lt a j := Nat.lt_of_le_of_lt hj h
theorem Lt.ok {a b : Nat} {i j : Int} (h : Lt a i) (g : Lt b j) (ha : a ≤ 400000) (hb : b ≤ 400000) : mulOk i j = true := mul_ok (h.mono ha) (g.mono hb)
theorem Lt.dv {a : Nat} {j : Int} (h : Lt a j) (h0 : 0 < j) (ha : a ≤ 8000) : divOk j = true := by
  have := log_lt (n := j.natAbs) (k := 8000) (h.mono ha) (by omega)
  unfold divOk
  simp only [Bool.and_eq_true, decide_eq_true_eq]
  omega
/-! ### the greatest divisor -/
theorem gcdI_pos {x y : Int} (h : 0 < y) : 0 < gcdI x y := by
  have : 0 < Nat.gcd x.natAbs y.natAbs := Nat.gcd_pos_of_pos_right _ (by omega)
  unfold gcdI
  omega
theorem gcdI_nn {x y : Int} : 0 ≤ gcdI x y := by unfold gcdI; omega
theorem gcdI_dl {x y : Int} : gcdI x y ∣ x := by show (Int.gcd x y : Int) ∣ x; exact Int.gcd_dvd_left ..
theorem gcdI_dr {x y : Int} : gcdI x y ∣ y := by show (Int.gcd x y : Int) ∣ y; exact Int.gcd_dvd_right ..
theorem gcdI_le {x y : Int} (h : 0 < y) : gcdI x y ≤ y := Int.le_of_dvd h gcdI_dr
theorem gcdI_eq {x y : Int} : gcdI x y = (Int.gcd x y : Int) := rfl
/-! ### fractions in lowest terms -/
def red (t b : Int) : Int × Int := (t / gcdI t b, b / gcdI t b)
theorem red_fst {t b : Int} : (red t b).1 * gcdI t b = t := Int.ediv_mul_cancel gcdI_dl
theorem red_snd {t b : Int} : (red t b).2 * gcdI t b = b := Int.ediv_mul_cancel gcdI_dr
theorem red_pos {t b : Int} (h : 0 < b) : 0 < (red t b).2 := by
  have h1 := red_snd (t := t) (b := b)
  have h2 := gcdI_pos (x := t) h
  refine Classical.byContradiction fun q => ?_
  have h3 := Int.mul_le_mul_of_nonneg_right (show (red t b).2 ≤ 0 by omega) (Int.le_of_lt h2)
  rw [h1] at h3
  omega
theorem red_eq {t b : Int} : (red t b).1 * b = t * (red t b).2 := by
  have h1 := red_fst (t := t) (b := b)
  have h2 := red_snd (t := t) (b := b)
  generalize (red t b).1 = u at *
  generalize (red t b).2 = v at *
  generalize gcdI t b = g at *
  subst h1 h2
  grind
theorem red_cop {t b : Int} (h : 0 < b) : gcdI (red t b).1 (red t b).2 = 1 := by
  have hg : 0 < Int.gcd t b := Int.gcd_pos_of_ne_zero_right _ (by omega)
  have := Int.gcd_ediv_gcd_ediv_gcd (i := t) (j := b) hg
  unfold red
  rw [gcdI_eq, gcdI_eq]
  simp only
  rw [this]
  rfl
theorem div_le {t g : Int} (h : 0 < g) : (t / g).natAbs ≤ t.natAbs := by
  exact Int.natAbs_ediv_le_natAbs t g
theorem red_lt1 {k : Nat} {t b : Int} (h : 0 < b) (ht : Lt k t) : Lt k (red t b).1 := ht.of_le (div_le (gcdI_pos h))
theorem red_lt2 {k : Nat} {t b : Int} (h : 0 < b) (ht : Lt k b) : Lt k (red t b).2 := ht.of_le (div_le (gcdI_pos h))
def fD (p : Int × Int) : D := .tup [.int p.1, .int p.2]
end Dn
namespace Geo
open PySem PySem.Spec PyProof.Rows L2 Dn
section
variable {tb : List (Str × D)} {PT : List (Str × Fn)} {n j k : Nat} {S : Sto}
theorem part (T : HasD PT) {t b : Int} (hb : 0 < b) (hb2 : Lt 8000 b) : callN tb PT (n + 2) "_law_part" [.int t, .int b] S = some (fD (red t b), S) := by
  have g0 := gcdI_pos (x := t) hb
  have gd : divOk (gcdI t b) = true := Lt.dv (a := 8000) (hb2.of_le (by have := gcdI_le (x := t) hb; omega)) g0 (by omega)
  rw [q_of T.part rfl]
  simp only [g_part]
  simp [startD, cmpD, hb, divisor T, binD, dr, gd, gc_same, fD, red]
end
end Geo

set_option maxHeartbeats 4000000
namespace Dn
open PySem PySem.Spec PyProof.Rows L2
def red3 (x y w : Int) : Int × Int × Int := (x / gcdI (gcdI x y) w, y / gcdI (gcdI x y) w, w / gcdI (gcdI x y) w)
def lD (p : Int × Int × Int) : D := .tup [.int p.1, .int p.2.1, .int p.2.2]
abbrev Pnt : Type := (Int × Int) × (Int × Int)
def pD (P : Pnt) : D := .tup [fD P.1, fD P.2]
structure Fr (k : Nat) (p : Int × Int) : Prop where
  pos : 0 < p.2
  cop : gcdI p.1 p.2 = 1
  l1 : Lt k p.1
  l2 : Lt k p.2
theorem Fr.mono {a b : Nat} {p : Int × Int} (h : Fr a p) (hb : a ≤ b) : Fr b p := ⟨h.pos, h.cop, h.l1.mono hb, h.l2.mono hb⟩
theorem red_fr {k : Nat} {t b : Int} (h : 0 < b) (h1 : Lt k t) (h2 : Lt k b) : Fr k (red t b) := ⟨red_pos h, red_cop h, red_lt1 h h1, red_lt2 h h2⟩
def fsub (p q : Int × Int) : Int × Int := red (p.1 * q.2 - q.1 * p.2) (p.2 * q.2)
def fmul (p q : Int × Int) : Int × Int := red (p.1 * q.1) (p.2 * q.2)
theorem Fr.sub {k : Nat} {p q : Int × Int} (h : Fr k p) (g : Fr k q) : Fr (k + k + 1) (fsub p q) :=
  red_fr (Int.mul_pos h.pos g.pos) ((h.l1.mul g.l2).sub (g.l1.mul h.l2)) ((h.l2.mul g.l2).mono (by omega))
theorem Fr.mul {k : Nat} {p q : Int × Int} (h : Fr k p) (g : Fr k q) : Fr (k + k) (fmul p q) :=
  red_fr (Int.mul_pos h.pos g.pos) (h.l1.mul g.l1) (h.l2.mul g.l2)
def Pt (k : Nat) (P : Pnt) : Prop := Fr k P.1 ∧ Fr k P.2
def psub (P Q : Pnt) : Pnt := (fsub P.1 Q.1, fsub P.2 Q.2)
def pcross (P Q : Pnt) : Int × Int := fsub (fmul P.1 Q.2) (fmul P.2 Q.1)
end Dn
namespace Geo
open PySem PySem.Spec PyProof.Rows L2 Dn
section
variable {tb : List (Str × D)} {PT : List (Str × Fn)} {n j k : Nat} {S : Sto}
theorem place (T : Has PT) {x y w : Int} (hb : 0 < w) (hb2 : Lt 8000 w) : callN tb PT (n + 2) "_law_place" [.int x, .int y, .int w] S = some (lD (red3 x y w), S) := by
  have g0 := gcdI_pos (x := gcdI x y) hb
  have gd : divOk (gcdI (gcdI x y) w) = true := Lt.dv (a := 8000) (hb2.of_le (by have := gcdI_le (x := gcdI x y) hb; omega)) g0 (by omega)
  rw [q_of T.place rfl]
  simp only [g_place]
  simp [startD, cmpD, hb, divisor T.toHasD, binD, dr, gd, gc_same, lD, red3]
theorem told (T : Has PT) {p : Int × Int × Int} (hb : 0 < p.2.2) (hb2 : Lt 8000 p.2.2) : callN tb PT (n + 3) "_law_told" [lD p] S = some (.tup [fD (red p.1 p.2.2), fD (red p.2.1 p.2.2)], S) := by
  have e1 := fun t => part (tb := tb) (n := n) (S := S) T.toHasD (t := t) hb hb2
  rw [q_of T.told rfl]
  simp only [g_told]
  simp [startD, lD, ixD, items, atI, ixN, e1, gc_same]
theorem own (T : Has PT) {P : Pnt} {k : Nat} (h : Pt k P) (hk : k ≤ 3000) : callN tb PT (n + 3) "_law_own" [pD P] S = some (lD (red3 (P.1.1 * P.2.2) (P.2.1 * P.1.2) (P.1.2 * P.2.2)), S) := by
  obtain ⟨⟨a, b⟩, ⟨c, d⟩⟩ := P
  obtain ⟨h1, h2⟩ := h
  have m1 : mulOk a d = true := h1.l1.ok h2.l2 (by omega) (by omega)
  have m2 : mulOk c b = true := h2.l1.ok h1.l2 (by omega) (by omega)
  have m3 : mulOk b d = true := h1.l2.ok h2.l2 (by omega) (by omega)
  have e1 := fun x y => place (tb := tb) (n := n) (S := S) T (x := x) (y := y) (Int.mul_pos h1.pos h2.pos) ((h1.l2.mul h2.l2).mono (by omega))
  simp only at e1
  rw [q_of T.own rfl]
  simp only [g_own]
  simp [startD, pD, fD, binD, dr, m1, m2, m3, e1, gc_same]
/-! ### the program's fractions and points -/
structure HasQ (PT : List (Str × Fn)) : Prop where
  whole : PT.lookup ("is_whole" : Str) = some g_is_whole
  wholes : PT.lookup ("are_wholes" : Str) = some g_are_wholes
  is_ratio : PT.lookup ("is_ratio" : Str) = some g_is_ratio
  pointed : PT.lookup ("is_pointed" : Str) = some g_is_pointed
structure HasP (PT : List (Str × Fn)) : Prop extends HasQ PT where
  ratio : PT.lookup ("ratio" : Str) = some g_ratio
  minus : PT.lookup ("minus" : Str) = some g_minus
  times : PT.lookup ("times" : Str) = some g_times
  step_of : PT.lookup ("step_of" : Str) = some g_step_of
  cross : PT.lookup ("cross" : Str) = some g_cross
theorem ratio (T : HasP PT) {t b : Int} (hb : 0 < b) (hb2 : Lt 8000 b) : callN tb PT (n + 1) "ratio" [.int t, .int b] S = some (fD (red t b), S) := by
  have g0 := gcdI_pos (x := t) hb
  have gd : divOk (gcdI t b) = true := Lt.dv (a := 8000) (hb2.of_le (by have := gcdI_le (x := t) hb; omega)) g0 (by omega)
  have ge : ((t.natAbs.gcd b.natAbs : Nat) : Int) = gcdI t b := rfl
  rw [q_of T.ratio rfl]
  simp only [g_ratio]
  simp [startD, cmpD, hb, bltD, ge, binD, dr, gd, gc_same, fD, red]
theorem minus (T : HasP PT) {p q : Int × Int} {k : Nat} (h : Fr k p) (g : Fr k q) (hk : k ≤ 3000) : callN tb PT (n + 2) "minus" [fD p, fD q] S = some (fD (fsub p q), S) := by
  obtain ⟨a, b⟩ := p
  obtain ⟨c, d⟩ := q
  have m1 : mulOk a d = true := h.l1.ok g.l2 (by omega) (by omega)
  have m2 : mulOk c b = true := g.l1.ok h.l2 (by omega) (by omega)
  have m3 : mulOk b d = true := h.l2.ok g.l2 (by omega) (by omega)
  have e1 := fun x => ratio (tb := tb) (n := n) (S := S) T (t := x) (Int.mul_pos h.pos g.pos) ((h.l2.mul g.l2).mono (by omega))
  simp only at e1
  rw [q_of T.minus rfl]
  simp only [g_minus]
  simp [startD, fD, ixD, items, atI, ixN, binD, dr, m1, m2, m3, e1, gc_same, fsub]
theorem times (T : HasP PT) {p q : Int × Int} {k : Nat} (h : Fr k p) (g : Fr k q) (hk : k ≤ 3000) : callN tb PT (n + 2) "times" [fD p, fD q] S = some (fD (fmul p q), S) := by
  obtain ⟨a, b⟩ := p
  obtain ⟨c, d⟩ := q
  have m1 : mulOk a c = true := h.l1.ok g.l1 (by omega) (by omega)
  have m3 : mulOk b d = true := h.l2.ok g.l2 (by omega) (by omega)
  have e1 := fun x => ratio (tb := tb) (n := n) (S := S) T (t := x) (Int.mul_pos h.pos g.pos) ((h.l2.mul g.l2).mono (by omega))
  simp only at e1
  rw [q_of T.times rfl]
  simp only [g_times]
  simp [startD, fD, ixD, items, atI, ixN, binD, dr, m1, m3, e1, gc_same, fmul]
theorem step_of (T : HasP PT) {P Q : Pnt} {k : Nat} (h : Pt k P) (g : Pt k Q) (hk : k ≤ 3000) : callN tb PT (n + 3) "step_of" [pD P, pD Q] S = some (pD (psub Q P), S) := by
  have e1 := minus (tb := tb) (n := n) (S := S) T g.1 h.1 hk
  have e2 := minus (tb := tb) (n := n) (S := S) T g.2 h.2 hk
  rw [q_of T.step_of rfl]
  simp only [g_step_of]
  simp [startD, pD, ixD, items, atI, ixN, e1, e2, gc_same, psub]
theorem cross (T : HasP PT) {P Q : Pnt} {k : Nat} (h : Pt k P) (g : Pt k Q) (hk : k ≤ 1500) : callN tb PT (n + 3) "cross" [pD P, pD Q] S = some (fD (pcross P Q), S) := by
  have e1 := times (tb := tb) (n := n) (S := S) T h.1 g.2 (by omega)
  have e2 := times (tb := tb) (n := n) (S := S) T h.2 g.1 (by omega)
  have e3 := minus (tb := tb) (n := n) (S := S) T (h.1.mul g.2) (h.2.mul g.1) (by omega)
  rw [q_of T.cross rfl]
  simp only [g_cross]
  simp [startD, pD, ixD, items, atI, ixN, e1, e2, e3, gc_same, pcross]
theorem is_whole_i (T : HasP PT) {i : Int} : callN tb PT (n + 1) "is_whole" [.int i] S = some (.bl true, S) := by
  rw [q_of T.whole rfl]
  simp only [g_is_whole]
  simp [startD, tyD, gc_same, truD]
theorem wholes_fr (T : HasP PT) {p : Int × Int} : callN tb PT (n + 2) "are_wholes" [fD p, .int 2] S = some (.bl true, S) := by
  have lp : ∀ q : Option D, loopLc ⟨[.int p.1, .int p.2], none⟩ (lcTurn (geN tb PT (n + 1)) (.call "is_whole" [.var 2]) (.name 2) [] [2] [some (.tup [.int p.1, .int p.2]), some (.int 2), q]) [.int p.1, .int p.2] S = some ([D.int p.1, D.int p.2].map fun _ => D.bl true, S) := fun q => by
    refine loop_map ok_none fun x hx => ?_
    simp only [List.mem_cons, List.not_mem_nil, or_false] at hx
    rcases hx with rfl | rfl <;> simp [lcTurn, wipeD, is_whole_i T]
  rw [q_of T.wholes rfl]
  simp only [g_are_wholes]
  simp [startD, fD, tyD, bltD, items, litems, cmpD, dr, eqD, flatD, scal, vD, srcOf, lp, blsD, gc_same]
theorem is_ratio_fr (T : HasP PT) {k : Nat} {p : Int × Int} (h : Fr k p) : callN tb PT (n + 3) "is_ratio" [fD p] S = some (.bl true, S) := by
  have e1 := wholes_fr (tb := tb) (n := n) (S := S) T (p := p)
  have h1 := h.pos
  have h2 : ((p.1.natAbs.gcd p.2.natAbs : Nat) : Int) = 1 := h.cop
  have h3 : p.1.natAbs.gcd p.2.natAbs = 1 := by omega
  rw [q_of T.is_ratio rfl]
  simp only [g_is_ratio]
  simp [startD, e1, gc_same]
  simp [fD, ixD, items, atI, ixN, cmpD, h1, h2, h3, bltD, dr, eqD, flatD, scal, vD, gc_same]
theorem pointed_pt (T : HasP PT) {k : Nat} {P : Pnt} (h : Pt k P) : callN tb PT (n + 4) "is_pointed" [pD P] S = some (.bl true, S) := by
  have lp : ∀ q : Option D, loopLc ⟨[fD P.1, fD P.2], none⟩ (lcTurn (geN tb PT (n + 3)) (.call "is_ratio" [.var 1]) (.name 1) [] [1] [some (.tup [fD P.1, fD P.2]), q]) [fD P.1, fD P.2] S = some ([fD P.1, fD P.2].map fun _ => D.bl true, S) := fun q => by
    refine loop_map ok_none fun x hx => ?_
    simp only [List.mem_cons, List.not_mem_nil, or_false] at hx
    rcases hx with rfl | rfl
    · simp [lcTurn, wipeD, is_ratio_fr T h.1]
    · simp [lcTurn, wipeD, is_ratio_fr T h.2]
  rw [q_of T.pointed rfl]
  simp only [g_is_pointed]
  simp [startD, pD, tyD, bltD, items, litems, cmpD, dr, eqD, flatD, scal, vD, srcOf, lp, blsD, gc_same]
end
end Geo

set_option maxHeartbeats 4000000
namespace Geo
open PySem PySem.Spec PyProof.Rows L2 Dn
structure HasF (PT : List (Str × Fn)) : Prop where
  frame : PT.lookup ("_law_frame" : Str) = some g_frame
  grid : PT.lookup ("_law_grid" : Str) = some g_grid
  dot : PT.lookup ("_law_dot" : Str) = some g_dot
/-- a frame -/
structure Frm where
  x : Int
  y : Int
  step : Int
  under : Int
  wide : Int
def Frm.d (f : Frm) : D := .tup [.int f.x, .int f.y, .int f.step, .int f.under, .int f.wide]
structure FrmOk (f : Frm) : Prop where
  x : Lt 20 f.x
  y : Lt 20 f.y
  s0 : 0 < f.step
  s : f.step < 131072
  u0 : 0 < f.under
  u : f.under ≤ 6
  w0 : 3 ≤ f.wide
  w : f.wide ≤ 5
section
variable {tb : List (Str × D)} {PT : List (Str × Fn)} {n j k : Nat} {S : Sto}
theorem frame (T : HasD PT) (F : HasF PT) (h : Sp k j S) (hj : j + 2 < 100000000) : ∃ f S', callN tb PT (n + 3) "_law_frame" [.ref k] S = some (Frm.d f, S') ∧ FrmOk f ∧ Sp k (j + 2) S' ∧ Same k S S' := by
  obtain ⟨d, hd, S1, e1, w1, s1⟩ := one_of (tb := tb) (n := n) T h (by omega) (xs := [.int 3, .int 4, .int 5]) (by decide) (by decide)
  obtain ⟨q, hq, S2, e2, w2, s2⟩ := one_of (tb := tb) (n := n) T w1 (by omega) (xs := [.tup [.int 0, .int 0, .int 1, .int 1], .tup [.int 0, .int 0, .int 1, .int 1], .tup [.int (-2), .int (-1), .int 1, .int 1], .tup [.int (-3), .int 1, .int 1, .int 2], .tup [.int 0, .int (-5), .int 2, .int 3], .tup [.int 1, .int 1, .int 5, .int 6], .tup [.int (-700000), .int 250001, .int 100003, .int 1], .tup [.int (-1), .int (-2), .int 2, .int 1]]) (by decide) (by decide)
  have hw : ∃ w : Int, d = .int w ∧ 3 ≤ w ∧ w ≤ 5 := by
    simp only [List.mem_cons, List.not_mem_nil, or_false] at hd
    rcases hd with rfl | rfl | rfl
    · exact ⟨3, rfl, by omega, by omega⟩
    · exact ⟨4, rfl, by omega, by omega⟩
    · exact ⟨5, rfl, by omega, by omega⟩
  obtain ⟨w, rfl, h3, h5⟩ := hw
  have hx : ∃ x y s u : Int, q = .tup [.int x, .int y, .int s, .int u] ∧ x.natAbs < 2 ^ 20 ∧ y.natAbs < 2 ^ 20 ∧ 0 < s ∧ s < 131072 ∧ 0 < u ∧ u ≤ 6 := by
    simp only [List.mem_cons, List.not_mem_nil, or_false] at hq
    rcases hq with rfl | rfl | rfl | rfl | rfl | rfl | rfl | rfl <;> exact ⟨_, _, _, _, rfl, by decide, by decide, by decide, by decide, by decide, by decide⟩
  obtain ⟨x, y, s, u, rfl, a1, a2, a3, a4, a5, a6⟩ := hx
  refine ⟨⟨x, y, s, u, w⟩, S2, ?_, ⟨a1, a2, a3, a4, a5, a6, h3, h5⟩, w2, s1.trans s2⟩
  rw [q_of F.frame rfl]
  simp only [g_frame]
  simp [startD, e1, e2, gc_same, s1.1, s2.1, Frm.d]
/-- the point of the grid -/
def gridP (f : Frm) (i m l : Int) : Pnt := (red (f.x * l + f.step * i) (f.under * l), red (f.y * l + f.step * m) (f.under * l))
theorem lt_of {a : Nat} {i : Int} (h : i.natAbs < 2 ^ a) : Lt a i := h
theorem grid_pt {f : Frm} (h : FrmOk f) {i m l : Int} (hi : 0 ≤ i ∧ i < 64) (hm : 0 ≤ m ∧ m < 64) (hl : 1 ≤ l ∧ l < 4) : Pt 26 (gridP f i m l) := by
  have l1 : Lt 2 l := lt_of (by omega)
  have i1 : Lt 6 i := lt_of (by omega)
  have m1 : Lt 6 m := lt_of (by omega)
  have s1 : Lt 17 f.step := lt_of (by have := h.s0; have := h.s; omega)
  have u1 : Lt 3 f.under := lt_of (by have := h.u0; have := h.u; omega)
  have p : 0 < f.under * l := Int.mul_pos h.u0 (by omega)
  have u2 : Lt 26 (f.under * l) := (u1.mul l1).mono (by omega)
  exact ⟨red_fr p ((((h.x.mul l1).mono (show 22 ≤ 24 by omega)).add ((s1.mul i1).mono (show 23 ≤ 24 by omega))).mono (by omega)) u2, red_fr p ((((h.y.mul l1).mono (show 22 ≤ 24 by omega)).add ((s1.mul m1).mono (show 23 ≤ 24 by omega))).mono (by omega)) u2⟩
theorem grid (T : HasD PT) (F : HasF PT) {f : Frm} (h : FrmOk f) {i m l : Int} (hi : 0 ≤ i ∧ i < 64) (hm : 0 ≤ m ∧ m < 64) (hl : 1 ≤ l ∧ l < 4) : callN tb PT (n + 3) "_law_grid" [f.d, .int i, .int m, .int l] S = some (pD (gridP f i m l), S) := by
  have l1 : Lt 2 l := lt_of (by omega)
  have i1 : Lt 6 i := lt_of (by omega)
  have m1 : Lt 6 m := lt_of (by omega)
  have s1 : Lt 17 f.step := lt_of (by have := h.s0; have := h.s; omega)
  have u1 : Lt 3 f.under := lt_of (by have := h.u0; have := h.u; omega)
  have p : 0 < f.under * l := Int.mul_pos h.u0 (by omega)
  have k1 : mulOk f.x l = true := h.x.ok l1 (by omega) (by omega)
  have k2 : mulOk f.y l = true := h.y.ok l1 (by omega) (by omega)
  have k3 : mulOk f.step i = true := s1.ok i1 (by omega) (by omega)
  have k4 : mulOk f.step m = true := s1.ok m1 (by omega) (by omega)
  have k5 : mulOk f.under l = true := u1.ok l1 (by omega) (by omega)
  have e1 := fun t => part (tb := tb) (n := n) (S := S) T (t := t) p ((u1.mul l1).mono (by omega))
  rw [q_of F.grid rfl]
  simp only [g_grid]
  simp [startD, Frm.d, binD, dr, k1, k2, k3, k4, k5, e1, gc_same, pD, gridP]
theorem dot (T : HasD PT) (F : HasF PT) {f : Frm} (hf : FrmOk f) (h : Sp k j S) (hj : j + 3 < 100000000) : ∃ P S', callN tb PT (n + 4) "_law_dot" [.ref k, f.d] S = some (pD P, S') ∧ Pt 26 P ∧ Sp k (j + 3) S' ∧ Same k S S' := by
  obtain ⟨d, hd, S1, e1, w1, s1⟩ := one_of (tb := tb) (n := n + 1) T h (by omega) (xs := [.int 1, .int 1, .int 2, .int 2, .int 3]) (by decide) (by decide)
  have hw : ∃ w : Int, d = .int w ∧ 1 ≤ w ∧ w ≤ 3 := by
    simp only [List.mem_cons, List.not_mem_nil, or_false] at hd
    rcases hd with rfl | rfl | rfl | rfl | rfl
    · exact ⟨1, rfl, by omega, by omega⟩
    · exact ⟨1, rfl, by omega, by omega⟩
    · exact ⟨2, rfl, by omega, by omega⟩
    · exact ⟨2, rfl, by omega, by omega⟩
    · exact ⟨3, rfl, by omega, by omega⟩
  obtain ⟨w, rfl, h3, h5⟩ := hw
  have w0 := hf.w0
  have w5 := hf.w
  have hp : 0 < w * f.wide := Int.mul_pos (by omega) (by omega)
  have hq : w * f.wide ≤ 15 := by
    have h1 := Int.mul_le_mul (show w ≤ 3 by omega) w5 (by omega) (by omega)
    omega
  obtain ⟨i, S2, e2, i0, i1, w2, s2⟩ := draw (tb := tb) (n := n + 2) T w1 (by omega) (m := w * f.wide + 1) (by omega) (by omega)
  obtain ⟨m, S3, e3, m0, m1, w3, s3⟩ := draw (tb := tb) (n := n + 2) T w2 (by omega) (m := w * f.wide + 1) (by omega) (by omega)
  have e4 := grid (tb := tb) (n := n) (S := S3) T F hf (i := i) (m := m) (l := w) ⟨i0, by omega⟩ ⟨m0, by omega⟩ ⟨by omega, by omega⟩
  have k1 : mulOk w f.wide = true := (lt_of (a := 2) (show w.natAbs < 2 ^ 2 by omega)).ok (lt_of (a := 3) (show f.wide.natAbs < 2 ^ 3 by omega)) (by omega) (by omega)
  refine ⟨gridP f i m w, S3, ?_, grid_pt hf ⟨i0, by omega⟩ ⟨m0, by omega⟩ ⟨by omega, by omega⟩, w3, (s1.trans s2).trans s3⟩
  simp only [Frm.d] at e4
  rw [q_of F.dot rfl]
  simp only [g_dot]
  simp [startD, Frm.d, e1, ixD, items, atI, ixN, binD, dr, k1, e2, e3, e4, gc_same, s1.1, s2.1, s3.1]
end
end Geo

set_option maxHeartbeats 4000000
namespace Dn
open PySem PySem.Spec PyProof.Rows L2
/-! ### places: primitive triples -/
structure Prim (p : Int × Int × Int) : Prop where
  pos : 0 < p.2.2
  one : Nat.gcd (Nat.gcd p.1.natAbs p.2.1.natAbs) p.2.2.natAbs = 1
theorem red3_mul {x y w : Int} : (red3 x y w).1 * gcdI (gcdI x y) w = x ∧ (red3 x y w).2.1 * gcdI (gcdI x y) w = y ∧ (red3 x y w).2.2 * gcdI (gcdI x y) w = w :=
  ⟨Int.ediv_mul_cancel (Int.dvd_trans gcdI_dl gcdI_dl), Int.ediv_mul_cancel (Int.dvd_trans gcdI_dl gcdI_dr), Int.ediv_mul_cancel gcdI_dr⟩
theorem pos_of {a b : Int} (h : 0 < a * b) (hb : 0 < b) : 0 < a := by
  refine Classical.byContradiction fun q => ?_
  have h3 := Int.mul_le_mul_of_nonneg_right (show a ≤ 0 by omega) (Int.le_of_lt hb)
  omega
theorem red3_prim {x y w : Int} (h : 0 < w) : Prim (red3 x y w) := by
  obtain ⟨e1, e2, e3⟩ := red3_mul (x := x) (y := y) (w := w)
  have hg := gcdI_pos (x := gcdI x y) h
  have hp : 0 < (red3 x y w).2.2 := pos_of (by rw [e3]; exact h) hg
  refine ⟨hp, ?_⟩
  have gn : (gcdI (gcdI x y) w).natAbs = Nat.gcd (Nat.gcd x.natAbs y.natAbs) w.natAbs := rfl
  generalize hG : gcdI (gcdI x y) w = G at *
  generalize (red3 x y w).1 = u at *
  generalize (red3 x y w).2.1 = v at *
  generalize (red3 x y w).2.2 = t at *
  have n1 : x.natAbs = u.natAbs * G.natAbs := by rw [← e1, Int.natAbs_mul]
  have n2 : y.natAbs = v.natAbs * G.natAbs := by rw [← e2, Int.natAbs_mul]
  have n3 : w.natAbs = t.natAbs * G.natAbs := by rw [← e3, Int.natAbs_mul]
  rw [n1, n2, n3, Nat.gcd_mul_right, Nat.gcd_mul_right] at gn
  have g0 : 0 < G.natAbs := by omega
  exact Nat.eq_of_mul_eq_mul_right g0 (by rw [Nat.one_mul]; exact gn.symm)
theorem red3_eq {x y w : Int} : (red3 x y w).1 * w = x * (red3 x y w).2.2 ∧ (red3 x y w).2.1 * w = y * (red3 x y w).2.2 := by
  obtain ⟨e1, e2, e3⟩ := red3_mul (x := x) (y := y) (w := w)
  generalize gcdI (gcdI x y) w = G at *
  generalize (red3 x y w).1 = u at *
  generalize (red3 x y w).2.1 = v at *
  generalize (red3 x y w).2.2 = t at *
  subst e1 e2 e3
  constructor <;> grind
theorem prim_dvd {p q : Int × Int × Int} (hp : Prim p) (e1 : p.1 * q.2.2 = q.1 * p.2.2) (e2 : p.2.1 * q.2.2 = q.2.1 * p.2.2) : p.2.2.natAbs ∣ q.2.2.natAbs := by
  have d1 : p.2.2.natAbs ∣ p.1.natAbs * q.2.2.natAbs := by rw [← Int.natAbs_mul, e1, Int.natAbs_mul]; exact Nat.dvd_mul_left _ _
  have d2 : p.2.2.natAbs ∣ p.2.1.natAbs * q.2.2.natAbs := by rw [← Int.natAbs_mul, e2, Int.natAbs_mul]; exact Nat.dvd_mul_left _ _
  have d3 : p.2.2.natAbs ∣ p.2.2.natAbs * q.2.2.natAbs := Nat.dvd_mul_right _ _
  have := Nat.dvd_gcd (Nat.dvd_gcd d1 d2) d3
  rw [Nat.gcd_mul_right, Nat.gcd_mul_right, hp.one, Nat.one_mul] at this
  exact this
theorem prim_eq {p q : Int × Int × Int} (hp : Prim p) (hq : Prim q) (e1 : p.1 * q.2.2 = q.1 * p.2.2) (e2 : p.2.1 * q.2.2 = q.2.1 * p.2.2) : p = q := by
  have w : p.2.2.natAbs = q.2.2.natAbs := Nat.dvd_antisymm (prim_dvd hp e1 e2) (prim_dvd hq e1.symm e2.symm)
  have w' : p.2.2 = q.2.2 := by have := hp.pos; have := hq.pos; omega
  have h0 : q.2.2 ≠ 0 := by have := hq.pos; omega
  obtain ⟨a, b, c⟩ := p
  obtain ⟨a', b', c'⟩ := q
  simp only at *
  subst w'
  rw [Int.eq_of_mul_eq_mul_right h0 e1, Int.eq_of_mul_eq_mul_right h0 e2]
def toldP (p : Int × Int × Int) : Pnt := (red p.1 p.2.2, red p.2.1 p.2.2)
def ownP (P : Pnt) : Int × Int × Int := red3 (P.1.1 * P.2.2) (P.2.1 * P.1.2) (P.1.2 * P.2.2)
/-- own tells the place of the point -/
theorem own_eq {k : Nat} {P : Pnt} (h : Pt k P) : Prim (ownP P) ∧ (ownP P).1 * P.1.2 = P.1.1 * (ownP P).2.2 ∧ (ownP P).2.1 * P.2.2 = P.2.1 * (ownP P).2.2 := by
  have p := Int.mul_pos h.1.pos h.2.pos
  obtain ⟨e1, e2⟩ := red3_eq (x := P.1.1 * P.2.2) (y := P.2.1 * P.1.2) (w := P.1.2 * P.2.2)
  refine ⟨red3_prim p, ?_, ?_⟩
  · have h0 : P.2.2 ≠ 0 := by have := h.2.pos; omega
    refine Int.eq_of_mul_eq_mul_right h0 ?_
    show (red3 _ _ _).1 * P.1.2 * P.2.2 = P.1.1 * (red3 _ _ _).2.2 * P.2.2
    grind
  · have h0 : P.1.2 ≠ 0 := by have := h.1.pos; omega
    refine Int.eq_of_mul_eq_mul_right h0 ?_
    show (red3 _ _ _).2.1 * P.2.2 * P.1.2 = P.2.1 * (red3 _ _ _).2.2 * P.1.2
    grind
theorem told_pt {k : Nat} {p : Int × Int × Int} (h : 0 < p.2.2) (h1 : Lt k p.1) (h2 : Lt k p.2.1) (h3 : Lt k p.2.2) : Pt k (toldP p) := ⟨red_fr h h1 h3, red_fr h h2 h3⟩
theorem lt_self (i : Int) : Lt i.natAbs i := by
  unfold Lt
  exact Nat.lt_two_pow_self
theorem told_pt' {p : Int × Int × Int} (h : 0 < p.2.2) : ∃ k, Pt k (toldP p) :=
  ⟨_, told_pt (k := p.1.natAbs + p.2.1.natAbs + p.2.2.natAbs) h ((lt_self _).mono (by omega)) ((lt_self _).mono (by omega)) ((lt_self _).mono (by omega))⟩
theorem own_told {p : Int × Int × Int} (h : Prim p) : ownP (toldP p) = p := by
  obtain ⟨k, hk⟩ := told_pt' h.pos
  obtain ⟨q, e1, e2⟩ := own_eq hk
  have r1 := red_eq (t := p.1) (b := p.2.2)
  have r2 := red_eq (t := p.2.1) (b := p.2.2)
  have v1 : (red p.1 p.2.2).2 ≠ 0 := by have := red_pos (t := p.1) h.pos; omega
  have v2 : (red p.2.1 p.2.2).2 ≠ 0 := by have := red_pos (t := p.2.1) h.pos; omega
  have e1' : (ownP (toldP p)).1 * (red p.1 p.2.2).2 = (red p.1 p.2.2).1 * (ownP (toldP p)).2.2 := e1
  have e2' : (ownP (toldP p)).2.1 * (red p.2.1 p.2.2).2 = (red p.2.1 p.2.2).1 * (ownP (toldP p)).2.2 := e2
  refine prim_eq q h ?_ ?_
  · refine Int.eq_of_mul_eq_mul_right v1 ?_
    grind
  · refine Int.eq_of_mul_eq_mul_right v2 ?_
    grind
end Dn

set_option maxHeartbeats 4000000
namespace Dn
open PySem PySem.Spec PyProof.Rows L2
/-! ### directions -/
theorem sgn {a d l b : Int} (e : a * d = l * b) (hd : 0 < d) (hl : 0 < l) : (0 < a ↔ 0 < b) ∧ (a = 0 ↔ b = 0) := by
  have p1 : ∀ {x y : Int}, 0 < y → (0 < x * y ↔ 0 < x) := fun {x y} hy => ⟨fun h => pos_of h hy, fun h => Int.mul_pos h hy⟩
  have p2 : ∀ {x y : Int}, 0 < y → (x * y = 0 ↔ x = 0) := fun {x y} hy => ⟨fun h => by
    rcases Int.mul_eq_zero.mp h with h | h
    · exact h
    · omega, fun h => by rw [h, Int.zero_mul]⟩
  rw [Int.mul_comm l b] at e
  exact ⟨by rw [← p1 hd, e, p1 hl], by rw [← p2 hd, e, p2 hl]⟩
def vec (h f : Int × Int × Int) : Int × Int := (f.1 * h.2.2 - h.1 * f.2.2, f.2.1 * h.2.2 - h.2.1 * f.2.2)
def halfV (v : Int × Int) : Int := if 0 < v.2 ∨ (v.2 = 0 ∧ 0 < v.1) then 0 else 1
def crossV (u v : Int × Int) : Int := u.1 * v.2 - u.2 * v.1
def aheadV (u v : Int × Int) : Bool := decide (halfV u < halfV v) || (decide (halfV u = halfV v) && decide (0 < crossV u v))
def halfS (s : Pnt) : Int := if 0 < s.2.1 ∨ (s.2.1 = 0 ∧ 0 < s.1.1) then 0 else 1
def firstS (s t : Pnt) : Bool := if halfS s ≠ halfS t then decide (halfS s < halfS t) else decide (0 < (pcross s t).1)
/-- the step s goes as the vector v -/
structure Sim (v : Int × Int) (s : Pnt) : Prop where
  ex : ∃ l : Int, 0 < l ∧ v.1 * s.1.2 = l * s.1.1 ∧ v.2 * s.2.2 = l * s.2.1
  d1 : 0 < s.1.2
  d2 : 0 < s.2.2
theorem sim_of {k : Nat} {N Q : Pnt} (hN : Pt k N) (hQ : Pt k Q) : Sim (vec (ownP N) (ownP Q)) (psub Q N) := by
  obtain ⟨n0, n1, n2⟩ := own_eq hN
  obtain ⟨q0, q1, q2⟩ := own_eq hQ
  have r1 := red_eq (t := Q.1.1 * N.1.2 - N.1.1 * Q.1.2) (b := Q.1.2 * N.1.2)
  have r2 := red_eq (t := Q.2.1 * N.2.2 - N.2.1 * Q.2.2) (b := Q.2.2 * N.2.2)
  have p1 := Int.mul_pos hQ.1.pos hN.1.pos
  have p2 := Int.mul_pos hQ.2.pos hN.2.pos
  refine ⟨⟨(ownP Q).2.2 * (ownP N).2.2, Int.mul_pos q0.pos n0.pos, ?_, ?_⟩, red_pos p1, red_pos p2⟩
  · refine Int.eq_of_mul_eq_mul_right (show Q.1.2 * N.1.2 ≠ 0 by omega) ?_
    show ((ownP Q).1 * (ownP N).2.2 - (ownP N).1 * (ownP Q).2.2) * (red (Q.1.1 * N.1.2 - N.1.1 * Q.1.2) (Q.1.2 * N.1.2)).2 * (Q.1.2 * N.1.2) = (ownP Q).2.2 * (ownP N).2.2 * (red (Q.1.1 * N.1.2 - N.1.1 * Q.1.2) (Q.1.2 * N.1.2)).1 * (Q.1.2 * N.1.2)
    grind
  · refine Int.eq_of_mul_eq_mul_right (show Q.2.2 * N.2.2 ≠ 0 by omega) ?_
    show ((ownP Q).2.1 * (ownP N).2.2 - (ownP N).2.1 * (ownP Q).2.2) * (red (Q.2.1 * N.2.2 - N.2.1 * Q.2.2) (Q.2.2 * N.2.2)).2 * (Q.2.2 * N.2.2) = (ownP Q).2.2 * (ownP N).2.2 * (red (Q.2.1 * N.2.2 - N.2.1 * Q.2.2) (Q.2.2 * N.2.2)).1 * (Q.2.2 * N.2.2)
    grind
theorem half_sim {v : Int × Int} {s : Pnt} (h : Sim v s) : halfS s = halfV v := by
  obtain ⟨l, l0, e1, e2⟩ := h.ex
  have s1 := sgn e1 h.d1 l0
  have s2 := sgn e2 h.d2 l0
  unfold halfS halfV
  simp only [s1.1, s2.1, s2.2]
theorem cross_sim {v w : Int × Int} {s t : Pnt} (h : Sim v s) (g : Sim w t) : 0 < (pcross s t).1 ↔ 0 < crossV v w := by
  obtain ⟨l, l0, e1, e2⟩ := h.ex
  obtain ⟨m, m0, f1, f2⟩ := g.ex
  have b1 := Int.mul_pos h.d1 g.d2
  have b2 := Int.mul_pos h.d2 g.d1
  have r1 := red_eq (t := s.1.1 * t.2.1) (b := s.1.2 * t.2.2)
  have r2 := red_eq (t := s.2.1 * t.1.1) (b := s.2.2 * t.1.2)
  have c1 := red_pos (t := s.1.1 * t.2.1) b1
  have c2 := red_pos (t := s.2.1 * t.1.1) b2
  have hc : pcross s t = red ((fmul s.1 t.2).1 * (fmul s.2 t.1).2 - (fmul s.2 t.1).1 * (fmul s.1 t.2).2) ((fmul s.1 t.2).2 * (fmul s.2 t.1).2) := rfl
  have r3 := red_eq (t := (fmul s.1 t.2).1 * (fmul s.2 t.1).2 - (fmul s.2 t.1).1 * (fmul s.1 t.2).2) (b := (fmul s.1 t.2).2 * (fmul s.2 t.1).2)
  have c3 := Int.mul_pos c1 c2
  have c4 := red_pos (t := (fmul s.1 t.2).1 * (fmul s.2 t.1).2 - (fmul s.2 t.1).1 * (fmul s.1 t.2).2) (show 0 < (fmul s.1 t.2).2 * (fmul s.2 t.1).2 from c3)
  rw [hc]
  have i1 := (sgn (r3.trans (Int.mul_comm _ _)) c3 c4).1
  rw [i1]
  -- the sign of both is that of K
  have d0 := Int.mul_pos b1 b2
  have i2 := sgn (a := (fmul s.1 t.2).1 * (fmul s.2 t.1).2 - (fmul s.2 t.1).1 * (fmul s.1 t.2).2) (d := (s.1.2 * t.2.2) * (s.2.2 * t.1.2)) (l := (fmul s.1 t.2).2 * (fmul s.2 t.1).2) (b := s.1.1 * t.2.1 * (s.2.2 * t.1.2) - s.2.1 * t.1.1 * (s.1.2 * t.2.2)) (by
    show ((red (s.1.1 * t.2.1) (s.1.2 * t.2.2)).1 * (red (s.2.1 * t.1.1) (s.2.2 * t.1.2)).2 - (red (s.2.1 * t.1.1) (s.2.2 * t.1.2)).1 * (red (s.1.1 * t.2.1) (s.1.2 * t.2.2)).2) * ((s.1.2 * t.2.2) * (s.2.2 * t.1.2)) = (red (s.1.1 * t.2.1) (s.1.2 * t.2.2)).2 * (red (s.2.1 * t.1.1) (s.2.2 * t.1.2)).2 * (s.1.1 * t.2.1 * (s.2.2 * t.1.2) - s.2.1 * t.1.1 * (s.1.2 * t.2.2))
    grind) d0 c3
  have i3 := sgn (a := crossV v w) (d := (s.1.2 * t.2.2) * (s.2.2 * t.1.2)) (l := l * m) (b := s.1.1 * t.2.1 * (s.2.2 * t.1.2) - s.2.1 * t.1.1 * (s.1.2 * t.2.2)) (by
    unfold crossV
    grind) d0 (Int.mul_pos l0 m0)
  rw [i2.1, i3.1]
theorem first_sim {v w : Int × Int} {s t : Pnt} (h : Sim v s) (g : Sim w t) : firstS s t = aheadV v w := by
  unfold firstS aheadV
  rw [half_sim h, half_sim g]
  have c := cross_sim h g
  by_cases e : halfV v = halfV w
  · rw [if_neg (by simpa using e), e]
    simp [c]
  · rw [if_pos e]
    simp [e]
/-! ### the order of directions -/
theorem nz_half {v : Int × Int} (h : v ≠ (0, 0)) (g : halfV v ≠ 0) : v.2 < 0 ∨ (v.2 = 0 ∧ v.1 < 0) := by
  unfold halfV at g
  split at g
  · omega
  · rename_i q
    have : v.1 ≠ 0 ∨ v.2 ≠ 0 := by
      refine Classical.byContradiction fun z => h ?_
      have z1 : v.1 = 0 := by omega
      have z2 : v.2 = 0 := by omega
      exact Prod.ext z1 z2
    omega
theorem half_01 (v : Int × Int) : halfV v = 0 ∨ halfV v = 1 := by unfold halfV; split <;> simp
theorem cross_id (e a b : Int × Int) : crossV e a * b.2 = crossV e b * a.2 + crossV b a * e.2 := by unfold crossV; grind
theorem up_nt {e a b : Int × Int} (he : 0 < e.2 ∨ (e.2 = 0 ∧ 0 < e.1)) (ha : 0 < a.2 ∨ (a.2 = 0 ∧ 0 < a.1)) (hb : 0 < b.2 ∨ (b.2 = 0 ∧ 0 < b.1)) (h : 0 < crossV e a) : 0 < crossV e b ∨ 0 < crossV b a := by
  refine Classical.byContradiction fun q => ?_
  have q1 : crossV e b ≤ 0 := by omega
  have q2 : crossV b a ≤ 0 := by omega
  have id := cross_id e a b
  have n1 := Int.mul_le_mul_of_nonneg_right q1 (show 0 ≤ a.2 by omega)
  have n2 := Int.mul_le_mul_of_nonneg_right q2 (show 0 ≤ e.2 by omega)
  rcases hb with hb | ⟨b0, b1⟩
  · have := Int.mul_pos h hb
    omega
  · unfold crossV at q1 q2 h
    rw [b0] at q1 q2
    have z1 : a.2 ≤ 0 := by
      refine Classical.byContradiction fun z => ?_
      have := Int.mul_pos b1 (show 0 < a.2 by omega)
      omega
    have z2 : a.2 = 0 ∧ 0 < a.1 := by omega
    rw [z2.1] at h
    have := Int.mul_nonneg (show 0 ≤ e.2 by omega) (show 0 ≤ a.1 by omega)
    omega
theorem cross_neg (u v : Int × Int) : crossV (-u.1, -u.2) (-v.1, -v.2) = crossV u v := by unfold crossV; grind
theorem ahead_nt {e a b : Int × Int} (he : e ≠ (0, 0)) (ha : a ≠ (0, 0)) (hb : b ≠ (0, 0)) (h : aheadV e a = true) : aheadV e b = true ∨ aheadV b a = true := by
  unfold aheadV at h ⊢
  simp only [Bool.or_eq_true, Bool.and_eq_true, decide_eq_true_eq] at h ⊢
  have h1 := half_01 e
  have h2 := half_01 a
  have h3 := half_01 b
  by_cases s : halfV e = halfV b ∧ halfV b = halfV a
  · rcases h with h | ⟨_, h⟩
    · omega
    · have : 0 < crossV e b ∨ 0 < crossV b a := by
        by_cases z : halfV e = 0
        · have up : ∀ v : Int × Int, halfV v = 0 → 0 < v.2 ∨ (v.2 = 0 ∧ 0 < v.1) := fun v hv => by
            unfold halfV at hv
            split at hv
            · assumption
            · omega
          exact up_nt (up e z) (up a (by omega)) (up b (by omega)) h
        · have e1 := nz_half he z
          have a1 := nz_half ha (by omega)
          have b1 := nz_half hb (by omega)
          have r := up_nt (e := (-e.1, -e.2)) (a := (-a.1, -a.2)) (b := (-b.1, -b.2)) (by simp only; omega) (by simp only; omega) (by simp only; omega) (by rw [cross_neg]; exact h)
          rw [cross_neg, cross_neg] at r
          exact r
      rcases this with t | t
      · exact .inl (.inr ⟨s.1, t⟩)
      · exact .inr (.inr ⟨s.2, t⟩)
  · omega
theorem ahead_as {e a : Int × Int} (h : aheadV e a = true) : aheadV a e = false := by
  unfold aheadV at h ⊢
  have c : crossV a e = -crossV e a := by unfold crossV; grind
  simp only [Bool.or_eq_true, Bool.and_eq_true, decide_eq_true_eq] at h
  simp only [Bool.or_eq_false_iff, Bool.and_eq_false_iff, decide_eq_false_iff_not]
  omega
theorem vec_nz {h f : Int × Int × Int} (ph : Prim h) (pf : Prim f) (ne : f ≠ h) : vec h f ≠ (0, 0) := by
  intro q
  have q1 : f.1 * h.2.2 - h.1 * f.2.2 = 0 := congrArg Prod.fst q
  have q2 : f.2.1 * h.2.2 - h.2.1 * f.2.2 = 0 := congrArg Prod.snd q
  exact ne (prim_eq pf ph (by omega) (by omega))
end Dn

set_option maxHeartbeats 4000000
namespace Dn
open PySem PySem.Spec PyProof.Rows L2
theorem for_ind {w : Wk} {turn : D → En → Sto → Option (Fl × Sto)} {I : List D → En → Sto → Prop} (hw : ∀ pre δ S, I pre δ S → okW w S) : ∀ {xs pre : List D} {δ : En} {S : Sto},
    (∀ p x r δ S, xs = p ++ x :: r → I (pre ++ p) δ S → ∃ δ' S', turn x δ S = some (.nx δ', S') ∧ I (pre ++ p ++ [x]) δ' S') → I pre δ S → ∃ δ' S', loopFor w turn xs δ S = some (.nx δ', S') ∧ I (pre ++ xs) δ' S'
  | [], pre, δ, S, _, h0 => ⟨δ, S, by unfold loopFor; rw [if_pos (hw _ δ S h0)], by simpa using h0⟩
  | x :: xs, pre, δ, S, h, h0 => by
    obtain ⟨δ1, S1, e1, h1⟩ := h [] x xs δ S rfl (by simpa using h0)
    obtain ⟨δ2, S2, e2, h2⟩ := for_ind hw (xs := xs) (pre := pre ++ [x]) (δ := δ1) (S := S1) (fun p y r δ S e q => by
      have := h (x :: p) y r δ S (by rw [e]; rfl) (by simpa using q)
      simpa using this) (by simpa using h1)
    refine ⟨δ2, S2, ?_, by simpa using h2⟩
    unfold loopFor
    rw [if_pos (hw _ δ S h0), e1, Option.bind_some]
    exact e2
theorem loop_filter {w : Wk} {turn : D → Sto → Option (Option D × Sto)} {S : Sto} {f : D → D} {q : D → Bool} (hw : okW w S) : ∀ {xs : List D}, (∀ x ∈ xs, turn x S = some (if q x = true then some (f x) else none, S)) → loopLc w turn xs S = some ((xs.filter q).map f, S)
  | [], _ => by unfold loopLc; rw [if_pos hw]; rfl
  | x :: xs, h => by
    unfold loopLc
    rw [if_pos hw, h x (List.mem_cons_self ..), Option.bind_some, loop_filter hw fun y hy => h y (List.mem_cons_of_mem _ hy)]
    cases hq : q x <;> simp [hq, List.filter_cons]
/-! ### insertion behind all that are not past it -/
section
variable {lt : Nat → Nat → Bool}
def Srt (lt : Nat → Nat → Bool) (F : List Nat) : Prop := F.Pairwise fun a b => lt b a = false
theorem srt_split {e : Nat} : ∀ {F : List Nat}, Srt lt F → (∀ a ∈ F, ∀ b ∈ F, lt e a = true → lt e b = true ∨ lt b a = true) → ∃ A B, F = A ++ B ∧ (∀ a ∈ A, lt e a = false) ∧ ∀ b ∈ B, lt e b = true
  | [], _, _ => ⟨[], [], rfl, fun _ h => (by cases h), fun _ h => (by cases h)⟩
  | x :: r, h, nt => by
    obtain ⟨h1, h2⟩ := List.pairwise_cons.mp h
    cases hx : lt e x with
    | true =>
      refine ⟨[], x :: r, rfl, fun _ h => (by cases h), fun b hb => ?_⟩
      rcases List.mem_cons.mp hb with rfl | hb'
      · exact hx
      · rcases nt x (List.mem_cons_self ..) b hb hx with z | z
        · exact z
        · rw [h1 b hb'] at z; cases z
    | false =>
      obtain ⟨A, B, e1, e2, e3⟩ := srt_split h2 fun a ha b hb => nt a (List.mem_cons_of_mem _ ha) b (List.mem_cons_of_mem _ hb)
      refine ⟨x :: A, B, by rw [e1]; rfl, fun a ha => ?_, e3⟩
      rcases List.mem_cons.mp ha with rfl | ha
      · exact hx
      · exact e2 a ha
theorem srt_ins {e : Nat} {A B : List Nat} (h : Srt lt (A ++ B)) (hA : ∀ a ∈ A, lt e a = false) (hB : ∀ b ∈ B, lt e b = true) (as : ∀ b ∈ B, lt e b = true → lt b e = false) : Srt lt (A ++ [e] ++ B) := by
  obtain ⟨h1, h2, h3⟩ := List.pairwise_append.mp h
  refine List.pairwise_append.mpr ⟨List.pairwise_append.mpr ⟨h1, List.pairwise_singleton _ _, fun a ha b hb => ?_⟩, h2, fun a ha b hb => ?_⟩
  · rw [List.mem_singleton.mp hb]; exact hA a ha
  · rcases List.mem_append.mp ha with ha | ha
    · exact h3 a ha b hb
    · rw [List.mem_singleton.mp ha]; exact as b hb (hB b hb)
theorem filter_split {e : Nat} {A B : List Nat} (hA : ∀ a ∈ A, lt e a = false) (hB : ∀ b ∈ B, lt e b = true) : ((A ++ B).filter fun i => !lt e i) = A := by
  rw [List.filter_append, List.filter_eq_self.mpr fun a ha => by rw [hA a ha]; rfl, List.filter_eq_nil_iff.mpr fun b hb => by rw [hB b hb]; simp, List.append_nil]
/-- the order of 0 .. n-1 by insertion -/
inductive InsOf (lt : Nat → Nat → Bool) : Nat → List Nat → Prop where
  | nil : InsOf lt 0 []
  | cons {n : Nat} {A B : List Nat} : InsOf lt n (A ++ B) → (∀ a ∈ A, lt n a = false) → (∀ b ∈ B, lt n b = true) → InsOf lt (n + 1) (A ++ [n] ++ B)
theorem InsOf.mem {n : Nat} {F : List Nat} (h : InsOf lt n F) : ∀ i ∈ F, i < n := by
  induction h with
  | nil => intro i hi; cases hi
  | cons h hA hB ih =>
    intro i hi
    simp only [List.mem_append, List.mem_singleton] at hi
    rcases hi with (hi | rfl) | hi
    · have := ih i (List.mem_append_left _ hi); omega
    · omega
    · have := ih i (List.mem_append_right _ hi); omega
theorem InsOf.len {n : Nat} {F : List Nat} (h : InsOf lt n F) : F.length = n := by
  induction h with
  | nil => rfl
  | cons h hA hB ih =>
    simp only [List.length_append, List.length_singleton] at ih ⊢
    omega
/-- lt on what is below n: as of a strict order of ranks -/
structure LtOk (lt : Nat → Nat → Bool) (n : Nat) : Prop where
  nt : ∀ e a b, e < n → a < n → b < n → lt e a = true → lt e b = true ∨ lt b a = true
  as : ∀ e a, lt e a = true → lt a e = false
theorem InsOf.srt {n m : Nat} {F : List Nat} (L : LtOk lt m) (h : InsOf lt n F) (hn : n ≤ m) : Srt lt F := by
  induction h with
  | nil => exact List.Pairwise.nil
  | @cons n A B h hA hB ih => exact srt_ins (ih (by omega)) hA hB fun b hb q => L.as _ _ q
theorem InsOf.split {n m : Nat} {F : List Nat} (L : LtOk lt m) (h : InsOf lt n F) (hn : n < m) : ∃ A B, F = A ++ B ∧ (∀ a ∈ A, lt n a = false) ∧ ∀ b ∈ B, lt n b = true :=
  srt_split (h.srt L (by omega)) fun a ha b hb q => L.nt n a b hn (by have := h.mem a ha; omega) (by have := h.mem b hb; omega) q
theorem split_uniq {p : Nat → Bool} : ∀ {A B A' B' : List Nat}, A ++ B = A' ++ B' → (∀ a ∈ A, p a = false) → (∀ b ∈ B, p b = true) → (∀ a ∈ A', p a = false) → (∀ b ∈ B', p b = true) → A = A' ∧ B = B'
  | [], B, [], B', e, _, _, _, _ => ⟨rfl, e⟩
  | [], B, x :: A', B', e, _, hB, hA', _ => by
    have := hB x (by rw [show B = x :: (A' ++ B') from e]; exact List.mem_cons_self ..)
    rw [hA' x (List.mem_cons_self ..)] at this; cases this
  | x :: A, B, [], B', e, hA, _, _, hB' => by
    have := hB' x (by rw [← show x :: (A ++ B) = B' from e]; exact List.mem_cons_self ..)
    rw [hA x (List.mem_cons_self ..)] at this; cases this
  | x :: A, B, y :: A', B', e, hA, hB, hA', hB' => by
    injection e with e1 e2
    subst e1
    obtain ⟨r1, r2⟩ := split_uniq e2 (fun a h => hA a (List.mem_cons_of_mem _ h)) hB (fun a h => hA' a (List.mem_cons_of_mem _ h)) hB'
    exact ⟨by rw [r1], r2⟩
theorem InsOf.uniq {n : Nat} {F G : List Nat} (h : InsOf lt n F) (g : InsOf lt n G) : F = G := by
  induction h generalizing G with
  | nil => cases g; rfl
  | @cons n A B h hA hB ih =>
    generalize hm : n + 1 = m at g
    cases g with
    | nil => omega
    | @cons n' A' B' g hA' hB' =>
      have : n = n' := by omega
      subst this
      have e := ih g
      obtain ⟨r1, r2⟩ := split_uniq (p := lt n) e hA hB hA' hB'
      rw [r1, r2]
end
end Dn

set_option maxHeartbeats 4000000
namespace Dn
open PySem PySem.Spec PyProof.Rows L2
section
variable {α : Type} {w : Wk} {turn : D → Sto → Option (Option D × Sto)} {S : Sto}
theorem loop_map2 {g f : α → D} (hw : okW w S) : ∀ {ys : List α}, (∀ y ∈ ys, turn (g y) S = some (some (f y), S)) → loopLc w turn (ys.map g) S = some (ys.map f, S)
  | [], _ => by unfold loopLc; simp only [List.map_nil]; rw [if_pos hw]
  | y :: ys, h => by
    simp only [List.map_cons]
    unfold loopLc
    rw [if_pos hw, h y (List.mem_cons_self ..), Option.bind_some, loop_map2 hw fun z hz => h z (List.mem_cons_of_mem _ hz)]
    rfl
theorem loop_filter2 {g f : α → D} {q : α → Bool} (hw : okW w S) : ∀ {ys : List α}, (∀ y ∈ ys, turn (g y) S = some (if q y = true then some (f y) else none, S)) → loopLc w turn (ys.map g) S = some ((ys.filter q).map f, S)
  | [], _ => by unfold loopLc; simp only [List.map_nil]; rw [if_pos hw]; rfl
  | y :: ys, h => by
    simp only [List.map_cons]
    unfold loopLc
    rw [if_pos hw, h y (List.mem_cons_self ..), Option.bind_some, loop_filter2 hw fun z hz => h z (List.mem_cons_of_mem _ hz)]
    cases hq : q y <;> simp [hq, List.filter_cons]
/-- turns that leave J of the store -/
theorem loop_all {J : Sto → Prop} {f : α → D} {g : α → D} (hw : ∀ S, J S → okW w S) : ∀ {ys : List α} {S : Sto}, (∀ y ∈ ys, ∀ S, J S → ∃ S', turn (g y) S = some (some (f y), S') ∧ J S') → J S → ∃ S', loopLc w turn (ys.map g) S = some (ys.map f, S') ∧ J S'
  | [], S, _, h0 => ⟨S, by unfold loopLc; simp only [List.map_nil]; rw [if_pos (hw S h0)], h0⟩
  | y :: ys, S, h, h0 => by
    obtain ⟨S1, e1, h1⟩ := h y (List.mem_cons_self ..) S h0
    obtain ⟨S2, e2, h2⟩ := loop_all hw (fun z hz => h z (List.mem_cons_of_mem _ hz)) h1
    refine ⟨S2, ?_, h2⟩
    simp only [List.map_cons]
    unfold loopLc
    rw [if_pos (hw S h0), e1, Option.bind_some, e2]
    rfl
end
theorem cut_to {xs ys : List D} : cutD (xs ++ ys) none (some (xs.length : Int)) = xs := by
  unfold cutD
  rw [HT.sIx_none, HT.sIx_nat]
  simp
theorem cut_from {xs ys : List D} : cutD (xs ++ ys) (some (xs.length : Int)) none = ys := by
  unfold cutD
  rw [HT.sIx_none, HT.sIx_nat]
  simp
theorem enm_split {steps p r : List D} {x : D} {m : Nat} (h : enmD m steps = p ++ x :: r) : ∃ s, steps[p.length]? = some s ∧ x = .tup [.int ((m + p.length : Nat) : Int), s] := by
  have hx : (enmD m steps)[p.length]? = some x := by rw [h]; simp
  exact enm_get hx
def iD (i : Nat) : D := .int (i : Int)
end Dn
namespace Dn
open PySem PySem.Spec PyProof.Rows L2
/-! ### values without objects of the store -/
mutual
def plainD : D → Bool
  | .tup xs => plainDs xs
  | .lst xs => plainDs xs
  | .scr xs => plainDs xs
  | .dic _ xs => plainDs xs
  | .ref _ => false
  | .exc _ _ xs => plainDs xs
  | _ => true
def plainDs : List D → Bool
  | [] => true
  | d :: ds => plainD d && plainDs ds
end
mutual
theorem fz_plain {n : Nat} {g : Nat → Option D} : ∀ {d : D}, plainD d = true → fzD n g d = some d
  | .tup xs, h => by simp only [plainD] at h; simp only [fzD, fzs_plain h, Option.map_some]
  | .lst xs, h => by simp only [plainD] at h; simp only [fzD, fzs_plain h, Option.map_some]
  | .scr xs, h => by simp only [plainD] at h; simp only [fzD, fzs_plain h, Option.map_some]
  | .dic ks xs, h => by simp only [plainD] at h; simp only [fzD, fzs_plain h, Option.map_some]
  | .ref k, h => by simp only [plainD] at h; cases h
  | .exc C f xs, h => by simp only [plainD] at h; simp only [fzD, fzs_plain h, Option.map_some]
  | .non, h => by simp only [fzD]
  | .bl _, h => by simp only [fzD]
  | .int _, h => by simp only [fzD]
  | .str _, h => by simp only [fzD]
theorem fzs_plain {n : Nat} {g : Nat → Option D} : ∀ {ds : List D}, plainDs ds = true → fzDs n g ds = some ds
  | [], h => by simp only [fzDs]
  | d :: ds, h => by
    simp only [plainDs, Bool.and_eq_true] at h
    simp only [fzDs, fz_plain h.1, fzs_plain h.2, Option.bind_some, Option.map_some]
end
theorem plain_all : ∀ {ds : List D}, (∀ d ∈ ds, plainD d = true) → plainDs ds = true
  | [], _ => by simp only [plainDs]
  | d :: ds, h => by simp only [plainDs, h d (List.mem_cons_self ..), plain_all fun e he => h e (List.mem_cons_of_mem _ he), Bool.and_self]
/-- a local list is given back: it is frozen -/
theorem gc_one {S S1 : Sto} {xs : List D} (h : plainDs xs = true) (h1 : S1.length = S.length) (hg : GcOk S.length S (S1 ++ [.lst false xs])) : gc S (.ref S.length) (S1 ++ [.lst false xs]) = some (.lst xs, S1) := by
  unfold gc
  have e1 : ¬ (S1 ++ [MO.lst false xs]).length ≤ S.length := by simp; omega
  have e2 : (S1 ++ [MO.lst false xs]).drop S.length = [.lst false xs] := by rw [← h1]; simp
  have e3 : (S1 ++ [MO.lst false xs]).take S.length = S1 := by rw [← h1]; simp
  have e4 : (S1 ++ [MO.lst false xs])[S.length]? = some (.lst false xs) := by rw [← h1]; simp
  rw [if_neg e1, e2, if_neg (by simp [MO.keep]), if_pos hg, e3]
  simp only [fzD, Nat.lt_irrefl, ↓reduceIte, fzR, e4, fzs_plain h, Option.map_some]
/-- a local list is let go -/
theorem gc_let {S S1 : Sto} {xs : List D} {d : D} (h : plainD d = true) (h1 : S1.length = S.length) (hg : GcOk S.length S (S1 ++ [.lst false xs])) : gc S d (S1 ++ [.lst false xs]) = some (d, S1) := by
  unfold gc
  have e1 : ¬ (S1 ++ [MO.lst false xs]).length ≤ S.length := by simp; omega
  have e2 : (S1 ++ [MO.lst false xs]).drop S.length = [.lst false xs] := by rw [← h1]; simp
  have e3 : (S1 ++ [MO.lst false xs]).take S.length = S1 := by rw [← h1]; simp
  rw [if_neg e1, e2, if_neg (by simp [MO.keep]), if_pos hg, e3]
  simp only [fz_plain h, Option.map_some]
theorem gcok_same {S : Sto} {xs : List D} : GcOk S.length S (S ++ [.lst false xs]) := fun k hk => .inl (List.getElem?_append_left hk)
theorem below_ints {n : Nat} {a b c : Int} : belowDs n [.int a, .int b, .int c] = true := by simp [belowDs, belowD]
theorem gcok_sp {S S1 : Sto} {xs : List D} {k j : Nat} (h : Same k S S1) (hs : Sp k j S1) : GcOk S.length S (S1 ++ [.lst false xs]) := fun i hi => by
  by_cases e : i = k
  · subst e
    obtain ⟨a, b, c, e1, _⟩ := hs
    refine .inr ⟨.lst true [.int a, .int b, .int c], ?_, below_ints⟩
    rw [List.getElem?_append_left (by rw [h.1]; exact hi)]; exact e1
  · refine .inl ?_
    rw [List.getElem?_append_left (by rw [h.1]; exact hi)]
    exact h.2 i e
theorem last_get {S : Sto} {mo : MO} : (S ++ [mo])[S.length]? = some mo := by simp
theorem last_set {S : Sto} {mo mo' : MO} : (S ++ [mo]).set S.length mo' = S ++ [mo'] := by
  rw [List.set_append_right _ _ (Nat.le_refl _)]; simp
end Dn

set_option maxHeartbeats 1000000
namespace Dn
open PySem PySem.Spec PyProof.Rows L2
/-! ### repr: within bounds -/
theorem textFrom_le : ∀ (ts : List Str) (k : Nat) (acc : Str), (textFrom k acc ts).length ≤ acc.length + piled ts
  | [], k, acc => by rw [piled_nil]; exact Nat.le_refl _
  | t :: r, k, acc => by
    have h := textFrom_le r (k + 1) (acc ++ (if k > 0 then ", " else "" : String) ++ t)
    have e : (acc ++ (if k > 0 then ", " else "" : String) ++ t).length ≤ acc.length + 2 + t.length := by
      rw [strLen_append, strLen_append]
      have : (((if k > 0 then ", " else "" : String) : Str)).length ≤ 2 := by split <;> decide +kernel
      omega
    rw [piled_cons]
    show (textFrom (k + 1) (acc ++ (if k > 0 then ", " else "" : String) ++ t) r).length ≤ _
    omega
theorem listText_le (ts : List Str) : (listText ts).length ≤ 2 + piled ts := by
  have h := textFrom_le ts 0 "["
  have e1 : (("[" : String) : Str).length = 1 := by decide +kernel
  have e2 : (("]" : String) : Str).length = 1 := by decide +kernel
  unfold listText
  rw [strLen_append]
  omega
theorem tupleText_le (ts : List Str) : (tupleText ts).length ≤ 3 + piled ts := by
  unfold tupleText
  rw [strLen_append, strLen_append]
  have e1 : (("(" : String) : Str).length = 1 := by decide +kernel
  have e2 : (((if ts.length == 1 then ",)" else ")" : String) : Str)).length ≤ 2 := by split <;> decide +kernel
  have e3 : (Str.join ", " ts).length ≤ piled ts := by
    cases ts with
    | nil => decide +kernel
    | cons t r => have := join_length_add (t :: r) (by simp); omega
  omega
theorem piled_le {b : Nat} : ∀ {ts : List Str}, (∀ t ∈ ts, t.length ≤ b) → piled ts ≤ ts.length * (b + 2)
  | [], _ => by rw [piled_nil]; omega
  | t :: r, h => by
    have h1 := h t (List.mem_cons_self ..)
    have h2 := piled_le fun s hs => h s (List.mem_cons_of_mem _ hs)
    rw [piled_cons, List.length_cons, Nat.add_mul, Nat.one_mul]
    omega
structure Shw (e b : Nat) (p : PyData) : Prop where
  s : p.showable = true
  h : p.hasDict = false
  d : p.depth ≤ e
  l : p.shown.length ≤ b
theorem Shw.mono {e b e' b' : Nat} {p : PyData} (h : Shw e b p) (he : e ≤ e') (hb : b ≤ b') : Shw e' b' p := ⟨h.s, h.h, Nat.le_trans h.d he, Nat.le_trans h.l hb⟩
theorem shw_all {e b : Nat} : ∀ {ps : List PyData}, (∀ p ∈ ps, Shw e b p) → PyData.showableAll ps = true ∧ PyData.hasDictAll ps = false ∧ PyData.depthAll ps ≤ e ∧ (PyData.shownAll ps).length = ps.length ∧ ∀ t ∈ PyData.shownAll ps, t.length ≤ b
  | [], _ => by
    simp only [PyData.showableAll, PyData.hasDictAll, PyData.depthAll, PyData.shownAll]
    exact ⟨trivial, trivial, Nat.zero_le _, rfl, fun t h => (by cases h)⟩
  | p :: ps, h => by
    obtain ⟨h1, h2, h3, h4, h5⟩ := shw_all fun q hq => h q (List.mem_cons_of_mem _ hq)
    have hp := h p (List.mem_cons_self ..)
    simp only [PyData.showableAll, PyData.hasDictAll, PyData.depthAll, PyData.shownAll]
    refine ⟨by rw [hp.s, h1]; rfl, by rw [hp.h, h2]; rfl, Nat.max_le.mpr ⟨hp.d, h3⟩, by rw [List.length_cons, List.length_cons, h4], fun t ht => ?_⟩
    rcases List.mem_cons.mp ht with rfl | ht
    · exact hp.l
    · exact h5 t ht
theorem shw_tup {e b : Nat} {ps : List PyData} (h : ∀ p ∈ ps, Shw e b p) : Shw (e + 1) (3 + ps.length * (b + 2)) (.tuple ps) := by
  obtain ⟨h1, h2, h3, h4, h5⟩ := shw_all h
  refine ⟨by simp only [PyData.showable]; exact h1, by simp only [PyData.hasDict]; exact h2, by simp only [PyData.depth]; omega, ?_⟩
  simp only [PyData.shown]
  have := tupleText_le (PyData.shownAll ps)
  have q := piled_le h5
  rw [h4] at q
  omega
theorem shw_lst {e b : Nat} {ps : List PyData} (h : ∀ p ∈ ps, Shw e b p) : Shw (e + 1) (2 + ps.length * (b + 2)) (.list ps) := by
  obtain ⟨h1, h2, h3, h4, h5⟩ := shw_all h
  refine ⟨by simp only [PyData.showable]; exact h1, by simp only [PyData.hasDict]; exact h2, by simp only [PyData.depth]; omega, ?_⟩
  simp only [PyData.shown]
  have := listText_le (PyData.shownAll ps)
  have q := piled_le h5
  rw [h4] at q
  omega
theorem shw_bl {b : Bool} : Shw 0 5 (.bool b) := by
  refine ⟨by simp only [PyData.showable], by simp only [PyData.hasDict], by simp only [PyData.depth]; omega, ?_⟩
  simp only [PyData.shown]
  cases b <;> decide +kernel
theorem shw_non : Shw 0 5 .none := by
  refine ⟨by simp only [PyData.showable], by simp only [PyData.hasDict], by simp only [PyData.depth]; omega, ?_⟩
  simp only [PyData.shown]
  decide +kernel
theorem shw_int {i : Int} (h : i.natAbs.log2 < 1920) : Shw 0 1921 (.int i) := by
  refine ⟨by simp only [PyData.showable, decide_eq_true_eq]; exact h, by simp only [PyData.hasDict], by simp only [PyData.depth]; omega, ?_⟩
  simp only [PyData.shown]
  exact int_text_len_1921 h
mutual
theorem rp_pd : ∀ {d : D} {p : PyData}, pd d = some p → rp d = some p
  | .non, p, e => by simpa only [pd, rp] using e
  | .bl _, p, e => by simpa only [pd, rp] using e
  | .int _, p, e => by simpa only [pd, rp] using e
  | .str _, p, e => by simpa only [pd, rp] using e
  | .tup xs, p, e => by
    simp only [pd] at e
    obtain ⟨ps, e1, rfl⟩ := mapS e
    simp only [rp, rps_pds e1, Option.map_some]
  | .lst xs, p, e => by
    simp only [pd] at e
    obtain ⟨ps, e1, rfl⟩ := mapS e
    simp only [rp, rps_pds e1, Option.map_some]
  | .scr xs, p, e => by
    simp only [pd] at e
    obtain ⟨ps, e1, rfl⟩ := mapS e
    simp only [rp, rps_pds e1, Option.map_some]
  | .dic _ _, p, e => by simp only [pd] at e; cases e
  | .ref _, p, e => by simp only [pd] at e; cases e
  | .exc _ _ _, p, e => by simp only [pd] at e; cases e
theorem rps_pds : ∀ {ds : List D} {ps : List PyData}, pds ds = some ps → rps ds = some ps
  | [], ps, e => by simpa only [pds, rps] using e
  | d :: ds, ps, e => by
    simp only [pds] at e
    obtain ⟨p, e1, e2⟩ := bindS e
    obtain ⟨r, e3, rfl⟩ := mapS e2
    simp only [rps, rp_pd e1, rps_pds e3, Option.bind_some, Option.map_some]
end
theorem repr_rp {d : D} {p : PyData} {S : Sto} (hd : rp (dr S d) = some p) (h1 : p.showable = true) (h2 : p.depth ≤ 64) (h3 : p.shown.length ≤ 16777216) : bltD S "repr" [d] = some (.str p.shown) := by
  have hc : (p.showable && decide (p.depth ≤ 64) && decide (p.shown.length ≤ 16777216)) = true := by
    simp only [Bool.and_eq_true, decide_eq_true_eq]
    exact ⟨⟨h1, h2⟩, h3⟩
  unfold bltD
  simp only [String.reduceEq, ↓reduceIte, hd, Option.bind_some, hc]
theorem repr_of {e b : Nat} {d : D} {p : PyData} {S : Sto} (hd : pd (dr S d) = some p) (h : Shw e b p) (he : e ≤ 64) (hb : b ≤ 16777216) : bltD S "repr" [d] = some (.str p.shown) :=
  repr_rp (rp_pd hd) h.s (Nat.le_trans h.d he) (Nat.le_trans h.l hb)
/-- a whole number or a truth that repr can show -/
def Sml (d : D) : Prop := (∃ b, d = .bl b) ∨ ∃ i : Int, d = .int i ∧ i.natAbs < 2 ^ 1000
theorem sml_pd {d : D} (h : Sml d) : ∃ p, pd d = some p ∧ Shw 0 1921 p := by
  rcases h with ⟨b, rfl⟩ | ⟨i, rfl, hi⟩
  · exact ⟨.bool b, by simp only [pd], shw_bl.mono (by omega) (by omega)⟩
  · have := log_lt (n := i.natAbs) (k := 1000) hi (by omega)
    exact ⟨.int i, by simp only [pd], shw_int (by omega)⟩
theorem sml_pds : ∀ {xs : List D}, (∀ d ∈ xs, Sml d) → ∃ ps, pds xs = some ps ∧ ps.length = xs.length ∧ ∀ p ∈ ps, Shw 0 1921 p
  | [], _ => ⟨[], by simp only [pds], rfl, fun _ h => (by cases h)⟩
  | x :: xs, h => by
    obtain ⟨p, e1, h1⟩ := sml_pd (h x (List.mem_cons_self ..))
    obtain ⟨ps, e2, l2, h2⟩ := sml_pds fun y hy => h y (List.mem_cons_of_mem _ hy)
    refine ⟨p :: ps, by simp only [pds, e1, e2, Option.bind_some, Option.map_some], by rw [List.length_cons, List.length_cons, l2], fun q hq => ?_⟩
    rcases List.mem_cons.mp hq with rfl | hq
    · exact h1
    · exact h2 q hq
theorem repr_smls {xs : List D} (h : ∀ d ∈ xs, Sml d) (hl : xs.length ≤ 1000) : ∃ s, ∀ S, bltD S "repr" [.lst xs] = some (.str s) := by
  obtain ⟨ps, e, l, q⟩ := sml_pds h
  refine ⟨_, fun S => repr_of (p := .list ps) ?_ (shw_lst q) (by omega) (by rw [l]; omega)⟩
  show pd (.lst xs) = _
  simp only [pd, e, Option.map_some]
theorem repr_bl (b : Bool) : ∃ s, ∀ S, bltD S "repr" [.bl b] = some (.str s) :=
  ⟨_, fun S => repr_of (p := .bool b) (by show pd (.bl b) = _; simp only [pd]) shw_bl (by omega) (by omega)⟩
theorem ne_str {s : Str} {S : Sto} : cmpD S .NotEq (.str s) (.str s) = some false := by simp [cmpD, dr, eqD, flatD, scal, vD]
theorem eq_str {s : Str} {S : Sto} : cmpD S .Eq (.str s) (.str s) = some true := by simp [cmpD, dr, eqD, flatD, scal, vD]
end Dn

set_option maxHeartbeats 1000000
namespace Dn
open PySem PySem.Spec PyProof.Rows L2
theorem lc_ind {w : Wk} {turn : D → Sto → Option (Option D × Sto)} {P : D → Prop} {J : Nat → Sto → Prop} (hw : ∀ i S, J i S → okW w S) : ∀ {xs : List D} {i : Nat} {S : Sto}, (∀ x ∈ xs, ∀ i' S, i' < i + xs.length → J i' S → ∃ y S', turn x S = some (some y, S') ∧ P y ∧ J (i' + 1) S') → J i S →
    ∃ ys S', loopLc w turn xs S = some (ys, S') ∧ ys.length = xs.length ∧ (∀ y ∈ ys, P y) ∧ J (i + xs.length) S'
  | [], i, S, _, h0 => ⟨[], S, by unfold loopLc; rw [if_pos (hw i S h0)], rfl, fun _ h => (by cases h), h0⟩
  | x :: xs, i, S, h, h0 => by
    obtain ⟨y, S1, e1, p1, h1⟩ := h x (List.mem_cons_self ..) i S (by simp) h0
    obtain ⟨ys, S2, e2, l2, p2, h2⟩ := lc_ind hw (xs := xs) (i := i + 1) (S := S1) (fun z hz i' S hi => h z (List.mem_cons_of_mem _ hz) i' S (by rw [List.length_cons]; omega)) h1
    refine ⟨y :: ys, S2, ?_, by rw [List.length_cons, List.length_cons, l2], fun z hz => ?_, by rw [List.length_cons, show i + (xs.length + 1) = i + 1 + xs.length by omega]; exact h2⟩
    · unfold loopLc
      rw [if_pos (hw i S h0), e1, Option.bind_some, e2]
      rfl
    · rcases List.mem_cons.mp hz with rfl | hz
      · exact p1
      · exact p2 z hz
theorem same_app {k : Nat} {S1 T : Sto} {mo : MO} (h : Same k (S1 ++ [mo]) T) (hk : k < S1.length) : ∃ S2, T = S2 ++ [mo] ∧ Same k S1 S2 := by
  obtain ⟨h1, h2⟩ := h
  rw [List.length_append, List.length_singleton] at h1
  have hl : T[S1.length]? = some mo := by rw [h2 _ (by omega)]; simp
  refine ⟨T.take S1.length, ?_, by rw [List.length_take]; omega, fun i hi => ?_⟩
  · refine List.ext_getElem? fun i => ?_
    by_cases c : i < S1.length
    · rw [List.getElem?_append_left (by rw [List.length_take]; omega), List.getElem?_take, if_pos c]
    · by_cases c2 : i = S1.length
      · subst c2
        rw [hl, List.getElem?_append_right (by rw [List.length_take]; omega), List.length_take, Nat.min_eq_left (by omega)]
        simp
      · rw [List.getElem?_eq_none (by omega), List.getElem?_eq_none (by rw [List.length_append, List.length_take, List.length_singleton]; omega)]
  · rw [List.getElem?_take]
    split
    · rename_i c
      rw [h2 i hi, List.getElem?_append_left c]
    · rw [List.getElem?_eq_none (by omega)]
theorem sp_app {k j : Nat} {S : Sto} {mo : MO} (hk : k < S.length) : Sp k j (S ++ [mo]) ↔ Sp k j S := by
  unfold Sp
  rw [List.getElem?_append_left hk]
theorem Sp.lt {k j : Nat} {S : Sto} (h : Sp k j S) : k < S.length := by
  obtain ⟨a, b, c, e, _⟩ := h
  exact get_lt e
theorem eq_lD {p q : Int × Int × Int} {S : Sto} : cmpD S .NotEq (lD p) (lD q) = some (!decide (p = q)) := by
  obtain ⟨a, b, c⟩ := p
  obtain ⟨x, y, z⟩ := q
  simp [cmpD, lD, dr, eqD, flatD, eqP, pd, pds, SeqAt.shaped, PyData.canLay0, PyData.canLayAll0, PyData.depth, PyData.depthAll, PyData.eqv, PyData.eqvAll]
  by_cases h1 : a = x <;> by_cases h2 : b = y <;> by_cases h3 : c = z <;> simp [h1, h2, h3]
theorem for_all' {w : Wk} {turn : D → En → Sto → Option (Fl × Sto)} {I : En → Sto → Prop} (hw : ∀ δ S, I δ S → okW w S) : ∀ {xs : List D} {δ : En} {S : Sto}, (∀ x ∈ xs, ∀ δ S, I δ S → ∃ δ' S', turn x δ S = some (.nx δ', S') ∧ I δ' S') → I δ S →
    ∃ δ' S', loopFor w turn xs δ S = some (.nx δ', S') ∧ I δ' S'
  | [], δ, S, _, h0 => ⟨δ, S, by unfold loopFor; rw [if_pos (hw δ S h0)], h0⟩
  | x :: xs, δ, S, h, h0 => by
    obtain ⟨δ1, S1, e1, h1⟩ := h x (List.mem_cons_self ..) δ S h0
    obtain ⟨δ2, S2, e2, h2⟩ := for_all' hw (fun y hy => h y (List.mem_cons_of_mem _ hy)) h1
    refine ⟨δ2, S2, ?_, h2⟩
    unfold loopFor
    rw [if_pos (hw δ S h0), e1, Option.bind_some]
    exact e2
theorem ex_app {G : GE} {δ : En} {S : Sto} : ∀ {a b : List CS}, exSs G (a ++ b) δ S = @bnd _ _ (exSs G a δ S) ⟨fun p => match p.1 with
    | .nx δ1 => exSs G b δ1 p.2
    | f => some (f, p.2)⟩
  | [], b => by rw [x_nil, bnd_some]; rfl
  | s :: a, b => by
    rw [List.cons_append, x_cons, x_cons]
    cases e : exS G s δ S with
    | none => rfl
    | some p =>
      rw [bnd_some, bnd_some]
      obtain ⟨f, T⟩ := p
      cases f with
      | nx δ1 => exact ex_app
      | rt d => rfl
      | bk d => rfl
      | ct d => rfl
theorem ex_nx {G : GE} {δ δ1 : En} {S S1 : Sto} {a b : List CS} {r : Option (Fl × Sto)} (h : exSs G a δ S = some (.nx δ1, S1)) (g : exSs G b δ1 S1 = r) : exSs G (a ++ b) δ S = r := by
  rw [ex_app, h, bnd_some]; exact g
theorem ex_st {G : GE} {δ δ1 : En} {S S1 : Sto} {s : CS} {b : List CS} {r : Option (Fl × Sto)} (h : exS G s δ S = some (.nx δ1, S1)) (g : exSs G b δ1 S1 = r) : exSs G (s :: b) δ S = r := by
  rw [x_cons, h, bnd_some]; exact g
theorem ex_rt {G : GE} {δ : En} {S S1 : Sto} {s : CS} {d : D} (h : exS G s δ S = some (.rt d, S1)) : exSs G [s] δ S = some (.rt d, S1) := by
  rw [x_cons, h, bnd_some]
theorem ex_rt' {G : GE} {δ : En} {S S1 : Sto} {s : CS} {r : List CS} {d : D} (h : exS G s δ S = some (.rt d, S1)) : exSs G (s :: r) δ S = some (.rt d, S1) := by
  rw [x_cons, h, bnd_some]
end Dn

set_option maxHeartbeats 4000000
namespace K01
open PySem PySem.Spec PyProof.Rows L2 Dn
/-! ### the text: printed by gen.py -/
def top (i : Nat) : Stmt := PySem.Challenge.pw_bendatlas_k01_errors_each_of_its_own.main.body.getD i (.Pass ⟨0, 0, 0, 0⟩)
def xcls : List (Str × Option Str) := [("BendError", none), ("InvalidPoint", some "given"), ("InvalidSegment", some "given"), ("InvalidFigure", some "given"), ("InvalidScene", some "given"), ("InvalidCell", some "given"), ("InvalidName", some "given"), ("InvalidIndex", some "given"), ("TooMany", some "given"), ("InvalidSegments", some "index"), ("InvalidPoints", some "index"), ("BadText", some "spot"), ("InvalidPick", some "given"), ("InvalidDeed", some "given"), ("InvalidBook", some "given"), ("InvalidWindow", some "given"), ("InvalidLines", some "index"), ("NothingToUndo", none), ("NothingToRedo", none), ("InvalidMap", some "given"), ("InvalidDart", some "given"), ("InvalidSpecial", some "given"), ("InvalidFace", some "given"), ("InvalidPart", some "given"), ("InvalidStep", some "given"), ("InvalidSide", some "given"), ("InvalidCode", some "given")]
def xall : List Str := ["BendError", "InvalidPoint", "InvalidSegment", "InvalidFigure", "InvalidScene", "InvalidCell", "InvalidName", "InvalidIndex", "TooMany", "InvalidSegments", "InvalidPoints", "BadText", "InvalidPick", "InvalidDeed", "InvalidBook", "InvalidWindow", "InvalidLines", "NothingToUndo", "NothingToRedo", "InvalidMap", "InvalidDart", "InvalidSpecial", "InvalidFace", "InvalidPart", "InvalidStep", "InvalidSide", "InvalidCode"]
def c_law_spring : Fn := ⟨["script", "turn"], ["script", "turn", "mixed", "cell", "own"], [
  .asg (.name 2) (.bin .Add (.int 410203) (.bin .Mult (.int 9241) (.var 1))),
  .for_ (.name 3) (.seq (.sl (.var 0) .non (.int 9))) [.asg (.name 2) (.bin .Mod (.blt "int" [.bin .Add (.bin .Add (.bin .Mult (.var 2) (.int 58027)) (.bin .Mod (.blt "int" [.var 3]) (.int 2147483587))) (.int 19)]) (.int 2147483629))],
  .asg (.name 4) (.ite (.cmp .Lt (.var 1) (.blt "len" [.var 0])) (.blt "int" [.ix (.var 0) (.var 1)]) (.int 0)),
  .asg (.name 2) (.bin .Mod (.blt "int" [.bin .Add (.bin .Add (.bin .Mult (.var 2) (.int 61)) (.bin .Mult (.bin .Mod (.blt "int" [.var 4]) (.int 2147483587)) (.int 30011))) (.int 7)]) (.int 2147483629)),
  .ret (.lst (some true) [.ite (.or (.cmp .Lt (.var 4) (.int 0)) (.cmp .GtE (.var 4) (.bin .Pow (.int 10) (.int 15)))) (.blt "abs" [.var 4]) (.int 0), .var 2, .int 0])]⟩
def d_law_spring : Dfn := ⟨"_law_spring", c_law_spring, top 29⟩
def c_law_draw : Fn := ⟨["spring", "many"], ["spring", "many", "seed", "digit"], [
  .ife (.cmp .Gt (.ix (.var 0) (.int 0)) (.int 0)) [.asg (.tup [(.sub (.var 0) (.int 0)), (.name 3)]) (.blt "divmod" [.ix (.var 0) (.int 0), .var 1]), .ret (.var 3)] [],
  .asg (.sub (.var 0) (.int 2)) (.bin .Add (.ix (.var 0) (.int 2)) (.int 1)),
  .asg (.name 2) (.bin .Mod (.blt "int" [.bin .Add (.ix (.var 0) (.int 1)) (.bin .Mult (.int 70003) (.ix (.var 0) (.int 2)))]) (.int 2147483629)),
  .asg (.sub (.var 0) (.int 1)) (.bin .Mod (.blt "int" [.bin .Add (.bin .Mult (.var 2) (.bin .Add (.bin .Mod (.blt "int" [.var 2]) (.int 6007)) (.int 50021))) (.bin .Mult (.int 29) (.ix (.var 0) (.int 2)))]) (.int 2147483629)),
  .ret (.bin .Mod (.blt "int" [.bin .FloorDiv (.ix (.var 0) (.int 1)) (.int 769)]) (.var 1))]⟩
def d_law_draw : Dfn := ⟨"_law_draw", c_law_draw, top 30⟩
def c_law_one_of : Fn := ⟨["spring", "some"], ["spring", "some"], [
  .ret (.ix (.var 1) (.call "_law_draw" [.var 0, .blt "len" [.var 1]]))]⟩
def d_law_one_of : Dfn := ⟨"_law_one_of", c_law_one_of, top 31⟩
def c_law_odd : Fn := ⟨["spring"], ["spring", "some", "nil", "one", "two"], [
  .asg (.tup [(.name 2), (.name 3), (.name 4)]) (.tup [.tup [.tup [.int 0, .int 1], .tup [.int 0, .int 1]], .tup [.tup [.int 1, .int 1], .tup [.int 0, .int 1]], .tup [.tup [.neg (.int 3), .int 2], .tup [.int 5, .int 7]]]),
  .asg (.name 1) (.lst none [.non, .bl true, .bl false, .int 0, .int 1, .neg (.int 1), .bin .Pow (.int 10) (.int 25), .str "", .str "A", .str "E", .str "a", .str "spot", .str "vertex", .str "face", .tup [], .tup [.int 0], .tup [.int 0, .int 1], .tup [.int 1, .int 1], .tup [.int 2, .int 2], .tup [.int 0, .int 3], .tup [.int 0, .int 0], .tup [.int 1, .int 0], .tup [.int 3, .neg (.int 2)], .tup [.bl true, .int 1], .tup [.int 0, .bl true], .tup [.str "0", .int 1], .tup [.non, .int 1], .var 2, .var 3, .var 4, .tup [.var 2, .var 3], .tup [.var 4, .var 2], .tup [.var 2, .var 2], .tup [.var 2, .var 3, .var 4], .tup [.var 3, .var 4, .var 3], .tup [.tup [.int 0, .int 1]], .tup [.tup [.int 0, .int 1], .tup [.int 0, .int 2]], .tup [.tup [.int 0, .int 1], .tup [.int 1, .int 1], .tup [.int 0, .int 1]], .tup [.lst none [.int 0, .int 1], .tup [.int 0, .int 1]], .lst none [], .lst none [.int 0, .int 1], .lst none [.tup [.int 0, .int 1], .tup [.int 0, .int 1]], .dic0, .dic1 "A" 1, .tup [.str "vertex", .int 0], .tup [.str "edge", .int 0], .tup [.str "face", .int 0], .tup [.str "face", .int 1], .tup [.str "face", .bl true], .tup [.str "vertex", .neg (.int 1)], .tup [.str "cell", .int 0], .lst none [.str "face", .int 0], .tup [.str "spot", .var 2], .tup [.str "spot", .tup [.var 2]], .tup [.str "spot", .var 2, .var 3], .tup [.str "path", .tup [.var 2, .var 3]], .tup [.str "path", .tup [.var 2, .var 2]], .tup [.str "path", .tup [.var 2]], .tup [.str "path", .tup []], .tup [.str "area", .tup [.var 2, .var 3, .var 4]], .tup [.str "area", .tup [.var 2, .var 3, .var 2]], .tup [.str "area", .tup [.var 2, .var 3]], .tup [.str "area", .lst none [.var 2, .var 3, .var 4]], .tup [.str "rim", .tup [.str "spot", .var 2]], .tup [.str "rim"], .tup [.str "both", .tup [.str "spot", .var 2], .tup [.str "spot", .var 3]], .tup [.str "both", .tup [.str "spot", .var 2]], .tup [.str "not", .tup [.str "spot", .var 2]], .tup [.str "closure", .str "A"], .tup [.str "inner", .tup [.str "spot", .var 3], .tup [.str "spot", .var 3]], .tup [.tup [.str "A", .tup [.str "spot", .var 2]]], .tup [.tup [.str "B", .tup [.str "spot", .var 2]], .tup [.str "A", .tup [.str "spot", .var 2]]], .tup [.tup [.str "a", .tup [.str "spot", .var 2]]], .tup [.tup [.str "A", .var 2]], .tup [.tup [.str "A", .tup [.str "spot", .var 2]], .tup [.str "A", .tup [.str "spot", .var 3]]], .tup [.tup [.var 2, .var 3], .tup [.var 3, .var 2]], .tup [.tup [.var 2, .var 2]]]),
  .ret (.call "_law_one_of" [.var 0, .var 1])]⟩
def d_law_odd : Dfn := ⟨"_law_odd", c_law_odd, top 32⟩
def c_law_bent : Fn := ⟨["spring", "thing"], ["spring", "thing", "branch", "at"], [
  .ife (.and (.isi (.var 1) "tuple") (.and (.cmp .NotEq (.var 1) (.tup [])) (.cmp .Gt (.call "_law_draw" [.var 0, .int 5]) (.int 0)))) [.asg (.name 3) (.call "_law_draw" [.var 0, .blt "len" [.var 1]]), .ret (.bin .Add (.bin .Add (.sl (.var 1) .non (.var 3)) (.tup [.call "_law_bent" [.var 0, .ix (.var 1) (.var 3)]])) (.sl (.var 1) (.bin .Add (.var 3) (.int 1)) .non))] [],
  .asg (.name 2) (.call "_law_draw" [.var 0, .int 9]),
  .ife (.and (.isi (.var 1) "tuple") (.cmp .Lt (.var 2) (.int 7))) [.ret (.ix (.tup [.blt "list" [.var 1], .sl (.var 1) .non (.neg (.int 1)), .bin .Add (.var 1) (.sl (.var 1) (.neg (.int 1)) .non), .rev (.var 1), .sl (.var 1) (.int 1) .non, .bin .Add (.sl (.var 1) .non (.int 1)) (.var 1), .tup [.var 1]]) (.var 2))] [],
  .ife (.and (.isi (.var 1) "int") (.cmp .Lt (.var 2) (.int 6))) [.ret (.ix (.tup [.bin .Add (.var 1) (.int 1), .bin .Sub (.int 0) (.var 1), .bin .Mult (.int 2) (.var 1), .bin .Sub (.var 1) (.int 2), .cmp .Eq (.var 1) (.int 1), .blt "str" [.var 1]]) (.var 2))] [],
  .ret (.call "_law_odd" [.var 0])]⟩
def d_law_bent : Dfn := ⟨"_law_bent", c_law_bent, top 33⟩
def c_law_spoilt : Fn := ⟨["spring", "thing"], ["spring", "thing", "branch"], [
  .asg (.name 2) (.call "_law_draw" [.var 0, .int 12]),
  .ife (.cmp .Lt (.var 2) (.int 7)) [.ret (.var 1)] [],
  .ret (.ite (.cmp .Lt (.var 2) (.int 11)) (.call "_law_bent" [.var 0, .var 1]) (.call "_law_odd" [.var 0]))]⟩
def d_law_spoilt : Dfn := ⟨"_law_spoilt", c_law_spoilt, top 34⟩
def c_law_by_position : Fn := ⟨["thing"], ["thing", "found"], [
  .asg (.name 1) (.lst none [.mkx "InvalidPoint" "given" [.var 0], .mkx "InvalidSegment" "given" [.var 0], .mkx "InvalidFigure" "given" [.var 0], .mkx "InvalidScene" "given" [.var 0], .mkx "InvalidCell" "given" [.var 0]]),
  .asg (.name 1) (.bin .Add (.var 1) (.lst none [.mkx "InvalidName" "given" [.var 0], .mkx "InvalidIndex" "given" [.var 0], .mkx "InvalidMap" "given" [.var 0], .mkx "InvalidDart" "given" [.var 0]])),
  .asg (.name 1) (.bin .Add (.var 1) (.lst none [.mkx "InvalidSpecial" "given" [.var 0], .mkx "InvalidFace" "given" [.var 0], .mkx "InvalidPart" "given" [.var 0], .mkx "InvalidStep" "given" [.var 0]])),
  .asg (.name 1) (.bin .Add (.var 1) (.lst none [.mkx "InvalidSide" "given" [.var 0], .mkx "InvalidCode" "given" [.var 0], .mkx "InvalidPick" "given" [.var 0], .mkx "InvalidDeed" "given" [.var 0], .mkx "InvalidBook" "given" [.var 0]])),
  .asg (.name 1) (.bin .Add (.var 1) (.lst none [.mkx "InvalidWindow" "given" [.var 0], .mkx "TooMany" "given" [.var 0], .mkx "InvalidSegments" "index" [.var 0], .mkx "InvalidPoints" "index" [.var 0]])),
  .ret (.bin .Add (.var 1) (.lst none [.mkx "InvalidLines" "index" [.var 0], .mkx "BadText" "spot" [.var 0], .mkx "NothingToUndo" "" [], .mkx "NothingToRedo" "" [], .mkx "BendError" "" []]))]⟩
def d_law_by_position : Dfn := ⟨"_law_by_position", c_law_by_position, top 35⟩
def c_law_by_name : Fn := ⟨["thing"], ["thing", "found"], [
  .asg (.name 1) (.lst none [.mkx "InvalidPoint" "given" [.var 0], .mkx "InvalidSegment" "given" [.var 0], .mkx "InvalidFigure" "given" [.var 0]]),
  .asg (.name 1) (.bin .Add (.var 1) (.lst none [.mkx "InvalidScene" "given" [.var 0], .mkx "InvalidCell" "given" [.var 0], .mkx "InvalidName" "given" [.var 0]])),
  .asg (.name 1) (.bin .Add (.var 1) (.lst none [.mkx "InvalidIndex" "given" [.var 0], .mkx "InvalidMap" "given" [.var 0], .mkx "InvalidDart" "given" [.var 0]])),
  .asg (.name 1) (.bin .Add (.var 1) (.lst none [.mkx "InvalidSpecial" "given" [.var 0], .mkx "InvalidFace" "given" [.var 0], .mkx "InvalidPart" "given" [.var 0]])),
  .asg (.name 1) (.bin .Add (.var 1) (.lst none [.mkx "InvalidStep" "given" [.var 0], .mkx "InvalidSide" "given" [.var 0], .mkx "InvalidCode" "given" [.var 0]])),
  .asg (.name 1) (.bin .Add (.var 1) (.lst none [.mkx "InvalidPick" "given" [.var 0], .mkx "InvalidDeed" "given" [.var 0], .mkx "InvalidBook" "given" [.var 0]])),
  .asg (.name 1) (.bin .Add (.var 1) (.lst none [.mkx "InvalidWindow" "given" [.var 0], .mkx "TooMany" "given" [.var 0], .mkx "InvalidSegments" "index" [.var 0]])),
  .asg (.name 1) (.bin .Add (.var 1) (.lst none [.mkx "InvalidPoints" "index" [.var 0], .mkx "InvalidLines" "index" [.var 0], .mkx "BadText" "spot" [.var 0]])),
  .ret (.bin .Add (.var 1) (.lst none [.mkx "NothingToUndo" "" [], .mkx "NothingToRedo" "" [], .mkx "BendError" "" []]))]⟩
def d_law_by_name : Dfn := ⟨"_law_by_name", c_law_by_name, top 36⟩
def c_law_under : Fn := ⟨["error"], ["error", "found"], [
  .asg (.name 1) (.lst none [.isx (.var 0) "InvalidPoint" ["InvalidPoint"] xcls, .isx (.var 0) "InvalidSegment" ["InvalidSegment"] xcls, .isx (.var 0) "InvalidFigure" ["InvalidFigure"] xcls]),
  .asg (.name 1) (.bin .Add (.var 1) (.lst none [.isx (.var 0) "InvalidScene" ["InvalidScene"] xcls, .isx (.var 0) "InvalidCell" ["InvalidCell"] xcls, .isx (.var 0) "InvalidName" ["InvalidName"] xcls])),
  .asg (.name 1) (.bin .Add (.var 1) (.lst none [.isx (.var 0) "InvalidIndex" ["InvalidIndex"] xcls, .isx (.var 0) "InvalidMap" ["InvalidMap"] xcls, .isx (.var 0) "InvalidDart" ["InvalidDart"] xcls])),
  .asg (.name 1) (.bin .Add (.var 1) (.lst none [.isx (.var 0) "InvalidSpecial" ["InvalidSpecial"] xcls, .isx (.var 0) "InvalidFace" ["InvalidFace"] xcls, .isx (.var 0) "InvalidPart" ["InvalidPart"] xcls])),
  .asg (.name 1) (.bin .Add (.var 1) (.lst none [.isx (.var 0) "InvalidStep" ["InvalidStep"] xcls, .isx (.var 0) "InvalidSide" ["InvalidSide"] xcls, .isx (.var 0) "InvalidCode" ["InvalidCode"] xcls])),
  .asg (.name 1) (.bin .Add (.var 1) (.lst none [.isx (.var 0) "InvalidPick" ["InvalidPick"] xcls, .isx (.var 0) "InvalidDeed" ["InvalidDeed"] xcls, .isx (.var 0) "InvalidBook" ["InvalidBook"] xcls])),
  .asg (.name 1) (.bin .Add (.var 1) (.lst none [.isx (.var 0) "InvalidWindow" ["InvalidWindow"] xcls, .isx (.var 0) "TooMany" ["TooMany"] xcls, .isx (.var 0) "InvalidSegments" ["InvalidSegments"] xcls])),
  .asg (.name 1) (.bin .Add (.var 1) (.lst none [.isx (.var 0) "InvalidPoints" ["InvalidPoints"] xcls, .isx (.var 0) "InvalidLines" ["InvalidLines"] xcls, .isx (.var 0) "BadText" ["BadText"] xcls])),
  .asg (.name 1) (.bin .Add (.var 1) (.lst none [.isx (.var 0) "NothingToUndo" ["NothingToUndo"] xcls, .isx (.var 0) "NothingToRedo" ["NothingToRedo"] xcls, .isx (.var 0) "BendError" xall xcls])),
  .asg (.name 1) (.bin .Add (.var 1) (.lst none [.isx (.var 0) "ValueError" xall xcls, .isx (.var 0) "Exception" xall xcls, .isx (.var 0) "LookupError" [] xcls])),
  .asg (.name 1) (.bin .Add (.var 1) (.lst none [.isx (.var 0) "TypeError" [] xcls, .isx (.var 0) "ArithmeticError" [] xcls, .isx (.var 0) "RuntimeError" [] xcls])),
  .ret (.bin .Add (.var 1) (.lst none [.isx (.var 0) "AttributeError" [] xcls]))]⟩
def d_law_under : Dfn := ⟨"_law_under", c_law_under, top 37⟩
def c_law_is_made : Fn := ⟨["at", "thing", "error"], ["at", "thing", "error", "each"], [
  .ife (.cmp .NotEq (.blt "repr" [.call "_law_under" [.var 2]]) (.blt "repr" [.lc (.or (.cmp .Eq (.var 3) (.var 0)) (.cmp2 .Lt .Lt (.int 25) (.var 3) (.int 29))) (.name 3) (.rng1 (.int 34)) [] [3]])) [.ret (.bl false)] [],
  .ife (.cmp .Lt (.var 0) (.int 20)) [.ret (.cmp .Eq (.blt "repr" [.fld (.var 2) "given" xcls]) (.blt "repr" [.var 1]))] [],
  .ife (.cmp .Lt (.var 0) (.int 23)) [.ret (.cmp .Eq (.blt "repr" [.fld (.var 2) "index" xcls]) (.blt "repr" [.var 1]))] [],
  .ret (.or (.cmp .Gt (.var 0) (.int 23)) (.cmp .Eq (.blt "repr" [.fld (.var 2) "spot" xcls]) (.blt "repr" [.var 1])))]⟩
def d_law_is_made : Dfn := ⟨"_law_is_made", c_law_is_made, top 38⟩
def c_law_right : Fn := ⟨["spring"], ["spring", "at", "error", "first", "second", "by_position", "by_name"], [
  .asg (.name 3) (.call "_law_spoilt" [.var 0, .tup [.call "_law_odd" [.var 0], .call "_law_odd" [.var 0]]]),
  .asg (.name 4) (.call "_law_spoilt" [.var 0, .tup [.var 3, .call "_law_draw" [.var 0, .int 1000]]]),
  .par 5 6 (.call "_law_by_position" [.var 3]) (.call "_law_by_name" [.var 4]),
  .ife (.or (.cmp .NotEq (.blt "len" [.var 5]) (.int 27)) (.cmp .NotEq (.blt "len" [.var 6]) (.int 27))) [.ret (.bl false)] [],
  .ife (.not (.blt "all" [.lc (.call "_law_is_made" [.var 1, .var 3, .var 2]) (.tup [(.name 1), (.name 2)]) (.enm (.var 5)) [] [1, 2]])) [.ret (.bl false)] [],
  .ret (.blt "all" [.lc (.call "_law_is_made" [.var 1, .var 4, .var 2]) (.tup [(.name 1), (.name 2)]) (.enm (.var 6)) [] [1, 2]])]⟩
def d_law_right : Dfn := ⟨"_law_right", c_law_right, top 39⟩
def c_p_law : Fn := ⟨["script"], ["script", "turn"], [
  .ret (.blt "all" [.lc (.call "_law_right" [.call "_law_spring" [.var 0, .var 1]]) (.name 1) (.rng1 (.blt "max" [.int 2, .blt "min" [.blt "len" [.var 0], .int 3]])) [] [1]])]⟩
def d_p_law : Dfn := ⟨"law", c_p_law, top 40⟩
def defs : List Dfn := [d_law_spring, d_law_draw, d_law_one_of, d_law_odd, d_law_bent, d_law_spoilt, d_law_by_position, d_law_by_name, d_law_under, d_law_is_made, d_law_right, d_p_law]
def tb : List (Str × D) := []
def mk : Mk := ⟨["int", "len", "abs", "divmod", "isinstance", "tuple", "list", "str", "repr", "range", "all", "enumerate", "max", "min"],
  [],
  ["_law_draw", "_law_one_of", "_law_bent", "_law_odd", "_law_under", "_law_spoilt", "_law_by_position", "_law_by_name", "_law_is_made", "_law_right", "_law_spring"],
  [],
  [],
  [],
  [⟨"BendError", none, top 1⟩, ⟨"InvalidPoint", some "given", top 2⟩, ⟨"InvalidSegment", some "given", top 3⟩, ⟨"InvalidFigure", some "given", top 4⟩, ⟨"InvalidScene", some "given", top 5⟩, ⟨"InvalidCell", some "given", top 6⟩, ⟨"InvalidName", some "given", top 7⟩, ⟨"InvalidIndex", some "given", top 8⟩, ⟨"TooMany", some "given", top 9⟩, ⟨"InvalidSegments", some "index", top 10⟩, ⟨"InvalidPoints", some "index", top 11⟩, ⟨"BadText", some "spot", top 12⟩, ⟨"InvalidPick", some "given", top 13⟩, ⟨"InvalidDeed", some "given", top 14⟩, ⟨"InvalidBook", some "given", top 15⟩, ⟨"InvalidWindow", some "given", top 16⟩, ⟨"InvalidLines", some "index", top 17⟩, ⟨"NothingToUndo", none, top 18⟩, ⟨"NothingToRedo", none, top 19⟩, ⟨"InvalidMap", some "given", top 20⟩, ⟨"InvalidDart", some "given", top 21⟩, ⟨"InvalidSpecial", some "given", top 22⟩, ⟨"InvalidFace", some "given", top 23⟩, ⟨"InvalidPart", some "given", top 24⟩, ⟨"InvalidStep", some "given", top 25⟩, ⟨"InvalidSide", some "given", top 26⟩, ⟨"InvalidCode", some "given", top 27⟩],
  [(("InvalidPoint" : Str), (["InvalidPoint"] : List Str)), (("InvalidSegment" : Str), (["InvalidSegment"] : List Str)), (("InvalidFigure" : Str), (["InvalidFigure"] : List Str)), (("InvalidScene" : Str), (["InvalidScene"] : List Str)), (("InvalidCell" : Str), (["InvalidCell"] : List Str)), (("InvalidName" : Str), (["InvalidName"] : List Str)), (("InvalidIndex" : Str), (["InvalidIndex"] : List Str)), (("InvalidMap" : Str), (["InvalidMap"] : List Str)), (("InvalidDart" : Str), (["InvalidDart"] : List Str)), (("InvalidSpecial" : Str), (["InvalidSpecial"] : List Str)), (("InvalidFace" : Str), (["InvalidFace"] : List Str)), (("InvalidPart" : Str), (["InvalidPart"] : List Str)), (("InvalidStep" : Str), (["InvalidStep"] : List Str)), (("InvalidSide" : Str), (["InvalidSide"] : List Str)), (("InvalidCode" : Str), (["InvalidCode"] : List Str)), (("InvalidPick" : Str), (["InvalidPick"] : List Str)), (("InvalidDeed" : Str), (["InvalidDeed"] : List Str)), (("InvalidBook" : Str), (["InvalidBook"] : List Str)), (("InvalidWindow" : Str), (["InvalidWindow"] : List Str)), (("TooMany" : Str), (["TooMany"] : List Str)), (("InvalidSegments" : Str), (["InvalidSegments"] : List Str)), (("InvalidPoints" : Str), (["InvalidPoints"] : List Str)), (("InvalidLines" : Str), (["InvalidLines"] : List Str)), (("BadText" : Str), (["BadText"] : List Str)), (("NothingToUndo" : Str), (["NothingToUndo"] : List Str)), (("NothingToRedo" : Str), (["NothingToRedo"] : List Str)), (("BendError" : Str), (xall : List Str)), (("ValueError" : Str), (xall : List Str)), (("Exception" : Str), (xall : List Str)), (("LookupError" : Str), ([] : List Str)), (("TypeError" : Str), ([] : List Str)), (("ArithmeticError" : Str), ([] : List Str)), (("RuntimeError" : Str), ([] : List Str)), (("AttributeError" : Str), ([] : List Str))]⟩
theorem ck_law_spring : ckD mk d_law_spring = true := by decide +kernel
theorem ck_law_draw : ckD mk d_law_draw = true := by decide +kernel
theorem ck_law_one_of : ckD mk d_law_one_of = true := by decide +kernel
theorem ck_law_odd : ckD mk d_law_odd = true := by decide +kernel
theorem ck_law_bent : ckD mk d_law_bent = true := by decide +kernel
theorem ck_law_spoilt : ckD mk d_law_spoilt = true := by decide +kernel
theorem ck_law_by_position : ckD mk d_law_by_position = true := by decide +kernel
theorem ck_law_by_name : ckD mk d_law_by_name = true := by decide +kernel
theorem ck_law_under : ckD mk d_law_under = true := by decide +kernel
theorem ck_law_is_made : ckD mk d_law_is_made = true := by decide +kernel
theorem ck_law_right : ckD mk d_law_right = true := by decide +kernel
theorem ck_p_law : ckD mk d_p_law = true := by decide +kernel
theorem ck : ∀ d ∈ defs, ckD mk d = true := by
  simp only [defs, List.forall_mem_cons]
  exact ⟨ck_law_spring, ck_law_draw, ck_law_one_of, ck_law_odd, ck_law_bent, ck_law_spoilt, ck_law_by_position, ck_law_by_name, ck_law_under, ck_law_is_made, ck_law_right, ck_p_law, fun _ h => nomatch h⟩
theorem bn_law_spring : d_law_spring.Bn := fun _ _ _ _ _ _ us hl => match us, hl with | [_, _], _ => rfl
theorem bn_law_draw : d_law_draw.Bn := fun _ _ _ _ _ _ us hl => match us, hl with | [_, _], _ => rfl
theorem bn_law_one_of : d_law_one_of.Bn := fun _ _ _ _ _ _ us hl => match us, hl with | [_, _], _ => rfl
theorem bn_law_odd : d_law_odd.Bn := fun _ _ _ _ _ _ us hl => match us, hl with | [_], _ => rfl
theorem bn_law_bent : d_law_bent.Bn := fun _ _ _ _ _ _ us hl => match us, hl with | [_, _], _ => rfl
theorem bn_law_spoilt : d_law_spoilt.Bn := fun _ _ _ _ _ _ us hl => match us, hl with | [_, _], _ => rfl
theorem bn_law_by_position : d_law_by_position.Bn := fun _ _ _ _ _ _ us hl => match us, hl with | [_], _ => rfl
theorem bn_law_by_name : d_law_by_name.Bn := fun _ _ _ _ _ _ us hl => match us, hl with | [_], _ => rfl
theorem bn_law_under : d_law_under.Bn := fun _ _ _ _ _ _ us hl => match us, hl with | [_], _ => rfl
theorem bn_law_is_made : d_law_is_made.Bn := fun _ _ _ _ _ _ us hl => match us, hl with | [_, _, _], _ => rfl
theorem bn_law_right : d_law_right.Bn := fun _ _ _ _ _ _ us hl => match us, hl with | [_], _ => rfl
theorem bn_p_law : d_p_law.Bn := fun _ _ _ _ _ _ us hl => match us, hl with | [_], _ => rfl
theorem bn : ∀ d ∈ defs, d.Bn := by
  simp only [defs, List.forall_mem_cons]
  exact ⟨bn_law_spring, bn_law_draw, bn_law_one_of, bn_law_odd, bn_law_bent, bn_law_spoilt, bn_law_by_position, bn_law_by_name, bn_law_under, bn_law_is_made, bn_law_right, bn_p_law, fun _ h => nomatch h⟩
theorem nd : (defs.map Dfn.nm).Nodup := by decide +kernel
theorem bk : ∀ p ∈ mk.kwl, ∀ d ∈ defs, d.nm = p.1 → d.BnK p.2.1 p.2.2 := by
  intro p hp; cases hp
theorem xi : mk.xs.all Xcl.ok = true := by decide +kernel
theorem xb_1 : (⟨"InvalidPoint", some "given", top 2⟩ : Xcl).Bn "given" := fun _ _ _ _ _ _ _ _ => ⟨rfl, rfl⟩
theorem xb_2 : (⟨"InvalidSegment", some "given", top 3⟩ : Xcl).Bn "given" := fun _ _ _ _ _ _ _ _ => ⟨rfl, rfl⟩
theorem xb_3 : (⟨"InvalidFigure", some "given", top 4⟩ : Xcl).Bn "given" := fun _ _ _ _ _ _ _ _ => ⟨rfl, rfl⟩
theorem xb_4 : (⟨"InvalidScene", some "given", top 5⟩ : Xcl).Bn "given" := fun _ _ _ _ _ _ _ _ => ⟨rfl, rfl⟩
theorem xb_5 : (⟨"InvalidCell", some "given", top 6⟩ : Xcl).Bn "given" := fun _ _ _ _ _ _ _ _ => ⟨rfl, rfl⟩
theorem xb_6 : (⟨"InvalidName", some "given", top 7⟩ : Xcl).Bn "given" := fun _ _ _ _ _ _ _ _ => ⟨rfl, rfl⟩
theorem xb_7 : (⟨"InvalidIndex", some "given", top 8⟩ : Xcl).Bn "given" := fun _ _ _ _ _ _ _ _ => ⟨rfl, rfl⟩
theorem xb_8 : (⟨"TooMany", some "given", top 9⟩ : Xcl).Bn "given" := fun _ _ _ _ _ _ _ _ => ⟨rfl, rfl⟩
theorem xb_9 : (⟨"InvalidSegments", some "index", top 10⟩ : Xcl).Bn "index" := fun _ _ _ _ _ _ _ _ => ⟨rfl, rfl⟩
theorem xb_10 : (⟨"InvalidPoints", some "index", top 11⟩ : Xcl).Bn "index" := fun _ _ _ _ _ _ _ _ => ⟨rfl, rfl⟩
theorem xb_11 : (⟨"BadText", some "spot", top 12⟩ : Xcl).Bn "spot" := fun _ _ _ _ _ _ _ _ => ⟨rfl, rfl⟩
theorem xb_12 : (⟨"InvalidPick", some "given", top 13⟩ : Xcl).Bn "given" := fun _ _ _ _ _ _ _ _ => ⟨rfl, rfl⟩
theorem xb_13 : (⟨"InvalidDeed", some "given", top 14⟩ : Xcl).Bn "given" := fun _ _ _ _ _ _ _ _ => ⟨rfl, rfl⟩
theorem xb_14 : (⟨"InvalidBook", some "given", top 15⟩ : Xcl).Bn "given" := fun _ _ _ _ _ _ _ _ => ⟨rfl, rfl⟩
theorem xb_15 : (⟨"InvalidWindow", some "given", top 16⟩ : Xcl).Bn "given" := fun _ _ _ _ _ _ _ _ => ⟨rfl, rfl⟩
theorem xb_16 : (⟨"InvalidLines", some "index", top 17⟩ : Xcl).Bn "index" := fun _ _ _ _ _ _ _ _ => ⟨rfl, rfl⟩
theorem xb_19 : (⟨"InvalidMap", some "given", top 20⟩ : Xcl).Bn "given" := fun _ _ _ _ _ _ _ _ => ⟨rfl, rfl⟩
theorem xb_20 : (⟨"InvalidDart", some "given", top 21⟩ : Xcl).Bn "given" := fun _ _ _ _ _ _ _ _ => ⟨rfl, rfl⟩
theorem xb_21 : (⟨"InvalidSpecial", some "given", top 22⟩ : Xcl).Bn "given" := fun _ _ _ _ _ _ _ _ => ⟨rfl, rfl⟩
theorem xb_22 : (⟨"InvalidFace", some "given", top 23⟩ : Xcl).Bn "given" := fun _ _ _ _ _ _ _ _ => ⟨rfl, rfl⟩
theorem xb_23 : (⟨"InvalidPart", some "given", top 24⟩ : Xcl).Bn "given" := fun _ _ _ _ _ _ _ _ => ⟨rfl, rfl⟩
theorem xb_24 : (⟨"InvalidStep", some "given", top 25⟩ : Xcl).Bn "given" := fun _ _ _ _ _ _ _ _ => ⟨rfl, rfl⟩
theorem xb_25 : (⟨"InvalidSide", some "given", top 26⟩ : Xcl).Bn "given" := fun _ _ _ _ _ _ _ _ => ⟨rfl, rfl⟩
theorem xb_26 : (⟨"InvalidCode", some "given", top 27⟩ : Xcl).Bn "given" := fun _ _ _ _ _ _ _ _ => ⟨rfl, rfl⟩
theorem xbn : ∀ x ∈ mk.xs, ∀ f, x.fo = some f → x.Bn f := by
  intro x hx f e
  simp only [mk, List.mem_cons, List.not_mem_nil, or_false] at hx
  rcases hx with rfl | rfl | rfl | rfl | rfl | rfl | rfl | rfl | rfl | rfl | rfl | rfl | rfl | rfl | rfl | rfl | rfl | rfl | rfl | rfl | rfl | rfl | rfl | rfl | rfl | rfl | rfl
  · cases e
  · cases e; exact xb_1
  · cases e; exact xb_2
  · cases e; exact xb_3
  · cases e; exact xb_4
  · cases e; exact xb_5
  · cases e; exact xb_6
  · cases e; exact xb_7
  · cases e; exact xb_8
  · cases e; exact xb_9
  · cases e; exact xb_10
  · cases e; exact xb_11
  · cases e; exact xb_12
  · cases e; exact xb_13
  · cases e; exact xb_14
  · cases e; exact xb_15
  · cases e; exact xb_16
  · cases e
  · cases e
  · cases e; exact xb_19
  · cases e; exact xb_20
  · cases e; exact xb_21
  · cases e; exact xb_22
  · cases e; exact xb_23
  · cases e; exact xb_24
  · cases e; exact xb_25
  · cases e; exact xb_26
end K01

set_option maxHeartbeats 1000000
namespace Dn
open PySem PySem.Spec PyProof.Rows L2
/-! ### how deep a value is -/
mutual
def htD : D → Nat
  | .tup xs => htDs xs + 1
  | .lst xs => htDs xs + 1
  | .scr xs => htDs xs + 1
  | .dic _ xs => htDs xs + 1
  | _ => 0
def htDs : List D → Nat
  | [] => 0
  | d :: ds => max (htD d) (htDs ds)
end
theorem hts_le {h : Nat} : ∀ {xs : List D}, (∀ x ∈ xs, htD x ≤ h) → htDs xs ≤ h
  | [], _ => by simp only [htDs]; omega
  | x :: xs, q => by
    have h1 := q x (List.mem_cons_self ..)
    have h2 := hts_le fun y hy => q y (List.mem_cons_of_mem _ hy)
    simp only [htDs]
    omega
theorem le_hts {h : Nat} : ∀ {xs : List D}, htDs xs ≤ h → ∀ x ∈ xs, htD x ≤ h
  | [], _, x, hx => by cases hx
  | y :: xs, q, x, hx => by
    simp only [htDs] at q
    rcases List.mem_cons.mp hx with rfl | hx
    · omega
    · exact le_hts (by omega) x hx
theorem ht_tup {h : Nat} {xs : List D} (q : ∀ x ∈ xs, htD x ≤ h) : htD (.tup xs) ≤ h + 1 := by
  have := hts_le q
  simp only [htD]
  omega
theorem ht_lst {h : Nat} {xs : List D} (q : ∀ x ∈ xs, htD x ≤ h) : htD (.lst xs) ≤ h + 1 := by
  have := hts_le q
  simp only [htD]
  omega
theorem of_ht {h : Nat} {xs : List D} (q : htD (.tup xs) ≤ h + 1) : ∀ x ∈ xs, htD x ≤ h := by
  simp only [htD] at q
  exact le_hts (by omega)
theorem cut_mem' {xs : List D} {lo hi : Option Int} {x : D} (h : x ∈ Dn.cutD xs lo hi) : x ∈ xs := List.mem_of_mem_drop (List.mem_of_mem_take h)
theorem cut_len {xs : List D} {lo hi : Option Int} : (Dn.cutD xs lo hi).length ≤ xs.length := by
  unfold Dn.cutD
  rw [List.length_take, List.length_drop]
  omega
/-! ### values that repr can show: how long that is at most -/
mutual
def goodD (m : Nat) : D → Bool
  | .non => true
  | .bl _ => true
  | .int i => decide (i.natAbs < 2 ^ m)
  | .str x => decide ((reprText x).length ≤ 20000)
  | .tup xs => goodDs m xs
  | .lst xs => goodDs m xs
  | .dic ks xs => (match ks, xs with
    | [], [] => true
    | [.inr x], [.int i] => decide (x = ("A" : Str)) && decide (i = 1)
    | _, _ => false)
  | _ => false
def goodDs (m : Nat) : List D → Bool
  | [] => true
  | d :: ds => goodD m d && goodDs m ds
end
mutual
def wt : D → Nat
  | .int _ => 1921
  | .str x => (reprText x).length
  | .tup xs => 3 + wts xs
  | .lst xs => 2 + wts xs
  | .dic _ _ => 10
  | _ => 5
def wts : List D → Nat
  | [] => 0
  | d :: ds => wt d + 2 + wts ds
end
theorem goods_all {m : Nat} : ∀ {ds : List D}, goodDs m ds = true ↔ ∀ d ∈ ds, goodD m d = true
  | [] => by simp only [goodDs, List.not_mem_nil, false_implies, implies_true]
  | d :: ds => by simp only [goodDs, Bool.and_eq_true, goods_all (ds := ds), List.forall_mem_cons]
mutual
theorem good_mono {m m' : Nat} (hm : m ≤ m') : ∀ {d : D}, goodD m d = true → goodD m' d = true
  | .non, h => by simp only [goodD]
  | .bl _, h => by simp only [goodD]
  | .int i, h => by
    simp only [goodD, decide_eq_true_eq] at h ⊢
    exact Nat.lt_of_lt_of_le h (Nat.pow_le_pow_right (by omega) hm)
  | .str x, h => by simpa only [goodD] using h
  | .tup xs, h => by simp only [goodD] at h ⊢; exact goods_mono hm h
  | .lst xs, h => by simp only [goodD] at h ⊢; exact goods_mono hm h
  | .dic ks xs, h => by simpa only [goodD] using h
  | .scr _, h => by simp only [goodD] at h; cases h
  | .ref _, h => by simp only [goodD] at h; cases h
  | .exc _ _ _, h => by simp only [goodD] at h; cases h
theorem goods_mono {m m' : Nat} (hm : m ≤ m') : ∀ {ds : List D}, goodDs m ds = true → goodDs m' ds = true
  | [], h => by simp only [goodDs]
  | d :: ds, h => by
    simp only [goodDs, Bool.and_eq_true] at h ⊢
    exact ⟨good_mono hm h.1, goods_mono hm h.2⟩
end
theorem good_dic {m : Nat} {ks : List Key} {xs : List D} (h : goodD m (.dic ks xs) = true) : (ks = [] ∧ xs = []) ∨ (ks = [.inr "A"] ∧ xs = [.int 1]) := by
  simp only [goodD] at h
  split at h
  · exact .inl ⟨rfl, rfl⟩
  · simp only [Bool.and_eq_true, decide_eq_true_eq] at h
    obtain ⟨rfl, rfl⟩ := h
    exact .inr ⟨rfl, rfl⟩
  · cases h
mutual
theorem good_plain {m : Nat} : ∀ {d : D}, goodD m d = true → plainD d = true
  | .non, h => by simp only [plainD]
  | .bl _, h => by simp only [plainD]
  | .int i, h => by simp only [plainD]
  | .str x, h => by simp only [plainD]
  | .tup xs, h => by simp only [goodD] at h; simp only [plainD]; exact goods_plain h
  | .lst xs, h => by simp only [goodD] at h; simp only [plainD]; exact goods_plain h
  | .dic ks xs, h => by
    rcases good_dic h with ⟨rfl, rfl⟩ | ⟨rfl, rfl⟩ <;> simp only [plainD, plainDs, Bool.and_true]
  | .scr _, h => by simp only [goodD] at h; cases h
  | .ref _, h => by simp only [goodD] at h; cases h
  | .exc _ _ _, h => by simp only [goodD] at h; cases h
theorem goods_plain {m : Nat} : ∀ {ds : List D}, goodDs m ds = true → plainDs ds = true
  | [], h => by simp only [plainDs]
  | d :: ds, h => by
    simp only [goodDs, Bool.and_eq_true] at h
    simp only [plainDs, good_plain h.1, goods_plain h.2, Bool.and_self]
end
theorem dic_rp {m : Nat} {ks : List Key} {xs : List D} (h : goodD m (.dic ks xs) = true) : ∃ p, rp (.dic ks xs) = some p ∧ p.showable = true ∧ p.depth ≤ 1 ∧ p.shown.length ≤ 10 := by
  rcases good_dic h with ⟨rfl, rfl⟩ | ⟨rfl, rfl⟩
  · exact ⟨.dict [], by simp only [rp, rps, Option.map_some, List.map_nil, List.zip_nil_left], by decide +kernel, by decide +kernel, by decide +kernel⟩
  · refine ⟨.dict [(.str "A", .int 1)], ?_, by decide +kernel, by decide +kernel, by decide +kernel⟩
    simp only [rp, rps, Option.bind_some, Option.map_some, List.map_cons, List.map_nil, kP, List.zip_cons_cons, List.zip_nil_left]
mutual
theorem good_rp {m : Nat} (hm : m ≤ 1900) (hm0 : 0 < m) : ∀ {d : D}, goodD m d = true → ∃ p, rp d = some p ∧ p.showable = true ∧ p.depth ≤ htD d ∧ p.shown.length ≤ wt d
  | .non, h => ⟨.none, by simp only [rp], by simp only [PyData.showable], by simp only [PyData.depth]; omega, by simp only [PyData.shown, wt]; decide +kernel⟩
  | .bl b, h => ⟨.bool b, by simp only [rp], by simp only [PyData.showable], by simp only [PyData.depth]; omega, by simp only [PyData.shown, wt]; cases b <;> decide +kernel⟩
  | .int i, h => by
    simp only [goodD, decide_eq_true_eq] at h
    have l := log_lt h hm0
    have := shw_int (i := i) (by omega)
    exact ⟨.int i, by simp only [rp], this.s, by simp only [PyData.depth]; omega, by simp only [wt]; exact this.l⟩
  | .str x, h => ⟨.str x, by simp only [rp], by simp only [PyData.showable], by simp only [PyData.depth]; omega, by simp only [PyData.shown, wt]; exact Nat.le_refl _⟩
  | .tup xs, h => by
    simp only [goodD] at h
    obtain ⟨ps, e, h1, h2, h3⟩ := goods_rp hm hm0 h
    refine ⟨.tuple ps, by simp only [rp, e, Option.map_some], by simp only [PyData.showable]; exact h1, by simp only [PyData.depth, htD]; omega, ?_⟩
    simp only [PyData.shown, wt]
    have := tupleText_le (PyData.shownAll ps)
    omega
  | .lst xs, h => by
    simp only [goodD] at h
    obtain ⟨ps, e, h1, h2, h3⟩ := goods_rp hm hm0 h
    refine ⟨.list ps, by simp only [rp, e, Option.map_some], by simp only [PyData.showable]; exact h1, by simp only [PyData.depth, htD]; omega, ?_⟩
    simp only [PyData.shown, wt]
    have := listText_le (PyData.shownAll ps)
    omega
  | .dic ks xs, h => by
    obtain ⟨p, e, h1, h2, h3⟩ := dic_rp h
    exact ⟨p, e, h1, by simp only [htD]; omega, by simp only [wt]; exact h3⟩
  | .scr _, h => by simp only [goodD] at h; cases h
  | .ref _, h => by simp only [goodD] at h; cases h
  | .exc _ _ _, h => by simp only [goodD] at h; cases h
theorem goods_rp {m : Nat} (hm : m ≤ 1900) (hm0 : 0 < m) : ∀ {ds : List D}, goodDs m ds = true → ∃ ps, rps ds = some ps ∧ PyData.showableAll ps = true ∧ PyData.depthAll ps ≤ htDs ds ∧ piled (PyData.shownAll ps) ≤ wts ds
  | [], h => ⟨[], by simp only [rps], by simp only [PyData.showableAll], by simp only [PyData.depthAll]; omega, by simp only [PyData.shownAll, piled_nil]; omega⟩
  | d :: ds, h => by
    simp only [goodDs, Bool.and_eq_true] at h
    obtain ⟨p, e1, a1, a2, a3⟩ := good_rp hm hm0 h.1
    obtain ⟨ps, e2, b1, b2, b3⟩ := goods_rp hm hm0 h.2
    refine ⟨p :: ps, by simp only [rps, e1, e2, Option.bind_some, Option.map_some], by simp only [PyData.showableAll, a1, b1, Bool.and_self], by simp only [PyData.depthAll, htDs]; omega, ?_⟩
    simp only [PyData.shownAll, wts]
    rw [piled_cons]
    omega
end
theorem wts_app : ∀ {xs ys : List D}, wts (xs ++ ys) = wts xs + wts ys
  | [], ys => by simp only [wts, List.nil_append]; omega
  | x :: xs, ys => by simp only [wts, List.cons_append, wts_app (xs := xs)]; omega
theorem wts_rev : ∀ {xs : List D}, wts xs.reverse = wts xs
  | [] => rfl
  | x :: xs => by
    rw [List.reverse_cons, wts_app, wts_rev (xs := xs)]
    simp only [wts]
    omega
theorem wts_take : ∀ {xs : List D} {n : Nat}, wts (xs.take n) ≤ wts xs
  | [], n => by simp only [List.take_nil]; omega
  | x :: xs, 0 => by simp only [List.take_zero, wts]; omega
  | x :: xs, n + 1 => by
    have := wts_take (xs := xs) (n := n)
    simp only [List.take_succ_cons, wts]
    omega
theorem wts_drop : ∀ {xs : List D} {n : Nat}, wts (xs.drop n) ≤ wts xs
  | [], n => by simp only [List.drop_nil]; omega
  | x :: xs, 0 => by simp only [List.drop_zero]; omega
  | x :: xs, n + 1 => by
    have := wts_drop (xs := xs) (n := n)
    simp only [List.drop_succ_cons, wts]
    omega
theorem wts_cut {xs : List D} {lo hi : Option Int} : wts (Dn.cutD xs lo hi) ≤ wts xs := by
  unfold Dn.cutD
  exact Nat.le_trans wts_take wts_drop
theorem wts_len : ∀ {xs : List D}, xs.length ≤ wts xs
  | [] => by simp
  | x :: xs => by
    have := wts_len (xs := xs)
    simp only [wts, List.length_cons]
    omega
theorem wt_mem : ∀ {xs : List D} {x : D}, x ∈ xs → wt x ≤ wts xs
  | y :: xs, x, h => by
    simp only [wts]
    rcases List.mem_cons.mp h with rfl | h
    · omega
    · have := wt_mem h; omega
structure Gd (m h w : Nat) (d : D) : Prop where
  g : goodD m d = true
  h : htD d ≤ h
  w : wt d ≤ w
theorem Gd.mono {m h w m' h' w' : Nat} {d : D} (x : Gd m h w d) (a : m ≤ m') (b : h ≤ h') (c : w ≤ w') : Gd m' h' w' d := ⟨good_mono a x.g, Nat.le_trans x.h b, Nat.le_trans x.w c⟩
theorem Gd.plain {m h w : Nat} {d : D} (x : Gd m h w d) : plainD d = true := good_plain x.g
theorem gd_tup {m h w : Nat} {xs : List D} (q : ∀ x ∈ xs, goodD m x = true ∧ htD x ≤ h) (hw : 3 + wts xs ≤ w) : Gd m (h + 1) w (.tup xs) :=
  ⟨by simp only [goodD]; exact goods_all.mpr fun x hx => (q x hx).1, ht_tup fun x hx => (q x hx).2, by simp only [wt]; exact hw⟩
theorem gd_lst {m h w : Nat} {xs : List D} (q : ∀ x ∈ xs, goodD m x = true ∧ htD x ≤ h) (hw : 2 + wts xs ≤ w) : Gd m (h + 1) w (.lst xs) :=
  ⟨by simp only [goodD]; exact goods_all.mpr fun x hx => (q x hx).1, ht_lst fun x hx => (q x hx).2, by simp only [wt]; exact hw⟩
theorem gd_int {m h w : Nat} {i : Int} (a : i.natAbs < 2 ^ m) (b : 1921 ≤ w) : Gd m h w (.int i) := ⟨by simp only [goodD, decide_eq_true_eq]; exact a, by simp only [htD]; omega, by simp only [wt]; exact b⟩
theorem gd_bl {m h w : Nat} {b : Bool} (c : 5 ≤ w) : Gd m h w (.bl b) := ⟨by simp only [goodD], by simp only [htD]; omega, by simp only [wt]; exact c⟩
theorem gd_str {m h w : Nat} {x : Str} (a : (reprText x).length ≤ 20000) (b : 20000 ≤ w) : Gd m h w (.str x) := ⟨by simp only [goodD, decide_eq_true_eq]; exact a, by simp only [htD]; omega, by simp only [wt]; omega⟩
/-- the text of a whole number, shown -/
theorem int_shown {i : Int} (h : i.natAbs.log2 < 1900) : (reprText (toString i : String)).length ≤ 20000 := by
  have l := int_text_len_1921 (i := i) (by omega)
  have q := PySem.StrLaws.reprText_len (toString i : String) fun c hc => by
    rw [PyProof.Rows.signs_ofString] at hc
    obtain ⟨ch, _, rfl⟩ := List.mem_map.mp hc
    have : ch.val.toNat < 4294967296 := ch.val.toNat_lt
    exact this
  omega
theorem repr_gd {m h w : Nat} {d : D} (g : Gd m h w d) (hm : m ≤ 1900) (hm0 : 0 < m) (hh : h ≤ 64) (hw : w ≤ 16777216) (hr : ∀ S : Sto, dr S d = d) : ∃ s, ∀ S, bltD S "repr" [d] = some (.str s) := by
  obtain ⟨p, e, h1, h2, h3⟩ := good_rp hm hm0 g.g
  exact ⟨p.shown, fun S => repr_rp (by rw [hr]; exact e) h1 (Nat.le_trans h2 (Nat.le_trans g.h hh)) (Nat.le_trans h3 (Nat.le_trans g.w hw))⟩
theorem good_dr {m : Nat} {d : D} (h : goodD m d = true) (S : Sto) : dr S d = d := by
  cases d <;> first | rfl | (simp only [goodD] at h; cases h)
end Dn

set_option maxHeartbeats 1000000
namespace K01
open PySem PySem.Spec PyProof.Rows L2 Dn
abbrev PT : List (Str × Fn) := tabOf defs
theorem lk {d : Dfn} (h : d ∈ defs) : PT.lookup d.nm = some d.fc := tab_get nd h
variable {n k j : Nat} {S : Sto}
theorem l_draw : PT.lookup ("_law_draw" : Str) = some Geo.g_draw := lk (d := d_law_draw) (by simp only [defs, List.mem_cons, true_or, or_true])
theorem l_one_of : PT.lookup ("_law_one_of" : Str) = some Geo.g_one_of := lk (d := d_law_one_of) (by simp only [defs, List.mem_cons, true_or, or_true])
theorem l_odd : PT.lookup ("_law_odd" : Str) = some c_law_odd := lk (d := d_law_odd) (by simp only [defs, List.mem_cons, true_or, or_true])
theorem l_bent : PT.lookup ("_law_bent" : Str) = some c_law_bent := lk (d := d_law_bent) (by simp only [defs, List.mem_cons, true_or, or_true])
theorem l_spoilt : PT.lookup ("_law_spoilt" : Str) = some c_law_spoilt := lk (d := d_law_spoilt) (by simp only [defs, List.mem_cons, true_or, or_true])
theorem draw1 {a b c m : Int} (hS : S[k]? = some (.lst true [.int a, .int b, .int c])) (ha : 0 < a) (hm : 0 < m) (hm2 : m < 1073741824) :
    callN tb PT (n + 1) "_law_draw" [.ref k, .int m] S = some (.int (a % m), S.set k (.lst true [.int (a / m), .int b, .int c])) := by
  have hk : k < S.length := (List.getElem?_eq_some_iff.mp hS).1
  have hset : ∀ v, (S.set k v)[k]? = some v := fun v => List.getElem?_set_self hk
  clear hk
  rw [q_of l_draw rfl]
  simp only [Geo.g_draw]
  simp [startD, MO.xs, gc_same, ixD, items, cmpD, atI, bltD, setD, ixN, hS, hset, ha, hm, hm2]
theorem draw2 {a b c m : Int} (hS : S[k]? = some (.lst true [.int a, .int b, .int c])) (ha : ¬ 0 < a) (hm : 0 < m) (hb : 0 ≤ b ∧ b < 2147483648) (hc : 0 ≤ c ∧ c < 1000000000000) :
    ∃ b', 0 ≤ b' ∧ b' < 2147483648 ∧ callN tb PT (n + 1) "_law_draw" [.ref k, .int m] S = some (.int (b' / 769 % m), S.set k (.lst true [.int a, .int b', .int (c + 1)])) := by
  have hk : k < S.length := (List.getElem?_eq_some_iff.mp hS).1
  have m1 : mulOk 70003 (c + 1) = true := mul_ok (nat_lt (by omega) (by omega)) (nat_lt (by omega) (by omega))
  have m2 : mulOk 29 (c + 1) = true := mul_ok (nat_lt (by omega) (by omega)) (nat_lt (by omega) (by omega))
  generalize hs : (b + 70003 * (c + 1)) % 2147483629 = s
  have m3 : mulOk s (s % 6007 + 50021) = true := mul_ok (nat_lt (by omega) (by omega)) (nat_lt (by omega) (by omega))
  have d1 : divOk 769 = true := div_ok (by omega) (by omega)
  refine ⟨(s * (s % 6007 + 50021) + 29 * (c + 1)) % 2147483629, by omega, by omega, ?_⟩
  have hset : ∀ v, (S.set k v)[k]? = some v := fun v => List.getElem?_set_self hk
  clear hk
  rw [q_of l_draw rfl]
  simp only [Geo.g_draw]
  simp [startD, MO.xs, gc_same, ixD, items, cmpD, atI, bltD, setD, ixN, binD, dr, hS, hset, ha, hm, hs, m1, m2, m3, d1]
theorem draw {m : Int} (h : Sp k j S) (hj : j < 100000000) (hm : 0 < m) (hm2 : m < 1073741824) :
    ∃ r S', callN tb PT (n + 1) "_law_draw" [.ref k, .int m] S = some (.int r, S') ∧ 0 ≤ r ∧ r < m ∧ Sp k (j + 1) S' ∧ Same k S S' := by
  obtain ⟨a, b, c, e, h1, h2, h3, h4⟩ := h
  have hk : k < S.length := (List.getElem?_eq_some_iff.mp e).1
  by_cases ha : 0 < a
  · exact ⟨_, _, draw1 e ha hm hm2, Int.emod_nonneg _ (by omega), Int.emod_lt_of_pos _ hm, ⟨_, _, _, List.getElem?_set_self hk, h1, h2, h3, by omega⟩, Same.set⟩
  · obtain ⟨b', g1, g2, e'⟩ := draw2 (n := n) e ha hm ⟨h1, h2⟩ ⟨h3, by omega⟩
    exact ⟨_, _, e', Int.emod_nonneg _ (by omega), Int.emod_lt_of_pos _ hm, ⟨_, _, _, List.getElem?_set_self hk, g1, g2, by omega, by omega⟩, Same.set⟩
theorem one_of_l {xs : List D} (h : Sp k j S) (hj : j < 100000000) (hx : 0 < xs.length) (hx2 : xs.length < 1073741824) :
    ∃ d ∈ xs, ∃ S', callN tb PT (n + 2) "_law_one_of" [.ref k, .lst xs] S = some (d, S') ∧ Sp k (j + 1) S' ∧ Same k S S' := by
  obtain ⟨r, S1, e, h0, h1, w1, s1⟩ := draw (n := n) h hj (m := xs.length) (by omega) (by omega)
  obtain ⟨d, hd, ed⟩ := Geo.at_in h0 h1
  refine ⟨d, hd, S1, ?_, w1, s1⟩
  rw [q_of l_one_of rfl]
  simp only [Geo.g_one_of]
  simp [startD, bltD, items, e, ixD, ed, gc_same, s1.1]
def odds : List D := [.non, .bl true, .bl false, .int 0, .int 1, .int (-1), .int 10000000000000000000000000, .str "", .str "A", .str "E", .str "a", .str "spot", .str "vertex", .str "face", .tup [], .tup [.int 0], .tup [.int 0, .int 1], .tup [.int 1, .int 1], .tup [.int 2, .int 2], .tup [.int 0, .int 3], .tup [.int 0, .int 0], .tup [.int 1, .int 0], .tup [.int 3, .int (-2)], .tup [.bl true, .int 1], .tup [.int 0, .bl true], .tup [.str "0", .int 1], .tup [.non, .int 1], .tup [.tup [.int 0, .int 1], .tup [.int 0, .int 1]], .tup [.tup [.int 1, .int 1], .tup [.int 0, .int 1]], .tup [.tup [.int (-3), .int 2], .tup [.int 5, .int 7]], .tup [.tup [.tup [.int 0, .int 1], .tup [.int 0, .int 1]], .tup [.tup [.int 1, .int 1], .tup [.int 0, .int 1]]], .tup [.tup [.tup [.int (-3), .int 2], .tup [.int 5, .int 7]], .tup [.tup [.int 0, .int 1], .tup [.int 0, .int 1]]], .tup [.tup [.tup [.int 0, .int 1], .tup [.int 0, .int 1]], .tup [.tup [.int 0, .int 1], .tup [.int 0, .int 1]]], .tup [.tup [.tup [.int 0, .int 1], .tup [.int 0, .int 1]], .tup [.tup [.int 1, .int 1], .tup [.int 0, .int 1]], .tup [.tup [.int (-3), .int 2], .tup [.int 5, .int 7]]], .tup [.tup [.tup [.int 1, .int 1], .tup [.int 0, .int 1]], .tup [.tup [.int (-3), .int 2], .tup [.int 5, .int 7]], .tup [.tup [.int 1, .int 1], .tup [.int 0, .int 1]]], .tup [.tup [.int 0, .int 1]], .tup [.tup [.int 0, .int 1], .tup [.int 0, .int 2]], .tup [.tup [.int 0, .int 1], .tup [.int 1, .int 1], .tup [.int 0, .int 1]], .tup [.lst [.int 0, .int 1], .tup [.int 0, .int 1]], .lst [], .lst [.int 0, .int 1], .lst [.tup [.int 0, .int 1], .tup [.int 0, .int 1]], .dic [] [], .dic [.inr "A"] [.int 1], .tup [.str "vertex", .int 0], .tup [.str "edge", .int 0], .tup [.str "face", .int 0], .tup [.str "face", .int 1], .tup [.str "face", .bl true], .tup [.str "vertex", .int (-1)], .tup [.str "cell", .int 0], .lst [.str "face", .int 0], .tup [.str "spot", .tup [.tup [.int 0, .int 1], .tup [.int 0, .int 1]]], .tup [.str "spot", .tup [.tup [.tup [.int 0, .int 1], .tup [.int 0, .int 1]]]], .tup [.str "spot", .tup [.tup [.int 0, .int 1], .tup [.int 0, .int 1]], .tup [.tup [.int 1, .int 1], .tup [.int 0, .int 1]]], .tup [.str "path", .tup [.tup [.tup [.int 0, .int 1], .tup [.int 0, .int 1]], .tup [.tup [.int 1, .int 1], .tup [.int 0, .int 1]]]], .tup [.str "path", .tup [.tup [.tup [.int 0, .int 1], .tup [.int 0, .int 1]], .tup [.tup [.int 0, .int 1], .tup [.int 0, .int 1]]]], .tup [.str "path", .tup [.tup [.tup [.int 0, .int 1], .tup [.int 0, .int 1]]]], .tup [.str "path", .tup []], .tup [.str "area", .tup [.tup [.tup [.int 0, .int 1], .tup [.int 0, .int 1]], .tup [.tup [.int 1, .int 1], .tup [.int 0, .int 1]], .tup [.tup [.int (-3), .int 2], .tup [.int 5, .int 7]]]], .tup [.str "area", .tup [.tup [.tup [.int 0, .int 1], .tup [.int 0, .int 1]], .tup [.tup [.int 1, .int 1], .tup [.int 0, .int 1]], .tup [.tup [.int 0, .int 1], .tup [.int 0, .int 1]]]], .tup [.str "area", .tup [.tup [.tup [.int 0, .int 1], .tup [.int 0, .int 1]], .tup [.tup [.int 1, .int 1], .tup [.int 0, .int 1]]]], .tup [.str "area", .lst [.tup [.tup [.int 0, .int 1], .tup [.int 0, .int 1]], .tup [.tup [.int 1, .int 1], .tup [.int 0, .int 1]], .tup [.tup [.int (-3), .int 2], .tup [.int 5, .int 7]]]], .tup [.str "rim", .tup [.str "spot", .tup [.tup [.int 0, .int 1], .tup [.int 0, .int 1]]]], .tup [.str "rim"], .tup [.str "both", .tup [.str "spot", .tup [.tup [.int 0, .int 1], .tup [.int 0, .int 1]]], .tup [.str "spot", .tup [.tup [.int 1, .int 1], .tup [.int 0, .int 1]]]], .tup [.str "both", .tup [.str "spot", .tup [.tup [.int 0, .int 1], .tup [.int 0, .int 1]]]], .tup [.str "not", .tup [.str "spot", .tup [.tup [.int 0, .int 1], .tup [.int 0, .int 1]]]], .tup [.str "closure", .str "A"], .tup [.str "inner", .tup [.str "spot", .tup [.tup [.int 1, .int 1], .tup [.int 0, .int 1]]], .tup [.str "spot", .tup [.tup [.int 1, .int 1], .tup [.int 0, .int 1]]]], .tup [.tup [.str "A", .tup [.str "spot", .tup [.tup [.int 0, .int 1], .tup [.int 0, .int 1]]]]], .tup [.tup [.str "B", .tup [.str "spot", .tup [.tup [.int 0, .int 1], .tup [.int 0, .int 1]]]], .tup [.str "A", .tup [.str "spot", .tup [.tup [.int 0, .int 1], .tup [.int 0, .int 1]]]]], .tup [.tup [.str "a", .tup [.str "spot", .tup [.tup [.int 0, .int 1], .tup [.int 0, .int 1]]]]], .tup [.tup [.str "A", .tup [.tup [.int 0, .int 1], .tup [.int 0, .int 1]]]], .tup [.tup [.str "A", .tup [.str "spot", .tup [.tup [.int 0, .int 1], .tup [.int 0, .int 1]]]], .tup [.str "A", .tup [.str "spot", .tup [.tup [.int 1, .int 1], .tup [.int 0, .int 1]]]]], .tup [.tup [.tup [.tup [.int 0, .int 1], .tup [.int 0, .int 1]], .tup [.tup [.int 1, .int 1], .tup [.int 0, .int 1]]], .tup [.tup [.tup [.int 1, .int 1], .tup [.int 0, .int 1]], .tup [.tup [.int 0, .int 1], .tup [.int 0, .int 1]]]], .tup [.tup [.tup [.tup [.int 0, .int 1], .tup [.int 0, .int 1]], .tup [.tup [.int 0, .int 1], .tup [.int 0, .int 1]]]]]
theorem odds_gd : ∀ d ∈ odds, Gd 90 6 40000 d := by
  have h : odds.all (fun d => goodD 90 d && decide (htD d ≤ 6) && decide (wt d ≤ 40000)) = true := by decide +kernel
  intro d hd
  have := List.all_eq_true.mp h d hd
  simp only [Bool.and_eq_true, decide_eq_true_eq] at this
  exact ⟨this.1.1, this.1.2, this.2⟩
theorem odd (w : Sp k j S) (hj : j + 1 < 100000000) : ∃ d S', callN tb PT (n + 3) "_law_odd" [.ref k] S = some (d, S') ∧ Gd 90 6 40000 d ∧ Sp k (j + 1) S' ∧ Same k S S' := by
  obtain ⟨d, hd, S1, e, w1, s1⟩ := one_of_l (n := n) w (by omega) (xs := odds) (by decide) (by decide)
  refine ⟨d, S1, ?_, odds_gd d hd, w1, s1⟩
  rw [q_of l_odd rfl]
  simp only [c_law_odd]
  simp only [odds] at e
  simp [startD, binD, dr, e, gc_same, s1.1]
end K01

set_option maxHeartbeats 1000000
namespace K01
open PySem PySem.Spec PyProof.Rows L2 Dn
variable {n k j : Nat} {S : Sto}
theorem eq_bl {S : Sto} {b : Bool} : cmpD S .Eq (.bl b) (.int 1) = some b := by
  cases b <;> simp [cmpD, dr, eqD, flatD, scal, vD, eqP, pd, SeqAt.shaped, PyData.canLay0, PyData.depth, PyData.eqv]
theorem pow_le {m : Nat} (hm : 90 ≤ m) : 2 ^ m ≥ 1024 := Nat.le_trans (by decide) (Nat.pow_le_pow_right (by omega) (show 10 ≤ m by omega))
theorem int_gds {m : Nat} {i : Int} (hm : 90 ≤ m) (hm2 : m ≤ 1800) (hi : i.natAbs < 2 ^ m) : ∀ d ∈ ([.int (i + 1), .int (0 - i), .int (2 * i), .int (i - 2), .bl (decide (i = 1)), .str (toString i : String)] : List D), Gd (m + 1) 6 40000 d := by
  have h1 := pow_le hm
  have h2 : 2 ^ (m + 1) = 2 * 2 ^ m := by rw [Nat.pow_succ]; omega
  have lg : i.natAbs.log2 < 1900 := by have := log_lt hi (by omega); omega
  generalize hP : 2 ^ m = P at *
  intro d hd
  simp only [List.mem_cons, List.not_mem_nil, or_false] at hd
  rcases hd with rfl | rfl | rfl | rfl | rfl | rfl
  · exact gd_int (by rw [h2]; omega) (by omega)
  · exact gd_int (by rw [h2]; omega) (by omega)
  · exact gd_int (by rw [h2]; omega) (by omega)
  · exact gd_int (by rw [h2]; omega) (by omega)
  · exact gd_bl (by omega)
  · exact gd_str (int_shown lg) (by omega)
theorem bl_gds {m : Nat} {b : Bool} (hm : 90 ≤ m) : ∀ d ∈ ([.int (bI b + 1), .int (0 - bI b), .int (2 * bI b), .int (bI b - 2), .bl b, .str (if b = true then "True" else "False" : String)] : List D), Gd (m + 1) 6 40000 d := by
  have h1 := pow_le (m := m + 1) (by omega)
  have hb : 0 ≤ bI b ∧ bI b ≤ 1 := by cases b <;> simp [bI]
  intro d hd
  simp only [List.mem_cons, List.not_mem_nil, or_false] at hd
  rcases hd with rfl | rfl | rfl | rfl | rfl | rfl
  · exact gd_int (by omega) (by omega)
  · exact gd_int (by omega) (by omega)
  · exact gd_int (by omega) (by omega)
  · exact gd_int (by omega) (by omega)
  · exact gd_bl (by omega)
  · refine gd_str ?_ (by omega)
    cases b <;> decide +kernel
/-- bent at what is no tuple, no number -/
theorem bent_odd {d : D} (ht : kitB (tyD d) "tuple" = some false) (hi : kitB (tyD d) "int" = some false) (w : Sp k j S) (hj : j + 2 < 100000000) : ∃ d' S', callN tb PT (n + 4) "_law_bent" [.ref k, d] S = some (d', S') ∧ Gd 90 6 40000 d' ∧ Sp k (j + 2) S' ∧ Same k S S' := by
  obtain ⟨b, S1, e1, b0, b1, w1, s1⟩ := draw (n := n + 2) w (by omega) (m := 9) (by omega) (by omega)
  obtain ⟨o, S2, e2, ho, w2, s2⟩ := odd (n := n) w1 (by omega)
  refine ⟨o, S2, ?_, ho, w2.mono (by omega), s1.trans s2⟩
  rw [q_of l_bent rfl]
  simp only [c_law_bent]
  simp [startD, ht, hi, e1, cmpD, e2, gc_same, (s1.trans s2).1]
theorem bent_int {m : Nat} {i : Int} (hm : 90 ≤ m) (hm2 : m ≤ 1800) (hi : i.natAbs < 2 ^ m) (w : Sp k j S) (hj : j + 2 < 100000000) : ∃ d' S', callN tb PT (n + 4) "_law_bent" [.ref k, .int i] S = some (d', S') ∧ Gd (m + 1) 6 40000 d' ∧ Sp k (j + 2) S' ∧ Same k S S' := by
  obtain ⟨b, S1, e1, b0, b1, w1, s1⟩ := draw (n := n + 2) w (by omega) (m := 9) (by omega) (by omega)
  obtain ⟨o, S2, e2, ho, w2, s2⟩ := odd (n := n) w1 (by omega)
  have lg := log_lt hi (by omega)
  have m1 : mulOk 2 i = true := by
    unfold mulOk
    rw [decide_eq_true_eq]
    have : (2 : Int).natAbs.log2 = 1 := by decide
    omega
  have lg2 : i.natAbs.log2 < 1920 := by omega
  by_cases h6 : b < 6
  · obtain ⟨d, hd, ed⟩ := Geo.at_in (xs := [.int (i + 1), .int (0 - i), .int (2 * i), .int (i - 2), .bl (decide (i = 1)), .str (toString i : String)]) (r := b) b0 (by simp; omega)
    refine ⟨d, S1, ?_, int_gds hm hm2 hi d hd, w1.mono (by omega), s1⟩
    rw [q_of l_bent rfl]
    simp only [c_law_bent]
    simp only [Int.zero_sub, show (toString i : String) = i.repr from rfl] at ed
    simp [startD, tyD, e1, cmpD, h6, binD, dr, m1, eqD, flatD, scal, vD, bltD, lg2, ixD, items, ed, gc_same, s1.1]
  · refine ⟨o, S2, ?_, ho.mono (by omega) (by omega) (by omega), w2.mono (by omega), s1.trans s2⟩
    rw [q_of l_bent rfl]
    simp only [c_law_bent]
    simp [startD, tyD, e1, cmpD, h6, e2, gc_same, (s1.trans s2).1]
theorem bent_bl {m : Nat} {t : Bool} (hm : 90 ≤ m) (w : Sp k j S) (hj : j + 2 < 100000000) : ∃ d' S', callN tb PT (n + 4) "_law_bent" [.ref k, .bl t] S = some (d', S') ∧ Gd (m + 1) 6 40000 d' ∧ Sp k (j + 2) S' ∧ Same k S S' := by
  obtain ⟨b, S1, e1, b0, b1, w1, s1⟩ := draw (n := n + 2) w (by omega) (m := 9) (by omega) (by omega)
  obtain ⟨o, S2, e2, ho, w2, s2⟩ := odd (n := n) w1 (by omega)
  by_cases h6 : b < 6
  · obtain ⟨d, hd, ed⟩ := Geo.at_in (xs := [.int (bI t + 1), .int (0 - bI t), .int (2 * bI t), .int (bI t - 2), .bl t, .str (if t = true then "True" else "False" : String)]) (r := b) b0 (by simp; omega)
    refine ⟨d, S1, ?_, bl_gds hm d hd, w1.mono (by omega), s1⟩
    rw [q_of l_bent rfl]
    simp only [c_law_bent]
    have c := fun T => eq_bl (S := T) (b := t)
    have lt6 : ∀ T, cmpD T .Lt (.int b) (.int 6) = some true := fun T => by simp [cmpD, h6]
    have st : ∀ T, bltD T "str" [.bl t] = some (.str (if t = true then "True" else "False" : String)) := fun T => by cases t <;> simp [bltD]
    have o1 : binD .Add (.bl t) (.int 1) = some (.int (bI t + 1)) := rfl
    have o2 : binD .Sub (.int 0) (.bl t) = some (.int (0 - bI t)) := rfl
    have o3 : binD .Mult (.int 2) (.bl t) = some (.int (2 * bI t)) := rfl
    have o4 : binD .Sub (.bl t) (.int 2) = some (.int (bI t - 2)) := rfl
    have dt : ∀ T, dr T (.bl t) = .bl t := fun T => rfl
    have di : ∀ T (i : Int), dr T (.int i) = .int i := fun T i => rfl
    simp [startD, tyD, e1, lt6, c, st, o1, o2, o3, o4, dt, di, ixD, items, gc_same, s1.1]
    generalize bI t = x at *
    have fin : gc S d S1 = some (d, S1) := gc_same (by rw [s1.1]; exact Nat.le_refl _)
    cases t <;> simp_all
  · refine ⟨o, S2, ?_, ho.mono (by omega) (by omega) (by omega), w2.mono (by omega), s1.trans s2⟩
    rw [q_of l_bent rfl]
    simp only [c_law_bent]
    simp [startD, tyD, e1, cmpD, h6, e2, gc_same, (s1.trans s2).1]
end K01

set_option maxHeartbeats 1000000
namespace K01
open PySem PySem.Spec PyProof.Rows L2 Dn
variable {n k j : Nat} {S : Sto}
/-- bent at what cannot be gone into, or is not -/
theorem bent_at {m h w : Nat} {xs : List D} (hm : 90 ≤ m) (hw : w ≤ 1000000) (hx : ∀ x ∈ xs, goodD m x = true ∧ htD x ≤ h) (hs : 3 + wts xs ≤ w) {S1 : Sto} {c : Bool} (ne : eqD (.tup xs) (.tup []) = some (!c)) (e1 : c = true → ∃ r, callN tb PT (n + 4) "_law_draw" [.ref k, .int 5] S = some (.int r, S1) ∧ ¬ 0 < r) (e0 : c = false → S1 = S)
    (w1 : Sp k j S1) (s1 : Same k S S1) (hj : j + 2 < 100000000) : ∃ d' S', callN tb PT (n + 5) "_law_bent" [.ref k, .tup xs] S = some (d', S') ∧ Gd (m + 1) (h + 7) (2 * w + 40000) d' ∧ Sp k (j + 2) S' ∧ Same k S S' := by
  obtain ⟨b, S2, e2, b0, b1, w2, s2⟩ := draw (n := n + 3) w1 (by omega) (m := 9) (by omega) (by omega)
  have hl := wts_len (xs := xs)
  have c1 := cut_len (xs := xs) (lo := some (-1)) (hi := none)
  have c2 := cut_len (xs := xs) (lo := none) (hi := some 1)
  have v1 := wts_cut (xs := xs) (lo := some (-1)) (hi := none)
  have v2 := wts_cut (xs := xs) (lo := none) (hi := some 1)
  have v3 := wts_cut (xs := xs) (lo := none) (hi := some (-1))
  have v4 := wts_cut (xs := xs) (lo := some 1) (hi := none)
  have k1 : xs.length + (Dn.cutD xs (some (-1)) none).length ≤ 16777216 := by omega
  have k2 : (Dn.cutD xs none (some 1)).length + xs.length ≤ 16777216 := by omega
  have sl : ∀ (lo hi : Option Int) (T : Sto), slD T (.tup xs) lo hi = some (.tup (Dn.cutD xs lo hi)) := fun lo hi T => rfl
  have px : ∀ {ys : List D}, (∀ y ∈ ys, y ∈ xs) → wts ys ≤ 2 * wts xs → Gd (m + 1) (h + 7) (2 * w + 40000) (.tup ys) := fun q r => (gd_tup (m := m) (h := h) (w := 2 * w + 40000) (fun y hy => hx y (q y hy)) (by omega)).mono (by omega) (by omega) (by omega)
  by_cases h7 : b < 7
  · obtain ⟨d, hd, ed⟩ := Geo.at_in (xs := [.lst xs, .tup (Dn.cutD xs none (some (-1))), .tup (xs ++ Dn.cutD xs (some (-1)) none), .tup xs.reverse, .tup (Dn.cutD xs (some 1) none), .tup (Dn.cutD xs none (some 1) ++ xs), .tup [.tup xs]]) (r := b) b0 (by simp; omega)
    have ht : Gd (m + 1) (h + 7) (2 * w + 40000) d := by
      simp only [List.mem_cons, List.not_mem_nil, or_false] at hd
      rcases hd with rfl | rfl | rfl | rfl | rfl | rfl | rfl
      · exact (gd_lst (m := m) (h := h) (w := w) hx (by omega)).mono (by omega) (by omega) (by omega)
      · exact px (fun y hy => cut_mem' hy) (by omega)
      · exact px (fun y hy => by rcases List.mem_append.mp hy with z | z; exact z; exact cut_mem' z) (by rw [wts_app]; omega)
      · exact px (fun y hy => List.mem_reverse.mp hy) (by rw [wts_rev]; omega)
      · exact px (fun y hy => cut_mem' hy) (by omega)
      · exact px (fun y hy => by rcases List.mem_append.mp hy with z | z; exact cut_mem' z; exact z) (by rw [wts_app]; omega)
      · have q := gd_tup (m := m) (h := h) (w := w) hx hs
        have g2 : 3 + wts [.tup xs] ≤ 2 * w + 40000 := by
          simp only [wts]
          simp only [wt]
          omega
        exact (gd_tup (m := m) (h := h + 1) (w := 2 * w + 40000) (xs := [.tup xs]) (fun y hy => by rw [List.mem_singleton.mp hy]; exact ⟨q.g, q.h⟩) g2).mono (by omega) (by omega) (by omega)
    refine ⟨d, S2, ?_, ht, w2.mono (by omega), s1.trans s2⟩
    rw [q_of l_bent rfl]
    simp only [c_law_bent]
    cases c with
    | true =>
      obtain ⟨r, e1, hr⟩ := e1 rfl
      simp [startD, tyD, ne, e1, e2, cmpD, hr, h7, bltD, items, sl, dr, partD, isNonC, binD, k1, k2, ixD, ed, gc_same, (s1.trans s2).1]
    | false =>
      have := e0 rfl
      subst this
      simp [startD, tyD, ne, e2, cmpD, h7, bltD, items, sl, dr, partD, isNonC, binD, k1, k2, ixD, ed, gc_same, (s1.trans s2).1]
  · obtain ⟨d, S3, e3, ho, w3, s3⟩ := odd (n := n + 1) w2 (by omega)
    refine ⟨d, S3, ?_, ho.mono (by omega) (by omega) (by omega), w3.mono (by omega), (s1.trans s2).trans s3⟩
    rw [q_of l_bent rfl]
    simp only [c_law_bent]
    cases c with
    | true =>
      obtain ⟨r, e1, hr⟩ := e1 rfl
      simp [startD, tyD, ne, dr, e1, e2, cmpD, hr, h7, e3, gc_same, ((s1.trans s2).trans s3).1]
    | false =>
      have := e0 rfl
      subst this
      simp [startD, tyD, ne, dr, e2, cmpD, h7, e3, gc_same, ((s1.trans s2).trans s3).1]
/-- the rest that is no tuple -/
theorem bent_flat {m : Nat} {d : D} (hm : 90 ≤ m) (hm2 : m ≤ 1800) (hg : goodD m d = true) (nt : ∀ xs, d ≠ .tup xs) (w : Sp k j S) (hj : j + 2 < 100000000) : ∃ d' S', callN tb PT (n + 4) "_law_bent" [.ref k, d] S = some (d', S') ∧ Gd (m + 1) 6 40000 d' ∧ Sp k (j + 2) S' ∧ Same k S S' := by
  have od : ∀ {d : D}, kitB (tyD d) "tuple" = some false → kitB (tyD d) "int" = some false → ∃ d' S', callN tb PT (n + 4) "_law_bent" [.ref k, d] S = some (d', S') ∧ Gd (m + 1) 6 40000 d' ∧ Sp k (j + 2) S' ∧ Same k S S' := fun h1 h2 => by
    obtain ⟨d', S', e, g, w', s'⟩ := bent_odd (n := n) h1 h2 w hj
    exact ⟨d', S', e, g.mono (by omega) (by omega) (by omega), w', s'⟩
  cases d with
  | non => exact od (by simp only [tyD, kit_NoneType_tuple]) (by simp only [tyD, kit_NoneType_int])
  | bl t => exact bent_bl hm w hj
  | int i => exact bent_int hm hm2 (by simpa only [goodD, decide_eq_true_eq] using hg) w hj
  | str x => exact od (by simp only [tyD, kit_str_tuple]) (by simp only [tyD, kit_str_int])
  | lst xs => exact od (by simp only [tyD, kit_list_tuple]) (by simp only [tyD, kit_list_int])
  | dic ks xs => exact od (by simp only [tyD, kit_dict_tuple]) (by simp only [tyD, kit_dict_int])
  | tup xs => exact absurd rfl (nt xs)
  | scr _ => simp only [goodD] at hg; cases hg
  | ref _ => simp only [goodD] at hg; cases hg
  | exc _ _ _ => simp only [goodD] at hg; cases hg
theorem bent_any {m : Nat} (hm : 90 ≤ m) (hm2 : m ≤ 1800) : ∀ (h w : Nat) {d : D} {n j : Nat} {S : Sto}, Gd m h w d → w ≤ 1000000 → Sp k j S → j + 2 * h + 4 < 100000000 → ∃ d' S', callN tb PT (n + h + 4) "_law_bent" [.ref k, d] S = some (d', S') ∧ Gd (m + 1) (h + 6) (2 * w + 40000) d' ∧ Sp k (j + 2 * h + 2) S' ∧ Same k S S' := by
  intro h
  induction h with
  | zero =>
    intro w d n j S g hw wS hj
    obtain ⟨d', S', e, g', w', s'⟩ := bent_flat (n := n) hm hm2 g.g (fun xs z => by
      have := g.h
      rw [z] at this
      simp only [htD] at this
      omega) wS (by omega)
    exact ⟨d', S', e, g'.mono (by omega) (by omega) (by omega), w'.mono (by omega), s'⟩
  | succ h ih =>
    intro w d n j S g hw wS hj
    by_cases nt : ∀ xs, d ≠ .tup xs
    · obtain ⟨d', S', e, g', w', s'⟩ := bent_flat (n := n + h + 1) hm hm2 g.g nt wS (by omega)
      exact ⟨d', S', e, g'.mono (by omega) (by omega) (by omega), w'.mono (by omega), s'⟩
    · have ex : ∃ xs, d = .tup xs := Classical.byContradiction fun z => nt fun xs e => z ⟨xs, e⟩
      obtain ⟨xs, rfl⟩ := ex
      have gg := g.g
      simp only [goodD] at gg
      have hx : ∀ x ∈ xs, goodD m x = true ∧ htD x ≤ h := fun x hx => ⟨goods_all.mp gg x hx, of_ht g.h x hx⟩
      have hs : 3 + wts xs ≤ w := by have := g.w; simpa only [wt] using this
      by_cases h0 : xs = []
      · subst h0
        obtain ⟨d', S', e, g', w1, s1⟩ := bent_at (n := n + h) (h := h) (S1 := S) (c := false) hm hw hx hs (by simp [eqD, flatD]) (fun z => by cases z) (fun _ => rfl) wS Same.refl (by omega)
        exact ⟨d', S', e, g'.mono (by omega) (by omega) (by omega), w1.mono (by omega), s1⟩
      · have ne : eqD (.tup xs) (.tup []) = some false := by
          cases xs with
          | nil => exact absurd rfl h0
          | cons y ys => simp [eqD, flatD]
        obtain ⟨r, S1, e1, r0, r1, w1, s1⟩ := draw (n := n + h + 3) wS (by omega) (m := 5) (by omega) (by omega)
        by_cases hr : 0 < r
        · have lp : 0 < xs.length := List.length_pos_iff.mpr h0
          have hl := wts_len (xs := xs)
          obtain ⟨a, S2, e2, a0, a1, w2, s2⟩ := draw (n := n + h + 3) w1 (by omega) (m := (xs.length : Int)) (by omega) (by omega)
          obtain ⟨i, rfl⟩ := Int.eq_ofNat_of_zero_le a0
          have hi : i < xs.length := by omega
          have ea : atI xs (i : Int) = some xs[i] := at_nat hi
          have hxm : xs[i] ∈ xs := List.getElem_mem hi
          obtain ⟨d, S3, e3, q1, w3, s3⟩ := ih (wt xs[i]) (n := n) ⟨(hx _ hxm).1, (hx _ hxm).2, Nat.le_refl _⟩ (by have := wt_mem hxm; omega) w2 (by omega)
          have e3' : callN tb PT (n + h + 4) "_law_bent" [.ref k, xs[i]] S2 = some (d, S3) := e3
          have sp : xs = xs.take i ++ (xs[i] :: xs.drop (i + 1)) := by rw [← List.drop_eq_getElem_cons hi, List.take_append_drop]
          have wsp : wts xs = wts (xs.take i) + (wt xs[i] + 2 + wts (xs.drop (i + 1))) := by
            conv => lhs; rw [sp]
            rw [wts_app]
            simp only [wts]
          have t1 : Dn.cutD xs none (some (i : Int)) = xs.take i := by
            unfold Dn.cutD
            rw [HT.sIx_none, HT.sIx_nat, List.drop_zero, Nat.sub_zero, Nat.min_eq_left (by omega)]
          have t2 : Dn.cutD xs (some ((i : Int) + 1)) none = xs.drop (i + 1) := by
            unfold Dn.cutD
            rw [show (i : Int) + 1 = ((i + 1 : Nat) : Int) by omega, HT.sIx_none, HT.sIx_nat, Nat.min_eq_left (by omega), List.take_of_length_le (by rw [List.length_drop]; omega)]
          have l1 : (xs.take i).length = i := by rw [List.length_take]; omega
          have l2 : (xs.drop (i + 1)).length = xs.length - (i + 1) := List.length_drop
          have k1 : (Dn.cutD xs none (some (i : Int))).length + 1 ≤ 16777216 := by rw [t1]; omega
          have k2 : (Dn.cutD xs none (some (i : Int))).length + 1 + (Dn.cutD xs (some ((i : Int) + 1)) none).length ≤ 16777216 := by rw [t1, t2]; omega
          have k3 : (Dn.cutD xs none (some (i : Int))).length + ((Dn.cutD xs (some ((i : Int) + 1)) none).length + 1) ≤ 16777216 := by rw [t1, t2]; omega
          have sl : ∀ (lo hi : Option Int) (T : Sto), slD T (.tup xs) lo hi = some (.tup (Dn.cutD xs lo hi)) := fun lo hi T => rfl
          have mem : ∀ y ∈ Dn.cutD xs none (some (i : Int)) ++ ([d] ++ Dn.cutD xs (some ((i : Int) + 1)) none), goodD (m + 1) y = true ∧ htD y ≤ h + 6 := fun y hy => by
            rcases List.mem_append.mp hy with z | z
            · have := hx y (cut_mem' z); exact ⟨good_mono (by omega) this.1, by omega⟩
            · rcases List.mem_append.mp z with z | z
              · rw [List.mem_singleton.mp z]; exact ⟨q1.g, q1.h⟩
              · have := hx y (cut_mem' z); exact ⟨good_mono (by omega) this.1, by omega⟩
          have wb : 3 + wts (Dn.cutD xs none (some (i : Int)) ++ ([d] ++ Dn.cutD xs (some ((i : Int) + 1)) none)) ≤ 2 * w + 40000 := by
            have := q1.w
            rw [t1, t2, wts_app, wts_app]
            simp only [wts]
            omega
          refine ⟨.tup (Dn.cutD xs none (some (i : Int)) ++ ([d] ++ Dn.cutD xs (some ((i : Int) + 1)) none)), S3, ?_, (gd_tup mem wb).mono (by omega) (by omega) (by omega), w3.mono (by omega), (s1.trans s2).trans s3⟩
          show callN tb PT (n + h + 4 + 1) "_law_bent" [.ref k, .tup xs] S = _
          rw [q_of l_bent rfl]
          simp only [c_law_bent]
          generalize xs[i] = x at *
          generalize (i : Int) = a at *
          simp [startD, tyD, ne, e1, cmpD, hr, bltD, items, e2, ixD, ea, e3', sl, dr, partD, isNonC, binD, k1, k2, k3, gc_same, ((s1.trans s2).trans s3).1]
        · obtain ⟨d', S', e, g', w1', s1'⟩ := bent_at (n := n + h) (h := h) (S1 := S1) (c := true) hm hw hx hs ne (fun _ => ⟨r, e1, hr⟩) (fun z => by cases z) w1 s1 (by omega)
          exact ⟨d', S', e, g'.mono (by omega) (by omega) (by omega), w1'.mono (by omega), s1'⟩
theorem spoilt {m h w : Nat} {d : D} (hm : 90 ≤ m) (hm2 : m ≤ 1800) (g : Gd m h w d) (hw : w ≤ 1000000) (wS : Sp k j S) (hj : j + 2 * h + 8 < 100000000) : ∃ d' S', callN tb PT (n + h + 5) "_law_spoilt" [.ref k, d] S = some (d', S') ∧ Gd (m + 1) (h + 6) (2 * w + 40000) d' ∧ Sp k (j + 2 * h + 3) S' ∧ Same k S S' := by
  obtain ⟨b, S1, e1, b0, b1, w1, s1⟩ := draw (n := n + h + 3) wS (by omega) (m := 12) (by omega) (by omega)
  by_cases h7 : b < 7
  · refine ⟨d, S1, ?_, g.mono (by omega) (by omega) (by omega), w1.mono (by omega), s1⟩
    rw [q_of l_spoilt rfl]
    simp only [c_law_spoilt]
    simp [startD, e1, cmpD, h7, gc_same, s1.1]
  · by_cases h11 : b < 11
    · obtain ⟨d', S', e, g', w', s'⟩ := bent_any (n := n) hm hm2 h w g hw w1 (by omega)
      refine ⟨d', S', ?_, g', w'.mono (by omega), s1.trans s'⟩
      rw [q_of l_spoilt rfl]
      simp only [c_law_spoilt]
      simp [startD, e1, cmpD, h7, h11, e, gc_same, (s1.trans s').1]
    · obtain ⟨d', S', e, g', w', s'⟩ := odd (n := n + h + 1) w1 (by omega)
      refine ⟨d', S', ?_, g'.mono (by omega) (by omega) (by omega), w'.mono (by omega), s1.trans s'⟩
      rw [q_of l_spoilt rfl]
      simp only [c_law_spoilt]
      simp [startD, e1, cmpD, h7, h11, e, gc_same, (s1.trans s').1]
end K01

set_option maxHeartbeats 1000000
namespace K01
open PySem PySem.Spec PyProof.Rows L2 Dn
variable {n k j : Nat} {S : Sto}
theorem l_by_position : PT.lookup ("_law_by_position" : Str) = some c_law_by_position := lk (d := d_law_by_position) (by simp only [defs, List.mem_cons, true_or, or_true])
theorem l_by_name : PT.lookup ("_law_by_name" : Str) = some c_law_by_name := lk (d := d_law_by_name) (by simp only [defs, List.mem_cons, true_or, or_true])
theorem l_under : PT.lookup ("_law_under" : Str) = some c_law_under := lk (d := d_law_under) (by simp only [defs, List.mem_cons, true_or, or_true])
theorem l_is_made : PT.lookup ("_law_is_made" : Str) = some c_law_is_made := lk (d := d_law_is_made) (by simp only [defs, List.mem_cons, true_or, or_true])
/-- the errors, one of each class -/
def exL (d : D) : List D := [.exc "InvalidPoint" "given" [d], .exc "InvalidSegment" "given" [d], .exc "InvalidFigure" "given" [d], .exc "InvalidScene" "given" [d], .exc "InvalidCell" "given" [d],
  .exc "InvalidName" "given" [d], .exc "InvalidIndex" "given" [d], .exc "InvalidMap" "given" [d], .exc "InvalidDart" "given" [d], .exc "InvalidSpecial" "given" [d], .exc "InvalidFace" "given" [d],
  .exc "InvalidPart" "given" [d], .exc "InvalidStep" "given" [d], .exc "InvalidSide" "given" [d], .exc "InvalidCode" "given" [d], .exc "InvalidPick" "given" [d], .exc "InvalidDeed" "given" [d],
  .exc "InvalidBook" "given" [d], .exc "InvalidWindow" "given" [d], .exc "TooMany" "given" [d], .exc "InvalidSegments" "index" [d], .exc "InvalidPoints" "index" [d], .exc "InvalidLines" "index" [d],
  .exc "BadText" "spot" [d], .exc "NothingToUndo" "" [], .exc "NothingToRedo" "" [], .exc "BendError" "" []]
theorem by_position {d : D} : callN tb PT (n + 1) "_law_by_position" [d] S = some (.lst (exL d), S) := by
  rw [q_of l_by_position rfl]
  simp only [c_law_by_position]
  simp [startD, binD, dr, gc_same, exL]
theorem by_name {d : D} : callN tb PT (n + 1) "_law_by_name" [d] S = some (.lst (exL d), S) := by
  rw [q_of l_by_name rfl]
  simp only [c_law_by_name]
  simp [startD, binD, dr, gc_same, exL]
/-- whether a class stands among some -/
def has (cs : List Str) (C : Str) : Bool := cs.contains C
def underL (C : Str) : List Bool := [has ["InvalidPoint"] C, has ["InvalidSegment"] C, has ["InvalidFigure"] C, has ["InvalidScene"] C, has ["InvalidCell"] C, has ["InvalidName"] C, has ["InvalidIndex"] C,
  has ["InvalidMap"] C, has ["InvalidDart"] C, has ["InvalidSpecial"] C, has ["InvalidFace"] C, has ["InvalidPart"] C, has ["InvalidStep"] C, has ["InvalidSide"] C, has ["InvalidCode"] C, has ["InvalidPick"] C,
  has ["InvalidDeed"] C, has ["InvalidBook"] C, has ["InvalidWindow"] C, has ["TooMany"] C, has ["InvalidSegments"] C, has ["InvalidPoints"] C, has ["InvalidLines"] C, has ["BadText"] C, has ["NothingToUndo"] C,
  has ["NothingToRedo"] C, has xall C, has xall C, has xall C, has [] C, has [] C, has [] C, has [] C, has [] C]
theorem isx_at {G : GE} {C f : Str} {ds : List D} {T : Str} {cs : List Str} {δ : En} (h : (xcls.lookup C).isSome = true) : evE G (.isx (.var 0) T cs xcls) (some (.exc C f ds) :: δ) S = some (.bl (has cs C), S) := by
  rw [q_isx, q_var, vr_0, mpd_some, bnd_some]
  dsimp only
  rw [if_pos h]
  rfl
theorem under {C f : Str} {ds : List D} (h : (xcls.lookup C).isSome = true) : callN tb PT (n + 1) "_law_under" [.exc C f ds] S = some (.lst ((underL C).map .bl), S) := by
  rw [q_of l_under rfl]
  simp only [c_law_under]
  simp [-q_isx, isx_at h, startD, binD, dr, gc_same, underL]
/-- what is asked of the class of that index -/
def askL (at_ : Nat) : List Bool := (List.range 34).map fun i => decide (i = at_) || (decide (25 < i) && decide (i < 29))
structure Row where
  C : Str
  f : Str
  one : Bool
def rows : List Row := [⟨"InvalidPoint", "given", true⟩, ⟨"InvalidSegment", "given", true⟩, ⟨"InvalidFigure", "given", true⟩, ⟨"InvalidScene", "given", true⟩, ⟨"InvalidCell", "given", true⟩,
  ⟨"InvalidName", "given", true⟩, ⟨"InvalidIndex", "given", true⟩, ⟨"InvalidMap", "given", true⟩, ⟨"InvalidDart", "given", true⟩, ⟨"InvalidSpecial", "given", true⟩, ⟨"InvalidFace", "given", true⟩,
  ⟨"InvalidPart", "given", true⟩, ⟨"InvalidStep", "given", true⟩, ⟨"InvalidSide", "given", true⟩, ⟨"InvalidCode", "given", true⟩, ⟨"InvalidPick", "given", true⟩, ⟨"InvalidDeed", "given", true⟩,
  ⟨"InvalidBook", "given", true⟩, ⟨"InvalidWindow", "given", true⟩, ⟨"TooMany", "given", true⟩, ⟨"InvalidSegments", "index", true⟩, ⟨"InvalidPoints", "index", true⟩, ⟨"InvalidLines", "index", true⟩,
  ⟨"BadText", "spot", true⟩, ⟨"NothingToUndo", "", false⟩, ⟨"NothingToRedo", "", false⟩, ⟨"BendError", "", false⟩]
def Row.d (r : Row) (d : D) : D := .exc r.C r.f (if r.one = true then [d] else [])
theorem exL_rows {d : D} : exL d = rows.map fun r => r.d d := rfl
def rowOk (i : Nat) (r : Row) : Bool := (xcls.lookup r.C).isSome && decide (underL r.C = askL i) &&
  ((decide (i < 20) && decide (r.f = ("given" : Str)) && r.one && decide (xcls.lookup r.C = some (some ("given" : Str)))) ||
   (decide (20 ≤ i) && decide (i < 23) && decide (r.f = ("index" : Str)) && r.one && decide (xcls.lookup r.C = some (some ("index" : Str)))) ||
   (decide (i = 23) && decide (r.f = ("spot" : Str)) && r.one && decide (xcls.lookup r.C = some (some ("spot" : Str)))) || decide (23 < i))
def rowsOk : Nat → List Row → Bool
  | _, [] => true
  | i, r :: rs => rowOk i r && rowsOk (i + 1) rs
theorem rows_ok : rowsOk 0 rows = true := by decide +kernel
theorem rowsOk_get : ∀ {rs : List Row} {m i : Nat} {r : Row}, rowsOk m rs = true → rs[i]? = some r → rowOk (m + i) r = true
  | [], m, i, r, h, e => by simp at e
  | x :: rs, m, 0, r, h, e => by
    simp only [rowsOk, Bool.and_eq_true] at h
    simp at e
    subst e
    exact h.1
  | x :: rs, m, i + 1, r, h, e => by
    simp only [rowsOk, Bool.and_eq_true] at h
    have := rowsOk_get (i := i) (r := r) h.2 (by simpa using e)
    rwa [show m + 1 + i = m + (i + 1) by omega] at this
theorem bls_shown (i : Nat) : ∃ s, ∀ S, bltD S "repr" [.lst ((askL i).map .bl)] = some (.str s) :=
  repr_smls (fun d hd => by
    obtain ⟨b, _, rfl⟩ := List.mem_map.mp hd
    exact .inl ⟨b, rfl⟩) (by unfold askL; simp)
theorem ask_lc {G : GE} {i : Nat} {a b c : Option D} (S : Sto) : evE G (.lc (.or (.cmp .Eq (.var 3) (.var 0)) (.cmp2 .Lt .Lt (.int 25) (.var 3) (.int 29))) (.name 3) (.rng1 (.int 34)) [] [3]) [some (.int (i : Int)), a, b, c] S = some (.lst ((askL i).map .bl), S) := by
  have lp : loopLc ⟨rngD 0 34, none⟩ (lcTurn G (.or (.cmp .Eq (.var 3) (.var 0)) (.cmp2 .Lt .Lt (.int 25) (.var 3) (.int 29))) (.name 3) [] [3] [some (.int (i : Int)), a, b, c]) (rngD 0 34) S = some ((List.range 34).map (fun t => .bl (decide (t = i) || (decide (25 < t) && decide (t < 29)))), S) :=
    loop_map2 (g := fun (t : Nat) => D.int (0 + (t : Int))) (f := fun t => .bl (decide (t = i) || (decide (25 < t) && decide (t < 29)))) ok_none fun t ht => by
      have e1 : (decide ((t : Int) = (i : Int))) = decide (t = i) := by
        by_cases h : t = i
        · simp [h]
        · rw [decide_eq_false h, decide_eq_false (by omega)]
      by_cases h1 : t = i
      · subst h1
        simp [lcTurn, wipeD, cmpD, dr, eqD, flatD, scal, vD]
      · by_cases h2 : (25 : Int) < (t : Int)
        · have h2' : 25 < t := by omega
          by_cases h3 : (t : Int) < 29
          · have h3' : t < 29 := by omega
            simp [lcTurn, wipeD, cmpD, dr, eqD, flatD, scal, vD, e1, h1, h2, h2', h3, h3']
          · have h3' : ¬ t < 29 := by omega
            simp [lcTurn, wipeD, cmpD, dr, eqD, flatD, scal, vD, e1, h1, h2, h2', h3, h3']
        · have h2' : ¬ 25 < t := by omega
          simp [lcTurn, wipeD, cmpD, dr, eqD, flatD, scal, vD, e1, h1, h2, h2']
  rw [q_lc, qw_rng1, q_int, bnd_some]
  dsimp only
  rw [if_pos (by decide), bnd_some]
  dsimp only
  rw [show (34 : Int).toNat = 34 from rfl, lp, bnd_some]
  dsimp only
  rw [if_pos (by simp)]
  unfold askL
  rw [List.map_map]
  rfl
end K01

set_option maxHeartbeats 1000000
namespace K01
open PySem PySem.Spec PyProof.Rows L2 Dn
variable {n k j : Nat} {S : Sto}
abbrev im0 : CS := .ife (.cmp .NotEq (.blt "repr" [.call "_law_under" [.var 2]]) (.blt "repr" [.lc (.or (.cmp .Eq (.var 3) (.var 0)) (.cmp2 .Lt .Lt (.int 25) (.var 3) (.int 29))) (.name 3) (.rng1 (.int 34)) [] [3]])) [.ret (.bl false)] []
abbrev im1 : CS := .ife (.cmp .Lt (.var 0) (.int 20)) [.ret (.cmp .Eq (.blt "repr" [.fld (.var 2) "given" xcls]) (.blt "repr" [.var 1]))] []
abbrev im2 : CS := .ife (.cmp .Lt (.var 0) (.int 23)) [.ret (.cmp .Eq (.blt "repr" [.fld (.var 2) "index" xcls]) (.blt "repr" [.var 1]))] []
abbrev im3 : CS := .ret (.or (.cmp .Gt (.var 0) (.int 23)) (.cmp .Eq (.blt "repr" [.fld (.var 2) "spot" xcls]) (.blt "repr" [.var 1])))
theorem fld_at {G : GE} {C f : Str} {d : D} {a b : Option D} {r : En} (h : xcls.lookup C = some (some f)) : evE G (.fld (.var 2) f xcls) (a :: b :: some (.exc C f [d]) :: r) S = some (d, S) := by
  rw [q_fld, q_var, vr_s, vr_s, vr_0, mpd_some, bnd_some]
  dsimp only
  rw [if_pos ⟨rfl, h⟩]
theorem is_made {i : Nat} {r : Row} {d : D} (h : rowOk i r = true) (hr : ∃ s, ∀ S, bltD S "repr" [d] = some (.str s)) : callN tb PT (n + 2) "_law_is_made" [.int i, d, r.d d] S = some (.bl true, S) := by
  unfold rowOk at h
  simp only [Bool.and_eq_true, Bool.or_eq_true, decide_eq_true_eq] at h
  obtain ⟨⟨hC, hu⟩, h⟩ := h
  obtain ⟨C, f, one⟩ := r
  dsimp only [Row.d] at *
  obtain ⟨s, hs⟩ := hr
  obtain ⟨u, us⟩ := bls_shown i
  have eu := under (n := n) (S := S) (f := f) (ds := if one = true then [d] else []) hC
  rw [hu] at eu
  generalize hX : D.exc C f (if one = true then [d] else []) = X at *
  have sd : startD c_law_is_made.N.length [.int i, d, X] = [some (.int (i : Int)), some d, some X, none] := rfl
  have bd : c_law_is_made.body = [im0, im1, im2, im3] := rfl
  have x0 : exS (geN tb PT (n + 1)) im0 [some (.int (i : Int)), some d, some X, none] S = some (.nx [some (.int (i : Int)), some d, some X, none], S) := by
    have al := ask_lc (G := geN tb PT (n + 1)) (i := i) (a := some d) (b := some X) (c := none) S
    generalize (askL i).map D.bl = L at *
    simp [-q_lc, al, eu, us, Dn.ne_str]
  have fin : ∀ {G : GE} {f : Str} {δ : En}, evE G (.fld (.var 2) f xcls) (some (.int (i : Int)) :: some d :: δ) S = some (d, S) → evE G (.cmp .Eq (.blt "repr" [.fld (.var 2) f xcls]) (.blt "repr" [.var 1])) (some (.int (i : Int)) :: some d :: δ) S = some (.bl true, S) := fun {G f δ} e => by
    simp [-q_fld, e, hs, Dn.eq_str]
  rcases h with ((⟨⟨⟨h1, rfl⟩, rfl⟩, h4⟩ | ⟨⟨⟨⟨h1, h2⟩, rfl⟩, rfl⟩, h4⟩) | ⟨⟨⟨h1, rfl⟩, rfl⟩, h4⟩) | h1
  · rw [if_pos rfl] at hX
    subst hX
    have e := fin (G := geN tb PT (n + 1)) (δ := [some (.exc C "given" [d]), none]) (fld_at h4)
    have x1 : exS (geN tb PT (n + 1)) im1 [some (.int (i : Int)), some d, some (.exc C "given" [d]), none] S = some (.rt (.bl true), S) := by
      have c : cmpD S .Lt (.int (i : Int)) (.int 20) = some true := by simp [cmpD]; omega
      rw [x_if]
      simp only [qt_cmp, q_var, q_int, vr_0, mpd_some, bnd_some, c, ↓reduceIte]
      rw [x_cons, x_ret, e, mpd_some, bnd_some]
    rw [q_of l_is_made rfl, sd, bd, ex_st x0 (ex_rt' x1), bnd_some]
    exact gc_same (Nat.le_refl _)
  · rw [if_pos rfl] at hX
    subst hX
    have e := fin (G := geN tb PT (n + 1)) (δ := [some (.exc C "index" [d]), none]) (fld_at h4)
    have x1 : exS (geN tb PT (n + 1)) im1 [some (.int (i : Int)), some d, some (.exc C "index" [d]), none] S = some (.nx [some (.int (i : Int)), some d, some (.exc C "index" [d]), none], S) := by
      have c : cmpD S .Lt (.int (i : Int)) (.int 20) = some false := by simp [cmpD]; omega
      rw [x_if]
      simp only [qt_cmp, q_var, q_int, vr_0, mpd_some, bnd_some, c, Bool.false_eq_true, ↓reduceIte, x_nil]
    have x2 : exS (geN tb PT (n + 1)) im2 [some (.int (i : Int)), some d, some (.exc C "index" [d]), none] S = some (.rt (.bl true), S) := by
      have c : cmpD S .Lt (.int (i : Int)) (.int 23) = some true := by simp [cmpD]; omega
      rw [x_if]
      simp only [qt_cmp, q_var, q_int, vr_0, mpd_some, bnd_some, c, ↓reduceIte]
      rw [x_cons, x_ret, e, mpd_some, bnd_some]
    rw [q_of l_is_made rfl, sd, bd, ex_st x0 (ex_st x1 (ex_rt' x2)), bnd_some]
    exact gc_same (Nat.le_refl _)
  all_goals
    have x1 : exS (geN tb PT (n + 1)) im1 [some (.int (i : Int)), some d, some X, none] S = some (.nx [some (.int (i : Int)), some d, some X, none], S) := by
      have c : cmpD S .Lt (.int (i : Int)) (.int 20) = some false := by simp [cmpD]; omega
      rw [x_if]
      simp only [qt_cmp, q_var, q_int, vr_0, mpd_some, bnd_some, c, Bool.false_eq_true, ↓reduceIte, x_nil]
    have x2 : exS (geN tb PT (n + 1)) im2 [some (.int (i : Int)), some d, some X, none] S = some (.nx [some (.int (i : Int)), some d, some X, none], S) := by
      have c : cmpD S .Lt (.int (i : Int)) (.int 23) = some false := by simp [cmpD]; omega
      rw [x_if]
      simp only [qt_cmp, q_var, q_int, vr_0, mpd_some, bnd_some, c, Bool.false_eq_true, ↓reduceIte, x_nil]
  · rw [if_pos rfl] at hX
    subst hX
    have e := fin (G := geN tb PT (n + 1)) (δ := [some (.exc C "spot" [d]), none]) (fld_at h4)
    have x3 : exS (geN tb PT (n + 1)) im3 [some (.int (i : Int)), some d, some (.exc C "spot" [d]), none] S = some (.rt (.bl true), S) := by
      have c : cmpD S .Gt (.int (i : Int)) (.int 23) = some false := by simp [cmpD]; omega
      rw [x_ret, q_or, q_cmp, q_var, vr_0, mpd_some, bnd_some, q_int, bnd_some, c, mpd_some, bnd_some]
      dsimp only
      rw [e, mpd_some]
    rw [q_of l_is_made rfl, sd, bd, ex_st x0 (ex_st x1 (ex_st x2 (ex_rt x3))), bnd_some]
    exact gc_same (Nat.le_refl _)
  · have x3 : exS (geN tb PT (n + 1)) im3 [some (.int (i : Int)), some d, some X, none] S = some (.rt (.bl true), S) := by
      have c : cmpD S .Gt (.int (i : Int)) (.int 23) = some true := by simp [cmpD]; omega
      rw [x_ret, q_or, q_cmp, q_var, vr_0, mpd_some, bnd_some, q_int, bnd_some, c, mpd_some, bnd_some]
      dsimp only
      rw [mpd_some]
    rw [q_of l_is_made rfl, sd, bd, ex_st x0 (ex_st x1 (ex_st x2 (ex_rt x3))), bnd_some]
    exact gc_same (Nat.le_refl _)
end K01

set_option maxHeartbeats 1000000
namespace K01
open PySem PySem.Spec PyProof.Rows L2 Dn
variable {n k j : Nat} {S : Sto}
theorem l_right : PT.lookup ("_law_right" : Str) = some c_law_right := lk (d := d_law_right) (by simp only [defs, List.mem_cons, true_or, or_true])
abbrev made (i : Nat) : C := .blt "all" [.lc (.call "_law_is_made" [.var 1, .var i, .var 2]) (.tup [(.name 1), (.name 2)]) (.enm (.var (i + 2))) [] [1, 2]]
theorem bls_const : ∀ {xs : List D}, blsD (xs.map fun _ => D.bl true) = some (xs.map fun _ => true)
  | [] => rfl
  | x :: xs => by simp only [List.map_cons, blsD, bls_const, Option.map_some]
theorem enm_mem : ∀ {xs : List D} {m : Nat} {x : D}, x ∈ enmD m xs → ∃ i e, xs[i]? = some e ∧ x = .tup [.int ((m + i : Nat) : Int), e]
  | [], m, x, h => by simp only [enmD] at h; cases h
  | y :: ys, m, x, h => by
    simp only [enmD] at h
    rcases List.mem_cons.mp h with rfl | h
    · exact ⟨0, y, rfl, rfl⟩
    · obtain ⟨i, e, h1, h2⟩ := enm_mem h
      exact ⟨i + 1, e, by simpa using h1, by rw [h2, show m + 1 + i = m + (i + 1) by omega]⟩
theorem made_rows {d : D} (hr : ∃ s, ∀ S, bltD S "repr" [d] = some (.str s)) {x : D} (hx : x ∈ enmD 0 (exL d)) : ∃ (i : Int) (X : D), x = .tup [.int i, X] ∧ callN tb PT (n + 2) "_law_is_made" [.int i, d, X] S = some (.bl true, S) := by
  obtain ⟨i, e, h1, rfl⟩ := enm_mem hx
  rw [exL_rows, List.getElem?_map] at h1
  cases h2 : rows[i]? with
  | none => rw [h2] at h1; cases h1
  | some r =>
    rw [h2] at h1
    cases h1
    have ok := rowsOk_get rows_ok h2
    rw [Nat.zero_add] at ok ⊢
    exact ⟨_, _, rfl, is_made (n := n) (S := S) ok hr⟩
theorem made3 {d e p q s : D} {a b : Option D} (hr : ∃ s, ∀ S, bltD S "repr" [d] = some (.str s)) :
    loopLc ⟨enmD 0 (exL d), none⟩ (lcTurn (geN tb PT (n + 2)) (.call "_law_is_made" [.var 1, .var 3, .var 2]) (.tup [(.name 1), (.name 2)]) [] [1, 2] [some s, a, b, some d, some e, some p, some q]) (enmD 0 (exL d)) S = some ((enmD 0 (exL d)).map fun _ => .bl true, S) :=
  loop_map ok_none fun x hx => by
    obtain ⟨i, X, rfl, em⟩ := made_rows (n := n) (S := S) hr hx
    simp [lcTurn, wipeD, em]
theorem made4 {d e p q s : D} {a b : Option D} (hr : ∃ s, ∀ S, bltD S "repr" [d] = some (.str s)) :
    loopLc ⟨enmD 0 (exL d), none⟩ (lcTurn (geN tb PT (n + 2)) (.call "_law_is_made" [.var 1, .var 4, .var 2]) (.tup [(.name 1), (.name 2)]) [] [1, 2] [some s, a, b, some e, some d, some p, some q]) (enmD 0 (exL d)) S = some ((enmD 0 (exL d)).map fun _ => .bl true, S) :=
  loop_map ok_none fun x hx => by
    obtain ⟨i, X, rfl, em⟩ := made_rows (n := n) (S := S) hr hx
    simp [lcTurn, wipeD, em]
theorem exL_len {d : D} : (exL d).length = 27 := rfl
abbrev r0 : CS := .asg (.name 3) (.call "_law_spoilt" [.var 0, .tup [.call "_law_odd" [.var 0], .call "_law_odd" [.var 0]]])
abbrev r1 : CS := .asg (.name 4) (.call "_law_spoilt" [.var 0, .tup [.var 3, .call "_law_draw" [.var 0, .int 1000]]])
abbrev r2 : CS := .par 5 6 (.call "_law_by_position" [.var 3]) (.call "_law_by_name" [.var 4])
abbrev r3 : CS := .ife (.or (.cmp .NotEq (.blt "len" [.var 5]) (.int 27)) (.cmp .NotEq (.blt "len" [.var 6]) (.int 27))) [.ret (.bl false)] []
abbrev m3 : C := .blt "all" [.lc (.call "_law_is_made" [.var 1, .var 3, .var 2]) (.tup [(.name 1), (.name 2)]) (.enm (.var 5)) [] [1, 2]]
abbrev m4 : C := .blt "all" [.lc (.call "_law_is_made" [.var 1, .var 4, .var 2]) (.tup [(.name 1), (.name 2)]) (.enm (.var 6)) [] [1, 2]]
abbrev r4 : CS := .ife (.not m3) [.ret (.bl false)] []
abbrev r5 : CS := .ret m4
theorem all_const {xs : List D} {S : Sto} : bltD S "all" [.lst (xs.map fun _ => D.bl true)] = some (.bl true) := by
  simp [bltD, litems, bls_const]
theorem right (w : Sp k j S) (hj : j + 200 < 100000000) : ∃ S', callN tb PT (n + 30) "_law_right" [.ref k] S = some (.bl true, S') ∧ Sp k (j + 200) S' ∧ Same k S S' := by
  obtain ⟨a, S1, e1, g1, w1, s1⟩ := odd (n := n + 26) w (by omega)
  obtain ⟨b, S2, e2, g2, w2, s2⟩ := odd (n := n + 26) w1 (by omega)
  have gt : Gd 90 7 80100 (.tup [a, b]) := gd_tup (fun x hx => by
    simp only [List.mem_cons, List.not_mem_nil, or_false] at hx
    rcases hx with rfl | rfl
    · exact ⟨g1.g, g1.h⟩
    · exact ⟨g2.g, g2.h⟩) (by
    have := g1.w
    have := g2.w
    simp only [wts]
    omega)
  obtain ⟨d, S3, e3, g3, w3, s3⟩ := spoilt (n := n + 17) (by omega) (by omega) gt (by omega) w2 (by omega)
  obtain ⟨c, S4, e4, c0, c1, w4, s4⟩ := draw (n := n + 28) w3 (by omega) (m := 1000) (by omega) (by omega)
  have gt2 : Gd 91 14 202500 (.tup [d, .int c]) := gd_tup (fun x hx => by
    simp only [List.mem_cons, List.not_mem_nil, or_false] at hx
    rcases hx with rfl | rfl
    · exact ⟨g3.g, g3.h⟩
    · refine ⟨?_, by simp only [htD]; omega⟩
      simp only [goodD, decide_eq_true_eq]
      have := pow_le (m := 91) (by omega)
      omega) (by
    have := g3.w
    simp only [wts]
    simp only [wt]
    omega)
  obtain ⟨e, S5, e5, g5, w5, s5⟩ := spoilt (n := n + 10) (by omega) (by omega) gt2 (by omega) w4 (by omega)
  have rd := repr_gd g3 (by omega) (by omega) (by omega) (by omega) (good_dr g3.g)
  have re := repr_gd g5 (by omega) (by omega) (by omega) (by omega) (good_dr g5.g)
  have sAll := (((s1.trans s2).trans s3).trans s4).trans s5
  have b1 := by_position (n := n + 28) (S := S5) (d := d)
  have b2 := by_name (n := n + 28) (S := S5) (d := e)
  have l1 := fun a b s => made3 (n := n + 27) (S := S5) (d := d) (e := e) (p := .lst (exL d)) (q := .lst (exL e)) (s := s) (a := a) (b := b) rd
  have l2 := fun a b s => made4 (n := n + 27) (S := S5) (d := e) (e := d) (p := .lst (exL d)) (q := .lst (exL e)) (s := s) (a := a) (b := b) re
  have n1 : ((enmD 0 (exL d)).map fun _ => D.bl true).length ≤ 16777216 := by rw [List.length_map, enm_len, exL_len]; omega
  have n2 : ((enmD 0 (exL e)).map fun _ => D.bl true).length ≤ 16777216 := by rw [List.length_map, enm_len, exL_len]; omega
  have k1 : bltD S5 "len" [.lst (exL d)] = some (.int 27) := rfl
  have k2 : bltD S5 "len" [.lst (exL e)] = some (.int 27) := rfl
  have sd : startD c_law_right.N.length [.ref k] = [some (.ref k), none, none, none, none, none, none] := rfl
  have bd : c_law_right.body = [r0, r1, r2, r3, r4, r5] := rfl
  generalize exL d = xd at *
  generalize exL e = xe at *
  have x0 : exS (geN tb PT (n + 29)) r0 [some (.ref k), none, none, none, none, none, none] S = some (.nx [some (.ref k), none, none, some d, none, none, none], S3) := by simp [e1, e2, e3]
  have x1 : exS (geN tb PT (n + 29)) r1 [some (.ref k), none, none, some d, none, none, none] S3 = some (.nx [some (.ref k), none, none, some d, some e, none, none], S5) := by simp [e4, e5]
  have x2 : exS (geN tb PT (n + 29)) r2 [some (.ref k), none, none, some d, some e, none, none] S5 = some (.nx [some (.ref k), none, none, some d, some e, some (.lst xd), some (.lst xe)], S5) := by simp [b1, b2]
  have x3 : exS (geN tb PT (n + 29)) r3 [some (.ref k), none, none, some d, some e, some (.lst xd), some (.lst xe)] S5 = some (.nx [some (.ref k), none, none, some d, some e, some (.lst xd), some (.lst xe)], S5) := by
    have c : cmpD S5 .NotEq (.int 27) (.int 27) = some false := by simp [cmpD, dr, eqD, flatD, scal, vD]
    simp [k1, k2, c]
  have q3 : evE (geN tb PT (n + 29)) m3 [some (.ref k), none, none, some d, some e, some (.lst xd), some (.lst xe)] S5 = some (.bl true, S5) := by
    rw [q_blt, q_cons, q_lc, qw_enm, q_var, vr_s, vr_s, vr_s, vr_s, vr_s, vr_0, mpd_some, bnd_some]
    dsimp only
    rw [bnd_some]
    dsimp only
    rw [l1 none none (.ref k), bnd_some]
    dsimp only
    rw [if_pos n1, bnd_some, q_nil, mpd_some, bnd_some]
    dsimp only
    rw [all_const, mpd_some]
  have q4 : evE (geN tb PT (n + 29)) m4 [some (.ref k), none, none, some d, some e, some (.lst xd), some (.lst xe)] S5 = some (.bl true, S5) := by
    rw [q_blt, q_cons, q_lc, qw_enm, q_var, vr_s, vr_s, vr_s, vr_s, vr_s, vr_s, vr_0, mpd_some, bnd_some]
    dsimp only
    rw [bnd_some]
    dsimp only
    rw [l2 none none (.ref k), bnd_some]
    dsimp only
    rw [if_pos n2, bnd_some, q_nil, mpd_some, bnd_some]
    dsimp only
    rw [all_const, mpd_some]
  have t3 : evT (geN tb PT (n + 29)) m3 [some (.ref k), none, none, some d, some e, some (.lst xd), some (.lst xe)] S5 = some (true, S5) := by
    rw [qt_blt]
    rw [q_blt] at q3
    cases ee : evEs (geN tb PT (n + 29)) [.lc (.call "_law_is_made" [.var 1, .var 3, .var 2]) (.tup [(.name 1), (.name 2)]) (.enm (.var 5)) [] [1, 2]] [some (.ref k), none, none, some d, some e, some (.lst xd), some (.lst xe)] S5 with
    | none => rw [ee] at q3; cases q3
    | some p =>
      rw [ee, bnd_some] at q3
      rw [bnd_some]
      cases eb : bltD p.2 "all" p.1 with
      | none => rw [eb] at q3; cases q3
      | some v =>
        rw [eb, mpd_some] at q3
        cases q3
        rw [bnd_some]
        rfl
  have x4 : exS (geN tb PT (n + 29)) r4 [some (.ref k), none, none, some d, some e, some (.lst xd), some (.lst xe)] S5 = some (.nx [some (.ref k), none, none, some d, some e, some (.lst xd), some (.lst xe)], S5) := by
    rw [x_if, qt_not, t3, mpd_some, bnd_some]
    rfl
  have x5 : exS (geN tb PT (n + 29)) r5 [some (.ref k), none, none, some d, some e, some (.lst xd), some (.lst xe)] S5 = some (.rt (.bl true), S5) := by
    rw [x_ret, q4, mpd_some]
  refine ⟨S5, ?_, w5.mono (by omega), sAll⟩
  rw [q_of l_right rfl, sd, bd, ex_st x0 (ex_st x1 (ex_st x2 (ex_st x3 (ex_st x4 (ex_rt x5))))), bnd_some]
  exact gc_same (by rw [sAll.1]; exact Nat.le_refl _)
end K01

set_option maxHeartbeats 1000000
namespace K01
open PySem PySem.Spec PyProof.Rows L2 Dn
variable {n k j : Nat} {S : Sto}
theorem l_spring : PT.lookup ("_law_spring" : Str) = some c_law_spring := lk (d := d_law_spring) (by simp only [defs, List.mem_cons, true_or, or_true])
theorem l_law : PT.lookup ("law" : Str) = some c_p_law := lk (d := d_p_law) (by simp only [defs, List.mem_cons, true_or, or_true])
theorem cut_mem {xs : List D} {lo hi : Option Int} {x : D} (h : x ∈ cutD xs lo hi) : x ∈ xs := List.mem_of_mem_drop (List.mem_of_mem_take h)
theorem spring {ns : List Int} {t : Int} (t0 : 0 ≤ t) (t4 : t < 16) : ∃ S', callN tb PT (n + 1) "_law_spring" [.scr (ns.map .int), .int t] S = some (.ref S.length, S') ∧ S'.length = S.length + 1 ∧ Sp S.length 0 S' := by
  have m0 : mulOk 9241 t = true := mul_ok (nat_lt (by omega) (by omega)) (nat_lt (by omega) (by omega))
  have lp := fun (b0 : Int) (h0 : 0 ≤ b0 ∧ b0 < 2147483648) => Dn.for_all' (w := ⟨cutD (ns.map .int) none (some 9), none⟩) (turn := Dn.forTurn (geN tb PT n) (.name 3) [.asg (.name 2) (.bin .Mod (.blt "int" [.bin .Add (.bin .Add (.bin .Mult (.var 2) (.int 58027)) (.bin .Mod (.blt "int" [.var 3]) (.int 2147483587))) (.int 19)]) (.int 2147483629))])
    (I := fun δ T => T = S ∧ ∃ b q, 0 ≤ b ∧ b < 2147483648 ∧ δ = [some (.scr (ns.map .int)), some (.int t), some (.int b), q, none]) (fun _ _ _ => ok_none) (xs := cutD (ns.map .int) none (some 9)) (δ := [some (.scr (ns.map .int)), some (.int t), some (.int b0), none, none]) (S := S)
    (fun x hx δ T ⟨eS, b, q, b0, b1, eδ⟩ => by
      obtain ⟨i, _, rfl⟩ := List.mem_map.mp (cut_mem hx)
      subst eS eδ
      have m1 : mulOk b 58027 = true := mul_ok (nat_lt b0 (by omega)) (nat_lt (by omega) (by omega))
      refine ⟨[some (.scr (ns.map .int)), some (.int t), some (.int ((b * 58027 + i % 2147483587 + 19) % 2147483629)), some (.int i), none], T, ?_, rfl, _, _, ?_, ?_, rfl⟩
      · simp [Dn.forTurn, bltD, binD, dr, m1]
      all_goals omega) ⟨rfl, b0, none, h0.1, h0.2, rfl⟩
  obtain ⟨δ', S', e, eS, b, q, b0, b1, eδ⟩ := lp (410203 + 9241 * t) ⟨by omega, by omega⟩
  subst eS eδ
  -- own
  have own : ∃ o : Int, evE (geN tb PT n) (.ite (.cmp .Lt (.var 1) (.blt "len" [.var 0])) (.blt "int" [.ix (.var 0) (.var 1)]) (.int 0)) [some (.scr (ns.map .int)), some (.int t), some (.int b), q, none] S' = some (.int o, S') := by
    by_cases h : t < ns.length
    · obtain ⟨i, rfl⟩ := Int.eq_ofNat_of_zero_le t0
      have hi : i < ns.length := by omega
      have ea : atI (ns.map D.int) (i : Int) = some (.int ns[i]) := by rw [at_nat (by simpa using hi)]; simp
      exact ⟨ns[i], by simp [cmpD, bltD, items, hi, ixD, ea]⟩
    · exact ⟨0, by simp [cmpD, bltD, items, h]⟩
  obtain ⟨o, eo⟩ := own
  have m2 : mulOk b 61 = true := mul_ok (nat_lt b0 (by omega)) (nat_lt (by omega) (by omega))
  have m3 : mulOk (o % 2147483587) 30011 = true := mul_ok (nat_lt (by omega) (by omega)) (nat_lt (by omega) (by omega))
  have gk : ∀ (x : Int) (c : Int), gc S' (.ref S'.length) (S' ++ [.lst true [.int x, .int c, .int 0]]) = some (.ref S'.length, S' ++ [.lst true [.int x, .int c, .int 0]]) := fun x c => by
    unfold gc
    rw [if_neg (by simp), if_pos (by simp [MO.keep])]
  have big : ∃ x : Int, evE (geN tb PT n) (.ite (.or (.cmp .Lt (.var 4) (.int 0)) (.cmp .GtE (.var 4) (.bin .Pow (.int 10) (.int 15)))) (.blt "abs" [.var 4]) (.int 0)) [some (.scr (ns.map .int)), some (.int t), some (.int ((b * 61 + o % 2147483587 * 30011 + 7) % 2147483629)), q, some (.int o)] S' = some (.int x, S') := by
    by_cases h1 : o < 0
    · exact ⟨-o, by simp [cmpD, h1, bltD]⟩
    · by_cases h2 : 1000000000000000 ≤ o
      · exact ⟨o, by simp [cmpD, h1, bltD, binD, dr, h2]⟩
      · exact ⟨0, by simp [cmpD, h1, bltD, binD, dr, h2]⟩
  obtain ⟨x, ex⟩ := big
  refine ⟨S' ++ [.lst true [.int x, .int ((b * 61 + o % 2147483587 * 30011 + 7) % 2147483629), .int 0]], ?_, by simp, x, _, 0, last_get, by omega, by omega, by omega, by omega⟩
  rw [q_of l_spring rfl]
  simp only [c_law_spring]
  simp [-q_ite, startD, binD, dr, m0, slD, partD, isNonC, items, srcOf, e, eo, bltD, m2, m3, ex, gk]
theorem any_keep {T : Sto} (h : Sp k j T) : T.any MO.keep = true := by
  obtain ⟨a, b, c, e, _⟩ := h
  exact List.any_eq_true.mpr ⟨_, List.mem_of_getElem? e, rfl⟩
end K01

set_option maxHeartbeats 1000000
namespace K01
open PySem PySem.Spec PyProof.Rows L2 Dn
variable {n k j : Nat} {S : Sto}
def cntI (m : Int) : Int := if (if (3 : Int) < m then (3 : Int) else m) > 2 then (if (3 : Int) < m then (3 : Int) else m) else 2
theorem cnt_ex (m : Nat) : ∃ c : Nat, cntI m = (c : Int) ∧ 2 ≤ c ∧ c ≤ 3 := by
  have h : 2 ≤ cntI m ∧ cntI m ≤ 3 := by unfold cntI; split <;> split <;> omega
  obtain ⟨c, hc⟩ := Int.eq_ofNat_of_zero_le (a := cntI m) (by omega)
  exact ⟨c, hc, by omega, by omega⟩
theorem turns (ns : List Int) (n c : Nat) (hc : c ≤ 3) : ∃ ys S', loopLc ⟨rngD 0 c, none⟩ (lcTurn (geN tb PT (n + 30)) (.call "_law_right" [.call "_law_spring" [.var 0, .var 1]]) (.name 1) [] [1] [some (.scr (ns.map .int)), none]) (rngD 0 c) [] = some (ys, S') ∧ ys.length = (rngD 0 c).length ∧ (∀ y ∈ ys, y = .bl true) ∧ (S' = [] ∨ S'.any MO.keep = true) :=
  lc_ind (w := ⟨rngD 0 c, none⟩) (turn := lcTurn (geN tb PT (n + 30)) (.call "_law_right" [.call "_law_spring" [.var 0, .var 1]]) (.name 1) [] [1] [some (.scr (ns.map .int)), none]) (P := fun y => y = .bl true) (J := fun _ T => T = [] ∨ T.any MO.keep = true) (fun _ _ _ => ok_none) (xs := rngD 0 c) (i := 0) (S := []) (fun x hx i T hi hJ => by
    unfold rngD at hx
    obtain ⟨t, ht, rfl⟩ := List.mem_map.mp hx
    have ht' := List.mem_range.mp ht
    obtain ⟨T1, e1, l1, w1⟩ := spring (n := n + 29) (S := T) (ns := ns) (t := 0 + (t : Int)) (by omega) (by omega)
    obtain ⟨T2, e2, w2, s2⟩ := right (n := n) w1 (by omega)
    refine ⟨.bl true, T2, ?_, rfl, .inr (any_keep w2)⟩
    generalize (0 + (t : Int)) = tt at *
    simp [lcTurn, wipeD, e1, e2]) (.inl rfl)
theorem all_true : ∀ {ys : List D}, (∀ y ∈ ys, y = .bl true) → blsD ys = some (ys.map fun _ => true)
  | [], _ => rfl
  | y :: r, h => by
    rw [h y (List.mem_cons_self ..)]
    simp only [blsD, all_true fun z hz => h z (List.mem_cons_of_mem _ hz), Option.map_some, List.map_cons]
theorem gc_end {S' : Sto} {d : D} (hJ : S' = [] ∨ S'.any MO.keep = true) : gc [] d S' = some (d, S') := by
  unfold gc
  by_cases h : S'.length ≤ ([] : Sto).length
  · rw [if_pos h]
  · rw [if_neg h, if_pos]
    rcases hJ with h1 | h1
    · subst h1; simp at h
    · simpa using h1
theorem blt_len {ns : List Int} : bltD [] "len" [.scr (ns.map .int)] = some (.int (ns.length : Int)) := by simp [bltD, items]
theorem blt_min {m : Int} : bltD [] "min" [.int m, .int 3] = some (.int (if (3 : Int) < m then (3 : Int) else m)) := by simp [bltD]
theorem blt_max {m : Int} : bltD [] "max" [.int 2, .int m] = some (.int (if m > 2 then m else 2)) := by simp [bltD]
theorem blt_all {S' : Sto} {ys : List D} (h : ∀ y ∈ ys, y = .bl true) : bltD S' "all" [.lst ys] = some (.bl true) := by simp [bltD, litems, all_true h]
theorem law_rng (ns : List Int) (n c : Nat) (hc : cntI ns.length = (c : Int)) (c4 : c ≤ 3) : evI (geN tb PT (n + 30)) (.rng1 (.blt "max" [.int 2, .blt "min" [.blt "len" [.var 0], .int 3]])) [some (.scr (ns.map .int)), none] [] = some (⟨rngD 0 c, none⟩, []) := by
  have sm : smallI (c : Int) = true := by
    unfold smallI
    rw [Bool.and_eq_true, decide_eq_true_eq, decide_eq_true_eq]
    omega
  have h1 : evE (geN tb PT (n + 30)) (.blt "max" [.int 2, .blt "min" [.blt "len" [.var 0], .int 3]]) [some (.scr (ns.map .int)), none] [] = some (.int (c : Int), []) := by
    rw [← hc]
    simp only [q_blt, q_cons, q_nil, q_int, q_var, vr, bnd_some, mpd_some, blt_len, blt_min, blt_max]
    rfl
  rw [qw_rng1, h1, bnd_some]
  dsimp only
  rw [if_pos sm]
  rfl
theorem law_lc (ns : List Int) (n : Nat) : ∃ S', evE (geN tb PT (n + 30)) (.blt "all" [.lc (.call "_law_right" [.call "_law_spring" [.var 0, .var 1]]) (.name 1) (.rng1 (.blt "max" [.int 2, .blt "min" [.blt "len" [.var 0], .int 3]])) [] [1]]) [some (.scr (ns.map .int)), none] [] = some (.bl true, S') ∧ (S' = [] ∨ S'.any MO.keep = true) := by
  obtain ⟨c, hc, c2, c4⟩ := cnt_ex ns.length
  obtain ⟨ys, S', e, yl, yt, hJ⟩ := turns ns n c c4
  have yn : ys.length ≤ 16777216 := by rw [yl, rng_len]; omega
  refine ⟨S', ?_, hJ⟩
  rw [q_blt, q_cons, q_lc, law_rng ns n c hc c4, bnd_some]
  dsimp only
  rw [e, bnd_some]
  dsimp only
  rw [if_pos yn, bnd_some, q_nil, mpd_some, bnd_some]
  dsimp only
  rw [blt_all yt, mpd_some]
theorem holds (ns : List Int) (n : Nat) : ∃ S, callN tb PT (n + 31) "law" [.scr (ns.map .int)] [] = some (.bl true, S) := by
  obtain ⟨S', e, hJ⟩ := law_lc ns n
  refine ⟨S', ?_⟩
  have sd : startD c_p_law.N.length [.scr (ns.map .int)] = [some (.scr (ns.map .int)), none] := rfl
  have bd : c_p_law.body = [.ret (.blt "all" [.lc (.call "_law_right" [.call "_law_spring" [.var 0, .var 1]]) (.name 1) (.rng1 (.blt "max" [.int 2, .blt "min" [.blt "len" [.var 0], .int 3]])) [] [1]])] := rfl
  rw [q_of l_law rfl, sd, bd, x_cons, x_ret, e, mpd_some, bnd_some]
  dsimp only
  rw [bnd_some]
  dsimp only
  rw [gc_end hJ]
end K01

set_option maxHeartbeats 0
namespace K01
open PySem PySem.Spec PyProof.Rows L2 Dn
abbrev R : PySem.W.OpenRow := PySem.W.OpenLaw.row PySem.Challenge.rw_bendatlas_k01_errors_each_of_its_own
abbrev hk : PySem.W.Hook := hookN 4 defs tb mk
def ob (s : PySem.W.SharedT) : AlN := obsNG 4 defs tb mk (HandSHeadRun.getT s)
theorem ob_eq (s : PySem.W.SharedT) : ob s = hk.obs s.abs := obsNG_eq (HandSHeadRun.getT_eq s)
abbrev loose0 : List Str := ["__name__", "BendError", "InvalidPoint", "InvalidSegment", "InvalidFigure", "InvalidScene", "InvalidCell", "InvalidName", "InvalidIndex", "TooMany", "InvalidSegments", "InvalidPoints", "BadText", "InvalidPick", "InvalidDeed", "InvalidBook", "InvalidWindow", "InvalidLines", "NothingToUndo", "NothingToRedo", "InvalidMap", "InvalidDart", "InvalidSpecial", "InvalidFace", "InvalidPart", "InvalidStep", "InvalidSide", "InvalidCode", "_law_spring", "_law_draw"]
abbrev loose1 : List Str := ["_law_one_of", "_law_odd", "_law_bent", "_law_spoilt", "_law_by_position", "_law_by_name", "_law_under", "_law_is_made", "_law_right"]
abbrev loose : List Str := loose0 ++ loose1
theorem run (w : World) : HandSHeadRun.RunEq R (PySem.W.view R.prog [40]) hk ob 30000 loose w := by
  intro os
  kernel_rfl
end K01

set_option maxHeartbeats 0
open PySem PySem.W PySem.Calls PyProof.Rows
theorem PySem.Challenge.cw_bendatlas_k01_errors_each_of_its_own_holds : PySem.Challenge.rw_bendatlas_k01_errors_each_of_its_own.Holds := by
  w_on; o_law
  refine HandSHeadRun.head_any (r := OpenLaw.row PySem.Challenge.rw_bendatlas_k01_errors_each_of_its_own) (q := view (OpenLaw.row PySem.Challenge.rw_bendatlas_k01_errors_each_of_its_own).prog [40]) (H := K01.hk) (ob := K01.ob) (M := 30000) (loose := K01.loose) (d := HandSHeadRun.topDef (OpenLaw.row PySem.Challenge.rw_bendatlas_k01_errors_each_of_its_own).prog 40) (kwd := []) K01.ob_eq
    (by kernel_rfl) (fun s => by kernel_rfl) K01.run (by kernel_rfl) (by kernel_rfl) (by kernel_rfl) (by rfl) (by first | assumption | decide +kernel) (by decide +kernel) ⟨rfl, rfl, rfl, rfl, rfl, by decide +kernel⟩ ?hw ?hc
  case hw => w_witness2
  case hc =>
    exact Dn.law_of (l := PySem.Challenge.rw_bendatlas_k01_errors_each_of_its_own) (n := 63) (k := 60) (x := "script") (dl := K01.d_p_law) rfl (by decide) (by kernel_rfl) ⟨rfl, by decide, by decide⟩ (by simp only [K01.defs, List.mem_cons, true_or, or_true]) (by kernel_rfl) rfl
      K01.nd K01.ck K01.bn K01.bk (by decide +kernel) (by decide +kernel) K01.xi K01.xbn (fun ns h => K01.holds ns 29)

