import PyProof.Rows.All
import Wide.All
import OpenK.AllK
import Wide.FinOn
import HandS.ForMost
import HandS.Deep
import HandS.Wide
import HandS.Gcd
import HandS.TupAny
import HandS.IsInst
import HandS.Defaults
import HandS.RaiseMore
import HandS.Iter
import HandS.Comp
import HandS.Flow
import HandS.Style
import HandS.Head0
import HandS.Head1
import HandS.Head2
import HandS.HeadEnd
import HandS.HeadHook1
import HandS.HeadHook2
import PySem.Challenge.RW_bendatlas_k42_whole_picks_of_anything
set_option Elab.async false
set_option linter.all false
set_option maxRecDepth 100000
set_option maxHeartbeats 4000000
namespace Dn
open PySem PySem.Spec PyProof.Rows L2

/-! ### data: what a value stands for; what the store holds -/
inductive D where
  | non | bl (b : Bool) | int (i : Int) | str (x : Str)
  | tup (xs : List D) | lst (xs : List D) | scr (xs : List D) | dic (ks : List Key) (xs : List D) | ref (k : Nat)

/-- a mutable object of the store -/
inductive MO where
  | lst (keep : Bool) (xs : List D)
abbrev Sto := List MO
def MO.xs : MO → List D
  | .lst _ xs => xs
def MO.keep : MO → Bool
  | .lst k _ => k

/-- where the store's objects stand; the addresses that are hidden -/
structure Mu where
  ad : List Addr
  hid : List Addr
def Mu.fz (μ : Mu) (a : Addr) : Prop := a ∉ μ.ad ∧ a ∉ μ.hid
/-- a list that is known to the object, or one of the module's -/
def ScrAt (K : PySem.W.Frag) (H : Hp) (a : Addr) (xs : List V) : Prop :=
  (∃ o, H a = some (.frz o (.lst xs))) ∨
    ∃ (o : Obj) (its : Array Value) (n : Nat), K.lookup a = some o ∧ o.cls = .type "list" ∧ o.dict = none ∧ o.data = .seq its n ∧ its.size ≤ sizeLine ∧ Vals xs its.toList

mutual
def Rep (K : PySem.W.Frag) (μ : Mu) (H : Hp) : D → V → Prop
  | .non, v => v = .non
  | .bl b, v => v = .bl b
  | .int i, v => v = .int i
  | .str x, v => v = .str x
  | .tup ds, v => ∃ a vs, v = .ref a ∧ SqT K H a vs ∧ Reps K μ H ds vs
  | .lst ds, v => ∃ a vs, v = .ref a ∧ μ.fz a ∧ H a = some (.lst vs) ∧ Reps K μ H ds vs
  | .scr ds, v => ∃ a vs, v = .ref a ∧ ScrAt K H a vs ∧ Reps K μ H ds vs
  | .dic ks ds, v => ∃ a vs, v = .ref a ∧ μ.fz a ∧ ks.length = vs.length ∧ H a = some (.dK (ks.zip vs)) ∧ Reps K μ H ds vs
  | .ref k, v => ∃ a, v = .ref a ∧ μ.ad[k]? = some a
def Reps (K : PySem.W.Frag) (μ : Mu) (H : Hp) : List D → List V → Prop
  | [], vs => vs = []
  | d :: ds, vs => ∃ v r, vs = v :: r ∧ Rep K μ H d v ∧ Reps K μ H ds r
end

section
variable {K : PySem.W.Frag} {μ μ' : Mu} {H H' : Hp}
theorem reps_nil {vs : List V} : Reps K μ H [] vs ↔ vs = [] := by simp only [Reps]
theorem reps_cons {d : D} {ds : List D} {vs : List V} : Reps K μ H (d :: ds) vs ↔ ∃ v r, vs = v :: r ∧ Rep K μ H d v ∧ Reps K μ H ds r := by simp only [Reps]
theorem Reps.nil : Reps K μ H [] [] := reps_nil.mpr rfl
theorem Reps.cons {d : D} {ds : List D} {v : V} {vs : List V} (h : Rep K μ H d v) (t : Reps K μ H ds vs) : Reps K μ H (d :: ds) (v :: vs) := reps_cons.mpr ⟨v, vs, rfl, h, t⟩
theorem Reps.length : ∀ {ds : List D} {vs : List V}, Reps K μ H ds vs → ds.length = vs.length
  | [], vs, h => by rw [reps_nil.mp h]; rfl
  | d :: ds, vs, h => by
    obtain ⟨v, r, rfl, _, t⟩ := reps_cons.mp h
    rw [List.length_cons, List.length_cons, Reps.length t]
theorem Reps.get : ∀ {ds : List D} {vs : List V} {i : Nat} {d : D}, Reps K μ H ds vs → ds[i]? = some d → ∃ v, vs[i]? = some v ∧ Rep K μ H d v
  | [], vs, i, d, h, e => by simp at e
  | d :: ds, vs, 0, x, h, e => by
    obtain ⟨v, r, rfl, p, t⟩ := reps_cons.mp h
    simp at e; subst e
    exact ⟨v, rfl, p⟩
  | d :: ds, vs, i + 1, x, h, e => by
    obtain ⟨v, r, rfl, p, t⟩ := reps_cons.mp h
    obtain ⟨u, e1, q⟩ := Reps.get (i := i) t (by simpa using e)
    exact ⟨u, by simpa using e1, q⟩
theorem Reps.append : ∀ {ds es : List D} {vs us : List V}, Reps K μ H ds vs → Reps K μ H es us → Reps K μ H (ds ++ es) (vs ++ us)
  | [], es, vs, us, h, g => by rw [reps_nil.mp h]; exact g
  | d :: ds, es, vs, us, h, g => by
    obtain ⟨v, r, rfl, p, t⟩ := reps_cons.mp h
    exact Reps.cons p (Reps.append t g)
theorem Reps.take : ∀ {ds : List D} {vs : List V} (n : Nat), Reps K μ H ds vs → Reps K μ H (ds.take n) (vs.take n)
  | _, _, 0, _ => by simpa using Reps.nil
  | [], vs, n + 1, h => by rw [reps_nil.mp h]; exact Reps.nil
  | d :: ds, vs, n + 1, h => by
    obtain ⟨v, r, rfl, p, t⟩ := reps_cons.mp h
    exact Reps.cons p (Reps.take n t)
theorem Reps.drop : ∀ {ds : List D} {vs : List V} (n : Nat), Reps K μ H ds vs → Reps K μ H (ds.drop n) (vs.drop n)
  | _, _, 0, h => h
  | [], vs, n + 1, h => by rw [reps_nil.mp h]; exact Reps.nil
  | d :: ds, vs, n + 1, h => by
    obtain ⟨v, r, rfl, p, t⟩ := reps_cons.mp h
    exact Reps.drop n t
theorem Reps.set : ∀ {ds : List D} {vs : List V} (n : Nat) {d : D} {v : V}, Reps K μ H ds vs → Rep K μ H d v → Reps K μ H (ds.set n d) (vs.set n v)
  | [], vs, n, d, v, h, _ => by rw [reps_nil.mp h]; exact Reps.nil
  | e :: ds, vs, 0, d, v, h, q => by
    obtain ⟨u, r, rfl, p, t⟩ := reps_cons.mp h
    exact Reps.cons q t
  | e :: ds, vs, n + 1, d, v, h, q => by
    obtain ⟨u, r, rfl, p, t⟩ := reps_cons.mp h
    exact Reps.cons p (Reps.set n t q)
theorem Reps.reverse {ds : List D} {vs : List V} (h : Reps K μ H ds vs) : Reps K μ H ds.reverse vs.reverse := by
  induction ds generalizing vs with
  | nil => rw [reps_nil.mp h]; exact Reps.nil
  | cons d ds ih =>
    obtain ⟨v, r, rfl, p, t⟩ := reps_cons.mp h
    rw [List.reverse_cons, List.reverse_cons]
    exact (ih t).append (Reps.cons p Reps.nil)
end

/-! ### the store stands in the abstract heap -/
def RepM (K : PySem.W.Frag) (μ : Mu) (H : Hp) (a : Addr) : MO → Prop
  | .lst _ xs => ∃ vs, H a = some (.lst vs) ∧ Reps K μ H xs vs
structure Rl (K : PySem.W.Frag) (μ : Mu) (H : Hp) (S : Sto) : Prop where
  len : μ.ad.length = S.length
  nd : μ.ad.Nodup
  at_ : ∀ (k : Nat) (mo : MO) (a : Addr), S[k]? = some mo → μ.ad[k]? = some a → RepM K μ H a mo
  hid : ∀ a ∈ μ.hid, ∃ vs, H a = some (.lst vs)
  sep : ∀ a ∈ μ.hid, a ∉ μ.ad
/-- from the one state to the other: new objects of the store; all that is no object of the store stands -/
structure Ext (μ : Mu) (H : Hp) (μ' : Mu) (H' : Hp) : Prop where
  hid : ∃ ξ, μ'.hid = ξ ++ μ.hid ∧ ∀ a ∈ ξ, H a = none
  pre : ∃ ν, μ'.ad = μ.ad ++ ν ∧ ∀ a ∈ ν, H a = none
  keep : ∀ a o, a ∉ μ.ad → H a = some o → H' a = some o
  live : ∀ a, H a ≠ none → H' a ≠ none
section
variable {K : PySem.W.Frag} {μ μ' μ1 μ2 : Mu} {H H' H1 H2 : Hp} {S S' S1 : Sto}
theorem Rl.get (R : Rl K μ H S) {k : Nat} {mo : MO} (e : S[k]? = some mo) : ∃ a, μ.ad[k]? = some a ∧ RepM K μ H a mo := by
  have hk : k < S.length := (List.getElem?_eq_some_iff.mp e).1
  have hk' : k < μ.ad.length := by rw [R.len]; exact hk
  exact ⟨μ.ad[k], List.getElem?_eq_getElem hk', R.at_ k mo _ e (List.getElem?_eq_getElem hk')⟩
theorem Rl.mem (R : Rl K μ H S) {a : Addr} (h : a ∈ μ.ad) : ∃ vs, H a = some (.lst vs) := by
  obtain ⟨k, hk, e⟩ := List.mem_iff_getElem.mp h
  have hk' : k < S.length := by rw [← R.len]; exact hk
  have q := R.at_ k _ a (List.getElem?_eq_getElem hk') (by rw [List.getElem?_eq_getElem hk, e])
  revert q
  cases S[k] with
  | lst kp xs => intro q; obtain ⟨vs, e1, _⟩ := q; exact ⟨vs, e1⟩
theorem Ext.refl : Ext μ H μ H := ⟨⟨[], by simp, fun _ h => nomatch h⟩, ⟨[], by simp, fun _ h => nomatch h⟩, fun _ _ _ h => h, fun _ h => h⟩
theorem Ext.trans (a : Ext μ H μ1 H1) (b : Ext μ1 H1 μ2 H2) : Ext μ H μ2 H2 := by
  obtain ⟨ν, e1, n1⟩ := a.pre
  obtain ⟨ξ, e2, n2⟩ := b.pre
  obtain ⟨ν', e1', n1'⟩ := a.hid
  obtain ⟨ξ', e2', n2'⟩ := b.hid
  refine ⟨⟨ξ' ++ ν', by rw [e2', e1', List.append_assoc], fun c hc => ?_⟩, ⟨ν ++ ξ, by rw [e2, e1, List.append_assoc], fun c hc => ?_⟩, fun c o hc e => ?_, fun c hc => b.live c (a.live c hc)⟩
  · rcases List.mem_append.mp hc with h | h
    · cases q : H c with
      | none => rfl
      | some o => exact absurd (n2' c h) (a.live c (by rw [q]; simp))
    · exact n1' c h
  · rcases List.mem_append.mp hc with h | h
    · exact n1 c h
    · cases q : H c with
      | none => rfl
      | some o => exact absurd (n2 c h) (a.live c (by rw [q]; simp))
  · refine b.keep c o ?_ (a.keep c o hc e)
    rw [e1]
    intro h
    rcases List.mem_append.mp h with h | h
    · exact hc h
    · rw [n1 c h] at e; cases e
/-- where nothing but new things came -/
theorem Ext.grow (h : ∀ a o, H a = some o → H' a = some o) : Ext μ H μ H' := ⟨⟨[], by simp, fun _ h => nomatch h⟩, ⟨[], by simp, fun _ h => nomatch h⟩, fun a o _ e => h a o e, fun a e q => by
  cases z : H a with
  | none => exact e z
  | some o => rw [h a o z] at q; cases q⟩
theorem Ext.new {p : Addr} {o : HO} (hp : H p = none) : Ext μ H μ (upd H p o) := Ext.grow fun a u e => by
  rw [upd_ne (ne_of_none e hp)]; exact e
/-- frozen addresses stay so -/
theorem Ext.fz (E : Ext μ H μ' H') {a : Addr} {o : HO} (h : μ.fz a) (e : H a = some o) : μ'.fz a := by
  obtain ⟨ν, e1, n1⟩ := E.pre
  obtain ⟨ξ, e2, n2⟩ := E.hid
  refine ⟨?_, ?_⟩
  · rw [e1]
    intro q
    rcases List.mem_append.mp q with q | q
    · exact h.1 q
    · rw [n1 a q] at e; cases e
  · rw [e2]
    intro q
    rcases List.mem_append.mp q with q | q
    · rw [n2 a q] at e; cases e
    · exact h.2 q
theorem Ext.ad (E : Ext μ H μ' H') {k : Nat} {a : Addr} (h : μ.ad[k]? = some a) : μ'.ad[k]? = some a := by
  obtain ⟨ν, e1, _⟩ := E.pre
  rw [e1, List.getElem?_append_left (List.getElem?_eq_some_iff.mp h).1]
  exact h
theorem Ext.notin (E : Ext μ H μ' H') (R : Rl K μ H S) {a : Addr} {o : HO} (e : H a = some o) (n : ∀ vs, o ≠ .lst vs) : H' a = some o :=
  E.keep a o (fun q => by obtain ⟨vs, e2⟩ := R.mem q; rw [e] at e2; cases e2; exact n vs rfl) e
theorem Ext.sqT (E : Ext μ H μ' H') (R : Rl K μ H S) {a : Addr} {vs : List V} (h : SqT K H a vs) : SqT K H' a vs := by
  rcases h with (h | ⟨o, h⟩) | h
  · exact .inl (.inl (E.notin R h (by intro vs z; cases z)))
  · exact .inl (.inr ⟨o, E.notin R h (by intro vs z; cases z)⟩)
  · exact .inr h
theorem Ext.scr (E : Ext μ H μ' H') (R : Rl K μ H S) {a : Addr} {vs : List V} (h : ScrAt K H a vs) : ScrAt K H' a vs := by
  rcases h with ⟨o, h⟩ | h
  · exact .inl ⟨o, E.notin R h (by intro vs z; cases z)⟩
  · exact .inr h
mutual
theorem Rep.mono (R : Rl K μ H S) (E : Ext μ H μ' H') : ∀ {d : D} {v : V}, Rep K μ H d v → Rep K μ' H' d v
  | .non, v, h => by simpa only [Rep] using h
  | .bl b, v, h => by simpa only [Rep] using h
  | .int i, v, h => by simpa only [Rep] using h
  | .str x, v, h => by simpa only [Rep] using h
  | .tup ds, v, h => by
    simp only [Rep] at h ⊢
    obtain ⟨a, vs, rfl, h1, h2⟩ := h
    exact ⟨a, vs, rfl, E.sqT R h1, Reps.mono R E h2⟩
  | .lst ds, v, h => by
    simp only [Rep] at h ⊢
    obtain ⟨a, vs, rfl, h0, h1, h2⟩ := h
    exact ⟨a, vs, rfl, E.fz h0 h1, E.keep a _ h0.1 h1, Reps.mono R E h2⟩
  | .scr ds, v, h => by
    simp only [Rep] at h ⊢
    obtain ⟨a, vs, rfl, h1, h2⟩ := h
    exact ⟨a, vs, rfl, E.scr R h1, Reps.mono R E h2⟩
  | .dic ks ds, v, h => by
    simp only [Rep] at h ⊢
    obtain ⟨a, vs, rfl, h0, h1, h2, h3⟩ := h
    exact ⟨a, vs, rfl, E.fz h0 h2, h1, E.keep a _ h0.1 h2, Reps.mono R E h3⟩
  | .ref k, v, h => by
    simp only [Rep] at h ⊢
    obtain ⟨a, rfl, h1⟩ := h
    exact ⟨a, rfl, E.ad h1⟩
theorem Reps.mono (R : Rl K μ H S) (E : Ext μ H μ' H') : ∀ {ds : List D} {vs : List V}, Reps K μ H ds vs → Reps K μ' H' ds vs
  | [], vs, h => by simpa only [Reps] using h
  | d :: ds, vs, h => by
    obtain ⟨v, r, rfl, p, t⟩ := reps_cons.mp h
    exact Reps.cons (Rep.mono R E p) (Reps.mono R E t)
end
theorem RepM.mono (R : Rl K μ H S) (E : Ext μ H μ' H') {a : Addr} {mo : MO} (h : RepM K μ H a mo) (k : H' a = H a) : RepM K μ' H' a mo := by
  cases mo with
  | lst kp xs =>
    obtain ⟨vs, e, r⟩ := h
    exact ⟨vs, k.trans e, Reps.mono R E r⟩
/-- all that was there stands -/
theorem Rl.grow (R : Rl K μ H S) (h : ∀ a o, H a = some o → H' a = some o) : Rl K μ H' S := by
  have E : Ext μ H μ H' := Ext.grow h
  refine ⟨R.len, R.nd, fun k mo a e1 e2 => ?_, fun a ha => ?_, R.sep⟩
  · have q := R.at_ k mo a e1 e2
    refine RepM.mono R E q ?_
    cases mo with
    | lst kp xs =>
      obtain ⟨vs, e, _⟩ := q
      rw [h _ _ e, e]
  · obtain ⟨vs, e⟩ := R.hid a ha
    exact ⟨vs, h _ _ e⟩
theorem Rl.new (R : Rl K μ H S) {p : Addr} {o : HO} (hp : H p = none) : Rl K μ (upd H p o) S := R.grow fun a u e => by
  rw [upd_ne (ne_of_none e hp)]; exact e
/-- a new object is no object of the store -/
theorem Rl.fz (R : Rl K μ H S) {p : Addr} (hp : H p = none) : μ.fz p := by
  refine ⟨fun q => ?_, fun q => ?_⟩
  · obtain ⟨vs, e⟩ := R.mem q; rw [hp] at e; cases e
  · obtain ⟨vs, e⟩ := R.hid p q; rw [hp] at e; cases e
/-- a new object of the store -/
def Mu.push (μ : Mu) (p : Addr) : Mu := ⟨μ.ad ++ [p], μ.hid⟩
theorem Ext.push {p : Addr} {o : HO} (hp : H p = none) : Ext μ H (μ.push p) (upd H p o) := by
  refine ⟨⟨[], by simp [Mu.push], fun _ h => nomatch h⟩, ⟨[p], rfl, fun a h => by rw [List.mem_singleton.mp h]; exact hp⟩, fun a u _ e => by rw [upd_ne (ne_of_none e hp)]; exact e, fun a e => ?_⟩
  by_cases h : a = p
  · subst h; rw [upd_same]; simp
  · rw [upd_ne h]; exact e
theorem Rl.push (R : Rl K μ H S) {p : Addr} {kp : Bool} {xs : List D} {vs : List V} (hp : H p = none) (h : Reps K μ H xs vs) : Rl K (μ.push p) (upd H p (.lst vs)) (S ++ [.lst kp xs]) := by
  have E : Ext μ H (μ.push p) (upd H p (.lst vs)) := Ext.push hp
  have hz := R.fz hp
  refine ⟨?_, ?_, fun k mo a e1 e2 => ?_, fun a ha => ?_, fun a ha => ?_⟩
  · show (μ.ad ++ [p]).length = _
    rw [List.length_append, List.length_append, R.len]; rfl
  · show (μ.ad ++ [p]).Nodup
    rw [List.nodup_append]
    exact ⟨R.nd, by simp, fun a ha b hb => by rw [List.mem_singleton.mp hb]; rintro rfl; exact hz.1 ha⟩
  · have e2' : (μ.ad ++ [p])[k]? = some a := e2
    by_cases hk : k < S.length
    · rw [List.getElem?_append_left hk] at e1
      rw [List.getElem?_append_left (by rw [R.len]; exact hk)] at e2'
      refine RepM.mono R E (R.at_ k mo a e1 e2') ?_
      have : a ∈ μ.ad := List.mem_of_getElem? e2'
      rw [upd_ne (show a ≠ p from fun z => hz.1 (z ▸ this))]
    · rw [List.getElem?_append_right (by omega)] at e1
      rw [List.getElem?_append_right (by rw [R.len]; omega), R.len] at e2'
      cases hj : k - S.length with
      | zero =>
        rw [hj] at e1 e2'
        simp at e1 e2'
        subst e1; subst e2'
        exact ⟨vs, upd_same, Reps.mono R E h⟩
      | succ j => rw [hj] at e1; simp at e1
  · obtain ⟨us, e⟩ := R.hid a ha
    exact ⟨us, by rw [upd_ne (ne_of_none e hp)]; exact e⟩
  · show a ∉ μ.ad ++ [p]
    intro q
    rcases List.mem_append.mp q with q | q
    · exact R.sep a ha q
    · rw [List.mem_singleton.mp q] at ha; exact hz.2 ha
/-- an object of the store is changed -/
theorem Ext.put {a : Addr} {o : HO} (ha : a ∈ μ.ad) : Ext μ H μ (upd H a o) := by
  refine ⟨⟨[], by simp, fun _ h => nomatch h⟩, ⟨[], by simp, fun _ h => nomatch h⟩, fun b u hb e => ?_, fun b e => ?_⟩
  · rw [upd_ne (show b ≠ a from fun z => hb (by rw [z]; exact ha))]; exact e
  · by_cases h : b = a
    · subst h; rw [upd_same]; simp
    · rw [upd_ne h]; exact e
theorem Rl.put (R : Rl K μ H S) {k : Nat} {a : Addr} {kp : Bool} {xs : List D} {vs : List V} (ha : μ.ad[k]? = some a) (h : Reps K μ H xs vs) : Rl K μ (upd H a (.lst vs)) (S.set k (.lst kp xs)) := by
  have hm : a ∈ μ.ad := List.mem_of_getElem? ha
  have E : Ext μ H μ (upd H a (.lst vs)) := Ext.put hm
  refine ⟨by rw [List.length_set]; exact R.len, R.nd, fun j mo b e1 e2 => ?_, fun b hb => ?_, R.sep⟩
  · by_cases hj : k = j
    · subst hj
      rw [ha] at e2; cases e2
      have hk : k < S.length := by rw [← R.len]; exact (List.getElem?_eq_some_iff.mp ha).1
      rw [List.getElem?_set_self hk] at e1
      cases e1
      exact ⟨vs, upd_same, Reps.mono R E h⟩
    · rw [List.getElem?_set_ne hj] at e1
      refine RepM.mono R E (R.at_ j mo b e1 e2) (upd_ne fun z => ?_)
      subst z
      obtain ⟨hk, e3⟩ := List.getElem?_eq_some_iff.mp ha
      obtain ⟨hj2, e4⟩ := List.getElem?_eq_some_iff.mp e2
      exact hj (List.getElem_inj R.nd |>.mp (e3.trans e4.symm))
  · obtain ⟨us, e⟩ := R.hid b hb
    exact ⟨us, by rw [upd_ne (show b ≠ a from fun z => R.sep b hb (by rw [z]; exact hm))]; exact e⟩
end

/-! ### names' values -/
def RepEnv (K : PySem.W.Frag) (μ : Mu) (H : Hp) (σ : L2.St) (δ : List (Option D)) : Prop :=
  σ.length = δ.length ∧ ∀ (i : Nat) (d : D), δ[i]? = some (some d) → ∃ v, σ[i]? = some (some v) ∧ Rep K μ H d v
section
variable {K : PySem.W.Frag} {μ μ' : Mu} {H H' : Hp} {S : Sto} {σ : L2.St} {δ : List (Option D)}
theorem RepEnv.mono (R : Rl K μ H S) (E : Ext μ H μ' H') (h : RepEnv K μ H σ δ) : RepEnv K μ' H' σ δ :=
  ⟨h.1, fun i d e => let ⟨v, e1, r⟩ := h.2 i d e; ⟨v, e1, r.mono R E⟩⟩
theorem RepEnv.set (h : RepEnv K μ H σ δ) {i : Nat} {d : D} {v : V} (r : Rep K μ H d v) : RepEnv K μ H (σ.set i (some v)) (δ.set i (some d)) := by
  refine ⟨by rw [List.length_set, List.length_set]; exact h.1, fun j e q => ?_⟩
  by_cases hj : i = j
  · subst hj
    have hi : i < δ.length := by
      have := (List.getElem?_eq_some_iff.mp q).1
      rwa [List.length_set] at this
    rw [List.getElem?_set_self hi] at q
    cases q
    exact ⟨v, by rw [List.getElem?_set_self (by rw [h.1]; exact hi)], r⟩
  · rw [List.getElem?_set_ne hj] at q
    rw [List.getElem?_set_ne hj]
    exact h.2 j e q
end

/-! ### a hidden list -/
def Mu.hide (μ : Mu) (p : Addr) : Mu := ⟨μ.ad, p :: μ.hid⟩
def Mu.show (μ : Mu) (h : List Addr) : Mu := ⟨μ.ad, h⟩
section
variable {K : PySem.W.Frag} {μ μ' : Mu} {H H' : Hp} {S : Sto} {p : Addr}
theorem SqT.keep (h : ∀ xs, H p ≠ some (.tup xs)) (h' : ∀ o u, H p ≠ some (.frz o u)) {o : HO} {a : Addr} {vs : List V} (q : SqT K H a vs) : SqT K (upd H p o) a vs := by
  rcases q with (q | ⟨ob, q⟩) | q
  · exact .inl (.inl (by rw [upd_ne (show a ≠ p from fun z => h _ (z ▸ q))]; exact q))
  · exact .inl (.inr ⟨ob, by rw [upd_ne (show a ≠ p from fun z => h' _ _ (z ▸ q))]; exact q⟩)
  · exact .inr q
mutual
/-- what does not lean on p stands where p is changed -/
theorem Rep.off {vs0 : List V} {o : HO} (hp : ¬ μ.fz p) (hl : H p = some (.lst vs0)) : ∀ {d : D} {v : V}, Rep K μ H d v → Rep K μ (upd H p o) d v
  | .non, v, h => by simpa only [Rep] using h
  | .bl b, v, h => by simpa only [Rep] using h
  | .int i, v, h => by simpa only [Rep] using h
  | .str x, v, h => by simpa only [Rep] using h
  | .tup ds, v, h => by
    simp only [Rep] at h ⊢
    obtain ⟨a, vs, rfl, h1, h2⟩ := h
    exact ⟨a, vs, rfl, SqT.keep (by rw [hl]; intro xs z; cases z) (by rw [hl]; intro ob u z; cases z) h1, Reps.off hp hl h2⟩
  | .lst ds, v, h => by
    simp only [Rep] at h ⊢
    obtain ⟨a, vs, rfl, h0, h1, h2⟩ := h
    exact ⟨a, vs, rfl, h0, by rw [upd_ne (show a ≠ p from fun z => hp (z ▸ h0))]; exact h1, Reps.off hp hl h2⟩
  | .scr ds, v, h => by
    simp only [Rep] at h ⊢
    obtain ⟨a, vs, rfl, h1, h2⟩ := h
    refine ⟨a, vs, rfl, ?_, Reps.off hp hl h2⟩
    rcases h1 with ⟨ob, h1⟩ | h1
    · exact .inl ⟨ob, by rw [upd_ne (show a ≠ p from fun z => by rw [z, hl] at h1; cases h1)]; exact h1⟩
    · exact .inr h1
  | .dic ks ds, v, h => by
    simp only [Rep] at h ⊢
    obtain ⟨a, vs, rfl, h0, h1, h2, h3⟩ := h
    exact ⟨a, vs, rfl, h0, h1, by rw [upd_ne (show a ≠ p from fun z => hp (z ▸ h0))]; exact h2, Reps.off hp hl h3⟩
  | .ref k, v, h => by
    simp only [Rep] at h ⊢
    exact h
theorem Reps.off {vs0 : List V} {o : HO} (hp : ¬ μ.fz p) (hl : H p = some (.lst vs0)) : ∀ {ds : List D} {vs : List V}, Reps K μ H ds vs → Reps K μ (upd H p o) ds vs
  | [], vs, h => by simpa only [Reps] using h
  | d :: ds, vs, h => by
    obtain ⟨v, r, rfl, q, t⟩ := reps_cons.mp h
    exact Reps.cons (Rep.off hp hl q) (Reps.off hp hl t)
end
mutual
/-- fewer hidden -/
theorem Rep.shown {hs : List Addr} (hh : ∀ a ∈ hs, a ∈ μ.hid) : ∀ {d : D} {v : V}, Rep K μ H d v → Rep K (μ.show hs) H d v
  | .non, v, h => by simpa only [Rep] using h
  | .bl b, v, h => by simpa only [Rep] using h
  | .int i, v, h => by simpa only [Rep] using h
  | .str x, v, h => by simpa only [Rep] using h
  | .tup ds, v, h => by
    simp only [Rep] at h ⊢
    obtain ⟨a, vs, rfl, h1, h2⟩ := h
    exact ⟨a, vs, rfl, h1, Reps.shown hh h2⟩
  | .lst ds, v, h => by
    simp only [Rep] at h ⊢
    obtain ⟨a, vs, rfl, h0, h1, h2⟩ := h
    exact ⟨a, vs, rfl, ⟨h0.1, fun z => h0.2 (hh a z)⟩, h1, Reps.shown hh h2⟩
  | .scr ds, v, h => by
    simp only [Rep] at h ⊢
    obtain ⟨a, vs, rfl, h1, h2⟩ := h
    exact ⟨a, vs, rfl, h1, Reps.shown hh h2⟩
  | .dic ks ds, v, h => by
    simp only [Rep] at h ⊢
    obtain ⟨a, vs, rfl, h0, h1, h2, h3⟩ := h
    exact ⟨a, vs, rfl, ⟨h0.1, fun z => h0.2 (hh a z)⟩, h1, h2, Reps.shown hh h3⟩
  | .ref k, v, h => by
    simp only [Rep] at h ⊢
    exact h
theorem Reps.shown {hs : List Addr} (hh : ∀ a ∈ hs, a ∈ μ.hid) : ∀ {ds : List D} {vs : List V}, Reps K μ H ds vs → Reps K (μ.show hs) H ds vs
  | [], vs, h => by simpa only [Reps] using h
  | d :: ds, vs, h => by
    obtain ⟨v, r, rfl, q, t⟩ := reps_cons.mp h
    exact Reps.cons (Rep.shown hh q) (Reps.shown hh t)
end
theorem RepM.off {vs0 : List V} {o : HO} (hp : ¬ μ.fz p) (hl : H p = some (.lst vs0)) {a : Addr} {mo : MO} (ha : a ≠ p) (h : RepM K μ H a mo) : RepM K μ (upd H p o) a mo := by
  cases mo with
  | lst kp xs =>
    obtain ⟨vs, e, r⟩ := h
    exact ⟨vs, by rw [upd_ne ha]; exact e, Reps.off hp hl r⟩
theorem RepM.shown {hs : List Addr} (hh : ∀ a ∈ hs, a ∈ μ.hid) {a : Addr} {mo : MO} (h : RepM K μ H a mo) : RepM K (μ.show hs) H a mo := by
  cases mo with
  | lst kp xs =>
    obtain ⟨vs, e, r⟩ := h
    exact ⟨vs, e, Reps.shown hh r⟩
/-- the hidden list is changed -/
theorem Rl.off (R : Rl K μ H S) {vs vs0 : List V} (hp : p ∈ μ.hid) (hl : H p = some (.lst vs0)) : Rl K μ (upd H p (.lst vs)) S := by
  have hz : ¬ μ.fz p := fun z => z.2 hp
  refine ⟨R.len, R.nd, fun k mo a e1 e2 => RepM.off hz hl (fun z => R.sep p hp (z ▸ List.mem_of_getElem? e2)) (R.at_ k mo a e1 e2), fun a ha => ?_, R.sep⟩
  by_cases h : a = p
  · exact ⟨vs, by rw [h, upd_same]⟩
  · obtain ⟨us, e⟩ := R.hid a ha
    exact ⟨us, by rw [upd_ne h]; exact e⟩
theorem Rl.shown (R : Rl K μ H S) {hs : List Addr} (hh : ∀ a ∈ hs, a ∈ μ.hid) : Rl K (μ.show hs) H S :=
  ⟨R.len, R.nd, fun k mo a e1 e2 => RepM.shown hh (R.at_ k mo a e1 e2), fun a ha => R.hid a (hh a ha), fun a ha => R.sep a (hh a ha)⟩
/-- a new list is hidden -/
theorem Ext.hide {o : HO} (hp : H p = none) : Ext μ H (μ.hide p) (upd H p o) := by
  refine ⟨⟨[p], rfl, fun a h => by rw [List.mem_singleton.mp h]; exact hp⟩, ⟨[], by simp [Mu.hide], fun _ h => nomatch h⟩, fun a u _ e => by rw [upd_ne (ne_of_none e hp)]; exact e, fun a e => ?_⟩
  by_cases h : a = p
  · subst h; rw [upd_same]; simp
  · rw [upd_ne h]; exact e
theorem Rl.hide (R : Rl K μ H S) {vs : List V} (hp : H p = none) : Rl K (μ.hide p) (upd H p (.lst vs)) S := by
  have E : Ext μ H (μ.hide p) (upd H p (.lst vs)) := Ext.hide hp
  have hz := R.fz hp
  refine ⟨R.len, R.nd, fun k mo a e1 e2 => RepM.mono R E (R.at_ k mo a e1 e2) ?_, fun a ha => ?_, fun a ha => ?_⟩
  · have : a ∈ μ.ad := List.mem_of_getElem? e2
    rw [upd_ne (show a ≠ p from fun z => hz.1 (z ▸ this))]
  · rcases List.mem_cons.mp ha with h | h
    · exact ⟨vs, by rw [h, upd_same]⟩
    · obtain ⟨us, e⟩ := R.hid a h
      exact ⟨us, by rw [upd_ne (ne_of_none e hp)]; exact e⟩
  · rcases List.mem_cons.mp ha with h | h
    · rw [h]; exact hz.1
    · exact R.sep a h
end
end Dn

set_option maxHeartbeats 4000000
namespace Dn
open PySem PySem.Spec PyProof.Rows L2

/-! ### the core: expressions, targets, what is walked, statements -/
mutual
inductive C where
  | non | bl (b : Bool) | int (i : Int) | str (x : Str)
  | var (i : Nat)
  | glo (x : Str)
  | tup (es : List C)
  /-- own: none: frozen; some keep: an object of the store -/
  | lst (own : Option Bool) (es : List C)
  | dic0
  | bin (o : Operator) (a b : C)
  | neg (a : C)
  | not (a : C)
  | cmp (o : CmpOp) (a b : C)
  | cmp2 (o p : CmpOp) (a b c : C)
  | and (a b : C)
  | or (a b : C)
  | ite (c a b : C)
  | call (f : Str) (es : List C)
  | callK (f : Str) (es : List C) (ks : List Str) (kes : List C)
  | blt (f : String) (es : List C)
  | isi (e : C) (T : String)
  | meth (m : String) (o : C) (es : List C)
  | ix (a b : C)
  | sl (a lo hi : C)
  | rev (a : C)
  | lc (elt : C) (t : CT) (it : CI) (ifs : List C) (own : List Nat)
inductive CT where
  | name (i : Nat)
  | tup (ts : List CT)
  | sub (o i : C)
inductive CI where
  | seq (e : C)
  | rng1 (a : C)
  | rng2 (a b : C)
  | enm (e : C)
  | zip (a b : C)
end
inductive CS where
  | expr (e : C)
  | asg (t : CT) (e : C)
  | par (i j : Nat) (a b : C)
  | ret (e : C)
  | retN
  | ife (c : C) (a b : List CS)
  | for_ (t : CT) (it : CI) (body : List CS)
  | whl (c : C) (body : List CS)
  | aug (i : Nat) (o : Operator) (e : C)
  | pass | brk | cont
  | never

abbrev En := List (Option D)

/-! ### operations -/
def items (S : Sto) : D → Option (List D)
  | .tup xs => some xs
  | .lst xs => some xs
  | .scr xs => some xs
  | .ref k => (S[k]?).map MO.xs
  | _ => none
def litems (S : Sto) : D → Option (List D)
  | .lst xs => some xs
  | .scr xs => some xs
  | .ref k => (S[k]?).map MO.xs
  | _ => none
/-- an object of the store as the list that it is now -/
def dr (S : Sto) : D → D
  | .ref k => match S[k]? with
    | some mo => .lst mo.xs
    | none => .ref k
  | d => d
mutual
def pd : D → Option PyData
  | .non => some .none
  | .bl b => some (.bool b)
  | .int i => some (.int i)
  | .str x => some (.str x)
  | .tup xs => (pds xs).map .tuple
  | .lst xs => (pds xs).map .list
  | .scr xs => (pds xs).map .list
  | .dic _ _ => none
  | .ref _ => none
def pds : List D → Option (List PyData)
  | [] => some []
  | d :: ds => (pd d).bind fun p => (pds ds).map fun r => p :: r
end
def intsD : List D → Option (List Int)
  | [] => some []
  | .int i :: r => (intsD r).map fun q => i :: q
  | _ :: _ => none
def blsD : List D → Option (List Bool)
  | [] => some []
  | .bl b :: r => (blsD r).map fun q => b :: q
  | _ :: _ => none
def bI (b : Bool) : Int := if b = true then 1 else 0
def mulOk (i j : Int) : Bool := decide (i.natAbs.log2 + j.natAbs.log2 < 1000000)
def divOk (j : Int) : Bool := decide (0 < j) && decide (j.natAbs.log2 < 9000)
def binD : Operator → D → D → Option D
  | .Add, .int i, .int j => some (.int (i + j))
  | .Sub, .int i, .int j => some (.int (i - j))
  | .Mult, .int i, .int j => if mulOk i j = true then some (.int (i * j)) else none
  | .FloorDiv, .int i, .int j => if divOk j = true then some (.int (i / j)) else none
  | .Mod, .int i, .int j => if 0 < j then some (.int (i % j)) else none
  | .Pow, .int i, .int j => if 0 ≤ j ∧ j ≤ 1000000 ∧ i.natAbs < 2 ^ 64 then some (.int (i ^ j.toNat)) else none
  | .Add, .str x, .str y => if x.length + y.length ≤ 16777216 then some (.str (x ++ y)) else none
  | .Add, .tup xs, .tup ys => if xs.length + ys.length ≤ 16777216 then some (.tup (xs ++ ys)) else none
  | .Add, .lst xs, .lst ys => if xs.length + ys.length ≤ 16777216 then some (.lst (xs ++ ys)) else none
  | .Add, .int i, .bl b => some (.int (i + bI b))
  | .Sub, .int i, .bl b => some (.int (i - bI b))
  | .Mult, .int i, .bl b => some (.int (i * bI b))
  | .Add, .bl a, .int j => some (.int (bI a + j))
  | .Sub, .bl a, .int j => some (.int (bI a - j))
  | .Mult, .bl a, .int j => some (.int (bI a * j))
  | .Add, .bl a, .bl b => some (.int (bI a + bI b))
  | .Sub, .bl a, .bl b => some (.int (bI a - bI b))
  | .Mult, .bl a, .bl b => some (.int (bI a * bI b))
  | _, _, _ => none
def flatD : D → Bool
  | .non => true
  | .bl _ => true
  | .int _ => true
  | .str _ => true
  | _ => false
def vD : D → V
  | .non => .non
  | .bl b => .bl b
  | .int i => .int i
  | .str x => .str x
  | _ => .ref 0
def eqP (d e : D) : Option Bool := (pd d).bind fun p => (pd e).bind fun q => if (SeqAt.shaped p && SeqAt.shaped q) = true then some (PyData.eqv p q) else none
def eqD (d e : D) : Option Bool :=
  if (flatD d && flatD e && scal (vD d) (vD e)) = true then some (decide (vD d = vD e)) else match d, e with
    | .tup xs, .tup [] => some xs.isEmpty
    | .tup [], .tup ys => some ys.isEmpty
    | d, e => eqP d e
def isTup : D → Bool
  | .tup _ => true
  | _ => false
/-- y: a list or tuple; x within -/
def inD (S : Sto) (d e : D) : Option Bool :=
  (items S e).bind fun xs => if (flatD d && xs.all flatD) = true then some (xs.any fun y => eqV (vD y) (vD d)) else
    (pd d).bind fun p => (pds xs).bind fun qs => if (SeqAt.shaped p && SeqAt.shaped (.list qs)) = true then some (qs.any fun z => PyData.eqv z p) else none
def cmpD (S : Sto) (o : CmpOp) (d e : D) : Option Bool :=
  match o with
  | .Eq => eqD (dr S d) (dr S e)
  | .NotEq => (eqD (dr S d) (dr S e)).map (!·)
  | .Lt => match d, e with | .int i, .int j => some (decide (i < j)) | _, _ => none
  | .LtE => match d, e with | .int i, .int j => some (decide (i ≤ j)) | _, _ => none
  | .Gt => match d, e with | .int i, .int j => some (decide (j < i)) | _, _ => none
  | .GtE => match d, e with | .int i, .int j => some (decide (j ≤ i)) | _, _ => none
  | .In => inD S d e
  | .NotIn => (inD S d e).map (!·)
  | .Is => match e with | .non => some (match d with | .non => true | _ => false) | _ => none
  | .IsNot => match e with | .non => some (match d with | .non => false | _ => true) | _ => none
def truD (S : Sto) : D → Option Bool
  | .non => some false
  | .bl b => some b
  | .int i => some (i != 0)
  | .str x => if x.length ≤ 16777216 then some ((x.length : Int) != 0) else none
  | .tup xs => some (!xs.isEmpty)
  | .lst xs => some (!xs.isEmpty)
  | .scr xs => some (!xs.isEmpty)
  | .ref k => (S[k]?).map fun mo => !mo.xs.isEmpty
  | _ => none
def tyD : D → String
  | .non => "NoneType"
  | .bl _ => "bool"
  | .int _ => "int"
  | .str _ => "str"
  | .tup _ => "tuple"
  | .lst _ => "list"
  | .scr _ => "list"
  | .dic _ _ => "dict"
  | .ref _ => "list"
def ixD (S : Sto) (d e : D) : Option D := match e with
  | .int i => (items S d).bind fun xs => atI xs i
  | _ => none
def cutD (xs : List D) (lo hi : Option Int) : List D := (xs.drop (HT.sIx xs.length 0 lo)).take (HT.sIx xs.length xs.length hi - HT.sIx xs.length 0 lo)
def slD (S : Sto) (d : D) (lo hi : Option Int) : Option D := match dr S d with
  | .tup xs => some (.tup (cutD xs lo hi))
  | .lst xs => some (.lst (cutD xs lo hi))
  | .scr xs => some (.lst (cutD xs lo hi))
  | _ => none
/-- b: the part is absent -/
def partD : Bool → D → Option (Option Int)
  | true, _ => some none
  | false, .int i => some (some i)
  | false, _ => none
def isNonC : C → Bool
  | .non => true
  | _ => false
def bltD (S : Sto) (f : String) (args : List D) : Option D :=
  if f = "len" then match args with
    | [.str x] => if x.length ≤ 16777216 then some (.int x.length) else none
    | [d] => (items S d).map fun xs => .int xs.length
    | _ => none
  else if f = "abs" then match args with
    | [.int i] => some (.int (if i < 0 then -i else i))
    | _ => none
  else if f = "int" then match args with
    | [.int i] => some (.int i)
    | [.bl b] => some (.int (if b then 1 else 0))
    | _ => none
  else if f = "all" then match args with
    | [d] => (litems S d).bind fun xs => (blsD xs).map fun bs => .bl (bs.all id)
    | _ => none
  else if f = "any" then match args with
    | [d] => (litems S d).bind fun xs => (blsD xs).map fun bs => .bl (bs.any id)
    | _ => none
  else if f = "tuple" then match args with
    | [d] => (items S d).map .tup
    | _ => none
  else if f = "list" then match args with
    | [d] => (items S d).map .lst
    | _ => none
  else if f = "divmod" then match args with
    | [.int i, .int j] => if 0 < j ∧ j < 1073741824 then some (.tup [.int (i / j), .int (i % j)]) else none
    | _ => none
  else if f = "min" then match args with
    | [.int i, .int j] => some (.int (if j < i then j else i))
    | _ => none
  else if f = "max" then match args with
    | [.int i, .int j] => some (.int (if j > i then j else i))
    | [d] => (litems S d).bind fun xs => (intsD xs).bind fun ns => match ns with
      | [] => none
      | n :: r => some (.int (r.foldl max n))
    | _ => none
  else if f = "gcd" then match args with
    | [.int i, .int j] => some (.int ((Nat.gcd i.natAbs j.natAbs : Nat) : Int))
    | _ => none
  else if f = "repr" then match args with
    | [d] => (pd (dr S d)).bind fun p => if (p.showable && !p.hasDict && decide (p.depth ≤ 64) && decide (p.shown.length ≤ 16777216)) = true then some (.str p.shown) else none
    | _ => none
  else none
def methD (S : Sto) (m : String) (o : D) (args : List D) : Option (D × Sto) :=
  if m = "append" then match o, args with
    | .ref k, [x] => match S[k]? with
      | some (.lst kp xs) => if xs.length < 16777216 then some (.non, S.set k (.lst kp (xs ++ [x]))) else none
      | none => none
    | _, _ => none
  else none
/-- o[i] = d -/
def setD (S : Sto) (o i d : D) : Option Sto := match o, i with
  | .ref k, .int j => match S[k]? with
    | some (.lst kp xs) => (ixN xs.length j).map fun n => S.set k (.lst kp (xs.set n d))
    | none => none
  | _, _ => none

/-! ### evaluation -/
/-- what is walked: its items, the object of the store that holds them -/
structure Wk where
  xs : List D
  src : Option Nat
def okW (w : Wk) (S : Sto) : Prop := ∀ k, w.src = some k → ∃ mo, S[k]? = some mo ∧ mo.xs = w.xs
/-- the text's tables: the module's data; what a call does -/
structure GE where
  data : List (Str × D)
  call : Str → List D → Sto → Option (D × Sto)
  /-- f with so many arguments and keywords: the arguments' places -/
  kw : Str → Nat → List Str → Option (List Nat)
def wipeD (δ : En) : List Nat → En
  | [] => δ
  | v :: vs => (wipeD δ vs).set v none
open Classical in
noncomputable def loopLc (w : Wk) (turn : D → Sto → Option (Option D × Sto)) : List D → Sto → Option (List D × Sto)
  | [], S => if okW w S then some ([], S) else none
  | x :: r, S => if okW w S then (turn x S).bind fun p => (loopLc w turn r p.2).map fun q => (p.1.toList ++ q.1, q.2) else none
def rngD (lo : Int) (n : Nat) : List D := (List.range n).map fun (i : Nat) => D.int (lo + i)
def enmD : Nat → List D → List D
  | _, [] => []
  | n, x :: r => .tup [.int n, x] :: enmD (n + 1) r
def zipD : List D → List D → List D
  | x :: r, y :: q => .tup [x, y] :: zipD r q
  | _, _ => []
def srcOf : D → Option Nat
  | .ref k => some k
  | _ => none
def smallI (i : Int) : Bool := decide (-(2 ^ 62) ≤ i) && decide (i < 2 ^ 62)
def pick (xs : List D) : List Nat → Option (List D)
  | [] => some []
  | i :: r => (xs[i]?).bind fun x => (pick xs r).map fun q => x :: q
mutual
noncomputable def evE (G : GE) : C → En → Sto → Option (D × Sto)
  | .non, _, S => some (.non, S)
  | .bl b, _, S => some (.bl b, S)
  | .int i, _, S => some (.int i, S)
  | .str x, _, S => some (.str x, S)
  | .var i, δ, S => match δ[i]? with
    | some (some d) => some (d, S)
    | _ => none
  | .glo x, _, S => (G.data.lookup x).map fun d => (d, S)
  | .tup es, δ, S => (evEs G es δ S).bind fun p => if p.1.length ≤ 16777216 then some (.tup p.1, p.2) else none
  | .lst own es, δ, S => (evEs G es δ S).bind fun p => if p.1.length ≤ 16777216 then (match own with
    | none => some (.lst p.1, p.2)
    | some kp => some (.ref p.2.length, p.2 ++ [.lst kp p.1])) else none
  | .dic0, _, S => some (.dic [] [], S)
  | .bin o a b, δ, S => (evE G a δ S).bind fun p => (evE G b δ p.2).bind fun q => (binD o (dr q.2 p.1) (dr q.2 q.1)).map fun d => (d, q.2)
  | .neg a, δ, S => (evE G a δ S).bind fun p => match p.1 with
    | .int i => some (.int (-i), p.2)
    | _ => none
  | .not a, δ, S => (evE G a δ S).bind fun p => (truD p.2 p.1).map fun k => (.bl (!k), p.2)
  | .cmp o a b, δ, S => (evE G a δ S).bind fun p => (evE G b δ p.2).bind fun q => (cmpD q.2 o p.1 q.1).map fun k => (.bl k, q.2)
  | .cmp2 o o' a b c, δ, S => (evE G a δ S).bind fun p => (evE G b δ p.2).bind fun q => (cmpD q.2 o p.1 q.1).bind fun k =>
    if k = true then (evE G c δ q.2).bind fun r => (cmpD r.2 o' q.1 r.1).map fun k' => (.bl k', r.2) else some (.bl false, q.2)
  | .and a b, δ, S => (evE G a δ S).bind fun p => match p.1 with
    | .bl true => evE G b δ p.2
    | .bl false => some (.bl false, p.2)
    | _ => none
  | .or a b, δ, S => (evE G a δ S).bind fun p => match p.1 with
    | .bl false => evE G b δ p.2
    | .bl true => some (.bl true, p.2)
    | _ => none
  | .ite c a b, δ, S => (evT G c δ S).bind fun p => if p.1 = true then evE G a δ p.2 else evE G b δ p.2
  | .call f es, δ, S => (evEs G es δ S).bind fun p => G.call f p.1 p.2
  | .callK f es ks kes, δ, S => (evEs G es δ S).bind fun p => (evEs G kes δ p.2).bind fun q => (G.kw f es.length ks).bind fun pl =>
    (pick (p.1 ++ q.1) pl).bind fun ds => G.call f ds q.2
  | .blt f es, δ, S => (evEs G es δ S).bind fun p => (bltD p.2 f p.1).map fun d => (d, p.2)
  | .isi e T, δ, S => (evE G e δ S).bind fun p => (kitB (tyD p.1) T).map fun k => (.bl k, p.2)
  | .meth m o es, δ, S => (evE G o δ S).bind fun p => (evEs G es δ p.2).bind fun q => methD q.2 m p.1 q.1
  | .ix a b, δ, S => (evE G a δ S).bind fun p => (evE G b δ p.2).bind fun q => (ixD q.2 p.1 q.1).map fun d => (d, q.2)
  | .sl a lo hi, δ, S => (evE G a δ S).bind fun p => (evE G lo δ p.2).bind fun q => (evE G hi δ q.2).bind fun r =>
    (partD (isNonC lo) q.1).bind fun l => (partD (isNonC hi) r.1).bind fun h => (slD r.2 p.1 l h).map fun d => (d, r.2)
  | .rev a, δ, S => none
  | .lc elt t it ifs own, δ, S => (evI G it δ S).bind fun w => (loopLc w.1 (fun x S1 => (evT' G t x (wipeD δ own) S1).bind fun e =>
      (evIf G ifs e.1 e.2).bind fun b => if b.1 = true then (evE G elt e.1 b.2).map fun y => (some y.1, y.2) else some (none, b.2)) w.1.xs w.2).bind fun q =>
      if q.1.length ≤ 16777216 then some (.lst q.1, q.2) else none
noncomputable def evEs (G : GE) : List C → En → Sto → Option (List D × Sto)
  | [], _, S => some ([], S)
  | e :: es, δ, S => (evE G e δ S).bind fun p => (evEs G es δ p.2).map fun q => (p.1 :: q.1, q.2)
noncomputable def evT (G : GE) : C → En → Sto → Option (Bool × Sto)
  | .not a, δ, S => (evT G a δ S).map fun p => (!p.1, p.2)
  | .and a b, δ, S => (evT G a δ S).bind fun p => if p.1 = true then evT G b δ p.2 else some (false, p.2)
  | .or a b, δ, S => (evT G a δ S).bind fun p => if p.1 = true then some (true, p.2) else evT G b δ p.2
  | .bl b, _, S => some (b, S)
  | .ix a b, δ, S => (evE G a δ S).bind fun p => (evE G b δ p.2).bind fun q => (ixD q.2 p.1 q.1).bind fun d => (truD q.2 d).map fun k => (k, q.2)
  | .cmp o a b, δ, S => (evE G a δ S).bind fun p => (evE G b δ p.2).bind fun q => (cmpD q.2 o p.1 q.1).map fun k => (k, q.2)
  | .cmp2 o o' a b c, δ, S => (evE G a δ S).bind fun p => (evE G b δ p.2).bind fun q => (cmpD q.2 o p.1 q.1).bind fun k =>
    if k = true then (evE G c δ q.2).bind fun r => (cmpD r.2 o' q.1 r.1).map fun k' => (k', r.2) else some (false, q.2)
  | .call f es, δ, S => (evEs G es δ S).bind fun p => (G.call f p.1 p.2).bind fun r => (truD r.2 r.1).map fun k => (k, r.2)
  | .blt f es, δ, S => (evEs G es δ S).bind fun p => (bltD p.2 f p.1).bind fun d => (truD p.2 d).map fun k => (k, p.2)
  | .isi e T, δ, S => (evE G e δ S).bind fun p => (kitB (tyD p.1) T).map fun k => (k, p.2)
  | .var i, δ, S => match δ[i]? with
    | some (some d) => (truD S d).map fun k => (k, S)
    | _ => none
  | _, _, _ => none
noncomputable def evIf (G : GE) : List C → En → Sto → Option (Bool × Sto)
  | [], _, S => some (true, S)
  | c :: _, δ, S => evT G c δ S
noncomputable def evT' (G : GE) : CT → D → En → Sto → Option (En × Sto)
  | .name i, d, δ, S => some (δ.set i (some d), S)
  | .tup ts, d, δ, S => match d with
    | .tup xs => evTs G ts xs δ S
    | _ => none
  | .sub o i, d, δ, S => (evE G o δ S).bind fun p => (evE G i δ p.2).bind fun q => (setD q.2 p.1 q.1 d).map fun S' => (δ, S')
noncomputable def evTs (G : GE) : List CT → List D → En → Sto → Option (En × Sto)
  | [], [], δ, S => some (δ, S)
  | t :: ts, x :: xs, δ, S => (evT' G t x δ S).bind fun p => evTs G ts xs p.1 p.2
  | _, _, _, _ => none
noncomputable def evI (G : GE) : CI → En → Sto → Option (Wk × Sto)
  | .seq e, δ, S => (evE G e δ S).bind fun p => (items p.2 p.1).map fun xs => (⟨xs, srcOf p.1⟩, p.2)
  | .rng1 a, δ, S => (evE G a δ S).bind fun p => match p.1 with
    | .int j => if smallI j = true then some (⟨rngD 0 j.toNat, none⟩, p.2) else none
    | _ => none
  | .rng2 a b, δ, S => (evE G a δ S).bind fun p => (evE G b δ p.2).bind fun q => match p.1, q.1 with
    | .int i, .int j => if smallI i = true ∧ smallI j = true then some (⟨rngD i (j - i).toNat, none⟩, q.2) else none
    | _, _ => none
  | .enm e, δ, S => (evE G e δ S).bind fun p => match p.1 with
    | .lst xs => some (⟨enmD 0 xs, none⟩, p.2)
    | .scr xs => some (⟨enmD 0 xs, none⟩, p.2)
    | _ => none
  | .zip a b, δ, S => (evE G a δ S).bind fun p => (evE G b δ p.2).bind fun q => match p.1, q.1 with
    | .lst xs, .lst ys => some (⟨zipD xs ys, none⟩, q.2)
    | _, _ => none
end
/-! ### statements -/
inductive Fl where
  | nx (δ : En) | rt (d : D) | bk (δ : En) | ct (δ : En)
open Classical in
noncomputable def loopFor (w : Wk) (turn : D → En → Sto → Option (Fl × Sto)) : List D → En → Sto → Option (Fl × Sto)
  | [], δ, S => if okW w S then some (.nx δ, S) else none
  | x :: r, δ, S => if okW w S then (turn x δ S).bind fun p => match p.1 with
    | .nx δ1 => loopFor w turn r δ1 p.2
    | .ct δ1 => loopFor w turn r δ1 p.2
    | .bk δ1 => some (.nx δ1, p.2)
    | .rt d => some (.rt d, p.2) else none
def whN (c : En → Sto → Option (Bool × Sto)) (b : En → Sto → Option (Fl × Sto)) : Nat → En → Sto → Option (Fl × Sto)
  | 0, _, _ => none
  | n + 1, δ, S => (c δ S).bind fun p => if p.1 = true then (b δ p.2).bind fun q => match q.1 with
    | .nx δ1 => whN c b n δ1 q.2
    | .ct δ1 => whN c b n δ1 q.2
    | .bk δ1 => some (.nx δ1, q.2)
    | .rt d => some (.rt d, q.2) else some (.nx δ, p.2)
theorem whN_succ {c : En → Sto → Option (Bool × Sto)} {b : En → Sto → Option (Fl × Sto)} : ∀ (n : Nat) (δ : En) (S : Sto) (r : Fl × Sto), whN c b n δ S = some r → whN c b (n + 1) δ S = some r
  | 0, _, _, _, h => by cases h
  | n + 1, δ, S, r, h => by
    unfold whN at h ⊢
    cases hc : c δ S with
    | none => rw [hc] at h; cases h
    | some p =>
      rw [hc] at h
      simp only [Option.bind_some] at h ⊢
      by_cases hp : p.1 = true
      · rw [if_pos hp] at h ⊢
        cases hb : b δ p.2 with
        | none => rw [hb] at h; cases h
        | some q =>
          rw [hb] at h
          simp only [Option.bind_some] at h ⊢
          obtain ⟨f, S2⟩ := q
          cases f with
          | nx δ1 => exact whN_succ n δ1 S2 r h
          | ct δ1 => exact whN_succ n δ1 S2 r h
          | bk δ1 => exact h
          | rt d => exact h
      · rw [if_neg hp] at h ⊢
        exact h
theorem whN_le {c : En → Sto → Option (Bool × Sto)} {b : En → Sto → Option (Fl × Sto)} {n m : Nat} {δ : En} {S : Sto} {r : Fl × Sto} (h : whN c b n δ S = some r) (hm : n ≤ m) : whN c b m δ S = some r := by
  induction hm with
  | refl => exact h
  | step _ ih => exact whN_succ _ _ _ _ ih
open Classical in
noncomputable def whD (c : En → Sto → Option (Bool × Sto)) (b : En → Sto → Option (Fl × Sto)) (δ : En) (S : Sto) : Option (Fl × Sto) :=
  if h : ∃ r n, whN c b n δ S = some r then some (Classical.choose h) else none
theorem whD_of {c : En → Sto → Option (Bool × Sto)} {b : En → Sto → Option (Fl × Sto)} {n : Nat} {δ : En} {S : Sto} {r : Fl × Sto} (h : whN c b n δ S = some r) : whD c b δ S = some r := by
  have hx : ∃ r n, whN c b n δ S = some r := ⟨r, n, h⟩
  unfold whD
  rw [dif_pos hx]
  obtain ⟨m, e⟩ := Classical.choose_spec hx
  have e1 := whN_le e (Nat.le_max_left m n)
  have e2 := whN_le h (Nat.le_max_right m n)
  rw [e1] at e2
  exact e2
theorem of_whD {c : En → Sto → Option (Bool × Sto)} {b : En → Sto → Option (Fl × Sto)} {δ : En} {S : Sto} {r : Fl × Sto} (h : whD c b δ S = some r) : ∃ n, whN c b n δ S = some r := by
  unfold whD at h
  split at h
  · rename_i hx
    obtain ⟨m, e⟩ := Classical.choose_spec hx
    rw [Option.some.inj h] at e
    exact ⟨m, e⟩
  · cases h
mutual
noncomputable def exS (G : GE) : CS → En → Sto → Option (Fl × Sto)
  | .expr e, δ, S => (evE G e δ S).map fun p => (.nx δ, p.2)
  | .asg t e, δ, S => (evE G e δ S).bind fun p => (evT' G t p.1 δ p.2).map fun q => (.nx q.1, q.2)
  | .par i j a b, δ, S => (evE G a δ S).bind fun p => (evE G b δ p.2).map fun q => (.nx ((δ.set i (some p.1)).set j (some q.1)), q.2)
  | .ret e, δ, S => (evE G e δ S).map fun p => (.rt p.1, p.2)
  | .retN, δ, S => some (.rt .non, S)
  | .ife c a b, δ, S => (evT G c δ S).bind fun p => if p.1 = true then exSs G a δ p.2 else exSs G b δ p.2
  | .for_ t it body, δ, S => (evI G it δ S).bind fun w => loopFor w.1 (fun x δ1 S1 => (evT' G t x δ1 S1).bind fun q => exSs G body q.1 q.2) w.1.xs δ w.2
  | .whl c body, δ, S => whD (fun δ S => evT G c δ S) (fun δ S => exSs G body δ S) δ S
  | .aug i o e, δ, S => match δ[i]? with
    | some (some d) => (evE G e δ S).bind fun p => (match d with
      | .ref _ => none
      | d => (binD o d (dr p.2 p.1))).map fun r => (.nx (δ.set i (some r)), p.2)
    | _ => none
  | .pass, δ, S => some (.nx δ, S)
  | .brk, δ, S => some (.bk δ, S)
  | .cont, δ, S => some (.ct δ, S)
  | .never, _, _ => none
noncomputable def exSs (G : GE) : List CS → En → Sto → Option (Fl × Sto)
  | [], δ, S => some (.nx δ, S)
  | s :: r, δ, S => (exS G s δ S).bind fun p => match p.1 with
    | .nx δ1 => exSs G r δ1 p.2
    | f => some (f, p.2)
end

/-! ### calls -/
structure Fn where
  ps : List Str
  N : List Str
  body : List CS
mutual
/-- no object of the store from n on -/
def belowD (n : Nat) : D → Bool
  | .tup xs => belowDs n xs
  | .lst xs => belowDs n xs
  | .scr xs => belowDs n xs
  | .dic _ xs => belowDs n xs
  | .ref k => decide (k < n)
  | _ => true
def belowDs (n : Nat) : List D → Bool
  | [] => true
  | d :: ds => belowD n d && belowDs n ds
end
mutual
/-- g: what an object of the store from n on becomes -/
def fzD (n : Nat) (g : Nat → Option D) : D → Option D
  | .tup xs => (fzDs n g xs).map .tup
  | .lst xs => (fzDs n g xs).map .lst
  | .scr xs => (fzDs n g xs).map .scr
  | .dic ks xs => (fzDs n g xs).map (.dic ks)
  | .ref k => if k < n then some (.ref k) else g k
  | .non => some .non
  | .bl b => some (.bl b)
  | .int i => some (.int i)
  | .str x => some (.str x)
def fzDs (n : Nat) (g : Nat → Option D) : List D → Option (List D)
  | [] => some []
  | d :: ds => (fzD n g d).bind fun x => (fzDs n g ds).map fun r => x :: r
end
def fzR (S : Sto) (n : Nat) : Nat → Nat → Option D
  | 0, _ => none
  | m + 1, k => match S[k]? with
    | some (.lst _ xs) => (fzDs n (fzR S n m) xs).map .lst
    | none => none
def GcOk (n : Nat) (S S' : Sto) : Prop := ∀ k, k < n → S'[k]? = S[k]? ∨ ∃ mo, S'[k]? = some mo ∧ belowDs n mo.xs = true
open Classical in
noncomputable def gc (S : Sto) (d : D) (S' : Sto) : Option (D × Sto) :=
  if S'.length ≤ S.length then some (d, S')
  else if ((S'.drop S.length).any MO.keep) = true then some (d, S')
  else if GcOk S.length S S' then (fzD S.length (fzR S' S.length 4) d).map fun x => (x, S'.take S.length) else none
def kwOf (P : List (Str × Fn)) (f : Str) (n : Nat) (ks : List Str) : Option (List Nat) := (P.lookup f).bind fun fc =>
  if n + ks.length = fc.ps.length then some ((List.range fc.ps.length).map fun i => if i < n then i else n + ks.idxOf (fc.ps.getD i Str.empty)) else none
def startD (n : Nat) (ds : List D) : En := ds.map some ++ List.replicate (n - ds.length) none
noncomputable def callN (tb : List (Str × D)) (P : List (Str × Fn)) : Nat → Str → List D → Sto → Option (D × Sto)
  | 0, _, _, _ => none
  | n + 1, f, ds, S => (P.lookup f).bind fun fc => if ds.length = fc.ps.length then
      (exSs ⟨tb, callN tb P n, kwOf P⟩ fc.body (startD fc.N.length ds) S).bind fun p => match p.1 with
        | .rt d => gc S d p.2
        | .nx _ => gc S .non p.2
        | _ => none
    else none
noncomputable abbrev geN (tb : List (Str × D)) (P : List (Str × Fn)) (n : Nat) : GE := ⟨tb, callN tb P n, kwOf P⟩
end Dn

set_option maxHeartbeats 4000000
namespace Dn
open PySem PySem.Spec PyProof.Rows L2

/-! ### operations on values keep what they say -/
/-- what is wanted behind an expression -/
def Pst (K : PySem.W.Frag) (μ : Mu) (H : Hp) (S : Sto) (d : D) (Q : VK) : Prop := ∀ v H' μ', Ext μ H μ' H' → Rl K μ' H' S → Rep K μ' H' d v → Q v H'
section
variable {K : PySem.W.Frag} {μ μ' μ1 : Mu} {H H' H1 : Hp} {S S' : Sto} {d : D} {Q : VK} {v : V}
theorem Pst.at (h : Pst K μ H S d Q) (R : Rl K μ H S) (r : Rep K μ H d v) : Q v H := h v H μ Ext.refl R r
theorem Pst.ext (h : Pst K μ H S d Q) (E : Ext μ H μ1 H1) : Pst K μ1 H1 S d Q := fun v H' μ' E' R r => h v H' μ' (E.trans E') R r
theorem Pst.new (h : Pst K μ H S d Q) (R : Rl K μ H S) {p : Addr} {o : HO} (hp : H p = none) (r : Rep K μ (upd H p o) d v) : Q v (upd H p o) := h v _ μ (Ext.new hp) (R.new hp) r

theorem dr_non {d : D} (e : dr S d = .non) : d = .non := by
  cases d <;> simp only [dr] at e <;> first | rfl | exact e | (split at e <;> cases e) | cases e
theorem dr_int {d : D} {i : Int} (e : dr S d = .int i) : d = .int i := by
  cases d <;> simp only [dr] at e <;> first | exact e | (split at e <;> cases e) | cases e
theorem dr_bl {d : D} {i : Bool} (e : dr S d = .bl i) : d = .bl i := by
  cases d <;> simp only [dr] at e <;> first | exact e | (split at e <;> cases e) | cases e
theorem dr_str {d : D} {i : Str} (e : dr S d = .str i) : d = .str i := by
  cases d <;> simp only [dr] at e <;> first | exact e | (split at e <;> cases e) | cases e
theorem dr_tup {d : D} {i : List D} (e : dr S d = .tup i) : d = .tup i := by
  cases d <;> simp only [dr] at e <;> first | exact e | (split at e <;> cases e) | cases e
theorem dr_scr {d : D} {i : List D} (e : dr S d = .scr i) : d = .scr i := by
  cases d <;> simp only [dr] at e <;> first | exact e | (split at e <;> cases e) | cases e
theorem rep_int {i : Int} (h : Rep K μ H (.int i) v) : v = .int i := by simpa only [Rep] using h
theorem rep_bl {i : Bool} (h : Rep K μ H (.bl i) v) : v = .bl i := by simpa only [Rep] using h
theorem rep_str {i : Str} (h : Rep K μ H (.str i) v) : v = .str i := by simpa only [Rep] using h
theorem rep_non (h : Rep K μ H .non v) : v = .non := by simpa only [Rep] using h
theorem rep_tup {xs : List D} (h : Rep K μ H (.tup xs) v) : ∃ a vs, v = .ref a ∧ SqT K H a vs ∧ Reps K μ H xs vs := by simpa only [Rep] using h
theorem mk_int {i : Int} : Rep K μ H (.int i) (.int i) := by simp only [Rep]
theorem mk_bl {i : Bool} : Rep K μ H (.bl i) (.bl i) := by simp only [Rep]
theorem mk_str {i : Str} : Rep K μ H (.str i) (.str i) := by simp only [Rep]
theorem mk_non : Rep K μ H .non .non := by simp only [Rep]
theorem mk_tup {xs : List D} {a : Addr} {vs : List V} (h : SqT K H a vs) (r : Reps K μ H xs vs) : Rep K μ H (.tup xs) (.ref a) := by
  simp only [Rep]; exact ⟨a, vs, rfl, h, r⟩
theorem mk_lst {xs : List D} {a : Addr} {vs : List V} (h0 : μ.fz a) (h : H a = some (.lst vs)) (r : Reps K μ H xs vs) : Rep K μ H (.lst xs) (.ref a) := by
  simp only [Rep]; exact ⟨a, vs, rfl, h0, h, r⟩
theorem mk_ref {k : Nat} {a : Addr} (h : μ.ad[k]? = some a) : Rep K μ H (.ref k) (.ref a) := by
  simp only [Rep]; exact ⟨a, rfl, h⟩
/-- a list that may be read and put together: frozen, or the store's -/
theorem rep_lst (R : Rl K μ H S) {xs : List D} (e : dr S d = .lst xs) (h : Rep K μ H d v) : ∃ a vs, v = .ref a ∧ H a = some (.lst vs) ∧ Reps K μ H xs vs := by
  cases d with
  | ref k =>
    simp only [dr] at e
    cases q : S[k]? with
    | none => rw [q] at e; cases e
    | some mo =>
      rw [q] at e
      cases e
      simp only [Rep] at h
      obtain ⟨a, rfl, h1⟩ := h
      have z := R.at_ k mo a q h1
      cases mo with
      | lst kp ys =>
        obtain ⟨vs, e1, r⟩ := z
        exact ⟨a, vs, rfl, e1, r⟩
  | lst ys =>
    simp only [dr] at e
    cases e
    simp only [Rep] at h
    obtain ⟨a, vs, rfl, _, h1, h2⟩ := h
    exact ⟨a, vs, rfl, h1, h2⟩
  | _ => simp only [dr] at e <;> cases e
theorem ScrAt.sql {a : Addr} {vs : List V} (h : ScrAt K H a vs) : SqL K H a vs := by
  rcases h with ⟨o, h⟩ | h
  · exact .inl (.inr ⟨o, h⟩)
  · exact .inr h
theorem rep_litems (R : Rl K μ H S) {xs : List D} (e : litems S d = some xs) (h : Rep K μ H d v) : ∃ a vs, v = .ref a ∧ SqL K H a vs ∧ Reps K μ H xs vs := by
  cases d with
  | ref k =>
    simp only [litems] at e
    cases q : S[k]? with
    | none => rw [q] at e; cases e
    | some mo =>
      rw [q] at e
      have e2 : mo.xs = xs := Option.some.inj e
      obtain ⟨a, vs, h1, h2, h3⟩ := rep_lst (xs := xs) R (by simp only [dr, q, e2]) h
      exact ⟨a, vs, h1, SqL.of h2, h3⟩
  | lst ys =>
    simp only [litems, Option.some.injEq] at e
    subst e
    obtain ⟨a, vs, h1, h2, h3⟩ := rep_lst (xs := ys) R rfl h
    exact ⟨a, vs, h1, SqL.of h2, h3⟩
  | scr ys =>
    simp only [litems, Option.some.injEq] at e
    subst e
    simp only [Rep] at h
    obtain ⟨a, vs, rfl, h1, h2⟩ := h
    exact ⟨a, vs, rfl, h1.sql, h2⟩
  | _ => simp only [litems] at e <;> cases e
theorem rep_items (R : Rl K μ H S) {xs : List D} (e : items S d = some xs) (h : Rep K μ H d v) : ∃ a vs, v = .ref a ∧ (SqL K H a vs ∨ SqT K H a vs) ∧ Reps K μ H xs vs := by
  cases d with
  | tup ys =>
    simp only [items, Option.some.injEq] at e
    subst e
    obtain ⟨a, vs, h1, h2, h3⟩ := rep_tup h
    exact ⟨a, vs, h1, .inr h2, h3⟩
  | _ =>
    obtain ⟨a, vs, h1, h2, h3⟩ := rep_litems (xs := xs) R (by simpa only [items, litems] using e) h
    exact ⟨a, vs, h1, .inl h2, h3⟩
theorem Ext.refl' : Ext μ H μ H := Ext.refl
end

theorem mulOk_ok {i j : Int} (h : mulOk i j = true) : CMulW i j := by
  unfold mulOk at h
  have h2 : i.natAbs.log2 + j.natAbs.log2 < 1000000 := of_decide_eq_true h
  exact h2
section
variable {X : Cx}
/-- a two-place operation -/
def rBin (K : PySem.W.Frag) (o : Operator) : R2 := fun x y H Q => ∃ μ S d1 d2 d, Rl K μ H S ∧ Rep K μ H d1 x ∧ Rep K μ H d2 y ∧ binD o (dr S d1) (dr S d2) = some d ∧ Pst K μ H S d Q
theorem sizeL : (sizeLine : Nat) = 16777216 := sizeLine_eq
theorem op_bin (o : Operator) : OpR X (binaryOp o) (rBin X.K o) := by
  intro pins s σ H x y v u Q I rx ry h
  obtain ⟨μ, S, d1, d2, d, R, r1, r2, e, q⟩ := h
  generalize e1 : dr S d1 = a1 at e
  generalize e2 : dr S d2 = a2 at e
  unfold binD at e
  split at e
  · have z1 := dr_int e1; have z2 := dr_int e2; subst z1 z2; cases e
    cases rep_int r1; cases rep_int r2
    exact op_add pins s σ H _ _ v u Q I rx ry ⟨_, _, rfl, rfl, q.at R mk_int⟩
  · have z1 := dr_int e1; have z2 := dr_int e2; subst z1 z2; cases e
    cases rep_int r1; cases rep_int r2
    exact op_sub pins s σ H _ _ v u Q I rx ry ⟨_, _, rfl, rfl, q.at R mk_int⟩
  · have z1 := dr_int e1; have z2 := dr_int e2; subst z1 z2
    split at e
    · rename_i hm
      cases e
      cases rep_int r1; cases rep_int r2
      exact op_mulW pins s σ H _ _ v u Q I rx ry ⟨_, _, rfl, rfl, mulOk_ok hm, q.at R mk_int⟩
    · cases e
  · have z1 := dr_int e1; have z2 := dr_int e2; subst z1 z2
    split at e
    · rename_i hm
      cases e
      cases rep_int r1; cases rep_int r2
      have hm2 := Bool.and_eq_true_iff.mp hm
      exact op_fdivW pins s σ H _ _ v u Q I rx ry ⟨_, _, rfl, rfl, ⟨of_decide_eq_true hm2.1, of_decide_eq_true hm2.2⟩, q.at R mk_int⟩
    · cases e
  · have z1 := dr_int e1; have z2 := dr_int e2; subst z1 z2
    split at e
    · rename_i hm
      cases e
      cases rep_int r1; cases rep_int r2
      exact op_mod pins s σ H _ _ v u Q I rx ry ⟨_, _, rfl, rfl, hm, q.at R mk_int⟩
    · cases e
  · have z1 := dr_int e1; have z2 := dr_int e2; subst z1 z2
    split at e
    · rename_i hm
      cases e
      cases rep_int r1; cases rep_int r2
      exact op_pow pins s σ H _ _ v u Q I rx ry ⟨_, _, rfl, rfl, hm, q.at R mk_int⟩
    · cases e
  · have z1 := dr_str e1; have z2 := dr_str e2; subst z1 z2
    split at e
    · rename_i hm
      cases e
      cases rep_str r1; cases rep_str r2
      exact op_add_str pins s σ H _ _ v u Q I rx ry ⟨_, _, rfl, rfl, by rw [sizeL]; exact hm, q.at R mk_str⟩
    · cases e
  · rename_i xs ys
    have z1 := dr_tup e1; have z2 := dr_tup e2; subst z1 z2
    split at e
    · rename_i hm
      cases e
      obtain ⟨a, vs, rfl, h1, h2⟩ := rep_tup r1
      obtain ⟨b, us, rfl, h3, h4⟩ := rep_tup r2
      have l1 := h2.length
      have l2 := h4.length
      refine op_catA pins s σ H _ _ v u Q I rx ry ⟨a, b, vs, us, rfl, rfl, h1, h3, by rw [sizeL]; omega, fun z => ?_, fun z z2 => ?_, fun z z2 p hp => ?_⟩
      · subst z
        have x0 : xs = [] := List.eq_nil_of_length_eq_zero l1
        subst x0
        exact q.at R (mk_tup h3 h4)
      · subst z2
        have y0 : ys = [] := List.eq_nil_of_length_eq_zero l2
        subst y0
        rw [List.append_nil] at q
        exact q.at R (mk_tup h1 h2)
      · refine q.new R hp (mk_tup (SqT.of upd_same) ?_)
        exact (h2.append h4).mono R (Ext.new hp)
    · cases e
  · rename_i xs ys
    split at e
    · rename_i hm
      cases e
      obtain ⟨a, vs, rfl, h1, h2⟩ := rep_lst R e1 r1
      obtain ⟨b, us, rfl, h3, h4⟩ := rep_lst R e2 r2
      have l1 := h2.length
      have l2 := h4.length
      refine op_cat pins s σ H _ _ v u Q I rx ry ⟨a, b, vs, us, rfl, rfl, h1, h3, by rw [sizeL]; omega, fun p hp => ?_⟩
      refine q.new R hp (mk_lst (R.fz hp) upd_same ?_)
      exact (h2.append h4).mono R (Ext.new hp)
    · cases e
  · have z1 := dr_int e1; have z2 := dr_bl e2; subst z1 z2; cases e
    cases rep_int r1; cases rep_bl r2
    obtain ⟨t, rfl⟩ := rx; cases ry
    exact PySem.add_int_bool ⟨.int _, H, I.tok _, ⟨_, rfl⟩, q.at R mk_int⟩
  · have z1 := dr_int e1; have z2 := dr_bl e2; subst z1 z2; cases e
    cases rep_int r1; cases rep_bl r2
    obtain ⟨t, rfl⟩ := rx; cases ry
    exact PySem.IntBool.sub_int_bool ⟨.int _, H, I.tok _, ⟨_, rfl⟩, q.at R mk_int⟩
  · have z1 := dr_int e1; have z2 := dr_bl e2; subst z1 z2; cases e
    cases rep_int r1; cases rep_bl r2
    obtain ⟨t, rfl⟩ := rx; cases ry
    exact PySem.IntBool.mul_int_bool ⟨.int _, H, I.tok _, ⟨_, rfl⟩, q.at R mk_int⟩
  · have z1 := dr_bl e1; have z2 := dr_int e2; subst z1 z2; cases e
    cases rep_bl r1; cases rep_int r2
    cases rx; obtain ⟨t, rfl⟩ := ry
    exact PySem.IntBool.add_bool_int ⟨.int _, H, I.tok _, ⟨_, rfl⟩, q.at R mk_int⟩
  · have z1 := dr_bl e1; have z2 := dr_int e2; subst z1 z2; cases e
    cases rep_bl r1; cases rep_int r2
    cases rx; obtain ⟨t, rfl⟩ := ry
    exact PySem.IntBool.sub_bool_int ⟨.int _, H, I.tok _, ⟨_, rfl⟩, q.at R mk_int⟩
  · have z1 := dr_bl e1; have z2 := dr_int e2; subst z1 z2; cases e
    cases rep_bl r1; cases rep_int r2
    cases rx; obtain ⟨t, rfl⟩ := ry
    exact PySem.IntBool.mul_bool_int ⟨.int _, H, I.tok _, ⟨_, rfl⟩, q.at R mk_int⟩
  · have z1 := dr_bl e1; have z2 := dr_bl e2; subst z1 z2; cases e
    cases rep_bl r1; cases rep_bl r2
    cases rx; cases ry
    exact add_bool ⟨.int _, H, I.tok _, ⟨_, rfl⟩, q.at R mk_int⟩
  · have z1 := dr_bl e1; have z2 := dr_bl e2; subst z1 z2; cases e
    cases rep_bl r1; cases rep_bl r2
    cases rx; cases ry
    exact sub_bool ⟨.int _, H, I.tok _, ⟨_, rfl⟩, q.at R mk_int⟩
  · have z1 := dr_bl e1; have z2 := dr_bl e2; subst z1 z2; cases e
    cases rep_bl r1; cases rep_bl r2
    cases rx; cases ry
    exact mul_bool ⟨.int _, H, I.tok _, ⟨_, rfl⟩, q.at R mk_int⟩
  · cases e
end
/-! ### data as a whole -/
section
variable {K : PySem.W.Frag} {μ : Mu} {H : Hp} {S : Sto}
mutual
theorem dp_of : ∀ {d : D} {p : PyData} {v : V}, pd d = some p → Rep K μ H d v → Dp K H v p
  | .non, p, v, e, h => by simp only [pd, Option.some.injEq] at e; subst e; cases rep_non h; exact .non
  | .bl b, p, v, e, h => by simp only [pd, Option.some.injEq] at e; subst e; cases rep_bl h; exact .bl b
  | .int b, p, v, e, h => by simp only [pd, Option.some.injEq] at e; subst e; cases rep_int h; exact .int b
  | .str b, p, v, e, h => by simp only [pd, Option.some.injEq] at e; subst e; cases rep_str h; exact .str b
  | .tup xs, p, v, e, h => by
    simp only [pd] at e
    cases q : pds xs with
    | none => rw [q] at e; cases e
    | some ps =>
      rw [q] at e; cases e
      obtain ⟨a, vs, rfl, h1, h2⟩ := rep_tup h
      exact .tup h1 (dps_of q h2)
  | .lst xs, p, v, e, h => by
    simp only [pd] at e
    cases q : pds xs with
    | none => rw [q] at e; cases e
    | some ps =>
      rw [q] at e; cases e
      simp only [Rep] at h
      obtain ⟨a, vs, rfl, _, h1, h2⟩ := h
      exact .lst (SqL.of h1) (dps_of q h2)
  | .scr xs, p, v, e, h => by
    simp only [pd] at e
    cases q : pds xs with
    | none => rw [q] at e; cases e
    | some ps =>
      rw [q] at e; cases e
      simp only [Rep] at h
      obtain ⟨a, vs, rfl, h1, h2⟩ := h
      exact .lst h1.sql (dps_of q h2)
  | .dic _ _, p, v, e, h => by simp only [pd] at e; cases e
  | .ref _, p, v, e, h => by simp only [pd] at e; cases e
theorem dps_of : ∀ {ds : List D} {ps : List PyData} {vs : List V}, pds ds = some ps → Reps K μ H ds vs → DpAll K H vs ps
  | [], ps, vs, e, h => by simp only [pds, Option.some.injEq] at e; subst e; rw [reps_nil.mp h]; exact .nil
  | d :: ds, ps, vs, e, h => by
    simp only [pds] at e
    cases q : pd d with
    | none => rw [q] at e; cases e
    | some p =>
      rw [q] at e
      simp only [Option.bind_some] at e
      cases q2 : pds ds with
      | none => rw [q2] at e; cases e
      | some r =>
        rw [q2] at e; cases e
        obtain ⟨v, us, rfl, h1, h2⟩ := reps_cons.mp h
        exact .cons (dp_of q h1) (dps_of q2 h2)
end
theorem dp_dr (R : Rl K μ H S) {d : D} {p : PyData} {v : V} (e : pd (dr S d) = some p) (h : Rep K μ H d v) : Dp K H v p := by
  cases d with
  | ref k =>
    cases q : S[k]? with
    | none => simp only [dr, q] at e; simp only [pd] at e; cases e
    | some mo =>
      have e1 : dr S (.ref k) = .lst mo.xs := by simp only [dr, q]
      obtain ⟨a, vs, rfl, h1, h2⟩ := rep_lst R e1 h
      rw [e1] at e
      simp only [pd] at e
      cases q2 : pds mo.xs with
      | none => rw [q2] at e; cases e
      | some ps =>
        rw [q2] at e; cases e
        exact .lst (SqL.of h1) (dps_of q2 h2)
  | _ => exact dp_of (by simpa only [dr] using e) h
/-- a flat value is what it stands for -/
theorem flat_v {d : D} {v : V} (f : flatD d = true) (h : Rep K μ H d v) : v = vD d ∧ flatV v = true := by
  cases d with
  | non => cases rep_non h; exact ⟨rfl, rfl⟩
  | bl b => cases rep_bl h; exact ⟨rfl, rfl⟩
  | int b => cases rep_int h; exact ⟨rfl, rfl⟩
  | str b => cases rep_str h; exact ⟨rfl, rfl⟩
  | _ => cases f
theorem flats_v : ∀ {ds : List D} {vs : List V}, ds.all flatD = true → Reps K μ H ds vs → vs = ds.map vD ∧ vs.all flatV = true
  | [], vs, _, h => by rw [reps_nil.mp h]; exact ⟨rfl, rfl⟩
  | d :: ds, vs, f, h => by
    obtain ⟨v, us, rfl, h1, h2⟩ := reps_cons.mp h
    obtain ⟨f1, f2⟩ := Bool.and_eq_true_iff.mp (show (flatD d && ds.all flatD) = true from f)
    obtain ⟨e1, g1⟩ := flat_v f1 h1
    obtain ⟨e2, g2⟩ := flats_v f2 h2
    refine ⟨by rw [e1, e2]; rfl, ?_⟩
    show (flatV v && us.all flatV) = true
    rw [g1, g2]; rfl
theorem dr_flat {d : D} (f : flatD (dr S d) = true) : dr S d = d := by
  cases d with
  | ref k =>
    cases q : S[k]? with
    | none => simp only [dr, q]
    | some mo => simp only [dr, q] at f; cases f
  | _ => simp only [dr]
end

section
variable {X : Cx}
def rCmp (K : PySem.W.Frag) (o : CmpOp) : R2 := fun x y H Q => ∃ μ S d1 d2 k, Rl K μ H S ∧ Rep K μ H d1 x ∧ Rep K μ H d2 y ∧ cmpD S o d1 d2 = some k ∧ Q (.bl k) H
theorem tup_vals {pins : List (Addr × Obj)} {s : Shared} {σ : L2.St} {H : Hp} {μ : Mu} {xs : List D} {v : V} {u : Value} (I : Inv X pins σ H s) (h : Rep X.K μ H (.tup xs) v) (r : RelV v u) :
    ∃ (a : Addr) (its : List Value), v = .ref a ∧ u = .ref a ∧ its.length = xs.length ∧ s.heap.IsTuple a its.toArray := by
  obtain ⟨a, vs, rfl, h1, h2⟩ := rep_tup h
  obtain ⟨its, rv, ht, _⟩ := I.tuple h1
  exact ⟨a, its, rfl, r, by rw [← rv.length, h2.length], ht⟩
theorem emp_all (its its2 : List Value) (e : Nat → Bool) (h : its.length = 0 ∨ its2.length = 0) :
    ((List.range (min its.toArray.size its2.toArray.size)).all e && its.toArray.size == its2.toArray.size) = (its.isEmpty && its2.isEmpty) := by
  rcases h with h | h
  · have e0 : its = [] := List.eq_nil_of_length_eq_zero h
    subst e0
    cases its2 <;> simp
  · have e0 : its2 = [] := List.eq_nil_of_length_eq_zero h
    subst e0
    cases its <;> simp
theorem isEmpty_len {α β : Type} {xs : List α} {ys : List β} (h : xs.length = ys.length) : xs.isEmpty = ys.isEmpty := by
  cases xs <;> cases ys <;> simp at h ⊢
/-- == where one is an empty tuple -/
theorem eq_emp {pins : List (Addr × Obj)} {s : Shared} {σ : L2.St} {H : Hp} {μ : Mu} {xs ys : List D} {x y : V} {v u : Value} {Q : VK} (hu : X.A.units < cLine) (I : Inv X pins σ H s) (rx : RelV x v) (ry : RelV y u)
    (h1 : Rep X.K μ H (.tup xs) x) (h2 : Rep X.K μ H (.tup ys) y) (he : xs = [] ∨ ys = []) (q : Q (.bl (xs.isEmpty && ys.isEmpty)) H) : wpAny (model X.prog X.w) X.A (compareOp .Eq v u) (EP X pins σ Q) X.xe s := by
  obtain ⟨a, its, rfl, rfl, l1, t1⟩ := tup_vals I h1 rx
  obtain ⟨b, its2, rfl, rfl, l2, t2⟩ := tup_vals I h2 ry
  have he' : its.length = 0 ∨ its2.length = 0 := by
    rcases he with e | e
    · left; rw [l1, e]; rfl
    · right; rw [l2, e]; rfl
  refine SeqAt.eq_tupleAt (e := fun _ => true) t1 t2 hu (fun j j1 j2 => ?_) ?_
  · exfalso
    simp only [List.size_toArray] at j1 j2
    omega
  · rw [emp_all its its2 _ he', isEmpty_len l1, isEmpty_len l2]
    exact ⟨.bl _, H, I, rfl, q⟩
theorem ne_emp {pins : List (Addr × Obj)} {s : Shared} {σ : L2.St} {H : Hp} {μ : Mu} {xs ys : List D} {x y : V} {v u : Value} {Q : VK} (hu : X.A.units < cLine) (I : Inv X pins σ H s) (rx : RelV x v) (ry : RelV y u)
    (h1 : Rep X.K μ H (.tup xs) x) (h2 : Rep X.K μ H (.tup ys) y) (he : xs = [] ∨ ys = []) (q : Q (.bl (!(xs.isEmpty && ys.isEmpty))) H) : wpAny (model X.prog X.w) X.A (compareOp .NotEq v u) (EP X pins σ Q) X.xe s := by
  obtain ⟨a, its, rfl, rfl, l1, t1⟩ := tup_vals I h1 rx
  obtain ⟨b, its2, rfl, rfl, l2, t2⟩ := tup_vals I h2 ry
  have he' : its.length = 0 ∨ its2.length = 0 := by
    rcases he with e | e
    · left; rw [l1, e]; rfl
    · right; rw [l2, e]; rfl
  refine (SeqAt.RcNeAt.tuples (A := X.A) (s := s) (e := fun _ => true) t1 t2 hu (fun j j1 j2 => ?_)) X.prog X.w _ _ ?_
  · exfalso
    simp only [List.size_toArray] at j1 j2
    omega
  · rw [emp_all its its2 _ he', isEmpty_len l1, isEmpty_len l2]
    exact ⟨.bl _, H, I, rfl, q⟩
/-- what eqD says, taken apart -/
theorem eqD_ways {d e : D} {k : Bool} (h : eqD d e = some k) :
    (flatD d = true ∧ flatD e = true ∧ scal (vD d) (vD e) = true ∧ k = decide (vD d = vD e)) ∨ (∃ xs ys, d = .tup xs ∧ e = .tup ys ∧ (xs = [] ∨ ys = []) ∧ k = (xs.isEmpty && ys.isEmpty)) ∨
      ∃ p q, pd d = some p ∧ pd e = some q ∧ SeqAt.shaped p = true ∧ SeqAt.shaped q = true ∧ k = PyData.eqv p q := by
  unfold eqD at h
  split at h
  · rename_i c
    simp only [Bool.and_eq_true] at c
    exact .inl ⟨c.1.1, c.1.2, c.2, (Option.some.inj h).symm⟩
  · have go : ∀ {d e : D}, eqP d e = some k → ∃ p q, pd d = some p ∧ pd e = some q ∧ SeqAt.shaped p = true ∧ SeqAt.shaped q = true ∧ k = PyData.eqv p q := by
      intro d e h
      unfold eqP at h
      cases q1 : pd d with
      | none => rw [q1] at h; cases h
      | some p =>
        rw [q1] at h
        simp only [Option.bind_some] at h
        cases q2 : pd e with
        | none => rw [q2] at h; cases h
        | some q =>
          rw [q2] at h
          simp only [Option.bind_some] at h
          split at h
          · rename_i c
            simp only [Bool.and_eq_true] at c
            exact ⟨p, q, rfl, rfl, c.1, c.2, (Option.some.inj h).symm⟩
          · cases h
    split at h
    · exact .inr (.inl ⟨_, _, rfl, rfl, .inr rfl, by rw [← Option.some.inj h]; simp⟩)
    · exact .inr (.inl ⟨_, _, rfl, rfl, .inl rfl, by rw [← Option.some.inj h]; simp⟩)
    · exact .inr (.inr (go h))
theorem inD_ways {S : Sto} {d e : D} {k : Bool} (h : inD S d e = some k) : ∃ xs, items S e = some xs ∧
    ((flatD d = true ∧ xs.all flatD = true ∧ k = xs.any fun y => eqV (vD y) (vD d)) ∨
      ∃ p qs, pd d = some p ∧ pds xs = some qs ∧ SeqAt.shaped p = true ∧ SeqAt.shaped (.list qs) = true ∧ k = qs.any fun z => PyData.eqv z p) := by
  unfold inD at h
  cases q0 : items S e with
  | none => rw [q0] at h; cases h
  | some xs =>
    rw [q0] at h
    simp only [Option.bind_some] at h
    refine ⟨xs, rfl, ?_⟩
    split at h
    · rename_i c
      simp only [Bool.and_eq_true] at c
      exact .inl ⟨c.1, c.2, (Option.some.inj h).symm⟩
    · cases q1 : pd d with
      | none => rw [q1] at h; cases h
      | some p =>
        rw [q1] at h
        simp only [Option.bind_some] at h
        cases q2 : pds xs with
        | none => rw [q2] at h; cases h
        | some q =>
          rw [q2] at h
          simp only [Option.bind_some] at h
          split at h
          · rename_i c
            simp only [Bool.and_eq_true] at c
            exact .inr ⟨p, q, rfl, rfl, c.1, c.2, (Option.some.inj h).symm⟩
          · cases h
theorem op_inX (hu : X.A.units + 66 < cLine) {pins : List (Addr × Obj)} {s : Shared} {σ : L2.St} {H : Hp} {x y : V} {v u : Value} {Q : VK} {μ : Mu} {S : Sto} {d1 d2 : D} {k : Bool} (I : Inv X pins σ H s) (rx : RelV x v) (ry : RelV y u)
    (R : Rl X.K μ H S) (r1 : Rep X.K μ H d1 x) (r2 : Rep X.K μ H d2 y) (e : inD S d1 d2 = some k) :
    (Q (.bl k) H → wpAny (model X.prog X.w) X.A (compareOp .In v u) (EP X pins σ Q) X.xe s) ∧ (Q (.bl (!k)) H → wpAny (model X.prog X.w) X.A (compareOp .NotIn v u) (EP X pins σ Q) X.xe s) := by
  obtain ⟨xs, hi, h⟩ := inD_ways e
  obtain ⟨a, vs, rfl, hs, hr⟩ := rep_items R hi r2
  rcases h with ⟨f1, f2, rfl⟩ | ⟨p, qs, z1, z2, s1, s2, rfl⟩
  · obtain ⟨rfl, g1⟩ := flat_v f1 r1
    obtain ⟨rfl, g2⟩ := flats_v f2 hr
    have e3 : inV (vD d1) (xs.map vD) = xs.any fun y => eqV (vD y) (vD d1) := by unfold inV; rw [List.any_map]; rfl
    refine ⟨fun q => ?_, fun q => ?_⟩
    · refine op_in_seq pins s σ H _ _ v u Q I rx ry ⟨a, _, rfl, hs, g1, g2, ?_⟩
      rw [if_neg Bool.false_ne_true, e3]; exact q
    · refine op_notIn_seq pins s σ H _ _ v u Q I rx ry ⟨a, _, rfl, hs, g1, g2, ?_⟩
      rw [if_pos rfl, e3]; exact q
  · have dp := dp_of z1 r1
    have dps := dps_of z2 hr
    rcases hs with hs | hs
    · exact ⟨fun q => op_inD (by omega) pins s σ H _ _ v u Q I rx ry ⟨p, qs, dp, .lst hs dps, s1, s2, q⟩, fun q => op_notInD (by omega) pins s σ H _ _ v u Q I rx ry ⟨p, qs, dp, .lst hs dps, s1, s2, q⟩⟩
    · obtain ⟨as, w1⟩ := Dp.reads I p x v dp rx
      obtain ⟨bs, w2⟩ := Dp.reads I (.tuple qs) _ u (.tup hs dps) ry
      exact ⟨fun q => SeqAt.in_tuple_reads w2 w1 (SeqAt.canLay_of_shaped s2) (SeqAt.canLay_of_shaped s1) (room_in_shaped s1 (by omega)) ⟨.bl _, H, I, rfl, q⟩,
        fun q => SeqAt.notIn_tuple_reads w2 w1 (SeqAt.canLay_of_shaped s2) (SeqAt.canLay_of_shaped s1) (room_in_shaped s1 (by omega)) ⟨.bl _, H, I, rfl, q⟩⟩
theorem op_cmp (hu : X.A.units + 66 < cLine) (o : CmpOp) : OpR X (compareOp o) (rCmp X.K o) := by
  intro pins s σ H x y v u Q I rx ry h
  obtain ⟨μ, S, d1, d2, k, R, r1, r2, e, q⟩ := h
  cases o with
  | Eq =>
    have e' : eqD (dr S d1) (dr S d2) = some k := e
    rcases eqD_ways e' with ⟨f1, f2, sc, rfl⟩ | ⟨xs, ys, z1, z2, he, rfl⟩ | ⟨p, p', z1, z2, s1, s2, rfl⟩
    · have w1 := dr_flat f1; have w2 := dr_flat f2; rw [w1] at f1 sc q; rw [w2] at f2 sc q
      obtain ⟨rfl, _⟩ := flat_v f1 r1
      obtain ⟨rfl, _⟩ := flat_v f2 r2
      exact op_eq pins s σ H _ _ v u Q I rx ry ⟨sc, q⟩
    · have w1 := dr_tup z1; have w2 := dr_tup z2; subst w1 w2
      exact eq_emp (by omega) I rx ry r1 r2 he q
    · exact op_eqD (by omega) pins s σ H _ _ v u Q I rx ry ⟨p, p', dp_dr R z1 r1, dp_dr R z2 r2, s1, s2, q⟩
  | NotEq =>
    have e' : (eqD (dr S d1) (dr S d2)).map (!·) = some k := e
    cases e2 : eqD (dr S d1) (dr S d2) with
    | none => rw [e2] at e'; cases e'
    | some k' =>
      rw [e2] at e'
      have e3 : (!k') = k := Option.some.inj e'
      subst e3
      rcases eqD_ways e2 with ⟨f1, f2, sc, rfl⟩ | ⟨xs, ys, z1, z2, he, rfl⟩ | ⟨p, p', z1, z2, s1, s2, rfl⟩
      · have w1 := dr_flat f1; have w2 := dr_flat f2; rw [w1] at f1 sc q; rw [w2] at f2 sc q
        obtain ⟨rfl, _⟩ := flat_v f1 r1
        obtain ⟨rfl, _⟩ := flat_v f2 r2
        exact op_ne pins s σ H _ _ v u Q I rx ry ⟨sc, q⟩
      · have w1 := dr_tup z1; have w2 := dr_tup z2; subst w1 w2
        exact ne_emp (by omega) I rx ry r1 r2 he q
      · exact op_neD (by omega) pins s σ H _ _ v u Q I rx ry ⟨p, p', dp_dr R z1 r1, dp_dr R z2 r2, s1, s2, q⟩
  | Lt =>
    simp only [cmpD] at e
    split at e
    · cases rep_int r1; cases rep_int r2
      exact op_lt pins s σ H _ _ v u Q I rx ry ⟨_, _, rfl, rfl, by cases e; exact q⟩
    · cases e
  | LtE =>
    simp only [cmpD] at e
    split at e
    · cases rep_int r1; cases rep_int r2
      exact op_le pins s σ H _ _ v u Q I rx ry ⟨_, _, rfl, rfl, by cases e; exact q⟩
    · cases e
  | Gt =>
    simp only [cmpD] at e
    split at e
    · cases rep_int r1; cases rep_int r2
      exact op_gt pins s σ H _ _ v u Q I rx ry ⟨_, _, rfl, rfl, by cases e; exact q⟩
    · cases e
  | GtE =>
    simp only [cmpD] at e
    split at e
    · cases rep_int r1; cases rep_int r2
      exact op_ge pins s σ H _ _ v u Q I rx ry ⟨_, _, rfl, rfl, by cases e; exact q⟩
    · cases e
  | Is =>
    simp only [cmpD] at e
    split at e
    · cases rep_non r2
      refine op_isN pins s σ H _ _ v u Q I rx ry ⟨rfl, ?_⟩
      rw [← Option.some.inj e] at q
      revert q
      cases d1 <;> simp only [Rep] at r1 <;> first | (subst r1; intro q; simpa using q) | (obtain ⟨a, vs, rfl, _⟩ := r1; intro q; simpa using q) | (obtain ⟨a, rfl, _⟩ := r1; intro q; simpa using q)
    · cases e
  | IsNot =>
    simp only [cmpD] at e
    split at e
    · cases rep_non r2
      refine op_notN pins s σ H _ _ v u Q I rx ry ⟨rfl, ?_⟩
      rw [← Option.some.inj e] at q
      revert q
      cases d1 <;> simp only [Rep] at r1 <;> first | (subst r1; intro q; simpa using q) | (obtain ⟨a, vs, rfl, _⟩ := r1; intro q; simpa using q) | (obtain ⟨a, rfl, _⟩ := r1; intro q; simpa using q)
    · cases e
  | In => exact (op_inX hu I rx ry R r1 r2 (show inD S d1 d2 = some k from e)).1 q
  | NotIn =>
    have e' : (inD S d1 d2).map (!·) = some k := e
    cases e2 : inD S d1 d2 with
    | none => rw [e2] at e'; cases e'
    | some k' =>
      rw [e2] at e'
      have e3 : (!k') = k := Option.some.inj e'
      subst e3
      exact (op_inX hu I rx ry R r1 r2 e2).2 q
end
end Dn

set_option maxHeartbeats 4000000
namespace Dn
open PySem PySem.Spec PyProof.Rows L2

/-! ### what a def promises: its own evaluation -/
abbrev SpG := List V → Hp → VK → Prop
structure FnG (P : Program) (w : World) (K : PySem.W.Frag) (mg : Str → Option Value) (base : Heap) (k : Nat) (f : Addr) (fd : FuncData) (ps : List Str) (sp : SpG) : Prop where
  len : ∀ vs H Q, sp vs H Q → vs.length = ps.length
  run : ∀ (A : Around) (outer : List Env) (s : Shared) (H : Hp) (args : Args) (us : List Value) (vs : List V) (Q : VK), Room k A → A.guards = some [] → Env0 P w K mg base A outer s H → BindsTo s fd args (ps.zip us) → Vals vs us → sp vs H Q →
    codeAny (model P w) A (.call (.ref f) args) (CR CX0 outer P w H s Q E0) s
theorem FnG.mono {P : Program} {w : World} {K : PySem.W.Frag} {mg : Str → Option Value} {base : Heap} {j k : Nat} {f : Addr} {fd : FuncData} {ps : List Str} {sp : SpG} (F : FnG P w K mg base j f fd ps sp) (h : j ≤ k) : FnG P w K mg base k f fd ps sp :=
  ⟨F.len, fun A outer s H args us vs Q hr => F.run A outer s H args us vs Q (hr.mono h)⟩
/-- f at ds, in the store S -/
def spEv (K : PySem.W.Frag) (g : GE) (f : Str) : SpG := fun vs H Q => ∃ μ S ds d S', Rl K μ H S ∧ Reps K μ H ds vs ∧ g.call f ds S = some (d, S') ∧ Pst K μ H S' d Q
theorem fnG_of {P : Program} {w : World} {K : PySem.W.Frag} {mg : Str → Option Value} {base : Heap} {k : Nat} {f : Addr} {name qual : Str} {params : Arguments} {body : List Stmt} {scope : Scope} {dV kV doc pm cdv ct oc : Value} {an od : Option Addr}
    {osl : Array (Option Value)} {N ps : List Str} {sp : SpG} (lk : K.lookup f = some ⟨oc, od, .func (PySem.W.fnOf name qual params body scope dV kV doc pm an cdv ct), osl⟩) (hcd : PySem.W.codeIn K cdv qual = true) (S : FnScope N ps scope)
    (len : ∀ vs H Q, sp vs H Q → vs.length = ps.length)
    (hbody : ∀ (A : Around) (outer : List Env) (s : Shared) (H : Hp) (vs : List V) (Q : VK), Room k (A.deeper (envOfC qual scope s.heap.objs.size f cdv)) → A.guards = some [] → sp vs H Q →
      ∃ t, PSs (cxOf CX0 P w K mg base N qual scope f cdv A outer s H E0) body t ∧ t { nx := fun _ H' => Q .non H', rt := Q } (start N vs) H) :
    FnG P w K mg base (k + 1) f (PySem.W.fnOf name qual params body scope dV kV doc pm an cdv ct) ps sp := by
  refine ⟨len, fun A outer s H args us vs Q room guards at0 bound rel promise => ?_⟩
  have inBase := fun b o e => (at0.bs b o e).1
  have written : K.In s.heap := at0.mod.kin.keeps inBase
  have kinds : ∀ y ∈ ps.zip us, scope.names.lookup y.1 = some .local ∨ (scope.names.lookup y.1 = some .cell ∧ ((cellsFrom (s.heap.objs.size + 1) scope.names []).lookup y.1).isSome = true) := by
    rintro ⟨x, z⟩ hx
    cases S.par x (List.of_mem_zip hx).1 with
    | inl q => exact .inl q
    | inr q => exact .inr ⟨q, PySem.W.cellsFrom_some _ _ _ (.inl q)⟩
  apply codeAny_call_function room.depth (written _ _ lk) rfl S.co S.gen rfl (PySem.W.codeRec_of written hcd)
  apply bound
  apply wpAny_newFunctionEnv_cells S.kind kinds
  rintro env rfl s1 came
  refine ⟨(at0.mod.nolimit.keeps inBase).keeps came.toInCall.keep, codeAny_func ?_⟩
  obtain ⟨t, okB, atB⟩ := hbody A outer s H vs Q (room.deeper _) guards promise
  have J := inv_start (CX := CX0) (E := E0) S room.hd at0 (len _ _ _ promise) rel came
  apply wpAny_mono (okB.run [] s1 (start N vs) H _ J atB)
  · intro fl s2 ended
    cases fl with
    | ret u =>
      obtain ⟨z, σ2, H2, J2, rz, q⟩ := ended
      exact ⟨z, H2, J2.os, J2.bare, J2.base, J2.hok, rz, q⟩
    | next =>
      obtain ⟨σ2, H2, J2, q⟩ := ended
      exact ⟨V.non, H2, J2.os, J2.bare, J2.base, J2.hok, rfl, q⟩
    | brk => exact ended.elim fun _ h => h.elim fun _ h => h.2.elim
    | cont => exact ended.elim fun _ h => h.elim fun _ h => h.2.elim
  · exact fun _ _ h => h
/-! ### what stands around an expression -/
structure Kt where
  N : List Str
  sc : Scope
  /-- names whose cells are the block's own -/
  fl : Str → Bool
  /-- built-in names that the module leaves as they are -/
  free : List Str
  /-- built-in functions brought in -/
  bf : List (Str × String)
  fns : List Str
  /-- calls with keywords: the def, how many positional, the keywords -/
  kwl : List (Str × Nat × List Str)
  /-- the module's data that may be read -/
  dn : List Str
structure Kc extends Kt where
  g : GE
def pickV (xs : List Value) (pl : List Nat) : List Value := pl.map fun i => xs.getD i .none
/-- where a def stands, and what it keeps -/
structure CallOk (X : Cx) (k : Kc) (f : Str) (a : Addr) (fd : FuncData) (ps : List Str) (lv : Nat) : Prop where
  mg : X.mg f = some (.ref a)
  kp : PySem.W.keepIn X.K (.ref a) = true
  bd : Binds X.K fd ps []
  fn : FnG X.prog X.w X.K X.mg X.base lv a fd ps (spEv X.K k.g f)
  rm : Room lv X.A
  kw : ∀ (n : Nat) (ks : List Str) (pl : List Nat), (f, n, ks) ∈ k.kwl → k.g.kw f n ks = some pl → pl.length = ps.length ∧ ∀ (s : Shared) (us ws : List Value), us.length = n → ws.length = ks.length → BindsTo s fd ⟨us, ks.zip ws⟩ (ps.zip (pickV (us ++ ws) pl))
structure KcOk (X : Cx) (k : Kc) : Prop where
  N : k.N = X.N
  sc : k.sc = X.env.scope
  nd : X.N.Nodup
  calm : X.calm = true
  hu : X.A.units + 66 < cLine
  gd : X.A.guards = some []
  fl : ∀ x, k.fl x = true → X.fn x = true
  data : ∀ x d, k.g.data.lookup x = some d → ∃ u v, X.mg x = some u ∧ RelV v u ∧ ∀ μ H, Rep X.K μ H d v
  dn : ∀ x ∈ k.dn, (k.g.data.lookup x).isSome = true
  free : ∀ x ∈ k.free, X.mg x = none
  bf : ∀ x id, k.bf.lookup x = some id → X.mg x = some (.builtin id)
  call : ∀ f ∈ k.fns, ∃ a fd ps lv, CallOk X k f a fd ps lv

/-! ### readings -/
def tEv (K : PySem.W.Frag) (G : GE) (c : C) : TE := fun σ H Q => ∃ μ δ S d S', RepEnv K μ H σ δ ∧ Rl K μ H S ∧ evE G c δ S = some (d, S') ∧ Pst K μ H S' d Q
def tTv (K : PySem.W.Frag) (G : GE) (c : C) : TT := fun σ H Q => ∃ μ δ S b S', RepEnv K μ H σ δ ∧ Rl K μ H S ∧ evT G c δ S = some (b, S') ∧ ∀ H' μ', Ext μ H μ' H' → Rl K μ' H' S' → Q b H'
def tEvs (K : PySem.W.Frag) (G : GE) (cs : List C) : TA := fun σ H Q => ∃ μ δ S ds S', RepEnv K μ H σ δ ∧ Rl K μ H S ∧ evEs G cs δ S = some (ds, S') ∧ ∀ vs H' μ', Ext μ H μ' H' → Rl K μ' H' S' → Reps K μ' H' ds vs → Q vs H'
section
variable {X : Cx} {k : Kc}
theorem _root_.L2.PE.imp {e : Expr} {t t' : TE} (h : PE X e t) (i : ∀ σ H Q, t' σ H Q → t σ H Q) : PE X e t' := ⟨fun pins s σ H Q I q => h.run pins s σ H Q I (i σ H Q q)⟩
theorem _root_.L2.PT.imp {e : Expr} {t t' : TT} (h : PT X e t) (i : ∀ σ H Q, t' σ H Q → t σ H Q) : PT X e t' := ⟨fun pins s σ H Q I q => h.run pins s σ H Q I (i σ H Q q)⟩
theorem _root_.L2.PW.imp {e : Expr} {t t' : TT} (h : PW X e t) (i : ∀ σ H Q, t' σ H Q → t σ H Q) : PW X e t' := ⟨fun w pins s σ H Q I q => h.run w pins s σ H Q I (i σ H Q q)⟩
theorem _root_.L2.PA.imp {es : List Expr} {t t' : TA} (h : PA X es t) (i : ∀ σ H Q, t' σ H Q → t σ H Q) : PA X es t' := ⟨fun pos pins s σ H Q I q => h.run pos pins s σ H Q I (i σ H Q q)⟩
theorem _root_.L2.PK.imp {es : List Keyword} {t t' : TA} (h : PK X es t) (i : ∀ σ H Q, t' σ H Q → t σ H Q) : PK X es t' := ⟨fun pos pins s σ H Q I q => h.run pos pins s σ H Q I (i σ H Q q)⟩
theorem _root_.L2.PS.imp {e : Stmt} {t t' : TS} (h : PS X e t) (i : ∀ D σ H, t' D σ H → t D σ H) : PS X e t' := ⟨fun pins s σ H D I q => h.run pins s σ H D I (i D σ H q)⟩
theorem _root_.L2.PSs.imp {e : List Stmt} {t t' : TS} (h : PSs X e t) (i : ∀ D σ H, t' D σ H → t D σ H) : PSs X e t' := ⟨fun pins s σ H D I q => h.run pins s σ H D I (i D σ H q)⟩
theorem bindS {α β : Type} {o : Option α} {f : α → Option β} {b : β} (h : o.bind f = some b) : ∃ a, o = some a ∧ f a = some b := by
  cases o with
  | none => cases h
  | some a => exact ⟨a, rfl, h⟩
theorem mapS {α β : Type} {o : Option α} {f : α → β} {b : β} (h : o.map f = some b) : ∃ a, o = some a ∧ f a = b := by
  cases o with
  | none => cases h
  | some a => exact ⟨a, rfl, Option.some.inj h⟩

/-! ### leaves -/
theorem e_const {e : Expr} {v : V} {c : C} {d : D} (h : PE X e (tC v)) (ev : ∀ δ S, evE k.g c δ S = some (d, S)) (r : ∀ μ H, Rep X.K μ H d v) : PE X e (tEv X.K k.g c) := h.imp fun σ H Q ⟨μ, δ, S, d', S', E, R, e1, q⟩ => by
  rw [ev] at e1; cases e1
  exact q.at R (r μ H)
theorem e_non {j pos} : PE X (.Constant .none j pos) (tEv X.K k.g .non) := e_const pe_non (fun _ _ => by simp only [evE]) fun _ _ => mk_non
theorem e_bl {b j pos} : PE X (.Constant (.bool b) j pos) (tEv X.K k.g (.bl b)) := e_const pe_bl (fun _ _ => by simp only [evE]) fun _ _ => mk_bl
theorem e_int {b j pos} : PE X (.Constant (.int b) j pos) (tEv X.K k.g (.int b)) := e_const pe_int (fun _ _ => by simp only [evE]) fun _ _ => mk_int
theorem e_str {b j pos} : PE X (.Constant (.str b) j pos) (tEv X.K k.g (.str b)) := e_const pe_str (fun _ _ => by simp only [evE]) fun _ _ => mk_str
def visB (sc : Scope) (x : Str) : Bool := match sc.names.lookup x with
  | some .local => true
  | some .cell => true
  | some .free => true
  | _ => false
theorem visB_ok {sc : Scope} {x : Str} (h : visB sc x = true) : Vis sc x := by
  unfold visB at h
  unfold Vis
  split at h
  · exact .inl (by assumption)
  · exact .inr (.inl (by assumption))
  · exact .inr (.inr (by assumption))
  · cases h
def glB (sc : Scope) (x : Str) : Bool := decide (sc.names.lookup x = some .globalImplicit)
theorem glB_ok (hk : KcOk X k) {x : Str} (h : glB k.sc x = true) : Gl X x := by
  have h2 : k.sc.names.lookup x = some .globalImplicit := of_decide_eq_true h
  rw [hk.sc] at h2
  exact h2
def nmB (x : Str) : Bool := !(x == ("__debug__" : Str)) && !(x == ("__classdict__" : Str)) && !(decide (x = ("__name__" : Str)))
theorem nmB_ok {x : Str} (h : nmB x = true) : (x == ("__debug__" : Str)) = false ∧ (x == ("__classdict__" : Str)) = false ∧ x ≠ ("__name__" : Str) := by
  unfold nmB at h
  simp only [Bool.and_eq_true, Bool.not_eq_true', decide_eq_false_iff_not] at h
  exact ⟨h.1.1, h.1.2, h.2⟩
theorem e_var (hk : KcOk X k) {i : Nat} {x : Str} {pos : Pos} (h1 : k.N[i]? = some x) (h2 : visB k.sc x = true) (h3 : nmB x = true) : PE X (.Name x pos) (tEv X.K k.g (.var i)) := by
  obtain ⟨n1, n2, _⟩ := nmB_ok h3
  refine (pe_var (X := X) (i := i) (by rw [← hk.N]; exact h1) (by rw [← hk.sc]; exact visB_ok h2) n1 n2).imp fun σ H Q ⟨μ, δ, S, d, S', E, R, e1, q⟩ => ?_
  simp only [evE] at e1
  cases e2 : δ[i]? with
  | none => rw [e2] at e1; cases e1
  | some o =>
    cases o with
    | none => rw [e2] at e1; cases e1
    | some d' =>
      rw [e2] at e1
      cases e1
      obtain ⟨v, e3, r⟩ := E.2 i _ e2
      exact ⟨v, e3, q.at R r⟩
theorem e_glo (hk : KcOk X k) {x : Str} {pos : Pos} (h1 : glB k.sc x = true) (h2 : nmB x = true) (h3 : (k.g.data.lookup x).isSome = true) : PE X (.Name x pos) (tEv X.K k.g (.glo x)) := by
  obtain ⟨d, hd⟩ := Option.isSome_iff_exists.mp h3
  obtain ⟨u, v, m, r, rp⟩ := hk.data x d hd
  refine e_const (pe_glob (glB_ok hk h1) m r (nmB_ok h2).1) (fun _ _ => ?_) rp
  simp only [evE, hd, Option.map_some]

/-! ### argument lists -/
/-- no starred, set, slice -/
def plainX : Expr → Bool
  | .Starred _ _ => false
  | .Set _ _ _ => false
  | .Slice _ _ _ _ => false
  | _ => true
theorem star_of {e : Expr} (h : plainX e = true) (es : List Expr) (env : Env) : starEach (e :: es) env = (false, eval e env) :: starEach es env := by
  cases e <;> first | rfl | cases h
theorem nostar : ∀ {es : List Expr}, es.all plainX = true → ∀ (pos : Pos) (env : Env), (backTo pos (starEach es env)).any (·.1) = false
  | [], _, _, _ => rfl
  | e :: es, h, pos, env => by
    obtain ⟨h1, h2⟩ := Bool.and_eq_true_iff.mp (show (plainX e && es.all plainX) = true from h)
    rw [star_of h1]
    show (false || (backTo pos (starEach es env)).any (·.1)) = false
    rw [nostar h2]; rfl
theorem as_nil : PA X [] (tEvs X.K k.g []) := pa_nil.imp fun σ H Q ⟨μ, δ, S, ds, S', E, R, e1, q⟩ => by
  simp only [evEs] at e1; cases e1
  exact q [] H μ Ext.refl R Reps.nil
theorem as_cons {e : Expr} {es : List Expr} {c : C} {cs : List C} (h1 : PE X e (tEv X.K k.g c)) (h2 : PA X es (tEvs X.K k.g cs)) (hp : plainX e = true) : PA X (e :: es) (tEvs X.K k.g (c :: cs)) := (pa_cons h1 h2 (star_of hp _ _)).imp fun σ H Q ⟨μ, δ, S, ds, S', E, R, e1, q⟩ => by
  simp only [evEs] at e1
  obtain ⟨⟨d, S1⟩, e2, e3⟩ := bindS e1
  obtain ⟨⟨r, S2⟩, e4, e5⟩ := mapS e3
  cases e5
  refine ⟨μ, δ, S, d, S1, E, R, e2, fun v H1 μ1 E1 R1 p1 => ⟨μ1, δ, S1, r, S2, E.mono R E1, R1, e4, fun vs H2 μ2 E2 R2 p2 => ?_⟩⟩
  exact q (v :: vs) H2 μ2 (E1.trans E2) R2 (Reps.cons (p1.mono R1 E2) p2)
theorem ks_nil : PK X [] (tEvs X.K k.g []) := pk_nil.imp fun σ H Q ⟨μ, δ, S, ds, S', E, R, e1, q⟩ => by
  simp only [evEs] at e1; cases e1
  exact q [] H μ Ext.refl R Reps.nil
theorem ks_cons {e : Expr} {es : List Keyword} {c : C} {cs : List C} {nm : Option Str} {kp : Pos} (h1 : PE X e (tEv X.K k.g c)) (h2 : PK X es (tEvs X.K k.g cs)) : PK X (⟨nm, e, kp⟩ :: es) (tEvs X.K k.g (c :: cs)) := (pk_cons h1 h2).imp fun σ H Q ⟨μ, δ, S, ds, S', E, R, e1, q⟩ => by
  simp only [evEs] at e1
  obtain ⟨⟨d, S1⟩, e2, e3⟩ := bindS e1
  obtain ⟨⟨r, S2⟩, e4, e5⟩ := mapS e3
  cases e5
  refine ⟨μ, δ, S, d, S1, E, R, e2, fun v H1 μ1 E1 R1 p1 => ⟨μ1, δ, S1, r, S2, E.mono R E1, R1, e4, fun vs H2 μ2 E2 R2 p2 => ?_⟩⟩
  exact q (v :: vs) H2 μ2 (E1.trans E2) R2 (Reps.cons (p1.mono R1 E2) p2)

/-! ### displays -/
theorem e_tup {es : List Expr} {cs : List C} {x1 pos} (h : PA X es (tEvs X.K k.g cs)) : PE X (.Tuple es x1 pos) (tEv X.K k.g (.tup cs)) := (pe_tup h).imp fun σ H Q ⟨μ, δ, S, d, S', E, R, e1, q⟩ => by
  simp only [evE] at e1
  obtain ⟨⟨ds, S1⟩, e2, e3⟩ := bindS e1
  split at e3
  · rename_i hl
    cases e3
    refine ⟨μ, δ, S, ds, _, E, R, e2, fun vs H1 μ1 E1 R1 p1 => ⟨by rw [sizeL, ← p1.length]; exact hl, fun p hp => ?_⟩⟩
    exact (q.ext E1).new R1 hp (mk_tup (SqT.of upd_same) (p1.mono R1 (Ext.new hp)))
  · cases e3
theorem e_lst {es : List Expr} {cs : List C} {own : Option Bool} {pos} (h : PA X es (tEvs X.K k.g cs)) : PE X (.List es pos) (tEv X.K k.g (.lst own cs)) := (pe_lst h).imp fun σ H Q ⟨μ, δ, S, d, S', E, R, e1, q⟩ => by
  simp only [evE] at e1
  obtain ⟨⟨ds, S1⟩, e2, e3⟩ := bindS e1
  split at e3
  · rename_i hl
    refine ⟨μ, δ, S, ds, S1, E, R, e2, fun vs H1 μ1 E1 R1 p1 => ⟨by rw [sizeL, ← p1.length]; exact hl, fun p hp => ?_⟩⟩
    cases own with
    | none =>
      cases e3
      exact (q.ext E1).new R1 hp (mk_lst (R1.fz hp) upd_same (p1.mono R1 (Ext.new hp)))
    | some kp =>
      cases e3
      refine q _ _ (μ1.push p) (E1.trans (Ext.push hp)) (R1.push hp p1) (mk_ref ?_)
      show (μ1.ad ++ [p])[S1.length]? = some p
      rw [← R1.len, List.getElem?_append_right (Nat.le_refl _)]
      simp
  · cases e3
theorem e_dic0 {pos} : PE X (.Dict [] [] pos) (tEv X.K k.g .dic0) := pe_dnewK.imp fun σ H Q ⟨μ, δ, S, d, S', E, R, e1, q⟩ => by
  simp only [evE] at e1; cases e1
  intro p hp
  refine q.new R hp ?_
  simp only [Rep]
  exact ⟨p, [], rfl, R.fz hp, rfl, upd_same, Reps.nil⟩
end
end Dn

set_option maxHeartbeats 4000000
namespace Dn
open PySem PySem.Spec PyProof.Rows L2

section
variable {K : PySem.W.Frag} {G : GE} {σ : L2.St} {H : Hp} {μ : Mu} {δ : En} {S S1 S2 S3 : Sto} {a b c : C} {d1 d2 d3 : D}
theorem ev1 (E : RepEnv K μ H σ δ) (R : Rl K μ H S) (ea : evE G a δ S = some (d1, S1)) {W : V → Hp → Prop}
    (go : ∀ x H1 μ1, Ext μ H μ1 H1 → Rl K μ1 H1 S1 → RepEnv K μ1 H1 σ δ → Rep K μ1 H1 d1 x → W x H1) : tEv K G a σ H W :=
  ⟨μ, δ, S, d1, S1, E, R, ea, fun v H1 μ1 E1 R1 p1 => go v H1 μ1 E1 R1 (E.mono R E1) p1⟩
theorem ev2 (E : RepEnv K μ H σ δ) (R : Rl K μ H S) (ea : evE G a δ S = some (d1, S1)) (eb : evE G b δ S1 = some (d2, S2)) {W : V → V → Hp → Prop}
    (go : ∀ x y H2 μ2, Ext μ H μ2 H2 → Rl K μ2 H2 S2 → RepEnv K μ2 H2 σ δ → Rep K μ2 H2 d1 x → Rep K μ2 H2 d2 y → W x y H2) : tEv K G a σ H fun x H1 => tEv K G b σ H1 fun y H2 => W x y H2 :=
  ev1 E R ea fun x H1 μ1 E1 R1 N1 p1 => ev1 N1 R1 eb fun y H2 μ2 E2 R2 N2 p2 => go x y H2 μ2 (E1.trans E2) R2 N2 (p1.mono R1 E2) p2
theorem evs1 {cs : List C} {ds : List D} (E : RepEnv K μ H σ δ) (R : Rl K μ H S) (ea : evEs G cs δ S = some (ds, S1)) {W : List V → Hp → Prop}
    (go : ∀ xs H1 μ1, Ext μ H μ1 H1 → Rl K μ1 H1 S1 → RepEnv K μ1 H1 σ δ → Reps K μ1 H1 ds xs → W xs H1) : tEvs K G cs σ H W :=
  ⟨μ, δ, S, ds, S1, E, R, ea, fun v H1 μ1 E1 R1 p1 => go v H1 μ1 E1 R1 (E.mono R E1) p1⟩
theorem tv1 {b : Bool} (E : RepEnv K μ H σ δ) (R : Rl K μ H S) (ea : evT G a δ S = some (b, S1)) {W : Bool → Hp → Prop}
    (go : ∀ H1 μ1, Ext μ H μ1 H1 → Rl K μ1 H1 S1 → RepEnv K μ1 H1 σ δ → W b H1) : tTv K G a σ H W :=
  ⟨μ, δ, S, b, S1, E, R, ea, fun H1 μ1 E1 R1 => go H1 μ1 E1 R1 (E.mono R E1)⟩
end

section
variable {X : Cx} {k : Kc} {x y z : Expr} {a b c : C} {pos : Pos}
theorem e_bin {o : Operator} (ha : PE X x (tEv X.K k.g a)) (hb : PE X y (tEv X.K k.g b)) : PE X (.BinOp x o y pos) (tEv X.K k.g (.bin o a b)) := (pe_op (op_bin o) ha hb).imp fun σ H Q ⟨μ, δ, S, d, S', E, R, e1, q⟩ => by
  simp only [evE] at e1
  obtain ⟨⟨d1, S1⟩, e2, e3⟩ := bindS e1
  obtain ⟨⟨d2, S2⟩, e4, e5⟩ := bindS e3
  obtain ⟨r, e6, e7⟩ := mapS e5
  cases e7
  exact ev2 E R e2 e4 fun x y H2 μ2 E2 R2 _ p1 p2 => ⟨μ2, S2, d1, d2, d, R2, p1, p2, e6, q.ext E2⟩
theorem e_neg (ha : PE X x (tEv X.K k.g a)) : PE X (.UnaryOp .USub x pos) (tEv X.K k.g (.neg a)) := (pe_un un_neg ha).imp fun σ H Q ⟨μ, δ, S, d, S', E, R, e1, q⟩ => by
  simp only [evE] at e1
  obtain ⟨⟨d1, S1⟩, e2, e3⟩ := bindS e1
  refine ev1 E R e2 fun x H1 μ1 E1 R1 _ p1 => ?_
  cases d1 with
  | int i =>
    cases e3
    cases rep_int p1
    exact ⟨i, rfl, (q.ext E1).at R1 mk_int⟩
  | _ => cases e3
theorem e_cmp (hk : KcOk X k) {o : CmpOp} (ha : PE X x (tEv X.K k.g a)) (hb : PE X y (tEv X.K k.g b)) (hm : plainX y = true) : PE X (.Compare x [o] [y] pos) (tEv X.K k.g (.cmp o a b)) :=
  (pe_cmpR (op_cmp hk.hu o) ha hb (by cases y <;> first | rfl | cases hm)).imp fun σ H Q ⟨μ, δ, S, d, S', E, R, e1, q⟩ => by
  simp only [evE] at e1
  obtain ⟨⟨d1, S1⟩, e2, e3⟩ := bindS e1
  obtain ⟨⟨d2, S2⟩, e4, e5⟩ := bindS e3
  obtain ⟨r, e6, e7⟩ := mapS e5
  cases e7
  exact ev2 E R e2 e4 fun x y H2 μ2 E2 R2 _ p1 p2 => ⟨μ2, S2, d1, d2, r, R2, p1, p2, e6, (q.ext E2).at R2 mk_bl⟩
theorem t_cmp (hk : KcOk X k) {o : CmpOp} (ha : PE X x (tEv X.K k.g a)) (hb : PE X y (tEv X.K k.g b)) (hm : plainX y = true) : PT X (.Compare x [o] [y] pos) (tTv X.K k.g (.cmp o a b)) :=
  (pt_cmpR (op_cmp hk.hu o) ha hb (by cases y <;> first | rfl | cases hm)).imp fun σ H Q ⟨μ, δ, S, d, S', E, R, e1, q⟩ => by
  simp only [evT] at e1
  obtain ⟨⟨d1, S1⟩, e2, e3⟩ := bindS e1
  obtain ⟨⟨d2, S2⟩, e4, e5⟩ := bindS e3
  obtain ⟨r, e6, e7⟩ := mapS e5
  cases e7
  exact ev2 E R e2 e4 fun x y H2 μ2 E2 R2 _ p1 p2 => ⟨μ2, S2, d1, d2, d, R2, p1, p2, e6, d, rfl, q H2 μ2 E2 R2⟩
theorem last2 {o o' : CmpOp} {y z : Expr} (hm : plainX z = true) : lastMarks [o, o'] [y, z] = false := by
  show behindInMarks o' z = false
  cases z <;> first | rfl | cases hm
theorem e_cmp2 (hk : KcOk X k) {o o' : CmpOp} (ha : PE X x (tEv X.K k.g a)) (hb : PE X y (tEv X.K k.g b)) (hc : PE X z (tEv X.K k.g c)) (hm : plainX z = true) : PE X (.Compare x [o, o'] [y, z] pos) (tEv X.K k.g (.cmp2 o o' a b c)) :=
  (pe_chain (op_cmp hk.hu o) (op_cmp hk.hu o') ha hb hc (last2 hm)).imp fun σ H Q ⟨μ, δ, S, d, S', E, R, e1, q⟩ => by
  simp only [evE] at e1
  obtain ⟨⟨d1, S1⟩, e2, e3⟩ := bindS e1
  obtain ⟨⟨d2, S2⟩, e4, e5⟩ := bindS e3
  obtain ⟨r, e6, e7⟩ := bindS e5
  refine ev2 E R e2 e4 fun x y H2 μ2 E2 R2 N2 p1 p2 => ⟨μ2, S2, d1, d2, r, R2, p1, p2, e6, r, rfl, ?_⟩
  cases r with
  | false =>
    rw [if_neg Bool.false_ne_true] at e7 ⊢
    cases e7
    exact (q.ext E2).at R2 mk_bl
  | true =>
    rw [if_pos rfl] at e7 ⊢
    obtain ⟨⟨d3, S3⟩, e8, e9⟩ := bindS e7
    obtain ⟨r', e10, e11⟩ := mapS e9
    cases e11
    exact ev1 N2 R2 e8 fun w H3 μ3 E3 R3 _ p3 => ⟨μ3, S3, d2, d3, r', R3, p2.mono R2 E3, p3, e10, (q.ext (E2.trans E3)).at R3 mk_bl⟩
theorem t_cmp2 (hk : KcOk X k) {o o' : CmpOp} (ha : PE X x (tEv X.K k.g a)) (hb : PE X y (tEv X.K k.g b)) (hc : PE X z (tEv X.K k.g c)) (hm : plainX z = true) : PT X (.Compare x [o, o'] [y, z] pos) (tTv X.K k.g (.cmp2 o o' a b c)) :=
  (pt_chain (op_cmp hk.hu o) (op_cmp hk.hu o') ha hb hc (last2 hm)).imp fun σ H Q ⟨μ, δ, S, d, S', E, R, e1, q⟩ => by
  simp only [evT] at e1
  obtain ⟨⟨d1, S1⟩, e2, e3⟩ := bindS e1
  obtain ⟨⟨d2, S2⟩, e4, e5⟩ := bindS e3
  obtain ⟨r, e6, e7⟩ := bindS e5
  refine ev2 E R e2 e4 fun x y H2 μ2 E2 R2 N2 p1 p2 => ⟨μ2, S2, d1, d2, r, R2, p1, p2, e6, r, rfl, ?_⟩
  cases r with
  | false =>
    rw [if_neg Bool.false_ne_true] at e7 ⊢
    cases e7
    exact ⟨false, rfl, q H2 μ2 E2 R2⟩
  | true =>
    rw [if_pos rfl] at e7 ⊢
    obtain ⟨⟨d3, S3⟩, e8, e9⟩ := bindS e7
    obtain ⟨r', e10, e11⟩ := mapS e9
    cases e11
    exact ev1 N2 R2 e8 fun w H3 μ3 E3 R3 _ p3 => ⟨μ3, S3, d2, d3, d, R3, p2.mono R2 E3, p3, e10, d, rfl, q H3 μ3 (E2.trans E3) R3⟩
/-! ### and, or, not, if -/
theorem t_not (ha : PT X x (tTv X.K k.g a)) : PT X (.UnaryOp .Not x pos) (tTv X.K k.g (.not a)) := (pt_not ha).imp fun σ H Q ⟨μ, δ, S, d, S', E, R, e1, q⟩ => by
  simp only [evT] at e1
  obtain ⟨⟨b, S1⟩, e2, e3⟩ := mapS e1
  cases e3
  exact tv1 E R e2 fun H1 μ1 E1 R1 _ => q H1 μ1 E1 R1
/-- the rest of a row of and, or -/
def restX (o : BoolOp) (pos : Pos) : List Expr → Expr
  | [y] => y
  | r => .BoolOp o r pos
theorem e_and {r : List Expr} (ha : PE X x (tEv X.K k.g a)) (hb : PE X (restX .And pos (y :: r)) (tEv X.K k.g b)) : PE X (.BoolOp .And (x :: y :: r) pos) (tEv X.K k.g (.and a b)) := by
  have hb' : PE X (.BoolOp .And (y :: r) pos) (tEv X.K k.g b) := by
    cases r with
    | nil => exact pe_one hb
    | cons z r => exact hb
  refine (pe_and ha hb').imp fun σ H Q ⟨μ, δ, S, d, S', E, R, e1, q⟩ => ?_
  simp only [evE] at e1
  obtain ⟨⟨d1, S1⟩, e2, e3⟩ := bindS e1
  refine ev1 E R e2 fun x H1 μ1 E1 R1 N1 p1 => ?_
  cases d1 with
  | bl t =>
    cases rep_bl p1
    cases t with
    | true =>
      refine ⟨true, rfl, ?_⟩
      rw [if_pos rfl]
      exact ⟨μ1, δ, S1, d, S', N1, R1, e3, q.ext E1⟩
    | false =>
      cases e3
      refine ⟨false, rfl, ?_⟩
      rw [if_neg Bool.false_ne_true]
      exact (q.ext E1).at R1 mk_bl
  | _ => cases e3
theorem e_or {r : List Expr} (ha : PE X x (tEv X.K k.g a)) (hb : PE X (restX .Or pos (y :: r)) (tEv X.K k.g b)) : PE X (.BoolOp .Or (x :: y :: r) pos) (tEv X.K k.g (.or a b)) := by
  have hb' : PE X (.BoolOp .Or (y :: r) pos) (tEv X.K k.g b) := by
    cases r with
    | nil => exact pe_one hb
    | cons z r => exact hb
  refine (pe_or ha hb').imp fun σ H Q ⟨μ, δ, S, d, S', E, R, e1, q⟩ => ?_
  simp only [evE] at e1
  obtain ⟨⟨d1, S1⟩, e2, e3⟩ := bindS e1
  refine ev1 E R e2 fun x H1 μ1 E1 R1 N1 p1 => ?_
  cases d1 with
  | bl t =>
    cases rep_bl p1
    cases t with
    | false =>
      refine ⟨false, rfl, ?_⟩
      rw [if_neg Bool.false_ne_true]
      exact ⟨μ1, δ, S1, d, S', N1, R1, e3, q.ext E1⟩
    | true =>
      cases e3
      refine ⟨true, rfl, ?_⟩
      rw [if_pos rfl]
      exact (q.ext E1).at R1 mk_bl
  | _ => cases e3
theorem pt_pw {o : BoolOp} {r : List Expr} {t : TT} (h : PT X (restX o pos (y :: r)) t) : PW X (.BoolOp o (y :: r) pos) t := by
  cases r with
  | nil =>
    cases o with
    | And => exact pw_and1 h
    | Or => exact pw_or1 h
  | cons z r =>
    refine ⟨fun wh pins s σ H Q I q => ?_⟩
    have := h.run pins s σ H Q I q
    cases o <;> exact this
theorem t_and {r : List Expr} (ha : PT X x (tTv X.K k.g a)) (hb : PT X (restX .And pos (y :: r)) (tTv X.K k.g b)) : PT X (.BoolOp .And (x :: y :: r) pos) (tTv X.K k.g (.and a b)) := by
  refine ((pw_and ha (pt_pw hb)).pt).imp fun σ H Q ⟨μ, δ, S, d, S', E, R, e1, q⟩ => ?_
  simp only [evT] at e1
  obtain ⟨⟨t, S1⟩, e2, e3⟩ := bindS e1
  refine tv1 E R e2 fun H1 μ1 E1 R1 N1 => ?_
  cases t with
  | true =>
    rw [if_pos rfl] at e3 ⊢
    exact tv1 N1 R1 e3 fun H2 μ2 E2 R2 _ => q H2 μ2 (E1.trans E2) R2
  | false =>
    rw [if_neg Bool.false_ne_true] at e3 ⊢
    cases e3
    exact q H1 μ1 E1 R1
theorem t_or {r : List Expr} (ha : PT X x (tTv X.K k.g a)) (hb : PT X (restX .Or pos (y :: r)) (tTv X.K k.g b)) : PT X (.BoolOp .Or (x :: y :: r) pos) (tTv X.K k.g (.or a b)) := by
  refine ((pw_or ha (pt_pw hb)).pt).imp fun σ H Q ⟨μ, δ, S, d, S', E, R, e1, q⟩ => ?_
  simp only [evT] at e1
  obtain ⟨⟨t, S1⟩, e2, e3⟩ := bindS e1
  refine tv1 E R e2 fun H1 μ1 E1 R1 N1 => ?_
  cases t with
  | true =>
    rw [if_pos rfl] at e3 ⊢
    cases e3
    exact q H1 μ1 E1 R1
  | false =>
    rw [if_neg Bool.false_ne_true] at e3 ⊢
    exact tv1 N1 R1 e3 fun H2 μ2 E2 R2 _ => q H2 μ2 (E1.trans E2) R2
theorem e_ite (hc : PT X z (tTv X.K k.g c)) (ha : PE X x (tEv X.K k.g a)) (hb : PE X y (tEv X.K k.g b)) : PE X (.IfExp z x y pos) (tEv X.K k.g (.ite c a b)) := (pe_ifExp hc ha hb).imp fun σ H Q ⟨μ, δ, S, d, S', E, R, e1, q⟩ => by
  simp only [evE] at e1
  obtain ⟨⟨t, S1⟩, e2, e3⟩ := bindS e1
  refine tv1 E R e2 fun H1 μ1 E1 R1 N1 => ?_
  cases t with
  | true =>
    rw [if_pos rfl] at e3 ⊢
    exact ⟨μ1, δ, S1, d, S', N1, R1, e3, q.ext E1⟩
  | false =>
    rw [if_neg Bool.false_ne_true] at e3 ⊢
    exact ⟨μ1, δ, S1, d, S', N1, R1, e3, q.ext E1⟩
end
end Dn

set_option maxHeartbeats 4000000
namespace Dn
open PySem PySem.Spec PyProof.Rows L2

/-! ### truth -/
section
variable {K : PySem.W.Frag} {μ : Mu} {H : Hp} {S : Sto}
theorem isEmpty_rep {ds : List D} {vs : List V} (h : Reps K μ H ds vs) : (!vs.isEmpty) = !ds.isEmpty := by
  rw [isEmpty_len h.length]
theorem tru_v (R : Rl K μ H S) {d : D} {v : V} {b : Bool} (e : truD S d = some b) (h : Rep K μ H d v) : TruV K v H b := by
  cases d with
  | non => cases rep_non h; cases e; rfl
  | bl t => cases rep_bl h; cases e; rfl
  | int i => cases rep_int h; cases e; rfl
  | str x =>
    cases rep_str h
    simp only [truD] at e
    split at e
    · rename_i hl
      cases e
      exact ⟨by rw [sizeL]; exact hl, rfl⟩
    · cases e
  | tup xs =>
    obtain ⟨a, vs, rfl, h1, h2⟩ := rep_tup h
    cases e
    exact .inr (.inl ⟨vs, h1, (isEmpty_rep h2).symm⟩)
  | lst xs =>
    obtain ⟨a, vs, rfl, h1, h2⟩ := rep_litems (S := S) R (xs := xs) rfl h
    cases e
    exact .inl ⟨vs, h1, (isEmpty_rep h2).symm⟩
  | scr xs =>
    obtain ⟨a, vs, rfl, h1, h2⟩ := rep_litems (S := S) R (xs := xs) rfl h
    cases e
    exact .inl ⟨vs, h1, (isEmpty_rep h2).symm⟩
  | ref n =>
    simp only [truD] at e
    obtain ⟨mo, e1, e2⟩ := mapS e
    obtain ⟨a, vs, rfl, h1, h2⟩ := rep_litems (S := S) R (xs := mo.xs) (by simp only [litems, e1, Option.map_some]) h
    subst e2
    exact .inl ⟨vs, h1, (isEmpty_rep h2).symm⟩
  | dic _ _ => cases e
end
section
variable {X : Cx} {k : Kc} {x y z : Expr} {a b c : C} {pos : Pos}
theorem e_not (ha : PE X x (tEv X.K k.g a)) : PE X (.UnaryOp .Not x pos) (tEv X.K k.g (.not a)) := (pe_notT ha).imp fun σ H Q ⟨μ, δ, S, d, S', E, R, e1, q⟩ => by
  simp only [evE] at e1
  obtain ⟨⟨d1, S1⟩, e2, e3⟩ := bindS e1
  obtain ⟨b, e4, e5⟩ := mapS e3
  cases e5
  exact ev1 E R e2 fun x H1 μ1 E1 R1 _ p1 => ⟨b, tru_v R1 e4 p1, (q.ext E1).at R1 mk_bl⟩
/-- a test that is its value's truth -/
theorem t_val (ha : PE X x (tEv X.K k.g a)) (he : ∀ whole, isTrue x X.env whole = (do let v ← whole; standAt x.pos; holding [v] (truthy v)))
    (ev : ∀ δ S b S', evT k.g a δ S = some (b, S') → ∃ d, evE k.g a δ S = some (d, S') ∧ truD S' d = some b) : PT X x (tTv X.K k.g a) := (pt_truth ha he).imp fun σ H Q ⟨μ, δ, S, b, S', E, R, e1, q⟩ => by
  obtain ⟨d, e2, e3⟩ := ev δ S b S' e1
  exact ev1 E R e2 fun x H1 μ1 E1 R1 _ p1 => ⟨b, tru_v R1 e3 p1, q H1 μ1 E1 R1⟩
theorem t_var {x : Str} {i : Nat} (ha : PE X (.Name x pos) (tEv X.K k.g (.var i))) : PT X (.Name x pos) (tTv X.K k.g (.var i)) := t_val ha (fun _ => rfl) fun δ S b S' e => by
  simp only [evT] at e
  simp only [evE]
  cases e2 : δ[i]? with
  | none => rw [e2] at e; cases e
  | some o =>
    cases o with
    | none => rw [e2] at e; cases e
    | some d =>
      rw [e2] at e
      obtain ⟨t, e3, e4⟩ := mapS e
      cases e4
      exact ⟨d, rfl, e3⟩
theorem t_call {f : Expr} {es : List Expr} {kw : List Keyword} {g : Str} {cs : List C} (ha : PE X (.Call f es kw pos) (tEv X.K k.g (.call g cs))) : PT X (.Call f es kw pos) (tTv X.K k.g (.call g cs)) := t_val ha (fun _ => rfl) fun δ S b S' e => by
  simp only [evT] at e
  simp only [evE]
  obtain ⟨⟨ds, S1⟩, e2, e3⟩ := bindS e
  obtain ⟨⟨d, S2⟩, e4, e5⟩ := bindS e3
  obtain ⟨t, e6, e7⟩ := mapS e5
  cases e7
  exact ⟨d, by rw [e2]; exact e4, e6⟩
theorem t_blt {f : Expr} {es : List Expr} {kw : List Keyword} {g : String} {cs : List C} (ha : PE X (.Call f es kw pos) (tEv X.K k.g (.blt g cs))) : PT X (.Call f es kw pos) (tTv X.K k.g (.blt g cs)) := t_val ha (fun _ => rfl) fun δ S b S' e => by
  simp only [evT] at e
  simp only [evE]
  obtain ⟨⟨ds, S1⟩, e2, e3⟩ := bindS e
  obtain ⟨d, e4, e5⟩ := bindS e3
  obtain ⟨t, e6, e7⟩ := mapS e5
  cases e7
  exact ⟨d, by rw [e2, Option.bind_some, e4]; rfl, e6⟩
theorem t_isi {f : Expr} {es : List Expr} {kw : List Keyword} {T : String} (ha : PE X (.Call f es kw pos) (tEv X.K k.g (.isi a T))) : PT X (.Call f es kw pos) (tTv X.K k.g (.isi a T)) := t_val ha (fun _ => rfl) fun δ S b S' e => by
  simp only [evT] at e
  simp only [evE]
  obtain ⟨⟨d, S1⟩, e2, e3⟩ := bindS e
  obtain ⟨t, e6, e7⟩ := mapS e3
  cases e7
  exact ⟨.bl b, by rw [e2, Option.bind_some, e6]; rfl, rfl⟩
theorem t_bl {b : Bool} {j : Nat} (ha : PE X (.Constant (.bool b) j pos) (tEv X.K k.g (.bl b))) : PT X (.Constant (.bool b) j pos) (tTv X.K k.g (.bl b)) := t_val ha (fun _ => rfl) fun δ S b' S' e => by
  simp only [evT] at e
  cases e
  simp only [evE]
  exact ⟨.bl b, rfl, rfl⟩
theorem t_ix {x y : Expr} {b : C} (ha : PE X (.Subscript x y pos) (tEv X.K k.g (.ix a b))) : PT X (.Subscript x y pos) (tTv X.K k.g (.ix a b)) := t_val ha (fun _ => rfl) fun δ S b' S' e => by
  simp only [evT] at e
  simp only [evE]
  obtain ⟨⟨d, S1⟩, e2, e3⟩ := bindS e
  obtain ⟨⟨d2, S2⟩, e4, e5⟩ := bindS e3
  obtain ⟨d3, e6, e7⟩ := bindS e5
  obtain ⟨t, e8, e9⟩ := mapS e7
  cases e9
  exact ⟨d3, by rw [e2, Option.bind_some, e4, Option.bind_some, e6]; rfl, e8⟩

/-! ### calls of defs -/
theorem run_g {f : Addr} {fd : FuncData} {ps : List Str} {lv : Nat} {sp : SpG} {pins : List (Addr × Obj)} {σ : L2.St} {H : Hp} {s : Shared} {Q : VK} {args : Args} {us : List Value} {vs : List V} (hk : KcOk X k)
    (F : FnG X.prog X.w X.K X.mg X.base lv f fd ps sp) (hr : Room lv X.A) (I : Inv X pins σ H s) (hb : BindsTo s fd args (ps.zip us)) (r : Vals vs us) (h : sp vs H Q) :
    codeAny (model X.prog X.w) X.A (.call (.ref f) args) (fun r s' => match r with
      | .ok (.ret u) => EP X pins σ Q u s'
      | .ok _ => False
      | .error e => X.xe e s') s := by
  refine codeAny_mono (F.run X.A X.stack s H args us vs Q hr hk.gd I.env0 hb r h) fun r s' hq => ?_
  cases r with
  | error e => exact hq.elim
  | ok fl =>
    cases fl with
    | ret u => exact I.after hq
    | next => exact hq.elim
    | brk => exact hq.elim
    | cont => exact hq.elim
theorem run_g' {f : Addr} {fd : FuncData} {ps : List Str} {lv : Nat} {sp : SpG} {pins : List (Addr × Obj)} {σ : L2.St} {H : Hp} {s : Shared} {Q : VK} {xs : List Value} {kw : List (Str × Value)} {us : List Value} {vs : List V} (hk : KcOk X k)
    (F : FnG X.prog X.w X.K X.mg X.base lv f fd ps sp) (hr : Room lv X.A) (I : Inv X pins σ H s) (hb : BindsTo s fd ⟨xs, kw⟩ (ps.zip us)) (r : Vals vs us) (h : sp vs H Q) :
    wpAny (model X.prog X.w) X.A (call (.ref f) xs kw) (EP X pins σ Q) X.xe s := by
  refine wpAny_call (codeAny_mono (run_g hk F hr I hb r h) fun r s' hq => ?_)
  cases r with
  | error e => exact hq
  | ok fl =>
    cases fl with
    | ret u => exact hq
    | next => exact hq.elim
    | brk => exact hq.elim
    | cont => exact hq.elim
theorem e_call (hk : KcOk X k) {f : Str} {e : Expr} {es : List Expr} {cs : List C} {p : Pos} (ha : PA X (e :: es) (tEvs X.K k.g cs)) (hp : (e :: es).all plainX = true) (hf : f ∈ k.fns) (hg : glB k.sc f = true) (hn : nmB f = true) :
    PE X (.Call (.Name f p) (e :: es) [] pos) (tEv X.K k.g (.call f cs)) := by
  obtain ⟨a, fd, ps, lv, O⟩ := hk.call f hf
  obtain ⟨h1, h2⟩ := Bool.and_eq_true_iff.mp (show (plainX e && es.all plainX) = true from hp)
  refine ⟨fun pins s σ H Q I ⟨μ, δ, S, d, S', E, R, e1, q⟩ => ?_⟩
  simp only [evE] at e1
  obtain ⟨⟨ds, S1⟩, e2, e3⟩ := bindS e1
  refine wpAny_Call_Name_kw (ld_glob I (glB_ok hk hg) O.mg ?_ (nmB_ok hn).1)
  refine PySem.W.callWith_K (h₀ := X.base) I.ok.mod.kin O.kp ?_ (star_of h1 _ _) (nostar h2 _ _)
  refine thn (ha.run pos pins s σ H _ I (evs1 E R e2 (W := fun xs H1 => spEv X.K k.g f xs H1 Q) fun xs H1 μ1 E1 R1 _ p1 => ⟨μ1, S1, ds, d, S', R1, p1, e3, q.ext E1⟩)) fun us s1 ⟨vs, H1, I1, r1, q1⟩ => ⟨I1.kIn, ?_⟩
  have hb := O.bd s1 us I1.kIn (by rw [List.append_nil, ← r1.length]; exact O.fn.len _ _ _ q1)
  rw [List.append_nil] at hb
  exact run_g' hk O.fn O.rm I1 hb r1 q1
theorem e_call0 (hk : KcOk X k) {f : Str} {p : Pos} (hf : f ∈ k.fns) (hg : glB k.sc f = true) (hn : nmB f = true) : PE X (.Call (.Name f p) [] [] pos) (tEv X.K k.g (.call f [])) := by
  obtain ⟨a, fd, ps, lv, O⟩ := hk.call f hf
  refine ⟨fun pins s σ H Q I ⟨μ, δ, S, d, S', E, R, e1, q⟩ => ?_⟩
  simp only [evE, evEs] at e1
  refine wpAny_Call_Name_kw (ld_glob I (glB_ok hk hg) O.mg ?_ (nmB_ok hn).1)
  refine PySem.W.callWith_K0 I.kIn O.kp ?_
  have q1 : spEv X.K k.g f [] H Q := ⟨μ, S, [], d, S', R, Reps.nil, e1, q⟩
  have hb := O.bd s [] I.kIn (by rw [List.append_nil]; exact O.fn.len _ _ _ q1)
  exact run_g' hk O.fn O.rm I hb .nil q1
theorem pick_ok {K : PySem.W.Frag} {μ : Mu} {H : Hp} {xs : List D} {vs : List V} {us : List Value} (h : Reps K μ H xs vs) (r : Vals vs us) : ∀ {pl : List Nat} {ds : List D}, pick xs pl = some ds → ∃ ws, Reps K μ H ds ws ∧ Vals ws (pickV us pl)
  | [], ds, e => by simp only [pick, Option.some.injEq] at e; subst e; exact ⟨[], Reps.nil, .nil⟩
  | i :: pl, ds, e => by
    simp only [pick] at e
    obtain ⟨d, e1, e2⟩ := bindS e
    obtain ⟨q, e3, e4⟩ := mapS e2
    subst e4
    obtain ⟨v, e5, p⟩ := h.get e1
    obtain ⟨u, e6, rv⟩ := r.get e5
    obtain ⟨ws, p2, r2⟩ := pick_ok h r e3
    refine ⟨v :: ws, Reps.cons p p2, ?_⟩
    show Vals (v :: ws) (us.getD i .none :: pickV us pl)
    rw [List.getD_eq_getElem?_getD, e6]
    exact .cons rv r2
theorem kw_names : ∀ (kws : List Keyword) (ks : List Str) (pos : Pos) (env : Env), kws.map (·.arg) = ks.map some →
    (backToKw pos (keywordEach kws env)).all (·.1.isSome) = true ∧ (backToKw pos (keywordEach kws env)).filterMap (·.1) = ks ∧ (backToKw pos (keywordEach kws env)).any (·.1.isNone) = false
  | [], ks, _, _, h => by cases ks with
    | nil => exact ⟨rfl, rfl, rfl⟩
    | cons _ _ => simp at h
  | ⟨nm, e, kp⟩ :: kws, ks, pos, env, h => by
    cases ks with
    | nil => simp at h
    | cons x r =>
      simp only [List.map_cons, List.cons.injEq] at h
      obtain ⟨h1, h2⟩ := h
      subst h1
      obtain ⟨q1, q2, q3⟩ := kw_names kws r pos env h2
      refine ⟨?_, ?_, ?_⟩
      · show (true && (backToKw pos (keywordEach kws env)).all (·.1.isSome)) = true
        rw [q1]; rfl
      · show x :: (backToKw pos (keywordEach kws env)).filterMap (·.1) = x :: r
        rw [q2]
      · show (false || (backToKw pos (keywordEach kws env)).any (·.1.isNone)) = false
        rw [q3]; rfl
theorem evEs_len {G : GE} : ∀ {cs : List C} {δ : En} {S S' : Sto} {ds : List D}, evEs G cs δ S = some (ds, S') → ds.length = cs.length
  | [], δ, S, S', ds, e => by simp only [evEs] at e; cases e; rfl
  | c :: cs, δ, S, S', ds, e => by
    simp only [evEs] at e
    obtain ⟨⟨d, S1⟩, e2, e3⟩ := bindS e
    obtain ⟨⟨r, S2⟩, e4, e5⟩ := mapS e3
    cases e5
    rw [List.length_cons, List.length_cons, evEs_len e4]
theorem e_callK (hk : KcOk X k) {f : Str} {es : List Expr} {kws : List Keyword} {cs ckw : List C} {ks : List Str} {p : Pos} (ha : PA X es (tEvs X.K k.g cs)) (hkw : PK X kws (tEvs X.K k.g ckw)) (hp : es.all plainX = true)
    (hks : kws.map (·.arg) = ks.map some) (hl : ks.length = ckw.length) (hE : es.length = cs.length) (hf : f ∈ k.fns) (hkl : (f, cs.length, ks) ∈ k.kwl) (hg : glB k.sc f = true) (hn : nmB f = true) :
    PE X (.Call (.Name f p) es kws pos) (tEv X.K k.g (.callK f cs ks ckw)) := by
  obtain ⟨a, fd, ps, lv, O⟩ := hk.call f hf
  obtain ⟨w1, w2, w3⟩ := kw_names kws ks pos X.env hks
  refine ⟨fun pins s σ H Q I ⟨μ, δ, S, d, S', E, R, e1, q⟩ => ?_⟩
  simp only [evE] at e1
  obtain ⟨⟨ds, S1⟩, e2, e3⟩ := bindS e1
  obtain ⟨⟨dk, S2⟩, e4, e5⟩ := bindS e3
  obtain ⟨pl, e6, e7⟩ := bindS e5
  obtain ⟨as, e8, e9⟩ := bindS e7
  have l1 := evEs_len e2
  have l2 := evEs_len e4
  obtain ⟨lp, hb⟩ := O.kw _ _ pl hkl e6
  have go : ∀ (us : List Value) (s1 : Shared) (vs : List V) (H1 : Hp) (μ1 : Mu), Inv X pins σ H1 s1 → Vals vs us → Ext μ H μ1 H1 → Rl X.K μ1 H1 S1 → RepEnv X.K μ1 H1 σ δ → Reps X.K μ1 H1 ds vs →
      wpAny (model X.prog X.w) X.A (evalAll ((backToKw pos (keywordEach kws X.env)).map (·.2))) (fun ws s₂ => X.K.In s₂.heap ∧ wpAny (model X.prog X.w) X.A (call (.ref a) ([] ++ us) (((backToKw pos (keywordEach kws X.env)).filterMap (·.1)).zip ws)) (EP X pins σ Q) X.xe s₂) X.xe s1 := by
    intro us s1 vs H1 μ1 I1 r1 E1 R1 N1 p1
    refine thn (hkw.run pos pins s1 σ H1 _ I1 (evs1 N1 R1 e4 (W := fun zs H2 => ∃ μ2, Ext μ1 H1 μ2 H2 ∧ Rl X.K μ2 H2 S2 ∧ Reps X.K μ2 H2 dk zs) fun xs H2 μ2 E2 R2 _ p2 => ⟨μ2, E2, R2, p2⟩)) fun ws s2 ⟨zs, H2, I2, r2, μ2, E2, R2, p2⟩ => ⟨I2.kIn, ?_⟩
    rw [w2]
    have pv := (p1.mono R1 E2).append p2
    obtain ⟨vv, pp, rr⟩ := pick_ok pv (r1.append r2) e8
    refine run_g' hk O.fn O.rm I2 (hb s2 us ws (by rw [← r1.length, ← p1.length, l1]) (by rw [← r2.length, ← p2.length, l2, hl])) rr ?_
    exact ⟨μ2, S2, as, d, S', R2, pp, e9, q.ext (E1.trans E2)⟩
  refine wpAny_Call_Name_kw (ld_glob I (glB_ok hk hg) O.mg ?_ (nmB_ok hn).1)
  cases es with
  | nil =>
    have ec : cs = [] := by
      cases cs with
      | nil => rfl
      | cons c cs =>
        cases hE
    subst ec
    simp only [evEs] at e2
    cases e2
    exact PySem.W.callWith_KW0 (h₀ := X.base) I.ok.mod.kin O.kp w1 (go [] s [] H μ I .nil Ext.refl R E Reps.nil) (by rw [w3]; rfl)
  | cons e es =>
    obtain ⟨h1, h2⟩ := Bool.and_eq_true_iff.mp (show (plainX e && es.all plainX) = true from hp)
    refine PySem.W.callWith_KW (h₀ := X.base) I.ok.mod.kin O.kp w1 ?_ (by rw [w3, nostar hp]; rfl) (star_of h1 _ _)
    exact thn (ha.run pos pins s σ H _ I (evs1 E R e2 (W := fun zs H2 => ∃ μ2, Ext μ H μ2 H2 ∧ Rl X.K μ2 H2 S1 ∧ RepEnv X.K μ2 H2 σ δ ∧ Reps X.K μ2 H2 ds zs) fun xs H2 μ2 E2 R2 N2 p2 => ⟨μ2, E2, R2, N2, p2⟩)) fun us s1 ⟨vs, H1, I1, r1, μ1, E1, R1, N1, p1⟩ => go us s1 vs H1 μ1 I1 r1 E1 R1 N1 p1
end
end Dn

set_option maxHeartbeats 4000000
namespace Dn
open PySem PySem.Spec PyProof.Rows L2

/-! ### built-in functions -/
def rBlt (K : PySem.W.Frag) (f : String) : List V → Hp → VK → Prop := fun xs H Q => ∃ μ S ds d, Rl K μ H S ∧ Reps K μ H ds xs ∧ bltD S f ds = some d ∧ Pst K μ H S d Q
section
variable {K : PySem.W.Frag} {μ : Mu} {H : Hp} {S : Sto}
theorem reps1 {d : D} {xs : List V} (h : Reps K μ H [d] xs) : ∃ v, xs = [v] ∧ Rep K μ H d v := by
  obtain ⟨v, r, rfl, p, t⟩ := reps_cons.mp h
  rw [reps_nil.mp t]
  exact ⟨v, rfl, p⟩
theorem reps2 {d e : D} {xs : List V} (h : Reps K μ H [d, e] xs) : ∃ v u, xs = [v, u] ∧ Rep K μ H d v ∧ Rep K μ H e u := by
  obtain ⟨v, r, rfl, p, t⟩ := reps_cons.mp h
  obtain ⟨u, rfl, p2⟩ := reps1 t
  exact ⟨v, u, rfl, p, p2⟩
theorem bls_rep : ∀ {ds : List D} {bs : List Bool} {vs : List V}, blsD ds = some bs → Reps K μ H ds vs → vs = bs.map V.bl
  | [], bs, vs, e, h => by simp only [blsD, Option.some.injEq] at e; subst e; exact reps_nil.mp h
  | d :: ds, bs, vs, e, h => by
    obtain ⟨v, r, rfl, p, t⟩ := reps_cons.mp h
    cases d with
    | bl b =>
      simp only [blsD] at e
      obtain ⟨q, e1, e2⟩ := mapS e
      subst e2
      cases rep_bl p
      rw [bls_rep e1 t]; rfl
    | _ => simp only [blsD] at e; cases e
theorem ints_rep : ∀ {ds : List D} {ns : List Int} {vs : List V}, intsD ds = some ns → Reps K μ H ds vs → vs = ns.map V.int
  | [], bs, vs, e, h => by simp only [intsD, Option.some.injEq] at e; subst e; exact reps_nil.mp h
  | d :: ds, bs, vs, e, h => by
    obtain ⟨v, r, rfl, p, t⟩ := reps_cons.mp h
    cases d with
    | int b =>
      simp only [intsD] at e
      obtain ⟨q, e1, e2⟩ := mapS e
      subst e2
      cases rep_int p
      rw [ints_rep e1 t]; rfl
    | _ => simp only [intsD] at e; cases e
theorem foldl_max_ge : ∀ (r : List Int) (n y : Int), (y = n ∨ y ∈ r) → y ≤ r.foldl max n
  | [], n, y, h => by rcases h with h | h; exact Int.le_of_eq h; cases h
  | x :: r, n, y, h => by
    show y ≤ r.foldl max (max n x)
    rcases h with h | h
    · subst h
      exact Int.le_trans (Int.le_max_left _ _) (foldl_max_ge r _ _ (.inl rfl))
    · rcases List.mem_cons.mp h with h | h
      · subst h
        exact Int.le_trans (Int.le_max_right _ _) (foldl_max_ge r _ _ (.inl rfl))
      · exact foldl_max_ge r _ y (.inr h)
theorem foldl_max_mem : ∀ (r : List Int) (n : Int), r.foldl max n ∈ n :: r
  | [], n => List.mem_cons_self ..
  | x :: r, n => by
    show r.foldl max (max n x) ∈ n :: x :: r
    have h := foldl_max_mem r (max n x)
    rcases List.mem_cons.mp h with h | h
    · rw [h]
      by_cases q : n ≤ x
      · rw [Int.max_eq_right q]; exact List.mem_cons_of_mem _ (List.mem_cons_self ..)
      · rw [Int.max_eq_left (by omega)]; exact List.mem_cons_self ..
    · exact List.mem_cons_of_mem _ (List.mem_cons_of_mem _ h)
end
section
variable {X : Cx} {k : Kc}
theorem CallR.imp' {f : Value} {r r' : List V → Hp → VK → Prop} (h : CallR X f r) (i : ∀ xs H Q, r' xs H Q → r xs H Q) : CallR X f r' := fun pins s σ H xs us Q I rv q => h pins s σ H xs us Q I rv (i xs H Q q)
theorem cr_len : CallR X (.builtin "len") (rBlt X.K "len") := by
  intro pins s σ H xs us Q I rv ⟨μ, S, ds, d, R, p, e, q⟩
  simp only [bltD, ↓reduceIte] at e
  split at e
  · rename_i x
    obtain ⟨v, rfl, p1⟩ := reps1 p
    cases rep_str p1
    split at e
    · rename_i hl
      cases e
      exact call_len_str pins s σ H _ us Q I rv ⟨x, rfl, by rw [sizeL]; exact hl, q.at R mk_int⟩
    · cases e
  · obtain ⟨v, rfl, p1⟩ := reps1 p
    obtain ⟨ys, e1, e2⟩ := mapS e
    subst e2
    obtain ⟨a, vs, rfl, h1, h2⟩ := rep_items R e1 p1
    exact call_len_seq pins s σ H _ us Q I rv ⟨a, vs, rfl, h1, by rw [← h2.length]; exact q.at R mk_int⟩
  · cases e
theorem cr_abs : CallR X (.builtin "abs") (rBlt X.K "abs") := by
  intro pins s σ H xs us Q I rv ⟨μ, S, ds, d, R, p, e, q⟩
  simp only [bltD, String.reduceEq, ↓reduceIte] at e
  split at e
  · obtain ⟨v, rfl, p1⟩ := reps1 p
    cases rep_int p1
    cases e
    exact call_abs pins s σ H _ us Q I rv ⟨_, rfl, q.at R mk_int⟩
  · cases e
theorem cr_int : CallR X (.type "int") (rBlt X.K "int") := by
  intro pins s σ H xs us Q I rv ⟨μ, S, ds, d, R, p, e, q⟩
  simp only [bltD, String.reduceEq, ↓reduceIte] at e
  split at e
  · obtain ⟨v, rfl, p1⟩ := reps1 p
    cases rep_int p1
    cases e
    exact call_int1 pins s σ H _ us Q I rv (.inl ⟨_, rfl, q.at R mk_int⟩)
  · obtain ⟨v, rfl, p1⟩ := reps1 p
    cases rep_bl p1
    cases e
    exact call_int1 pins s σ H _ us Q I rv (.inr ⟨_, rfl, q.at R mk_int⟩)
  · cases e
theorem cr_allD (hk : KcOk X k) : CallR X (.builtin "all") (rBlt X.K "all") := by
  intro pins s σ H xs us Q I rv ⟨μ, S, ds, d, R, p, e, q⟩
  simp only [bltD, String.reduceEq, ↓reduceIte] at e
  split at e
  · obtain ⟨v, rfl, p1⟩ := reps1 p
    obtain ⟨ys, e1, e2⟩ := bindS e
    obtain ⟨bs, e3, e4⟩ := mapS e2
    subst e4
    obtain ⟨a, vs, rfl, h1, h2⟩ := rep_litems R e1 p1
    rw [bls_rep e3 h2] at h1
    exact cr_all hk.calm pins s σ H _ us Q I rv ⟨a, bs, rfl, h1, q.at R mk_bl⟩
  · cases e
theorem cr_anyD (hk : KcOk X k) : CallR X (.builtin "any") (rBlt X.K "any") := by
  intro pins s σ H xs us Q I rv ⟨μ, S, ds, d, R, p, e, q⟩
  simp only [bltD, String.reduceEq, ↓reduceIte] at e
  split at e
  · obtain ⟨v, rfl, p1⟩ := reps1 p
    obtain ⟨ys, e1, e2⟩ := bindS e
    obtain ⟨bs, e3, e4⟩ := mapS e2
    subst e4
    obtain ⟨a, vs, rfl, h1, h2⟩ := rep_litems R e1 p1
    rw [bls_rep e3 h2] at h1
    exact cr_any hk.calm pins s σ H _ us Q I rv ⟨a, bs, rfl, h1, q.at R mk_bl⟩
  · cases e
theorem cr_tuple : CallR X (.type "tuple") (rBlt X.K "tuple") := by
  intro pins s σ H xs us Q I rv ⟨μ, S, ds, d, R, p, e, q⟩
  simp only [bltD, String.reduceEq, ↓reduceIte] at e
  split at e
  · obtain ⟨v, rfl, p1⟩ := reps1 p
    obtain ⟨ys, e1, e2⟩ := mapS e
    subst e2
    obtain ⟨a, vs, rfl, h1, h2⟩ := rep_items R e1 p1
    refine call_tuple_of pins s σ H _ us Q I rv ⟨a, vs, rfl, ?_⟩
    rcases h1 with h1 | h1
    · exact .inl ⟨h1, fun l hl => q.new R hl (mk_tup (SqT.of upd_same) (h2.mono R (Ext.new hl)))⟩
    · exact .inr ⟨h1, q.at R (mk_tup h1 h2)⟩
  · cases e
theorem cr_list : CallR X (.type "list") (rBlt X.K "list") := by
  intro pins s σ H xs us Q I rv ⟨μ, S, ds, d, R, p, e, q⟩
  simp only [bltD, String.reduceEq, ↓reduceIte] at e
  split at e
  · obtain ⟨v, rfl, p1⟩ := reps1 p
    obtain ⟨ys, e1, e2⟩ := mapS e
    subst e2
    obtain ⟨a, vs, rfl, h1, h2⟩ := rep_items R e1 p1
    exact call_list_of pins s σ H _ us Q I rv ⟨a, vs, rfl, h1, fun l hl => q.new R hl (mk_lst (R.fz hl) upd_same (h2.mono R (Ext.new hl)))⟩
  · cases e
theorem cr_divmod : CallR X (.builtin "divmod") (rBlt X.K "divmod") := by
  intro pins s σ H xs us Q I rv ⟨μ, S, ds, d, R, p, e, q⟩
  simp only [bltD, String.reduceEq, ↓reduceIte] at e
  split at e
  · obtain ⟨v, u, rfl, p1, p2⟩ := reps2 p
    cases rep_int p1
    cases rep_int p2
    split at e
    · rename_i hc
      cases e
      exact call_divmod pins s σ H _ us Q I rv ⟨_, _, rfl, hc, fun l hl => q.new R hl (mk_tup (SqT.of upd_same) (Reps.cons mk_int (Reps.cons mk_int Reps.nil)))⟩
    · cases e
  · cases e
theorem cr_minD (hk : KcOk X k) : CallR X (.builtin "min") (rBlt X.K "min") := by
  intro pins s σ H xs us Q I rv ⟨μ, S, ds, d, R, p, e, q⟩
  simp only [bltD, String.reduceEq, ↓reduceIte] at e
  split at e
  · obtain ⟨v, u, rfl, p1, p2⟩ := reps2 p
    cases rep_int p1
    cases rep_int p2
    cases e
    exact call_min2 hk.calm pins s σ H _ us Q I rv ⟨_, _, rfl, q.at R mk_int⟩
  · cases e
theorem cr_maxD (hk : KcOk X k) : CallR X (.builtin "max") (rBlt X.K "max") := by
  intro pins s σ H xs us Q I rv ⟨μ, S, ds, d, R, p, e, q⟩
  simp only [bltD, String.reduceEq, ↓reduceIte] at e
  split at e
  · obtain ⟨v, u, rfl, p1, p2⟩ := reps2 p
    cases rep_int p1
    cases rep_int p2
    cases e
    exact call_max2 hk.calm pins s σ H _ us Q I rv ⟨_, _, rfl, q.at R mk_int⟩
  · obtain ⟨v, rfl, p1⟩ := reps1 p
    obtain ⟨ys, e1, e2⟩ := bindS e
    obtain ⟨ns, e3, e4⟩ := bindS e2
    obtain ⟨a, vs, rfl, h1, h2⟩ := rep_litems R e1 p1
    rw [ints_rep e3 h2] at h1
    cases ns with
    | nil => cases e4
    | cons n r =>
      cases e4
      refine cr_max hk.calm pins s σ H _ us Q I rv ⟨a, n :: r, rfl, h1, by simp, fun m hm hy => ?_⟩
      have e5 : m = r.foldl max n := Int.le_antisymm (foldl_max_ge r n m (List.mem_cons.mp hm)) (hy _ (foldl_max_mem r n))
      rw [e5]
      exact q.at R mk_int
  · cases e
theorem cr_gcdD : CallR X (.builtin "math.gcd") (rBlt X.K "gcd") := by
  intro pins s σ H xs us Q I rv ⟨μ, S, ds, d, R, p, e, q⟩
  simp only [bltD, String.reduceEq, ↓reduceIte] at e
  split at e
  · obtain ⟨v, u, rfl, p1, p2⟩ := reps2 p
    cases rep_int p1
    cases rep_int p2
    cases e
    exact cr_gcd pins s σ H _ us Q I rv ⟨_, _, rfl, q.at R mk_int⟩
  · cases e
theorem cr_repr (hk : KcOk X k) : CallR X (.builtin "repr") (rBlt X.K "repr") := by
  intro pins s σ H xs us Q I rv ⟨μ, S, ds, d, R, p, e, q⟩
  simp only [bltD, String.reduceEq, ↓reduceIte] at e
  split at e
  · obtain ⟨v, rfl, p1⟩ := reps1 p
    obtain ⟨pdt, e1, e2⟩ := bindS e
    split at e2
    · rename_i hc
      cases e2
      simp only [Bool.and_eq_true, decide_eq_true_eq, Bool.not_eq_true'] at hc
      obtain ⟨⟨⟨c1, c2⟩, c3⟩, c4⟩ := hc
      obtain ⟨u, rfl, rx⟩ := vals1 rv
      have dp := dp_dr R e1 p1
      have hu := hk.hu
      have he : EP X pins σ Q = EP X pins σ Q := rfl
      cases dp with
      | non =>
        cases rx
        refine PySem.P.repr_of_none ⟨.str _, H, I.tok _, ⟨_, rfl⟩, ?_⟩
        have := q.at R mk_str
        simpa only [PyData.shown] using this
      | bl b =>
        cases rx
        refine PySem.P.repr_of_bool ⟨.str _, H, I.tok _, ⟨_, rfl⟩, ?_⟩
        have := q.at R mk_str
        cases b <;> simpa only [PyData.shown] using this
      | int i =>
        obtain ⟨t, rfl⟩ := rx
        refine PySem.P.repr_of_int (by simpa [PyData.showable] using c1) ⟨.str _, H, I.tok _, ⟨_, rfl⟩, ?_⟩
        have := q.at R mk_str
        simpa only [PyData.shown] using this
      | str z =>
        obtain ⟨t, rfl⟩ := rx
        refine PySem.P.repr_of_str ⟨.str _, H, I.tok _, ⟨_, rfl⟩, ?_⟩ (by rw [sizeL]; simpa only [PyData.shown] using c4)
        have := q.at R mk_str
        simpa only [PyData.shown] using this
      | lst hs ha =>
        rename_i a vs ps
        cases rx
        obtain ⟨as, rd⟩ := Dp.reads I (.list ps) (.ref a) (.ref a) (.lst hs ha) rfl
        exact repr_of_reads' rd c1 (PyData.noDict_hsm c2) hk.gd (by omega) (fun _ _ e => e) (fun h' u tk hk' => ⟨.str _, H, I.kept hk', ⟨_, rfl⟩, q.at R mk_str⟩) (by rw [sizeL]; exact c4)
      | tup hs ha =>
        rename_i a vs ps
        cases rx
        obtain ⟨as, rd⟩ := Dp.reads I (.tuple ps) (.ref a) (.ref a) (.tup hs ha) rfl
        exact repr_of_reads' rd c1 (PyData.noDict_hsm c2) hk.gd (by omega) (fun _ _ e => e) (fun h' u tk hk' => ⟨.str _, H, I.kept hk', ⟨_, rfl⟩, q.at R mk_str⟩) (by rw [sizeL]; exact c4)
    · cases e2
  · cases e
/-- the value of a built-in name -/
inductive BV where
  | fn (id : String) | ty (T : String)
def bltV (f : String) : Option BV :=
  if f = "len" then some (.fn "len") else if f = "abs" then some (.fn "abs") else if f = "int" then some (.ty "int") else if f = "all" then some (.fn "all") else if f = "any" then some (.fn "any")
  else if f = "tuple" then some (.ty "tuple") else if f = "list" then some (.ty "list") else if f = "divmod" then some (.fn "divmod") else if f = "min" then some (.fn "min") else if f = "max" then some (.fn "max")
  else if f = "repr" then some (.fn "repr") else none
theorem bltV_ok (hk : KcOk X k) {f : String} {b : BV} (h : bltV f = some b) : match b with
    | .fn id => bootBuiltins (Str.ofString f) = some (.builtin id) ∧ CallR X (.builtin id) (rBlt X.K f)
    | .ty T => bootBuiltins (Str.ofString f) = some (.type T) ∧ CallR X (.type T) (rBlt X.K f) := by
  unfold bltV at h
  split at h
  · subst_vars; cases h; exact ⟨by decide +kernel, cr_len⟩
  split at h
  · subst_vars; cases h; exact ⟨by decide +kernel, cr_abs⟩
  split at h
  · subst_vars; cases h; exact ⟨by decide +kernel, cr_int⟩
  split at h
  · subst_vars; cases h; exact ⟨by decide +kernel, cr_allD hk⟩
  split at h
  · subst_vars; cases h; exact ⟨by decide +kernel, cr_anyD hk⟩
  split at h
  · subst_vars; cases h; exact ⟨by decide +kernel, cr_tuple⟩
  split at h
  · subst_vars; cases h; exact ⟨by decide +kernel, cr_list⟩
  split at h
  · subst_vars; cases h; exact ⟨by decide +kernel, cr_divmod⟩
  split at h
  · subst_vars; cases h; exact ⟨by decide +kernel, cr_minD hk⟩
  split at h
  · subst_vars; cases h; exact ⟨by decide +kernel, cr_maxD hk⟩
  split at h
  · subst_vars; cases h; exact ⟨by decide +kernel, cr_repr hk⟩
  · cases h
theorem e_blt (hk : KcOk X k) {f : String} {x : Str} {e : Expr} {es : List Expr} {cs : List C} {p pos : Pos} (ha : PA X (e :: es) (tEvs X.K k.g cs)) (hp : (e :: es).all plainX = true) (hx : x = Str.ofString f)
    (hf : (bltV f).isSome = true) (hfree : x ∈ k.free) (hg : glB k.sc x = true) (hn : nmB x = true) : PE X (.Call (.Name x p) (e :: es) [] pos) (tEv X.K k.g (.blt f cs)) := by
  obtain ⟨b, hb⟩ := Option.isSome_iff_exists.mp hf
  obtain ⟨h1, h2⟩ := Bool.and_eq_true_iff.mp (show (plainX e && es.all plainX) = true from hp)
  obtain ⟨n1, _, n3⟩ := nmB_ok hn
  have w := bltV_ok hk hb
  have step : ∀ {r : List V → Hp → VK → Prop}, (∀ xs H Q, rBlt X.K f xs H Q → r xs H Q) → ∀ σ H Q, tEv X.K k.g (.blt f cs) σ H Q → tCB r (tEvs X.K k.g cs) σ H Q := fun {r} i σ H Q ⟨μ, δ, S, d, S', E, R, e1, q⟩ => by
    simp only [evE] at e1
    obtain ⟨⟨ds, S1⟩, e2, e3⟩ := bindS e1
    obtain ⟨d', e4, e5⟩ := mapS e3
    cases e5
    exact evs1 E R e2 fun xs H1 μ1 E1 R1 _ p1 => i _ _ _ ⟨μ1, _, ds, _, R1, p1, e4, q.ext E1⟩
  subst hx
  cases b with
  | fn id => exact (pe_callB w.2 (glB_ok hk hg) (hk.free _ hfree) w.1 ha n3 n1 (star_of h1 _ _) (nostar h2 _ _)).imp (step fun _ _ _ z => z)
  | ty T => exact (pe_callTy w.2 (glB_ok hk hg) (hk.free _ hfree) w.1 ha n3 n1 (star_of h1 _ _) (nostar h2 _ _)).imp (step fun _ _ _ z => z)
theorem e_gcd (hk : KcOk X k) {x : Str} {e : Expr} {es : List Expr} {cs : List C} {p pos : Pos} (ha : PA X (e :: es) (tEvs X.K k.g cs)) (hp : (e :: es).all plainX = true)
    (hb : k.bf.lookup x = some "math.gcd") (hg : glB k.sc x = true) (hn : nmB x = true) : PE X (.Call (.Name x p) (e :: es) [] pos) (tEv X.K k.g (.blt "gcd" cs)) := by
  obtain ⟨h1, h2⟩ := Bool.and_eq_true_iff.mp (show (plainX e && es.all plainX) = true from hp)
  obtain ⟨n1, _, n3⟩ := nmB_ok hn
  exact (pe_callBfun cr_gcdD (glB_ok hk hg) (hk.bf _ _ hb) ha n1 (star_of h1 _ _) (nostar h2 _ _)).imp fun σ H Q ⟨μ, δ, S, d, S', E, R, e1, q⟩ => by
    simp only [evE] at e1
    obtain ⟨⟨ds, S1⟩, e2, e3⟩ := bindS e1
    obtain ⟨d', e4, e5⟩ := mapS e3
    cases e5
    exact evs1 E R e2 fun xs H1 μ1 E1 R1 _ p1 => ⟨μ1, _, ds, _, R1, p1, e4, q.ext E1⟩

/-! ### isinstance with a built-in class -/
theorem tyx_of {K : PySem.W.Frag} {μ : Mu} {H : Hp} {S : Sto} (R : Rl K μ H S) {d : D} {v : V} (h : Rep K μ H d v) (hr : ∀ n, d = .ref n → n < S.length) : TyX K H v (.type (tyD d)) := by
  cases d with
  | non => cases rep_non h; exact .base .non
  | bl b => cases rep_bl h; exact .base (.bl b)
  | int b => cases rep_int h; exact .base (.int b)
  | str b => cases rep_str h; exact .base (.str b)
  | tup xs =>
    obtain ⟨a, vs, rfl, h1, h2⟩ := rep_tup h
    rcases h1 with (h1 | ⟨o, h1⟩) | ⟨o, its, n, h1, h3, _⟩
    · exact .base (.tup h1)
    · exact .fTuple h1
    · exact .kTuple h1 h3
  | lst xs =>
    simp only [Rep] at h
    obtain ⟨a, vs, rfl, _, h1, _⟩ := h
    exact .base (.lst h1)
  | scr xs =>
    simp only [Rep] at h
    obtain ⟨a, vs, rfl, h1, _⟩ := h
    rcases h1 with ⟨o, h1⟩ | ⟨o, its, n, h1, h3, _⟩
    · exact .base (.frz h1)
    · exact .kList h1 h3
  | dic ks xs =>
    simp only [Rep] at h
    obtain ⟨a, vs, rfl, _, _, h1, _⟩ := h
    exact .base (.dK h1)
  | ref n =>
    simp only [Rep] at h
    obtain ⟨a, rfl, h1⟩ := h
    obtain ⟨vs, e⟩ := R.mem (List.mem_of_getElem? h1)
    exact .base (.lst e)
def tyNames : List String := ["int", "str", "bool", "tuple", "list", "dict"]
theorem tyNames_ok {T : String} (h : T ∈ tyNames) : bootBuiltins (Str.ofString T) = some (.type T) := by
  simp only [tyNames, List.mem_cons, List.not_mem_nil, or_false] at h
  rcases h with rfl | rfl | rfl | rfl | rfl | rfl <;> decide +kernel
theorem e_isi (hk : KcOk X k) {T : String} {x t : Str} {e : Expr} {c : C} {p p2 pos : Pos} (ha : PE X e (tEv X.K k.g c)) (hp : plainX e = true) (hx : x = Str.ofString "isinstance") (ht : t = Str.ofString T) (hT : T ∈ tyNames)
    (hf1 : x ∈ k.free) (hf2 : t ∈ k.free) (hg1 : glB k.sc x = true) (hg2 : glB k.sc t = true) (hn : nmB t = true) : PE X (.Call (.Name x p) [e, .Name t p2] [] pos) (tEv X.K k.g (.isi c T)) := by
  subst hx
  obtain ⟨n1, _, n3⟩ := nmB_ok hn
  have hb := tyNames_ok hT
  rw [← ht] at hb
  have hN : PE X (.Name t p2) (tC (.ty T)) := pe_bltn (glB_ok hk hg2) (hk.free _ hf2) hb rfl n3 n1
  refine (pe_callB call_isi (glB_ok hk hg1) (hk.free _ hf1) (by decide +kernel) (pa_cons ha (pa_cons hN pa_nil) (star_of hp _ _)) (by decide +kernel) (by decide +kernel) (star_of hp _ _) rfl).imp fun σ H Q ⟨μ, δ, S, d, S', E, R, e1, q⟩ => ?_
  simp only [evE] at e1
  obtain ⟨⟨d1, S1⟩, e2, e3⟩ := bindS e1
  obtain ⟨b, e4, e5⟩ := mapS e3
  cases e5
  refine ev1 E R e2 fun x H1 μ1 E1 R1 _ p1 => ⟨x, .ty T, _, _, b, rfl, .ty T, tyx_of R1 p1 fun n en => ?_, kit_ty e4, (q.ext E1).at R1 mk_bl⟩
  subst en
  simp only [Rep] at p1
  obtain ⟨a, _, h1⟩ := p1
  rw [← R1.len]
  exact (List.getElem?_eq_some_iff.mp h1).1

/-! ### subscripts, slices -/
theorem at_rep {K : PySem.W.Frag} {μ : Mu} {H : Hp} {ds : List D} {vs : List V} (h : Reps K μ H ds vs) {i : Int} {d : D} (e : atI ds i = some d) : ∃ v, atI vs i = some v ∧ Rep K μ H d v := by
  unfold atI at e ⊢
  obtain ⟨j, e1, e2⟩ := bindS e
  obtain ⟨v, e3, p⟩ := h.get e2
  refine ⟨v, ?_, p⟩
  rw [← h.length, e1]
  exact e3
theorem e_ix (hk : KcOk X k) {x y : Expr} {a b : C} {pos : Pos} (ha : PE X x (tEv X.K k.g a)) (hb : PE X y (tEv X.K k.g b)) (hp : plainX y = true) : PE X (.Subscript x y pos) (tEv X.K k.g (.ix a b)) :=
  (pe_ix ix_seq ha hb (fun _ _ => by cases y <;> first | rfl | cases hp)).imp fun σ H Q ⟨μ, δ, S, d, S', E, R, e1, q⟩ => by
  simp only [evE] at e1
  obtain ⟨⟨d1, S1⟩, e2, e3⟩ := bindS e1
  obtain ⟨⟨d2, S2⟩, e4, e5⟩ := bindS e3
  obtain ⟨r, e6, e7⟩ := mapS e5
  cases e7
  refine ev2 E R e2 e4 fun x y H2 μ2 E2 R2 _ p1 p2 => ?_
  cases d2 with
  | int i =>
    cases rep_int p2
    obtain ⟨xs, e8, e9⟩ := bindS e6
    obtain ⟨a, vs, rfl, h1, h2⟩ := rep_items R2 e8 p1
    obtain ⟨v, e10, p3⟩ := at_rep h2 e9
    rcases h1 with h1 | h1
    · exact .inl ⟨a, vs, i, v, rfl, rfl, h1, e10, (q.ext E2).at R2 p3⟩
    · exact .inr (.inl ⟨a, vs, i, v, rfl, rfl, h1, e10, (q.ext E2).at R2 p3⟩)
  | _ => cases e6
theorem cut_rep {K : PySem.W.Frag} {μ : Mu} {H : Hp} {ds : List D} {vs : List V} (h : Reps K μ H ds vs) (lo hi : Option Int) : Reps K μ H (cutD ds lo hi) (cutV vs lo hi) := by
  unfold cutD cutV
  rw [h.length]
  exact (h.drop _).take _
theorem cut_whole {ds : List D} {lo hi : Option Int} (h : HT.sIx ds.length 0 lo = 0 ∧ HT.sIx ds.length ds.length hi = ds.length) : cutD ds lo hi = ds := by
  unfold cutD
  rw [h.1, h.2, List.drop_zero, Nat.sub_zero, List.take_length]
def rSlD (K : PySem.W.Frag) : V → Option Int → Option Int → Hp → VK → Prop := fun x lo hi H Q => ∃ μ S d1 d, Rl K μ H S ∧ Rep K μ H d1 x ∧ slD S d1 lo hi = some d ∧ Pst K μ H S d Q
theorem sl_D : SlR X (rSlD X.K) := by
  intro pins s σ H x v vl vu lo hi sl Q I rx hs pl pu ⟨μ, S, d1, d, R, p1, e, q⟩
  unfold slD at e
  split at e
  · rename_i xs e1
    have z := dr_tup e1; subst z
    obtain ⟨a, vs, rfl, h1, h2⟩ := rep_tup p1
    cases e
    refine sl_tupA pins s σ H _ v vl vu lo hi sl Q I rx hs pl pu ⟨a, vs, rfl, h1, fun w => ?_, fun w p hp => ?_⟩
    · rw [← h2.length] at w
      rw [cut_whole w] at q
      exact q.at R (mk_tup h1 h2)
    · exact q.new R hp (mk_tup (SqT.of upd_same) ((cut_rep h2 lo hi).mono R (Ext.new hp)))
  · rename_i xs e1
    obtain ⟨a, vs, rfl, h1, h2⟩ := rep_lst R e1 p1
    cases e
    exact sl_list pins s σ H _ v vl vu lo hi sl Q I rx hs pl pu ⟨a, vs, rfl, SqL.of h1, fun p hp => q.new R hp (mk_lst (R.fz hp) upd_same ((cut_rep h2 lo hi).mono R (Ext.new hp)))⟩
  · rename_i xs e1
    have z := dr_scr e1; subst z
    simp only [Rep] at p1
    obtain ⟨a, vs, rfl, h1, h2⟩ := p1
    cases e
    exact sl_list pins s σ H _ v vl vu lo hi sl Q I rx hs pl pu ⟨a, vs, rfl, h1.sql, fun p hp => q.new R hp (mk_lst (R.fz hp) upd_same ((cut_rep h2 lo hi).mono R (Ext.new hp)))⟩
  · cases e
/-- a part of a slice -/
def tPt (K : PySem.W.Frag) (G : GE) (c : C) : TO := fun σ H Q => ∃ μ δ S d o S', RepEnv K μ H σ δ ∧ Rl K μ H S ∧ evE G c δ S = some (d, S') ∧ partD (isNonC c) d = some o ∧ ∀ H' μ', Ext μ H μ' H' → Rl K μ' H' S' → Q o H'
theorem o_none : PO X none (tPt X.K k.g .non) := ⟨fun pins s σ H Q I ⟨μ, δ, S, d, o, S', E, R, e1, e2, q⟩ => by
  simp only [evE] at e1; cases e1
  simp only [isNonC, partD] at e2; cases e2
  exact po_none.run pins s σ H Q I (q H μ Ext.refl R)⟩
theorem o_some {e : Expr} {c : C} (h : PE X e (tEv X.K k.g c)) (hc : isNonC c = false) : PO X (some e) (tPt X.K k.g c) := ⟨fun pins s σ H Q I ⟨μ, δ, S, d, o, S', E, R, e1, e2, q⟩ => by
  refine (po_some h).run pins s σ H Q I ?_
  refine ev1 E R e1 fun x H1 μ1 E1 R1 _ p1 => ?_
  rw [hc] at e2
  cases d with
  | int i => cases e2; cases rep_int p1; exact ⟨i, rfl, q H1 μ1 E1 R1⟩
  | _ => cases e2⟩
theorem e_sl {x : Expr} {lo hi : Option Expr} {a l h : C} {pos p2 : Pos} (ha : PE X x (tEv X.K k.g a)) (hl : PO X lo (tPt X.K k.g l)) (hh : PO X hi (tPt X.K k.g h)) : PE X (.Subscript x (.Slice lo hi none p2) pos) (tEv X.K k.g (.sl a l h)) :=
  (pe_slice sl_D ha hl hh).imp fun σ H Q ⟨μ, δ, S, d, S', E, R, e1, q⟩ => by
  simp only [evE] at e1
  obtain ⟨⟨d1, S1⟩, e2, e3⟩ := bindS e1
  obtain ⟨⟨d2, S2⟩, e4, e5⟩ := bindS e3
  obtain ⟨⟨d3, S3⟩, e6, e7⟩ := bindS e5
  obtain ⟨o1, e8, e9⟩ := bindS e7
  obtain ⟨o2, e10, e11⟩ := bindS e9
  obtain ⟨r, e12, e13⟩ := mapS e11
  cases e13
  refine ev1 E R e2 fun x H1 μ1 E1 R1 N1 p1 => ⟨μ1, δ, S1, d2, o1, S2, N1, R1, e4, e8, fun H2 μ2 E2 R2 => ⟨μ2, δ, S2, d3, o2, S3, N1.mono R1 E2, R2, e6, e10, fun H3 μ3 E3 R3 => ?_⟩⟩
  exact ⟨μ3, S3, d1, d, R3, (p1.mono R1 E2).mono R2 E3, e12, q.ext ((E1.trans E2).trans E3)⟩

/-! ### methods of lists -/
theorem e_append {x e : Expr} {a : C} {cs : List C} {m : Str} {apos cpos : Pos} (ha : PE X x (tEv X.K k.g a)) (hb : PA X [e] (tEvs X.K k.g cs)) (hx : ∃ n p, x = .Name n p) (hm : m = Str.ofString "append") (hp : plainX e = true)
    (hline : (apos.endLine == cpos.line) = true) : PE X (.Call (.Attribute x m apos) [e] [] cpos) (tEv X.K k.g (.meth "append" a cs)) := by
  obtain ⟨n, p, rfl⟩ := hx
  subst hm
  refine (pe_bm PySem.F.plainAttrs_list PySem.F.slot_list_append PySem.F.type_list_append mt_append ha hb (by rfl) ?_ hline (star_of hp _ _) rfl).imp fun σ H Q ⟨μ, δ, S, d, S', E, R, e1, q⟩ => ?_
  · rw [star_of hp]; rfl
  · simp only [evE] at e1
    obtain ⟨⟨d1, S1⟩, e2, e3⟩ := bindS e1
    obtain ⟨⟨ds, S2⟩, e4, e5⟩ := bindS e3
    simp only [methD, ↓reduceIte] at e5
    split at e5
    · rename_i n' x'
      split at e5
      · rename_i kp xs hS
        split at e5
        · rename_i hl
          cases e5
          refine ev1 E R e2 fun x H1 μ1 E1 R1 N1 p1 => ?_
          have pr : ∃ a, x = .ref a ∧ μ1.ad[n']? = some a := by simpa only [Rep] using p1
          obtain ⟨a, rfl, h1⟩ := pr
          obtain ⟨vs1, e6⟩ := R1.mem (List.mem_of_getElem? h1)
          refine ⟨.inl ⟨rfl, vs1, SqL.of e6⟩, evs1 N1 R1 e4 fun ys H2 μ2 E2 R2 N2 p2 => ?_⟩
          obtain ⟨y, rfl, p3⟩ := reps1 p2
          have h2 := E2.ad h1
          obtain ⟨vs, e7, r7⟩ := R2.at_ n' _ a hS h2
          refine ⟨a, vs, y, rfl, rfl, e7, by rw [sizeL, ← r7.length]; exact hl, ?_⟩
          exact q .non _ μ2 ((E1.trans E2).trans (Ext.put (List.mem_of_getElem? h2))) (R2.put h2 (r7.append (Reps.cons p3 Reps.nil))) mk_non
        · cases e5
      · cases e5
    · cases e5
end
end Dn

set_option maxHeartbeats 4000000
namespace Dn
open PySem PySem.Spec PyProof.Rows L2

/-! ### targets -/
mutual
/-- the slots that a target fills -/
def tsl : CT → List Nat
  | .name i => [i]
  | .tup ts => tsls ts
  | .sub _ _ => []
def tsls : List CT → List Nat
  | [] => []
  | t :: ts => tsl t ++ tsls ts
end
def gEv (K : PySem.W.Frag) (G : GE) (t : CT) : TG := fun v σ H Q => ∃ μ δ S d δ' S', RepEnv K μ H σ δ ∧ Rl K μ H S ∧ Rep K μ H d v ∧ evT' G t d δ S = some (δ', S') ∧
  ∀ σ' H' μ', Ext μ H μ' H' → Rl K μ' H' S' → RepEnv K μ' H' σ' δ' → (∀ vs, (∀ i ∈ tsl t, i ∈ vs) → wipe σ' vs = wipe σ vs) → Q σ' H'
def gEvs (K : PySem.W.Frag) (G : GE) (ts : List CT) : TGs := fun xs σ H Q => ∃ μ δ S ds δ' S', RepEnv K μ H σ δ ∧ Rl K μ H S ∧ Reps K μ H ds xs ∧ evTs G ts ds δ S = some (δ', S') ∧
  ∀ σ' H' μ', Ext μ H μ' H' → Rl K μ' H' S' → RepEnv K μ' H' σ' δ' → (∀ vs, (∀ i ∈ tsls ts, i ∈ vs) → wipe σ' vs = wipe σ vs) → Q σ' H'
theorem wipe_set (σ : L2.St) (i : Nat) (x : Option V) : ∀ vs : List Nat, wipe (σ.set i x) vs = if i ∈ vs then wipe σ vs else (wipe σ vs).set i x
  | [] => by simp [wipe]
  | v :: vs => by
    have ih := wipe_set σ i x vs
    unfold wipe
    rw [ih]
    by_cases h : i = v
    · subst h
      rw [if_pos (List.mem_cons_self ..)]
      split
      · rfl
      · rw [List.set_set]
    · by_cases h2 : i ∈ vs
      · rw [if_pos h2, if_pos (List.mem_cons_of_mem _ h2)]
      · rw [if_neg h2, if_neg (fun z => (List.mem_cons.mp z).elim h h2), List.set_comm _ _ h]
theorem _root_.L2.PG.imp {X : Cx} {e : Expr} {t t' : TG} (h : PG X e t) (i : ∀ v σ H Q, t' v σ H Q → t v σ H Q) : PG X e t' := ⟨fun pins s σ H v u Q I r q => h.run pins s σ H v u Q I r (i v σ H Q q)⟩
theorem _root_.L2.PGs.imp {X : Cx} {e : List Expr} {t t' : TGs} (h : PGs X e t) (i : ∀ v σ H Q, t' v σ H Q → t v σ H Q) : PGs X e t' := ⟨fun pins s σ H v u Q I r q => h.run pins s σ H v u Q I r (i v σ H Q q)⟩
def locB (k : Kt) (x : Str) : Bool := match k.sc.names.lookup x with
  | some .local => true
  | some .cell => k.fl x
  | _ => false
section
variable {X : Cx} {k : Kc} {pos : Pos}
theorem locB_ok (hk : KcOk X k) {x : Str} (h : locB k.toKt x = true) : Loc X.env.scope x ∧ (X.fn x = true ∨ X.env.scope.names.lookup x = some .local) := by
  unfold locB at h
  rw [hk.sc] at h
  split at h
  · rename_i e; exact ⟨.inl e, .inr e⟩
  · rename_i e; exact ⟨.inr e, .inl (hk.fl x h)⟩
  · cases h
theorem g_name (hk : KcOk X k) {i : Nat} {x : Str} (h1 : k.N[i]? = some x) (h2 : locB k.toKt x = true) : PG X (.Name x pos) (gEv X.K k.g (.name i)) := by
  obtain ⟨l1, l2⟩ := locB_ok hk h2
  refine (pg_name (i := i) hk.nd (by rw [← hk.N]; exact h1) l1 l2).imp fun v σ H Q ⟨μ, δ, S, d, δ', S', E, R, r, e, q⟩ => ?_
  simp only [evT'] at e
  cases e
  refine q _ H μ Ext.refl R (E.set r) fun vs hv => ?_
  rw [wipe_set, if_pos (hv i (by simp [tsl]))]
theorem gs_nil : PGs X [] (gEvs X.K k.g []) := pgs_nil.imp fun v σ H Q ⟨μ, δ, S, ds, δ', S', E, R, r, e, q⟩ => by
  cases ds with
  | nil =>
    simp only [evTs] at e; cases e
    exact ⟨reps_nil.mp r, q σ H μ Ext.refl R E fun _ _ => rfl⟩
  | cons d ds => simp only [evTs] at e; cases e
theorem assign_star {e : Expr} (h : plainX e = true) (es : List Expr) (env : Env) : assignEach (e :: es) env = (false, assign e env) :: assignEach es env := by
  cases e <;> first | rfl | cases h
theorem gs_cons {e : Expr} {es : List Expr} {t : CT} {ts : List CT} (h1 : PG X e (gEv X.K k.g t)) (h2 : PGs X es (gEvs X.K k.g ts)) (hp : plainX e = true) : PGs X (e :: es) (gEvs X.K k.g (t :: ts)) :=
  (pgs_cons h1 h2 (by rw [assign_star hp]; rfl)).imp fun v σ H Q ⟨μ, δ, S, ds, δ', S', E, R, r, e, q⟩ => by
  cases ds with
  | nil => simp only [evTs] at e; cases e
  | cons d ds =>
    obtain ⟨x, xs, rfl, r1, r2⟩ := reps_cons.mp r
    simp only [evTs] at e
    obtain ⟨⟨δ1, S1⟩, e1, e2⟩ := bindS e
    refine ⟨x, xs, rfl, μ, δ, S, d, δ1, S1, E, R, r1, e1, fun σ1 H1 μ1 E1 R1 N1 w1 => ⟨μ1, δ1, S1, ds, δ', S', N1, R1, r2.mono R E1, e2, fun σ2 H2 μ2 E2 R2 N2 w2 => ?_⟩⟩
    refine q σ2 H2 μ2 (E1.trans E2) R2 N2 fun vs hv => ?_
    rw [w2 vs fun i hi => hv i (by simp [tsls, hi]), w1 vs fun i hi => hv i (by simp [tsls, hi])]
theorem assign_len : ∀ {es : List Expr}, es.all plainX = true → ∀ env : Env, (assignEach es env).length = es.length ∧ (assignEach es env).findIdx? (·.1) = none
  | [], _, _ => ⟨rfl, rfl⟩
  | e :: es, h, env => by
    obtain ⟨h1, h2⟩ := Bool.and_eq_true_iff.mp (show (plainX e && es.all plainX) = true from h)
    obtain ⟨q1, q2⟩ := assign_len h2 env
    rw [assign_star h1]
    refine ⟨by rw [List.length_cons, List.length_cons, q1], ?_⟩
    rw [List.findIdx?_cons, q2]
    rfl
theorem evTs_len {G : GE} : ∀ {ts : List CT} {ds : List D} {δ δ' : En} {S S' : Sto}, evTs G ts ds δ S = some (δ', S') → ds.length = ts.length
  | [], [], _, _, _, _, _ => rfl
  | [], _ :: _, _, _, _, _, e => by simp only [evTs] at e; cases e
  | _ :: _, [], _, _, _, _, e => by simp only [evTs] at e; cases e
  | t :: ts, d :: ds, δ, δ', S, S', e => by
    simp only [evTs] at e
    obtain ⟨⟨δ1, S1⟩, e1, e2⟩ := bindS e
    rw [List.length_cons, List.length_cons, evTs_len e2]
theorem g_tup (hk : KcOk X k) {es : List Expr} {ts : List CT} {kk : Nat} (h : PGs X es (gEvs X.K k.g ts)) (hp : es.all plainX = true) (hl : es.length = ts.length) : PG X (.Tuple es kk pos) (gEv X.K k.g (.tup ts)) := by
  obtain ⟨q1, q2⟩ := assign_len hp X.env
  refine (pg_tup hk.calm h q1 q2).imp fun v σ H Q ⟨μ, δ, S, d, δ', S', E, R, r, e, q⟩ => ?_
  cases d with
  | tup xs =>
    simp only [evT'] at e
    obtain ⟨a, vs, rfl, h1, h2⟩ := rep_tup r
    refine ⟨a, vs, rfl, h1, by rw [← h2.length, evTs_len e, hl], μ, δ, S, xs, δ', S', E, R, h2, e, fun σ1 H1 μ1 E1 R1 N1 w1 => q σ1 H1 μ1 E1 R1 N1 fun vs hv => w1 vs fun i hi => hv i (by simpa [tsl] using hi)⟩
  | _ => simp only [evT'] at e; cases e
theorem g_sub {o i : Expr} {a b : C} (ha : PE X o (tEv X.K k.g a)) (hb : PE X i (tEv X.K k.g b)) (hp : plainX i = true) : PG X (.Subscript o i pos) (gEv X.K k.g (.sub a b)) :=
  (pg_sub ha hb set_list (by intro v; cases i <;> first | rfl | cases hp)).imp fun v σ H Q ⟨μ, δ, S, d, δ', S', E, R, r, e, q⟩ => by
  simp only [evT'] at e
  obtain ⟨⟨d1, S1⟩, e1, e2⟩ := bindS e
  obtain ⟨⟨d2, S2⟩, e3, e4⟩ := bindS e2
  obtain ⟨S3, e5, e6⟩ := mapS e4
  cases e6
  refine ev2 E R e1 e3 fun x y H2 μ2 E2 R2 N2 p1 p2 => ?_
  cases d1 with
  | ref n =>
    cases d2 with
    | int j =>
      simp only [setD] at e5
      cases hS : S2[n]? with
      | none => rw [hS] at e5; cases e5
      | some mo =>
        cases mo with
        | lst kp xs =>
          rw [hS] at e5
          obtain ⟨m, e7, e8⟩ := mapS e5
          subst e8
          cases rep_int p2
          simp only [Rep] at p1
          obtain ⟨a', rfl, h1⟩ := p1
          obtain ⟨vs, e9, r9⟩ := R2.at_ n _ a' hS h1
          refine ⟨a', vs, j, m, rfl, rfl, e9, by rw [← r9.length]; exact e7, ?_⟩
          have E3 : Ext μ2 H2 μ2 (upd H2 a' (.lst (vs.set m v))) := Ext.put (List.mem_of_getElem? h1)
          exact q σ _ μ2 (E2.trans E3) (R2.put h1 (r9.set m (r.mono R E2))) (N2.mono R2 E3) fun _ _ => rfl
    | _ => simp only [setD] at e5; cases e5
  | _ => simp only [setD] at e5; cases e5

/-! ### what is walked -/
def WalkOk (K : PySem.W.Frag) (μ : Mu) (H : Hp) (w : Wk) (J : L2.It) : Prop := ∀ μ1 H1 S1, Ext μ H μ1 H1 → Rl K μ1 H1 S1 → okW w S1 → ∀ i,
  (∀ d, w.xs[i]? = some d → J.go i H1 ∧ ∀ x H2, J.yld i H1 x H2 → Ext μ1 H1 μ1 H2 ∧ Rl K μ1 H2 S1 ∧ Rep K μ1 H2 d x) ∧ (w.xs.length ≤ i → J.stop i H1)
theorem WalkOk.ext {K : PySem.W.Frag} {μ μ' : Mu} {H H' : Hp} {w : Wk} {J : L2.It} (h : WalkOk K μ H w J) (E : Ext μ H μ' H') : WalkOk K μ' H' w J := fun μ1 H1 S1 E1 R1 o => h μ1 H1 S1 (E.trans E1) R1 o
def tIt (K : PySem.W.Frag) (G : GE) (it : CI) : TI := fun σ H R => ∃ μ δ S w S', RepEnv K μ H σ δ ∧ Rl K μ H S ∧ evI G it δ S = some (w, S') ∧ ∀ J H' μ', Ext μ H μ' H' → Rl K μ' H' S' → WalkOk K μ' H' w J → R J H'
theorem _root_.L2.PI.imp {tg e : Expr} {t t' : TI} (h : PI X tg e t) (i : ∀ σ H Q, t' σ H Q → t σ H Q) : PI X tg e t' := ⟨fun pins s σ H Q I q => h.run pins s σ H Q I (i σ H Q q)⟩
theorem sq_back {K : PySem.W.Frag} {μ μ1 : Mu} {H H1 : Hp} {S S1 : Sto} {d : D} {v : V} {xs : List D} (R : Rl K μ H S) (e : items S d = some xs) (h : Rep K μ H d v) (E : Ext μ H μ1 H1) (R1 : Rl K μ1 H1 S1) (o : okW ⟨xs, srcOf d⟩ S1) :
    items S1 d = some xs ∧ Rep K μ1 H1 d v := by
  refine ⟨?_, h.mono R E⟩
  cases d with
  | ref n =>
    obtain ⟨mo, e1, e2⟩ := o n rfl
    simp only [items, e1, Option.map_some, e2]
  | _ => simpa only [items] using e
theorem get_lt {α : Type} {xs : List α} {i : Nat} {x : α} (h : xs[i]? = some x) : i < xs.length := (List.getElem?_eq_some_iff.mp h).1
theorem i_seq {tg l : Expr} {a : C} (ha : PE X l (tEv X.K k.g a)) : PI X tg l (tIt X.K k.g (.seq a)) := ⟨fun pins s σ H R I ⟨μ, δ, S, w, S', E, Rr, e1, q⟩ => by
  simp only [evI] at e1
  obtain ⟨⟨d, S1⟩, e2, e3⟩ := bindS e1
  obtain ⟨xs, e4, e5⟩ := mapS e3
  cases e5
  by_cases ht : isTup d = true
  · cases d with
    | tup ys =>
      simp only [items, Option.some.injEq] at e4
      subst e4
      refine (pi_tup ha).run pins s σ H R I (ev1 E Rr e2 fun x H1 μ1 E1 R1 _ p1 => ?_)
      obtain ⟨b, vs, rfl, h1, h2⟩ := rep_tup p1
      refine ⟨b, rfl, ⟨vs, h1⟩, q _ H1 μ1 E1 R1 fun μ2 H2 S2 E2 R2 o i => ⟨fun d hd => ?_, fun hi => ?_⟩⟩
      · have h1' := E2.sqT R1 h1
        obtain ⟨v, e6, p3⟩ := h2.get hd
        refine ⟨⟨vs, v, h1', e6⟩, fun x H3 y => ?_⟩
        obtain ⟨rfl, y2⟩ := y
        have e7 := (y2 vs h1').symm.trans e6
        cases e7
        exact ⟨Ext.refl, R2, p3.mono R1 E2⟩
      · exact ⟨vs, E2.sqT R1 h1, by rw [← h2.length]; exact hi⟩
    | _ => cases ht
  · refine (pi_list ha).run pins s σ H R I (ev1 E Rr e2 fun x H1 μ1 E1 R1 _ p1 => ?_)
    have e4' : litems S1 d = some xs := by
      cases d with
      | tup ys => exact absurd rfl ht
      | _ => simpa only [items, litems] using e4
    obtain ⟨b, vs, rfl, h1, h2⟩ := rep_litems R1 e4' p1
    refine ⟨b, rfl, ⟨vs, h1⟩, q _ H1 μ1 E1 R1 fun μ2 H2 S2 E2 R2 o i => ?_⟩
    have back : ∃ us, SqL X.K H2 b us ∧ Reps X.K μ2 H2 xs us := by
      obtain ⟨w1, w2⟩ := sq_back R1 e4 p1 E2 R2 o
      have w1' : litems S2 d = some xs := by
        cases d with
        | tup ys => exact absurd rfl ht
        | _ => simpa only [items, litems] using w1
      obtain ⟨b', us, eb, h3, h4⟩ := rep_litems R2 w1' w2
      cases eb
      exact ⟨us, h3, h4⟩
    obtain ⟨us, h3, h4⟩ := back
    refine ⟨fun d hd => ?_, fun hi => ⟨us, h3, by rw [← h4.length]; exact hi⟩⟩
    obtain ⟨v, e6, p3⟩ := h4.get hd
    refine ⟨⟨us, v, h3, e6⟩, fun x H3 y => ?_⟩
    obtain ⟨rfl, y2⟩ := y
    have e7 := (y2 us h3).symm.trans e6
    cases e7
    exact ⟨Ext.refl, R2, p3⟩⟩
theorem rng_get {lo : Int} {n i : Nat} {d : D} (h : (rngD lo n)[i]? = some d) : i < n ∧ d = .int (lo + i) := by
  unfold rngD at h
  rw [List.getElem?_map] at h
  obtain ⟨j, e1, e2⟩ := mapS h
  obtain ⟨h1, h2⟩ := List.getElem?_eq_some_iff.mp e1
  rw [List.length_range] at h1
  rw [List.getElem_range] at h2
  subst h2
  exact ⟨h1, e2.symm⟩
theorem rng_len {lo : Int} {n : Nat} : (rngD lo n).length = n := by unfold rngD; rw [List.length_map, List.length_range]
theorem walk_rng {K : PySem.W.Frag} {μ : Mu} {H : Hp} {lo : Int} {n : Nat} : WalkOk K μ H ⟨rngD lo n, none⟩ (Itr lo n) := fun μ1 H1 S1 E1 R1 o i => ⟨fun d hd => by
  obtain ⟨h1, rfl⟩ := rng_get hd
  exact ⟨h1, fun x H2 ⟨y1, y2⟩ => by subst y1 y2; exact ⟨Ext.refl, R1, mk_int⟩⟩, fun hi => by rw [rng_len] at hi; exact hi⟩
theorem smallI_ok {i : Int} (h : smallI i = true) : -(2 ^ 62) ≤ i ∧ i < 2 ^ 62 := by
  unfold smallI at h
  simp only [Bool.and_eq_true, decide_eq_true_eq] at h
  exact h
theorem i_rng1 (hk : KcOk X k) {tg e : Expr} {x : Str} {a : C} {p : Pos} (ha : PE X e (tEv X.K k.g a)) (hp : plainX e = true) (hx : x = ("range" : Str)) (hf : x ∈ k.free) (hg : glB k.sc x = true) :
    PI X tg (.Call (.Name x p) [e] [] pos) (tIt X.K k.g (.rng1 a)) := by
  subst hx
  refine (pi_range1 (glB_ok hk hg) (hk.free _ hf) (pa_cons ha pa_nil (star_of hp _ _)) (star_of hp _ _)).imp fun σ H R ⟨μ, δ, S, w, S', E, Rr, e1, q⟩ => ?_
  simp only [evI] at e1
  obtain ⟨⟨d, S1⟩, e2, e3⟩ := bindS e1
  refine ev1 E Rr e2 fun x H1 μ1 E1 R1 _ p1 => ?_
  cases d with
  | int j =>
    simp only at e3
    split at e3
    · rename_i hj
      cases e3
      cases rep_int p1
      obtain ⟨j1, j2⟩ := smallI_ok hj
      exact ⟨j, rfl, j1, j2, q _ H1 μ1 E1 R1 walk_rng⟩
    · cases e3
  | _ => cases e3
theorem i_rng2 (hk : KcOk X k) {tg e e' : Expr} {x : Str} {a b : C} {p : Pos} (ha : PE X e (tEv X.K k.g a)) (hb : PE X e' (tEv X.K k.g b)) (hp : plainX e = true) (hp' : plainX e' = true) (hx : x = ("range" : Str)) (hf : x ∈ k.free) (hg : glB k.sc x = true) :
    PI X tg (.Call (.Name x p) [e, e'] [] pos) (tIt X.K k.g (.rng2 a b)) := by
  subst hx
  refine (pi_range2 (glB_ok hk hg) (hk.free _ hf) (pa_cons ha (pa_cons hb pa_nil (star_of hp' _ _)) (star_of hp _ _)) (by rw [star_of hp, star_of hp']; rfl) (star_of hp' _ _)).imp fun σ H R ⟨μ, δ, S, w, S', E, Rr, e1, q⟩ => ?_
  simp only [evI] at e1
  obtain ⟨⟨d, S1⟩, e2, e3⟩ := bindS e1
  obtain ⟨⟨d2, S2⟩, e4, e5⟩ := bindS e3
  refine ev2 E Rr e2 e4 fun x y H1 μ1 E1 R1 _ p1 p2 => ?_
  cases d with
  | int i =>
    cases d2 with
    | int j =>
      simp only at e5
      split at e5
      · rename_i hj
        cases e5
        cases rep_int p1
        cases rep_int p2
        obtain ⟨i1, i2⟩ := smallI_ok hj.1
        obtain ⟨j1, j2⟩ := smallI_ok hj.2
        exact ⟨i, j, rfl, ⟨i1, i2, j1, j2⟩, q _ H1 μ1 E1 R1 walk_rng⟩
      · cases e5
    | _ => cases e5
  | _ => cases e5
theorem enm_get : ∀ {xs : List D} {n i : Nat} {d : D}, (enmD n xs)[i]? = some d → ∃ x, xs[i]? = some x ∧ d = .tup [.int ((n + i : Nat) : Int), x]
  | [], n, i, d, h => by simp [enmD] at h
  | x :: xs, n, 0, d, h => by
    simp [enmD] at h
    exact ⟨x, rfl, h.symm⟩
  | x :: xs, n, i + 1, d, h => by
    simp only [enmD, List.getElem?_cons_succ] at h
    obtain ⟨y, e1, e2⟩ := enm_get h
    refine ⟨y, by simpa using e1, ?_⟩
    rw [e2]
    congr 3
    omega
theorem enm_len : ∀ {xs : List D} {n : Nat}, (enmD n xs).length = xs.length
  | [], _ => rfl
  | x :: xs, n => by simp [enmD, enm_len]
theorem walk_enm {K : PySem.W.Frag} {μ : Mu} {H : Hp} {a : Addr} {xs : List D} {vs : List V} {S : Sto} (R : Rl K μ H S) (hs : ∀ μ1 H1 S1, Ext μ H μ1 H1 → Rl K μ1 H1 S1 → SqL K H1 a vs) (hr : Reps K μ H xs vs) : WalkOk K μ H ⟨enmD 0 xs, none⟩ (Ite K a) := fun μ1 H1 S1 E1 R1 o i => ⟨fun d hd => by
  obtain ⟨x, e1, rfl⟩ := enm_get hd
  obtain ⟨v, e2, p⟩ := hr.get e1
  have h1 := hs μ1 H1 S1 E1 R1
  refine ⟨⟨vs, v, h1, e2⟩, fun y H2 ⟨T, z, y1, y2, y3, y4⟩ => ?_⟩
  have e3 := (y4 vs h1).symm.trans e2
  cases e3
  subst y1 y3
  refine ⟨Ext.new y2, R1.new y2, mk_tup (SqT.of upd_same) (Reps.cons ?_ (Reps.cons ((p.mono R E1).mono R1 (Ext.new y2)) Reps.nil))⟩
  rw [Nat.zero_add]
  exact mk_int, fun hi => ⟨vs, hs μ1 H1 S1 E1 R1, by rw [← hr.length]; rw [enm_len] at hi; exact hi⟩⟩
theorem i_enm (hk : KcOk X k) {e : Expr} {x : Str} {a : C} {p tpos : Pos} {elts : List Expr} {kk : Nat} (ha : PE X e (tEv X.K k.g a)) (hp : plainX e = true) (hx : x = ("enumerate" : Str)) (hf : x ∈ k.free) (hg : glB k.sc x = true) :
    PI X (.Tuple elts kk tpos) (.Call (.Name x p) [e] [] pos) (tIt X.K k.g (.enm a)) := by
  subst hx
  refine (pi_enum (glB_ok hk hg) (hk.free _ hf) (pa_cons ha pa_nil (star_of hp _ _)) (star_of hp _ _)).imp fun σ H R ⟨μ, δ, S, w, S', E, Rr, e1, q⟩ => ?_
  simp only [evI] at e1
  obtain ⟨⟨d, S1⟩, e2, e3⟩ := bindS e1
  refine ev1 E Rr e2 fun x H1 μ1 E1 R1 _ p1 => ?_
  cases d with
  | lst xs =>
    cases e3
    simp only [Rep] at p1
    obtain ⟨b, vs, rfl, h0, h1, h2⟩ := p1
    exact ⟨b, vs, rfl, SqL.of h1, q _ H1 μ1 E1 R1 (walk_enm R1 (fun μ2 H2 S2 E2 R2 => SqL.of (E2.keep b _ h0.1 h1)) h2)⟩
  | scr xs =>
    cases e3
    simp only [Rep] at p1
    obtain ⟨b, vs, rfl, h1, h2⟩ := p1
    exact ⟨b, vs, rfl, h1.sql, q _ H1 μ1 E1 R1 (walk_enm R1 (fun μ2 H2 S2 E2 R2 => (E2.scr R1 h1).sql) h2)⟩
  | _ => cases e3
theorem zip_get : ∀ {xs ys : List D} {i : Nat} {d : D}, (zipD xs ys)[i]? = some d → ∃ x y, xs[i]? = some x ∧ ys[i]? = some y ∧ d = .tup [x, y]
  | [], ys, i, d, h => by cases ys <;> simp [zipD] at h
  | x :: xs, [], i, d, h => by simp [zipD] at h
  | x :: xs, y :: ys, 0, d, h => by
    simp [zipD] at h
    exact ⟨x, y, rfl, rfl, h.symm⟩
  | x :: xs, y :: ys, i + 1, d, h => by
    simp only [zipD, List.getElem?_cons_succ] at h
    obtain ⟨u, v, e1, e2, e3⟩ := zip_get h
    exact ⟨u, v, by simpa using e1, by simpa using e2, e3⟩
theorem zip_len : ∀ {xs ys : List D}, (zipD xs ys).length = min xs.length ys.length
  | [], ys => by cases ys <;> simp [zipD]
  | x :: xs, [] => by simp [zipD]
  | x :: xs, y :: ys => by simp only [zipD, List.length_cons, zip_len]; omega
theorem i_zip (hk : KcOk X k) {e e' : Expr} {x : Str} {a b : C} {p tpos : Pos} {elts : List Expr} {kk : Nat} (ha : PE X e (tEv X.K k.g a)) (hb : PE X e' (tEv X.K k.g b)) (hp : plainX e = true) (hp' : plainX e' = true) (hx : x = ("zip" : Str)) (hf : x ∈ k.free) (hg : glB k.sc x = true) :
    PI X (.Tuple elts kk tpos) (.Call (.Name x p) [e, e'] [] pos) (tIt X.K k.g (.zip a b)) := by
  subst hx
  refine (pi_zip (glB_ok hk hg) (hk.free _ hf) (pa_cons ha (pa_cons hb pa_nil (star_of hp' _ _)) (star_of hp _ _)) (star_of hp _ _) (nostar (es := [e']) (by show (plainX e' && true) = true; rw [hp']; rfl) _ _)).imp fun σ H R ⟨μ, δ, S, w, S', E, Rr, e1, q⟩ => ?_
  simp only [evI] at e1
  obtain ⟨⟨d, S1⟩, e2, e3⟩ := bindS e1
  obtain ⟨⟨d2, S2⟩, e4, e5⟩ := bindS e3
  refine ev2 E Rr e2 e4 fun x y H1 μ1 E1 R1 _ p1 p2 => ?_
  cases d with
  | lst xs =>
    cases d2 with
    | lst ys =>
      cases e5
      simp only [Rep] at p1 p2
      obtain ⟨b1, vs1, rfl, f0, f1, f2⟩ := p1
      obtain ⟨b2, vs2, rfl, g0, g1, g2⟩ := p2
      refine ⟨b1, b2, vs1, vs2, rfl, SqL.of f1, SqL.of g1, q _ H1 μ1 E1 R1 fun μ2 H2 S2 E2 R2 o i => ?_⟩
      have f1' : SqL X.K H2 b1 vs1 := SqL.of (E2.keep b1 _ f0.1 f1)
      have g1' : SqL X.K H2 b2 vs2 := SqL.of (E2.keep b2 _ g0.1 g1)
      refine ⟨fun d hd => ?_, fun hi => ⟨vs1, vs2, f1', g1', ?_⟩⟩
      · obtain ⟨x, y, e6, e7, rfl⟩ := zip_get hd
        obtain ⟨v1, e8, p3⟩ := f2.get e6
        obtain ⟨v2, e9, p4⟩ := g2.get e7
        refine ⟨⟨vs1, vs2, v1, v2, f1', g1', e8, e9⟩, fun y H3 ⟨T, z1, z2, y1, y2, y3, y4, y5⟩ => ?_⟩
        have w1 := (y4 vs1 f1').symm.trans e8
        have w2 := (y5 vs2 g1').symm.trans e9
        cases w1; cases w2
        subst y1 y3
        exact ⟨Ext.new y2, R2.new y2, mk_tup (SqT.of upd_same) (Reps.cons ((p3.mono R1 E2).mono R2 (Ext.new y2)) (Reps.cons ((p4.mono R1 E2).mono R2 (Ext.new y2)) Reps.nil))⟩
      · have hi' : min xs.length ys.length ≤ i := by rw [← zip_len]; exact hi
        rw [← f2.length, ← g2.length]
        omega
    | _ => cases e5
  | _ => cases e5
end
end Dn

set_option maxHeartbeats 4000000
namespace Dn
open PySem PySem.Spec PyProof.Rows L2

/-! ### list comprehensions -/
section
variable {K : PySem.W.Frag} {G : GE} {μ μ' : Mu} {H H' : Hp} {S : Sto} {σ : L2.St} {δ : En}
theorem wipeD_length (δ : En) : ∀ vs : List Nat, (wipeD δ vs).length = δ.length
  | [] => rfl
  | v :: vs => by unfold wipeD; rw [List.length_set, wipeD_length δ vs]
theorem wipe_rep (h : RepEnv K μ H σ δ) : ∀ vs : List Nat, RepEnv K μ H (wipe σ vs) (wipeD δ vs)
  | [] => h
  | v :: vs => by
    have ih := wipe_rep h vs
    unfold wipe wipeD
    refine ⟨by rw [List.length_set, List.length_set]; exact ih.1, fun i d e => ?_⟩
    by_cases hv : v = i
    · subst hv
      have hi : v < (wipeD δ vs).length := by
        have := (List.getElem?_eq_some_iff.mp e).1
        rwa [List.length_set] at this
      rw [List.getElem?_set_self hi] at e
      cases e
    · rw [List.getElem?_set_ne hv] at e
      rw [List.getElem?_set_ne hv]
      exact ih.2 i d e
def tIfv (K : PySem.W.Frag) (G : GE) (ifs : List C) : TT := fun σ H Q => ∃ μ δ S b S', RepEnv K μ H σ δ ∧ Rl K μ H S ∧ evIf G ifs δ S = some (b, S') ∧ ∀ H' μ', Ext μ H μ' H' → Rl K μ' H' S' → Q b H'
theorem Ext.off {p : Addr} {o : HO} (E : Ext μ H μ' H') (hp : H p = none) : Ext μ H μ' (upd H' p o) := by
  refine ⟨E.hid, E.pre, fun a u ha e => ?_, fun a e => ?_⟩
  · rw [upd_ne (show a ≠ p from fun z => by rw [z, hp] at e; cases e)]
    exact E.keep a u ha e
  · by_cases h : a = p
    · rw [h, upd_same]; simp
    · rw [upd_ne h]; exact E.live a e
theorem Ext.memHid (E : Ext μ H μ' H') {p : Addr} (h : p ∈ μ.hid) : p ∈ μ'.hid := by
  obtain ⟨ξ, e, _⟩ := E.hid
  rw [e]
  exact List.mem_append_right _ h
theorem drop_cons {α : Type} {xs : List α} {i : Nat} (h : i < xs.length) : xs.drop i = xs[i] :: xs.drop (i + 1) := List.drop_eq_getElem_cons h
theorem wipe_mem (σ : L2.St) (v : Nat) : ∀ us : List Nat, v ∈ us → (wipe σ us).set v none = wipe σ us
  | [], h => by cases h
  | u :: us, h => by
    unfold wipe
    by_cases e : u = v
    · subst e; rw [List.set_set]
    · rw [List.set_comm _ _ e]
      rcases List.mem_cons.mp h with q | q
      · exact absurd q.symm e
      · rw [wipe_mem σ v us q]
theorem wipe_twice (σ : L2.St) : ∀ vs us : List Nat, (∀ v ∈ vs, v ∈ us) → wipe (wipe σ us) vs = wipe σ us
  | [], _, _ => rfl
  | v :: vs, us, h => by
    show (wipe (wipe σ us) vs).set v none = _
    rw [wipe_twice σ vs us fun z hz => h z (List.mem_cons_of_mem _ hz)]
    exact wipe_mem σ v us (h v (List.mem_cons_self ..))
theorem lc_imp {elt : C} {t : CT} {it : CI} {ifs : List C} {own : List Nat} (ht : ∀ i ∈ tsl t, i ∈ own) {Q : VK} (h : tEv K G (.lc elt t it ifs own) σ H Q) :
    tLc (tIt K G it) (gEv K G t) (tIfv K G ifs) (tEv K G elt) own σ H Q := by
  obtain ⟨μ, δ, S, d, S', E, R, e1, q⟩ := h
  simp only [evE] at e1
  obtain ⟨⟨w, S1⟩, e2, e3⟩ := bindS e1
  obtain ⟨⟨ys, S2⟩, e4, e5⟩ := bindS e3
  generalize hturn : (fun (x : D) (S1 : Sto) => (evT' G t x (wipeD δ own) S1).bind fun e => (evIf G ifs e.1 e.2).bind fun b => if b.1 = true then (evE G elt e.1 b.2).map fun y => (some y.1, y.2) else some (none, b.2)) = turn at e4
  split at e5
  · rename_i hlen
    replace hlen : ys.length ≤ 16777216 := hlen
    cases e5
    refine ⟨μ, δ, S, w, S1, E, R, e2, fun J H1 μ1 E1 R1 wk Dl hD => ?_⟩
    refine ⟨fun i m H' => i + m = w.xs.length ∧ ∃ μ' S' acc accD, Ext μ1 H1 μ' H' ∧ Rl K μ' H' S' ∧ Dl ∈ μ'.hid ∧ H' Dl = some (.lst acc) ∧ Reps K μ' H' accD acc ∧ ∃ rest, loopLc w turn (w.xs.drop i) S' = some (rest, S2) ∧ accD ++ rest = ys,
      ⟨w.xs.length, by simp, μ1.hide Dl, S1, [], [], Ext.hide hD, R1.hide hD, List.mem_cons_self .., upd_same, Reps.nil, ys, by simpa using e4, rfl⟩, ?_⟩
    rintro i m H' ⟨him, μ', S', acc, accD, E', R', hid, hacc, racc, rest, e6, e7⟩
    have N' : RepEnv K μ' H' σ δ := (E.mono R E1).mono R1 E'
    by_cases hi : i < w.xs.length
    · rw [drop_cons hi] at e6
      unfold loopLc at e6
      split at e6
      · rename_i ok
        obtain ⟨⟨o, S3⟩, e8, e9⟩ := bindS e6
        obtain ⟨⟨rest', S4⟩, e10, e11⟩ := mapS e9
        obtain ⟨z1, z2⟩ := Prod.mk.inj e11
        replace z2 := z2.symm
        subst z2
        subst z1
        obtain ⟨wgo, _⟩ := wk μ' H' S' E' R' ok i
        obtain ⟨go, yl⟩ := wgo _ (List.getElem?_eq_getElem hi)
        refine .inr ⟨go, fun H'' => ∃ μ' S' acc accD, Ext μ1 H1 μ' H'' ∧ Rl K μ' H'' S' ∧ Dl ∈ μ'.hid ∧ H'' Dl = some (.lst acc) ∧ Reps K μ' H'' accD acc ∧ ∃ rest, loopLc w turn (w.xs.drop (i + 1)) S' = some (rest, S2) ∧ accD ++ rest = ys,
          fun H'' n => ⟨m - 1, by omega, by omega, n⟩, fun x H2 y => ?_⟩
        obtain ⟨E2, R2, p2⟩ := yl x H2 y
        subst hturn
        obtain ⟨⟨δ3, T3⟩, f1, f2⟩ := bindS e8
        obtain ⟨⟨b, T4⟩, f3, f4⟩ := bindS f2
        refine ⟨μ', wipeD δ own, S', _, δ3, T3, wipe_rep (N'.mono R' E2) own, R2, p2, f1, fun σ3 H3 μ3 E3 R3 N3 w3 => ⟨?_, ?_⟩⟩
        · rw [w3 own ht]
          exact wipe_twice σ own own fun _ h => h
        · refine ⟨μ3, δ3, T3, b, T4, N3, R3, f3, fun H4 μ4 E4 R4 => ?_⟩
          have E24 : Ext μ' H' μ4 H4 := (E2.trans E3).trans E4
          have N4 := N3.mono R3 E4
          cases b with
          | true =>
            simp only [↓reduceIte] at f4
            refine iteT ?_
            obtain ⟨⟨y1, T5⟩, f5, f6⟩ := mapS f4
            cases f6
            refine ev1 N4 R4 f5 fun v H5 μ5 E5 R5 _ p5 => ?_
            have E25 : Ext μ' H' μ5 H5 := E24.trans E5
            have hk5 : H5 Dl = some (.lst acc) := E25.keep Dl _ (R'.sep Dl hid) hacc
            have hid5 : Dl ∈ μ5.hid := E25.memHid hid
            have hz : ¬ μ5.fz Dl := fun z => z.2 hid5
            have racc5 := racc.mono R' E25
            have hl : accD.length < 16777216 := by
              have : (accD ++ (some y1).toList ++ rest').length = ys.length := by rw [← e7]; simp
              simp at this
              omega
            refine ⟨acc, hk5, by rw [sizeL, ← racc.length]; exact hl, μ5, T5, acc ++ [v], accD ++ [y1], (E'.trans E25).off hD, R5.off hid5 hk5, hid5, upd_same, ?_, rest', e10, ?_⟩
            · exact (Reps.off hz hk5 racc5).append (Reps.cons (Rep.off hz hk5 p5) Reps.nil)
            · rw [← e7]; simp
          | false =>
            simp only [Bool.false_eq_true, ↓reduceIte] at f4
            refine iteF ?_
            cases f4
            exact ⟨μ4, _, acc, accD, E'.trans E24, R4, E24.memHid hid, E24.keep Dl _ (R'.sep Dl hid) hacc, racc.mono R' E24, rest', e10, by rw [← e7]; simp⟩
      · cases e6
    · have e8 : w.xs.drop i = [] := List.drop_eq_nil_of_le (by omega)
      rw [e8] at e6
      unfold loopLc at e6
      split at e6
      · rename_i ok
        cases e6
        rw [List.append_nil] at e7
        subst e7
        obtain ⟨_, stop⟩ := wk μ' H' _ E' R' ok i
        refine .inl ⟨stop (by omega), ?_⟩
        have hh : ∀ a ∈ μ1.hid, a ∈ μ'.hid := fun a ha => E'.memHid ha
        have E'' : Ext μ1 H1 (μ'.show μ1.hid) H' := ⟨⟨[], rfl, fun _ h => nomatch h⟩, E'.pre, E'.keep, E'.live⟩
        refine q (.ref Dl) H' (μ'.show μ1.hid) (E1.trans E'') (R'.shown hh) (mk_lst ⟨R'.sep Dl hid, fun z => (R1.fz hD).2 z⟩ hacc (Reps.shown hh racc))
      · cases e6
  · cases e5
end
theorem lc_mono {K : PySem.W.Frag} {wi : TI} {g : TG} {tt : TT} {te : TE} {vs : List Nat} {σ : L2.St} {H : Hp} {Q Q' : VK} (h : tLc wi g tt te vs σ H Q) (i : ∀ x H, Q x H → Q' x H)
    (hw : ∀ (R R' : L2.It → Hp → Prop), (∀ J H, R J H → R' J H) → wi σ H R → wi σ H R') : tLc wi g tt te vs σ H Q' := by
  refine hw _ _ (fun J H1 hr Dl hD => ?_) h
  obtain ⟨W, w0, st⟩ := hr Dl hD
  refine ⟨W, w0, fun i' m H' hW => ?_⟩
  rcases st i' m H' hW with ⟨z, q⟩ | z
  · exact .inl ⟨z, i _ _ q⟩
  · exact .inr z
section
variable {X : Cx} {k : Kc} {pos : Pos}
/-- the block of a comprehension -/
def Kt.blk (k : Kt) (scope : Scope) : Kt := { k with sc := relS scope k.sc, fl := fun x => scope.names.lookup x == some .cell }
def Kc.blk (k : Kc) (scope : Scope) : Kc := ⟨k.toKt.blk scope, k.g⟩
theorem KcOk.blk (hk : KcOk X k) {s : Shared} {H : Hp} {scope : Scope} {C : Addr} {cl : List (Str × Addr)} {fp : List Addr} : KcOk (X.blk s H scope (compEnvC scope cl C X.env) fp) (k.blk scope) where
  N := hk.N
  sc := by
    show relS scope k.sc = (compEnvC scope cl C X.env).scope
    rw [hk.sc]; rfl
  nd := hk.nd
  calm := hk.calm
  hu := hk.hu
  gd := hk.gd
  fl := fun x h => h
  data := hk.data
  dn := hk.dn
  free := hk.free
  bf := hk.bf
  call := fun f hf => by
    obtain ⟨a, fd, ps, lv, O⟩ := hk.call f hf
    exact ⟨a, fd, ps, lv, O.mg, O.kp, O.bd, O.fn, O.rm, O.kw⟩
theorem if_nil : PTs X [] (tIfv X.K k.g []) := ⟨fun pins s σ H Q I ⟨μ, δ, S, b, S', E, R, e, q⟩ => by
  simp only [evIf] at e; cases e
  exact pts_nil.run pins s σ H Q I (q H μ Ext.refl R)⟩
theorem if_one {c : Expr} {a : C} (h : PT X c (tTv X.K k.g a)) : PTs X [c] (tIfv X.K k.g [a]) := ⟨fun pins s σ H Q I ⟨μ, δ, S, b, S', E, R, e, q⟩ => by
  simp only [evIf] at e
  exact (pts_one h).run pins s σ H Q I ⟨μ, δ, S, b, S', E, R, e, q⟩⟩
theorem fold_set {e : Expr} (h : plainX e = true) (env : Env) (x : Value) : foldedSetIterable e env x = pure x := by cases e <;> first | rfl | cases h
theorem e_lc (hk : KcOk X k) {elt tg iter : Expr} {ifs : List Expr} {scope : Scope} {own : List (Str × Nat)} {c : C} {t : CT} {it : CI} {cs : List C} (hi : PI X tg iter (tIt X.K k.g it)) (hp : plainX iter = true) (hb : blkC k.N k.sc scope own = true)
    (hg : ∀ (s : Shared) (H : Hp) (C : Addr) (cl : List (Str × Addr)) (fp : List Addr), PG (X.blk s H scope (compEnvC scope cl C X.env) fp) tg (gEv X.K k.g t)) (ht : ∀ (s : Shared) (H : Hp) (C : Addr) (cl : List (Str × Addr)) (fp : List Addr), PTs (X.blk s H scope (compEnvC scope cl C X.env) fp) ifs (tIfv X.K k.g cs))
    (he : ∀ (s : Shared) (H : Hp) (C : Addr) (cl : List (Str × Addr)) (fp : List Addr), PE (X.blk s H scope (compEnvC scope cl C X.env) fp) elt (tEv X.K k.g c)) (hs : ∀ i ∈ tsl t, i ∈ own.map (·.2)) :
    PE X (.ListComp elt [⟨tg, iter, ifs, 0⟩] scope pos) (tEv X.K k.g (.lc c t it cs (own.map (·.2)))) := by
  refine (pe_lc hk.calm hk.nd hi ?_ hg ht he (fold_set hp _)).imp fun σ H Q h => lc_imp hs h
  rw [hk.N, hk.sc] at hb
  exact blkOk_by hb
end
end Dn

set_option maxHeartbeats 4000000
namespace Dn
open PySem PySem.Spec PyProof.Rows L2

/-! ### statements -/
def Fk (K : PySem.W.Frag) (μ : Mu) (H : Hp) (S : Sto) (D : Ends) : Fl → Prop
  | .nx δ => ∀ σ' H' μ', Ext μ H μ' H' → Rl K μ' H' S → RepEnv K μ' H' σ' δ → D.nx σ' H'
  | .ct δ => ∀ σ' H' μ', Ext μ H μ' H' → Rl K μ' H' S → RepEnv K μ' H' σ' δ → D.ct σ' H'
  | .bk δ => ∀ σ' H' μ', Ext μ H μ' H' → Rl K μ' H' S → RepEnv K μ' H' σ' δ → D.bk σ' H'
  | .rt d => Pst K μ H S d D.rt
theorem Fk.ext {K : PySem.W.Frag} {μ μ1 : Mu} {H H1 : Hp} {S : Sto} {D : Ends} {f : Fl} (h : Fk K μ H S D f) (E : Ext μ H μ1 H1) : Fk K μ1 H1 S D f := by
  cases f with
  | nx δ => exact fun σ' H' μ' E' R N => h σ' H' μ' (E.trans E') R N
  | ct δ => exact fun σ' H' μ' E' R N => h σ' H' μ' (E.trans E') R N
  | bk δ => exact fun σ' H' μ' E' R N => h σ' H' μ' (E.trans E') R N
  | rt d => exact Pst.ext h E
def tSt (K : PySem.W.Frag) (G : GE) (s : CS) : TS := fun D σ H => ∃ μ δ S f S', RepEnv K μ H σ δ ∧ Rl K μ H S ∧ exS G s δ S = some (f, S') ∧ Fk K μ H S' D f
def tSts (K : PySem.W.Frag) (G : GE) (ss : List CS) : TS := fun D σ H => ∃ μ δ S f S', RepEnv K μ H σ δ ∧ Rl K μ H S ∧ exSs G ss δ S = some (f, S') ∧ Fk K μ H S' D f
/-- no comprehension -/
def noLc : Expr → Bool
  | .ListComp _ _ _ _ => false
  | .SetComp _ _ _ _ => false
  | .DictComp _ _ _ _ _ => false
  | _ => true
theorem sw_plain {e : Expr} (h : noLc e = true) (t : Option Expr) (l : Nat) (env : Env) : swapsWith e t l env = pure false := by
  cases e <;> first | rfl | cases h
def isStar : Expr → Bool
  | .Starred _ _ => true
  | _ => false
/-- the names that are stored from the right; none: not said -/
def swName (sc : Scope) (l : Nat) : Expr → Option Str
  | .Name id pos => if (sc.names.lookup id == some .local && pos.line == l) = true then some id else none
  | _ => none
def swNames (sc : Scope) (ts : List Expr) : List Str := ts.filterMap (swName sc ((ts.head?.map (·.pos.line)).getD 0))
def swOf (sc : Scope) (ts vs : List Expr) : Option (Option (List Str)) :=
  if (!(ts.length == 2 || ts.length == 3) || vs.length != ts.length) = true then some none else
  if (vs.any isStar) = true then some none else
  if ((swNames sc ts).length != ts.length || (swNames sc ts).eraseDups.length != (swNames sc ts).length) = true then some none else
  if (vs.all (foldedForSure 8)) = true then some none else
  if (vs.all (constantsAlone 8)) = true then none else
  some (some (swNames sc ts))
theorem any_f {f : Expr → Bool} {vs : List Expr} (h : ∀ e, f e = isStar e) : vs.any f = vs.any isStar := by rw [funext h]
theorem fm_f {f : Expr → Option Str} {ts : List Expr} {sc : Scope} (h : ∀ e, f e = swName sc ((ts.head?.map (·.pos.line)).getD 0) e) : ts.filterMap f = swNames sc ts := by rw [funext h]; rfl
theorem sw_of {sc : Scope} {ts vs : List Expr} {r : Option (List Str)} {env : Env} {k k2 : Nat} {p p2 : Pos} (hs : env.scope = sc) (hk : env.scope.kind = .function) (h : swOf sc ts vs = some r) :
    swappedStores [.Tuple ts k p] (.Tuple vs k2 p2) env = pure r := by
  have hb : env.blockKind = .function := by unfold Env.blockKind; rw [hk]; rfl
  subst hs
  have hb2 : (env.blockKind != ScopeKind.function) = false := by rw [hb]; rfl
  unfold swOf at h
  unfold swappedStores
  dsimp only
  rw [hb2, Bool.or_false, any_f (vs := vs) (by intro e; cases e <;> rfl), fm_f (ts := ts) (sc := env.scope) (by intro e; cases e <;> rfl)]
  split at h
  · rename_i c; cases h; rw [if_pos c]
  · rename_i c; rw [if_neg c]
    split at h
    · rename_i c; cases h; rw [if_pos c]
    · rename_i c; rw [if_neg c]
      split at h
      · rename_i c; cases h; rw [if_pos c]
      · rename_i c; rw [if_neg c]
        split at h
        · rename_i c; cases h; rw [if_pos c]
        · rename_i c; rw [if_neg c]
          split at h
          · cases h
          · rename_i c; cases h; rw [if_neg c]
/-- one target, or a value that is no tuple -/
def isTupX : Expr → Bool
  | .Tuple _ _ _ => true
  | _ => false
theorem sw_one {t e : Expr} {env : Env} (h : isTupX t = false ∨ isTupX e = false) (hl : ∀ es p, t ≠ .List es p) : swappedStores [t] e env = pure none := by
  rcases h with h | h
  · cases t <;> cases e <;> first | rfl | (cases h; done) | exact absurd rfl (hl _ _)
  · cases e <;> cases t <;> first | rfl | (cases h; done) | exact absurd rfl (hl _ _)

section
variable {X : Cx} {k : Kc} {pos : Pos}
theorem ss_nil : PSs X [] (tSts X.K k.g []) := pss_nil.imp fun D σ H ⟨μ, δ, S, f, S', E, R, e, q⟩ => by
  simp only [exSs] at e; cases e
  exact q σ H μ Ext.refl R E
theorem ss_cons {st : Stmt} {sts : List Stmt} {s : CS} {ss : List CS} (h1 : PS X st (tSt X.K k.g s)) (h2 : PSs X sts (tSts X.K k.g ss)) : PSs X (st :: sts) (tSts X.K k.g (s :: ss)) := (pss_cons h1 h2).imp fun D σ H ⟨μ, δ, S, f, S', E, R, e, q⟩ => by
  simp only [exSs] at e
  obtain ⟨⟨f1, S1⟩, e1, e2⟩ := bindS e
  refine ⟨μ, δ, S, f1, S1, E, R, e1, ?_⟩
  cases f1 with
  | nx δ1 => exact fun σ1 H1 μ1 E1 R1 N1 => ⟨μ1, δ1, S1, f, S', N1, R1, e2, q.ext E1⟩
  | rt d => cases e2; exact q
  | bk δ1 => cases e2; exact q
  | ct δ1 => cases e2; exact q
theorem s_expr {e : Expr} {c : C} (he : PE X e (tEv X.K k.g c)) (hl : noLc e = true) : PS X (.Expr e pos) (tSt X.K k.g (.expr c)) := (ps_expr he (sw_plain hl _ _ _)).imp fun D σ H ⟨μ, δ, S, f, S', E, R, e, q⟩ => by
  simp only [exS] at e
  obtain ⟨⟨d, S1⟩, e1, e2⟩ := mapS e
  cases e2
  exact ev1 E R e1 fun x H1 μ1 E1 R1 N1 _ => q σ H1 μ1 E1 R1 N1
theorem asg_imp {c : C} {t : CT} {D : Ends} {σ : L2.St} {H : Hp} {K : PySem.W.Frag} {G : GE} (h : tSt K G (.asg t c) D σ H) : tAsg (tEv K G c) (gEv K G t) D σ H := by
  obtain ⟨μ, δ, S, f, S', E, R, e, q⟩ := h
  simp only [exS] at e
  obtain ⟨⟨d, S1⟩, e1, e2⟩ := bindS e
  obtain ⟨⟨δ2, S2⟩, e3, e4⟩ := mapS e2
  cases e4
  exact ev1 E R e1 fun x H1 μ1 E1 R1 N1 p1 => ⟨μ1, δ, S1, d, δ2, _, N1, R1, p1, e3, fun σ2 H2 μ2 E2 R2 N2 _ => q σ2 H2 μ2 (E1.trans E2) R2 N2⟩
theorem s_asg {tg e : Expr} {c : C} {t : CT} (hg : PG X tg (gEv X.K k.g t)) (he : PE X e (tEv X.K k.g c)) (hl : noLc e = true) (hp : plainX tg = true) (hw : isTupX tg = false ∨ isTupX e = false) (hL : ∀ es p, tg ≠ .List es p) :
    PS X (.Assign [tg] e pos) (tSt X.K k.g (.asg t c)) :=
  (ps_asg he hg (sw_plain hl _ _ _) (sw_one hw hL) (by rw [assign_star hp]; rfl)).imp fun D σ H h => asg_imp h
/-- a tuple into a tuple, stored from the left -/
theorem s_asgT {ts vs : List Expr} {k1 k2 : Nat} {p1 p2 : Pos} {c : C} {t : CT} (hk : KcOk X k) (hg : PG X (.Tuple ts k1 p1) (gEv X.K k.g t)) (he : PE X (.Tuple vs k2 p2) (tEv X.K k.g c)) (hw : swOf k.sc ts vs = some none) :
    PS X (.Assign [.Tuple ts k1 p1] (.Tuple vs k2 p2) pos) (tSt X.K k.g (.asg t c)) := ⟨fun pins s σ H D I h =>
  (ps_asg he hg (hw := sw_of hk.sc.symm I.ok.kind hw)).run pins s σ H D I (asg_imp h)⟩
/-- a, b = x, y: plain local names, stored from the right -/
theorem s_par {x y : Str} {a b : Expr} {i j : Nat} {ca cb : C} {px py p1 p2 : Pos} {k1 k2 : Nat} (hk : KcOk X k) (ha : PE X a (tEv X.K k.g ca)) (hb : PE X b (tEv X.K k.g cb)) (hpa : plainX a = true) (hpb : plainX b = true) (hi : k.N[i]? = some x) (hj : k.N[j]? = some y) (hij : i ≠ j)
    (hx : k.sc.names.lookup x = some .local) (hy : k.sc.names.lookup y = some .local) (hw : swOf k.sc [.Name x px, .Name y py] [a, b] = some (some [x, y])) :
    PS X (.Assign [.Tuple [.Name x px, .Name y py] k1 p1] (.Tuple [a, b] k2 p2) pos) (tSt X.K k.g (.par i j ca cb)) := ⟨fun pins s σ H D I ⟨μ, δ, S, f, S', E, R, e, q⟩ => by
  have hA : PA X [a, b] (tCons (tEv X.K k.g ca) (tCons (tEv X.K k.g cb) tNil)) := pa_cons ha (pa_cons hb pa_nil (star_of hpb _ _)) (star_of hpa _ _)
  refine (ps_par (i := i) (j := j) hk.calm hk.nd (by rw [← hk.N]; exact hi) (by rw [← hk.N]; exact hj) hij (by rw [← hk.sc]; exact hx) (by rw [← hk.sc]; exact hy) hA (sw_of hk.sc.symm I.ok.kind hw)).run pins s σ H D I ?_
  simp only [exS] at e
  obtain ⟨⟨d1, S1⟩, e1, e2⟩ := bindS e
  obtain ⟨⟨d2, S2⟩, e3, e4⟩ := mapS e2
  cases e4
  exact ev2 E R e1 e3 fun x y H2 μ2 E2 R2 N2 r1 r2 => ⟨x, y, rfl, q _ H2 μ2 E2 R2 ((N2.set r1).set r2)⟩⟩
/-- name = [.. for ..] -/
theorem s_lc (hk : KcOk X k) {elt tg iter : Expr} {ifs : List Expr} {scope : Scope} {own : List (Str × Nat)} {c : C} {t : CT} {it : CI} {cs : List C} {i : Nat} {y : Str} {py spos : Pos} (hi : PI X tg iter (tIt X.K k.g it)) (hp : plainX iter = true) (hb : blkC k.N k.sc scope own = true)
    (hg : ∀ (s : Shared) (H : Hp) (C : Addr) (cl : List (Str × Addr)) (fp : List Addr), PG (X.blk s H scope (compEnvC scope cl C X.env) fp) tg (gEv X.K k.g t)) (ht : ∀ (s : Shared) (H : Hp) (C : Addr) (cl : List (Str × Addr)) (fp : List Addr), PTs (X.blk s H scope (compEnvC scope cl C X.env) fp) ifs (tIfv X.K k.g cs))
    (he : ∀ (s : Shared) (H : Hp) (C : Addr) (cl : List (Str × Addr)) (fp : List Addr), PE (X.blk s H scope (compEnvC scope cl C X.env) fp) elt (tEv X.K k.g c)) (hs : ∀ i ∈ tsl t, i ∈ own.map (·.2))
    (hy : k.N[i]? = some y) (hyl : k.sc.names.lookup y = some .local) (hln : (py.line == pos.line) = true) (hnm : (scope.names.any fun (n, kd) => n == y && (kd == .local || kd == .cell)) = false) :
    PS X (.Assign [.Name y py] (.ListComp elt [⟨tg, iter, ifs, 0⟩] scope pos) spos) (tSt X.K k.g (.asg (.name i) (.lc c t it cs (own.map (·.2))))) := by
  have hb' := hb
  rw [hk.N, hk.sc] at hb'
  have hyl' : X.env.scope.names.lookup y = some .local := by rw [← hk.sc]; exact hyl
  refine ⟨fun pins s σ H D I h => ?_⟩
  refine (ps_setLc (i := i) hk.calm hk.nd (by rw [← hk.N]; exact hy) hyl' (sw_true I.ok.kind hyl' hln hnm) hi (blkOk_by hb') hg ht he (fold_set hp _)).run pins s σ H D I ?_
  have h2 := asg_imp h
  have h3 := lc_imp hs (Q := fun x H1 => gEv X.K k.g (.name i) x σ H1 D.nx) h2
  refine lc_mono (K := X.K) h3 (fun x H1 ⟨μ, δ, S, d, δ', S', E, R, r, e, q⟩ => ?_) fun P P' hp ⟨μ, δ, S, w, S', E, R, e, q⟩ => ⟨μ, δ, S, w, S', E, R, e, fun J H' μ' E' R' wk => hp J H' (q J H' μ' E' R' wk)⟩
  simp only [evT'] at e
  cases e
  refine q _ H1 μ Ext.refl R (E.set r) fun vs hv => ?_
  rw [wipe_set, if_pos (hv i (by simp [tsl]))]
theorem s_ret {e : Expr} {c : C} (he : PE X e (tEv X.K k.g c)) : PS X (.Return (some e) pos) (tSt X.K k.g (.ret c)) := (ps_ret he).imp fun D σ H ⟨μ, δ, S, f, S', E, R, e, q⟩ => by
  simp only [exS] at e
  obtain ⟨⟨d, S1⟩, e1, e2⟩ := mapS e
  cases e2
  exact ⟨μ, δ, S, d, S1, E, R, e1, q⟩
theorem s_retN : PS X (.Return none pos) (tSt X.K k.g .retN) := ps_retN.imp fun D σ H ⟨μ, δ, S, f, S', E, R, e, q⟩ => by
  simp only [exS] at e; cases e
  exact Pst.at q R mk_non
theorem s_pass : PS X (.Pass pos) (tSt X.K k.g .pass) := ps_pass.imp fun D σ H ⟨μ, δ, S, f, S', E, R, e, q⟩ => by
  simp only [exS] at e; cases e
  exact q σ H μ Ext.refl R E
theorem s_brk : PS X (.Break pos) (tSt X.K k.g .brk) := ps_break.imp fun D σ H ⟨μ, δ, S, f, S', E, R, e, q⟩ => by
  simp only [exS] at e; cases e
  exact q σ H μ Ext.refl R E
theorem s_cont : PS X (.Continue pos) (tSt X.K k.g .cont) := ps_continue.imp fun D σ H ⟨μ, δ, S, f, S', E, R, e, q⟩ => by
  simp only [exS] at e; cases e
  exact q σ H μ Ext.refl R E
theorem s_never {st : Stmt} : PS X st (tSt X.K k.g .never) := ps_never.imp fun D σ H ⟨μ, δ, S, f, S', E, R, e, q⟩ => by
  simp only [exS] at e; cases e
theorem s_if {c : Expr} {a b : List Stmt} {cc : C} {ca cb : List CS} (hc : PT X c (tTv X.K k.g cc)) (ha : PSs X a (tSts X.K k.g ca)) (hb : PSs X b (tSts X.K k.g cb)) : PS X (.If c a b pos) (tSt X.K k.g (.ife cc ca cb)) := (ps_if hc ha hb).imp fun D σ H ⟨μ, δ, S, f, S', E, R, e, q⟩ => by
  simp only [exS] at e
  obtain ⟨⟨t, S1⟩, e2, e3⟩ := bindS e
  refine tv1 E R e2 fun H1 μ1 E1 R1 N1 => ?_
  cases t with
  | true =>
    simp only [↓reduceIte] at e3
    exact iteT ⟨μ1, δ, S1, f, S', N1, R1, e3, q.ext E1⟩
  | false =>
    simp only [Bool.false_eq_true, ↓reduceIte] at e3
    exact iteF ⟨μ1, δ, S1, f, S', N1, R1, e3, q.ext E1⟩
theorem s_for {tg iter : Expr} {body : List Stmt} {t : CT} {it : CI} {cb : List CS} (hk : KcOk X k) (hx : X.xe = fun _ _ => False) (hi : PI X tg iter (tIt X.K k.g it)) (hg : PG X tg (gEv X.K k.g t)) (hb : PSs X body (tSts X.K k.g cb)) (hp : plainX iter = true) :
    PS X (.For tg iter body [] pos) (tSt X.K k.g (.for_ t it cb)) := (ps_for (by rw [hx]; exact PassesOwn.never) hk.calm hi hg hb (fold_set hp _)).imp fun D σ H ⟨μ, δ, S, f, S', E, R, e, q⟩ => by
  simp only [exS] at e
  obtain ⟨⟨w, S1⟩, e1, e2⟩ := bindS e
  generalize hturn : (fun (x : Dn.D) (δ1 : En) (S1 : Sto) => (evT' k.g t x δ1 S1).bind fun q => exSs k.g cb q.1 q.2) = turn at e2
  refine ⟨μ, δ, S, w, S1, E, R, e1, fun J H1 μ1 E1 R1 wk => ?_⟩
  refine ⟨fun i m σ' H' => i + m = w.xs.length ∧ ∃ μ' δ' S2, Ext μ1 H1 μ' H' ∧ Rl X.K μ' H' S2 ∧ RepEnv X.K μ' H' σ' δ' ∧ loopFor w turn (w.xs.drop i) δ' S2 = some (f, S'),
    ⟨w.xs.length, by simp, μ1, δ, S1, Ext.refl, R1, E.mono R E1, by simpa using e2⟩, ?_⟩
  rintro i m σ' H' ⟨him, μ', δ', S2, E', R', N', e6⟩
  by_cases hi : i < w.xs.length
  · rw [drop_cons hi] at e6
    unfold loopFor at e6
    split at e6
    · rename_i ok
      obtain ⟨⟨f1, S3⟩, e8, e9⟩ := bindS e6
      obtain ⟨wgo, _⟩ := wk μ' H' S2 E' R' ok i
      obtain ⟨go, yl⟩ := wgo _ (List.getElem?_eq_getElem hi)
      refine .inr ⟨go, fun σ'' H'' => ∃ μ' δ' S2, Ext μ1 H1 μ' H'' ∧ Rl X.K μ' H'' S2 ∧ RepEnv X.K μ' H'' σ'' δ' ∧ loopFor w turn (w.xs.drop (i + 1)) δ' S2 = some (f, S'), fun σ'' H'' n => ⟨m - 1, by omega, by omega, n⟩, fun x H2 y => ?_⟩
      obtain ⟨E2, R2, p2⟩ := yl x H2 y
      subst hturn
      obtain ⟨⟨δ3, T3⟩, f1', f2⟩ := bindS e8
      refine ⟨μ', δ', S2, _, δ3, T3, N'.mono R' E2, R2, p2, f1', fun σ3 H3 μ3 E3 R3 N3 _ => ⟨μ3, δ3, T3, f1, S3, N3, R3, f2, ?_⟩⟩
      have E13 : Ext μ H μ3 H3 := ((E1.trans E').trans E2).trans E3
      cases f1 with
      | nx δ1 => exact fun σ4 H4 μ4 E4 R4 N4 => ⟨μ4, δ1, S3, ((E'.trans E2).trans E3).trans E4, R4, N4, e9⟩
      | ct δ1 => exact fun σ4 H4 μ4 E4 R4 N4 => ⟨μ4, δ1, S3, ((E'.trans E2).trans E3).trans E4, R4, N4, e9⟩
      | bk δ1 => cases e9; exact fun σ4 H4 μ4 E4 R4 N4 => q σ4 H4 μ4 (E13.trans E4) R4 N4
      | rt d => cases e9; exact Pst.ext q E13
    · cases e6
  · have e8 : w.xs.drop i = [] := List.drop_eq_nil_of_le (by omega)
    rw [e8] at e6
    unfold loopFor at e6
    split at e6
    · rename_i ok
      cases e6
      obtain ⟨_, stop⟩ := wk μ' H' _ E' R' ok i
      exact .inl ⟨stop (by omega), q σ' H' μ' (E1.trans E') R' N'⟩
    · cases e6
theorem s_whl {c : Expr} {body : List Stmt} {cc : C} {cb : List CS} (hx : X.xe = fun _ _ => False) (hc : PT X c (tTv X.K k.g cc)) (hb : PSs X body (tSts X.K k.g cb)) : PS X (.While c body [] pos) (tSt X.K k.g (.whl cc cb)) := (ps_while (by rw [hx]; exact PassesOwn.never) hc hb).imp fun D σ H ⟨μ, δ, S, f, S', E, R, e, q⟩ => by
  simp only [exS] at e
  obtain ⟨n, en⟩ := of_whD e
  refine ⟨fun m σ' H' => ∃ μ' δ' S2, Ext μ H μ' H' ∧ Rl X.K μ' H' S2 ∧ RepEnv X.K μ' H' σ' δ' ∧ whN (fun δ S => evT k.g cc δ S) (fun δ S => exSs k.g cb δ S) m δ' S2 = some (f, S'), ⟨n, μ, δ, S, Ext.refl, R, E, en⟩, ?_⟩
  rintro m σ' H' ⟨μ', δ', S2, E', R', N', e6⟩
  cases m with
  | zero => cases e6
  | succ m =>
    unfold whN at e6
    obtain ⟨⟨b, S3⟩, e7, e8⟩ := bindS e6
    refine tv1 N' R' e7 fun H1 μ1 E1 R1 N1 => ?_
    cases b with
    | true =>
      simp only [↓reduceIte] at e8
      refine iteT ⟨fun σ'' H'' => ∃ μ' δ' S2, Ext μ H μ' H'' ∧ Rl X.K μ' H'' S2 ∧ RepEnv X.K μ' H'' σ'' δ' ∧ whN (fun δ S => evT k.g cc δ S) (fun δ S => exSs k.g cb δ S) m δ' S2 = some (f, S'), fun σ'' H'' n => ⟨m, Nat.lt_succ_self _, n⟩, ?_⟩
      obtain ⟨⟨f1, S4⟩, e9, e10⟩ := bindS e8
      refine ⟨μ1, δ', S3, f1, S4, N1, R1, e9, ?_⟩
      have E13 : Ext μ H μ1 H1 := E'.trans E1
      cases f1 with
      | nx δ1 => exact fun σ4 H4 μ4 E4 R4 N4 => ⟨μ4, δ1, S4, E13.trans E4, R4, N4, e10⟩
      | ct δ1 => exact fun σ4 H4 μ4 E4 R4 N4 => ⟨μ4, δ1, S4, E13.trans E4, R4, N4, e10⟩
      | bk δ1 => cases e10; exact fun σ4 H4 μ4 E4 R4 N4 => q σ4 H4 μ4 (E13.trans E4) R4 N4
      | rt d => cases e10; exact Pst.ext q E13
    | false =>
      simp only [Bool.false_eq_true, ↓reduceIte] at e8
      cases e8
      exact iteF (q σ' H1 μ1 (E'.trans E1) R1 N1)
end
end Dn

set_option maxHeartbeats 4000000
namespace Dn
open PySem PySem.Spec PyProof.Rows L2

/-! ### that a core term is the given text -/
def notListX : Expr → Bool
  | .List _ _ => false
  | _ => true
/-- cannot be None -/
def intC : C → Bool
  | .int _ => true
  | .neg _ => true
  | .bin _ _ _ => true
  | .var _ => false
  | _ => false
def nilE : List Expr → Bool
  | [] => true
  | _ => false
mutual
def ckE : C → Kt → Expr → Bool
  | .non, _, e => match e with
    | .Constant .none _ _ => true
    | _ => false
  | .bl b, _, e => match e with
    | .Constant (.bool b') _ _ => b == b'
    | _ => false
  | .int i, _, e => match e with
    | .Constant (.int j) _ _ => decide (i = j)
    | _ => false
  | .str x, _, e => match e with
    | .Constant (.str y) _ _ => decide (x = y)
    | _ => false
  | .var i, k, e => match e with
    | .Name x _ => decide (k.N[i]? = some x) && visB k.sc x && nmB x
    | _ => false
  | .glo x, k, e => match e with
    | .Name y _ => decide (x = y) && glB k.sc y && nmB y && decide (y ∈ k.dn)
    | _ => false
  | .tup cs, k, e => match e with
    | .Tuple es _ _ => ckEs cs k es
    | _ => false
  | .lst _ cs, k, e => match e with
    | .List es _ => ckEs cs k es
    | _ => false
  | .dic0, _, e => match e with
    | .Dict [] [] _ => true
    | _ => false
  | .bin o a b, k, e => match e with
    | .BinOp x o' y _ => decide (o = o') && ckE a k x && ckE b k y
    | _ => false
  | .neg a, k, e => match e with
    | .UnaryOp .USub x _ => ckE a k x
    | _ => false
  | .not a, k, e => match e with
    | .UnaryOp .Not x _ => ckE a k x
    | _ => false
  | .cmp o a b, k, e => match e with
    | .Compare x [o'] [y] _ => decide (o = o') && ckE a k x && ckE b k y
    | _ => false
  | .cmp2 o p a b c, k, e => match e with
    | .Compare x [o', p'] [y, z] _ => decide (o = o') && decide (p = p') && ckE a k x && ckE b k y && ckE c k z
    | _ => false
  | .and a b, k, e => match e with
    | .BoolOp .And (x :: y :: r) pos => ckE a k x && ckE b k (restX .And pos (y :: r))
    | _ => false
  | .or a b, k, e => match e with
    | .BoolOp .Or (x :: y :: r) pos => ckE a k x && ckE b k (restX .Or pos (y :: r))
    | _ => false
  | .ite c a b, k, e => match e with
    | .IfExp z x y _ => ckE c k z && ckE a k x && ckE b k y
    | _ => false
  | .call f cs, k, e => match e with
    | .Call (.Name x _) es [] _ => decide (x = f) && decide (f ∈ k.fns) && glB k.sc f && nmB f && ckEs cs k es
    | _ => false
  | .callK f cs ks kcs, k, e => match e with
    | .Call (.Name x _) es kws _ => decide (x = f) && decide (f ∈ k.fns) && glB k.sc f && nmB f && decide (kws.map (·.arg) = ks.map some) && decide (ks.length = kcs.length) && decide ((f, cs.length, ks) ∈ k.kwl) && ckEs cs k es && ckEs kcs k (kws.map (·.value))
    | _ => false
  | .blt f cs, k, e => match e with
    | .Call (.Name x _) es [] _ => glB k.sc x && nmB x && ckEs cs k es && !nilE es && (if f = "gcd" then decide (k.bf.lookup x = some "math.gcd") else decide (x = Str.ofString f) && (bltV f).isSome && decide (x ∈ k.free))
    | _ => false
  | .isi c T, k, e => match e with
    | .Call (.Name x _) [a, .Name t _] [] _ => decide (x = Str.ofString "isinstance") && decide (t = Str.ofString T) && decide (T ∈ tyNames) && decide (x ∈ k.free) && decide (t ∈ k.free) && glB k.sc x && glB k.sc t && nmB t && ckE c k a
    | _ => false
  | .meth m o cs, k, e => match e with
    | .Call (.Attribute (.Name n p) a apos) [y] [] cpos => decide (m = "append") && decide (a = Str.ofString "append") && ckE o k (.Name n p) && ckEs cs k [y] && (apos.endLine == cpos.line)
    | _ => false
  | .ix a b, k, e => match e with
    | .Subscript x y _ => ckE a k x && ckE b k y
    | _ => false
  | .sl a lo hi, k, e => match e with
    | .Subscript x (.Slice l h none _) _ => ckE a k x && (match l with | none => isNonC lo | some y => ckE lo k y && !isNonC lo) && (match h with | none => isNonC hi | some y => ckE hi k y && !isNonC hi)
    | _ => false
  | .rev _, _, _ => false
  | .lc c t it ifs own, k, e => match e with
    | .ListComp elt [⟨tg, iter, cs, 0⟩] scope _ => blkC k.N k.sc scope (own.map fun i => (k.N.getD i Str.empty, i)) && ckI it k tg iter && ckG t (k.blk scope) tg && ckIf ifs (k.blk scope) cs && ckE c (k.blk scope) elt && (tsl t).all fun i => decide (i ∈ own)
    | _ => false
def ckEs : List C → Kt → List Expr → Bool
  | [], _, es => match es with
    | [] => true
    | _ => false
  | c :: cs, k, es => match es with
    | e :: es => ckE c k e && ckEs cs k es
    | [] => false
def ckIf : List C → Kt → List Expr → Bool
  | [], _, es => match es with
    | [] => true
    | _ => false
  | c :: cs, k, es => match es with
    | [e] => ckE c k e && cs.isEmpty
    | _ => false
def ckG : CT → Kt → Expr → Bool
  | .name i, k, e => match e with
    | .Name x _ => decide (k.N[i]? = some x) && locB k x
    | _ => false
  | .tup ts, k, e => match e with
    | .Tuple es _ _ => ckGs ts k es
    | _ => false
  | .sub a b, k, e => match e with
    | .Subscript o i _ => ckE a k o && ckE b k i
    | _ => false
def ckGs : List CT → Kt → List Expr → Bool
  | [], _, es => match es with
    | [] => true
    | _ => false
  | t :: ts, k, es => match es with
    | e :: es => ckG t k e && ckGs ts k es
    | [] => false
def ckI : CI → Kt → Expr → Expr → Bool
  | .seq a, k, _, e => ckE a k e
  | .rng1 a, k, _, e => match e with
    | .Call (.Name x _) [y] [] _ => decide (x = ("range" : Str)) && decide (x ∈ k.free) && glB k.sc x && ckE a k y
    | _ => false
  | .rng2 a b, k, _, e => match e with
    | .Call (.Name x _) [y, z] [] _ => decide (x = ("range" : Str)) && decide (x ∈ k.free) && glB k.sc x && ckE a k y && ckE b k z
    | _ => false
  | .enm a, k, tg, e => match tg, e with
    | .Tuple _ _ _, .Call (.Name x _) [y] [] _ => decide (x = ("enumerate" : Str)) && decide (x ∈ k.free) && glB k.sc x && ckE a k y
    | _, _ => false
  | .zip a b, k, tg, e => match tg, e with
    | .Tuple _ _ _, .Call (.Name x _) [y, z] [] _ => decide (x = ("zip" : Str)) && decide (x ∈ k.free) && glB k.sc x && ckE a k y && ckE b k z
    | _, _ => false
end
theorem ckE_plain : ∀ {c : C} {k : Kt} {e : Expr}, ckE c k e = true → plainX e = true := by
  intro c k e h
  cases e with
  | Starred _ _ => cases c <;> simp only [ckE] at h <;> cases h
  | Set _ _ _ => cases c <;> simp only [ckE] at h <;> cases h
  | Slice _ _ _ _ => cases c <;> simp only [ckE] at h <;> cases h
  | _ => rfl
theorem ckG_plain : ∀ {c : CT} {k : Kt} {e : Expr}, ckG c k e = true → plainX e = true := by
  intro c k e h
  cases e with
  | Starred _ _ => cases c <;> simp only [ckG] at h <;> cases h
  | Set _ _ _ => cases c <;> simp only [ckG] at h <;> cases h
  | Slice _ _ _ _ => cases c <;> simp only [ckG] at h <;> cases h
  | _ => rfl
section
variable {X : Cx} {k : Kc}
theorem t_none {e : Expr} {c : C} (h : ∀ δ S, evT k.g c δ S = none) : PT X e (tTv X.K k.g c) := ⟨fun pins s σ H Q I ⟨μ, δ, S, b, S', E, R, e1, q⟩ => by rw [h] at e1; cases e1⟩
theorem not_non {c : C} (h : isNonC c = false) {G : GE} : True := True.intro
end
end Dn

set_option maxHeartbeats 4000000
namespace Dn
open PySem PySem.Spec PyProof.Rows L2
theorem own_map (N : List Str) (own : List Nat) : (own.map fun i => (N.getD i Str.empty, i)).map (·.2) = own := by
  induction own with
  | nil => rfl
  | cons i r ih => rw [List.map_cons, List.map_cons, ih]
theorem ckEs_plain : ∀ {cs : List C} {k : Kt} {es : List Expr}, ckEs cs k es = true → es.all plainX = true ∧ es.length = cs.length
  | [], k, [], h => ⟨rfl, rfl⟩
  | [], k, _ :: _, h => by simp only [ckEs] at h; cases h
  | c :: cs, k, [], h => by simp only [ckEs] at h; cases h
  | c :: cs, k, e :: es, h => by
    simp only [ckEs, Bool.and_eq_true] at h
    obtain ⟨h1, h2⟩ := ckEs_plain h.2
    exact ⟨by rw [List.all_cons, ckE_plain h.1, h1]; rfl, by rw [List.length_cons, List.length_cons, h2]⟩
theorem ckGs_plain : ∀ {cs : List CT} {k : Kt} {es : List Expr}, ckGs cs k es = true → es.all plainX = true ∧ es.length = cs.length
  | [], k, [], h => ⟨rfl, rfl⟩
  | [], k, _ :: _, h => by simp only [ckGs] at h; cases h
  | c :: cs, k, [], h => by simp only [ckGs] at h; cases h
  | c :: cs, k, e :: es, h => by
    simp only [ckGs, Bool.and_eq_true] at h
    obtain ⟨h1, h2⟩ := ckGs_plain h.2
    exact ⟨by rw [List.all_cons, ckG_plain h.1, h1]; rfl, by rw [List.length_cons, List.length_cons, h2]⟩
theorem nostarI {e : Expr} {p : Pos} {ct : CI} {k : Kt} {tg : Expr} (h : ckI ct k tg e = true) : plainX e = true := by
  cases e with
  | Starred _ _ => cases ct <;> simp only [ckI] at h <;> first | (cases h; done) | exact ckE_plain h | (cases tg <;> simp at h)
  | Set _ _ _ => cases ct <;> simp only [ckI] at h <;> first | (cases h; done) | exact ckE_plain h | (cases tg <;> simp at h)
  | Slice _ _ _ _ => cases ct <;> simp only [ckI] at h <;> first | (cases h; done) | exact ckE_plain h | (cases tg <;> simp at h)
  | _ => rfl
theorem ks_of {X : Cx} {k : Kc} : ∀ {kws : List Keyword} {cs : List C}, PA X (kws.map (·.value)) (tEvs X.K k.g cs) → True := fun _ => trivial
def OkE (c : C) : Prop := ∀ {X : Cx} {k : Kc} {e : Expr}, KcOk X k → ckE c k.toKt e = true → PE X e (tEv X.K k.g c) ∧ PT X e (tTv X.K k.g c)
def OkEs (cs : List C) : Prop := ∀ {X : Cx} {k : Kc} {es : List Expr}, KcOk X k → ckEs cs k.toKt es = true → PA X es (tEvs X.K k.g cs)
def OkKs (cs : List C) : Prop := ∀ {X : Cx} {k : Kc} {es : List Keyword}, KcOk X k → ckEs cs k.toKt (es.map (·.value)) = true → PK X es (tEvs X.K k.g cs)
def OkIf (cs : List C) : Prop := ∀ {X : Cx} {k : Kc} {es : List Expr}, KcOk X k → ckIf cs k.toKt es = true → PTs X es (tIfv X.K k.g cs)
def OkG (t : CT) : Prop := ∀ {X : Cx} {k : Kc} {e : Expr}, KcOk X k → ckG t k.toKt e = true → PG X e (gEv X.K k.g t)
def OkGs (ts : List CT) : Prop := ∀ {X : Cx} {k : Kc} {es : List Expr}, KcOk X k → ckGs ts k.toKt es = true → PGs X es (gEvs X.K k.g ts)
def OkI (it : CI) : Prop := ∀ {X : Cx} {k : Kc} {tg e : Expr}, KcOk X k → ckI it k.toKt tg e = true → PI X tg e (tIt X.K k.g it)
section
open Lean.Parser.Tactic
theorem okE_non : OkE .non := fun {X k e} hk h => by
  simp only [ckE] at h
  split at h
  · exact ⟨e_non, t_none fun δ S => by simp only [evT]⟩
  · cases h
theorem okE_bl {b : Bool} : OkE (.bl b) := fun {X k e} hk h => by
  simp only [ckE] at h
  split at h
  · simp only [beq_iff_eq] at h
    subst h
    exact ⟨e_bl, t_bl e_bl⟩
  · cases h
theorem okE_int {b : Int} : OkE (.int b) := fun {X k e} hk h => by
  simp only [ckE] at h
  split at h
  · simp only [decide_eq_true_eq] at h
    subst h
    exact ⟨e_int, t_none fun δ S => by simp only [evT]⟩
  · cases h
theorem okE_str {b : Str} : OkE (.str b) := fun {X k e} hk h => by
  simp only [ckE] at h
  split at h
  · simp only [decide_eq_true_eq] at h
    subst h
    exact ⟨e_str, t_none fun δ S => by simp only [evT]⟩
  · cases h
theorem okE_var {i : Nat} : OkE (.var i) := fun {X k e} hk h => by
  simp only [ckE] at h
  split at h
  · simp only [Bool.and_eq_true, decide_eq_true_eq] at h
    have w := e_var (pos := by assumption) hk h.1.1 h.1.2 h.2
    exact ⟨w, t_var w⟩
  · cases h
theorem okE_glo {x : Str} : OkE (.glo x) := fun {X k e} hk h => by
  simp only [ckE] at h
  split at h
  · simp only [Bool.and_eq_true, decide_eq_true_eq] at h
    obtain ⟨⟨⟨rfl, h1⟩, h2⟩, h3⟩ := h
    exact ⟨e_glo hk h1 h2 (hk.dn _ h3), t_none fun δ S => by simp only [evT]⟩
  · cases h
theorem okE_tup {cs : List C} (I : OkEs cs) : OkE (.tup cs) := fun {X k e} hk h => by
  simp only [ckE] at h
  split at h
  · exact ⟨e_tup (I hk h), t_none fun δ S => by simp only [evT]⟩
  · cases h
theorem okE_lst {own : Option Bool} {cs : List C} (I : OkEs cs) : OkE (.lst own cs) := fun {X k e} hk h => by
  simp only [ckE] at h
  split at h
  · exact ⟨e_lst (I hk h), t_none fun δ S => by simp only [evT]⟩
  · cases h
theorem okE_dic0 : OkE .dic0 := fun {X k e} hk h => by
  simp only [ckE] at h
  split at h
  · exact ⟨e_dic0, t_none fun δ S => by simp only [evT]⟩
  · cases h
theorem okE_bin {o : Operator} {a b : C} (A : OkE a) (B : OkE b) : OkE (.bin o a b) := fun {X k e} hk h => by
  simp only [ckE] at h
  split at h
  · simp only [Bool.and_eq_true, decide_eq_true_eq] at h
    obtain ⟨⟨rfl, h1⟩, h2⟩ := h
    exact ⟨e_bin (A hk h1).1 (B hk h2).1, t_none fun δ S => by simp only [evT]⟩
  · cases h
theorem okE_neg {a : C} (A : OkE a) : OkE (.neg a) := fun {X k e} hk h => by
  simp only [ckE] at h
  split at h
  · exact ⟨e_neg (A hk h).1, t_none fun δ S => by simp only [evT]⟩
  · cases h
theorem okE_not {a : C} (A : OkE a) : OkE (.not a) := fun {X k e} hk h => by
  simp only [ckE] at h
  split at h
  · exact ⟨e_not (A hk h).1, t_not (A hk h).2⟩
  · cases h
theorem okE_cmp {o : CmpOp} {a b : C} (A : OkE a) (B : OkE b) : OkE (.cmp o a b) := fun {X k e} hk h => by
  simp only [ckE] at h
  split at h
  · simp only [Bool.and_eq_true, decide_eq_true_eq] at h
    obtain ⟨⟨rfl, h1⟩, h2⟩ := h
    exact ⟨e_cmp hk (A hk h1).1 (B hk h2).1 (ckE_plain h2), t_cmp hk (A hk h1).1 (B hk h2).1 (ckE_plain h2)⟩
  · cases h
theorem okE_cmp2 {o p : CmpOp} {a b c : C} (A : OkE a) (B : OkE b) (D : OkE c) : OkE (.cmp2 o p a b c) := fun {X k e} hk h => by
  simp only [ckE] at h
  split at h
  · simp only [Bool.and_eq_true, decide_eq_true_eq] at h
    obtain ⟨⟨⟨⟨rfl, rfl⟩, h1⟩, h2⟩, h3⟩ := h
    exact ⟨e_cmp2 hk (A hk h1).1 (B hk h2).1 (D hk h3).1 (ckE_plain h3), t_cmp2 hk (A hk h1).1 (B hk h2).1 (D hk h3).1 (ckE_plain h3)⟩
  · cases h
theorem okE_and {a b : C} (A : OkE a) (B : OkE b) : OkE (.and a b) := fun {X k e} hk h => by
  simp only [ckE] at h
  split at h
  · simp only [Bool.and_eq_true] at h
    exact ⟨e_and (A hk h.1).1 (B hk h.2).1, t_and (A hk h.1).2 (B hk h.2).2⟩
  · cases h
theorem okE_or {a b : C} (A : OkE a) (B : OkE b) : OkE (.or a b) := fun {X k e} hk h => by
  simp only [ckE] at h
  split at h
  · simp only [Bool.and_eq_true] at h
    exact ⟨e_or (A hk h.1).1 (B hk h.2).1, t_or (A hk h.1).2 (B hk h.2).2⟩
  · cases h
theorem okE_ite {c a b : C} (A : OkE c) (B : OkE a) (D : OkE b) : OkE (.ite c a b) := fun {X k e} hk h => by
  simp only [ckE] at h
  split at h
  · simp only [Bool.and_eq_true] at h
    exact ⟨e_ite (A hk h.1.1).2 (B hk h.1.2).1 (D hk h.2).1, t_none fun δ S => by simp only [evT]⟩
  · cases h
theorem okE_call {f : Str} {cs : List C} (A : OkEs cs) : OkE (.call f cs) := fun {X k e} hk h => by
  simp only [ckE] at h
  split at h
  · simp only [Bool.and_eq_true, decide_eq_true_eq] at h
    obtain ⟨⟨⟨⟨rfl, h1⟩, h2⟩, h3⟩, h4⟩ := h
    rename_i es _
    obtain ⟨p1, p2⟩ := ckEs_plain h4
    cases es with
    | nil =>
      cases cs with
      | nil => exact ⟨e_call0 hk h1 h2 h3, t_call (e_call0 hk h1 h2 h3)⟩
      | cons c cs => cases p2
    | cons e es => exact ⟨e_call hk (A hk h4) p1 h1 h2 h3, t_call (e_call hk (A hk h4) p1 h1 h2 h3)⟩
  · cases h
theorem okE_callK {f : Str} {cs : List C} {ks : List Str} {kes : List C} (A : OkEs cs) (B : OkKs kes) : OkE (.callK f cs ks kes) := fun {X k e} hk h => by
  simp only [ckE] at h
  split at h
  · simp only [Bool.and_eq_true, decide_eq_true_eq] at h
    obtain ⟨⟨⟨⟨⟨⟨⟨⟨rfl, h1⟩, h2⟩, h3⟩, h4⟩, h5⟩, h6⟩, h7⟩, h8⟩ := h
    obtain ⟨p1, p2⟩ := ckEs_plain h7
    exact ⟨e_callK hk (A hk h7) (B hk h8) p1 h4 h5 p2 h1 h6 h2 h3, t_none fun δ S => by simp only [evT]⟩
  · cases h
theorem okE_blt {f : String} {cs : List C} (A : OkEs cs) : OkE (.blt f cs) := fun {X k e} hk h => by
  simp only [ckE] at h
  split at h
  · simp only [Bool.and_eq_true] at h
    obtain ⟨⟨⟨⟨h1, h2⟩, h3⟩, h4⟩, h5⟩ := h
    rename_i x p es pos
    obtain ⟨p1, p2⟩ := ckEs_plain h3
    have w : PE X (.Call (.Name x p) es [] pos) (tEv X.K k.g (.blt f cs)) := by
      cases es with
      | nil => simp [nilE] at h4
      | cons e es =>
        split at h5
        · subst_vars
          simp only [decide_eq_true_eq] at h5
          exact e_gcd hk (A hk h3) p1 h5 h1 h2
        · simp only [Bool.and_eq_true, decide_eq_true_eq] at h5
          exact e_blt hk (A hk h3) p1 h5.1.1 h5.1.2 h5.2 h1 h2
    exact ⟨w, t_blt w⟩
  · cases h
theorem okE_isi {c : C} {T : String} (A : OkE c) : OkE (.isi c T) := fun {X k e} hk h => by
  simp only [ckE] at h
  split at h
  · simp only [Bool.and_eq_true, decide_eq_true_eq] at h
    obtain ⟨⟨⟨⟨⟨⟨⟨⟨h1, h2⟩, h3⟩, h4⟩, h5⟩, h6⟩, h7⟩, h8⟩, h9⟩ := h
    have w := fun p p2 pos => e_isi (p := p) (p2 := p2) (pos := pos) hk (A hk h9).1 (ckE_plain h9) h1 h2 h3 h4 h5 h6 h7 h8
    exact ⟨w _ _ _, t_isi (w _ _ _)⟩
  · cases h
theorem okE_meth {m : String} {o : C} {cs : List C} (A : OkE o) (B : OkEs cs) : OkE (.meth m o cs) := fun {X k e} hk h => by
  simp only [ckE] at h
  split at h
  · simp only [Bool.and_eq_true, decide_eq_true_eq] at h
    obtain ⟨⟨⟨⟨rfl, h2⟩, h3⟩, h4⟩, h5⟩ := h
    have p1 := (ckEs_plain h4).1
    refine ⟨e_append (A hk h3).1 (B hk h4) ⟨_, _, rfl⟩ h2 ?_ h5, t_none fun δ S => by simp only [evT]⟩
    simpa using p1
  · cases h
theorem okE_ix {a b : C} (A : OkE a) (B : OkE b) : OkE (.ix a b) := fun {X k e} hk h => by
  simp only [ckE] at h
  split at h
  · simp only [Bool.and_eq_true] at h
    have w := fun p => e_ix (pos := p) hk (A hk h.1).1 (B hk h.2).1 (ckE_plain h.2)
    exact ⟨w _, t_ix (w _)⟩
  · cases h
theorem okE_sl {a l u : C} (A : OkE a) (B : OkE l) (D : OkE u) : OkE (.sl a l u) := fun {X k e} hk h => by
  simp only [ckE] at h
  split at h
  · simp only [Bool.and_eq_true] at h
    obtain ⟨⟨h1, h2⟩, h3⟩ := h
    have part : ∀ {l : C} {o : Option Expr}, OkE l → (match o with | none => isNonC l | some y => ckE l k.toKt y && !isNonC l) = true → PO X o (tPt X.K k.g l) := fun {l o} B h => by
      cases o with
      | none =>
        cases l <;> simp only [isNonC] at h <;> first | exact o_none | cases h
      | some y =>
        simp only [Bool.and_eq_true, Bool.not_eq_true'] at h
        exact o_some (B hk h.1).1 h.2
    exact ⟨e_sl (A hk h1).1 (part B h2) (part D h3), t_none fun δ S => by simp only [evT]⟩
  · cases h
theorem lc_parts {c : C} {t : CT} {it : CI} {ifs : List C} {own : List Nat} {k : Kt} {elt tg iter : Expr} {cs : List Expr} {scope : Scope} {pos : Pos} (h : ckE (.lc c t it ifs own) k (.ListComp elt [⟨tg, iter, cs, 0⟩] scope pos) = true) :
    blkC k.N k.sc scope (own.map fun i => (k.N.getD i Str.empty, i)) = true ∧ ckI it k tg iter = true ∧ ckG t (k.blk scope) tg = true ∧ ckIf ifs (k.blk scope) cs = true ∧ ckE c (k.blk scope) elt = true ∧ ∀ i ∈ tsl t, i ∈ own := by
  simp only [ckE, Bool.and_eq_true, List.all_eq_true, decide_eq_true_eq] at h
  obtain ⟨⟨⟨⟨⟨h1, h2⟩, h3⟩, h4⟩, h5⟩, h6⟩ := h
  exact ⟨h1, h2, h3, h4, h5, h6⟩
theorem okE_lc {c : C} {t : CT} {it : CI} {ifs : List C} {own : List Nat} (A : OkE c) (T : OkG t) (I : OkI it) (F : OkIf ifs) : OkE (.lc c t it ifs own) := fun {X k e} hk h => by
  refine ⟨?_, t_none fun δ S => by simp only [evT]⟩
  have h' := h
  simp only [ckE] at h
  split at h
  · obtain ⟨h1, h2, h3, h4, h5, h6⟩ := lc_parts h'
    have w := e_lc (pos := by assumption) hk (I hk h2) (nostarI (p := by assumption) h2) h1 (fun s H C cl fp => T (X := X.blk s H _ (compEnvC _ cl C X.env) fp) (k := k.blk _) hk.blk h3) (fun s H C cl fp => F (X := X.blk s H _ (compEnvC _ cl C X.env) fp) (k := k.blk _) hk.blk h4)
      (fun s H C cl fp => (A (X := X.blk s H _ (compEnvC _ cl C X.env) fp) (k := k.blk _) hk.blk h5).1) (by rw [own_map]; exact h6)
    rw [own_map] at w
    exact w
  · cases h
theorem okE_rev {a : C} : OkE (.rev a) := fun {X k e} hk h => by
  simp only [ckE] at h
  cases h
theorem okEs_nil : OkEs [] := fun {X k es} hk h => by
  cases es with
  | nil => exact as_nil
  | cons e es => simp only [ckEs] at h; cases h
theorem okEs_cons {c : C} {cs : List C} (A : OkE c) (B : OkEs cs) : OkEs (c :: cs) := fun {X k es} hk h => by
  cases es with
  | nil => simp only [ckEs] at h; cases h
  | cons e es =>
    simp only [ckEs, Bool.and_eq_true] at h
    exact as_cons (A hk h.1).1 (B hk h.2) (ckE_plain h.1)
theorem okKs_nil : OkKs [] := fun {X k es} hk h => by
  cases es with
  | nil => exact ks_nil
  | cons e es => simp only [List.map_cons, ckEs] at h; cases h
theorem okKs_cons {c : C} {cs : List C} (A : OkE c) (B : OkKs cs) : OkKs (c :: cs) := fun {X k es} hk h => by
  cases es with
  | nil => simp only [List.map_nil, ckEs] at h; cases h
  | cons e es =>
    obtain ⟨n, e, p⟩ := e
    simp only [List.map_cons, ckEs, Bool.and_eq_true] at h
    exact ks_cons (A hk h.1).1 (B hk h.2)
theorem okIf_nil : OkIf [] := fun {X k es} hk h => by
  cases es with
  | nil => exact if_nil
  | cons e es => simp only [ckIf] at h; cases h
theorem okIf_cons {c : C} {cs : List C} (A : OkE c) : OkIf (c :: cs) := fun {X k es} hk h => by
  simp only [ckIf] at h
  split at h
  · simp only [Bool.and_eq_true, List.isEmpty_iff] at h
    obtain ⟨h1, rfl⟩ := h
    exact if_one (A hk h1).2
  · cases h
theorem okG_name {i : Nat} : OkG (.name i) := fun {X k e} hk h => by
  simp only [ckG] at h
  split at h
  · simp only [Bool.and_eq_true, decide_eq_true_eq] at h
    exact g_name hk h.1 h.2
  · cases h
theorem okG_tup {ts : List CT} (A : OkGs ts) : OkG (.tup ts) := fun {X k e} hk h => by
  simp only [ckG] at h
  split at h
  · obtain ⟨p1, p2⟩ := ckGs_plain h
    exact g_tup hk (A hk h) p1 p2
  · cases h
theorem okG_sub {a b : C} (A : OkE a) (B : OkE b) : OkG (.sub a b) := fun {X k e} hk h => by
  simp only [ckG] at h
  split at h
  · simp only [Bool.and_eq_true] at h
    exact g_sub (A hk h.1).1 (B hk h.2).1 (ckE_plain h.2)
  · cases h
theorem okGs_nil : OkGs [] := fun {X k es} hk h => by
  cases es with
  | nil => exact gs_nil
  | cons e es => simp only [ckGs] at h; cases h
theorem okGs_cons {c : CT} {cs : List CT} (A : OkG c) (B : OkGs cs) : OkGs (c :: cs) := fun {X k es} hk h => by
  cases es with
  | nil => simp only [ckGs] at h; cases h
  | cons e es =>
    simp only [ckGs, Bool.and_eq_true] at h
    exact gs_cons (A hk h.1) (B hk h.2) (ckG_plain h.1)
theorem okI_seq {a : C} (A : OkE a) : OkI (.seq a) := fun {X k tg e} hk h => by
  simp only [ckI] at h
  exact i_seq (A hk h).1
theorem okI_rng1 {a : C} (A : OkE a) : OkI (.rng1 a) := fun {X k tg e} hk h => by
  simp only [ckI] at h
  split at h
  · simp only [Bool.and_eq_true, decide_eq_true_eq] at h
    obtain ⟨⟨⟨h1, h2⟩, h3⟩, h4⟩ := h
    exact i_rng1 hk (A hk h4).1 (ckE_plain h4) h1 h2 h3
  · cases h
theorem okI_rng2 {a b : C} (A : OkE a) (B : OkE b) : OkI (.rng2 a b) := fun {X k tg e} hk h => by
  simp only [ckI] at h
  split at h
  · simp only [Bool.and_eq_true, decide_eq_true_eq] at h
    obtain ⟨⟨⟨⟨h1, h2⟩, h3⟩, h4⟩, h5⟩ := h
    exact i_rng2 hk (A hk h4).1 (B hk h5).1 (ckE_plain h4) (ckE_plain h5) h1 h2 h3
  · cases h
theorem okI_enm {a : C} (A : OkE a) : OkI (.enm a) := fun {X k tg e} hk h => by
  simp only [ckI] at h
  split at h
  · simp only [Bool.and_eq_true, decide_eq_true_eq] at h
    obtain ⟨⟨⟨h1, h2⟩, h3⟩, h4⟩ := h
    exact i_enm hk (A hk h4).1 (ckE_plain h4) h1 h2 h3
  · cases h
theorem okI_zip {a b : C} (A : OkE a) (B : OkE b) : OkI (.zip a b) := fun {X k tg e} hk h => by
  simp only [ckI] at h
  split at h
  · simp only [Bool.and_eq_true, decide_eq_true_eq] at h
    obtain ⟨⟨⟨⟨h1, h2⟩, h3⟩, h4⟩, h5⟩ := h
    exact i_zip hk (A hk h4).1 (B hk h5).1 (ckE_plain h4) (ckE_plain h5) h1 h2 h3
  · cases h
mutual
theorem okE : ∀ c : C, OkE c
  | .non => okE_non
  | .bl b => okE_bl
  | .int i => okE_int
  | .str x => okE_str
  | .var i => okE_var
  | .glo x => okE_glo
  | .tup es => okE_tup (okEs es)
  | .lst own es => okE_lst (okEs es)
  | .dic0 => okE_dic0
  | .bin o a b => okE_bin (okE a) (okE b)
  | .neg a => okE_neg (okE a)
  | .not a => okE_not (okE a)
  | .cmp o a b => okE_cmp (okE a) (okE b)
  | .cmp2 o p a b c => okE_cmp2 (okE a) (okE b) (okE c)
  | .and a b => okE_and (okE a) (okE b)
  | .or a b => okE_or (okE a) (okE b)
  | .ite c a b => okE_ite (okE c) (okE a) (okE b)
  | .call f es => okE_call (okEs es)
  | .callK f es ks kes => okE_callK (okEs es) (okKs kes)
  | .blt f es => okE_blt (okEs es)
  | .isi e T => okE_isi (okE e)
  | .meth m o es => okE_meth (okE o) (okEs es)
  | .ix a b => okE_ix (okE a) (okE b)
  | .sl a lo hi => okE_sl (okE a) (okE lo) (okE hi)
  | .rev a => okE_rev
  | .lc elt t it ifs own => okE_lc (okE elt) (okG t) (okI it) (okIf ifs)
theorem okEs : ∀ cs : List C, OkEs cs
  | [] => okEs_nil
  | c :: cs => okEs_cons (okE c) (okEs cs)
theorem okKs : ∀ cs : List C, OkKs cs
  | [] => okKs_nil
  | c :: cs => okKs_cons (okE c) (okKs cs)
theorem okIf : ∀ cs : List C, OkIf cs
  | [] => okIf_nil
  | c :: cs => okIf_cons (okE c)
theorem okG : ∀ t : CT, OkG t
  | .name i => okG_name
  | .tup ts => okG_tup (okGs ts)
  | .sub a b => okG_sub (okE a) (okE b)
theorem okGs : ∀ ts : List CT, OkGs ts
  | [] => okGs_nil
  | t :: ts => okGs_cons (okG t) (okGs ts)
theorem okI : ∀ it : CI, OkI it
  | .seq e => okI_seq (okE e)
  | .rng1 a => okI_rng1 (okE a)
  | .rng2 a b => okI_rng2 (okE a) (okE b)
  | .enm e => okI_enm (okE e)
  | .zip a b => okI_zip (okE a) (okE b)
end
end
end Dn

set_option maxHeartbeats 4000000
namespace Dn
open PySem PySem.Spec PyProof.Rows L2
def lcOfX : Expr → Option (Scope × Pos)
  | .ListComp _ _ scope pos => some (scope, pos)
  | _ => none
def isLcC : C → Bool
  | .lc _ _ _ _ _ => true
  | _ => false
def tupsX : Expr → Option (List Expr)
  | .Tuple es _ _ => some es
  | _ => none
mutual
def ckS : CS → Kt → Stmt → Bool
  | .expr c, k, st => match st with
    | .Expr e _ => ckE c k e && noLc e
    | _ => false
  | .asg t c, k, st => match st with
    | .Assign [tg] e _ => ckG t k tg && ckE c k e && (match lcOfX e with
      | some (scope, pos) => (match tg with
        | .Name y py => isLcC c && decide (k.sc.names.lookup y = some .local) && (py.line == pos.line) && !(scope.names.any fun (n, kd) => n == y && (kd == .local || kd == .cell))
        | _ => false)
      | none => noLc e && (match tupsX tg, tupsX e with
        | some ts, some vs => (match swOf k.sc ts vs with
          | some none => true
          | _ => false)
        | _, _ => true))
    | _ => false
  | .par i j a b, k, st => match st with
    | .Assign [.Tuple [.Name x px, .Name y py] _ _] (.Tuple [ea, eb] _ _) _ => ckE a k ea && ckE b k eb && decide (k.N[i]? = some x) && decide (k.N[j]? = some y) && decide (i ≠ j) && decide (k.sc.names.lookup x = some .local) && decide (k.sc.names.lookup y = some .local)
      && decide (swOf k.sc [.Name x px, .Name y py] [ea, eb] = some (some [x, y]))
    | _ => false
  | .ret c, k, st => match st with
    | .Return (some e) _ => ckE c k e
    | _ => false
  | .retN, _, st => match st with
    | .Return none _ => true
    | _ => false
  | .ife c a b, k, st => match st with
    | .If e x y _ => ckE c k e && ckSs a k x && ckSs b k y
    | _ => false
  | .for_ t it body, k, st => match st with
    | .For tg iter b [] _ => ckI it k tg iter && ckG t k tg && ckSs body k b
    | _ => false
  | .whl c body, k, st => match st with
    | .While e b [] _ => ckE c k e && ckSs body k b
    | _ => false
  | .aug _ _ _, _, _ => false
  | .pass, _, st => match st with
    | .Pass _ => true
    | _ => false
  | .brk, _, st => match st with
    | .Break _ => true
    | _ => false
  | .cont, _, st => match st with
    | .Continue _ => true
    | _ => false
  | .never, _, _ => true
def ckSs : List CS → Kt → List Stmt → Bool
  | [], _, sts => match sts with
    | [] => true
    | _ => false
  | s :: ss, k, sts => match sts with
    | st :: r => ckS s k st && ckSs ss k r
    | [] => false
end
def OkS (s : CS) : Prop := ∀ {X : Cx} {k : Kc} {st : Stmt}, KcOk X k → X.xe = (fun _ _ => False) → ckS s k.toKt st = true → PS X st (tSt X.K k.g s)
def OkSs (ss : List CS) : Prop := ∀ {X : Cx} {k : Kc} {sts : List Stmt}, KcOk X k → X.xe = (fun _ _ => False) → ckSs ss k.toKt sts = true → PSs X sts (tSts X.K k.g ss)
theorem okS_expr {c : C} : OkS (.expr c) := fun {X k st} hk hx h => by
  simp only [ckS] at h
  split at h
  · simp only [Bool.and_eq_true] at h
    exact s_expr (okE c hk h.1).1 h.2
  · cases h
theorem okS_asg {t : CT} {c : C} : OkS (.asg t c) := fun {X k st} hk hx h => by
  simp only [ckS] at h
  split at h
  · rename_i tg e p
    simp only [Bool.and_eq_true] at h
    obtain ⟨⟨h1, h2⟩, h3⟩ := h
    split at h3
    · rename_i scope pos hl
      split at h3
      · rename_i y py
        simp only [Bool.and_eq_true, decide_eq_true_eq, Bool.not_eq_true'] at h3
        obtain ⟨⟨⟨h4, h5⟩, h6⟩, h7⟩ := h3
        cases c <;> simp only [isLcC] at h4 <;> first | (cases h4; done) | skip
        rename_i c tt it ifs own
        cases e <;> simp only [lcOfX] at hl <;> first | (cases hl; done) | skip
        cases hl
        have h2' := h2
        simp only [ckE] at h2
        split at h2
        · rename_i heq
          cases heq
          obtain ⟨g1, g2, g3, g4, g5, g6⟩ := lc_parts h2'
          cases t with
          | name i =>
            simp only [ckG, Bool.and_eq_true, decide_eq_true_eq] at h1
            have w := s_lc (pos := _) (spos := p) (py := py) hk (okI it hk g2) (nostarI (p := py) g2) g1 (fun s H C cl fp => okG tt (X := X.blk s H _ (compEnvC _ cl C X.env) fp) (k := k.blk _) hk.blk g3) (fun s H C cl fp => okIf ifs (X := X.blk s H _ (compEnvC _ cl C X.env) fp) (k := k.blk _) hk.blk g4)
              (fun s H C cl fp => (okE c (X := X.blk s H _ (compEnvC _ cl C X.env) fp) (k := k.blk _) hk.blk g5).1) (by rw [own_map]; exact g6) h1.1 h5 h6 h7
            rw [own_map] at w
            exact w
          | tup ts => simp only [ckG] at h1; cases h1
          | sub a b => simp only [ckG] at h1; cases h1
        · cases h2
      · cases h3
    · simp only [Bool.and_eq_true] at h3
      obtain ⟨h4, h5⟩ := h3
      have hL : ∀ es p, tg ≠ .List es p := by
        rintro es p rfl
        cases t <;> simp only [ckG] at h1 <;> cases h1
      split at h5
      · rename_i ts vs e1 e2
        split at h5
        · rename_i hw
          cases tg <;> simp only [tupsX] at e1 <;> first | (cases e1; done) | skip
          cases e <;> simp only [tupsX] at e2 <;> first | (cases e2; done) | skip
          cases e1; cases e2
          exact s_asgT hk (okG t hk h1) (okE c hk h2).1 hw
        · cases h5
      · rename_i hn
        refine s_asg (okG t hk h1) (okE c hk h2).1 h4 (ckG_plain h1) ?_ hL
        cases tg <;> first | exact .inl rfl | skip
        cases e <;> first | exact .inr rfl | skip
        exact absurd rfl (hn _ _ rfl)
  · cases h
theorem okS_par {i j : Nat} {a b : C} : OkS (.par i j a b) := fun {X k st} hk hx h => by
  simp only [ckS] at h
  split at h
  · simp only [Bool.and_eq_true, decide_eq_true_eq] at h
    obtain ⟨⟨⟨⟨⟨⟨⟨h1, h2⟩, h3⟩, h4⟩, h5⟩, h6⟩, h7⟩, h8⟩ := h
    exact s_par hk (okE a hk h1).1 (okE b hk h2).1 (ckE_plain h1) (ckE_plain h2) h3 h4 h5 h6 h7 h8
  · cases h
theorem okS_ret {c : C} : OkS (.ret c) := fun {X k st} hk hx h => by
  simp only [ckS] at h
  split at h
  · exact s_ret (okE c hk h).1
  · cases h
theorem okS_retN : OkS .retN := fun {X k st} hk hx h => by
  simp only [ckS] at h
  split at h
  · exact s_retN
  · cases h
theorem okS_pass : OkS .pass := fun {X k st} hk hx h => by
  simp only [ckS] at h
  split at h
  · exact s_pass
  · cases h
theorem okS_brk : OkS .brk := fun {X k st} hk hx h => by
  simp only [ckS] at h
  split at h
  · exact s_brk
  · cases h
theorem okS_cont : OkS .cont := fun {X k st} hk hx h => by
  simp only [ckS] at h
  split at h
  · exact s_cont
  · cases h
theorem okS_never : OkS .never := fun {X k st} hk hx h => s_never
theorem okS_aug {i : Nat} {o : Operator} {c : C} : OkS (.aug i o c) := fun {X k st} hk hx h => by
  simp only [ckS] at h
  cases h
theorem okS_ife {c : C} {a b : List CS} (A : OkSs a) (B : OkSs b) : OkS (.ife c a b) := fun {X k st} hk hx h => by
  simp only [ckS] at h
  split at h
  · simp only [Bool.and_eq_true] at h
    exact s_if (okE c hk h.1.1).2 (A hk hx h.1.2) (B hk hx h.2)
  · cases h
theorem okS_for {t : CT} {it : CI} {a : List CS} (A : OkSs a) : OkS (.for_ t it a) := fun {X k st} hk hx h => by
  simp only [ckS] at h
  split at h
  · rename_i p
    simp only [Bool.and_eq_true] at h
    exact s_for hk hx (okI it hk h.1.1) (okG t hk h.1.2) (A hk hx h.2) (nostarI (p := p) h.1.1)
  · cases h
theorem okS_whl {c : C} {a : List CS} (A : OkSs a) : OkS (.whl c a) := fun {X k st} hk hx h => by
  simp only [ckS] at h
  split at h
  · simp only [Bool.and_eq_true] at h
    exact s_whl hx (okE c hk h.1).2 (A hk hx h.2)
  · cases h
theorem okSs_nil : OkSs [] := fun {X k sts} hk hx h => by
  cases sts with
  | nil => exact ss_nil
  | cons e es => simp only [ckSs] at h; cases h
theorem okSs_cons {s : CS} {ss : List CS} (A : OkS s) (B : OkSs ss) : OkSs (s :: ss) := fun {X k sts} hk hx h => by
  cases sts with
  | nil => simp only [ckSs] at h; cases h
  | cons e es =>
    simp only [ckSs, Bool.and_eq_true] at h
    exact ss_cons (A hk hx h.1) (B hk hx h.2)
mutual
theorem okS : ∀ s : CS, OkS s
  | .expr e => okS_expr
  | .asg t e => okS_asg
  | .par i j a b => okS_par
  | .ret e => okS_ret
  | .retN => okS_retN
  | .ife c a b => okS_ife (okSs a) (okSs b)
  | .for_ t it body => okS_for (okSs body)
  | .whl c body => okS_whl (okSs body)
  | .aug i o e => okS_aug
  | .pass => okS_pass
  | .brk => okS_brk
  | .cont => okS_cont
  | .never => okS_never
theorem okSs : ∀ ss : List CS, OkSs ss
  | [] => okSs_nil
  | s :: ss => okSs_cons (okS s) (okSs ss)
end
end Dn

set_option maxHeartbeats 4000000
namespace Dn
open PySem PySem.Spec PyProof.Rows L2
/-! ### the end of a call: its own objects are let go or frozen -/
def Mu.cut (μ : Mu) (n : Nat) : Mu := ⟨μ.ad.take n, μ.hid⟩
section
variable {K : PySem.W.Frag} {μ μ' : Mu} {H H' : Hp} {S S' S2 : Sto} {n : Nat}
theorem cut_fz {a : Addr} (h : μ.fz a) : (μ.cut n).fz a := ⟨fun q => h.1 (List.mem_of_mem_take q), h.2⟩
mutual
theorem Rep.below : ∀ {d : D} {v : V}, Rep K μ H d v → belowD μ.ad.length d = true
  | .non, v, h => rfl
  | .bl b, v, h => rfl
  | .int i, v, h => rfl
  | .str x, v, h => rfl
  | .tup ds, v, h => by
    simp only [Rep] at h; obtain ⟨a, vs, _, _, r⟩ := h
    simp only [belowD]; exact Reps.below r
  | .lst ds, v, h => by
    simp only [Rep] at h; obtain ⟨a, vs, _, _, _, r⟩ := h
    simp only [belowD]; exact Reps.below r
  | .scr ds, v, h => by
    simp only [Rep] at h; obtain ⟨a, vs, _, _, r⟩ := h
    simp only [belowD]; exact Reps.below r
  | .dic ks ds, v, h => by
    simp only [Rep] at h; obtain ⟨a, vs, _, _, _, _, r⟩ := h
    simp only [belowD]; exact Reps.below r
  | .ref k, v, h => by
    simp only [Rep] at h; obtain ⟨a, _, e⟩ := h
    simp only [belowD, decide_eq_true_eq]
    exact (List.getElem?_eq_some_iff.mp e).1
theorem Reps.below : ∀ {ds : List D} {vs : List V}, Reps K μ H ds vs → belowDs μ.ad.length ds = true
  | [], vs, h => by simp only [belowDs]
  | d :: ds, vs, h => by
    obtain ⟨v, r, rfl, p, t⟩ := reps_cons.mp h
    simp only [belowDs, Bool.and_eq_true]
    exact ⟨Rep.below p, Reps.below t⟩
end
mutual
theorem Rep.cut : ∀ {d : D} {v : V}, belowD n d = true → Rep K μ H d v → Rep K (μ.cut n) H d v
  | .non, v, b, h => by simpa only [Rep] using h
  | .bl _, v, b, h => by simpa only [Rep] using h
  | .int i, v, b, h => by simpa only [Rep] using h
  | .str x, v, b, h => by simpa only [Rep] using h
  | .tup ds, v, b, h => by
    simp only [Rep] at h ⊢; obtain ⟨a, vs, h1, h2, r⟩ := h
    simp only [belowD] at b; exact ⟨a, vs, h1, h2, Reps.cut b r⟩
  | .lst ds, v, b, h => by
    simp only [Rep] at h ⊢; obtain ⟨a, vs, h1, h2, h3, r⟩ := h
    simp only [belowD] at b; exact ⟨a, vs, h1, cut_fz h2, h3, Reps.cut b r⟩
  | .scr ds, v, b, h => by
    simp only [Rep] at h ⊢; obtain ⟨a, vs, h1, h2, r⟩ := h
    simp only [belowD] at b; exact ⟨a, vs, h1, h2, Reps.cut b r⟩
  | .dic ks ds, v, b, h => by
    simp only [Rep] at h ⊢; obtain ⟨a, vs, h1, h2, h3, h4, r⟩ := h
    simp only [belowD] at b; exact ⟨a, vs, h1, cut_fz h2, h3, h4, Reps.cut b r⟩
  | .ref k, v, b, h => by
    simp only [Rep] at h ⊢; obtain ⟨a, h1, e⟩ := h
    simp only [belowD, decide_eq_true_eq] at b
    refine ⟨a, h1, ?_⟩
    show (μ.ad.take n)[k]? = some a
    rw [List.getElem?_take, if_pos b]; exact e
theorem Reps.cut : ∀ {ds : List D} {vs : List V}, belowDs n ds = true → Reps K μ H ds vs → Reps K (μ.cut n) H ds vs
  | [], vs, b, h => by rw [reps_nil.mp h]; exact Reps.nil
  | d :: ds, vs, b, h => by
    obtain ⟨v, r, rfl, p, t⟩ := reps_cons.mp h
    simp only [belowDs, Bool.and_eq_true] at b
    exact Reps.cons (Rep.cut b.1 p) (Reps.cut b.2 t)
end
mutual
theorem fz_ok {g : Nat → Option D} (hg : ∀ k d v, n ≤ k → g k = some d → Rep K μ H (.ref k) v → Rep K (μ.cut n) H d v) : ∀ {d x : D} {v : V}, fzD n g d = some x → Rep K μ H d v → Rep K (μ.cut n) H x v
  | .non, x, v, e, h => by simp only [fzD] at e; cases e; exact Rep.cut rfl h
  | .bl _, x, v, e, h => by simp only [fzD] at e; cases e; exact Rep.cut rfl h
  | .int i, x, v, e, h => by simp only [fzD] at e; cases e; exact Rep.cut rfl h
  | .str _, x, v, e, h => by simp only [fzD] at e; cases e; exact Rep.cut rfl h
  | .tup ds, x, v, e, h => by
    simp only [fzD] at e
    obtain ⟨xs, e1, rfl⟩ := mapS e
    simp only [Rep] at h ⊢; obtain ⟨a, vs, h1, h2, r⟩ := h
    exact ⟨a, vs, h1, h2, fzs_ok hg e1 r⟩
  | .lst ds, x, v, e, h => by
    simp only [fzD] at e
    obtain ⟨xs, e1, rfl⟩ := mapS e
    simp only [Rep] at h ⊢; obtain ⟨a, vs, h1, h2, h3, r⟩ := h
    exact ⟨a, vs, h1, cut_fz h2, h3, fzs_ok hg e1 r⟩
  | .scr ds, x, v, e, h => by
    simp only [fzD] at e
    obtain ⟨xs, e1, rfl⟩ := mapS e
    simp only [Rep] at h ⊢; obtain ⟨a, vs, h1, h2, r⟩ := h
    exact ⟨a, vs, h1, h2, fzs_ok hg e1 r⟩
  | .dic ks ds, x, v, e, h => by
    simp only [fzD] at e
    obtain ⟨xs, e1, rfl⟩ := mapS e
    simp only [Rep] at h ⊢; obtain ⟨a, vs, h1, h2, h3, h4, r⟩ := h
    exact ⟨a, vs, h1, cut_fz h2, h3, h4, fzs_ok hg e1 r⟩
  | .ref k, x, v, e, h => by
    simp only [fzD] at e
    split at e
    · rename_i hk
      cases e
      exact Rep.cut (by simp only [belowD, decide_eq_true_eq]; exact hk) h
    · rename_i hk
      exact hg k x v (Nat.le_of_not_lt hk) e h
theorem fzs_ok {g : Nat → Option D} (hg : ∀ k d v, n ≤ k → g k = some d → Rep K μ H (.ref k) v → Rep K (μ.cut n) H d v) : ∀ {ds xs : List D} {vs : List V}, fzDs n g ds = some xs → Reps K μ H ds vs → Reps K (μ.cut n) H xs vs
  | [], xs, vs, e, h => by simp only [fzDs] at e; cases e; rw [reps_nil.mp h]; exact Reps.nil
  | d :: ds, xs, vs, e, h => by
    simp only [fzDs] at e
    obtain ⟨x, e1, e2⟩ := bindS e
    obtain ⟨r, e3, rfl⟩ := mapS e2
    obtain ⟨v, us, rfl, p, t⟩ := reps_cons.mp h
    exact Reps.cons (fz_ok hg e1 p) (fzs_ok hg e3 t)
end
theorem fzR_ok (R : Rl K μ H S) : ∀ (m k : Nat) (d : D) (v : V), n ≤ k → fzR S n m k = some d → Rep K μ H (.ref k) v → Rep K (μ.cut n) H d v
  | 0, k, d, v, hk, e, h => by cases e
  | m + 1, k, d, v, hk, e, h => by
    simp only [fzR] at e
    split at e
    · rename_i kp xs hS
      obtain ⟨ys, e1, rfl⟩ := mapS e
      simp only [Rep] at h ⊢
      obtain ⟨a, rfl, ha⟩ := h
      obtain ⟨vs, h1, h2⟩ := R.at_ k _ a hS ha
      refine ⟨a, vs, rfl, ⟨fun q => ?_, fun q => R.sep a q (List.mem_of_getElem? ha)⟩, h1, fzs_ok (fun k d v hk e h => fzR_ok R m k d v hk e h) e1 h2⟩
      obtain ⟨j, hj, ej⟩ := List.mem_iff_getElem.mp (show a ∈ μ.ad.take n from q)
      rw [List.getElem_take] at ej
      have hj2 : j < n := by rw [List.length_take] at hj; omega
      have hk2 := (List.getElem?_eq_some_iff.mp ha)
      obtain ⟨hk3, ek⟩ := hk2
      exact List.pairwise_iff_getElem.mp R.nd j k (by rw [List.length_take] at hj; omega) hk3 (by omega) (ej.trans ek.symm)
    · cases e
theorem gc_ok {d0 d : D} {Q : VK} (R : Rl K μ H S) (e : gc S d0 S2 = some (d, S')) (q : Pst K μ H S' d Q) : Pst K μ H S2 d0 Q := by
  unfold gc at e
  split at e
  · cases e; exact q
  split at e
  · cases e; exact q
  split at e
  · rename_i h1 h2 hg
    obtain ⟨x, e1, e2⟩ := mapS e
    cases e2
    intro v H' μ' E' R' r
    obtain ⟨ν, en, nn⟩ := E'.pre
    have hcut : (μ'.cut S.length).ad = μ.ad := by
      show μ'.ad.take S.length = μ.ad
      rw [en, ← R.len, List.take_left]
    refine q v H' (μ'.cut S.length) ⟨E'.hid, ⟨[], by rw [hcut]; simp, fun _ h => nomatch h⟩, E'.keep, E'.live⟩ ?_ (fz_ok (fun k d v hk e h => fzR_ok R' 4 k d v hk e h) e1 r)
    refine ⟨by rw [hcut, R.len, List.length_take]; omega, by rw [hcut]; exact R.nd, fun k mo a hk ha => ?_, R'.hid, fun a ha hq => R'.sep a ha (List.mem_of_mem_take hq)⟩
    rw [List.getElem?_take] at hk
    split at hk
    · rename_i hl
      have ha' : μ'.ad[k]? = some a := by
        have : (μ'.ad.take S.length)[k]? = some a := ha
        rw [List.getElem?_take, if_pos hl] at this
        exact this
      have M := R'.at_ k mo a hk ha'
      have hb : belowDs S.length mo.xs = true := by
        rcases hg k hl with h | ⟨mo', h, hb⟩
        · rw [hk] at h
          obtain ⟨a2, _, M2⟩ := R.get h.symm
          cases mo with
          | lst kp xs =>
            obtain ⟨vs, _, r2⟩ := M2
            have := Reps.below r2
            rw [R.len] at this
            exact this
        · rw [hk] at h; cases h; exact hb
      cases mo with
      | lst kp xs =>
        obtain ⟨vs, h3, r2⟩ := M
        exact ⟨vs, h3, Reps.cut hb r2⟩
    · cases hk
  · cases e
end
end Dn

set_option maxHeartbeats 4000000
namespace Dn
open PySem PySem.Spec PyProof.Rows L2
/-! ### a program: its defs -/
structure Dfn where
  nm : Str
  fc : Fn
  st : Stmt
abbrev Dfn.fd (d : Dfn) (kV doc pm : Value) (an : Option Addr) (cdv ct : Value) : FuncData := PySem.W.fnOf d.nm d.nm (defArgs d.st) (defBody d.st) (defScope d.st) .none kV doc pm an cdv ct
/-- its parameters, one behind another -/
def Dfn.Bn (d : Dfn) : Prop := ∀ (kV doc pm : Value) (an : Option Addr) (cdv ct : Value) (us : List Value), us.length = d.fc.ps.length → bindArgs (d.fd kV doc pm an cdv ct) ⟨us, []⟩ = pure (d.fc.ps.zip us)
/-- a call with keywords -/
def kwPl (ps : List Str) (n : Nat) (ks : List Str) : List Nat := (List.range ps.length).map fun i => if i < n then i else n + ks.idxOf (ps.getD i Str.empty)
def Dfn.BnK (d : Dfn) (n : Nat) (ks : List Str) : Prop := ∀ (kV doc pm : Value) (an : Option Addr) (cdv ct : Value) (us ws : List Value), us.length = n → ws.length = ks.length →
  bindArgs (d.fd kV doc pm an cdv ct) ⟨us, ks.zip ws⟩ = pure (d.fc.ps.zip (pickV (us ++ ws) (kwPl d.fc.ps n ks)))
def scB (N ps : List Str) (sc : Scope) : Bool := decide (sc.kind = .function) && !sc.isCoroutine && !sc.isGenerator && decide N.Nodup && decide (N.take ps.length = ps) &&
  (ps.all fun x => decide (sc.names.lookup x = some .local) || decide (sc.names.lookup x = some .cell)) && sc.names.all fun y => !decide (y.2 = .free)
theorem scB_ok {N ps : List Str} {sc : Scope} (h : scB N ps sc = true) : FnScope N ps sc := by
  unfold scB at h
  simp only [Bool.and_eq_true, decide_eq_true_eq, Bool.not_eq_true', List.all_eq_true, Bool.or_eq_true, decide_eq_false_iff_not] at h
  obtain ⟨⟨⟨⟨⟨⟨h1, h2⟩, h3⟩, h4⟩, h5⟩, h6⟩, h7⟩ := h
  exact ⟨h1, h2, h3, h4, h5, h6, h7⟩
/-- what all defs share -/
structure Mk where
  free : List Str
  bf : List (Str × String)
  fns : List Str
  kwl : List (Str × Nat × List Str)
  dn : List Str
def Mk.kt (m : Mk) (d : Dfn) : Kt := ⟨d.fc.N, defScope d.st, fun _ => true, m.free, m.bf, m.fns, m.kwl, m.dn⟩
def ckD (m : Mk) (d : Dfn) : Bool := scB d.fc.N d.fc.ps (defScope d.st) && ckSs d.fc.body (m.kt d) (defBody d.st)
def tabOf (ds : List Dfn) : List (Str × Fn) := ds.map fun d => (d.nm, d.fc)
theorem tab_get : ∀ {ds : List Dfn} {d : Dfn}, (ds.map Dfn.nm).Nodup → d ∈ ds → (tabOf ds).lookup d.nm = some d.fc
  | [], d, _, h => by cases h
  | e :: ds, d, hn, h => by
    have hn' := List.nodup_cons.mp (show (e.nm :: ds.map Dfn.nm).Nodup from hn)
    show ((e.nm, e.fc) :: tabOf ds).lookup d.nm = some d.fc
    rcases List.mem_cons.mp h with rfl | h
    · simp [List.lookup]
    · have ne : (d.nm == e.nm) = false := by
        rw [beq_eq_false_iff_ne]
        intro q
        exact hn'.1 (by rw [← q]; exact List.mem_map.mpr ⟨d, h, rfl⟩)
      rw [List.lookup_cons, ne]
      exact tab_get hn'.2 h
structure PrOk (K : PySem.W.Frag) (mg : Str → Option Value) (ds : List Dfn) (tb : List (Str × D)) (m : Mk) : Prop where
  nd : (ds.map Dfn.nm).Nodup
  ck : ∀ d ∈ ds, ckD m d = true
  fn : ∀ d ∈ ds, ∃ f fd, mg d.nm = some (.ref f) ∧ FunD K d.nm d.nm (defArgs d.st) (defBody d.st) (defScope d.st) [] [] f fd
  bn : ∀ d ∈ ds, d.Bn
  bk : ∀ p ∈ m.kwl, ∀ d ∈ ds, d.nm = p.1 → d.BnK p.2.1 p.2.2
  fns : ∀ x ∈ m.fns, ∃ d ∈ ds, d.nm = x
  data : ∀ x d, tb.lookup x = some d → ∃ u v, mg x = some u ∧ RelV v u ∧ ∀ μ H, Rep K μ H d v
  dn : ∀ x ∈ m.dn, (tb.lookup x).isSome = true
  free : ∀ x ∈ m.free, mg x = none
  bf : ∀ x id, m.bf.lookup x = some id → mg x = some (.builtin id)
theorem rep_start {K : PySem.W.Frag} {μ : Mu} {H : Hp} {N : List Str} {ds : List D} {vs : List V} (h : Reps K μ H ds vs) : RepEnv K μ H (start N vs) (startD N.length ds) := by
  have hl := h.length
  refine ⟨?_, fun i d e => ?_⟩
  · unfold L2.start startD
    simp only [List.length_append, List.length_map, List.length_replicate]
    omega
  · unfold startD at e
    unfold L2.start
    by_cases hi : i < ds.length
    · rw [List.getElem?_append_left (by rw [List.length_map]; exact hi), List.getElem?_map] at e
      cases e2 : ds[i]? with
      | none => rw [e2] at e; cases e
      | some d' =>
        rw [e2] at e
        cases e
        obtain ⟨v, e3, r⟩ := h.get e2
        exact ⟨v, by rw [List.getElem?_append_left (by rw [List.length_map, ← hl]; exact hi), List.getElem?_map, e3]; rfl, r⟩
    · rw [List.getElem?_append_right (by rw [List.length_map]; omega)] at e
      have := List.mem_of_getElem? e
      rw [List.mem_replicate] at this
      cases this.2
theorem kwOf_get {Pt : List (Str × Fn)} {f : Str} {n : Nat} {ks : List Str} {pl : List Nat} {fc : Fn} (hf : Pt.lookup f = some fc) (h : kwOf Pt f n ks = some pl) : pl = kwPl fc.ps n ks := by
  unfold kwOf at h
  rw [hf] at h
  simp only [Option.bind_some] at h
  split at h
  · cases h; rfl
  · cases h
theorem prog_ok {P : Program} {w : World} {K : PySem.W.Frag} {mg : Str → Option Value} {base : Heap} {ds : List Dfn} {tb : List (Str × D)} {m : Mk} (O : PrOk K mg ds tb m) :
    ∀ (n : Nat) (d : Dfn) (f : Addr) (fd : FuncData), d ∈ ds → mg d.nm = some (.ref f) → FunD K d.nm d.nm (defArgs d.st) (defBody d.st) (defScope d.st) [] [] f fd →
      FnG P w K mg base n f fd d.fc.ps (spEv K (geN tb (tabOf ds) n) d.nm)
  | 0, d, f, fd, hd, hm, F => ⟨fun vs H Q ⟨μ, S, as, x, S', R, p, e, q⟩ => (by cases e), fun A outer s H args us vs Q r g e0 b v ⟨μ, S, as, x, S', R, p, e, q⟩ => (by cases e)⟩
  | n + 1, d, f, fd, hd, hm, F => by
    have hl := tab_get O.nd hd
    have hc := O.ck d hd
    unfold ckD at hc
    rw [Bool.and_eq_true] at hc
    have S := scB_ok hc.1
    obtain ⟨oc, od, dV, kV, doc, pm, an, cdv, ct, osl, rfl, lk, hcd, _, _⟩ := F.ex
    have un : ∀ {vs : List V} {H : Hp} {Q : VK}, spEv K (geN tb (tabOf ds) (n + 1)) d.nm vs H Q → ∃ μ S as, Rl K μ H S ∧ Reps K μ H as vs ∧ as.length = d.fc.ps.length ∧ ∃ fl S2, exSs (geN tb (tabOf ds) n) d.fc.body (startD d.fc.N.length as) S = some (fl, S2) ∧
        Fk K μ H S2 { nx := fun _ H' => Q .non H', rt := Q } fl := by
      rintro vs H Q ⟨μ, S, as, x, S', R, p, e, q⟩
      replace e : callN tb (tabOf ds) (n + 1) d.nm as S = some (x, S') := e
      unfold callN at e
      rw [hl] at e
      simp only [Option.bind_some] at e
      split at e
      · rename_i hlen
        obtain ⟨⟨fl, S2⟩, e1, e2⟩ := bindS e
        refine ⟨μ, S, as, R, p, hlen, fl, S2, e1, ?_⟩
        cases fl with
        | rt d0 => exact gc_ok R e2 q
        | nx δ => exact fun σ' H' μ' E' R' N' => gc_ok R e2 q .non H' μ' E' R' mk_non
        | bk δ => cases e2
        | ct δ => cases e2
      · cases e
    refine fnG_of lk hcd S (fun vs H Q h => ?_) fun A outer s H vs Q hr hg h => ?_
    · obtain ⟨μ, S, as, R, p, hlen, _⟩ := un h
      rw [← p.length, hlen]
    · obtain ⟨μ, S0, as, R, p, hlen, fl, S2, e1, q⟩ := un h
      refine ⟨_, PSs.nox (okSs d.fc.body (X := (cxOf CX0 P w K mg base d.fc.N d.nm (defScope d.st) f cdv A outer s H E0).nox) (k := ⟨m.kt d, geN tb (tabOf ds) n⟩) ?_ rfl hc.2), μ, _, S0, fl, S2, rep_start p, R, e1, q⟩
      refine ⟨rfl, rfl, S.nd, rfl, ?_, hg, fun _ _ => rfl, O.data, O.dn, O.free, O.bf, fun x hx => ?_⟩
      · have := hr.un
        show (A.deeper (envOfC d.nm (defScope d.st) s.heap.objs.size f cdv)).units + 66 < cLine
        omega
      · obtain ⟨d', hd', rfl⟩ := O.fns x hx
        obtain ⟨f', fd', hm', F'⟩ := O.fn d' hd'
        refine ⟨f', fd', d'.fc.ps, n, hm', F'.kp, F'.bindsN (O.bn d' hd'), prog_ok O n d' f' fd' hd' hm' F', hr, fun j ks pl hkl hpl => ?_⟩
        have e := kwOf_get (tab_get O.nd hd') hpl
        subst e
        refine ⟨by unfold kwPl; simp, fun s us ws h1 h2 => ?_⟩
        obtain ⟨oc, od, dV, kV, doc, pm, an, cdv, ct, osl, rfl, lk, hcd, hD, hK⟩ := F'.ex
        rcases hD with ⟨_, rfl⟩ | ⟨e, _⟩
        · exact .of_eq (O.bk _ hkl d' hd' rfl kV doc pm an cdv ct us ws h1 h2)
        · exact absurd rfl e
/-! ### the module's data -/
mutual
def datB (K : PySem.W.Frag) : D → Value → Bool
  | .tup xs, u => match u with
    | .ref a => match K.lookup a with
      | some ⟨.type c, _, .seq its _, _⟩ => decide (c = "tuple") && decide (its.size ≤ sizeLine) && datsB K xs its.toList
      | _ => false
    | _ => false
  | .scr xs, u => match u with
    | .ref a => match K.lookup a with
      | some ⟨.type c, none, .seq its _, _⟩ => decide (c = "list") && decide (its.size ≤ sizeLine) && datsB K xs its.toList
      | _ => false
    | _ => false
  | .lst _, _ => false
  | .dic _ _, _ => false
  | .ref _, _ => false
  | .non, u => He.relB .non u
  | .bl b, u => He.relB (.bl b) u
  | .int i, u => He.relB (.int i) u
  | .str x, u => He.relB (.str x) u
def datsB (K : PySem.W.Frag) : List D → List Value → Bool
  | [], us => us.isEmpty
  | d :: ds, us => match us with
    | u :: r => datB K d u && datsB K ds r
    | [] => false
end
mutual
theorem dat_ok {K : PySem.W.Frag} : ∀ {d : D} {u : Value}, datB K d u = true → ∃ v, RelV v u ∧ ∀ μ H, Rep K μ H d v
  | .tup xs, u, h => by
    simp only [datB] at h
    split at h
    · split at h
      · rename_i a _ c od its n osl hl
        simp only [Bool.and_eq_true, decide_eq_true_eq] at h
        obtain ⟨⟨rfl, h2⟩, h3⟩ := h
        obtain ⟨vs, r, p⟩ := dats_ok h3
        refine ⟨.ref a, rfl, fun μ H => ?_⟩
        simp only [Rep]
        exact ⟨a, vs, rfl, .inr ⟨_, its, n, hl, rfl, rfl, h2, r⟩, p μ H⟩
      · cases h
    · cases h
  | .scr xs, u, h => by
    simp only [datB] at h
    split at h
    · split at h
      · rename_i a _ c its n osl hl
        simp only [Bool.and_eq_true, decide_eq_true_eq] at h
        obtain ⟨⟨rfl, h2⟩, h3⟩ := h
        obtain ⟨vs, r, p⟩ := dats_ok h3
        refine ⟨.ref a, rfl, fun μ H => ?_⟩
        simp only [Rep]
        exact ⟨a, vs, rfl, .inr ⟨_, its, n, hl, rfl, rfl, rfl, h2, r⟩, p μ H⟩
      · cases h
    · cases h
  | .lst _, u, h => by simp only [datB] at h; cases h
  | .dic _ _, u, h => by simp only [datB] at h; cases h
  | .ref _, u, h => by simp only [datB] at h; cases h
  | .non, u, h => by simp only [datB] at h; exact ⟨_, He.relB_ok h, fun μ H => mk_non⟩
  | .bl b, u, h => by simp only [datB] at h; exact ⟨_, He.relB_ok h, fun μ H => mk_bl⟩
  | .int i, u, h => by simp only [datB] at h; exact ⟨_, He.relB_ok h, fun μ H => mk_int⟩
  | .str x, u, h => by simp only [datB] at h; exact ⟨_, He.relB_ok h, fun μ H => mk_str⟩
theorem dats_ok {K : PySem.W.Frag} : ∀ {ds : List D} {us : List Value}, datsB K ds us = true → ∃ vs, Vals vs us ∧ ∀ μ H, Reps K μ H ds vs
  | [], us, h => by
    simp only [datsB, List.isEmpty_iff] at h
    subst h
    exact ⟨[], .nil, fun μ H => Reps.nil⟩
  | d :: ds, us, h => by
    cases us with
    | nil => simp only [datsB] at h; cases h
    | cons u us =>
      simp only [datsB, Bool.and_eq_true] at h
      obtain ⟨v, r, p⟩ := dat_ok h.1
      obtain ⟨vs, rs, ps⟩ := dats_ok h.2
      exact ⟨v :: vs, .cons r rs, fun μ H => Reps.cons (p μ H) (ps μ H)⟩
end
/-! ### the facts by the Hook -/
def Dfn.at_ (d : Dfn) : He.DefD := ⟨(d.nm, none), d.nm, d.nm, defArgs d.st, defBody d.st, defScope d.st, [], []⟩
def gloIs (K : PySem.W.Frag) (x : Str) (t : Value → Bool) : Bool := match PySem.W.nsIn K mainGlobals x with
  | some (some u) => t u
  | _ => false
def bltIs (id : String) : Value → Bool
  | .builtin i => decide (i = id)
  | _ => false
def exB (ds : List Dfn) (tb : List (Str × D)) (m : Mk) (K : PySem.W.Frag) : Bool :=
  (ds.all fun d => (He.Fa.glo d.nm).ok K) && (m.free.all fun x => (He.Fa.free x).ok K) && (tb.all fun p => gloIs K p.1 (datB K p.2)) && m.bf.all fun p => gloIs K p.1 (bltIs p.2)
def obsN (ds : List Dfn) (tb : List (Str × D)) (m : Mk) (K : PySem.W.Frag) : He.AlD := (exB ds tb m K && ds.all fun d => d.at_.ok K, ds.map fun d => He.fnW K d.at_.at_)
def valN (ds : List Dfn) : He.AlD := (true, ds.map fun d => d.at_.val)
def obsNG (n : Nat) (ds : List Dfn) (tb : List (Str × D)) (m : Mk) (g : Addr → Option Obj) : He.AlD := obsN ds tb m (He.frG g (He.asD g n))
def hookN (n : Nat) (ds : List Dfn) (tb : List (Str × D)) (m : Mk) : PySem.W.Hook where
  α := He.AlD
  obs s := obsNG n ds tb m s.heap.get?
  val _ := valN ds
  says _ h := ∃ F : PySem.W.Frag, F.In h ∧ obsN ds tb m F = valN ds
  of _ _ e := ⟨_, He.frG_in, e⟩
  keeps _ _ _ := fun ⟨F, hF, c⟩ k => ⟨F, PySem.W.Frag.In.keeps hF k, c⟩
theorem obsNG_eq {n : Nat} {ds : List Dfn} {tb : List (Str × D)} {m : Mk} {g : Addr → Option Obj} {s : Shared} (h : ∀ a, g a = s.heap.get? a) : obsNG n ds tb m g = (hookN n ds tb m).obs s := by
  rw [show g = s.heap.get? from funext h]; rfl
theorem lookup_memD {α : Type} {x : Str} {d : α} : ∀ {l : List (Str × α)}, l.lookup x = some d → (x, d) ∈ l
  | [], h => by cases h
  | (y, e) :: l, h => by
    rw [List.lookup_cons] at h
    split at h
    · rename_i q
      cases h
      rw [eq_of_beq q]
      exact List.mem_cons_self ..
    · exact List.mem_cons_of_mem _ (lookup_memD h)
theorem gloIs_ok {K : PySem.W.Frag} {h : Heap} {mg : Str → Option Value} (X : K.In h) (G : h.Ns mainGlobals mg) {x : Str} {t : Value → Bool} (c : gloIs K x t = true) : ∃ u, mg x = some u ∧ t u = true := by
  unfold gloIs at c
  split at c
  · rename_i u e
    exact ⟨u, PySem.W.mg_of X G e, c⟩
  · cases c
theorem prOk_of {K : PySem.W.Frag} {h : Heap} {mg : Str → Option Value} {ds : List Dfn} {tb : List (Str × D)} {m : Mk} (X : K.In h) (G : h.Ns mainGlobals mg) (c : obsN ds tb m K = valN ds) (nd : (ds.map Dfn.nm).Nodup) (ck : ∀ d ∈ ds, ckD m d = true)
    (bn : ∀ d ∈ ds, d.Bn) (bk : ∀ p ∈ m.kwl, ∀ d ∈ ds, d.nm = p.1 → d.BnK p.2.1 p.2.2) (fns : m.fns.all (fun x => ds.any fun d => decide (d.nm = x)) = true) (dn : m.dn.all (fun x => (tb.lookup x).isSome) = true) : PrOk K mg ds tb m := by
  have c1 : (exB ds tb m K && ds.all fun d => d.at_.ok K) = true := congrArg (fun z : He.AlD => z.1) c
  have c2 : (ds.map fun d => He.fnW K d.at_.at_) = ds.map fun d => d.at_.val := congrArg (fun z : He.AlD => z.2) c
  unfold exB at c1
  simp only [Bool.and_eq_true, List.all_eq_true] at c1
  obtain ⟨⟨⟨⟨g1, g2⟩, g3⟩, g4⟩, g5⟩ := c1
  refine ⟨nd, ck, fun d hd => ?_, bn, bk, fun x hx => ?_, fun x d e => ?_, fun x hx => List.all_eq_true.mp dn x hx, fun x hx => He.free_ok X G (g2 x hx), fun x id e => ?_⟩
  · have e : He.fnW K d.at_.at_ = d.at_.val := List.map_inj_left.mp c2 d hd
    obtain ⟨fd, F⟩ := He.DefD.funD e (g5 d hd)
    exact ⟨_, fd, He.glo_ok X G (g1 d hd), F⟩
  · have := List.all_eq_true.mp fns x hx
    obtain ⟨d, hd, e⟩ := List.any_eq_true.mp this
    exact ⟨d, hd, of_decide_eq_true e⟩
  · obtain ⟨u, e1, e2⟩ := gloIs_ok X G (g3 _ (lookup_memD e))
    obtain ⟨v, r, p⟩ := dat_ok e2
    exact ⟨u, v, e1, r, p⟩
  · obtain ⟨u, e1, e2⟩ := gloIs_ok X G (g4 _ (lookup_memD e))
    cases u <;> simp only [bltIs] at e2 <;> first | (cases e2; done) | skip
    rw [e1, of_decide_eq_true e2]
end Dn

set_option maxHeartbeats 4000000
namespace Dn
open PySem PySem.Spec PyProof.Rows L2
/-! ### the law's call -/
theorem law_g {P : Program} {w : World} {K : PySem.W.Frag} {mg mb : Str → Option Value} {k : Nat} {fa a : Addr} {fd : FuncData} {x : Str} {sp : SpG} {s₁ : Shared} {vs : List Value} {ns : List Int}
    (KX : K.In s₁.heap) (hns : s₁.heap.Ns mainGlobals mg) (hb : s₁.heap.Ns builtinsNs mb) (hbb : ∀ x : Str, x ≠ "__name__" → mb x = bootBuiltins x) (hlim : s₁.heap.NoLimit) (hg : s₁.gens = #[])
    (ha : s₁.heap.get? a = some { cls := .type "list", data := .seq vs.toArray }) (hi : IntsAre vs ns) (hl : ns.length ≤ sizeLine) (hr : Room k callerA)
    (F : ∀ base : Heap, FnG P w K mg base k fa fd [x] sp) (hbind : ∀ (s : Shared) (u : Value), BindsTo s fd ⟨[u], []⟩ [(x, u)])
    (hsp : ∀ H : Hp, ScrAt K H a (ns.map V.int) → sp [.ref a] H fun v _ => v = .bl true) :
    codeAny (model P w) callerA (.call (.ref fa) ⟨[.ref a], []⟩) (fun r s' => r = .ok (.ret (.bool true)) ∧ OldK s₁.heap s'.heap ∧ s'.os = s₁.os ∧ AllBare s'.gens) s₁ := by
  have rv := vals_ints hi
  have lenV := hi.length
  have main : ∀ H : Hp, (∀ b, H b = none ∨ ∃ o xs, H b = some (.frz o (.lst xs))) → ScrAt K H a (ns.map V.int) → HOk P w H s₁.heap → (∀ b, H b ≠ none → b = a) → (H a ≠ none → K.lookup a = none) →
      codeAny (model P w) callerA (.call (.ref fa) ⟨[.ref a], []⟩) (fun r s' => r = .ok (.ret (.bool true)) ∧ OldK s₁.heap s'.heap ∧ s'.os = s₁.os ∧ AllBare s'.gens) s₁ := by
    intro H hO hS hok hA hK
    have free : ∀ {b : Addr} {o : Obj}, s₁.heap.get? b = some o → (b = a → ∃ es ep, o.data = .dict es ep) → H b = none := fun {b o} e d => Classical.byContradiction fun q => by
      have e' := hA b q
      subst e'
      obtain ⟨es, ep, d'⟩ := d rfl
      rw [ha] at e
      cases e
      cases d'
    have ns0 : ∀ {b : Addr} {m : Str → Option Value}, s₁.heap.Ns b m → (hidT s₁.heap H).Ns b m := fun {b m} ⟨o, es, ep, e, d, r⟩ => ⟨o, es, ep, hidT_get e (free e fun _ => ⟨es, ep, d⟩), d, r⟩
    have kb : K.In (hidT s₁.heap H) := fun b o e => hidT_get (KX b o e) (Classical.byContradiction fun q => by
      have e' := hA b q
      subst e'
      rw [hK q] at e
      cases e)
    have md : Mod K mg (hidT s₁.heap H) := ⟨kb, ns0 hns, ⟨mb, ns0 hb, hbb⟩, let ⟨mc, h1, h2⟩ := hlim; ⟨mc, ns0 h1, h2⟩⟩
    have at0 : Env0 P w K mg (hidT s₁.heap H) callerA [] s₁ H := ⟨rfl, md, fun b o e => of_hidT e, Nat.le_of_eq (hidT_size _ _), trivial, fun b hb => absurd (show b ∈ ([] : List Addr) from hb) (by simp), hok, .of_eq hg⟩
    refine codeAny_mono ((F _).run callerA [] s₁ H ⟨[.ref a], []⟩ [.ref a] [.ref a] _ hr rfl at0 (hbind s₁ (.ref a)) (.cons rfl .nil) (hsp H hS)) fun r s' h => ?_
    cases r with
    | error e => exact h.elim
    | ok fl =>
      cases fl with
      | ret u =>
        obtain ⟨v, H', os, bare, un, hok', r', q⟩ := h
        have q' : v = .bl true := q
        subst q'
        obtain rfl : u = Value.bool true := r'
        refine ⟨rfl, OldK.of_keep fun b o e => ?_, os, bare⟩
        cases q : H b with
        | none => exact un.keep b o e q (by intro z; exact absurd (show b ∈ ([] : List Addr) from z) (by simp)) (by simp)
        | some u =>
          rcases hO b with z | ⟨ob, xs, z⟩
          · rw [q] at z; cases z
          · obtain ⟨e1, _⟩ := hok b _ z
            obtain ⟨e2, _⟩ := hok' b _ (un.frzs b ob _ z)
            rw [e] at e1; cases e1
            exact e2
      | next => exact False.elim h
      | brk => exact False.elim h
      | cont => exact False.elim h
  cases hk : K.lookup a with
  | some o =>
    have e := KX a o hk
    rw [ha] at e
    cases e
    exact main (fun _ => none) (fun _ => .inl rfl) (.inr ⟨_, vs.toArray, _, hk, rfl, rfl, rfl, by rw [List.size_toArray, lenV]; exact hl, by simpa using rv⟩) (fun b u z => by cases (show (none : Option HO) = some u from z)) (fun b z => absurd rfl z) fun z => absurd rfl z
  | none =>
    have one : ∀ b, (if b = a then some (HO.frz { cls := .type "list", data := .seq vs.toArray } (.lst (ns.map V.int))) else none) ≠ none → b = a := fun b z => Classical.byContradiction fun q => z (if_neg q)
    refine main (fun b => if b = a then some (.frz { cls := .type "list", data := .seq vs.toArray } (.lst (ns.map V.int))) else none) (fun b => ?_) (.inl ⟨_, if_pos rfl⟩) (fun b u z => ?_) one fun _ => hk
    · by_cases q : b = a
      · exact .inr ⟨_, _, if_pos q⟩
      · exact .inl (if_neg q)
    · have q := one b (by rw [show (if b = a then some (HO.frz { cls := .type "list", data := .seq vs.toArray } (.lst (ns.map V.int))) else none) = some u from z]; simp)
      have z' := (if_pos q).symm.trans z
      cases z'
      subst q
      exact ⟨ha, by rw [List.length_map]; exact hl, vs, _, rv, ha⟩
/-- the walk of the law's def, from what it answers -/
theorem law_of {l : PySem.W.OpenLaw} {n j k : Nat} {q : Program} {loose : List Str} {XP : (Str → Option Value) → Heap → Prop} {d : DefRec} {ds : List Dfn} {tb : List (Str × D)} {m : Mk} {dl : Dfn} {x : Str}
    (hn : l.most = some n) (hn2 : n ≤ sizeLine) (hdf : d.params.defaults = []) (hr : Room k callerA) (hdl : dl ∈ ds) (hnm : d.name = dl.nm) (hps : dl.fc.ps = [x])
    (nd : (ds.map Dfn.nm).Nodup) (ck : ∀ d ∈ ds, ckD m d = true) (bn : ∀ d ∈ ds, d.Bn) (bk : ∀ p ∈ m.kwl, ∀ d ∈ ds, d.nm = p.1 → d.BnK p.2.1 p.2.2)
    (fns : m.fns.all (fun x => ds.any fun d => decide (d.nm = x)) = true) (dn : m.dn.all (fun x => (tb.lookup x).isSome) = true)
    (holds : ∀ ns : List Int, ns.length ≤ n → ∃ S, callN tb (tabOf ds) k dl.nm [.scr (ns.map .int)] [] = some (.bl true, S)) :
    PySem.W.WalkO q loose XP (hookN j ds tb m).says l.row.toRowW d [] (fun f vs => PySem.call f vs) := by
  refine Att.attach_call hn hdf fun w s₀ s₁ mg mb fa o pm cd doc a vs ns G Y ho hd hcd hmg hobj hints hlen hg => ?_
  obtain ⟨K, KX, c⟩ := Y
  have O : PrOk K mg ds tb m := prOk_of KX G.T.g c nd ck bn bk fns dn
  obtain ⟨f, fd, hm, F⟩ := O.fn dl hdl
  rw [hnm, hm] at hmg
  cases hmg
  have bs : ∀ (s : Shared) (u : Value), BindsTo s fd ⟨[u], []⟩ [(x, u)] := fun s u => by
    have := F.bindsA (ps := dl.fc.ps) (O.bn dl hdl) s [u] (by rw [hps]; rfl)
    rw [hps] at this
    exact this
  have FF := fun base => prog_ok (P := l.prog) (w := w) (base := base) O k dl fa fd hdl hm F
  rw [hps] at FF
  refine law_g KX G.T.g G.T.b G.T.builtins G.T.nolimit hg hobj hints (Nat.le_trans hlen hn2) hr FF bs fun H hS => ?_
  obtain ⟨S, e⟩ := holds ns hlen
  refine ⟨⟨[], []⟩, [], _, .bl true, S, ⟨rfl, List.nodup_nil, fun k mo a h => (by simp at h), fun a h => (by cases h), fun a h => (by cases h)⟩, Reps.cons (v := .ref a) (vs := []) ?_ Reps.nil, e, fun v H' μ' E R r => rep_bl r⟩
  simp only [Rep]
  refine ⟨a, _, rfl, hS, ?_⟩
  generalize ns = ms
  induction ms with
  | nil => exact Reps.nil
  | cons i r ih => exact Reps.cons mk_int ih
theorem name_one {ds : List Dfn} {d e : Dfn} (h : (ds.map Dfn.nm).Nodup) (hd : d ∈ ds) (he : e ∈ ds) (q : d.nm = e.nm) : d = e := by
  induction ds with
  | nil => cases hd
  | cons x r ih =>
    obtain ⟨h1, h2⟩ := List.nodup_cons.mp (show (x.nm :: r.map Dfn.nm).Nodup from h)
    rcases List.mem_cons.mp hd with rfl | hd'
    · rcases List.mem_cons.mp he with rfl | he'
      · rfl
      · exact absurd (List.mem_map.mpr ⟨e, he', q.symm⟩) h1
    · rcases List.mem_cons.mp he with rfl | he'
      · exact absurd (List.mem_map.mpr ⟨d, hd', q⟩) h1
      · exact ih h2 hd' he'
end Dn

set_option maxHeartbeats 4000000
namespace Dn
open PySem PySem.Spec PyProof.Rows L2
/-! ### evaluation in the order of the text: what follows is not looked into before its turn -/
def bnd {α β : Type} (o : Option α) [K : Inhabited (α → Option β)] : Option β := o.bind K.default
def mpd {α β : Type} (o : Option α) [K : Inhabited (α → β)] : Option β := o.map K.default
@[simp] theorem bnd_some {α β : Type} {a : α} {f : α → Option β} : @bnd α β (some a) ⟨f⟩ = f a := rfl
@[simp] theorem mpd_some {α β : Type} {a : α} {f : α → β} : @mpd α β (some a) ⟨f⟩ = some (f a) := rfl
def vr : En → Nat → Option D
  | [], _ => none
  | x :: _, 0 => x
  | _ :: r, i + 1 => vr r i
theorem vr_get : ∀ (δ : En) (i : Nat), vr δ i = match δ[i]? with
    | some (some d) => some d
    | _ => none
  | [], i => by simp [vr]
  | x :: r, 0 => by cases x <;> rfl
  | x :: r, i + 1 => by simp only [vr, List.getElem?_cons_succ]; exact vr_get r i
@[simp] theorem vr_0 {x : Option D} {r : En} : vr (x :: r) 0 = x := rfl
@[simp] theorem vr_s {x : Option D} {r : En} {i : Nat} : vr (x :: r) (i + 1) = vr r i := rfl
section
variable {G : GE} {δ : En} {S : Sto} {a b c lo hi e elt o' : C} {es kes ifs : List C} {t : CT} {ts : List CT} {it : CI} {i : Nat} {o op oq : Operator} {f : Str} {g T m : String} {d : D}
@[simp] theorem q_non : evE G .non δ S = some (.non, S) := by simp only [evE]
@[simp] theorem q_bl {b : Bool} : evE G (.bl b) δ S = some (.bl b, S) := by simp only [evE]
@[simp] theorem q_int {i : Int} : evE G (.int i) δ S = some (.int i, S) := by simp only [evE]
@[simp] theorem q_str {x : Str} : evE G (.str x) δ S = some (.str x, S) := by simp only [evE]
@[simp] theorem q_var : evE G (.var i) δ S = @mpd _ _ (vr δ i) ⟨fun d => (d, S)⟩ := by
  simp only [evE, mpd, vr_get]
  cases δ[i]? with
  | none => rfl
  | some o => cases o <;> rfl
@[simp] theorem q_glo {x : Str} : evE G (.glo x) δ S = @mpd _ _ (G.data.lookup x) ⟨fun d => (d, S)⟩ := by simp only [evE]; rfl
@[simp] theorem q_tup : evE G (.tup es) δ S = @bnd _ _ (evEs G es δ S) ⟨fun p => if p.1.length ≤ 16777216 then some (.tup p.1, p.2) else none⟩ := by simp only [evE]; rfl
@[simp] theorem q_lst {own : Option Bool} : evE G (.lst own es) δ S = @bnd _ _ (evEs G es δ S) ⟨fun p => if p.1.length ≤ 16777216 then (match own with
    | none => some (.lst p.1, p.2)
    | some kp => some (.ref p.2.length, p.2 ++ [.lst kp p.1])) else none⟩ := by simp only [evE]; rfl
@[simp] theorem q_dic : evE G .dic0 δ S = some (.dic [] [], S) := by simp only [evE]
@[simp] theorem q_bin : evE G (.bin o a b) δ S = @bnd _ _ (evE G a δ S) ⟨fun p => @bnd _ _ (evE G b δ p.2) ⟨fun q => @mpd _ _ (binD o (dr q.2 p.1) (dr q.2 q.1)) ⟨fun d => (d, q.2)⟩⟩⟩ := by simp only [evE]; rfl
@[simp] theorem q_neg : evE G (.neg a) δ S = @bnd _ _ (evE G a δ S) ⟨fun p => match p.1 with
    | .int i => some (.int (-i), p.2)
    | _ => none⟩ := by simp only [evE]; rfl
@[simp] theorem q_not : evE G (.not a) δ S = @bnd _ _ (evE G a δ S) ⟨fun p => @mpd _ _ (truD p.2 p.1) ⟨fun k => (.bl (!k), p.2)⟩⟩ := by simp only [evE]; rfl
@[simp] theorem q_cmp {o : CmpOp} : evE G (.cmp o a b) δ S = @bnd _ _ (evE G a δ S) ⟨fun p => @bnd _ _ (evE G b δ p.2) ⟨fun q => @mpd _ _ (cmpD q.2 o p.1 q.1) ⟨fun k => (.bl k, q.2)⟩⟩⟩ := by simp only [evE]; rfl
@[simp] theorem q_cmp2 {o o' : CmpOp} : evE G (.cmp2 o o' a b c) δ S = @bnd _ _ (evE G a δ S) ⟨fun p => @bnd _ _ (evE G b δ p.2) ⟨fun q => @bnd _ _ (cmpD q.2 o p.1 q.1) ⟨fun k =>
    if k = true then @bnd _ _ (evE G c δ q.2) ⟨fun r => @mpd _ _ (cmpD r.2 o' q.1 r.1) ⟨fun k' => (.bl k', r.2)⟩⟩ else some (.bl false, q.2)⟩⟩⟩ := by simp only [evE]; rfl
@[simp] theorem q_and : evE G (.and a b) δ S = @bnd _ _ (evE G a δ S) ⟨fun p => match p.1 with
    | .bl true => evE G b δ p.2
    | .bl false => some (.bl false, p.2)
    | _ => none⟩ := by simp only [evE]; rfl
@[simp] theorem q_or : evE G (.or a b) δ S = @bnd _ _ (evE G a δ S) ⟨fun p => match p.1 with
    | .bl false => evE G b δ p.2
    | .bl true => some (.bl true, p.2)
    | _ => none⟩ := by simp only [evE]; rfl
@[simp] theorem q_ite : evE G (.ite c a b) δ S = @bnd _ _ (evT G c δ S) ⟨fun p => if p.1 = true then evE G a δ p.2 else evE G b δ p.2⟩ := by simp only [evE]; rfl
@[simp] theorem q_call : evE G (.call f es) δ S = @bnd _ _ (evEs G es δ S) ⟨fun p => G.call f p.1 p.2⟩ := by simp only [evE]; rfl
@[simp] theorem q_callK {ks : List Str} : evE G (.callK f es ks kes) δ S = @bnd _ _ (evEs G es δ S) ⟨fun p => @bnd _ _ (evEs G kes δ p.2) ⟨fun q => @bnd _ _ (G.kw f es.length ks) ⟨fun pl =>
    @bnd _ _ (pick (p.1 ++ q.1) pl) ⟨fun ds => G.call f ds q.2⟩⟩⟩⟩ := by simp only [evE]; rfl
@[simp] theorem q_blt : evE G (.blt g es) δ S = @bnd _ _ (evEs G es δ S) ⟨fun p => @mpd _ _ (bltD p.2 g p.1) ⟨fun d => (d, p.2)⟩⟩ := by simp only [evE]; rfl
@[simp] theorem q_isi : evE G (.isi e T) δ S = @bnd _ _ (evE G e δ S) ⟨fun p => @mpd _ _ (kitB (tyD p.1) T) ⟨fun k => (.bl k, p.2)⟩⟩ := by simp only [evE]; rfl
@[simp] theorem q_meth : evE G (.meth m o' es) δ S = @bnd _ _ (evE G o' δ S) ⟨fun p => @bnd _ _ (evEs G es δ p.2) ⟨fun q => methD q.2 m p.1 q.1⟩⟩ := by simp only [evE]; rfl
@[simp] theorem q_ix : evE G (.ix a b) δ S = @bnd _ _ (evE G a δ S) ⟨fun p => @bnd _ _ (evE G b δ p.2) ⟨fun q => @mpd _ _ (ixD q.2 p.1 q.1) ⟨fun d => (d, q.2)⟩⟩⟩ := by simp only [evE]; rfl
@[simp] theorem q_sl : evE G (.sl a lo hi) δ S = @bnd _ _ (evE G a δ S) ⟨fun p => @bnd _ _ (evE G lo δ p.2) ⟨fun q => @bnd _ _ (evE G hi δ q.2) ⟨fun r =>
    @bnd _ _ (partD (isNonC lo) q.1) ⟨fun l => @bnd _ _ (partD (isNonC hi) r.1) ⟨fun h => @mpd _ _ (slD r.2 p.1 l h) ⟨fun d => (d, r.2)⟩⟩⟩⟩⟩⟩ := by simp only [evE]; rfl
/-- a comprehension: one turn -/
noncomputable def lcTurn (G : GE) (elt : C) (t : CT) (ifs : List C) (own : List Nat) (δ : En) (x : D) (S : Sto) : Option (Option D × Sto) :=
  @bnd _ _ (evT' G t x (wipeD δ own) S) ⟨fun e => @bnd _ _ (evIf G ifs e.1 e.2) ⟨fun b => if b.1 = true then @mpd _ _ (evE G elt e.1 b.2) ⟨fun y => (some y.1, y.2)⟩ else some (none, b.2)⟩⟩
@[simp] theorem q_lc {own : List Nat} : evE G (.lc elt t it ifs own) δ S = @bnd _ _ (evI G it δ S) ⟨fun w => @bnd _ _ (loopLc w.1 (lcTurn G elt t ifs own δ) w.1.xs w.2) ⟨fun q =>
      if q.1.length ≤ 16777216 then some (.lst q.1, q.2) else none⟩⟩ := by simp only [evE]; rfl
@[simp] theorem q_nil : evEs G [] δ S = some ([], S) := by simp only [evEs]
@[simp] theorem q_cons : evEs G (e :: es) δ S = @bnd _ _ (evE G e δ S) ⟨fun p => @mpd _ _ (evEs G es δ p.2) ⟨fun q => (p.1 :: q.1, q.2)⟩⟩ := by simp only [evEs]; rfl
@[simp] theorem qt_not : evT G (.not a) δ S = @mpd _ _ (evT G a δ S) ⟨fun p => (!p.1, p.2)⟩ := by simp only [evT]; rfl
@[simp] theorem qt_and : evT G (.and a b) δ S = @bnd _ _ (evT G a δ S) ⟨fun p => if p.1 = true then evT G b δ p.2 else some (false, p.2)⟩ := by simp only [evT]; rfl
@[simp] theorem qt_or : evT G (.or a b) δ S = @bnd _ _ (evT G a δ S) ⟨fun p => if p.1 = true then some (true, p.2) else evT G b δ p.2⟩ := by simp only [evT]; rfl
@[simp] theorem qt_bl {b : Bool} : evT G (.bl b) δ S = some (b, S) := by simp only [evT]
@[simp] theorem qt_ix : evT G (.ix a b) δ S = @bnd _ _ (evE G a δ S) ⟨fun p => @bnd _ _ (evE G b δ p.2) ⟨fun q => @bnd _ _ (ixD q.2 p.1 q.1) ⟨fun d => @mpd _ _ (truD q.2 d) ⟨fun k => (k, q.2)⟩⟩⟩⟩ := by simp only [evT]; rfl
@[simp] theorem qt_cmp {o : CmpOp} : evT G (.cmp o a b) δ S = @bnd _ _ (evE G a δ S) ⟨fun p => @bnd _ _ (evE G b δ p.2) ⟨fun q => @mpd _ _ (cmpD q.2 o p.1 q.1) ⟨fun k => (k, q.2)⟩⟩⟩ := by simp only [evT]; rfl
@[simp] theorem qt_cmp2 {o o' : CmpOp} : evT G (.cmp2 o o' a b c) δ S = @bnd _ _ (evE G a δ S) ⟨fun p => @bnd _ _ (evE G b δ p.2) ⟨fun q => @bnd _ _ (cmpD q.2 o p.1 q.1) ⟨fun k =>
    if k = true then @bnd _ _ (evE G c δ q.2) ⟨fun r => @mpd _ _ (cmpD r.2 o' q.1 r.1) ⟨fun k' => (k', r.2)⟩⟩ else some (false, q.2)⟩⟩⟩ := by simp only [evT]; rfl
@[simp] theorem qt_call : evT G (.call f es) δ S = @bnd _ _ (evEs G es δ S) ⟨fun p => @bnd _ _ (G.call f p.1 p.2) ⟨fun r => @mpd _ _ (truD r.2 r.1) ⟨fun k => (k, r.2)⟩⟩⟩ := by simp only [evT]; rfl
@[simp] theorem qt_blt : evT G (.blt g es) δ S = @bnd _ _ (evEs G es δ S) ⟨fun p => @bnd _ _ (bltD p.2 g p.1) ⟨fun d => @mpd _ _ (truD p.2 d) ⟨fun k => (k, p.2)⟩⟩⟩ := by simp only [evT]; rfl
@[simp] theorem qt_isi : evT G (.isi e T) δ S = @bnd _ _ (evE G e δ S) ⟨fun p => @mpd _ _ (kitB (tyD p.1) T) ⟨fun k => (k, p.2)⟩⟩ := by simp only [evT]; rfl
@[simp] theorem qt_var : evT G (.var i) δ S = @bnd _ _ (vr δ i) ⟨fun d => @mpd _ _ (truD S d) ⟨fun k => (k, S)⟩⟩ := by
  simp only [evT, bnd, vr_get]
  cases δ[i]? with
  | none => rfl
  | some o => cases o <;> rfl
@[simp] theorem qi_nil : evIf G [] δ S = some (true, S) := by simp only [evIf]
@[simp] theorem qi_one : evIf G [c] δ S = evT G c δ S := by simp only [evIf]
@[simp] theorem qg_name : evT' G (.name i) d δ S = some (δ.set i (some d), S) := by simp only [evT']
@[simp] theorem qg_tup {xs : List D} : evT' G (.tup ts) (.tup xs) δ S = evTs G ts xs δ S := by simp only [evT']
@[simp] theorem qg_sub : evT' G (.sub a b) d δ S = @bnd _ _ (evE G a δ S) ⟨fun p => @bnd _ _ (evE G b δ p.2) ⟨fun q => @mpd _ _ (setD q.2 p.1 q.1 d) ⟨fun S' => (δ, S')⟩⟩⟩ := by simp only [evT']; rfl
@[simp] theorem qg_nil : evTs G [] [] δ S = some (δ, S) := by simp only [evTs]
@[simp] theorem qg_cons {x : D} {xs : List D} : evTs G (t :: ts) (x :: xs) δ S = @bnd _ _ (evT' G t x δ S) ⟨fun p => evTs G ts xs p.1 p.2⟩ := by simp only [evTs]; rfl
@[simp] theorem qw_seq : evI G (.seq e) δ S = @bnd _ _ (evE G e δ S) ⟨fun p => @mpd _ _ (items p.2 p.1) ⟨fun xs => (⟨xs, srcOf p.1⟩, p.2)⟩⟩ := by simp only [evI]; rfl
@[simp] theorem qw_rng1 : evI G (.rng1 a) δ S = @bnd _ _ (evE G a δ S) ⟨fun p => match p.1 with
    | .int j => if smallI j = true then some (⟨rngD 0 j.toNat, none⟩, p.2) else none
    | _ => none⟩ := by simp only [evI]; rfl
@[simp] theorem qw_rng2 : evI G (.rng2 a b) δ S = @bnd _ _ (evE G a δ S) ⟨fun p => @bnd _ _ (evE G b δ p.2) ⟨fun q => match p.1, q.1 with
    | .int i, .int j => if smallI i = true ∧ smallI j = true then some (⟨rngD i (j - i).toNat, none⟩, q.2) else none
    | _, _ => none⟩⟩ := by simp only [evI]; rfl
@[simp] theorem qw_enm : evI G (.enm e) δ S = @bnd _ _ (evE G e δ S) ⟨fun p => match p.1 with
    | .lst xs => some (⟨enmD 0 xs, none⟩, p.2)
    | .scr xs => some (⟨enmD 0 xs, none⟩, p.2)
    | _ => none⟩ := by simp only [evI]; rfl
@[simp] theorem qw_zip : evI G (.zip a b) δ S = @bnd _ _ (evE G a δ S) ⟨fun p => @bnd _ _ (evE G b δ p.2) ⟨fun q => match p.1, q.1 with
    | .lst xs, .lst ys => some (⟨zipD xs ys, none⟩, q.2)
    | _, _ => none⟩⟩ := by simp only [evI]; rfl
variable {ss tt body : List CS} {s : CS}
@[simp] theorem x_expr : exS G (.expr e) δ S = @mpd _ _ (evE G e δ S) ⟨fun p => (.nx δ, p.2)⟩ := by simp only [exS]; rfl
@[simp] theorem x_asg : exS G (.asg t e) δ S = @bnd _ _ (evE G e δ S) ⟨fun p => @mpd _ _ (evT' G t p.1 δ p.2) ⟨fun q => (.nx q.1, q.2)⟩⟩ := by simp only [exS]; rfl
@[simp] theorem x_par {i j : Nat} : exS G (.par i j a b) δ S = @bnd _ _ (evE G a δ S) ⟨fun p => @mpd _ _ (evE G b δ p.2) ⟨fun q => (.nx ((δ.set i (some p.1)).set j (some q.1)), q.2)⟩⟩ := by simp only [exS]; rfl
@[simp] theorem x_ret : exS G (.ret e) δ S = @mpd _ _ (evE G e δ S) ⟨fun p => (.rt p.1, p.2)⟩ := by simp only [exS]; rfl
@[simp] theorem x_retN : exS G .retN δ S = some (.rt .non, S) := by simp only [exS]
@[simp] theorem x_if : exS G (.ife c ss tt) δ S = @bnd _ _ (evT G c δ S) ⟨fun p => if p.1 = true then exSs G ss δ p.2 else exSs G tt δ p.2⟩ := by simp only [exS]; rfl
/-- one turn of a for loop -/
noncomputable def forTurn (G : GE) (t : CT) (body : List CS) (x : D) (δ : En) (S : Sto) : Option (Fl × Sto) := @bnd _ _ (evT' G t x δ S) ⟨fun q => exSs G body q.1 q.2⟩
@[simp] theorem x_for : exS G (.for_ t it body) δ S = @bnd _ _ (evI G it δ S) ⟨fun w => loopFor w.1 (forTurn G t body) w.1.xs δ w.2⟩ := by simp only [exS]; rfl
@[simp] theorem x_whl : exS G (.whl c body) δ S = whD (fun δ S => evT G c δ S) (fun δ S => exSs G body δ S) δ S := by simp only [exS]
@[simp] theorem x_pass : exS G .pass δ S = some (.nx δ, S) := by simp only [exS]
@[simp] theorem x_brk : exS G .brk δ S = some (.bk δ, S) := by simp only [exS]
@[simp] theorem x_cont : exS G .cont δ S = some (.ct δ, S) := by simp only [exS]
@[simp] theorem x_nil : exSs G [] δ S = some (.nx δ, S) := by simp only [exSs]
@[simp] theorem x_cons : exSs G (s :: ss) δ S = @bnd _ _ (exS G s δ S) ⟨fun p => match p.1 with
    | .nx δ1 => exSs G ss δ1 p.2
    | f => some (f, p.2)⟩ := by simp only [exSs]; rfl
end
theorem q_of {tb : List (Str × D)} {P : List (Str × Fn)} {n : Nat} {f : Str} {ds : List D} {S : Sto} {fc : Fn} (h : P.lookup f = some fc) (hl : ds.length = fc.ps.length) :
    callN tb P (n + 1) f ds S = @bnd _ _ (exSs (geN tb P n) fc.body (startD fc.N.length ds) S) ⟨fun p => match p.1 with
      | .rt d => gc S d p.2
      | .nx _ => gc S .non p.2
      | _ => none⟩ := by
  unfold callN
  rw [h]
  simp only [Option.bind_some, hl, ↓reduceIte]
  rfl
theorem gc_same {S S' : Sto} {d : D} (h : S'.length ≤ S.length) : gc S d S' = some (d, S') := by
  unfold gc
  rw [if_pos h]
/-! ### bounds -/
theorem log_lt {n k : Nat} (h : n < 2 ^ k) (hk : 0 < k) : n.log2 < k := by
  by_cases h0 : n = 0
  · subst h0; simpa using hk
  · exact (Nat.log2_lt h0).mpr h
theorem mul_ok {i j : Int} (hi : i.natAbs < 2 ^ 400000) (hj : j.natAbs < 2 ^ 400000) : mulOk i j = true := by
  have h1 := log_lt hi (by omega)
  have h2 := log_lt hj (by omega)
  unfold mulOk
  rw [decide_eq_true_eq]
  omega
theorem nat_lt {i : Int} (h1 : 0 ≤ i) (h2 : i < 2 ^ 62) : i.natAbs < 2 ^ 400000 := by
  have : (2 : Nat) ^ 62 ≤ 2 ^ 400000 := Nat.pow_le_pow_right (by omega) (by omega)
  have h3 : i.natAbs < 2 ^ 62 := by omega
  omega
theorem div_ok {j : Int} (h1 : 0 < j) (h2 : j < 2 ^ 62) : divOk j = true := by
  have := log_lt (n := j.natAbs) (k := 62) (by omega) (by omega)
  unfold divOk
  simp only [Bool.and_eq_true, decide_eq_true_eq]
  omega
end Dn

set_option maxHeartbeats 4000000
namespace Dn
open PySem PySem.Spec PyProof.Rows L2
/-! ### classes of values; lists -/
@[simp] theorem kit_NoneType_int : kitB "NoneType" "int" = some false := by decide +kernel
@[simp] theorem kit_NoneType_str : kitB "NoneType" "str" = some false := by decide +kernel
@[simp] theorem kit_NoneType_bool : kitB "NoneType" "bool" = some false := by decide +kernel
@[simp] theorem kit_NoneType_tuple : kitB "NoneType" "tuple" = some false := by decide +kernel
@[simp] theorem kit_NoneType_list : kitB "NoneType" "list" = some false := by decide +kernel
@[simp] theorem kit_NoneType_dict : kitB "NoneType" "dict" = some false := by decide +kernel
@[simp] theorem kit_bool_int : kitB "bool" "int" = some true := by decide +kernel
@[simp] theorem kit_bool_str : kitB "bool" "str" = some false := by decide +kernel
@[simp] theorem kit_bool_bool : kitB "bool" "bool" = some true := by decide +kernel
@[simp] theorem kit_bool_tuple : kitB "bool" "tuple" = some false := by decide +kernel
@[simp] theorem kit_bool_list : kitB "bool" "list" = some false := by decide +kernel
@[simp] theorem kit_bool_dict : kitB "bool" "dict" = some false := by decide +kernel
@[simp] theorem kit_int_int : kitB "int" "int" = some true := by decide +kernel
@[simp] theorem kit_int_str : kitB "int" "str" = some false := by decide +kernel
@[simp] theorem kit_int_bool : kitB "int" "bool" = some false := by decide +kernel
@[simp] theorem kit_int_tuple : kitB "int" "tuple" = some false := by decide +kernel
@[simp] theorem kit_int_list : kitB "int" "list" = some false := by decide +kernel
@[simp] theorem kit_int_dict : kitB "int" "dict" = some false := by decide +kernel
@[simp] theorem kit_str_int : kitB "str" "int" = some false := by decide +kernel
@[simp] theorem kit_str_str : kitB "str" "str" = some true := by decide +kernel
@[simp] theorem kit_str_bool : kitB "str" "bool" = some false := by decide +kernel
@[simp] theorem kit_str_tuple : kitB "str" "tuple" = some false := by decide +kernel
@[simp] theorem kit_str_list : kitB "str" "list" = some false := by decide +kernel
@[simp] theorem kit_str_dict : kitB "str" "dict" = some false := by decide +kernel
@[simp] theorem kit_tuple_int : kitB "tuple" "int" = some false := by decide +kernel
@[simp] theorem kit_tuple_str : kitB "tuple" "str" = some false := by decide +kernel
@[simp] theorem kit_tuple_bool : kitB "tuple" "bool" = some false := by decide +kernel
@[simp] theorem kit_tuple_tuple : kitB "tuple" "tuple" = some true := by decide +kernel
@[simp] theorem kit_tuple_list : kitB "tuple" "list" = some false := by decide +kernel
@[simp] theorem kit_tuple_dict : kitB "tuple" "dict" = some false := by decide +kernel
@[simp] theorem kit_list_int : kitB "list" "int" = some false := by decide +kernel
@[simp] theorem kit_list_str : kitB "list" "str" = some false := by decide +kernel
@[simp] theorem kit_list_bool : kitB "list" "bool" = some false := by decide +kernel
@[simp] theorem kit_list_tuple : kitB "list" "tuple" = some false := by decide +kernel
@[simp] theorem kit_list_list : kitB "list" "list" = some true := by decide +kernel
@[simp] theorem kit_list_dict : kitB "list" "dict" = some false := by decide +kernel
@[simp] theorem kit_dict_int : kitB "dict" "int" = some false := by decide +kernel
@[simp] theorem kit_dict_str : kitB "dict" "str" = some false := by decide +kernel
@[simp] theorem kit_dict_bool : kitB "dict" "bool" = some false := by decide +kernel
@[simp] theorem kit_dict_tuple : kitB "dict" "tuple" = some false := by decide +kernel
@[simp] theorem kit_dict_list : kitB "dict" "list" = some false := by decide +kernel
@[simp] theorem kit_dict_dict : kitB "dict" "dict" = some true := by decide +kernel
theorem ok_none {xs : List D} {S : Sto} : okW ⟨xs, none⟩ S := fun k h => by cases h
/-- a comprehension whose turns leave the store -/
theorem loop_map {w : Wk} {turn : D → Sto → Option (Option D × Sto)} {S : Sto} {f : D → D} (hw : okW w S) : ∀ {xs : List D}, (∀ x ∈ xs, turn x S = some (some (f x), S)) → loopLc w turn xs S = some (xs.map f, S)
  | [], _ => by unfold loopLc; rw [if_pos hw]; rfl
  | x :: xs, h => by
    unfold loopLc
    rw [if_pos hw, h x (List.mem_cons_self ..), Option.bind_some, loop_map hw fun y hy => h y (List.mem_cons_of_mem _ hy)]
    rfl
theorem bls_map {α : Type} {g : α → Bool} : ∀ {xs : List α}, blsD (xs.map fun x => .bl (g x)) = some (xs.map g)
  | [] => rfl
  | x :: xs => by simp only [List.map_cons, blsD, bls_map, Option.map_some]
theorem ints_map {α : Type} {g : α → Int} : ∀ {xs : List α}, intsD (xs.map fun x => .int (g x)) = some (xs.map g)
  | [] => rfl
  | x :: xs => by simp only [List.map_cons, intsD, ints_map, Option.map_some]
theorem flat_map {α : Type} {g : α → Int} : ∀ {xs : List α}, (xs.map fun x => D.int (g x)).all flatD = true
  | [] => rfl
  | x :: xs => by simp only [List.map_cons, List.all_cons, flat_map, flatD, Bool.and_self]
theorem any_map {α : Type} {g : α → Int} {i : Int} : ∀ {xs : List α}, ((xs.map fun x => D.int (g x)).any fun y => eqV (vD y) (vD (.int i))) = decide (i ∈ xs.map g)
  | [] => rfl
  | x :: xs => by
    rw [List.map_cons, List.any_cons, any_map (xs := xs), List.map_cons]
    simp only [vD, eqV]
    by_cases h : g x = i
    · simp [h]
    · simp [h, Ne.symm h]
theorem in_ints {α : Type} {g : α → Int} {i : Int} {xs : List α} {S : Sto} : inD S (.int i) (.lst (xs.map fun x => .int (g x))) = some (decide (i ∈ xs.map g)) := by
  unfold inD
  simp only [items, Option.bind_some, flat_map, flatD, Bool.and_self, ↓reduceIte]
  rw [any_map]
theorem cut_tail {x : D} {xs : List D} : cutD (x :: xs) (some 1) none = xs := by
  unfold cutD
  simp [HT.sIx]
theorem at_nat {α : Type} {xs : List α} {i : Nat} (h : i < xs.length) : atI xs (i : Int) = some xs[i] := by
  unfold atI ixN
  rw [if_pos (by omega), if_pos (by omega)]
  simp [h]
end Dn

set_option maxHeartbeats 4000000
namespace K42
open PySem PySem.Spec PyProof.Rows L2 Dn
/-! ### the text: printed by gen.py -/
def top (i : Nat) : Stmt := PySem.Challenge.pw_bendatlas_k42_whole_picks_of_anything.main.body.getD i (.Pass ⟨0, 0, 0, 0⟩)
def c_p_is_picked : Fn := ⟨["value", "deep"], ["value", "deep", "each", "word", "many"], [
  .ife (.or (.cmp .Eq (.var 1) (.int 0)) (.or (.not (.isi (.var 0) "tuple")) (.or (.cmp .Eq (.var 0) (.tup [])) (.not (.isi (.ix (.var 0) (.int 0)) "str"))))) [.ret (.bl false)] [],
  .par 3 4 (.ix (.var 0) (.int 0)) (.blt "len" [.var 0]),
  .ife (.cmp .Eq (.var 3) (.str "all")) [.ret (.cmp .Eq (.var 4) (.int 1))] [],
  .ife (.cmp .Eq (.var 3) (.str "name")) [.ret (.and (.cmp .Eq (.var 4) (.int 2)) (.and (.isi (.ix (.var 0) (.int 1)) "str") (.cmp .In (.ix (.var 0) (.int 1)) (.glo "NAMES"))))] [],
  .ife (.or (.and (.cmp .In (.var 3) (.glo "ONES")) (.cmp .Eq (.var 4) (.int 2))) (.and (.cmp .In (.var 3) (.glo "TWOS")) (.cmp .Eq (.var 4) (.int 3)))) [.ret (.blt "all" [.lc (.call "is_picked" [.var 2, .bin .Sub (.var 1) (.int 1)]) (.name 2) (.seq (.sl (.var 0) (.int 1) .non)) [] [2]])] [],
  .ret (.bl false)]⟩
def d_p_is_picked : Dfn := ⟨"is_picked", c_p_is_picked, top 5⟩
def c_p_is_pick_by : Fn := ⟨["value"], ["value"], [
  .ret (.call "is_picked" [.var 0, .glo "MOST_DEEP"])]⟩
def d_p_is_pick_by : Dfn := ⟨"is_pick_by", c_p_is_pick_by, top 6⟩
def c_p_is_pick : Fn := ⟨["value"], ["value"], [
  .ret (.call "is_pick_by" [.var 0])]⟩
def d_p_is_pick : Dfn := ⟨"is_pick", c_p_is_pick, top 8⟩
def c_law_spring : Fn := ⟨["script"], ["script", "mixed", "cell", "own"], [
  .asg (.name 1) (.int 7121),
  .for_ (.name 2) (.seq (.sl (.var 0) .non (.int 63))) [.asg (.name 1) (.bin .Mod (.blt "int" [.bin .Add (.bin .Add (.bin .Mult (.var 1) (.int 48611)) (.bin .Mod (.blt "int" [.var 2]) (.int 2147483587))) (.int 11)]) (.int 2147483579))],
  .asg (.name 3) (.ite (.cmp .Gt (.blt "len" [.var 0]) (.int 0)) (.blt "int" [.ix (.var 0) (.int 0)]) (.int 0)),
  .ret (.lst (some true) [.ite (.or (.cmp .Lt (.var 3) (.int 0)) (.cmp .GtE (.var 3) (.bin .Pow (.int 10) (.int 14)))) (.blt "abs" [.var 3]) (.int 0), .var 1, .int 0])]⟩
def d_law_spring : Dfn := ⟨"_law_spring", c_law_spring, top 10⟩
def c_law_dip : Fn := ⟨["well", "many"], ["well", "many", "seed", "figure"], [
  .ife (.cmp .Gt (.ix (.var 0) (.int 0)) (.int 0)) [.asg (.tup [(.sub (.var 0) (.int 0)), (.name 3)]) (.blt "divmod" [.ix (.var 0) (.int 0), .var 1]), .ret (.var 3)] [],
  .asg (.sub (.var 0) (.int 2)) (.bin .Add (.ix (.var 0) (.int 2)) (.int 1)),
  .asg (.name 2) (.bin .Mod (.blt "int" [.bin .Add (.ix (.var 0) (.int 1)) (.bin .Mult (.int 52361) (.ix (.var 0) (.int 2)))]) (.int 2147483579)),
  .asg (.sub (.var 0) (.int 1)) (.bin .Mod (.blt "int" [.bin .Add (.bin .Mult (.var 2) (.bin .Add (.bin .Mod (.blt "int" [.var 2]) (.int 4999)) (.int 43013))) (.bin .Mult (.int 37) (.ix (.var 0) (.int 2)))]) (.int 2147483579)),
  .ret (.bin .Mod (.blt "int" [.bin .FloorDiv (.ix (.var 0) (.int 1)) (.int 613)]) (.var 1))]⟩
def d_law_dip : Dfn := ⟨"_law_dip", c_law_dip, top 11⟩
def c_law_any : Fn := ⟨["well", "some"], ["well", "some"], [
  .ret (.ix (.var 1) (.call "_law_dip" [.var 0, .blt "len" [.var 1]]))]⟩
def d_law_any : Dfn := ⟨"_law_any", c_law_any, top 12⟩
def c_law_deep : Fn := ⟨["thing"], ["thing", "part", "many", "below", "word", "rest"], [
  .ife (.or (.not (.isi (.var 0) "tuple")) (.or (.cmp .Eq (.blt "len" [.var 0]) (.int 0)) (.not (.isi (.ix (.var 0) (.int 0)) "str")))) [.ret (.int 0)] [],
  .par 4 5 (.ix (.var 0) (.int 0)) (.sl (.var 0) (.int 1) .non),
  .ife (.cmp .Eq (.var 4) (.str "name")) [.ret (.blt "int" [(.and (.cmp .Eq (.blt "len" [.var 5]) (.int 1)) (.and (.isi (.ix (.var 5) (.int 0)) "str") (.cmp .In (.ix (.var 5) (.int 0)) (.tup [.str "A", .str "B", .str "C", .str "D"]))))])] [],
  .ife (.cmp .Eq (.var 4) (.str "all")) [.ret (.blt "int" [.cmp .Eq (.blt "len" [.var 5]) (.int 0)])] [],
  .asg (.name 2) (.ite (.cmp .In (.var 4) (.tup [.str "not", .str "rim", .str "inner", .str "closure"])) (.int 1) (.ite (.cmp .In (.var 4) (.tup [.str "both", .str "either", .str "less"])) (.int 2) (.int 0))),
  .ife (.or (.cmp .Eq (.var 2) (.int 0)) (.cmp .NotEq (.blt "len" [.var 5]) (.var 2))) [.ret (.int 0)] [],
  .asg (.name 3) (.lc (.call "_law_deep" [.var 1]) (.name 1) (.seq (.var 5)) [] [1]),
  .ret (.ite (.cmp .In (.int 0) (.var 3)) (.int 0) (.bin .Add (.int 1) (.blt "max" [.var 3])))]⟩
def d_law_deep : Dfn := ⟨"_law_deep", c_law_deep, top 13⟩
def c_law_pick : Fn := ⟨["well", "deep"], ["well", "deep", "one", "two", "word"], [
  .ife (.cmp .Lt (.var 1) (.int 2)) [.ret (.ite (.cmp .Gt (.call "_law_dip" [.var 0, .int 4]) (.int 0)) (.tup [.str "name", .call "_law_any" [.var 0, .tup [.str "A", .str "B", .str "C", .str "D"]]]) (.tup [.str "all"]))] [],
  .asg (.name 2) (.call "_law_pick" [.var 0, .bin .Sub (.var 1) (.int 1)]),
  .ife (.cmp .Eq (.call "_law_dip" [.var 0, .int 2]) (.int 0)) [.ret (.tup [.call "_law_any" [.var 0, .tup [.str "not", .str "rim", .str "inner", .str "closure"]], .var 2])] [],
  .asg (.name 3) (.call "_law_pick" [.var 0, .bin .Add (.int 1) (.call "_law_dip" [.var 0, .blt "min" [.bin .Sub (.var 1) (.int 1), .int 3]])]),
  .asg (.name 4) (.call "_law_any" [.var 0, .tup [.str "both", .str "either", .str "less"]]),
  .ret (.ite (.cmp .Eq (.call "_law_dip" [.var 0, .int 2]) (.int 0)) (.tup [.var 4, .var 2, .var 3]) (.tup [.var 4, .var 3, .var 2]))]⟩
def d_law_pick : Dfn := ⟨"_law_pick", c_law_pick, top 14⟩
def c_law_odd : Fn := ⟨["well"], ["well", "some", "more", "last", "far"], [
  .asg (.name 1) (.tup [.tup [.str "all"], .tup [.str "name", .str "D"], .non, .int 0, .bl true, .bl false, .str "", .str "A", .str "all", .str "name", .tup [], .lst none [], .dic0, .tup [.str "all", .tup []], .lst none [.str "all"]]),
  .asg (.name 2) (.tup [.tup [.str "name"], .tup [.str "name", .str "E"], .tup [.str "name", .str "a"], .tup [.str "name", .str ""], .tup [.str "name", .str "AB"], .tup [.str "name", .str "A", .str "B"], .tup [.str "A"]]),
  .asg (.name 3) (.tup [.tup [.str "name", .tup [.str "A"]], .tup [.str "name", .lst none [.str "A"]], .tup [.lst none [.str "name"], .str "A"], .tup [.dic0, .str "A"], .tup [.str "All"], .tup [.tup [.str "all"]], .tup [.str "not"], .tup [.str "both"]]),
  .asg (.name 4) (.tup [.tup [.str "name", .int 1], .tup [.str "name", .non], .tup [.str "name", .bl true], .tup [.int 1, .str "A"], .tup [.non], .tup [.str "rim", .str "A"], .tup [.str "not", .str "all"], .tup [.str "less", .int 0]]),
  .ret (.call "_law_any" [.var 0, .bin .Add (.bin .Add (.bin .Add (.var 1) (.var 2)) (.var 3)) (.var 4)])]⟩
def d_law_odd : Dfn := ⟨"_law_odd", c_law_odd, top 15⟩
def c_law_bent : Fn := ⟨["well", "thing"], ["well", "thing", "kind", "at", "words"], [
  .ife (.and (.cmp .NotEq (.ix (.var 1) (.int 0)) (.str "name")) (.and (.cmp .Gt (.blt "len" [.var 1]) (.int 1)) (.cmp .Gt (.call "_law_dip" [.var 0, .int 3]) (.int 0)))) [.asg (.name 3) (.bin .Add (.int 1) (.call "_law_dip" [.var 0, .bin .Sub (.blt "len" [.var 1]) (.int 1)])), .ret (.bin .Add (.bin .Add (.sl (.var 1) .non (.var 3)) (.tup [.call "_law_bent" [.var 0, .ix (.var 1) (.var 3)]])) (.sl (.var 1) (.bin .Add (.var 3) (.int 1)) .non))] [],
  .asg (.name 2) (.call "_law_dip" [.var 0, .int 9]),
  .ife (.cmp .Eq (.var 2) (.int 0)) [.ret (.blt "list" [.var 1])] [],
  .ife (.cmp .Eq (.var 2) (.int 1)) [.ret (.sl (.var 1) .non (.neg (.int 1)))] [],
  .ife (.cmp .Eq (.var 2) (.int 2)) [.ret (.bin .Add (.var 1) (.sl (.var 1) (.neg (.int 1)) .non))] [],
  .ife (.cmp .Eq (.var 2) (.int 3)) [.ret (.bin .Add (.var 1) (.tup [.tup [.str "all"]]))] [],
  .ife (.cmp .Eq (.var 2) (.int 4)) [.ret (.tup [.var 1])] [],
  .ife (.cmp .Lt (.var 2) (.int 7)) [.asg (.name 4) (.tup [.str "not", .str "rim", .str "inner", .str "closure", .str "both", .str "either", .str "less", .str "all", .str "name", .str "Not", .str "pick", .str ""]), .ret (.bin .Add (.tup [.call "_law_any" [.var 0, .var 4]]) (.sl (.var 1) (.int 1) .non))] [],
  .ret (.call "_law_odd" [.var 0])]⟩
def d_law_bent : Dfn := ⟨"_law_bent", c_law_bent, top 16⟩
def c_law_thing : Fn := ⟨["well"], ["well", "kind", "thing"], [
  .asg (.name 1) (.call "_law_dip" [.var 0, .int 10]),
  .ife (.cmp .Eq (.var 1) (.int 0)) [.ret (.call "_law_odd" [.var 0])] [],
  .asg (.name 2) (.call "_law_pick" [.var 0, .call "_law_any" [.var 0, .tup [.int 1, .int 2, .int 3, .int 4, .int 5, .int 6, .int 6, .int 6, .int 7, .int 7, .int 8]]]),
  .ret (.ite (.cmp .Lt (.var 1) (.int 4)) (.var 2) (.call "_law_bent" [.var 0, .var 2]))]⟩
def d_law_thing : Dfn := ⟨"_law_thing", c_law_thing, top 17⟩
def c_p_law : Fn := ⟨["script"], ["script", "well", "lap", "thing", "due", "told"], [
  .asg (.name 1) (.call "_law_spring" [.var 0]),
  .for_ (.name 2) (.rng1 (.int 3)) [.asg (.name 3) (.call "_law_thing" [.var 1]), .asg (.name 4) (.cmp2 .Lt .LtE (.int 0) (.call "_law_deep" [.var 3]) (.int 6)), .asg (.name 5) (.ite (.cmp .Eq (.call "_law_dip" [.var 1, .int 4]) (.int 0)) (.callK "is_pick" [] ["value"] [.var 3]) (.call "is_pick" [.var 3])), .ife (.cmp .NotEq (.blt "repr" [.var 5]) (.blt "repr" [.var 4])) [.ret (.bl false)] []],
  .ret (.bl true)]⟩
def d_p_law : Dfn := ⟨"law", c_p_law, top 18⟩
def defs : List Dfn := [d_p_is_picked, d_p_is_pick_by, d_p_is_pick, d_law_spring, d_law_dip, d_law_any, d_law_deep, d_law_pick, d_law_odd, d_law_bent, d_law_thing, d_p_law]
def tb : List (Str × D) := [("NAMES", .tup [.str "A", .str "B", .str "C", .str "D"]),
  ("TWOS", .tup [.str "both", .str "either", .str "less"]),
  ("ONES", .tup [.str "not", .str "rim", .str "inner", .str "closure"]),
  ("MOST_DEEP", .int 6)]
def mk : Mk := ⟨["isinstance", "str", "tuple", "len", "all", "int", "abs", "divmod", "max", "min", "list", "range", "repr"],
  [],
  ["is_picked", "is_pick_by", "_law_dip", "_law_deep", "_law_any", "_law_pick", "_law_bent", "_law_odd", "_law_spring", "_law_thing", "is_pick"],
  [("is_pick", 0, ["value"])],
  ["NAMES", "TWOS", "ONES", "MOST_DEEP"]⟩
theorem ck_p_is_picked : ckD mk d_p_is_picked = true := by decide +kernel
theorem ck_p_is_pick_by : ckD mk d_p_is_pick_by = true := by decide +kernel
theorem ck_p_is_pick : ckD mk d_p_is_pick = true := by decide +kernel
theorem ck_law_spring : ckD mk d_law_spring = true := by decide +kernel
theorem ck_law_dip : ckD mk d_law_dip = true := by decide +kernel
theorem ck_law_any : ckD mk d_law_any = true := by decide +kernel
theorem ck_law_deep : ckD mk d_law_deep = true := by decide +kernel
theorem ck_law_pick : ckD mk d_law_pick = true := by decide +kernel
theorem ck_law_odd : ckD mk d_law_odd = true := by decide +kernel
theorem ck_law_bent : ckD mk d_law_bent = true := by decide +kernel
theorem ck_law_thing : ckD mk d_law_thing = true := by decide +kernel
theorem ck_p_law : ckD mk d_p_law = true := by decide +kernel
theorem ck : ∀ d ∈ defs, ckD mk d = true := by
  simp only [defs, List.forall_mem_cons]
  exact ⟨ck_p_is_picked, ck_p_is_pick_by, ck_p_is_pick, ck_law_spring, ck_law_dip, ck_law_any, ck_law_deep, ck_law_pick, ck_law_odd, ck_law_bent, ck_law_thing, ck_p_law, fun _ h => nomatch h⟩
theorem bn_p_is_picked : d_p_is_picked.Bn := fun _ _ _ _ _ _ us hl => match us, hl with | [_, _], _ => rfl
theorem bn_p_is_pick_by : d_p_is_pick_by.Bn := fun _ _ _ _ _ _ us hl => match us, hl with | [_], _ => rfl
theorem bn_p_is_pick : d_p_is_pick.Bn := fun _ _ _ _ _ _ us hl => match us, hl with | [_], _ => rfl
theorem bn_law_spring : d_law_spring.Bn := fun _ _ _ _ _ _ us hl => match us, hl with | [_], _ => rfl
theorem bn_law_dip : d_law_dip.Bn := fun _ _ _ _ _ _ us hl => match us, hl with | [_, _], _ => rfl
theorem bn_law_any : d_law_any.Bn := fun _ _ _ _ _ _ us hl => match us, hl with | [_, _], _ => rfl
theorem bn_law_deep : d_law_deep.Bn := fun _ _ _ _ _ _ us hl => match us, hl with | [_], _ => rfl
theorem bn_law_pick : d_law_pick.Bn := fun _ _ _ _ _ _ us hl => match us, hl with | [_, _], _ => rfl
theorem bn_law_odd : d_law_odd.Bn := fun _ _ _ _ _ _ us hl => match us, hl with | [_], _ => rfl
theorem bn_law_bent : d_law_bent.Bn := fun _ _ _ _ _ _ us hl => match us, hl with | [_, _], _ => rfl
theorem bn_law_thing : d_law_thing.Bn := fun _ _ _ _ _ _ us hl => match us, hl with | [_], _ => rfl
theorem bn_p_law : d_p_law.Bn := fun _ _ _ _ _ _ us hl => match us, hl with | [_], _ => rfl
theorem bn : ∀ d ∈ defs, d.Bn := by
  simp only [defs, List.forall_mem_cons]
  exact ⟨bn_p_is_picked, bn_p_is_pick_by, bn_p_is_pick, bn_law_spring, bn_law_dip, bn_law_any, bn_law_deep, bn_law_pick, bn_law_odd, bn_law_bent, bn_law_thing, bn_p_law, fun _ h => nomatch h⟩
theorem bk_0 : d_p_is_pick.BnK 0 ["value"] := fun _ _ _ _ _ _ us ws hl hk => match us, ws, hl, hk with | [], [_], _, _ => rfl
theorem nd : (defs.map Dfn.nm).Nodup := by decide +kernel
theorem bk : ∀ p ∈ mk.kwl, ∀ d ∈ defs, d.nm = p.1 → d.BnK p.2.1 p.2.2 := by
  intro p hp d hd e
  simp only [mk, List.mem_cons, List.not_mem_nil, or_false] at hp
  rcases hp with rfl
  · rw [show d = d_p_is_pick from name_one nd hd (by simp only [defs, List.mem_cons, true_or, or_true]) e]; exact bk_0
end K42

set_option maxHeartbeats 4000000
namespace K42
open PySem PySem.Spec PyProof.Rows L2 Dn
abbrev PT : List (Str × Fn) := tabOf defs
theorem l_dip : PT.lookup ("_law_dip" : Str) = some c_law_dip := tab_get nd (d := d_law_dip) (by simp only [defs, List.mem_cons, true_or, or_true])
def W (a b c : Int) : Sto := [.lst true [.int a, .int b, .int c]]
theorem dip1 {n : Nat} {a b c m : Int} (ha : 0 < a) (hm : 0 < m) (hm2 : m < 1073741824) : callN tb PT (n + 1) "_law_dip" [.ref 0, .int m] (W a b c) = some (.int (a % m), W (a / m) b c) := by
  rw [q_of l_dip rfl]
  simp only [c_law_dip, W]
  simp [W, startD, MO.xs, gc_same, ixD, items, cmpD, atI, bltD, setD, ixN, ha, hm, hm2]
theorem dip2 {n : Nat} {a b c m : Int} (ha : ¬ 0 < a) (hm : 0 < m) (hb : 0 ≤ b ∧ b < 2147483648) (hc : 0 ≤ c ∧ c < 1000000000000) : ∃ b', 0 ≤ b' ∧ b' < 2147483648 ∧ callN tb PT (n + 1) "_law_dip" [.ref 0, .int m] (W a b c) = some (.int (b' / 613 % m), W a b' (c + 1)) := by
  have m1 : mulOk 52361 (c + 1) = true := mul_ok (nat_lt (by omega) (by omega)) (nat_lt (by omega) (by omega))
  have m2 : mulOk 37 (c + 1) = true := mul_ok (nat_lt (by omega) (by omega)) (nat_lt (by omega) (by omega))
  generalize hs : (b + 52361 * (c + 1)) % 2147483579 = s
  have m3 : mulOk s (s % 4999 + 43013) = true := mul_ok (nat_lt (by omega) (by omega)) (nat_lt (by omega) (by omega))
  have d1 : divOk 613 = true := div_ok (by omega) (by omega)
  refine ⟨(s * (s % 4999 + 43013) + 37 * (c + 1)) % 2147483579, by omega, by omega, ?_⟩
  rw [q_of l_dip rfl]
  simp only [c_law_dip, W]
  simp [W, startD, MO.xs, gc_same, ixD, items, cmpD, atI, bltD, setD, ixN, binD, dr, ha, hm, hs, m1, m2, m3, d1]
def Wl (j : Nat) (S : Sto) : Prop := ∃ a b c : Int, S = W a b c ∧ 0 ≤ b ∧ b < 2147483648 ∧ 0 ≤ c ∧ c ≤ j
theorem dip {n j : Nat} {S : Sto} {m : Int} (h : Wl j S) (hj : j < 100000000) (hm : 0 < m) (hm2 : m < 1073741824) : ∃ r S', callN tb PT (n + 1) "_law_dip" [.ref 0, .int m] S = some (.int r, S') ∧ 0 ≤ r ∧ r < m ∧ Wl (j + 1) S' := by
  obtain ⟨a, b, c, rfl, h1, h2, h3, h4⟩ := h
  by_cases ha : 0 < a
  · exact ⟨_, _, dip1 ha hm hm2, Int.emod_nonneg _ (by omega), Int.emod_lt_of_pos _ hm, _, _, _, rfl, h1, h2, h3, by omega⟩
  · obtain ⟨b', g1, g2, e⟩ := dip2 (n := n) ha hm ⟨h1, h2⟩ ⟨h3, by omega⟩
    exact ⟨_, _, e, Int.emod_nonneg _ (by omega), Int.emod_lt_of_pos _ hm, _, _, _, rfl, g1, g2, by omega, by omega⟩
end K42

set_option maxHeartbeats 4000000
namespace K42
open PySem PySem.Spec PyProof.Rows L2 Dn
theorem l_picked : PT.lookup ("is_picked" : Str) = some c_p_is_picked := tab_get nd (d := d_p_is_picked) (by simp only [defs, List.mem_cons, true_or, or_true])
theorem l_deep : PT.lookup ("_law_deep" : Str) = some c_law_deep := tab_get nd (d := d_law_deep) (by simp only [defs, List.mem_cons, true_or, or_true])
def nameB (x : Str) : Bool := ("A" : Str) == x || (("B" : Str) == x || (("C" : Str) == x || ("D" : Str) == x))
def oneB (x : Str) : Bool := ("not" : Str) == x || (("rim" : Str) == x || (("inner" : Str) == x || ("closure" : Str) == x))
def twoB (x : Str) : Bool := ("both" : Str) == x || (("either" : Str) == x || ("less" : Str) == x)
def pickB : Nat → D → Bool
  | 0, _ => false
  | k + 1, .tup (.str w :: rest) => if w = "all" then rest.isEmpty else if w = "name" then (match rest with
    | [.str x] => nameB x
    | _ => false) else if (oneB w && rest.length == 1 || twoB w && rest.length == 2) = true then rest.all (pickB k) else false
  | _ + 1, _ => false
theorem tb_names : tb.lookup ("NAMES" : Str) = some (.tup [.str "A", .str "B", .str "C", .str "D"]) := by kernel_rfl
theorem tb_ones : tb.lookup ("ONES" : Str) = some (.tup [.str "not", .str "rim", .str "inner", .str "closure"]) := by kernel_rfl
theorem tb_twos : tb.lookup ("TWOS" : Str) = some (.tup [.str "both", .str "either", .str "less"]) := by kernel_rfl
theorem in_names {x : Str} {S : Sto} : inD S (.str x) (.tup [.str "A", .str "B", .str "C", .str "D"]) = some (nameB x) := by
  simp [inD, items, flatD, vD, eqV, nameB]
theorem in_ones {x : Str} {S : Sto} : inD S (.str x) (.tup [.str "not", .str "rim", .str "inner", .str "closure"]) = some (oneB x) := by
  simp [inD, items, flatD, vD, eqV, oneB]
theorem in_twos {x : Str} {S : Sto} : inD S (.str x) (.tup [.str "both", .str "either", .str "less"]) = some (twoB x) := by
  simp [inD, items, flatD, vD, eqV, twoB]
theorem picked_eq : ∀ (k n : Nat) (d : D) (S : Sto), callN tb PT (n + k + 1) "is_picked" [d, .int k] S = some (.bl (pickB k d), S)
  | 0, n, d, S => by
    rw [q_of l_picked rfl]
    simp only [c_p_is_picked]
    simp [startD, gc_same, cmpD, dr, eqD, flatD, scal, vD, pickB]
  | k + 1, n, d, S => by
    rw [q_of l_picked rfl]
    simp only [c_p_is_picked]
    have hk : ((k : Int) + 1 = 0) = False := by simp; omega
    cases d with
    | tup xs =>
      cases xs with
      | nil => simp [startD, gc_same, cmpD, dr, eqD, flatD, scal, vD, pickB, tyD, hk, eqP, pd, pds]
      | cons h rest =>
        cases h with
        | str w =>
          by_cases ha : w = "all"
          · subst ha
            simp [startD, gc_same, cmpD, dr, eqD, flatD, scal, vD, pickB, tyD, hk, ixD, items, atI, ixN, bltD]
            cases rest with
            | nil => rfl
            | cons x r => simp; omega
          by_cases hn : w = "name"
          · subst hn
            match rest with
            | [] => simp [startD, gc_same, cmpD, dr, eqD, flatD, scal, vD, pickB, tyD, hk, ixD, items, atI, ixN, bltD, ha]
            | [x] => cases x with
              | str z => simp [startD, gc_same, cmpD, dr, eqD, flatD, scal, vD, pickB, tyD, hk, ixD, items, atI, ixN, bltD, ha, tb_names, in_names]
              | _ => simp [startD, gc_same, cmpD, dr, eqD, flatD, scal, vD, pickB, tyD, hk, ixD, items, atI, ixN, bltD, ha]
            | x :: y :: r =>
              have hl : ((r.length : Int) + 1 + 1 + 1 = 2) = False := by simp; omega
              simp [startD, gc_same, cmpD, dr, eqD, flatD, scal, vD, pickB, tyD, hk, ixD, items, atI, ixN, bltD, ha, hl]
          have lp : ∀ q : Option D, loopLc ⟨rest, none⟩ (lcTurn (geN tb PT (n + (k + 1))) (.call "is_picked" [.var 2, .bin .Sub (.var 1) (.int 1)]) (.name 2) [] [2] [some (.tup (.str w :: rest)), some (.int ((k : Int) + 1)), none, some (.str w), q]) rest S = some (rest.map fun x => .bl (pickB k x), S) := fun q => by
            refine loop_map ok_none fun x hx => ?_
            have pk : callN tb PT (n + (k + 1)) "is_picked" [x, .int k] S = some (.bl (pickB k x), S) := picked_eq k n x S
            simp [lcTurn, wipeD, binD, dr, pk]
          have key : ∀ m : Nat, rest.length = m → callN tb PT (n + (k + 1) + 1) "is_picked" [.tup (.str w :: rest), .int ((k + 1 : Nat) : Int)] S = some (.bl (if (oneB w && m == 1 || twoB w && m == 2) = true then rest.all (pickB k) else false), S) := by
            intro m hm
            rw [q_of l_picked rfl]
            simp only [c_p_is_picked]
            have e2 : ((m : Int) + 1 = 2) = (m = 1) := by simp; omega
            have e3 : ((m : Int) + 1 = 3) = (m = 2) := by simp; omega
            have hm3 : rest.length ≤ 16777216 ∨ (oneB w && m == 1 || twoB w && m == 2) = false := by
              by_cases h : rest.length ≤ 16777216
              · exact .inl h
              · refine .inr ?_
                have h1 : (m == 1) = false := by simp; omega
                have h2 : (m == 2) = false := by simp; omega
                rw [h1, h2]; simp
            cases h1 : oneB w <;> cases h2 : twoB w <;> by_cases h3 : m = 1 <;> by_cases h4 : m = 2 <;> simp [h1, h2, h3, h4] at hm3 <;>
              simp [startD, gc_same, cmpD, dr, eqD, flatD, scal, vD, tyD, hk, ixD, items, atI, ixN, bltD, ha, hn, tb_ones, tb_twos, in_ones, in_twos, slD, partD, isNonC, cut_tail, srcOf, lp, hm, e2, e3, h1, h2, h3, h4, hm3, litems, bls_map]
          have := key _ rfl
          rw [q_of l_picked rfl] at this
          simp only [c_p_is_picked] at this
          rw [this]
          simp [pickB, ha, hn]
        | _ => simp [startD, gc_same, cmpD, dr, eqD, flatD, scal, vD, pickB, tyD, hk, ixD, items, atI, ixN]
    | _ => simp [startD, gc_same, cmpD, dr, eqD, flatD, scal, vD, pickB, tyD, hk]
end K42

set_option maxHeartbeats 4000000
namespace K42
open PySem PySem.Spec PyProof.Rows L2 Dn
def manyOf (w : Str) : Nat := if oneB w = true then 1 else if twoB w = true then 2 else 0
def mx : List Int → Int
  | [] => 0
  | n :: r => r.foldl max n
def deepOf (xs : List D) (ls : List Int) : Int := match xs with
  | .str w :: rest => if w = "name" then (match rest with
      | [.str x] => if nameB x = true then 1 else 0
      | _ => 0) else if w = "all" then (if rest.isEmpty = true then 1 else 0)
    else if manyOf w = 0 ∨ rest.length ≠ manyOf w then 0 else if 0 ∈ ls.tail then 0 else 1 + mx ls.tail
  | _ => 0
mutual
def deepD : D → Int
  | .tup xs => deepOf xs (deepL xs)
  | _ => 0
def deepL : List D → List Int
  | [] => []
  | d :: ds => deepD d :: deepL ds
end
theorem deepL_eq : ∀ xs : List D, deepL xs = xs.map deepD
  | [] => by simp only [deepL, List.map_nil]
  | d :: ds => by simp only [deepL, List.map_cons, deepL_eq ds]
mutual
def ht : D → Nat
  | .tup xs => hts xs + 1
  | _ => 0
def hts : List D → Nat
  | [] => 0
  | d :: ds => max (ht d) (hts ds)
end
theorem ht_mem : ∀ {xs : List D} {x : D}, x ∈ xs → ht x ≤ hts xs
  | d :: ds, x, h => by
    simp only [hts]
    rcases List.mem_cons.mp h with rfl | h
    · omega
    · have := ht_mem h; omega
theorem one_two {w : Str} (h : oneB w = true) : twoB w = false := by
  simp only [oneB, Bool.or_eq_true, beq_iff_eq] at h
  rcases h with rfl | rfl | rfl | rfl <;> decide +kernel
theorem in_names' {x : Str} {S : Sto} : inD S (.str x) (.tup [.str "A", .str "B", .str "C", .str "D"]) = some (nameB x) := in_names
theorem deep_eq : ∀ (n : Nat) (d : D) (S : Sto), ht d < n → callN tb PT n "_law_deep" [d] S = some (.int (deepD d), S)
  | 0, d, S, h => by omega
  | n + 1, d, S, h => by
    rw [q_of l_deep rfl]
    simp only [c_law_deep]
    cases d with
    | tup xs =>
      cases xs with
      | nil => simp [startD, gc_same, cmpD, dr, eqD, flatD, scal, vD, deepD, deepOf, tyD, bltD, items]
      | cons hd rest =>
        have hne : ((rest.length : Int) + 1 = 0) = False := by simp; omega
        cases hd with
        | str w =>
          by_cases hn : w = "name"
          · subst hn
            match rest with
            | [] => simp [startD, gc_same, cmpD, dr, eqD, flatD, scal, vD, deepD, deepOf, tyD, ixD, items, atI, ixN, bltD, slD, partD, isNonC, cut_tail]
            | [x] => cases x with
              | str z => cases hz : nameB z <;> simp [startD, gc_same, cmpD, dr, eqD, flatD, scal, vD, deepD, deepOf, tyD, ixD, items, atI, ixN, bltD, slD, partD, isNonC, cut_tail, in_names, hz]
              | _ => simp [startD, gc_same, cmpD, dr, eqD, flatD, scal, vD, deepD, deepOf, tyD, ixD, items, atI, ixN, bltD, slD, partD, isNonC, cut_tail]
            | x :: y :: r =>
              have hl : ((r.length : Int) + 1 + 1 = 1) = False := by simp; omega
              have hl2 : ((r.length : Int) + 1 + 1 + 1 = 0) = False := by simp; omega
              simp [startD, gc_same, cmpD, dr, eqD, flatD, scal, vD, deepD, deepOf, tyD, ixD, items, atI, ixN, bltD, slD, partD, isNonC, cut_tail, hl, hl2]
          by_cases ha : w = "all"
          · subst ha
            cases rest with
            | nil => simp [startD, gc_same, cmpD, dr, eqD, flatD, scal, vD, deepD, deepOf, tyD, ixD, items, atI, ixN, bltD, slD, partD, isNonC, cut_tail, hn]
            | cons x r =>
              have hl : ((r.length : Int) + 1 = 0) = False := by simp; omega
              have hl2 : ((r.length : Int) + 1 + 1 = 0) = False := by simp; omega
              simp [startD, gc_same, cmpD, dr, eqD, flatD, scal, vD, deepD, deepOf, tyD, ixD, items, atI, ixN, bltD, slD, partD, isNonC, cut_tail, hn, hl, hl2]
          have hh : ∀ x ∈ rest, ht x < n := fun x hx => by
            have h1 := ht_mem (xs := .str w :: rest) (List.mem_cons_of_mem _ hx)
            simp only [ht] at h
            omega
          have lp : ∀ (q : Option D) (q4 q5 : Option D), loopLc ⟨rest, none⟩ (lcTurn (geN tb PT n) (.call "_law_deep" [.var 1]) (.name 1) [] [1] [some (.tup (.str w :: rest)), none, q, none, q4, q5]) rest S = some (rest.map fun x => .int (deepD x), S) := fun q q4 q5 => by
            refine loop_map ok_none fun x hx => ?_
            simp [lcTurn, wipeD, deep_eq n x S (hh x hx)]
          generalize hm : rest.length = m at *
          have hd : deepD (.tup (.str w :: rest)) = if manyOf w = 0 ∨ m ≠ manyOf w then 0 else if 0 ∈ rest.map deepD then 0 else 1 + mx (rest.map deepD) := by
            simp only [deepD, deepL, deepOf, hn, ha, ↓reduceIte, List.tail_cons, deepL_eq, hm]
          rw [hd]
          cases h1 : oneB w
          · cases h2 : twoB w
            · simp [startD, gc_same, cmpD, dr, eqD, flatD, scal, vD, tyD, ixD, items, atI, ixN, bltD, slD, partD, isNonC, cut_tail, hn, ha, in_ones, in_twos, h1, h2, hne, hm, manyOf]
            · by_cases h3 : m = 2
              · subst h3
                simp [startD, gc_same, cmpD, dr, eqD, flatD, scal, vD, tyD, ixD, items, litems, atI, ixN, bltD, slD, partD, isNonC, cut_tail, hn, ha, in_ones, in_twos, h1, h2, hne, hm, manyOf, lp, srcOf]
                match rest, hm with
                | [x, y], _ =>
                  by_cases z1 : deepD x = 0 <;> by_cases z2 : deepD y = 0 <;> simp [inD, items, flatD, eqV, vD, gc_same, bltD, litems, intsD, mx, z1, z2, eq_comm (a := (0 : Int)), binD, dr]
              · have e3 : ((m : Int) = 2) = False := by simp; omega
                simp [startD, gc_same, cmpD, dr, eqD, flatD, scal, vD, tyD, ixD, items, atI, ixN, bltD, slD, partD, isNonC, cut_tail, hn, ha, in_ones, in_twos, h1, h2, hne, hm, manyOf, h3, e3]
          · by_cases h3 : m = 1
            · subst h3
              simp [startD, gc_same, cmpD, dr, eqD, flatD, scal, vD, tyD, ixD, items, litems, atI, ixN, bltD, slD, partD, isNonC, cut_tail, hn, ha, in_ones, in_twos, h1, hne, hm, manyOf, lp, srcOf]
              match rest, hm with
              | [x], _ =>
                by_cases z1 : deepD x = 0 <;> simp [inD, items, flatD, eqV, vD, gc_same, bltD, litems, intsD, mx, z1, eq_comm (a := (0 : Int)), binD, dr]
            · have e3 : ((m : Int) = 1) = False := by simp; omega
              simp [startD, gc_same, cmpD, dr, eqD, flatD, scal, vD, tyD, ixD, items, atI, ixN, bltD, slD, partD, isNonC, cut_tail, hn, ha, in_ones, in_twos, h1, hne, hm, manyOf, h3, e3]
        | _ => simp [startD, gc_same, cmpD, dr, eqD, flatD, scal, vD, deepD, deepOf, tyD, ixD, items, atI, ixN, bltD, hne]
    | _ => simp [startD, gc_same, cmpD, dr, eqD, flatD, scal, vD, deepD, tyD]
end K42

set_option maxHeartbeats 4000000
namespace K42
open PySem PySem.Spec PyProof.Rows L2 Dn
theorem many_le (w : Str) : manyOf w ≤ 2 := by unfold manyOf; split <;> (try split) <;> omega
theorem foldl_nn : ∀ (r : List Int) (n : Int), 0 ≤ n → 0 ≤ r.foldl max n
  | [], n, h => h
  | x :: r, n, h => foldl_nn r (max n x) (by omega)
theorem mx_nn {ls : List Int} (h : ∀ i ∈ ls, 0 ≤ i) : 0 ≤ mx ls := by
  cases ls with
  | nil => exact Int.le_refl 0
  | cons n r => exact foldl_nn r n (h n (List.mem_cons_self ..))
theorem deepOf_nn {xs : List D} {ls : List Int} (h : ∀ i ∈ ls, 0 ≤ i) : 0 ≤ deepOf xs ls := by
  unfold deepOf
  split
  · split
    · split
      · split <;> omega
      · omega
    split
    · split <;> omega
    split
    · omega
    split
    · omega
    · have := mx_nn fun i hi => h i (List.mem_of_mem_tail hi)
      omega
  · omega
mutual
theorem deep_nn : ∀ d : D, 0 ≤ deepD d
  | .tup xs => by simp only [deepD]; exact deepOf_nn (deepL_nn xs)
  | .non => by simp only [deepD]; omega
  | .bl _ => by simp only [deepD]; omega
  | .int _ => by simp only [deepD]; omega
  | .str _ => by simp only [deepD]; omega
  | .lst _ => by simp only [deepD]; omega
  | .scr _ => by simp only [deepD]; omega
  | .dic _ _ => by simp only [deepD]; omega
  | .ref _ => by simp only [deepD]; omega
theorem deepL_nn : ∀ (ds : List D) (i : Int), i ∈ deepL ds → 0 ≤ i
  | [], i, h => by simp only [deepL] at h; cases h
  | d :: ds, i, h => by
    simp only [deepL] at h
    rcases List.mem_cons.mp h with rfl | h
    · exact deep_nn d
    · exact deepL_nn ds i h
end
/-- the plain law: the program's word is the law's -/
theorem pick_deep : ∀ (k : Nat) (d : D), pickB k d = decide (0 < deepD d ∧ deepD d ≤ k)
  | 0, d => by
    have h : ¬ (0 < deepD d ∧ deepD d ≤ ((0 : Nat) : Int)) := by omega
    rw [decide_eq_false h]; cases d <;> rfl
  | k + 1, d => by
    cases d with
    | tup xs =>
      cases xs with
      | nil => simp [pickB, deepD, deepOf]
      | cons hd rest =>
        cases hd with
        | str w =>
          by_cases ha : w = "all"
          · subst ha
            have hn : (("all" : Str) = "name") = False := eq_false (by decide +kernel)
            cases rest with
            | nil => simp [pickB, deepD, deepOf, hn]; omega
            | cons x r => simp [pickB, deepD, deepOf, hn]
          by_cases hn : w = "name"
          · subst hn
            match rest with
            | [] => simp [pickB, deepD, deepOf, ha]
            | [x] => cases x with
              | str z =>
                cases hz : nameB z
                · simp [pickB, deepD, deepOf, hz, ha]
                · simp [pickB, deepD, deepOf, hz, ha]; omega
              | _ => simp [pickB, deepD, deepOf, ha]
            | x :: y :: r => simp [pickB, deepD, deepOf, ha]
          simp only [pickB, deepD, deepOf, ha, hn, ↓reduceIte, deepL, List.tail_cons, deepL_eq]
          by_cases h1 : oneB w = true
          · have h2 := one_two h1
            match rest with
            | [] => simp [h1, h2, manyOf]
            | [x] =>
              have nx := deep_nn x
              have ix := pick_deep k x
              by_cases z1 : deepD x = 0 <;> simp [h1, h2, manyOf, ix, z1, mx, eq_comm (a := (0 : Int))] <;> (try trace_state) <;> (rw [Bool.eq_iff_iff]; simp; omega)
            | x :: y :: r => simp [h1, h2, manyOf]
          · by_cases h2 : twoB w = true
            · match rest with
              | [] => simp [h1, h2, manyOf]
              | [x] => simp [h1, h2, manyOf]
              | [x, y] =>
                have nx := deep_nn x
                have ny := deep_nn y
                have ix := pick_deep k x
                have iy := pick_deep k y
                by_cases z1 : deepD x = 0 <;> by_cases z2 : deepD y = 0 <;> simp [h1, h2, manyOf, ix, iy, z1, z2, mx, eq_comm (a := (0 : Int))] <;> (try trace_state) <;> (rw [Bool.eq_iff_iff]; simp; omega)
              | x :: y :: z :: r => simp [h1, h2, manyOf]
            · simp [h1, h2, manyOf]
        | _ => simp [pickB, deepD, deepOf]
    | _ => simp [pickB, deepD]
end K42

set_option maxHeartbeats 4000000
namespace Dn
open PySem PySem.Spec PyProof.Rows L2
theorem at_in {xs : List D} {r : Int} (h0 : 0 ≤ r) (h1 : r < xs.length) : ∃ d ∈ xs, atI xs r = some d := by
  obtain ⟨i, rfl⟩ := Int.eq_ofNat_of_zero_le h0
  have hi : i < xs.length := by omega
  exact ⟨xs[i], List.getElem_mem hi, at_nat hi⟩
theorem for_all {w : Wk} {turn : D → En → Sto → Option (Fl × Sto)} {I : En → Sto → Prop} (hw : ∀ δ S, I δ S → okW w S) : ∀ {xs : List D} {δ : En} {S : Sto}, (∀ x ∈ xs, ∀ δ S, I δ S → ∃ δ' S', turn x δ S = some (.nx δ', S') ∧ I δ' S') → I δ S →
    ∃ δ' S', loopFor w turn xs δ S = some (.nx δ', S') ∧ I δ' S'
  | [], δ, S, _, h0 => ⟨δ, S, by unfold loopFor; rw [if_pos (hw δ S h0)], h0⟩
  | x :: xs, δ, S, h, h0 => by
    obtain ⟨δ1, S1, e1, h1⟩ := h x (List.mem_cons_self ..) δ S h0
    obtain ⟨δ2, S2, e2, h2⟩ := for_all hw (fun y hy => h y (List.mem_cons_of_mem _ hy)) h1
    refine ⟨δ2, S2, ?_, h2⟩
    unfold loopFor
    rw [if_pos (hw δ S h0), e1, Option.bind_some]
    exact e2
end Dn
namespace K42
open PySem PySem.Spec PyProof.Rows L2 Dn
theorem l_any : PT.lookup ("_law_any" : Str) = some c_law_any := tab_get nd (d := d_law_any) (by simp only [defs, List.mem_cons, true_or, or_true])
theorem l_pick : PT.lookup ("_law_pick" : Str) = some c_law_pick := tab_get nd (d := d_law_pick) (by simp only [defs, List.mem_cons, true_or, or_true])
theorem l_odd : PT.lookup ("_law_odd" : Str) = some c_law_odd := tab_get nd (d := d_law_odd) (by simp only [defs, List.mem_cons, true_or, or_true])
theorem l_bent : PT.lookup ("_law_bent" : Str) = some c_law_bent := tab_get nd (d := d_law_bent) (by simp only [defs, List.mem_cons, true_or, or_true])
theorem l_thing : PT.lookup ("_law_thing" : Str) = some c_law_thing := tab_get nd (d := d_law_thing) (by simp only [defs, List.mem_cons, true_or, or_true])
theorem Wl.len {j : Nat} {S : Sto} (h : Wl j S) : S.length = 1 := by
  obtain ⟨a, b, c, rfl, _⟩ := h
  rfl
theorem Wl.mono {j k : Nat} {S : Sto} (h : Wl j S) (hk : j ≤ k) : Wl k S := by
  obtain ⟨a, b, c, e, h1, h2, h3, h4⟩ := h
  exact ⟨a, b, c, e, h1, h2, h3, by omega⟩
theorem any {n j : Nat} {S : Sto} {xs : List D} (h : Wl j S) (hj : j < 100000000) (hx : 0 < xs.length) (hx2 : xs.length < 1073741824) : ∃ d ∈ xs, ∃ S', callN tb PT (n + 2) "_law_any" [.ref 0, .tup xs] S = some (d, S') ∧ Wl (j + 1) S' := by
  obtain ⟨r, S1, e, h0, h1, w1⟩ := dip (n := n) h hj (m := xs.length) (by omega) (by omega)
  obtain ⟨d, hd, ed⟩ := at_in h0 h1
  refine ⟨d, hd, S1, ?_, w1⟩
  rw [q_of l_any rfl]
  simp only [c_law_any]
  simp [startD, bltD, items, e, ixD, ed, gc_same, h.len, w1.len]
def Pk : Nat → D → Prop
  | 0, _ => False
  | k + 1, d => ∃ w rest, d = .tup (.str w :: rest) ∧ rest.length ≤ 2 ∧ (w = "name" ∧ (∃ z, rest = [.str z]) ∨ w ≠ "name" ∧ ∀ x ∈ rest, Pk k x)
theorem Pk.mono : ∀ {k m : Nat} {d : D}, Pk k d → k ≤ m → Pk m d
  | 0, m, d, h, _ => h.elim
  | k + 1, 0, d, h, hm => by omega
  | k + 1, m + 1, d, ⟨w, rest, e, hl, h⟩, hm => ⟨w, rest, e, hl, h.imp id fun ⟨h1, h2⟩ => ⟨h1, fun x hx => (h2 x hx).mono (by omega)⟩⟩
theorem hts_le {xs : List D} {k : Nat} (h : ∀ x ∈ xs, ht x ≤ k) : hts xs ≤ k := by
  induction xs with
  | nil => simp only [hts]; omega
  | cons x r ih =>
    simp only [hts]
    have h1 := h x (List.mem_cons_self ..)
    have h2 := ih fun y hy => h y (List.mem_cons_of_mem _ hy)
    omega
theorem Pk.ht : ∀ {k : Nat} {d : D}, Pk k d → ht d ≤ k
  | 0, d, h => h.elim
  | k + 1, d, ⟨w, rest, e, hl, h⟩ => by
    subst e
    have : hts (.str w :: rest) ≤ k := hts_le fun x hx => by
      rcases List.mem_cons.mp hx with rfl | hx
      · simp only [K42.ht]; omega
      rcases h with ⟨_, z, rfl⟩ | ⟨_, h⟩
      · simp only [List.mem_singleton] at hx; subst hx; simp only [K42.ht]; omega
      · exact (h x hx).ht
    simp only [K42.ht]
    omega
theorem str_of {d : D} {l : List Str} (h : d ∈ l.map D.str) : ∃ w ∈ l, d = .str w := by
  obtain ⟨w, hw, e⟩ := List.mem_map.mp h
  exact ⟨w, hw, e.symm⟩
theorem pick : ∀ (k n j : Nat) (S : Sto), Wl j S → 1 ≤ k → j + 8 ^ k < 100000000 → ∃ d S', callN tb PT (n + k + 2) "_law_pick" [.ref 0, .int k] S = some (d, S') ∧ Wl (j + 8 ^ k) S' ∧ Pk k d
  | 0, n, j, S, h, hk, hj => by omega
  | 1, n, j, S, h, hk, hj => by
    have hj' : j + 8 < 100000000 := by simpa using hj
    obtain ⟨r, S1, e1, h0, h1, w1⟩ := dip (n := n + 1 + 0) h (by omega) (m := 4) (by omega) (by omega)
    rw [show n + 1 + 2 = (n + 2) + 1 by omega, q_of l_pick rfl]
    simp only [c_law_pick]
    by_cases hr : 0 < r
    · obtain ⟨d, hd, S2, e2, w2⟩ := any (n := n) w1 (by omega) (xs := [.str "A", .str "B", .str "C", .str "D"]) (by decide) (by decide)
      refine ⟨.tup [.str "name", d], S2, ?_, w2.mono (by omega), ?_⟩
      · simp [startD, cmpD, e1, e2, hr, gc_same, h.len, w1.len, w2.len]
      · obtain ⟨z, hz, rfl⟩ := str_of (l := ["A", "B", "C", "D"]) hd
        exact ⟨"name", _, rfl, by simp, .inl ⟨rfl, z, rfl⟩⟩
    · refine ⟨.tup [.str "all"], S1, ?_, w1.mono (by omega), ?_⟩
      · simp [startD, cmpD, e1, hr, gc_same, h.len, w1.len]
      · exact ⟨"all", [], rfl, by simp, .inr ⟨by decide +kernel, fun x hx => by cases hx⟩⟩
  | k + 2, n, j, S, h, hk, hj => by
    have p8 : (8 : Nat) ^ (k + 2) = 8 * 8 ^ (k + 1) := by rw [Nat.pow_succ]; omega
    have p1 : 8 ≤ (8 : Nat) ^ (k + 1) := by
      have : (8 : Nat) ^ 1 ≤ 8 ^ (k + 1) := Nat.pow_le_pow_right (by omega) (by omega)
      omega
    obtain ⟨one, S1, e1, w1, o1⟩ := pick (k + 1) n j S h (by omega) (by omega)
    obtain ⟨r, S2, e2, h0, h1, w2⟩ := dip (n := n + k + 2) w1 (by omega) (m := 2) (by omega) (by omega)
    have e1' : callN tb PT (n + k + 3) "_law_pick" [.ref 0, .int (((k + 2 : Nat) : Int) - 1)] S = some (one, S1) := by
      rw [show (((k + 2 : Nat) : Int) - 1) = ((k + 1 : Nat) : Int) by omega]; exact e1
    rw [show n + (k + 2) + 2 = (n + k + 3) + 1 by omega, q_of l_pick rfl]
    simp only [c_law_pick]
    have k2 : ¬ ((k + 2 : Nat) : Int) < 2 := by omega
    generalize hK : ((k + 2 : Nat) : Int) = K at *
    by_cases hr : r = 0
    · obtain ⟨d, hd, S3, e3, w3⟩ := any (n := n + k + 1) w2 (by omega) (xs := [.str "not", .str "rim", .str "inner", .str "closure"]) (by decide) (by decide)
      refine ⟨.tup [d, one], S3, ?_, w3.mono (by omega), ?_⟩
      · simp [startD, cmpD, dr, eqD, flatD, scal, vD, binD, k2, e1', e2, e3, hr, gc_same, h.len, w3.len]
      · obtain ⟨w, hw, rfl⟩ := str_of (l := ["not", "rim", "inner", "closure"]) hd
        refine ⟨w, _, rfl, by simp, .inr ⟨?_, fun x hx => by simp only [List.mem_singleton] at hx; subst hx; exact o1⟩⟩
        simp only [List.mem_cons, List.not_mem_nil, or_false] at hw
        rcases hw with rfl | rfl | rfl | rfl <;> decide +kernel
    · have hm : ∃ m : Int, (if 3 < K - 1 then (3 : Int) else K - 1) = m ∧ 0 < m ∧ m ≤ 3 ∧ m ≤ K - 1 := by
        split
        · exact ⟨3, rfl, by omega, by omega, by omega⟩
        · exact ⟨_, rfl, by omega, by omega, by omega⟩
      obtain ⟨m, em, m0, m3, mK⟩ := hm
      obtain ⟨r2, S3, e3, g0, g1, w3⟩ := dip (n := n + k + 2) w2 (by omega) (m := m) (by omega) (by omega)
      obtain ⟨q, hq⟩ := Int.eq_ofNat_of_zero_le (a := 1 + r2) (by omega)
      have q1 : 1 ≤ q := by omega
      have qk : q ≤ k + 1 := by omega
      have p9 : (8 : Nat) ^ q ≤ 8 ^ (k + 1) := Nat.pow_le_pow_right (by omega) qk
      obtain ⟨two, S4, e4, w4, o4⟩ := pick q (n + (k + 1 - q)) _ S3 w3 q1 (by omega)
      rw [show n + (k + 1 - q) + q + 2 = n + k + 3 by omega, ← hq] at e4
      obtain ⟨d, hd, S5, e5, w5⟩ := any (n := n + k + 1) w4 (by omega) (xs := [.str "both", .str "either", .str "less"]) (by decide) (by decide)
      obtain ⟨r6, S6, e6, _, _, w6⟩ := dip (n := n + k + 2) w5 (by omega) (m := 2) (by omega) (by omega)
      have tt : ∀ x y : D, Pk (k + 1) x → Pk (k + 1) y → Pk (k + 2) (.tup [d, x, y]) := fun x y hx hy => by
        obtain ⟨w, hw, rfl⟩ := str_of (l := ["both", "either", "less"]) hd
        refine ⟨w, _, rfl, by simp, .inr ⟨?_, fun z hz => ?_⟩⟩
        · simp only [List.mem_cons, List.not_mem_nil, or_false] at hw
          rcases hw with rfl | rfl | rfl <;> decide +kernel
        · simp only [List.mem_cons, List.not_mem_nil, or_false] at hz
          rcases hz with rfl | rfl
          · exact hx
          · exact hy
      have o4' := o4.mono qk
      by_cases h6 : r6 = 0
      · refine ⟨.tup [d, one, two], S6, ?_, w6.mono (by omega), tt _ _ o1 o4'⟩
        simp [startD, cmpD, dr, eqD, flatD, scal, vD, binD, bltD, k2, e1', e2, em, e3, e4, e5, e6, hr, h6, gc_same, h.len, w6.len]
      · refine ⟨.tup [d, two, one], S6, ?_, w6.mono (by omega), tt _ _ o4' o1⟩
        simp [startD, cmpD, dr, eqD, flatD, scal, vD, binD, bltD, k2, e1', e2, em, e3, e4, e5, e6, hr, h6, gc_same, h.len, w6.len]
termination_by k => k
end K42

set_option maxHeartbeats 4000000
namespace K42
open PySem PySem.Spec PyProof.Rows L2 Dn
def odds : List D := [.tup [.str "all"], .tup [.str "name", .str "D"], .non, .int 0, .bl true, .bl false, .str "", .str "A", .str "all", .str "name", .tup [], .lst [], .dic [] [], .tup [.str "all", .tup []], .lst [.str "all"],
  .tup [.str "name"], .tup [.str "name", .str "E"], .tup [.str "name", .str "a"], .tup [.str "name", .str ""], .tup [.str "name", .str "AB"], .tup [.str "name", .str "A", .str "B"], .tup [.str "A"],
  .tup [.str "name", .tup [.str "A"]], .tup [.str "name", .lst [.str "A"]], .tup [.lst [.str "name"], .str "A"], .tup [.dic [] [], .str "A"], .tup [.str "All"], .tup [.tup [.str "all"]], .tup [.str "not"], .tup [.str "both"],
  .tup [.str "name", .int 1], .tup [.str "name", .non], .tup [.str "name", .bl true], .tup [.int 1, .str "A"], .tup [.non], .tup [.str "rim", .str "A"], .tup [.str "not", .str "all"], .tup [.str "less", .int 0]]
theorem odds_ht : ∀ d ∈ odds, ht d ≤ 3 := by
  have h : odds.all (fun d => decide (ht d ≤ 3)) = true := by decide +kernel
  intro d hd
  exact of_decide_eq_true (List.all_eq_true.mp h d hd)
theorem odd {n j : Nat} {S : Sto} (h : Wl j S) (hj : j < 100000000) : ∃ d S', callN tb PT (n + 3) "_law_odd" [.ref 0] S = some (d, S') ∧ Wl (j + 1) S' ∧ ht d ≤ 3 := by
  obtain ⟨d, hd, S1, e, w1⟩ := any (n := n) h hj (xs := odds) (by decide) (by decide)
  refine ⟨d, S1, ?_, w1, odds_ht d hd⟩
  rw [q_of l_odd rfl]
  simp only [c_law_odd]
  simp only [odds] at e
  simp [startD, binD, dr, e, gc_same, h.len, w1.len]
theorem hts_app : ∀ {xs ys : List D}, hts (xs ++ ys) = max (hts xs) (hts ys)
  | [], ys => by simp [hts]
  | x :: xs, ys => by simp only [List.cons_append, hts, hts_app (xs := xs)]; omega
theorem hts_sub {xs ys : List D} (h : ∀ x ∈ ys, x ∈ xs) : hts ys ≤ hts xs := hts_le fun x hx => ht_mem (h x hx)
theorem cut_mem {xs : List D} {lo hi : Option Int} {x : D} (h : x ∈ cutD xs lo hi) : x ∈ xs := List.mem_of_mem_drop (List.mem_of_mem_take h)
theorem cut_hts {xs : List D} {lo hi : Option Int} : hts (cutD xs lo hi) ≤ hts xs := hts_sub fun x hx => cut_mem hx
theorem cut_len {xs : List D} {lo hi : Option Int} : (cutD xs lo hi).length ≤ xs.length := by
  unfold Dn.cutD
  rw [List.length_take, List.length_drop]
  omega
theorem at_0 {x : D} {xs : List D} : atI (x :: xs) 0 = some x := at_nat (i := 0) (by simp)
def bent0 : CS := .ife (.and (.cmp .NotEq (.ix (.var 1) (.int 0)) (.str "name")) (.and (.cmp .Gt (.blt "len" [.var 1]) (.int 1)) (.cmp .Gt (.call "_law_dip" [.var 0, .int 3]) (.int 0)))) [.asg (.name 3) (.bin .Add (.int 1) (.call "_law_dip" [.var 0, .bin .Sub (.blt "len" [.var 1]) (.int 1)])), .ret (.bin .Add (.bin .Add (.sl (.var 1) .non (.var 3)) (.tup [.call "_law_bent" [.var 0, .ix (.var 1) (.var 3)]])) (.sl (.var 1) (.bin .Add (.var 3) (.int 1)) .non))] []
theorem bent_ : c_law_bent.body = bent0 :: c_law_bent.body.drop 1 := rfl
theorem bent : ∀ (k n j : Nat) (S : Sto) (d : D), Wl j S → Pk k d → j + 3 * k + 3 < 100000000 → ∃ d' S', callN tb PT (n + k + 4) "_law_bent" [.ref 0, d] S = some (d', S') ∧ Wl (j + 3 * k + 3) S' ∧ ht d' ≤ k + 4
  | 0, n, j, S, d, h, o, hj => o.elim
  | k + 1, n, j, S, d, h, ⟨w, rest, e, hl, ho⟩, hj => by
    have hd : ht d ≤ k + 1 := Pk.ht (k := k + 1) ⟨w, rest, e, hl, ho⟩
    have hdr : hts (.str w :: rest) ≤ k := by
      subst e
      simp only [ht] at hd
      omega
    -- behind the first test: not bent within
    have tail : ∀ (j' : Nat) (S1 : Sto) (q2 q3 q4 : Option D), Wl j' S1 → j' ≤ j + 1 → ∃ d' S' , exSs (geN tb PT (n + (k + 1) + 3)) (c_law_bent.body.drop 1) [some (.ref 0), some d, q2, q3, q4] S1 = some (.rt d', S') ∧ Wl (j + 3 * (k + 1) + 3) S' ∧ ht d' ≤ k + 1 + 4 := by
      intro j' S1 q2 q3 q4 w1 hj'
      obtain ⟨r, S2, e2, g0, g1, w2⟩ := dip (n := n + k + 3) w1 (by omega) (m := 9) (by omega) (by omega)
      have e2' : callN tb PT (n + (k + 1) + 3) "_law_dip" [.ref 0, .int 9] S1 = some (.int r, S2) := by rw [show n + (k + 1) + 3 = n + k + 3 + 1 by omega]; exact e2
      subst e
      have l2 : (rest.length + 1 : Int) ≤ 3 := by omega
      by_cases r0 : r = 0
      · refine ⟨.lst (.str w :: rest), S2, ?_, w2.mono (by omega), by simp only [ht]; omega⟩
        simp [c_law_bent, cmpD, dr, eqD, flatD, scal, vD, e2', r0, bltD, items]
      by_cases r1 : r = 1
      · refine ⟨.tup (cutD (.str w :: rest) none (some (-1))), S2, ?_, w2.mono (by omega), ?_⟩
        · simp [c_law_bent, cmpD, dr, eqD, flatD, scal, vD, e2', r1, slD, partD, isNonC]
        · have := cut_hts (xs := .str w :: rest) (lo := none) (hi := some (-1))
          simp only [ht]; omega
      by_cases r2 : r = 2
      · have c1 := cut_len (xs := .str w :: rest) (lo := some (-1)) (hi := none)
        have c2 := cut_hts (xs := .str w :: rest) (lo := some (-1)) (hi := none)
        generalize hc : cutD (.str w :: rest) (some (-1)) none = cu at c1 c2
        have c3 : rest.length + 1 + cu.length ≤ 16777216 := by simp at c1; omega
        refine ⟨.tup (.str w :: rest ++ cu), S2, ?_, w2.mono (by omega), ?_⟩
        · simp [c_law_bent, cmpD, dr, eqD, flatD, scal, vD, e2', r2, slD, partD, isNonC, hc, binD, c3]
        · simp only [ht, hts_app]; omega
      by_cases r3 : r = 3
      · have c3 : rest.length + 1 + 1 ≤ 16777216 := by omega
        refine ⟨.tup (.str w :: rest ++ [.tup [.str "all"]]), S2, ?_, w2.mono (by omega), ?_⟩
        · simp [c_law_bent, cmpD, dr, eqD, flatD, scal, vD, e2', r3, binD, c3]
        · simp only [ht, hts_app, hts]
          simp only [hts, ht] at hdr
          omega
      by_cases r4 : r = 4
      · refine ⟨.tup [.tup (.str w :: rest)], S2, ?_, w2.mono (by omega), ?_⟩
        · simp [c_law_bent, cmpD, dr, eqD, flatD, scal, vD, e2', r4]
        · simp only [ht, hts] at hdr ⊢
          omega
      by_cases r7 : r < 7
      · obtain ⟨x, hx, S3, e3, w3⟩ := any (n := n + k + 2) w2 (by omega) (xs := [.str "not", .str "rim", .str "inner", .str "closure", .str "both", .str "either", .str "less", .str "all", .str "name", .str "Not", .str "pick", .str ""]) (by decide) (by decide)
        obtain ⟨z, hz, rfl⟩ := str_of (l := ["not", "rim", "inner", "closure", "both", "either", "less", "all", "name", "Not", "pick", ""]) hx
        have e3' : callN tb PT (n + (k + 1) + 3) "_law_any" [.ref 0, .tup [.str "not", .str "rim", .str "inner", .str "closure", .str "both", .str "either", .str "less", .str "all", .str "name", .str "Not", .str "pick", .str ""]] S2 = some (.str z, S3) := by
          rw [show n + (k + 1) + 3 = n + k + 2 + 2 by omega]; exact e3
        have c3 : rest.length ≤ 16777215 := by omega
        have c4 : 1 + rest.length ≤ 16777216 := by omega
        refine ⟨.tup (.str z :: rest), S3, ?_, w3.mono (by omega), ?_⟩
        · simp [c_law_bent, cmpD, dr, eqD, flatD, scal, vD, e2', r0, r1, r2, r3, r4, r7, e3', slD, partD, isNonC, cut_tail, binD, c3, c4]
        · simp only [ht, hts] at hdr ⊢
          omega
      · obtain ⟨x, S3, e3, w3, x3⟩ := odd (n := n + k + 1) w2 (by omega)
        have e3' : callN tb PT (n + (k + 1) + 3) "_law_odd" [.ref 0] S2 = some (x, S3) := by rw [show n + (k + 1) + 3 = n + k + 1 + 3 by omega]; exact e3
        refine ⟨x, S3, ?_, w3.mono (by omega), by omega⟩
        simp [c_law_bent, cmpD, dr, eqD, flatD, scal, vD, e2', r0, r1, r2, r3, r4, r7, e3']
    have run : ∀ (S1 : Sto) (j' : Nat), exS (geN tb PT (n + (k + 1) + 3)) bent0 [some (.ref 0), some d, none, none, none] S = some (.nx [some (.ref 0), some d, none, none, none], S1) → Wl j' S1 → j' ≤ j + 1 →
        ∃ d' S', callN tb PT (n + (k + 1) + 4) "_law_bent" [.ref 0, d] S = some (d', S') ∧ Wl (j + 3 * (k + 1) + 3) S' ∧ ht d' ≤ k + 1 + 4 := by
      intro S1 j' e1 w1 hj'
      obtain ⟨d', S', e2, w2, h2⟩ := tail j' S1 none none none w1 hj'
      refine ⟨d', S', ?_, w2, h2⟩
      rw [q_of l_bent rfl, bent_, show startD c_law_bent.N.length [.ref 0, d] = [some (.ref 0), some d, none, none, none] from rfl, x_cons, e1, bnd_some]
      simp only []
      rw [e2]
      simp [gc_same, h.len, w2.len]
    by_cases hn : w = "name"
    · subst hn
      refine run S j ?_ h (by omega)
      subst e
      simp [bent0, cmpD, dr, eqD, flatD, scal, vD, ixD, items, atI, ixN]
    by_cases hr : rest = []
    · subst hr
      refine run S j ?_ h (by omega)
      subst e
      simp [bent0, cmpD, dr, eqD, flatD, scal, vD, ixD, items, atI, ixN, hn, bltD]
    have hr1 : 0 < rest.length := List.length_pos_iff.mpr hr
    have hr2 : (1 : Int) < (rest.length : Int) + 1 := by omega
    obtain ⟨r, S1, e1, g0, g1, w1⟩ := dip (n := n + k + 3) h (by omega) (m := 3) (by omega) (by omega)
    have e1' : callN tb PT (n + (k + 1) + 3) "_law_dip" [.ref 0, .int 3] S = some (.int r, S1) := by rw [show n + (k + 1) + 3 = n + k + 3 + 1 by omega]; exact e1
    by_cases hr0 : 0 < r
    · obtain ⟨r2, S2, e2, f0, f1, w2⟩ := dip (n := n + k + 3) w1 (by omega) (m := rest.length) (by omega) (by omega)
      have e2' : callN tb PT (n + (k + 1) + 3) "_law_dip" [.ref 0, .int rest.length] S1 = some (.int r2, S2) := by rw [show n + (k + 1) + 3 = n + k + 3 + 1 by omega]; exact e2
      have hx : ∀ x ∈ rest, Pk k x := by
        rcases ho with ⟨q, _⟩ | ⟨_, q⟩
        · exact absurd q hn
        · exact q
      have hm : ∃ x ∈ rest, atI (.str w :: rest) (1 + r2) = some x := by
        obtain ⟨i, rfl⟩ := Int.eq_ofNat_of_zero_le f0
        have hi : i < rest.length := by omega
        refine ⟨rest[i], List.getElem_mem hi, ?_⟩
        rw [show (1 + (i : Int)) = ((i + 1 : Nat) : Int) by omega, at_nat (by simp; omega)]
        simp
      obtain ⟨x, hxm, ex⟩ := hm
      obtain ⟨d', S3, e3, w3, h3⟩ := bent k n (j + 1 + 1) S2 x w2 (hx x hxm) (by omega)
      have e3' : callN tb PT (n + (k + 1) + 3) "_law_bent" [.ref 0, x] S2 = some (d', S3) := by rw [show n + (k + 1) + 3 = n + k + 4 by omega]; exact e3
      have c1 := cut_len (xs := .str w :: rest) (lo := none) (hi := some (1 + r2))
      have c2 := cut_len (xs := .str w :: rest) (lo := some (1 + r2 + 1)) (hi := none)
      have c3 := cut_hts (xs := .str w :: rest) (lo := none) (hi := some (1 + r2))
      have c4 := cut_hts (xs := .str w :: rest) (lo := some (1 + r2 + 1)) (hi := none)
      generalize hu : cutD (.str w :: rest) none (some (1 + r2)) = u at c1 c3
      generalize hv : cutD (.str w :: rest) (some (1 + r2 + 1)) none = v at c2 c4
      simp only [List.length_cons] at c1 c2
      have c5 : u.length ≤ 16777215 := by omega
      have c6 : u.length + (1 + v.length) ≤ 16777216 := by omega
      have c7 : u.length + 1 + v.length ≤ 16777216 := by omega
      have c8 : u.length + 1 ≤ 16777216 := by omega
      refine ⟨.tup (u ++ [d'] ++ v), S3, ?_, w3.mono (by omega), ?_⟩
      · rw [q_of l_bent rfl, bent_, show startD c_law_bent.N.length [.ref 0, d] = [some (.ref 0), some d, none, none, none] from rfl]
        subst e
        simp [bent0, startD, cmpD, dr, eqD, flatD, scal, vD, ixD, items, at_0, ex, hn, bltD, hr2, e1', hr0, binD, e2', e3', slD, partD, isNonC, hu, hv, c5, c6, c7, c8, gc_same, h.len, w3.len]
      · simp only [ht, hts_app, hts]
        omega
    · refine run S1 (j + 1) ?_ w1 (by omega)
      subst e
      simp [bent0, cmpD, dr, eqD, flatD, scal, vD, ixD, items, atI, ixN, hn, bltD, hr2, e1', hr0]
end K42

set_option maxHeartbeats 4000000
namespace K42
open PySem PySem.Spec PyProof.Rows L2 Dn
theorem l_spring : PT.lookup ("_law_spring" : Str) = some c_law_spring := tab_get nd (d := d_law_spring) (by simp only [defs, List.mem_cons, true_or, or_true])
theorem l_by : PT.lookup ("is_pick_by" : Str) = some c_p_is_pick_by := tab_get nd (d := d_p_is_pick_by) (by simp only [defs, List.mem_cons, true_or, or_true])
theorem l_is : PT.lookup ("is_pick" : Str) = some c_p_is_pick := tab_get nd (d := d_p_is_pick) (by simp only [defs, List.mem_cons, true_or, or_true])
theorem l_law : PT.lookup ("law" : Str) = some c_p_law := tab_get nd (d := d_p_law) (by simp only [defs, List.mem_cons, true_or, or_true])
theorem tb_most : tb.lookup ("MOST_DEEP" : Str) = some (.int 6) := by kernel_rfl
theorem thing {n j : Nat} {S : Sto} (h : Wl j S) (hj : j + 17000000 < 100000000) : ∃ d S', callN tb PT (n + 14) "_law_thing" [.ref 0] S = some (d, S') ∧ Wl (j + 17000000) S' ∧ ht d ≤ 12 := by
  obtain ⟨r, S1, e1, g0, g1, w1⟩ := dip (n := n + 12) h (by omega) (m := 10) (by omega) (by omega)
  rw [show n + 14 = (n + 13) + 1 by omega, q_of l_thing rfl]
  simp only [c_law_thing]
  by_cases r0 : r = 0
  · obtain ⟨d, S2, e2, w2, h2⟩ := odd (n := n + 10) w1 (by omega)
    refine ⟨d, S2, ?_, w2.mono (by omega), by omega⟩
    simp [startD, cmpD, dr, eqD, flatD, scal, vD, e1, r0, e2, gc_same, h.len, w2.len]
  · obtain ⟨x, hx, S2, e2, w2⟩ := any (n := n + 11) w1 (by omega) (xs := [.int 1, .int 2, .int 3, .int 4, .int 5, .int 6, .int 6, .int 6, .int 7, .int 7, .int 8]) (by decide) (by decide)
    have hk : ∃ k : Nat, x = .int k ∧ 1 ≤ k ∧ k ≤ 8 := by
      simp only [List.mem_cons, List.not_mem_nil, or_false] at hx
      rcases hx with rfl | rfl | rfl | rfl | rfl | rfl | rfl | rfl | rfl | rfl | rfl
      · exact ⟨1, rfl, by omega, by omega⟩
      · exact ⟨2, rfl, by omega, by omega⟩
      · exact ⟨3, rfl, by omega, by omega⟩
      · exact ⟨4, rfl, by omega, by omega⟩
      · exact ⟨5, rfl, by omega, by omega⟩
      · exact ⟨6, rfl, by omega, by omega⟩
      · exact ⟨6, rfl, by omega, by omega⟩
      · exact ⟨6, rfl, by omega, by omega⟩
      · exact ⟨7, rfl, by omega, by omega⟩
      · exact ⟨7, rfl, by omega, by omega⟩
      · exact ⟨8, rfl, by omega, by omega⟩
    obtain ⟨k, rfl, k1, k8⟩ := hk
    have p8 : (8 : Nat) ^ k ≤ 8 ^ 8 := Nat.pow_le_pow_right (by omega) k8
    have q8 : (8 : Nat) ^ 8 = 16777216 := by decide
    obtain ⟨d, S3, e3, w3, o3⟩ := pick k (n + (11 - k)) _ S2 w2 k1 (by omega)
    rw [show n + (11 - k) + k + 2 = n + 13 by omega] at e3
    by_cases r4 : r < 4
    · refine ⟨d, S3, ?_, w3.mono (by omega), by have := o3.ht; omega⟩
      simp [startD, cmpD, dr, eqD, flatD, scal, vD, e1, r0, e2, e3, r4, gc_same, h.len, w3.len]
    · obtain ⟨d', S4, e4, w4, h4⟩ := bent k (n + (9 - k)) _ S3 d w3 o3 (by omega)
      rw [show n + (9 - k) + k + 4 = n + 13 by omega] at e4
      refine ⟨d', S4, ?_, w4.mono (by omega), by omega⟩
      simp [startD, cmpD, dr, eqD, flatD, scal, vD, e1, r0, e2, e3, r4, e4, gc_same, h.len, w4.len]
theorem is_eq {n : Nat} {d : D} {S : Sto} : callN tb PT (n + 9) "is_pick" [d] S = some (.bl (pickB 6 d), S) := by
  have e1 : callN tb PT (n + 7) "is_picked" [d, .int 6] S = some (.bl (pickB 6 d), S) := picked_eq 6 n d S
  have e2 : callN tb PT (n + 8) "is_pick_by" [d] S = some (.bl (pickB 6 d), S) := by
    rw [q_of l_by rfl]
    simp only [c_p_is_pick_by]
    simp [startD, tb_most, e1, gc_same]
  rw [q_of l_is rfl]
  simp only [c_p_is_pick]
  simp [startD, e2, gc_same]
theorem spring {n : Nat} {ns : List Int} : ∃ S', callN tb PT (n + 1) "_law_spring" [.scr (ns.map .int)] [] = some (.ref 0, S') ∧ Wl 0 S' := by
  have lp := for_all (w := ⟨cutD (ns.map .int) none (some 63), none⟩) (turn := forTurn (geN tb PT n) (.name 2) [.asg (.name 1) (.bin .Mod (.blt "int" [.bin .Add (.bin .Add (.bin .Mult (.var 1) (.int 48611)) (.bin .Mod (.blt "int" [.var 2]) (.int 2147483587))) (.int 11)]) (.int 2147483579))])
    (I := fun δ S => S = [] ∧ ∃ b q, 0 ≤ b ∧ b < 2147483648 ∧ δ = [some (.scr (ns.map .int)), some (.int b), q, none]) (fun _ _ _ => ok_none) (xs := cutD (ns.map .int) none (some 63)) (δ := [some (.scr (ns.map .int)), some (.int 7121), none, none]) (S := [])
    (fun x hx δ S ⟨eS, b, q, b0, b1, eδ⟩ => by
      obtain ⟨i, _, rfl⟩ := List.mem_map.mp (cut_mem hx)
      subst eS eδ
      have m1 : mulOk b 48611 = true := mul_ok (nat_lt b0 (by omega)) (nat_lt (by omega) (by omega))
      refine ⟨[some (.scr (ns.map .int)), some (.int ((b * 48611 + i % 2147483587 + 11) % 2147483579)), some (.int i), none], [], ?_, rfl, _, _, ?_, ?_, rfl⟩
      · simp [Dn.forTurn, bltD, binD, dr, m1]
      all_goals omega) ⟨rfl, 7121, none, by omega, by omega, rfl⟩
  obtain ⟨δ', S', e, eS, b, q, b0, b1, eδ⟩ := lp
  subst eS eδ
  rw [q_of l_spring rfl]
  simp only [c_law_spring]
  cases ns with
  | nil =>
    refine ⟨W 0 b 0, ?_, _, _, _, rfl, b0, b1, by omega, by omega⟩
    simp at e
    simp [startD, slD, dr, partD, isNonC, items, srcOf, e, cmpD, bltD, binD, W, gc, MO.keep]
  | cons i r =>
    have hl : (0 : Int) < (r.length : Int) + 1 := by omega
    by_cases h : i < 0 ∨ 100000000000000 ≤ i
    · refine ⟨W (if i < 0 then -i else i) b 0, ?_, _, _, _, rfl, b0, b1, by omega, by omega⟩
      simp at e
      rcases h with h | h
      · simp [startD, slD, dr, partD, isNonC, items, srcOf, e, cmpD, bltD, binD, W, gc, MO.keep, hl, ixD, at_0, h]
      · have h' : ¬ i < 0 := by omega
        simp [startD, slD, dr, partD, isNonC, items, srcOf, e, cmpD, bltD, binD, W, gc, MO.keep, hl, ixD, at_0, h, h']
    · have h1 : ¬ i < 0 := by omega
      have h2 : ¬ 100000000000000 ≤ i := by omega
      refine ⟨W 0 b 0, ?_, _, _, _, rfl, b0, b1, by omega, by omega⟩
      simp at e
      simp [startD, slD, dr, partD, isNonC, items, srcOf, e, cmpD, bltD, binD, W, gc, MO.keep, hl, ixD, at_0, h1, h2]
theorem rep_of {b : Bool} {S : Sto} : bltD S "repr" [.bl b] = some (.str (PyData.shown (.bool b))) := by
  have h : ((PyData.bool b).showable && !(PyData.bool b).hasDict && decide ((PyData.bool b).depth ≤ 64) && decide ((PyData.bool b).shown.length ≤ 16777216)) = true := by cases b <;> decide +kernel
  simp [bltD, dr, pd]
  simp only [Bool.and_eq_true, decide_eq_true_eq, Bool.not_eq_true'] at h
  exact ⟨h.1.1.1, h.1.1.2, h.1.2, h.2⟩
theorem holds (ns : List Int) : ∃ S, callN tb PT 40 "law" [.scr (ns.map .int)] [] = some (.bl true, S) := by
  obtain ⟨S0, e0, w0⟩ := spring (n := 38) (ns := ns)
  have lp : ∀ (xs : List D) (j : Nat) (q2 q3 q4 q5 : Option D) (S : Sto), Wl j S → j + xs.length * 17000001 < 100000000 → ∃ p2 p3 p4 p5 S', loopFor ⟨rngD 0 3, none⟩ (Dn.forTurn (geN tb PT 39) (.name 2) [.asg (.name 3) (.call "_law_thing" [.var 1]), .asg (.name 4) (.cmp2 .Lt .LtE (.int 0) (.call "_law_deep" [.var 3]) (.int 6)), .asg (.name 5) (.ite (.cmp .Eq (.call "_law_dip" [.var 1, .int 4]) (.int 0)) (.callK "is_pick" [] ["value"] [.var 3]) (.call "is_pick" [.var 3])), .ife (.cmp .NotEq (.blt "repr" [.var 5]) (.blt "repr" [.var 4])) [.ret (.bl false)] []])
      xs [some (.scr (ns.map .int)), some (.ref 0), q2, q3, q4, q5] S = some (.nx [some (.scr (ns.map .int)), some (.ref 0), p2, p3, p4, p5], S') ∧ ∃ m, Wl m S' := by
    intro xs
    induction xs with
    | nil => exact fun j q2 q3 q4 q5 S w hj => ⟨q2, q3, q4, q5, S, by unfold loopFor; rw [if_pos ok_none], j, w⟩
    | cons x xs ih =>
      intro j q2 q3 q4 q5 S w hj
      simp only [List.length_cons] at hj
      obtain ⟨d, S1, e1, w1, h1⟩ := thing (n := 25) w (by omega)
      have e2 := deep_eq 39 d S1 (by omega)
      obtain ⟨r, S3, e3, _, _, w3⟩ := dip (n := 38) w1 (by omega) (m := 4) (by omega) (by omega)
      have e4 := is_eq (n := 30) (d := d) (S := S3)
      rw [pick_deep] at e4
      obtain ⟨p2, p3, p4, p5, S', e5, wm⟩ := ih _ (some x) (some d) (some (.bl (decide (0 < deepD d ∧ deepD d ≤ 6)))) (some (.bl (decide (0 < deepD d ∧ deepD d ≤ 6)))) S3 w3 (by omega)
      refine ⟨p2, p3, p4, p5, S', ?_, wm⟩
      unfold loopFor
      rw [if_pos ok_none]
      have turn : Dn.forTurn (geN tb PT 39) (.name 2) [.asg (.name 3) (.call "_law_thing" [.var 1]), .asg (.name 4) (.cmp2 .Lt .LtE (.int 0) (.call "_law_deep" [.var 3]) (.int 6)), .asg (.name 5) (.ite (.cmp .Eq (.call "_law_dip" [.var 1, .int 4]) (.int 0)) (.callK "is_pick" [] ["value"] [.var 3]) (.call "is_pick" [.var 3])), .ife (.cmp .NotEq (.blt "repr" [.var 5]) (.blt "repr" [.var 4])) [.ret (.bl false)] []]
          x [some (.scr (ns.map .int)), some (.ref 0), q2, q3, q4, q5] S = some (.nx [some (.scr (ns.map .int)), some (.ref 0), some x, some d, some (.bl (decide (0 < deepD d ∧ deepD d ≤ 6))), some (.bl (decide (0 < deepD d ∧ deepD d ≤ 6)))], S3) := by
        have kw : kwOf PT "is_pick" 0 ["value"] = some [0] := by
          unfold kwOf
          rw [l_is]
          rfl
        by_cases z1 : 0 < deepD d <;> by_cases r0 : r = 0 <;> simp [Dn.forTurn, e1, e2, cmpD, dr, eqD, flatD, scal, vD, e3, r0, e4, kw, Dn.pick, rep_of, z1]
      rw [turn, Option.bind_some]
      exact e5
  obtain ⟨p2, p3, p4, p5, S', e5, m, a, b, c, rfl, _⟩ := lp (rngD 0 3) 0 none none none none S0 w0 (by rw [rng_len]; omega)
  refine ⟨W a b c, ?_⟩
  rw [q_of l_law rfl]
  simp only [c_p_law]
  simp [startD, e0, smallI, e5, W, gc, MO.keep]
end K42

set_option maxHeartbeats 0
namespace K42
open PySem PySem.Spec PyProof.Rows L2 Dn
abbrev R : PySem.W.OpenRow := PySem.W.OpenLaw.row PySem.Challenge.rw_bendatlas_k42_whole_picks_of_anything
abbrev hk : PySem.W.Hook := hookN 4 defs tb mk
def ob (s : PySem.W.SharedT) : He.AlD := obsNG 4 defs tb mk (HandSHeadRun.getT s)
theorem ob_eq (s : PySem.W.SharedT) : ob s = hk.obs s.abs := obsNG_eq (HandSHeadRun.getT_eq s)
abbrev loose : List Str := ["MOST_DEEP", "NAMES", "__name__", "ONES", "TWOS", "is_picked", "is_pick_by", "is_pick", "_law_spring", "_law_dip", "_law_any", "_law_deep", "_law_pick", "_law_odd", "_law_bent", "_law_thing"]
theorem run (w : World) : HandSHeadRun.RunEq R (PySem.W.view R.prog [18]) hk ob 2000 loose w := by
  intro os
  kernel_rfl
end K42

set_option maxHeartbeats 0
namespace K42
open PySem PySem.Spec PyProof.Rows L2 Dn
end K42
open PySem PySem.W PySem.Calls PyProof.Rows
theorem PySem.Challenge.cw_bendatlas_k42_whole_picks_of_anything_holds : PySem.Challenge.rw_bendatlas_k42_whole_picks_of_anything.Holds := by
  w_on; o_law
  refine HandSHeadRun.head_any (r := OpenLaw.row PySem.Challenge.rw_bendatlas_k42_whole_picks_of_anything) (q := view (OpenLaw.row PySem.Challenge.rw_bendatlas_k42_whole_picks_of_anything).prog [18]) (H := K42.hk) (ob := K42.ob) (M := 2000) (loose := K42.loose) (d := HandSHeadRun.topDef (OpenLaw.row PySem.Challenge.rw_bendatlas_k42_whole_picks_of_anything).prog 18) (kwd := []) K42.ob_eq
    (by kernel_rfl) (fun s => by kernel_rfl) K42.run (by kernel_rfl) (by kernel_rfl) (by kernel_rfl) (by rfl) (by first | assumption | decide +kernel) (by decide +kernel) ⟨rfl, rfl, rfl, rfl, rfl, by decide +kernel⟩ ?hw ?hc
  case hw => w_witness2
  case hc =>
    exact Dn.law_of (l := PySem.Challenge.rw_bendatlas_k42_whole_picks_of_anything) (n := 63) (k := 40) (x := "script") (dl := K42.d_p_law) rfl (by decide) (by kernel_rfl) ⟨rfl, by decide, by decide⟩ (by simp only [K42.defs, List.mem_cons, true_or, or_true]) (by kernel_rfl) rfl
      K42.nd K42.ck K42.bn K42.bk (by decide +kernel) (by decide +kernel) (fun ns _ => K42.holds ns)

