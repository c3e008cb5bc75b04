import PyProof.Rows.All
import Wide.All
import OpenK.AllK
import Wide.FinOn
import KE.KDeep
import KE.KItem
import KE.KIsAll
import KE.KTryMore
import KE.KDictList
import PySem.Challenge.RW_uf050025_12
set_option compiler.extract_closed false
set_option maxRecDepth 100000
set_option Elab.async false
set_option linter.unusedVariables false
set_option linter.unusedSimpArgs false
namespace Mine
open PySem PySem.Calls PyProof.Rows

-- Core1

/-- an abstract value: frozen data; a mutable object by its number; an exception by its class; a plain value of the text -/
inductive AV where
  | dat (d : PyData)
  | obj (i : Nat)
  | exc (C : Addr)
  | val (v : Value)

inductive AO where
  | list (xs : List PyData)
  | dict (kvs : List (PyData × PyData)) (ep : Nat)

noncomputable abbrev AH := List AO
noncomputable abbrev Lo := List (Str × AV)

noncomputable abbrev I (i : Int) : AV := .dat (.int i)
noncomputable abbrev B (b : Bool) : AV := .dat (.bool b)
noncomputable abbrev T (xs : List PyData) : AV := .dat (.tuple xs)
noncomputable abbrev Ls (xs : List PyData) : AV := .dat (.list xs)
noncomputable abbrev No : AV := .dat .none

noncomputable def Same (o o' : Obj) : Prop := o' = o ∨ ((∃ es n, o.data = .dict es n) ∧ ∃ sl, o' = { o with slots := sl })
theorem Same.refl (o : Obj) : Same o o := .inl rfl
theorem Same.cls {o o' : Obj} (h : Same o o') : o'.cls = o.cls := by rcases h with rfl | ⟨_, sl, rfl⟩ <;> rfl
theorem Same.data {o o' : Obj} (h : Same o o') : o'.data = o.data := by rcases h with rfl | ⟨_, sl, rfl⟩ <;> rfl
theorem Same.trans {a b c : Obj} (x : Same a b) (y : Same b c) : Same a c := by
  rcases x with rfl | ⟨h, sl, rfl⟩
  · exact y
  · rcases y with rfl | ⟨_, sl', rfl⟩
    · exact .inr ⟨h, sl, rfl⟩
    · exact .inr ⟨h, sl', rfl⟩
theorem Same.eq {o o' : Obj} (h : Same o o') (hn : ∀ es n, o.data ≠ .dict es n) : o' = o := by
  rcases h with rfl | ⟨⟨es, n, e⟩, _⟩
  · rfl
  · exact absurd e (hn es n)

/-- of what make an own place is: a table of names, or a cell -/
noncomputable def Kind (o o' : Obj) : Prop := (∀ es n, o.data = .dict es n → ∃ es' n', o'.data = .dict es' n') ∧ (∀ v, o.data = .cell v → ∃ v', o'.data = .cell v')
theorem Kind.of_data {o o' : Obj} (h : o'.data = o.data) : Kind o o' := ⟨fun es n e => ⟨es, n, h.trans e⟩, fun v e => ⟨v, h.trans e⟩⟩
theorem Kind.trans {a b c : Obj} (x : Kind a b) (y : Kind b c) : Kind a c :=
  ⟨fun es n e => let ⟨es', n', e'⟩ := x.1 es n e; y.1 es' n' e', fun v e => let ⟨v', e'⟩ := x.2 v e; y.2 v' e'⟩

/-- from s to s': what is neither tracked nor own stands as it stood -/
structure Go (O : Addr → Prop) (ads ads' : List Addr) (s s' : Shared) : Prop where
  kp : ∀ b o, s.heap.get? b = some o → b ∉ ads → ∃ o', s'.heap.get? b = some o' ∧ (¬ O b → Same o o') ∧ Kind o o'
  live : ∀ b o, s.heap.get? b = some o → ∃ o', s'.heap.get? b = some o'
  rest : ∃ h' tk, s' = { s with heap := h', toks := tk }
  pre : ∃ r, ads' = ads ++ r
  new : ∀ a ∈ ads', a ∈ ads ∨ s.heap.get? a = none

noncomputable abbrev nil : Addr → Prop := fun _ => False

theorem Go.refl (O : Addr → Prop) (ads : List Addr) (s : Shared) : Go O ads ads s s :=
  ⟨fun _ o e _ => ⟨o, e, fun _ => .refl _, .of_data rfl⟩, fun _ o e => ⟨o, e⟩, ⟨s.heap, s.toks, rfl⟩, ⟨[], by simp⟩, fun _ h => .inl h⟩

theorem Go.trans {O : Addr → Prop} {a b c : List Addr} {s t u : Shared} (x : Go O a b s t) (y : Go O b c t u) : Go O a c s u := by
  refine ⟨fun p o e hp => ?_, fun p o e => let ⟨o', e'⟩ := x.live p o e; y.live p o' e', ?_, ?_, fun p hp => ?_⟩
  · obtain ⟨o', e', h1, h2⟩ := x.kp p o e hp
    have hb : p ∉ b := fun q => (x.new p q).elim hp fun z => by rw [e] at z; cases z
    obtain ⟨o'', e'', h3, h4⟩ := y.kp p o' e' hb
    exact ⟨o'', e'', fun n => (h1 n).trans (h3 n), h2.trans h4⟩
  · obtain ⟨h', tk, rfl⟩ := x.rest
    obtain ⟨h'', tk', rfl⟩ := y.rest
    exact ⟨h'', tk', rfl⟩
  · obtain ⟨r, rfl⟩ := x.pre
    obtain ⟨r', rfl⟩ := y.pre
    exact ⟨r ++ r', by simp⟩
  · rcases y.new p hp with h | h
    · exact x.new p h
    · refine .inr ?_
      cases e : s.heap.get? p with
      | none => rfl
      | some o => obtain ⟨o', e'⟩ := x.live p o e; rw [h] at e'; cases e'

theorem Go.mono {O O' : Addr → Prop} {a b : List Addr} {s t : Shared} (x : Go O a b s t) (h : ∀ p, O p → O' p) : Go O' a b s t :=
  ⟨fun p o e hp => let ⟨o', e', h1, h2⟩ := x.kp p o e hp; ⟨o', e', fun n => h1 fun q => n (h p q), h2⟩, x.live, x.rest, x.pre, x.new⟩

theorem Go.at {O : Addr → Prop} {a b : List Addr} {s t : Shared} (x : Go O a b s t) {i : Nat} {p : Addr} (h : a[i]? = some p) : b[i]? = some p := by
  obtain ⟨r, rfl⟩ := x.pre
  rw [List.getElem?_append_left (List.getElem?_eq_some_iff.mp h).1]; exact h

/-- nothing that stands changes -/
noncomputable def Grow (s s' : Shared) : Prop := (∀ b o, s.heap.get? b = some o → s'.heap.get? b = some o) ∧ ∃ h' tk, s' = { s with heap := h', toks := tk }
theorem Grow.refl (s : Shared) : Grow s s := ⟨fun _ _ e => e, s.heap, s.toks, rfl⟩
theorem Grow.tok (s : Shared) (t : Nat) : Grow s { s with toks := t } := ⟨fun _ _ e => e, s.heap, t, rfl⟩
theorem Grow.push (s : Shared) (o : Obj) (t : Nat) : Grow s { s with heap := s.heap.push o, toks := t } :=
  ⟨fun _ _ e => Heap.get?_push_of_some _ e, _, t, rfl⟩
theorem Grow.go {s s' : Shared} (x : Grow s s') (O : Addr → Prop) (ads : List Addr) : Go O ads ads s s' :=
  ⟨fun b o e _ => ⟨o, x.1 b o e, fun _ => .refl _, .of_data rfl⟩, fun b o e => ⟨o, x.1 b o e⟩, x.2, ⟨[], by simp⟩, fun _ h => .inl h⟩

/-- what a value is, at a heap -/
noncomputable def VR (ads fr : List Addr) (h : Heap) : AV → Value → Prop
  | .dat d, v => ∃ as, Reads h v d as ∧ ∀ a ∈ as, a ∉ ads ∧ a ∉ fr
  | .obj i, v => ∃ a, ads[i]? = some a ∧ v = .ref a
  | .exc C, v => ∃ a o vs, v = .ref a ∧ h.get? a = some o ∧ o.cls = .ref C ∧ o.data = .fields vs ∧ a ∉ ads
  | .val c, v => v = c

noncomputable def VRs (ads fr : List Addr) (h : Heap) : List AV → List Value → Prop
  | [], vs => vs = []
  | a :: as, vs => ∃ v r, vs = v :: r ∧ VR ads fr h a v ∧ VRs ads fr h as r

/-- a table whose keys are tuples of ints -/
noncomputable def DK (a : Addr) (o : Obj) (es : Array DictEntry) (kvs : List (PyData × PyData)) (ep : Nat) : Prop :=
  o.cls = .type "dict" ∧ o.dict = none ∧ o.slots = #[] ∧ (a == sysModules) = false ∧ o.data = .dict es ep ∧ ∃ ks : List (List Int), kvs.map (·.1) = ks.map (fun k => PyData.tuple (k.map PyData.int)) ∧ es.toList.map (·.hash) = ks.map (fun k => reduceHash (Builtin.Tuple.tupleHashOf (k.map hashInt))) ∧ ks.Nodup
/-- what a tracked object is, at a heap -/
noncomputable def OR (ads fr : List Addr) (h : Heap) : AO → Addr → Prop
  | .list xs, a => ∃ items as, h.PlainList a items ∧ ReadsAll h items.toList xs as ∧ ∀ b ∈ as, b ∉ ads ∧ b ∉ fr
  | .dict kvs ep, a => ∃ o es n as bs, h.get? a = some o ∧ DK a o es kvs ep ∧ o.data = .dict es n ∧ ReadsAll h (es.toList.map (·.key)) (kvs.map (·.1)) as ∧
      ReadsAll h (es.toList.map (·.val)) (kvs.map (·.2)) bs ∧ ∀ b ∈ as ++ bs, b ∉ ads ∧ b ∉ fr

noncomputable def Fl (o : Obj) : Prop := (∃ es n, o.data = .dict es n) ∨ (∃ v, o.data = .cell v) ∨ (o.cls = .type "list" ∧ ∃ vs n, o.data = .seq vs n)

structure St (base : Heap) (σ : AH) (ads fr : List Addr) (h : Heap) : Prop where
  stays : base.StaysIn h
  len : σ.length = ads.length
  nodup : ads.Nodup
  new : ∀ a, a ∈ ads ∨ a ∈ fr → base.get? a = none
  obj : ∀ (i : Nat) (o : AO) (a : Addr), σ[i]? = some o → ads[i]? = some a → OR ads fr h o a
  frs : ∀ b ∈ fr, ∃ o, h.get? b = some o ∧ Fl o
  dis : ∀ a ∈ ads, a ∉ fr

theorem OR.there {ads fr : List Addr} {h : Heap} {o : AO} {a : Addr} (x : OR ads fr h o a) : ∃ ob, h.get? a = some ob ∧ ob.cls ≠ .type "tuple" ∧ ∀ vs, ob.data ≠ .fields vs := by
  cases o with
  | list xs => obtain ⟨items, as, ⟨n, e⟩, _⟩ := x; exact ⟨_, e, by simp, by simp⟩
  | dict kvs => obtain ⟨o, es, n, as, bs, e, hc, hd, _⟩ := x; exact ⟨_, e, by rw [hc.1]; simp, by rw [hd]; simp⟩

theorem St.adAt {base : Heap} {σ : AH} {ads fr : List Addr} {h : Heap} (S : St base σ ads fr h) {a : Addr} (ha : a ∈ ads) : ∃ ob, h.get? a = some ob ∧ ob.cls ≠ .type "tuple" ∧ ∀ vs, ob.data ≠ .fields vs := by
  obtain ⟨i, hi, rfl⟩ := List.getElem_of_mem ha
  have hl : i < σ.length := by rw [S.len]; exact hi
  exact (S.obj i σ[i] ads[i] (by simp [hl]) (by simp [hi])).there

/-- what a place visited by Reads must not be -/
theorem St.tupleAt {base : Heap} {σ : AH} {ads fr : List Addr} {h : Heap} (S : St base σ ads fr h) {a : Addr} {o : Obj} {vs : Array Value} {n : Nat} (ho : h.get? a = some o) (hc : o.cls = .type "tuple") (hd : o.data = .seq vs n) :
    a ∉ ads ∧ a ∉ fr := by
  refine ⟨fun ha => ?_, fun ha => ?_⟩
  · obtain ⟨ob, e, h1, _⟩ := S.adAt ha
    rw [ho] at e; cases e; exact h1 hc
  · obtain ⟨ob, e, h1⟩ := S.frs a ha
    rw [ho] at e; cases e
    rcases h1 with ⟨es, m, e⟩ | ⟨v, e⟩ | ⟨e, _⟩
    · rw [hd] at e; cases e
    · rw [hd] at e; cases e
    · rw [hc] at e; exact absurd e (by simp)

theorem St.fieldsAt {base : Heap} {σ : AH} {ads fr : List Addr} {h : Heap} (S : St base σ ads fr h) {a : Addr} {o : Obj} {vs : Array Value} (ho : h.get? a = some o) (hd : o.data = .fields vs) :
    a ∉ ads ∧ a ∉ fr := by
  refine ⟨fun ha => ?_, fun ha => ?_⟩
  · obtain ⟨ob, e, _, h1⟩ := S.adAt ha
    rw [ho] at e; cases e; exact h1 _ hd
  · obtain ⟨ob, e, h1⟩ := S.frs a ha
    rw [ho] at e; cases e
    rcases h1 with ⟨es, m, e⟩ | ⟨v, e⟩ | ⟨_, _, _, e⟩ <;> (rw [hd] at e; cases e)

section
variable {h h' : Heap} {P : Addr → Prop} (hk : ∀ b o, h.get? b = some o → ¬ P b → ∃ o', h'.get? b = some o' ∧ Same o o') (ht : ∀ a o vs n, h.get? a = some o → o.cls = .type "tuple" → o.data = .seq vs n → ¬ P a)
include hk ht
theorem reads_keep (v : Value) (d : PyData) (as : List Addr) (r : Reads h v d as) : (∀ a ∈ as, ¬ P a) → Reads h' v d as := by
  refine Reads.rec (motive_1 := fun v d as _ => (∀ a ∈ as, ¬ P a) → Reads h' v d as) (motive_2 := fun vs ds as _ => (∀ a ∈ as, ¬ P a) → ReadsAll h' vs ds as) (fun _ => .none) (fun _ _ => .bool _) (fun _ _ _ => .int _ _) (fun _ _ _ => .str _ _) ?_ ?_ ?_ (fun _ => .nil) ?_ r
  · intro a o vs n xs as h1 h2 h3 _ ih hp
    obtain ⟨o', e, sm⟩ := hk _ _ h1 (hp _ (List.mem_cons_self))
    exact .list e (sm.cls.trans h2) (sm.data.trans h3) (ih fun a ha => hp a (List.mem_cons_of_mem _ ha))
  · intro a o vs n xs as h1 h2 h3 _ ih hp
    obtain ⟨o', e, sm⟩ := hk _ _ h1 (ht _ _ _ _ h1 h2 h3)
    exact .tuple e (sm.cls.trans h2) (sm.data.trans h3) (ih hp)
  · intro a o es n kvs as bs h1 h2 h3 _ _ ih ih' hp
    obtain ⟨o', e, sm⟩ := hk _ _ h1 (hp _ (by simp))
    exact .dict e (sm.cls.trans h2) (sm.data.trans h3) (ih fun a ha => hp a (by simp [ha])) (ih' fun a ha => hp a (by simp [ha]))
  · intro v vs d ds as bs _ _ ih ih' hp
    exact .cons (ih fun a ha => hp a (List.mem_append_left _ ha)) (ih' fun a ha => hp a (List.mem_append_right _ ha))
theorem readsAll_keep (vs : List Value) (ds : List PyData) (as : List Addr) (r : ReadsAll h vs ds as) (hp : ∀ a ∈ as, ¬ P a) : ReadsAll h' vs ds as := by
  induction ds generalizing vs as with
  | nil => cases r; exact .nil
  | cons d ds ih =>
    cases r with
    | cons r1 r2 => exact .cons (reads_keep hk ht _ d _ r1 fun a ha => hp a (List.mem_append_left _ ha)) (ih _ _ r2 fun a ha => hp a (List.mem_append_right _ ha))
end
theorem readsAllP_keep {h h' : Heap} {P : Addr → Prop} (hk : ∀ b o, h.get? b = some o → ¬ P b → ∃ o', h'.get? b = some o' ∧ Same o o')
    (ht : ∀ a o vs n, h.get? a = some o → o.cls = .type "tuple" → o.data = .seq vs n → ¬ P a) (vs : List Value) (ds : List (PyData × PyData)) (as : List Addr) (r : ReadsAll h vs (ds.map (·.1)) as) (hp : ∀ a ∈ as, ¬ P a) : ReadsAll h' vs (ds.map (·.1)) as := readsAll_keep hk ht _ _ _ r hp
theorem readsAllQ_keep {h h' : Heap} {P : Addr → Prop} (hk : ∀ b o, h.get? b = some o → ¬ P b → ∃ o', h'.get? b = some o' ∧ Same o o')
    (ht : ∀ a o vs n, h.get? a = some o → o.cls = .type "tuple" → o.data = .seq vs n → ¬ P a) (vs : List Value) (ds : List (PyData × PyData)) (as : List Addr) (r : ReadsAll h vs (ds.map (·.2)) as) (hp : ∀ a ∈ as, ¬ P a) : ReadsAll h' vs (ds.map (·.2)) as := readsAll_keep hk ht _ _ _ r hp

/-- a list or a table stands there -/
noncomputable def Stands (h : Heap) (a : Addr) : Prop := ∃ o, h.get? a = some o ∧ ∀ vs, o.data ≠ .fields vs

/-- each place that Reads names stands -/
theorem reads_at {h : Heap} (v : Value) (d : PyData) (as : List Addr) (r : Reads h v d as) : ∀ a ∈ as, Stands h a := by
  refine Reads.rec (motive_1 := fun v d as _ => ∀ a ∈ as, Stands h a) (motive_2 := fun vs ds as _ => ∀ a ∈ as, Stands h a) (fun _ ha => nomatch ha) (fun _ _ ha => nomatch ha) (fun _ _ _ ha => nomatch ha) (fun _ _ _ ha => nomatch ha) ?_ ?_ ?_ (fun _ ha => nomatch ha) ?_ r
  · intro a o vs n xs as h1 h2 h3 _ ih b hb
    rcases List.mem_cons.mp hb with rfl | hb
    · exact ⟨_, h1, fun vs q => by rw [h3] at q; cases q⟩
    · exact ih b hb
  · intro a o vs n xs as h1 h2 h3 _ ih
    exact ih
  · intro a o es n kvs as bs h1 h2 h3 _ _ ih ih' b hb
    rcases List.mem_cons.mp hb with rfl | hb
    · exact ⟨_, h1, fun vs q => by rw [h3] at q; cases q⟩
    · exact (List.mem_append.mp hb).elim (ih b) (ih' b)
  · intro v vs d ds as bs _ _ ih ih' b hb
    exact (List.mem_append.mp hb).elim (ih b) (ih' b)
theorem readsAll_at {h : Heap} (vs : List Value) (ds : List PyData) (as : List Addr) (r : ReadsAll h vs ds as) (a : Addr) (ha : a ∈ as) : Stands h a := by
  induction ds generalizing vs as with
  | nil => cases r; cases ha
  | cons d ds ih =>
    cases r with
    | cons r1 r2 => exact (List.mem_append.mp ha).elim (fun q => reads_at _ d _ r1 a q) fun q => ih _ _ r2 q
theorem readsAllP_at {h : Heap} (vs : List Value) (ds : List (PyData × PyData)) (as : List Addr) (r : ReadsAll h vs (ds.map (·.1)) as) : ∀ a ∈ as, Stands h a := readsAll_at _ _ _ r
theorem readsAllQ_at {h : Heap} (vs : List Value) (ds : List (PyData × PyData)) (as : List Addr) (r : ReadsAll h vs (ds.map (·.2)) as) : ∀ a ∈ as, Stands h a := readsAll_at _ _ _ r

/-- a record of the interpreter's own (an iterator) -/
noncomputable def Bare (h : Heap) (b : Addr) : Prop := ∃ o vs T, h.get? b = some o ∧ o.data = .fields vs ∧ o.cls = .type T

section
variable {base : Heap} {σ : AH} {ads ads' fr : List Addr} {s s' : Shared} {O : Addr → Prop}

theorem Go.none (G : Go O ads ads' s s') {a : Addr} (h : s'.heap.get? a = none) : s.heap.get? a = none := by
  cases e : s.heap.get? a with
  | none => rfl
  | some o => obtain ⟨o', e'⟩ := G.live a o e; rw [h] at e'; cases e'

theorem St.keep (S : St base σ ads fr s.heap) (G : Go O ads ads' s s') (hO : ∀ b, O b → b ∈ fr ∨ Bare s.heap b) :
    ∀ b o, s.heap.get? b = some o → ¬ (b ∈ ads ∨ b ∈ fr ∨ Bare s.heap b) → ∃ o', s'.heap.get? b = some o' ∧ Same o o' := fun b o e hn => by
  obtain ⟨o', e', h1, _⟩ := G.kp b o e fun q => hn (.inl q)
  exact ⟨o', e', h1 fun q => hn (.inr (hO b q))⟩

theorem Stands.notBare {h : Heap} {a : Addr} (x : Stands h a) : ¬ Bare h a := fun ⟨_, vs, _, e, hd, _⟩ => by
  obtain ⟨o, e', hn⟩ := x
  rw [e] at e'; cases e'; exact hn vs hd

theorem St.tup (S : St base σ ads fr s.heap) : ∀ a o vs n, s.heap.get? a = some o → o.cls = .type "tuple" → o.data = .seq vs n → ¬ (a ∈ ads ∨ a ∈ fr ∨ Bare s.heap a) := fun a o vs n e hc hd q => by
  obtain ⟨h1, h2⟩ := S.tupleAt e hc hd
  rcases q with q | q | q
  · exact h1 q
  · exact h2 q
  · exact Stands.notBare ⟨o, e, fun ws z => by rw [hd] at z; cases z⟩ q

theorem avoid {as : List Addr} (G : Go O ads ads' s s') (hlt : ∀ a ∈ as, Stands s.heap a) (h : ∀ a ∈ as, a ∉ ads ∧ a ∉ fr) : ∀ a ∈ as, a ∉ ads' ∧ a ∉ fr := fun a ha =>
  ⟨fun q => (G.new a q).elim (h a ha).1 fun z => (by obtain ⟨o, e, _⟩ := hlt a ha; rw [e] at z; cases z), (h a ha).2⟩

theorem VR.go {v : AV} {cv : Value} (x : VR ads fr s.heap v cv) (S : St base σ ads fr s.heap) (G : Go O ads ads' s s') (hO : ∀ b, O b → b ∈ fr ∨ Bare s.heap b) : VR ads' fr s'.heap v cv := by
  cases v with
  | dat d =>
    obtain ⟨as, r, h⟩ := x
    exact ⟨as, reads_keep (S.keep G hO) S.tup _ _ _ r fun a ha q => (by
      rcases q with q | q | q
      · exact (h a ha).1 q
      · exact (h a ha).2 q
      · exact (reads_at _ _ _ r a ha).notBare q), avoid G (reads_at _ _ _ r) h⟩
  | obj i => obtain ⟨a, h1, h2⟩ := x; exact ⟨a, G.at h1, h2⟩
  | exc C =>
    obtain ⟨a, o, vs, rfl, e, hc, hd, hn⟩ := x
    obtain ⟨o', e', sm⟩ := S.keep G hO a o e fun q => (by
      rcases q with q | q | ⟨_, _, _, e', _, hc'⟩
      · exact (S.fieldsAt e hd).1 q
      · exact (S.fieldsAt e hd).2 q
      · rw [e] at e'; cases e'; rw [hc] at hc'; cases hc')
    exact ⟨a, o', vs, rfl, e', sm.cls.trans hc, sm.data.trans hd, fun q => (G.new a q).elim hn fun z => by rw [e] at z; cases z⟩
  | val c => exact x

/-- a state that has grown alone -/
theorem St.grow (S : St base σ ads fr s.heap) (G : Grow s s') : St base σ ads fr s'.heap := by
  have hk : ∀ b o, s.heap.get? b = some o → ¬ False → ∃ o', s'.heap.get? b = some o' ∧ Same o o' := fun b o e _ => ⟨o, G.1 b o e, .refl _⟩
  refine ⟨fun b o e => G.1 b o (S.stays b o e), S.len, S.nodup, S.new, fun i o a h1 h2 => ?_, fun b hb => let ⟨o, e, f⟩ := S.frs b hb; ⟨o, G.1 b o e, f⟩, S.dis⟩
  have x := S.obj i o a h1 h2
  cases o with
  | list xs =>
    obtain ⟨items, as, ⟨n, e⟩, r, h⟩ := x
    exact ⟨items, as, ⟨n, G.1 _ _ e⟩, readsAll_keep (P := nil) hk (fun _ _ _ _ _ _ _ => id) _ _ _ r fun _ _ => id, h⟩
  | dict kvs =>
    obtain ⟨o, es, n, as, bs, e, hc, hd, r1, r2, h⟩ := x
    exact ⟨o, es, n, as, bs, G.1 _ _ e, hc, hd, readsAllP_keep (P := nil) hk (fun _ _ _ _ _ _ _ => id) _ _ _ r1 fun _ _ => id, readsAllQ_keep (P := nil) hk (fun _ _ _ _ _ _ _ => id) _ _ _ r2 fun _ _ => id, h⟩

theorem VR.grow {v : AV} {cv : Value} (x : VR ads fr s.heap v cv) (S : St base σ ads fr s.heap) (G : Grow s s') : VR ads fr s'.heap v cv := x.go S (G.go nil ads) fun _ h => h.elim
end


-- Core2

structure Cx where
  prog : Program
  w : World
  base : Heap
  mg : Str → Option Value

structure Gd (c : Cx) : Prop where
  g : c.base.Ns mainGlobals c.mg
  b : ∃ mb, c.base.Ns builtinsNs mb ∧ ∀ x : Str, x ≠ "__name__" → mb x = bootBuiltins x
  nolimit : c.base.NoLimit

noncomputable abbrev Cx.M (c : Cx) : Model := model c.prog c.w

structure RdyC (q : Bool) (k : Nat) (A : Around) (fr : List Addr) (h : Heap) : Prop where
  depth : A.depth + k < recursionLimit
  units : A.units + 8 * k + 100 < cLine
  quiet : q = true → A.handled = none
  frames : ∃ l, A.frames = some l ∧ ∀ e ∈ l, e.scope.kind ≠ .module ∧ ∃ L, e.frame = some L ∧ L ∈ fr ∧ ∃ o es n, h.get? L = some o ∧ o.data = .dict es n

structure Rdy (q t : Bool) (k : Nat) (A : Around) (env : Env) (fr : List Addr) (h : Heap) : Prop extends RdyC q k A fr h where
  top : t = true → env.frame = some env.locals ∧ ∃ o, A.frames = some (env :: o)

noncomputable def Own (env : Env) (b : Addr) : Prop := b = env.locals ∨ ∃ x, env.cells.lookup x = some b

structure FrR (ads fr : List Addr) (env : Env) (ρ : Lo) (h : Heap) : Prop where
  kind : env.scope.kind = .function
  glob : env.globals = mainGlobals
  bi : env.builtins = builtinsNs
  lin : env.locals ∈ fr
  ns : ∃ m, h.Ns env.locals m ∧ ∀ x v, ρ.lookup x = some v → (env.kindOf x = some .local ∧ ∃ cv, m x = some cv ∧ VR ads fr h v cv) ∨
    ((env.kindOf x = some .cell ∨ env.kindOf x = some .free) ∧ ∃ cl cv, env.cells.lookup x = some cl ∧ h.IsCell cl (some cv) ∧ VR ads fr h v cv)
  cell : ∀ x, env.kindOf x = some .cell → ∃ cl v, env.cells.lookup x = some cl ∧ h.IsCell cl v
  cin : ∀ n cl, env.cells.lookup n = some cl → cl ∈ fr ∧ cl ≠ env.locals
  apart : ∀ x y cl, env.cells.lookup x = some cl → env.cells.lookup y = some cl → x = y

theorem FrR.own {ads fr : List Addr} {env : Env} {ρ : Lo} {h : Heap} (F : FrR ads fr env ρ h) : ∀ b, Own env b → b ∈ fr := fun b hb => by
  rcases hb with rfl | ⟨x, hx⟩
  · exact F.lin
  · exact (F.cin x b hx).1

section
variable {base : Heap} {σ : AH} {ads ads' fr : List Addr} {s s' : Shared} {O : Addr → Prop} {env : Env} {ρ : Lo} {q t : Bool} {k : Nat} {A : Around}

theorem ns_same {h h' : Heap} {a : Addr} {m : Str → Option Value} (hn : h.Ns a m) (hk : ∀ o, h.get? a = some o → ∃ o', h'.get? a = some o' ∧ Same o o') : h'.Ns a m := by
  obtain ⟨o, es, ep, e, hd, r⟩ := hn
  obtain ⟨o', e', sm⟩ := hk o e
  exact ⟨o', es, ep, e', sm.data.trans hd, r⟩
theorem cell_same {h h' : Heap} {a : Addr} {v : Option Value} (hn : h.IsCell a v) (hk : ∀ o, h.get? a = some o → ∃ o', h'.get? a = some o' ∧ Same o o') : h'.IsCell a v := by
  obtain ⟨o, e, hd⟩ := hn
  obtain ⟨o', e', sm⟩ := hk o e
  exact ⟨o', e', sm.data.trans hd⟩

theorem Go.sameAt (G : Go O ads ads' s s') (hO : ∀ b, O b → Bare s.heap b) (S : St base σ ads fr s.heap) {b : Addr} (hb : b ∈ fr) : ∀ o, s.heap.get? b = some o → ∃ o', s'.heap.get? b = some o' ∧ Same o o' := fun o e => by
  obtain ⟨o', e', h1, _⟩ := G.kp b o e fun ha => S.dis b ha hb
  refine ⟨o', e', h1 fun q => ?_⟩
  obtain ⟨o₁, vs, T, e₁, hd, _⟩ := hO b q
  exact (S.fieldsAt e₁ hd).2 hb

theorem FrR.goB (F : FrR ads fr env ρ s.heap) (S : St base σ ads fr s.heap) (G : Go O ads ads' s s') (hO : ∀ b, O b → Bare s.heap b) : FrR ads' fr env ρ s'.heap := by
  obtain ⟨m, hn, hρ⟩ := F.ns
  refine ⟨F.kind, F.glob, F.bi, F.lin, ⟨m, ns_same hn (G.sameAt hO S F.lin), fun x v hx => ?_⟩, fun x hx => ?_, F.cin, F.apart⟩
  · rcases hρ x v hx with ⟨h1, cv, h2, h3⟩ | ⟨h1, cl, cv, h2, h3, h4⟩
    · exact .inl ⟨h1, cv, h2, h3.go S G fun b h => .inr (hO b h)⟩
    · exact .inr ⟨h1, cl, cv, h2, cell_same h3 (G.sameAt hO S (F.cin x cl h2).1), h4.go S G fun b h => .inr (hO b h)⟩
  · obtain ⟨cl, v, h1, h2⟩ := F.cell x hx
    exact ⟨cl, v, h1, cell_same h2 (G.sameAt hO S (F.cin x cl h1).1)⟩
theorem FrR.go (F : FrR ads fr env ρ s.heap) (S : St base σ ads fr s.heap) (G : Go nil ads ads' s s') : FrR ads' fr env ρ s'.heap := F.goB S G fun _ h => h.elim

theorem RdyC.go (R : RdyC q k A fr s.heap) (S : St base σ ads fr s.heap) (G : Go O ads ads' s s') : RdyC q k A fr s'.heap := by
  obtain ⟨l, h1, h2⟩ := R.frames
  refine ⟨R.depth, R.units, R.quiet, l, h1, fun e he => ?_⟩
  obtain ⟨h3, L, h4, h5, o, es, n, h6, h7⟩ := h2 e he
  obtain ⟨o', e', _, kd⟩ := G.kp L o h6 fun ha => S.dis L ha h5
  obtain ⟨es', n', e''⟩ := kd.1 es n h7
  exact ⟨h3, L, h4, h5, o', es', n', e', e''⟩
theorem Rdy.go (R : Rdy q t k A env fr s.heap) (S : St base σ ads fr s.heap) (G : Go O ads ads' s s') : Rdy q t k A env fr s'.heap := ⟨R.toRdyC.go S G, R.top⟩
end

/-- an exception on its way, made since the heap h₀ -/
noncomputable def Fly (h₀ : Heap) (L : Option Addr) (e : Addr) (C : Addr) (h : Heap) : Prop :=
  h₀.get? e = none ∧ ∃ oe vs, h.get? e = some oe ∧ oe.cls = .ref C ∧ oe.data = .fields vs ∧ (∃ x0, vs[0]? = some x0) ∧
    (vs[1]? = some .none ∨ ∃ T oT ts, vs[1]? = some (.ref T) ∧ h₀.get? T = none ∧ T ≠ e ∧ h.get? T = some oT ∧ oT.data = .fields ts ∧ (ts[3]? = some .none ∨ ∃ l, L = some l ∧ ts[3]? = some (rawInt l)))

theorem Fly.mono {h₀ h₁ : Heap} {L : Option Addr} {e C : Addr} {h : Heap} (x : Fly h₁ L e C h) (hn : ∀ a, h₁.get? a = none → h₀.get? a = none) : Fly h₀ L e C h := by
  obtain ⟨h0, oe, vs, h1, h2, h3, h4, h5⟩ := x
  refine ⟨hn _ h0, oe, vs, h1, h2, h3, h4, h5.imp id ?_⟩
  rintro ⟨T, oT, ts, a1, a2, a3⟩
  exact ⟨T, oT, ts, a1, hn _ a2, a3⟩

/-- the end of an expression: a value, or an exception -/
noncomputable def EvQ (c : Cx) (ads fr : List Addr) (s : Shared) (Q : AV → AH → Prop) (cv : Value) (s' : Shared) : Prop :=
  ∃ v σ', Q v σ' ∧ Go nil ads ads s s' ∧ St c.base σ' ads fr s'.heap ∧ VR ads fr s'.heap v cv

noncomputable def EvX (c : Cx) (ads fr : List Addr) (L : Option Addr) (s : Shared) (X : Addr → AH → Prop) (ce : Value) (s' : Shared) : Prop :=
  ∃ C σ' e, ce = .ref e ∧ X C σ' ∧ Go nil ads ads s s' ∧ St c.base σ' ads fr s'.heap ∧ Fly s.heap L e C s'.heap

/-- the triple of an expression -/
noncomputable def Ev (c : Cx) (q t : Bool) (k : Nat) (sc : Scope) (ρ : Lo) (σ : AH) (e : Expr) (Q : AV → AH → Prop) (X : Addr → AH → Prop) : Prop :=
  ∀ A env s ads fr, env.scope = sc → Rdy q t k A env fr s.heap → FrR ads fr env ρ s.heap → St c.base σ ads fr s.heap →
    wpAny c.M A (eval e env) (EvQ c ads fr s Q) (EvX c ads fr env.frame s X) s

/-- the triple of a step upon values -/
noncomputable def Pr (c : Cx) (q : Bool) (k : Nat) (σ : AH) (m : List Value → Sem Value) (args : List AV) (Q : AV → AH → Prop) (X : Addr → AH → Prop) : Prop :=
  ∀ A s ads fr L cvs, RdyC q k A fr s.heap → St c.base σ ads fr s.heap → VRs ads fr s.heap args cvs → wpAny c.M A (m cvs) (EvQ c ads fr s Q) (EvX c ads fr L s X) s

section
variable {c : Cx} {q t : Bool} {k : Nat} {sc : Scope} {ρ : Lo} {σ : AH} {Q Q' : AV → AH → Prop} {X X' : Addr → AH → Prop} {A : Around} {env : Env} {s s₁ : Shared} {ads ads₁ fr : List Addr}

theorem EvQ.trans {cv : Value} {s' : Shared} (G : Go nil ads ads s s₁) (h : EvQ c ads fr s₁ Q cv s') : EvQ c ads fr s Q cv s' := by
  obtain ⟨v, σ', h1, h2, h3, h4⟩ := h
  exact ⟨v, σ', h1, G.trans h2, h3, h4⟩
theorem EvX.trans {L : Option Addr} {cv : Value} {s' : Shared} (G : Go nil ads ads s s₁) (h : EvX c ads fr L s₁ X cv s') : EvX c ads fr L s X cv s' := by
  obtain ⟨C, σ', e, h0, h1, h2, h3, h4⟩ := h
  exact ⟨C, σ', e, h0, h1, G.trans h2, h3, h4.mono fun _ z => G.none z⟩
theorem EvQ.mono {cv : Value} {s' : Shared} (h : EvQ c ads fr s Q cv s') (hQ : ∀ v σ, Q v σ → Q' v σ) : EvQ c ads fr s Q' cv s' := by
  obtain ⟨v, σ', a, b⟩ := h
  exact ⟨v, σ', hQ _ _ a, b⟩
theorem EvX.mono {L : Option Addr} {cv : Value} {s' : Shared} (h : EvX c ads fr L s X cv s') (hX : ∀ v σ, X v σ → X' v σ) : EvX c ads fr L s X' cv s' := by
  obtain ⟨C, σ', e, a0, a, b⟩ := h
  exact ⟨C, σ', e, a0, hX _ _ a, b⟩

theorem Ev.mono {e : Expr} (h : Ev c q t k sc ρ σ e Q X) (hQ : ∀ v σ, Q v σ → Q' v σ) (hX : ∀ v σ, X v σ → X' v σ) : Ev c q t k sc ρ σ e Q' X' :=
  fun A env s ads fr h1 h2 h3 h4 => wpAny_mono (h A env s ads fr h1 h2 h3 h4) (fun _ _ x => x.mono hQ) fun _ _ x => x.mono hX
/-- a value that stands as it stood, the state grown alone -/
theorem EvQ.here {v : AV} {cv : Value} {s' : Shared} (S : St c.base σ ads fr s.heap) (G : Grow s s') (V : VR ads fr s'.heap v cv) (h : Q v σ) : EvQ c ads fr s Q cv s' :=
  ⟨v, σ, h, G.go nil ads, S.grow G, V⟩
theorem EvQ.int {i : Int} {tk n : Nat} (S : St c.base σ ads fr s.heap) (h : Q (.dat (.int i)) σ) : EvQ c ads fr s Q (.int i tk) { s with toks := n } :=
  .here (v := .dat (.int i)) S (.tok s n) ⟨[], .int _ _, fun _ ha => nomatch ha⟩ h
theorem EvQ.bool {b : Bool} (S : St c.base σ ads fr s.heap) (h : Q (.dat (.bool b)) σ) : EvQ c ads fr s Q (.bool b) s :=
  .here (v := .dat (.bool b)) S (.refl s) ⟨[], .bool _, fun _ ha => nomatch ha⟩ h
end


-- Core3

section
variable {c : Cx} {q t : Bool} {k : Nat} {sc : Scope} {ρ : Lo} {σ : AH} {Q Q' : AV → AH → Prop} {X X' : Addr → AH → Prop} {A : Around} {env : Env} {s s₁ : Shared} {ads fr : List Addr}

/-- the frame's facts, all at once -/
structure Here (c : Cx) (q t : Bool) (k : Nat) (sc : Scope) (ρ : Lo) (σ : AH) (A : Around) (env : Env) (s : Shared) (ads fr : List Addr) : Prop where
  sc : env.scope = sc
  R : Rdy q t k A env fr s.heap
  F : FrR ads fr env ρ s.heap
  S : St c.base σ ads fr s.heap

theorem Here.go (H : Here c q t k sc ρ σ A env s ads fr) {σ' : AH} (G : Go nil ads ads s s₁) (S : St c.base σ' ads fr s₁.heap) : Here c q t k sc ρ σ' A env s₁ ads fr :=
  ⟨H.sc, H.R.go H.S G, H.F.go H.S G, S⟩

theorem Ev.at {e : Expr} (h : Ev c q t k sc ρ σ e Q X) (H : Here c q t k sc ρ σ A env s ads fr) : wpAny c.M A (eval e env) (EvQ c ads fr s Q) (EvX c ads fr env.frame s X) s :=
  h A env s ads fr H.sc H.R H.F H.S
theorem Ev.of {e : Expr} (h : ∀ A env s ads fr, Here c q t k sc ρ σ A env s ads fr → wpAny c.M A (eval e env) (EvQ c ads fr s Q) (EvX c ads fr env.frame s X) s) : Ev c q t k sc ρ σ e Q X :=
  fun A env s ads fr h1 h2 h3 h4 => h A env s ads fr ⟨h1, h2, h3, h4⟩

/-- an expression, and what is done behind it -/
theorem Ev.then {e : Expr} {P : AV → AH → Prop} {f : Value → Shared → Prop} (h : Ev c q t k sc ρ σ e P X) (H : Here c q t k sc ρ σ A env s ads fr)
    (hf : ∀ v σ₁ cv s₁, P v σ₁ → Go nil ads ads s s₁ → Here c q t k sc ρ σ₁ A env s₁ ads fr → VR ads fr s₁.heap v cv → f cv s₁) :
    wpAny c.M A (eval e env) f (EvX c ads fr env.frame s X) s :=
  wpAny_mono (h.at H) (fun cv s₁ ⟨v, σ₁, hP, G, S, V⟩ => hf v σ₁ cv s₁ hP G (H.go G S) V) fun _ _ x => x

theorem lift {m : Sem Value} (G : Go nil ads ads s s₁) {L : Option Addr} (h : wpAny c.M A m (EvQ c ads fr s₁ Q) (EvX c ads fr L s₁ X) s₁) : wpAny c.M A m (EvQ c ads fr s Q) (EvX c ads fr L s X) s₁ :=
  wpAny_mono h (fun _ _ x => x.trans G) fun _ _ x => x.trans G

/-! names -/
theorem Ev.nm {x : Str} {pos : Pos} {v : AV} (hv : ρ.lookup x = some v) (h : Q v σ) (hd : (x == ("__debug__" : Str)) = false := by decide) (hn : (x == ("__classdict__" : Str)) = false := by decide) :
    Ev c q t k sc ρ σ (.Name x pos) Q X := .of fun A env s ads fr H => by
  obtain ⟨m, hns, hρ⟩ := H.F.ns
  rcases hρ x v hv with ⟨h1, cv, h2, h3⟩ | ⟨h1, cl, cv, h2, h3, h4⟩
  · exact wpAny_Name (wpAny_loadName_local H.F.kind h1 hns h2 (.here H.S (.refl s) h3 h)) hd
  · rcases h1 with h1 | h1
    · exact wpAny_Name (wpAny_loadName_cell H.F.kind h1 h2 h3 (.here H.S (.refl s) h4 h)) hd
    · exact wpAny_Name (wpAny_loadName_free H.F.kind h1 h2 h3 (.here H.S (.refl s) h4 h) hn) hd

theorem Ev.gl (g : Gd c) {x : Str} {pos : Pos} {v : Value} (hk : sc.names.lookup x = some .globalImplicit) (hv : c.mg x = some v) (h : Q (.val v) σ) (hd : (x == ("__debug__" : Str)) = false := by decide) :
    Ev c q t k sc ρ σ (.Name x pos) Q X := .of fun A env s ads fr H =>
  Name_function_global H.F.kind (by rw [← H.sc] at hk; exact hk) (loadGlobal_global (by rw [H.F.glob]; exact g.g.keeps H.S.stays) hv (.here (v := .val v) H.S (.refl s) rfl h)) hd
theorem Ev.glInt (g : Gd c) {x : Str} {pos : Pos} {i : Int} {tk : Tok} (hk : sc.names.lookup x = some .globalImplicit) (hv : c.mg x = some (.int i tk)) (h : Q (.dat (.int i)) σ) (hd : (x == ("__debug__" : Str)) = false := by decide) :
    Ev c q t k sc ρ σ (.Name x pos) Q X := .of fun A env s ads fr H =>
  Name_function_global H.F.kind (by rw [← H.sc] at hk; exact hk) (loadGlobal_global (by rw [H.F.glob]; exact g.g.keeps H.S.stays) hv (.here (v := .dat (.int i)) H.S (.refl s) ⟨[], .int _ _, fun _ ha => nomatch ha⟩ h)) hd
theorem Ev.bi (g : Gd c) {x : Str} {pos : Pos} {v : Value} (hk : sc.names.lookup x = some .globalImplicit) (hm : c.mg x = none) (hv : bootBuiltins x = some v) (h : Q (.val v) σ) (hn : x ≠ "__name__" := by decide)
    (hd : (x == ("__debug__" : Str)) = false := by decide) : Ev c q t k sc ρ σ (.Name x pos) Q X := .of fun A env s ads fr H => by
  obtain ⟨mb, h1, h2⟩ := g.b
  exact Name_function_global H.F.kind (by rw [← H.sc] at hk; exact hk) (loadGlobal_builtin (by rw [H.F.glob]; exact g.g.keeps H.S.stays) hm (by rw [H.F.bi]; exact h1.keeps H.S.stays) ((h2 x hn).trans hv)
    (.here (v := .val v) H.S (.refl s) rfl h)) hd

/-! constants -/
theorem Ev.cint {i : Int} {kk : Nat} {pos : Pos} (h : Q (.dat (.int i)) σ) : Ev c q t k sc ρ σ (.Constant (.int i) kk pos) Q X := .of fun A env s ads fr H =>
  wpAny_Constant_int (.int H.S h)
theorem Ev.cbool {b : Bool} {kk : Nat} {pos : Pos} (h : Q (.dat (.bool b)) σ) : Ev c q t k sc ρ σ (.Constant (.bool b) kk pos) Q X := .of fun A env s ads fr H =>
  wpAny_Constant_bool (.bool H.S h)
theorem Ev.cnone {kk : Nat} {pos : Pos} (h : Q (.dat .none) σ) : Ev c q t k sc ρ σ (.Constant .none kk pos) Q X := .of fun A env s ads fr H =>
  wpAny_Constant_none (.here (v := .dat .none) H.S (.refl s) ⟨[], .none, fun _ ha => nomatch ha⟩ h)
theorem Ev.cstr {x : Str} {kk : Nat} {pos : Pos} (h : Q (.dat (.str x)) σ) : Ev c q t k sc ρ σ (.Constant (.str x) kk pos) Q X := .of fun A env s ads fr H =>
  wpAny_Constant_str (.here (v := .dat (.str x)) H.S (.tok s _) ⟨[], .str _ _, fun _ ha => nomatch ha⟩ h)

/-! operations upon values -/
noncomputable abbrev f1 (f : Value → Sem Value) : List Value → Sem Value
  | [a] => f a
  | _ => unsupported ""
noncomputable abbrev f2 (f : Value → Value → Sem Value) : List Value → Sem Value
  | [a, b] => f a b
  | _ => unsupported ""

theorem Ev.binop {l r : Expr} {op : Operator} {pos : Pos} (h : Ev c q t k sc ρ σ l (fun a σ₁ => Ev c q t k sc ρ σ₁ r (fun b σ₂ => Pr c q k σ₂ (f2 (binaryOp op)) [a, b] Q X) X) X) :
    Ev c q t k sc ρ σ (.BinOp l op r pos) Q X := .of fun A env s ads fr H => by
  refine wpAny_BinOp (h.then H fun a σ₁ ca s₁ hr G₁ H₁ Va => ?_)
  refine wpAny_mono (hr.at H₁) (fun cb s₂ hq => ?_) fun _ _ x => x.trans G₁
  obtain ⟨b, σ₂, hp, G₂, S₂, Vb⟩ := hq
  have H₂ := H₁.go G₂ S₂
  exact lift (G₁.trans G₂) (hp A s₂ ads fr env.frame [ca, cb] H₂.R.toRdyC S₂ ⟨ca, [cb], rfl, Va.go H₁.S G₂ fun _ z => z.elim, cb, [], rfl, Vb, rfl⟩)

theorem Ev.cmp {l r : Expr} {op : CmpOp} {pos : Pos} (h : Ev c q t k sc ρ σ l (fun a σ₁ => Ev c q t k sc ρ σ₁ r (fun b σ₂ => Pr c q k σ₂ (f2 (compareOp op)) [a, b] Q X) X) X)
    (hm : behindInMarks op r = false := by with_unfolding_all rfl) :
    Ev c q t k sc ρ σ (.Compare l [op] [r] pos) Q X := .of fun A env s ads fr H => by
  refine wpAny_Compare1 (h.then H fun a σ₁ ca s₁ hr G₁ H₁ Va => ?_) hm
  refine wpAny_mono (hr.at H₁) (fun cb s₂ hq => ?_) fun _ _ x => x.trans G₁
  obtain ⟨b, σ₂, hp, G₂, S₂, Vb⟩ := hq
  have H₂ := H₁.go G₂ S₂
  exact lift (G₁.trans G₂) (hp A s₂ ads fr env.frame [ca, cb] H₂.R.toRdyC S₂ ⟨ca, [cb], rfl, Va.go H₁.S G₂ fun _ z => z.elim, cb, [], rfl, Vb, rfl⟩)

theorem Ev.unop {x : Expr} {op : UnaryOp} {pos : Pos} (h : Ev c q t k sc ρ σ x (fun a σ₁ => Pr c q k σ₁ (f1 (unaryOp op)) [a] Q X) X) : Ev c q t k sc ρ σ (.UnaryOp op x pos) Q X := .of fun A env s ads fr H => by
  refine wpAny_UnaryOp (h.then H fun a σ₁ ca s₁ hr G₁ H₁ Va => ?_)
  exact lift G₁ (hr A s₁ ads fr env.frame [ca] H₁.R.toRdyC H₁.S ⟨ca, [], rfl, Va, rfl⟩)

theorem Ev.sub {value slice : Expr} {pos : Pos} (h : Ev c q t k sc ρ σ value (fun a σ₁ => Ev c q t k sc ρ σ₁ slice (fun b σ₂ => Pr c q k σ₂ (f2 (subscriptTail value slice)) [a, b] Q X) X) X) :
    Ev c q t k sc ρ σ (.Subscript value slice pos) Q X := .of fun A env s ads fr H => by
  refine Subscript_ (h.then H fun a σ₁ ca s₁ hr G₁ H₁ Va => ?_)
  refine wpAny_mono (hr.at H₁) (fun cb s₂ hq => ?_) fun _ _ x => x.trans G₁
  obtain ⟨b, σ₂, hp, G₂, S₂, Vb⟩ := hq
  have H₂ := H₁.go G₂ S₂
  exact lift (G₁.trans G₂) (hp A s₂ ads fr env.frame [ca, cb] H₂.R.toRdyC S₂ ⟨ca, [cb], rfl, Va.go H₁.S G₂ fun _ z => z.elim, cb, [], rfl, Vb, rfl⟩)

/-! several expressions in a row -/
noncomputable def EvsQ (c : Cx) (ads fr : List Addr) (s : Shared) (Q : List AV → AH → Prop) (cvs : List Value) (s' : Shared) : Prop :=
  ∃ vs σ', Q vs σ' ∧ Go nil ads ads s s' ∧ St c.base σ' ads fr s'.heap ∧ VRs ads fr s'.heap vs cvs
noncomputable def Evs (c : Cx) (q t : Bool) (k : Nat) (sc : Scope) (ρ : Lo) (σ : AH) (es : List Expr) (Q : List AV → AH → Prop) (X : Addr → AH → Prop) : Prop :=
  ∀ A env s ads fr pos, Here c q t k sc ρ σ A env s ads fr → wpAny c.M A (spliced (backTo pos (starEach es env))) (EvsQ c ads fr s Q) (EvX c ads fr env.frame s X) s

variable {Qs : List AV → AH → Prop}
theorem Evs.nil (h : Qs [] σ) : Evs c q t k sc ρ σ [] Qs X := fun A env s ads fr pos H => wpAny_items_nil ⟨[], σ, h, .refl .., H.S, rfl⟩
theorem Evs.cons {e : Expr} {rest : List Expr} (h : Ev c q t k sc ρ σ e (fun v σ₁ => Evs c q t k sc ρ σ₁ rest (fun vs σ₂ => Qs (v :: vs) σ₂) X) X)
    (he : ∀ env, starEach (e :: rest) env = (false, eval e env) :: starEach rest env := by intro _; rfl) : Evs c q t k sc ρ σ (e :: rest) Qs X := fun A env s ads fr pos H => by
  refine wpAny_items_cons (h.then H fun a σ₁ ca s₁ hr G₁ H₁ Va => ?_) (he env)
  refine wpAny_mono (hr A env s₁ ads fr pos H₁) (fun cvs s₂ hq => ?_) fun _ _ x => x.trans G₁
  obtain ⟨vs, σ₂, hp, G₂, S₂, Vs⟩ := hq
  exact ⟨a :: vs, σ₂, hp, G₁.trans G₂, S₂, ca, cvs, rfl, Va.go H₁.S G₂ fun _ z => z.elim, Vs⟩

/-! calls -/
/-- the contract of a def: it is at the address f -/
noncomputable abbrev Fn (c : Cx) (q : Bool) (k : Nat) (f : Addr) (args : List AV) (σ : AH) (Q : AV → AH → Prop) (X : Addr → AH → Prop) : Prop := Pr c q k σ (fun vs => call (.ref f) vs) args Q X

theorem Ev.callFn (g : Gd c) {x : Str} {p pos : Pos} {e : Expr} {rest : List Expr} {f : Addr} {o : Obj} {fd : FuncData} (hk : sc.names.lookup x = some .globalImplicit) (hv : c.mg x = some (.ref f))
    (ho : c.base.get? f = some o) (hd : o.data = .func fd)
    (h : Evs c q t k sc ρ σ (e :: rest) (fun vs σ₁ => Fn c q k f vs σ₁ Q X) X) (hdb : (x == ("__debug__" : Str)) = false := by decide)
    (he : ∀ env, starEach (e :: rest) env = (false, eval e env) :: starEach rest env := by intro _; rfl) :
    Ev c q t k sc ρ σ (.Call (.Name x p) (e :: rest) [] pos) Q X := .of fun A env s ads fr H => by
  refine Call_ ?_
  refine Name_function_global H.F.kind (by rw [← H.sc] at hk; exact hk) (loadGlobal_global (by rw [H.F.glob]; exact g.g.keeps H.S.stays) hv ?_) hdb
  refine callWith_def hd (wpAny_mono (h A env s ads fr pos H) (fun cvs s₁ hq => ?_) fun _ _ x => x) (he env)
  obtain ⟨vs, σ₁, hp, G₁, S₁, Vs⟩ := hq
  exact ⟨S₁.stays _ _ ho, lift G₁ (hp A s₁ ads fr env.frame cvs (H.go G₁ S₁).R.toRdyC S₁ Vs)⟩

theorem Ev.callBi (g : Gd c) {x : Str} {p pos : Pos} {e : Expr} {rest : List Expr} {id : String} (hk : sc.names.lookup x = some .globalImplicit) (hm : c.mg x = none) (hb : bootBuiltins x = some (.builtin id))
    (h : Evs c q t k sc ρ σ (e :: rest) (fun vs σ₁ => Pr c q k σ₁ (fun vs => call (.builtin id) vs) vs Q X) X) (hn : x ≠ "__name__" := by decide) (hdb : (x == ("__debug__" : Str)) = false := by decide)
    (he : ∀ env, starEach (e :: rest) env = (false, eval e env) :: starEach rest env := by intro _; rfl) (hp : ∀ pos env, (backTo pos (starEach rest env)).any (·.1) = false := by intro _ _; rfl) :
    Ev c q t k sc ρ σ (.Call (.Name x p) (e :: rest) [] pos) Q X := .of fun A env s ads fr H => by
  obtain ⟨mb, h1, h2⟩ := g.b
  refine Call_ ?_
  refine Name_function_global H.F.kind (by rw [← H.sc] at hk; exact hk) (loadGlobal_builtin (by rw [H.F.glob]; exact g.g.keeps H.S.stays) hm (by rw [H.F.bi]; exact h1.keeps H.S.stays) ((h2 x hn).trans hb) ?_) hdb
  refine PyProof.Rows.callWith_builtin1 (wpAny_mono (h A env s ads fr pos H) (fun cvs s₁ hq => ?_) fun _ _ x => x) (he env) (hp pos env)
  obtain ⟨vs, σ₁, hp, G₁, S₁, Vs⟩ := hq
  exact lift G₁ (hp A s₁ ads fr env.frame cvs (H.go G₁ S₁).R.toRdyC S₁ Vs)
end


-- Core4

section
variable {c : Cx} {q t : Bool} {k : Nat} {sc : Scope} {ρ : Lo} {σ : AH} {Q Q' : AV → AH → Prop} {X X' : Addr → AH → Prop} {A : Around} {env : Env} {s s₁ : Shared} {ads fr : List Addr}

/-! tests -/
noncomputable def TbQ (c : Cx) (ads fr : List Addr) (s : Shared) (Q : Bool → AH → Prop) (b : Bool) (s' : Shared) : Prop := ∃ σ', Q b σ' ∧ Go nil ads ads s s' ∧ St c.base σ' ads fr s'.heap
noncomputable def Tb (c : Cx) (q t : Bool) (k : Nat) (sc : Scope) (ρ : Lo) (σ : AH) (e : Expr) (Q : Bool → AH → Prop) (X : Addr → AH → Prop) : Prop :=
  ∀ A env s ads fr, Here c q t k sc ρ σ A env s ads fr → wpAny c.M A (isTrue e env (eval e env)) (TbQ c ads fr s Q) (EvX c ads fr env.frame s X) s
noncomputable def TbA (c : Cx) (q t : Bool) (k : Nat) (sc : Scope) (ρ : Lo) (σ : AH) (op : BoolOp) (es : List Expr) (Q : Bool → AH → Prop) (X : Addr → AH → Prop) : Prop :=
  ∀ A env s ads fr, Here c q t k sc ρ σ A env s ads fr → wpAny c.M A (allTrue op es env) (TbQ c ads fr s Q) (EvX c ads fr env.frame s X) s

variable {Qb : Bool → AH → Prop}
theorem TbQ.trans {b : Bool} {s' : Shared} (G : Go nil ads ads s s₁) (h : TbQ c ads fr s₁ Qb b s') : TbQ c ads fr s Qb b s' := by
  obtain ⟨σ', h1, h2, h3⟩ := h
  exact ⟨σ', h1, G.trans h2, h3⟩

/-- the truth of a value -/
noncomputable def Truth (σ : AH) : AV → Bool → Prop
  | .dat (.bool x), b => b = x
  | .dat (.int i), b => b = (i != 0)
  | .dat (.list xs), b => b = !xs.isEmpty ∧ (xs.length : Int) < 2 ^ 63
  | .dat .none, b => b = false
  | .obj i, b => ∃ xs, σ[i]? = some (.list xs) ∧ b = !xs.isEmpty ∧ (xs.length : Int) < 2 ^ 63
  | _, _ => False

theorem readsAll_size {h : Heap} {items : Array Value} {xs : List PyData} {as : List Addr} (r : ReadsAll h items.toList xs as) : items.size = xs.length := by
  have : ∀ (xs : List PyData) (vs : List Value) (as : List Addr), ReadsAll h vs xs as → vs.length = xs.length := by
    intro xs
    induction xs with
    | nil => intro vs as r; cases r; rfl
    | cons x xs ih => intro vs as r; cases r with | cons _ r' => simp [ih _ _ r']
  simpa using this _ _ _ r

theorem isEmpty_reads {h : Heap} {items : Array Value} {xs : List PyData} {as : List Addr} (r : ReadsAll h items.toList xs as) : items.isEmpty = xs.isEmpty := by
  have := readsAll_size r
  cases xs with
  | nil => simp at this; simp [this]
  | cons x xs => simp at this; cases hi : items.isEmpty with
    | false => rfl
    | true => simp at hi; subst hi; simp at this

theorem truth_wp {v : AV} {cv : Value} {b : Bool} {P : Bool → Shared → Prop} {E : Value → Shared → Prop} (ht : Truth σ v b) (S : St c.base σ ads fr s.heap) (V : VR ads fr s.heap v cv) (h : ∀ tk, P b { s with toks := tk }) :
    wpAny c.M A (truthy cv) P E s := by
  have h0 : P b s := h s.toks
  cases v with
  | dat d =>
    obtain ⟨as, r, _⟩ := V
    cases d with
    | bool x => cases r; obtain rfl : b = x := ht; exact wpAny_truthy_bool h0
    | int i => cases r; obtain rfl : b = (i != 0) := ht; exact truthy_int h0
    | none => cases r; obtain rfl : b = false := ht; exact fun _ _ _ => h0
    | list xs =>
      cases r with
      | list h1 h2 h3 h4 =>
        obtain ⟨rfl, hl⟩ := ht
        exact wpAny_truthy_list ⟨_, h1, h2, _, h3⟩ (by rw [readsAll_size h4]; exact hl) (by rw [isEmpty_reads h4]; exact h _)
    | _ => exact ht.elim
  | obj i =>
    obtain ⟨xs, hx, rfl, hl⟩ := ht
    obtain ⟨a, ha, rfl⟩ := V
    obtain ⟨items, as, hp, r, _⟩ := S.obj i _ a hx ha
    exact wpAny_truthy_list hp.isList (by rw [readsAll_size r]; exact hl) (by rw [isEmpty_reads r]; exact h _)
  | _ => exact ht.elim

theorem Tb.val {e : Expr} (h : Ev c q t k sc ρ σ e (fun v σ₁ => ∃ b, Truth σ₁ v b ∧ Qb b σ₁) X)
    (he : ∀ env, isTrue e env (eval e env) = (do let v ← eval e env; standAt e.pos; holding [v] (truthy v)) := by intro _; rfl) : Tb c q t k sc ρ σ e Qb X := fun A env s ads fr H => by
  refine wpAny_isTrue_value (h.then H fun v σ₁ cv s₁ hb G₁ H₁ V => ?_) (he env)
  obtain ⟨b, h1, h2⟩ := hb
  exact truth_wp h1 H₁.S V fun tk => ⟨σ₁, h2, G₁.trans ((Grow.tok s₁ tk).go ..), H₁.S⟩
theorem Tb.cmp {l r : Expr} {op : CmpOp} {pos : Pos} (h : Ev c q t k sc ρ σ l (fun a σ₁ => Ev c q t k sc ρ σ₁ r (fun b σ₂ => Pr c q k σ₂ (f2 (compareOp op)) [a, b] (fun v σ₃ => ∃ b, Truth σ₃ v b ∧ Qb b σ₃) X) X) X)
    (hm : behindInMarks op r = false := by with_unfolding_all rfl) : Tb c q t k sc ρ σ (.Compare l [op] [r] pos) Qb X := fun A env s ads fr H => by
  refine wpAny_isTrue_Compare1 (h.then H fun a σ₁ ca s₁ hr G₁ H₁ Va => ?_) hm
  refine wpAny_mono (hr.at H₁) (fun cb s₂ hq => ?_) fun _ _ x => x.trans G₁
  obtain ⟨b, σ₂, hp, G₂, S₂, Vb⟩ := hq
  have H₂ := H₁.go G₂ S₂
  refine wpAny_mono (hp A s₂ ads fr env.frame [ca, cb] H₂.R.toRdyC S₂ ⟨ca, [cb], rfl, Va.go H₁.S G₂ fun _ z => z.elim, cb, [], rfl, Vb, rfl⟩) (fun cv s₃ hq => ?_) fun _ _ x => x.trans (G₁.trans G₂)
  obtain ⟨v, σ₃, ⟨bb, h1, h2⟩, G₃, S₃, V⟩ := hq
  exact truth_wp h1 S₃ V fun tk => ⟨σ₃, h2, (G₁.trans (G₂.trans G₃)).trans ((Grow.tok s₃ tk).go ..), S₃⟩
theorem Tb.not {e : Expr} {pos : Pos} (h : Tb c q t k sc ρ σ e (fun b σ₁ => Qb (!b) σ₁) X) : Tb c q t k sc ρ σ (.UnaryOp .Not e pos) Qb X := fun A env s ads fr H =>
  wpAny_isTrue_Not (h A env s ads fr H)
theorem Tb.and {es : List Expr} {pos : Pos} (h : TbA c q t k sc ρ σ .And es Qb X) : Tb c q t k sc ρ σ (.BoolOp .And es pos) Qb X := fun A env s ads fr H => wpAny_isTrue_BoolOp (h A env s ads fr H)
theorem Tb.or {es : List Expr} {pos : Pos} (h : TbA c q t k sc ρ σ .Or es Qb X) : Tb c q t k sc ρ σ (.BoolOp .Or es pos) Qb X := fun A env s ads fr H => wpAny_isTrue_BoolOp (h A env s ads fr H)
theorem TbA.andNil (h : Qb true σ) : TbA c q t k sc ρ σ .And [] Qb X := fun A env s ads fr H => wpAny_allTrue_And_nil ⟨σ, h, .refl .., H.S⟩
theorem TbA.orNil (h : Qb false σ) : TbA c q t k sc ρ σ .Or [] Qb X := fun A env s ads fr H => wpAny_allTrue_Or_nil ⟨σ, h, .refl .., H.S⟩
theorem TbA.andCons {e : Expr} {rest : List Expr} (h : Tb c q t k sc ρ σ e (fun b σ₁ => if b = true then TbA c q t k sc ρ σ₁ .And rest Qb X else Qb false σ₁) X) : TbA c q t k sc ρ σ .And (e :: rest) Qb X := fun A env s ads fr H => by
  refine wpAny_allTrue_And_cons (wpAny_mono (h A env s ads fr H) (fun b s₁ hq => ?_) fun _ _ x => x)
  obtain ⟨σ₁, h1, G, S⟩ := hq
  cases b with
  | false => exact ⟨σ₁, h1, G, S⟩
  | true => exact wpAny_mono (h1 A env s₁ ads fr (H.go G S)) (fun _ _ x => x.trans G) fun _ _ x => x.trans G
theorem TbA.orCons {e : Expr} {rest : List Expr} (h : Tb c q t k sc ρ σ e (fun b σ₁ => if b = true then Qb true σ₁ else TbA c q t k sc ρ σ₁ .Or rest Qb X) X) : TbA c q t k sc ρ σ .Or (e :: rest) Qb X := fun A env s ads fr H => by
  refine wpAny_allTrue_Or_cons (wpAny_mono (h A env s ads fr H) (fun b s₁ hq => ?_) fun _ _ x => x)
  obtain ⟨σ₁, h1, G, S⟩ := hq
  cases b with
  | false => exact wpAny_mono (h1 A env s₁ ads fr (H.go G S)) (fun _ _ x => x.trans G) fun _ _ x => x.trans G
  | true => exact ⟨σ₁, h1, G, S⟩

/-! and, or, not as values -/
noncomputable def EvB (c : Cx) (q t : Bool) (k : Nat) (sc : Scope) (ρ : Lo) (σ : AH) (op : BoolOp) (es : List Expr) (Q : AV → AH → Prop) (X : Addr → AH → Prop) : Prop :=
  ∀ A env s ads fr pos, Here c q t k sc ρ σ A env s ads fr → wpAny c.M A (boolOp pos op (evalEach es env)) (EvQ c ads fr s Q) (EvX c ads fr env.frame s X) s
theorem Ev.boolOp {op : BoolOp} {es : List Expr} {pos : Pos} (h : EvB c q t k sc ρ σ op es Q X) : Ev c q t k sc ρ σ (.BoolOp op es pos) Q X := .of fun A env s ads fr H => h A env s ads fr pos H
theorem EvB.one {op : BoolOp} {e : Expr} (h : Ev c q t k sc ρ σ e Q X) : EvB c q t k sc ρ σ op [e] Q X := fun A env s ads fr pos H => h.at H
theorem EvB.and {e e' : Expr} {rest : List Expr} (h : Ev c q t k sc ρ σ e (fun v σ₁ => ∃ b, Truth σ₁ v b ∧ if b = true then EvB c q t k sc ρ σ₁ .And (e' :: rest) Q X else Q v σ₁) X) : EvB c q t k sc ρ σ .And (e :: e' :: rest) Q X := fun A env s ads fr pos H => by
  show wpAny c.M A (do let v ← eval e env; standAt pos; let t ← holding [v] (truthy v); match BoolOp.And, t with | .And, false | .Or, true => pure v | _, _ => PySem.boolOp pos .And (evalEach (e' :: rest) env)) _ _ s
  refine wpAny_bind (h.then H fun v σ₁ cv s₁ hb G₁ H₁ V => ?_)
  obtain ⟨b, h1, h2⟩ := hb
  refine wpAny_bind (wpAny_standAt (wpAny_bind (wpAny_holding (truth_wp h1 H₁.S V fun tk => ?_))))
  have G₂ := (Grow.tok s₁ tk).go nil ads
  cases b with
  | false => exact wpAny_pure ⟨v, σ₁, h2, G₁.trans G₂, H₁.S, V⟩
  | true => exact wpAny_mono (h2 A env _ ads fr pos (H₁.go G₂ H₁.S)) (fun _ _ x => x.trans (G₁.trans G₂)) fun _ _ x => x.trans (G₁.trans G₂)
theorem Pr.not {v : AV} {b : Bool} (ht : Truth σ v b) (h : Q (.dat (.bool (!b))) σ) : Pr c q k σ (f1 (unaryOp .Not)) [v] Q X := fun A s ads fr L cvs R S V => by
  obtain ⟨cv, r, rfl, V, rfl⟩ := V
  exact not_value (truth_wp ht S V fun tk => .here (v := .dat (.bool _)) S (.tok s tk) ⟨[], .bool _, fun _ ha => nomatch ha⟩ h)
end

/-! statements -/
inductive Fw where
  | next | brk | cont
  | ret (v : AV)

noncomputable def FlR (ads fr : List Addr) (h : Heap) : Fw → Flow → Prop
  | .next, f => f = .next
  | .brk, f => f = .brk
  | .cont, f => f = .cont
  | .ret v, f => ∃ cv, f = .ret cv ∧ VR ads fr h v cv

noncomputable def ExQ (c : Cx) (ads fr : List Addr) (env : Env) (s : Shared) (Q : Fw → Lo → AH → Prop) (fl : Flow) (s' : Shared) : Prop :=
  ∃ fw ρ' σ' ads', Q fw ρ' σ' ∧ Go (Own env) ads ads' s s' ∧ St c.base σ' ads' fr s'.heap ∧ FrR ads' fr env ρ' s'.heap ∧ FlR ads' fr s'.heap fw fl
noncomputable def ExX (c : Cx) (ads fr : List Addr) (env : Env) (s : Shared) (X : Addr → Lo → AH → Prop) (ce : Value) (s' : Shared) : Prop :=
  ∃ C ρ' σ' ads' e, ce = .ref e ∧ X C ρ' σ' ∧ Go (Own env) ads ads' s s' ∧ St c.base σ' ads' fr s'.heap ∧ FrR ads' fr env ρ' s'.heap ∧ Fly s.heap env.frame e C s'.heap

noncomputable def Ex (c : Cx) (q t : Bool) (k : Nat) (sc : Scope) (ρ : Lo) (σ : AH) (st : Stmt) (Q : Fw → Lo → AH → Prop) (X : Addr → Lo → AH → Prop) : Prop :=
  ∀ A env s ads fr, Here c q t k sc ρ σ A env s ads fr → wpAny c.M A (exec st env) (ExQ c ads fr env s Q) (ExX c ads fr env s X) s
noncomputable def Exs (c : Cx) (q t : Bool) (k : Nat) (sc : Scope) (ρ : Lo) (σ : AH) (st : List Stmt) (Q : Fw → Lo → AH → Prop) (X : Addr → Lo → AH → Prop) : Prop :=
  ∀ A env s ads fr, Here c q t k sc ρ σ A env s ads fr → wpAny c.M A (execs st env) (ExQ c ads fr env s Q) (ExX c ads fr env s X) s

section
variable {c : Cx} {q t : Bool} {k : Nat} {sc : Scope} {ρ : Lo} {σ : AH} {Q Q' : Fw → Lo → AH → Prop} {X X' : Addr → Lo → AH → Prop} {A : Around} {env : Env} {s s₁ : Shared} {ads ads₁ fr : List Addr}

theorem ExQ.trans {fl : Flow} {s' : Shared} (G : Go (Own env) ads ads₁ s s₁) (h : ExQ c ads₁ fr env s₁ Q fl s') : ExQ c ads fr env s Q fl s' := by
  obtain ⟨fw, ρ', σ', ads', h1, h2, h3⟩ := h
  exact ⟨fw, ρ', σ', ads', h1, G.trans h2, h3⟩
theorem ExX.trans {ce : Value} {s' : Shared} (G : Go (Own env) ads ads₁ s s₁) (h : ExX c ads₁ fr env s₁ X ce s') : ExX c ads fr env s X ce s' := by
  obtain ⟨C, ρ', σ', ads', e, h0, h1, h2, h3, h4, h5⟩ := h
  exact ⟨C, ρ', σ', ads', e, h0, h1, G.trans h2, h3, h4, h5.mono fun _ z => G.none z⟩
theorem Go.own (G : Go nil ads ads₁ s s₁) : Go (Own env) ads ads₁ s s₁ := G.mono fun _ h => h.elim
theorem EvX.own {ce : Value} {s' : Shared} (H : Here c q t k sc ρ σ A env s ads fr) (h : EvX c ads fr env.frame s (fun C σ' => X C ρ σ') ce s') : ExX c ads fr env s X ce s' := by
  obtain ⟨C, σ', e, h0, h1, h2, h3, h4⟩ := h
  exact ⟨C, ρ, σ', ads, e, h0, h1, h2.own, h3, H.F.go H.S h2, h4⟩

theorem Exs.mono {st : List Stmt} (h : Exs c q t k sc ρ σ st Q X) (hQ : ∀ f ρ σ, Q f ρ σ → Q' f ρ σ) (hX : ∀ C ρ σ, X C ρ σ → X' C ρ σ) : Exs c q t k sc ρ σ st Q' X' := fun A env s ads fr H =>
  wpAny_mono (h A env s ads fr H) (fun _ _ ⟨fw, ρ', σ', ads', h1, h2⟩ => ⟨fw, ρ', σ', ads', hQ _ _ _ h1, h2⟩) fun _ _ ⟨C, ρ', σ', ads', e, h0, h1, h2⟩ => ⟨C, ρ', σ', ads', e, h0, hX _ _ _ h1, h2⟩

theorem Here.after {ρ' : Lo} {σ' : AH} (H : Here c q t k sc ρ σ A env s ads fr) (G : Go (Own env) ads ads₁ s s₁) (S : St c.base σ' ads₁ fr s₁.heap) (F : FrR ads₁ fr env ρ' s₁.heap) : Here c q t k sc ρ' σ' A env s₁ ads₁ fr :=
  ⟨H.sc, H.R.go H.S G, F, S⟩

theorem Exs.nil (h : Q .next ρ σ) : Exs c q t k sc ρ σ [] Q X := fun A env s ads fr H => wpAny_execs_nil ⟨.next, ρ, σ, ads, h, .refl .., H.S, H.F, rfl⟩
/-- what comes behind a statement -/
noncomputable def Nx (c : Cx) (q t : Bool) (k : Nat) (sc : Scope) (rest : List Stmt) (Q : Fw → Lo → AH → Prop) (X : Addr → Lo → AH → Prop) (fw : Fw) (ρ : Lo) (σ : AH) : Prop :=
  match fw with
  | .next => Exs c q t k sc ρ σ rest Q X
  | fw => Q fw ρ σ
theorem Nx.next {rest : List Stmt} (h : Exs c q t k sc ρ σ rest Q X) : Nx c q t k sc rest Q X .next ρ σ := h
theorem Nx.ret {rest : List Stmt} {v : AV} (h : Q (.ret v) ρ σ) : Nx c q t k sc rest Q X (.ret v) ρ σ := h
theorem Exs.cons {st : Stmt} {rest : List Stmt} (h : Ex c q t k sc ρ σ st (Nx c q t k sc rest Q X) X) : Exs c q t k sc ρ σ (st :: rest) Q X := fun A env s ads fr H => by
  refine wpAny_execs_cons (wpAny_mono (h A env s ads fr H) (fun fl s₁ hq => ?_) fun _ _ x => x)
  obtain ⟨fw, ρ', σ', ads', h1, G, S, F, hf⟩ := hq
  cases fw with
  | next =>
    obtain rfl : fl = .next := hf
    exact wpAny_mono (h1 A env s₁ ads' fr (H.after G S F)) (fun _ _ x => x.trans G) fun _ _ x => x.trans G
  | brk => obtain rfl : fl = .brk := hf; exact ⟨.brk, ρ', σ', ads', h1, G, S, F, rfl⟩
  | cont => obtain rfl : fl = .cont := hf; exact ⟨.cont, ρ', σ', ads', h1, G, S, F, rfl⟩
  | ret v => obtain ⟨cv, rfl, V⟩ := hf; exact ⟨.ret v, ρ', σ', ads', h1, G, S, F, cv, rfl, V⟩

theorem Ex.ret {e : Expr} {pos : Pos} (h : Ev c q t k sc ρ σ e (fun v σ₁ => Q (.ret v) ρ σ₁) (fun C σ₁ => X C ρ σ₁)) : Ex c q t k sc ρ σ (.Return (some e) pos) Q X := fun A env s ads fr H => by
  refine wpAny_Return_some (wpAny_mono (h.at H) (fun cv s₁ hq => ?_) fun _ _ x => x.own H)
  obtain ⟨v, σ₁, h1, G, S, V⟩ := hq
  exact ⟨.ret v, ρ, σ₁, ads, h1, G.own, S, H.F.go H.S G, cv, rfl, V⟩
theorem Ex.if {e : Expr} {a b : List Stmt} {pos : Pos} (h : Tb c q t k sc ρ σ e (fun x σ₁ => if x = true then Exs c q t k sc ρ σ₁ a Q X else Exs c q t k sc ρ σ₁ b Q X) (fun C σ₁ => X C ρ σ₁)) : Ex c q t k sc ρ σ (.If e a b pos) Q X := fun A env s ads fr H => by
  refine wpAny_If (wpAny_mono (h A env s ads fr H) (fun x s₁ hq => ?_) fun _ _ x => x.own H)
  obtain ⟨σ₁, h1, G, S⟩ := hq
  cases x with
  | false => exact wpAny_mono (h1 A env s₁ ads fr (H.go G S)) (fun _ _ x => x.trans G.own) fun _ _ x => x.trans G.own
  | true => exact wpAny_mono (h1 A env s₁ ads fr (H.go G S)) (fun _ _ x => x.trans G.own) fun _ _ x => x.trans G.own

/-! a name is bound -/
noncomputable def upd (x : Str) (v : AV) : Lo → Lo
  | [] => [(x, v)]
  | (y, u) :: r => if y = x then (x, v) :: r else (y, u) :: upd x v r
theorem lookup_upd (x y : Str) (v : AV) : ∀ ρ : Lo, (upd x v ρ).lookup y = if y = x then some v else ρ.lookup y := by
  intro l
  induction l with
  | nil =>
    by_cases h : y = x
    · subst h; simp [upd]
    · have hb : (y == x) = false := beq_eq_false_iff_ne.mpr h
      simp [upd, List.lookup_cons, hb, h]
  | cons pq r ih =>
    obtain ⟨z, u⟩ := pq
    unfold upd
    by_cases hz : z = x
    · subst hz
      rw [if_pos rfl]
      by_cases h : y = z
      · subst h; simp
      · have hb : (y == z) = false := beq_eq_false_iff_ne.mpr h
        simp [List.lookup_cons, hb, h]
    · rw [if_neg hz]
      simp only [List.lookup_cons, ih]
      by_cases h : y = z
      · subst h; simp [hz]
      · have hb : (y == z) = false := beq_eq_false_iff_ne.mpr h
        simp [hb]

theorem go_fr {O : Addr → Prop} {b₀ : Addr} {h' : Heap} {tk : Nat} (S : St c.base σ ads fr s.heap) (hl : b₀ ∈ fr) (hO : O b₀) (hs : Heap.SameBut b₀ s.heap h')
    (hob : ∀ o, s.heap.get? b₀ = some o → ∃ o', h'.get? b₀ = some o' ∧ Kind o o' ∧ Fl o') :
    Go O ads ads s { s with heap := h', toks := tk } ∧ St c.base σ ads fr h' := by
  have G : Go O ads ads s { s with heap := h', toks := tk } := by
    have kp : ∀ b o, s.heap.get? b = some o → ∃ o', h'.get? b = some o' ∧ (¬ O b → Same o o') ∧ Kind o o' := fun b o e => by
      by_cases hb : b = b₀
      · subst hb
        obtain ⟨o', e', kd, _⟩ := hob o e
        exact ⟨o', e', fun n => absurd hO n, kd⟩
      · exact ⟨o, (hs.2 b hb).trans e, fun _ => .refl _, .of_data rfl⟩
    exact ⟨fun b o e _ => kp b o e, fun b o e => let ⟨o', e', _⟩ := kp b o e; ⟨o', e'⟩, ⟨h', tk, rfl⟩, ⟨[], by simp⟩, fun _ h => .inl h⟩
  refine ⟨G, ⟨fun b o e => (hs.2 b ?_).trans (S.stays b o e), S.len, S.nodup, S.new, fun i o a h1 h2 => ?_, fun b hb => ?_, S.dis⟩⟩
  · rintro rfl; rw [S.new _ (.inr hl)] at e; cases e
  · have hk' : ∀ b o, s.heap.get? b = some o → ¬ (b ∈ fr) → ∃ o', h'.get? b = some o' ∧ Same o o' := fun b o e nb => ⟨o, (hs.2 b fun q => nb (q ▸ hl)).trans e, .refl _⟩
    have ht : ∀ a o vs n, s.heap.get? a = some o → o.cls = .type "tuple" → o.data = .seq vs n → ¬ a ∈ fr := fun a o vs n e hc hd => (S.tupleAt e hc hd).2
    have x := S.obj i o a h1 h2
    have hne : a ≠ b₀ := fun q => S.dis a (List.mem_of_getElem? h2) (q ▸ hl)
    cases o with
    | list xs =>
      obtain ⟨items, as, ⟨n, e⟩, r, h⟩ := x
      exact ⟨items, as, ⟨n, (hs.2 a hne).trans e⟩, readsAll_keep (P := (· ∈ fr)) hk' ht _ _ _ r fun b hb => (h b hb).2, h⟩
    | dict kvs =>
      obtain ⟨o, es, n, as, bs, e, hc, hd, r1, r2, h⟩ := x
      exact ⟨o, es, n, as, bs, (hs.2 a hne).trans e, hc, hd, readsAllP_keep (P := (· ∈ fr)) hk' ht _ _ _ r1 (fun b hb => (h b (List.mem_append_left _ hb)).2), readsAllQ_keep (P := (· ∈ fr)) hk' ht _ _ _ r2 (fun b hb => (h b (List.mem_append_right _ hb)).2), h⟩
  · obtain ⟨o, e, f⟩ := S.frs b hb
    by_cases hbl : b = b₀
    · subst hbl
      obtain ⟨o', e', _, f'⟩ := hob o e
      exact ⟨o', e', f'⟩
    · exact ⟨o, (hs.2 b hbl).trans e, f⟩

theorem bind_wp {x : Str} {v : AV} {cv : Value} {P : Unit → Shared → Prop} {E : Value → Shared → Prop} (H : Here c q t k sc ρ σ A env s ads fr) (hk : sc.names.lookup x = some .local ∨ sc.names.lookup x = some .cell)
    (V : VR ads fr s.heap v cv) (h : ∀ s', Go (Own env) ads ads s s' → Here c q t k sc (upd x v ρ) σ A env s' ads fr → P () s') : wpAny c.M A (storeName env x cv) P E s := by
  have hkx : env.kindOf x = some .local ∨ env.kindOf x = some .cell := by rw [← H.sc] at hk; exact hk
  obtain ⟨m, hns, hρ⟩ := H.F.ns
  rcases hkx with hl | hl
  · refine wpAny_storeName_local hl hns (fun h' hn hs => ?_) (by rw [H.F.kind]; rfl)
    obtain ⟨G, S'⟩ := go_fr (tk := s.toks + 1) (O := Own env) H.S H.F.lin (.inl rfl) hs fun o e => by
      obtain ⟨o', es, ep, e', hd, _⟩ := hn
      obtain ⟨o₀, es₀, ep₀, e₀, hd₀, _⟩ := hns
      rw [e] at e₀; cases e₀
      exact ⟨o', e', ⟨fun _ _ _ => ⟨es, ep, hd⟩, fun v q => by rw [hd₀] at q; cases q⟩, .inl ⟨es, ep, hd⟩⟩
    refine h _ G (H.after G S' ⟨H.F.kind, H.F.glob, H.F.bi, H.F.lin, ⟨_, hn, fun y u hy => ?_⟩, fun y hy => ?_, H.F.cin, H.F.apart⟩)
    · rw [lookup_upd] at hy
      by_cases hyx : y = x
      · subst hyx
        rw [if_pos rfl] at hy; cases hy
        exact .inl ⟨hl, cv, by simp, V.go H.S G fun b h => .inl (H.F.own b h)⟩
      · rw [if_neg hyx] at hy
        rcases hρ y u hy with ⟨h1, cu, h2, h3⟩ | ⟨h1, cl, cu, h2, h3, h4⟩
        · exact .inl ⟨h1, cu, by simp [hyx, h2], h3.go H.S G fun b h => .inl (H.F.own b h)⟩
        · exact .inr ⟨h1, cl, cu, h2, h3.sameBut hs (H.F.cin y cl h2).2, h4.go H.S G fun b h => .inl (H.F.own b h)⟩
    · obtain ⟨cl, u, h1, h2⟩ := H.F.cell y hy
      exact ⟨cl, u, h1, h2.sameBut hs (H.F.cin y cl h1).2⟩
  · obtain ⟨cl, v₀, hc, hv⟩ := H.F.cell x hl
    refine wpAny_storeName_cell H.F.kind hl hc hv fun h' hn hs => ?_
    obtain ⟨G, S'⟩ := go_fr (tk := s.toks) (O := Own env) H.S (H.F.cin x cl hc).1 (.inr ⟨x, hc⟩) hs fun o e => by
      obtain ⟨o', e', hd⟩ := hn
      obtain ⟨o₀, e₀, hd₀⟩ := hv
      rw [e] at e₀; cases e₀
      exact ⟨o', e', ⟨fun _ _ q => by (rw [hd₀] at q; cases q), fun v q => ⟨_, hd⟩⟩, .inr (.inl ⟨_, hd⟩)⟩
    refine h _ G (H.after G S' ⟨H.F.kind, H.F.glob, H.F.bi, H.F.lin, ⟨m, hns.sameBut hs (Ne.symm (H.F.cin x cl hc).2), fun y u hy => ?_⟩, fun y hy => ?_, H.F.cin, H.F.apart⟩)
    · rw [lookup_upd] at hy
      by_cases hyx : y = x
      · subst hyx
        rw [if_pos rfl] at hy; cases hy
        exact .inr ⟨.inl hl, cl, cv, hc, hn, V.go H.S G fun b h => .inl (H.F.own b h)⟩
      · rw [if_neg hyx] at hy
        rcases hρ y u hy with ⟨h1, cu, h2, h3⟩ | ⟨h1, cl', cu, h2, h3, h4⟩
        · exact .inl ⟨h1, cu, h2, h3.go H.S G fun b h => .inl (H.F.own b h)⟩
        · exact .inr ⟨h1, cl', cu, h2, h3.sameBut hs (fun z => hyx (H.F.apart y x cl (z ▸ h2) hc)), h4.go H.S G fun b h => .inl (H.F.own b h)⟩
    · by_cases hyx : y = x
      · subst hyx; exact ⟨cl, _, hc, hn⟩
      · obtain ⟨cl', u, h1, h2⟩ := H.F.cell y hy
        exact ⟨cl', u, h1, h2.sameBut hs (fun z => hyx (H.F.apart y x cl (z ▸ h1) hc))⟩

/-- a plain assignment of a value -/
theorem Ex.assign {x : Str} {e : Expr} {p pos : Pos} (hk : sc.names.lookup x = some .local ∨ sc.names.lookup x = some .cell)
    (h : Ev c q t k sc ρ σ e (fun v σ₁ => Q .next (upd x v ρ) σ₁) (fun C σ₁ => X C ρ σ₁)) (hs : ∀ env, swapsWith e (some (.Name x p)) pos.line env = pure false := by intro _; rfl) :
    Ex c q t k sc ρ σ (.Assign [.Name x p] e pos) Q X := fun A env s ads fr H => by
  refine wpAny_Assign_Name (wpAny_mono (h.at H) (fun cv s₁ hq => ?_) fun _ _ x => x.own H) (hs env)
  obtain ⟨v, σ₁, h1, G, S, V⟩ := hq
  have H₁ := H.go G S
  exact bind_wp H₁ hk V fun s' G' H' => ⟨.next, _, σ₁, ads, h1, G.own.trans G', H'.S, H'.F, rfl⟩
end


-- Core5

/-! a def's call -/
theorem bindL_other (kindOf : Str → Option NameKind) : ∀ (binds : List (Str × Value)) (m : Str → Option Value) (x : Str), x ∉ binds.map (·.1) → bindL kindOf binds m x = m x := by
  intro l
  induction l with
  | nil =>
    intro _ _ _
    exact rfl
  | cons pq r ih =>
    obtain ⟨n, v⟩ := pq
    intro m x h
    have h1 : x ≠ n := fun q => h (by simp [q])
    have h2 : x ∉ r.map (·.1) := fun q => h (by simp [q])
    unfold bindL
    rw [ih _ x h2]
    split
    · simp [h1]
    · rfl
theorem bindC_other (kindOf : Str → Option NameKind) : ∀ (binds : List (Str × Value)) (m : Str → Option Value) (x : Str), x ∉ binds.map (·.1) → bindC kindOf binds m x = m x := by
  intro l
  induction l with
  | nil =>
    intro _ _ _
    exact rfl
  | cons pq r ih =>
    obtain ⟨n, v⟩ := pq
    intro m x h
    have h1 : x ≠ n := fun q => h (by simp [q])
    have h2 : x ∉ r.map (·.1) := fun q => h (by simp [q])
    unfold bindC
    rw [ih _ x h2]
    split
    · rfl
    · simp [h1]
theorem zip_names : ∀ (ps : List Str) (vs : List Value) (x : Str), x ∈ (ps.zip vs).map (·.1) → x ∈ ps
  | [], _, _, h => by simp at h
  | _ :: _, [], _, h => by simp at h
  | p :: ps, v :: vs, x, h => by
    simp only [List.zip_cons_cons, List.map_cons, List.mem_cons] at h
    rcases h with rfl | h
    · exact List.mem_cons_self
    · exact List.mem_cons_of_mem _ (zip_names ps vs x h)

theorem bind_get {ads fr : List Addr} {h : Heap} (kindOf : Str → Option NameKind) : ∀ (ps : List Str) (args : List AV) (cvs : List Value) (m cm : Str → Option Value), ps.Nodup → VRs ads fr h args cvs → ∀ x v, (ps.zip args).lookup x = some v →
    ∃ cv, VR ads fr h v cv ∧ (kindOf x = some .local → bindL kindOf (ps.zip cvs) m x = some cv) ∧ (kindOf x ≠ some .local → bindC kindOf (ps.zip cvs) cm x = some cv)
  | [], _, _, _, _, _, _, x, v, h => by simp at h
  | p :: ps, [], _, _, _, _, _, x, v, h => by simp at h
  | p :: ps, a :: args, cvs, m, cm, nd, V, x, v, h => by
    obtain ⟨cv, r, rfl, V1, V2⟩ := V
    obtain ⟨np, nd'⟩ := List.nodup_cons.mp nd
    simp only [List.zip_cons_cons, List.lookup_cons] at h
    by_cases hx : x = p
    · subst hx
      simp at h; subst h
      have no : x ∉ (ps.zip r).map (·.1) := fun q => np (zip_names ps r x q)
      refine ⟨cv, V1, fun hk => ?_, fun hk => ?_⟩
      · simp only [List.zip_cons_cons, bindL]; rw [bindL_other _ _ _ _ no, if_pos hk]; simp
      · simp only [List.zip_cons_cons, bindC]; rw [bindC_other _ _ _ _ no, if_neg hk]; simp
    · have hb : (x == p) = false := beq_eq_false_iff_ne.mpr hx
      simp only [hb] at h
      simp only [List.zip_cons_cons, bindL, bindC]
      exact bind_get kindOf ps args r _ _ nd' V2 x v h

theorem cells_some {x : Str} : ∀ (names : List (Str × NameKind)) (n : Nat) (acc : List (Str × Addr)), names.lookup x = some .cell ∨ (acc.lookup x).isSome = true → ((cellsFrom n names acc).lookup x).isSome = true := by
  intro l
  induction l with
  | nil =>
    intro _ _ h
    exact h.elim (fun e => by cases e) id
  | cons pq r ih =>
    obtain ⟨y, k⟩ := pq
    intro n acc h
    unfold cellsFrom
    by_cases hk : (k == .cell) = true
    · rw [if_pos hk]
      refine ih (n + 1) ((y, n) :: acc) ?_
      by_cases hy : (x == y) = true
      · exact .inr (by rw [List.lookup_cons, hy]; rfl)
      · refine h.imp (fun e => ?_) fun e => ?_
        · rw [List.lookup_cons] at e; simpa only [hy] using e
        · rw [List.lookup_cons]; simpa only [hy] using e
    · rw [if_neg hk]
      refine ih n acc ?_
      by_cases hy : (x == y) = true
      · refine .inr (h.elim (fun e => ?_) id)
        rw [List.lookup_cons, hy] at e
        exact absurd (by rw [Option.some.inj e]; rfl) hk
      · refine h.imp (fun e => ?_) id
        rw [List.lookup_cons] at e; simpa only [hy] using e

/-- a def of the text, at the top -/
structure Def (c : Cx) (x : Str) (ps : List Str) (body : List Stmt) (sc : Scope) (f : Addr) (fd : FuncData) : Prop where
  mg : c.mg x = some (.ref f)
  at' : ∃ o, c.base.get? f = some o ∧ o.data = .func fd
  body : fd.body = .stmts body
  scope : fd.scope = sc
  closure : fd.closure = []
  globals : fd.globals = mainGlobals
  builtins : fd.builtins = builtinsNs
  code : c.base.CodeRec fd.code fd.qualname
  binds : ∀ cvs : List Value, cvs.length = ps.length → bindArgs fd ⟨cvs, []⟩ = pure (ps.zip cvs)
  co : sc.isCoroutine = false
  gen : sc.isGenerator = false
  kind : sc.kind = .function
  names : ∀ p ∈ ps, sc.names.lookup p = some .local ∨ sc.names.lookup p = some .cell
  nodup : ps.Nodup

/-- what a call hands on of what its body made: data, an object made in it frozen -/
noncomputable def Hand (n : Nat) (Q : AV → AH → Prop) (fw : Fw) (σ : AH) : Prop :=
  match fw with
  | .ret (.dat d) => Q (.dat d) (σ.take n)
  | .ret (.val v) => Q (.val v) (σ.take n)
  | .ret (.obj i) => n ≤ i ∧ ∃ xs, σ[i]? = some (.list xs) ∧ Q (.dat (.list xs)) (σ.take n)
  | .next => Q (.dat .none) (σ.take n)
  | _ => False

section
variable {base : Heap} {σ σ' : AH} {ads ads' fr fr' : List Addr} {h : Heap}
theorem VRs.length {args : List AV} {cvs : List Value} (V : VRs ads fr h args cvs) : cvs.length = args.length := by
  induction args generalizing cvs with
  | nil => obtain rfl : cvs = [] := V; rfl
  | cons a as ih => obtain ⟨v, r, rfl, _, h2⟩ := V; simp [ih h2]

theorem no_some {h : Heap} {a : Addr} {o : Obj} {P : Prop} (x : h.get? a = none) (y : h.get? a = some o) : P := by rw [x] at y; cases y

/-- more own places, all new -/
theorem St.inner (S : St base σ ads fr h) {h₀ : Heap} (hst : base.StaysIn h₀) (S₀ : St base σ ads fr h₀) (hn : ∀ b ∈ fr', h₀.get? b = none) (hf : ∀ b ∈ fr', ∃ o, h.get? b = some o ∧ Fl o)
    (hob : ∀ (i : Nat) (o : AO) (a : Addr), σ[i]? = some o → ads[i]? = some a → OR ads fr h₀ o a) (hk : ∀ b o, h₀.get? b = some o → h.get? b = some o) : St base σ ads (fr' ++ fr) h := by
  have nb : ∀ b ∈ fr', base.get? b = none := fun b hb => by
    cases e : base.get? b with
    | none => rfl
    | some o => exact no_some (hn b hb) (hst b o e)
  refine ⟨S.stays, S.len, S.nodup, fun a ha => ?_, fun i o a h1 h2 => ?_, fun b hb => ?_, fun a ha hb => ?_⟩
  · rcases ha with ha | ha
    · exact S.new a (.inl ha)
    · exact (List.mem_append.mp ha).elim (nb a) fun q => S.new a (.inr q)
  · have x := hob i o a h1 h2
    have hk0 : ∀ b o, h₀.get? b = some o → ¬ False → ∃ o', h.get? b = some o' ∧ Same o o' := fun b o e _ => ⟨o, hk b o e, .refl _⟩
    have av : ∀ as : List Addr, (∀ b ∈ as, Stands h₀ b) → (∀ b ∈ as, b ∉ ads ∧ b ∉ fr) → ∀ b ∈ as, b ∉ ads ∧ b ∉ fr' ++ fr := fun as hlt hh b hb =>
      ⟨(hh b hb).1, fun q => (List.mem_append.mp q).elim (fun z => let ⟨o, e, _⟩ := hlt b hb; no_some (hn b z) e) (hh b hb).2⟩
    cases o with
    | list xs =>
      obtain ⟨items, as, ⟨n, e⟩, r, hh⟩ := x
      exact ⟨items, as, ⟨n, hk _ _ e⟩, readsAll_keep (P := nil) hk0 (fun _ _ _ _ _ _ _ => id) _ _ _ r fun _ _ => id, av as (readsAll_at _ _ _ r) hh⟩
    | dict kvs =>
      obtain ⟨o, es, n, as, bs, e, hc, hd, r1, r2, hh⟩ := x
      exact ⟨o, es, n, as, bs, hk _ _ e, hc, hd, readsAllP_keep (P := nil) hk0 (fun _ _ _ _ _ _ _ => id) _ _ _ r1 fun _ _ => id, readsAllQ_keep (P := nil) hk0 (fun _ _ _ _ _ _ _ => id) _ _ _ r2 fun _ _ => id,
        av (as ++ bs) (fun b hb => (List.mem_append.mp hb).elim (fun z => readsAllP_at _ _ _ r1 b z) fun z => readsAllQ_at _ _ _ r2 b z) hh⟩
  · exact (List.mem_append.mp hb).elim (hf b) (S.frs b)
  · exact (List.mem_append.mp hb).elim (fun q => let ⟨o, e, _⟩ := S₀.adAt ha; no_some (hn a q) e) (S.dis a ha)

theorem VR.inner {v : AV} {cv : Value} {h₀ : Heap} (V : VR ads fr h₀ v cv) (hk : ∀ b o, h₀.get? b = some o → h.get? b = some o) (hn : ∀ b ∈ fr', h₀.get? b = none) : VR ads (fr' ++ fr) h v cv := by
  have hk0 : ∀ b o, h₀.get? b = some o → ¬ False → ∃ o', h.get? b = some o' ∧ Same o o' := fun b o e _ => ⟨o, hk b o e, .refl _⟩
  cases v with
  | dat d =>
    obtain ⟨as, r, hh⟩ := V
    exact ⟨as, reads_keep (P := nil) hk0 (fun _ _ _ _ _ _ _ => id) _ _ _ r fun _ _ => id, fun b hb => ⟨(hh b hb).1, fun q => (List.mem_append.mp q).elim (fun z => let ⟨o, e, _⟩ := reads_at _ _ _ r b hb; no_some (hn b z) e) (hh b hb).2⟩⟩
  | obj i => exact V
  | exc C => obtain ⟨a, o, vs, h1, h2, h3⟩ := V; exact ⟨a, o, vs, h1, hk _ _ h2, h3⟩
  | val c => exact V
theorem VRs.inner {v : List AV} {cv : List Value} {h₀ : Heap} (V : VRs ads fr h₀ v cv) (hk : ∀ b o, h₀.get? b = some o → h.get? b = some o) (hn : ∀ b ∈ fr', h₀.get? b = none) : VRs ads (fr' ++ fr) h v cv := by
  induction v generalizing cv with
  | nil => exact V
  | cons a as ih => obtain ⟨v, r, rfl, h1, h2⟩ := V; exact ⟨v, r, rfl, h1.inner hk hn, ih h2⟩

/-- fewer tracked objects, fewer own places -/
theorem St.outer {n : Nat} (S : St base σ' (ads ++ ads') (fr' ++ fr) h) (hn : n = ads.length) : St base (σ'.take n) ads fr h := by
  subst hn
  have hl : σ'.length = ads.length + ads'.length := by rw [S.len, List.length_append]
  refine ⟨S.stays, by rw [List.length_take]; omega, (List.nodup_append.mp S.nodup).1, fun a ha => S.new a (ha.imp (List.mem_append_left _) (List.mem_append_right _)), fun i o a h1 h2 => ?_, fun b hb => S.frs b (List.mem_append_right _ hb), fun a ha hb => S.dis a (List.mem_append_left _ ha) (List.mem_append_right _ hb)⟩
  have hi : i < ads.length := (List.getElem?_eq_some_iff.mp h2).1
  rw [List.getElem?_take_of_lt hi] at h1
  have x := S.obj i o a h1 (by rw [List.getElem?_append_left hi]; exact h2)
  cases o with
  | list xs => obtain ⟨items, as, hp, r, hh⟩ := x; exact ⟨items, as, hp, r, fun b hb => ⟨fun q => (hh b hb).1 (List.mem_append_left _ q), fun q => (hh b hb).2 (List.mem_append_right _ q)⟩⟩
  | dict kvs => obtain ⟨o, es, m, as, bs, e, hc, hd, r1, r2, hh⟩ := x; exact ⟨o, es, m, as, bs, e, hc, hd, r1, r2, fun b hb => ⟨fun q => (hh b hb).1 (List.mem_append_left _ q), fun q => (hh b hb).2 (List.mem_append_right _ q)⟩⟩

theorem VR.outer {d : PyData} {cv : Value} (V : VR (ads ++ ads') (fr' ++ fr) h (.dat d) cv) : VR ads fr h (.dat d) cv :=
  let ⟨as, r, hh⟩ := V; ⟨as, r, fun b hb => ⟨fun q => (hh b hb).1 (List.mem_append_left _ q), fun q => (hh b hb).2 (List.mem_append_right _ q)⟩⟩

/-- a tracked list, no more tracked, is data -/
theorem St.frozen {i : Nat} {a : Addr} {xs : List PyData} (S : St base σ' (ads ++ ads') (fr' ++ fr) h) (hi : ads.length ≤ i) (ho : σ'[i]? = some (.list xs)) (ha : (ads ++ ads')[i]? = some a) : VR ads fr h (.dat (.list xs)) (.ref a) := by
  obtain ⟨items, as, ⟨n, e⟩, r, hh⟩ := S.obj i _ a ho ha
  have hm : a ∈ ads' := by rw [List.getElem?_append_right hi] at ha; exact List.mem_of_getElem? ha
  refine ⟨a :: as, .list e rfl rfl r, fun b hb => ?_⟩
  rcases List.mem_cons.mp hb with rfl | hb
  · exact ⟨fun q => (List.nodup_append.mp S.nodup).2.2 _ q _ hm rfl, fun q => S.dis b (List.mem_append_right _ hm) (List.mem_append_right _ q)⟩
  · exact ⟨fun q => (hh b hb).1 (List.mem_append_left _ q), fun q => (hh b hb).2 (List.mem_append_right _ q)⟩
end

section
variable {c : Cx} {q : Bool} {k : Nat} {sc : Scope} {σ : AH} {Q : AV → AH → Prop} {X : Addr → AH → Prop} {x : Str} {ps : List Str} {body : List Stmt} {f : Addr} {fd : FuncData} {args : List AV}


end


-- Core6

/-! loops: what an iterator yields -/
structure Walk (c : Cx) (fr : List Addr) (it : Addr) (items : List AV) (Hs : AH → Prop) (P : Nat → List Addr → Heap → Prop) : Prop where
  bare : ∀ i ads h, P i ads h → Bare h it ∧ c.base.get? it = none
  keep : ∀ i ads ads' s s' σ (O : Addr → Prop), P i ads s.heap → St c.base σ ads fr s.heap → Go O ads ads' s s' → (∀ b, O b → b ∈ fr) → P i ads' s'.heap
  self : ∀ i A s ads (E : Value → Shared → Prop) (Pq : Value → Shared → Prop), P i ads s.heap → Pq (.ref it) s → wpAny c.M A (pyIter (.ref it)) Pq E s
  next : ∀ i v A s ads σ (E : Value → Shared → Prop) (Pq : Option Value → Shared → Prop), items[i]? = some v → P i ads s.heap → Hs σ → St c.base σ ads fr s.heap →
    (∀ s' cv, Go (· = it) ads ads s s' → St c.base σ ads fr s'.heap → P (i + 1) ads s'.heap → VR ads fr s'.heap v cv → Pq (some cv) s') → wpAny c.M A (pyNext (.ref it)) Pq E s
  stop : ∀ i A s ads σ (E : Value → Shared → Prop) (Pq : Option Value → Shared → Prop), items[i]? = none → A.handled = none → P i ads s.heap → Hs σ → St c.base σ ads fr s.heap →
    (∀ h', Heap.ExtBut it s.heap h' → Pq none { s with heap := h' }) → wpAny c.M A (pyNext (.ref it)) Pq E s

section
variable {base : Heap} {σ : AH} {ads ads' fr : List Addr} {s s' : Shared} {O : Addr → Prop}

/-- a record is kept to the sign -/
theorem Go.fields {b : Addr} {o : Obj} {vs : Array Value} (G : Go O ads ads' s s') (S : St base σ ads fr s.heap) (hO : ∀ b, O b → b ∈ fr) (e : s.heap.get? b = some o) (hd : o.data = .fields vs) : s'.heap.get? b = some o := by
  obtain ⟨h1, h2⟩ := S.fieldsAt e hd
  obtain ⟨o', e', sm, _⟩ := G.kp b o e h1
  rw [e', (sm fun q => h2 (hO b q)).eq fun es n q => by rw [hd] at q; cases q]

/-- one record changed, or gone -/
theorem St.extB {it : Addr} {h h' : Heap} (S : St base σ ads fr h) (hb : Bare h it) (hbase : base.get? it = none) (hs : Heap.ExtBut it h h') : St base σ ads fr h' := by
  obtain ⟨oi, vi, Ti, ei, di, ci⟩ := hb
  have ne : ∀ b o, h.get? b = some o → (∀ vs, o.data ≠ .fields vs) → h'.get? b = some o := fun b o e hn => hs b o (fun q => by subst q; rw [ei] at e; cases e; exact hn _ di) e
  have hk : ∀ b o, h.get? b = some o → ¬ Bare h b → ∃ o', h'.get? b = some o' ∧ Same o o' := fun b o e nb => ⟨o, hs b o (fun q => nb (q ▸ ⟨oi, vi, Ti, ei, di, ci⟩)) e, .refl _⟩
  have ht : ∀ a o vs n, h.get? a = some o → o.cls = .type "tuple" → o.data = .seq vs n → ¬ Bare h a := fun a o vs n e hc hd => Stands.notBare ⟨o, e, fun ws z => by rw [hd] at z; cases z⟩
  refine ⟨fun b o e => hs b o (fun q => by rw [q, hbase] at e; cases e) (S.stays b o e), S.len, S.nodup, S.new, fun i o a h1 h2 => ?_, fun b hb => ?_, S.dis⟩
  · have x := S.obj i o a h1 h2
    cases o with
    | list xs =>
      obtain ⟨items, as, ⟨n, e⟩, r, h⟩ := x
      exact ⟨items, as, ⟨n, ne _ _ e (by simp)⟩, readsAll_keep (P := Bare _) hk ht _ _ _ r fun b hb => (readsAll_at _ _ _ r b hb).notBare, h⟩
    | dict kvs =>
      obtain ⟨o, es, n, as, bs, e, hc, hd, r1, r2, h⟩ := x
      exact ⟨o, es, n, as, bs, ne _ _ e (by rw [hd]; simp), hc, hd, readsAllP_keep (P := Bare _) hk ht _ _ _ r1 (fun b hb => (readsAllP_at _ _ _ r1 b hb).notBare), readsAllQ_keep (P := Bare _) hk ht _ _ _ r2 (fun b hb => (readsAllQ_at _ _ _ r2 b hb).notBare), h⟩
  · obtain ⟨o, e, f⟩ := S.frs b hb
    exact ⟨o, ne b o e (fun vs q => by rcases f with ⟨es, n, z⟩ | ⟨v, z⟩ | ⟨_, _, _, z⟩ <;> (rw [q] at z; cases z)), f⟩

theorem VR.extB {it : Addr} {h h' : Heap} {v : AV} {cv : Value} (V : VR ads fr h v cv) (hb : Bare h it) (hs : Heap.ExtBut it h h') : VR ads fr h' v cv := by
  obtain ⟨oi, vi, Ti, ei, di, ci⟩ := hb
  have hk : ∀ b o, h.get? b = some o → ¬ Bare h b → ∃ o', h'.get? b = some o' ∧ Same o o' := fun b o e nb => ⟨o, hs b o (fun q => nb (q ▸ ⟨oi, vi, Ti, ei, di, ci⟩)) e, .refl _⟩
  have ht : ∀ a o vs n, h.get? a = some o → o.cls = .type "tuple" → o.data = .seq vs n → ¬ Bare h a := fun a o vs n e hc hd => Stands.notBare ⟨o, e, fun ws z => by rw [hd] at z; cases z⟩
  cases v with
  | dat d => obtain ⟨as, r, h⟩ := V; exact ⟨as, reads_keep (P := Bare _) hk ht _ _ _ r fun b hb => (reads_at _ _ _ r b hb).notBare, h⟩
  | obj i => exact V
  | exc C => obtain ⟨a, o, vs, rfl, e, hc, hd, hn⟩ := V; exact ⟨a, o, vs, rfl, hs a o (fun q => by subst q; rw [ei] at e; cases e; rw [ci] at hc; cases hc) e, hc, hd, hn⟩
  | val c => exact V

theorem FrR.extB {it : Addr} {h h' : Heap} {env : Env} {ρ : Lo} (F : FrR ads fr env ρ h) (S : St base σ ads fr h) (hb : Bare h it) (hs : Heap.ExtBut it h h') : FrR ads fr env ρ h' := by
  have hn : it ∉ fr := by obtain ⟨oi, vi, Ti, ei, di, ci⟩ := hb; exact (S.fieldsAt ei di).2
  obtain ⟨m, hns, hρ⟩ := F.ns
  refine ⟨F.kind, F.glob, F.bi, F.lin, ⟨m, hns.extBut hs fun q => hn (q ▸ F.lin), fun x v hx => ?_⟩, fun x hx => ?_, F.cin, F.apart⟩
  · rcases hρ x v hx with ⟨h1, cv, h2, h3⟩ | ⟨h1, cl, cv, h2, ⟨o, h3, h3'⟩, h4⟩
    · exact .inl ⟨h1, cv, h2, h3.extB hb hs⟩
    · exact .inr ⟨h1, cl, cv, h2, ⟨o, hs _ _ (fun q => hn (q ▸ (F.cin x cl h2).1)) h3, h3'⟩, h4.extB hb hs⟩
  · obtain ⟨cl, v, h1, o, h2, h2'⟩ := F.cell x hx
    exact ⟨cl, v, h1, o, hs _ _ (fun q => hn (q ▸ (F.cin x cl h1).1)) h2, h2'⟩

/-- one record changed -/
theorem go_bare {it : Addr} {h' : Heap} {tk : Nat} (hb : Bare s.heap it) (hs : Heap.ExtBut it s.heap h') (hl : ∃ o, h'.get? it = some o) : Go (· = it) ads ads s { s with heap := h', toks := tk } := by
  obtain ⟨oi, vi, Ti, ei, di, ci⟩ := hb
  have kd : ∀ o', Kind oi o' := fun o' => ⟨fun es n q => by (rw [di] at q; cases q), fun v q => by (rw [di] at q; cases q)⟩
  have kp : ∀ b o, s.heap.get? b = some o → ∃ o', h'.get? b = some o' ∧ (¬ b = it → Same o o') ∧ Kind o o' := fun b o e => by
    by_cases q : b = it
    · subst q
      obtain ⟨o', e'⟩ := hl
      rw [ei] at e; cases e
      exact ⟨o', e', fun n => absurd rfl n, kd o'⟩
    · exact ⟨o, hs b o q e, fun _ => .refl _, .of_data rfl⟩
  exact ⟨fun b o e _ => kp b o e, fun b o e => let ⟨o', e', _⟩ := kp b o e; ⟨o', e'⟩, ⟨h', tk, rfl⟩, ⟨[], by simp⟩, fun _ h => .inl h⟩
end

section
variable {c : Cx} {q t : Bool} {k : Nat} {sc : Scope} {ρ : Lo} {σ : AH} {Q : Fw → Lo → AH → Prop} {X : Addr → Lo → AH → Prop} {A : Around} {env : Env} {s s₁ : Shared} {ads fr : List Addr}

/-- behind a turn -/
noncomputable def Lp (K : Lo → AH → Prop) (Q : Fw → Lo → AH → Prop) (fw : Fw) (ρ : Lo) (σ : AH) : Prop :=
  match fw with
  | .next => K ρ σ
  | .cont => K ρ σ
  | .brk => Q .next ρ σ
  | .ret u => Q (.ret u) ρ σ
theorem Lp.next {K : Lo → AH → Prop} (h : K ρ σ) : Lp K Q .next ρ σ := h
theorem Lp.ret {K : Lo → AH → Prop} {v : AV} (h : Q (.ret v) ρ σ) : Lp K Q (.ret v) ρ σ := h

/-- the loop, item by item -/
noncomputable def ForR (c : Cx) (q t : Bool) (k : Nat) (sc : Scope) (x : Str) (body : List Stmt) (Hs : AH → Prop) (Q : Fw → Lo → AH → Prop) (X : Addr → Lo → AH → Prop) : List AV → Lo → AH → Prop
  | [], ρ, σ => Q .next ρ σ
  | v :: vs, ρ, σ => Exs c q t k sc (upd x v ρ) σ body (Lp (fun ρ' σ' => Hs σ' ∧ ForR c q t k sc x body Hs Q X vs ρ' σ') Q) X

/-- from before the iterator was made -/
theorem Go.drop {it : Addr} {ads' : List Addr} {s₀ : Shared} (G₀ : Grow s₀ s) (G : Go (fun b => Own env b ∨ b = it) ads ads' s s₁) (hn : s₀.heap.get? it = Option.none) : Go (Own env) ads ads' s₀ s₁ := by
  have G' := (G₀.go (fun b => Own env b ∨ b = it) ads).trans G
  refine ⟨fun b o e hb => ?_, G'.live, G'.rest, G'.pre, G'.new⟩
  obtain ⟨o', e', h1, h2⟩ := G'.kp b o e hb
  exact ⟨o', e', fun n => h1 fun z => z.elim n fun z => by (subst z; rw [hn] at e; cases e), h2⟩
theorem Go.dropB {it : Addr} {ads' : List Addr} {s₀ : Shared} {h' : Heap} (G₀ : Grow s₀ s) (G : Go (fun b => Own env b ∨ b = it) ads ads' s s₁) (hn : s₀.heap.get? it = Option.none) (hs : Heap.ExtBut it s₁.heap h') : Go (Own env) ads ads' s₀ { s₁ with heap := h' } := by
  have G' := Go.drop G₀ G hn
  refine ⟨fun b o e hb => ?_, fun b o e => ?_, ?_, G'.pre, G'.new⟩
  · obtain ⟨o', e', h1, h2⟩ := G'.kp b o e hb
    exact ⟨o', hs b o' (fun z => by (subst z; rw [hn] at e; cases e)) e', h1, h2⟩
  · obtain ⟨o', e'⟩ := G'.live b o e
    exact ⟨o', hs b o' (fun z => by (subst z; rw [hn] at e; cases e)) e'⟩
  · obtain ⟨h₁, tk, e⟩ := G'.rest
    exact ⟨h', tk, by rw [e]⟩

theorem for_wp {x : Str} {px : Pos} {body : List Stmt} {it : Addr} {items : List AV} {Hs : AH → Prop} {P : Nat → List Addr → Heap → Prop} {s₀ : Shared} (hq : q = true ∨ ∀ ρ σ, ¬ Q .next ρ σ) (hx : sc.names.lookup x = some .local ∨ sc.names.lookup x = some .cell)
    (W : Walk c fr it items Hs P) (H : Here c q t k sc ρ σ A env s ads fr) (G₀ : Grow s₀ s) (hn : s₀.heap.get? it = none) (hP : P 0 ads s.heap) (hH : Hs σ)
    (hE : PassesOwn c.M A env (ExX c ads fr env s₀ X)) (h : ForR c q t k sc x body Hs Q X items ρ σ) :
    codeAny c.M A (.forLoop (.Name x px) (.ref it) body [] env) (fun r s' => match r with | .ok f => ExQ c ads fr env s₀ Q f s' | .error e => cameBackBy c.M A env (ExX c ads fr env s₀ X) e s') s := by
  refine codeAny_forLoop (fun n s' => ∃ i ρ' σ' ads', n = items.length - i ∧ i ≤ items.length ∧ Here c q t k sc ρ' σ' A env s' ads' fr ∧ Go (fun b => Own env b ∨ b = it) ads ads' s s' ∧ P i ads' s'.heap ∧ Hs σ' ∧ ForR c q t k sc x body Hs Q X (items.drop i) ρ' σ') ?_ items.length
    ⟨0, ρ, σ, ads, rfl, Nat.zero_le _, H, .refl .., hP, hH, by simpa using h⟩
  rintro n s' ⟨i, ρ', σ', ads', rfl, hi, H', G', hP', hH', hF⟩
  obtain ⟨hbare, hbase⟩ := W.bare i ads' _ hP'
  cases hv : items[i]? with
  | none =>
    have hlen : items.length ≤ i := by simpa using hv
    rw [List.drop_eq_nil_of_le hlen] at hF
    rcases hq with hq | hq
    case inr => exact absurd hF (hq _ _)
    refine W.stop i A s' ads' σ' _ _ hv (H'.R.quiet hq) hP' hH' H'.S fun h' hs => ?_
    refine wpAny_execs_nil ⟨.next, ρ', σ', ads', hF, Go.dropB G₀ G' hn hs, H'.S.extB hbare hbase hs, H'.F.extB H'.S hbare hs, rfl⟩
  | some v =>
    have hlt : i < items.length := (List.getElem?_eq_some_iff.mp hv).1
    have hd : items.drop i = v :: items.drop (i + 1) := by
      rw [List.drop_eq_getElem_cons hlt]
      have := (List.getElem?_eq_some_iff.mp hv).2
      rw [this]
    rw [hd] at hF
    refine W.next i v A s' ads' σ' _ _ hv hP' hH' H'.S fun s₂ cv G₂ S₂ hP₂ V₂ => ?_
    have hO₂ : ∀ b, b = it → Bare s'.heap b := fun b z => z ▸ hbare
    have H₂ : Here c q t k sc ρ' σ' A env s₂ ads' fr := ⟨H'.sc, H'.R.go H'.S G₂, H'.F.goB H'.S G₂ hO₂, S₂⟩
    refine wpAny_assign_Name (bind_wp H₂ hx V₂ fun s₃ G₃ H₃ => ?_)
    have hP₃ := W.keep (i + 1) ads' ads' s₂ s₃ σ' (Own env) hP₂ S₂ G₃ H₂.F.own
    have G₃' : Go (fun b => Own env b ∨ b = it) ads ads' s s₃ := (G'.trans (G₂.mono fun _ z => .inr z)).trans (G₃.mono fun _ z => .inl z)
    refine wpAny_mono (hF A env s₃ ads' fr H₃) (fun fl s₄ hq₄ => ?_) fun ce s₄ hx₄ => hE ce s₄ (hx₄.trans (Go.drop G₀ G₃' hn))
    obtain ⟨fw, ρ₄, σ₄, ads₄, h4, G₄, S₄, F₄, hfl⟩ := hq₄
    have G₄' : Go (fun b => Own env b ∨ b = it) ads ads₄ s s₄ := G₃'.trans (G₄.mono fun _ z => .inl z)
    have H₄ := H₃.after G₄ S₄ F₄
    have hP₄ := W.keep (i + 1) ads' ads₄ s₃ s₄ σ' (Own env) hP₃ H₃.S G₄ H₃.F.own
    cases fw with
    | next => obtain rfl : fl = .next := hfl; exact ⟨items.length - (i + 1), by omega, i + 1, ρ₄, σ₄, ads₄, rfl, hlt, H₄, G₄', hP₄, h4.1, h4.2⟩
    | cont => obtain rfl : fl = .cont := hfl; exact ⟨items.length - (i + 1), by omega, i + 1, ρ₄, σ₄, ads₄, rfl, hlt, H₄, G₄', hP₄, h4.1, h4.2⟩
    | brk => obtain rfl : fl = .brk := hfl; exact ⟨.next, ρ₄, σ₄, ads₄, h4, Go.drop G₀ G₄' hn, S₄, F₄, rfl⟩
    | ret u => obtain ⟨cu, rfl, Vu⟩ := hfl; exact ⟨.ret u, ρ₄, σ₄, ads₄, h4, Go.drop G₀ G₄' hn, S₄, F₄, cu, rfl, Vu⟩
end


-- Core7

section
variable {c : Cx} {q t : Bool} {k : Nat} {sc : Scope} {ρ : Lo} {σ : AH} {Q : Fw → Lo → AH → Prop} {X : Addr → Lo → AH → Prop} {A : Around} {env : Env} {s s₁ : Shared} {ads fr : List Addr}

/-! three iterators -/
noncomputable abbrev rangeIts (a : Int) (n : Nat) : List AV := (List.range n).map fun (i : Nat) => AV.dat (.int (a + (i : Int)))

theorem rangeIts_get (a : Int) (n i : Nat) : (rangeIts a n)[i]? = if i < n then some (AV.dat (.int (a + (i : Int)))) else none := by
  unfold rangeIts
  rw [List.getElem?_map]
  by_cases h : i < n
  · rw [if_pos h, List.getElem?_range h]; rfl
  · rw [if_neg h, List.getElem?_eq_none (by simpa using h)]; rfl

theorem walk_range {it : Addr} {a : Int} {n : Nat} (hb : c.base.get? it = none) : Walk c fr it (rangeIts a n) (fun _ => True) (fun i _ h => IsRangeIter h it (a + (i : Int)) ((n : Int) - (i : Int)) 1) where
  bare := fun i ads h hP => ⟨⟨_, _, _, hP, rfl, rfl⟩, hb⟩
  keep := fun i ads ads' s s' σ O hP S G hO => G.fields S hO hP rfl
  self := fun i A s ads E Pq hP h => wpAny_pyIter_rangeiter hP h
  next := fun i v A s ads σ E Pq hv hP _ S h => by
    rw [rangeIts_get] at hv
    by_cases hi : i < n
    · rw [if_pos hi] at hv; cases hv
      refine wpAny_pyNext_range_item hP (by omega) fun h' hit hs => ?_
      have hbr : Bare s.heap it := ⟨_, _, _, hP, rfl, rfl⟩
      refine h _ _ (go_bare hbr hs.extBut ⟨_, hit⟩) (S.extB hbr hb hs.extBut) ?_ ⟨[], .int _ _, fun _ ha => nomatch ha⟩
      have e1 : a + ((i + 1 : Nat) : Int) = a + (i : Int) + 1 := by omega
      have e2 : (n : Int) - ((i + 1 : Nat) : Int) = (n : Int) - (i : Int) - 1 := by omega
      rw [e1, e2]; exact hit
    · rw [if_neg hi] at hv; cases hv
  stop := fun i A s ads σ E Pq hv hh hP _ S h => by
    rw [rangeIts_get] at hv
    by_cases hi : i < n
    · rw [if_pos hi] at hv; cases hv
    · exact wpAny_pyNext_range_end hh hP (by omega) fun h' hs => h h' hs

theorem readsAll_nth {h : Heap} (xs : List PyData) (vs : List Value) (as : List Addr) (i : Nat) (d : PyData) (r : ReadsAll h vs xs as) (e : xs[i]? = some d) : ∃ v as', vs[i]? = some v ∧ Reads h v d as' ∧ ∀ a ∈ as', a ∈ as := by
  induction i generalizing xs vs as with
  | zero =>
    cases r with
    | nil => cases e
    | cons r1 r2 => cases e; exact ⟨_, _, rfl, r1, fun a ha => List.mem_append_left _ ha⟩
  | succ i ih =>
    cases r with
    | nil => cases e
    | cons r1 r2 =>
      obtain ⟨v, as', h1, h2, h3⟩ := ih _ _ _ r2 e
      exact ⟨v, as', h1, h2, fun a ha => List.mem_append_right _ (h3 a ha)⟩

theorem walk_tuple {it a : Addr} {xs : List PyData} (hb : c.base.get? it = none) : Walk c fr it (xs.map .dat) (fun _ => True) (fun i ads h => h.IsTupleIter it a i ∧ VR ads fr h (.dat (.tuple xs)) (.ref a)) where
  bare := fun i ads h hP => by obtain ⟨⟨o, e, hc, hd⟩, _⟩ := hP; exact ⟨⟨o, _, _, e, hd, hc⟩, hb⟩
  keep := fun i ads ads' s s' σ O hP S G hO => by
    obtain ⟨⟨o, e, hc, hd⟩, V⟩ := hP
    exact ⟨⟨o, G.fields S hO e hd, hc, hd⟩, V.go S G fun b z => .inl (hO b z)⟩
  self := fun i A s ads E Pq hP h => wpAny_pyIter_tupleiter hP.1 h
  next := fun i v A s ads σ E Pq hv hP _ S h => by
    obtain ⟨hit, V⟩ := hP
    obtain ⟨as, r, hh⟩ := V
    have hbr : Bare s.heap it := by obtain ⟨o, e, hc, hd⟩ := hit; exact ⟨o, _, _, e, hd, hc⟩
    rw [List.getElem?_map] at hv
    obtain ⟨d, hd, rfl⟩ := Option.map_eq_some_iff.mp hv
    cases r with
    | tuple h1 h2 h3 h4 =>
      obtain ⟨cv, as', h5, h6, h7⟩ := readsAll_nth _ _ _ i d h4 hd
      refine wpAny_pyNext_tuple_item hit ⟨_, h1, h2, _, h3⟩ (by simpa using h5) fun h' hit' hs => ?_
      have V' : VR ads fr s.heap (.dat (.tuple xs)) (.ref a) := ⟨as, .tuple h1 h2 h3 h4, hh⟩
      have Vd : VR ads fr s.heap (.dat d) cv := ⟨as', h6, fun b hb => hh b (h7 b hb)⟩
      exact h { s with heap := h' } _ (go_bare (tk := s.toks) hbr hs.extBut (by obtain ⟨o, e, _⟩ := hit'; exact ⟨o, e⟩)) (S.extB hbr hb hs.extBut) ⟨hit', V'.extB hbr hs.extBut⟩ (Vd.extB hbr hs.extBut)
  stop := fun i A s ads σ E Pq hv hh hP _ S h => by
    obtain ⟨hit, as, r, _⟩ := hP
    rw [List.getElem?_map, Option.map_eq_none_iff] at hv
    cases r with
    | tuple h1 h2 h3 h4 =>
      have hl := readsAll_size h4
      exact wpAny_pyNext_tuple_end hh hit ⟨_, h1, h2, _, h3⟩ (by rw [Array.getElem?_eq_none_iff]; rw [List.getElem?_eq_none_iff] at hv; omega) fun h' hs => h h' hs

theorem walk_list {it a : Addr} {xs : List PyData} (hb : c.base.get? it = none) : Walk c fr it (xs.map .dat) (fun _ => True) (fun i ads h => h.IsListIter it a i ∧ VR ads fr h (.dat (.list xs)) (.ref a)) where
  bare := fun i ads h hP => by obtain ⟨⟨o, e, hc, hd⟩, _⟩ := hP; exact ⟨⟨o, _, _, e, hd, hc⟩, hb⟩
  keep := fun i ads ads' s s' σ O hP S G hO => by
    obtain ⟨⟨o, e, hc, hd⟩, V⟩ := hP
    exact ⟨⟨o, G.fields S hO e hd, hc, hd⟩, V.go S G fun b z => .inl (hO b z)⟩
  self := fun i A s ads E Pq hP h => wpAny_pyIter_listiter hP.1 h
  next := fun i v A s ads σ E Pq hv hP _ S h => by
    obtain ⟨hit, V⟩ := hP
    obtain ⟨as, r, hh⟩ := V
    have hbr : Bare s.heap it := by obtain ⟨o, e, hc, hd⟩ := hit; exact ⟨o, _, _, e, hd, hc⟩
    rw [List.getElem?_map] at hv
    obtain ⟨d, hd, rfl⟩ := Option.map_eq_some_iff.mp hv
    cases r with
    | list h1 h2 h3 h4 =>
      obtain ⟨cv, as', h5, h6, h7⟩ := readsAll_nth _ _ _ i d h4 hd
      refine wpAny_pyNext_list_item hit ⟨_, h1, h2, _, h3⟩ (by simpa using h5) fun h' hit' hs => ?_
      have Vd : VR ads fr s.heap (.dat d) cv := ⟨as', h6, fun b hb => hh b (List.mem_cons_of_mem _ (h7 b hb))⟩
      have V' : VR ads fr s.heap (.dat (.list xs)) (.ref a) := ⟨_, .list h1 h2 h3 h4, hh⟩
      exact h { s with heap := h' } _ (go_bare (tk := s.toks) hbr hs.extBut (by obtain ⟨o, e, _⟩ := hit'; exact ⟨o, e⟩)) (S.extB hbr hb hs.extBut) ⟨hit', V'.extB hbr hs.extBut⟩ (Vd.extB hbr hs.extBut)
  stop := fun i A s ads σ E Pq hv hh hP _ S h => by
    obtain ⟨hit, as, r, _⟩ := hP
    rw [List.getElem?_map, Option.map_eq_none_iff] at hv
    cases r with
    | list h1 h2 h3 h4 =>
      have hl := readsAll_size h4
      exact wpAny_pyNext_list_end hh hit ⟨_, h1, h2, _, h3⟩ (by rw [Array.getElem?_eq_none_iff]; rw [List.getElem?_eq_none_iff] at hv; omega) fun h' hs => h h' hs

/-- a tracked list that the loop leaves as it is -/
theorem walk_obj {it a : Addr} {j : Nat} {xs : List PyData} (hb : c.base.get? it = none) : Walk c fr it (xs.map .dat) (fun σ => σ[j]? = some (.list xs)) (fun i ads h => h.IsListIter it a i ∧ ads[j]? = some a) where
  bare := fun i ads h hP => by obtain ⟨⟨o, e, hc, hd⟩, _⟩ := hP; exact ⟨⟨o, _, _, e, hd, hc⟩, hb⟩
  keep := fun i ads ads' s s' σ O hP S G hO => by
    obtain ⟨⟨o, e, hc, hd⟩, V⟩ := hP
    exact ⟨⟨o, G.fields S hO e hd, hc, hd⟩, G.at V⟩
  self := fun i A s ads E Pq hP h => wpAny_pyIter_listiter hP.1 h
  next := fun i v A s ads σ E Pq hv hP hH S h => by
    obtain ⟨hit, ha⟩ := hP
    obtain ⟨items, as, hp, r, hh⟩ := S.obj j _ a hH ha
    have hbr : Bare s.heap it := by obtain ⟨o, e, hc, hd⟩ := hit; exact ⟨o, _, _, e, hd, hc⟩
    rw [List.getElem?_map] at hv
    obtain ⟨d, hd, rfl⟩ := Option.map_eq_some_iff.mp hv
    obtain ⟨cv, as', h5, h6, h7⟩ := readsAll_nth _ _ _ i d r hd
    refine wpAny_pyNext_list_item hit hp.isList (by simpa using h5) fun h' hit' hs => ?_
    have Vd : VR ads fr s.heap (.dat d) cv := ⟨as', h6, fun b hb => hh b (h7 b hb)⟩
    exact h { s with heap := h' } _ (go_bare (tk := s.toks) hbr hs.extBut (by obtain ⟨o, e, _⟩ := hit'; exact ⟨o, e⟩)) (S.extB hbr hb hs.extBut) ⟨hit', ha⟩ (Vd.extB hbr hs.extBut)
  stop := fun i A s ads σ E Pq hv hh hP hH S h => by
    obtain ⟨hit, ha⟩ := hP
    obtain ⟨items, as, hp, r, _⟩ := S.obj j _ a hH ha
    rw [List.getElem?_map, Option.map_eq_none_iff] at hv
    have hl := readsAll_size r
    exact wpAny_pyNext_list_end hh hit hp.isList (by rw [Array.getElem?_eq_none_iff]; rw [List.getElem?_eq_none_iff] at hv; omega) fun h' hs => h h' hs

/-! the for statement -/
/-- what may be gone through, and what it yields -/
inductive Iter (σ : AH) : AV → List AV → (AH → Prop) → Prop
  | tuple (xs : List PyData) : Iter σ (.dat (.tuple xs)) (xs.map .dat) (fun _ => True)
  | list (xs : List PyData) : Iter σ (.dat (.list xs)) (xs.map .dat) (fun _ => True)
  | obj {j : Nat} {xs : List PyData} : σ[j]? = some (.list xs) → Iter σ (.obj j) (xs.map .dat) (fun σ => σ[j]? = some (.list xs))

theorem base_new (S : St c.base σ ads fr s.heap) : c.base.get? s.heap.objs.size = none := by
  cases e : c.base.get? s.heap.objs.size with
  | none => rfl
  | some o => exact absurd (Heap.lt_size (S.stays _ o e)) (Nat.lt_irrefl _)

/-- an iterator made -/
noncomputable def IterOk (c : Cx) (ads fr : List Addr) (s : Shared) (items : List AV) (Hs : AH → Prop) (cv : Value) (s' : Shared) : Prop :=
  ∃ it, cv = .ref it ∧ s.heap.get? it = none ∧ Grow s s' ∧ ∀ fr' : List Addr, (∀ b ∈ fr', s.heap.get? b = none) → ∃ P, Walk c (fr' ++ fr) it items Hs P ∧ ∀ s'', Grow s' s'' → P 0 ads s''.heap

theorem iter_wp {v : AV} {cv : Value} {items : List AV} {Hs : AH → Prop} {Pq : Value → Shared → Prop} {E : Value → Shared → Prop} (hi : Iter σ v items Hs) (S : St c.base σ ads fr s.heap) (V : VR ads fr s.heap v cv)
    (h : ∀ cv s', IterOk c ads fr s items Hs cv s' → Pq cv s') : wpAny c.M A (pyIter cv) Pq E s := by
  have hb := base_new S
  have hnew : s.heap.get? s.heap.objs.size = none := Heap.get?_none_of_le (Nat.le_refl _)
  cases hi with
  | tuple xs =>
    obtain ⟨as, r, hh⟩ := id V
    cases r with
    | @tuple a _ _ _ _ _ h1 h2 h3 h4 =>
      refine wpAny_pyIter_tuple ⟨_, h1, h2, _, h3⟩ (h _ _ ⟨_, rfl, hnew, Grow.push s _ s.toks, fun fr' hf => ⟨_, walk_tuple (a := a) (xs := xs) hb, fun s'' G => ⟨⟨_, G.1 _ _ (Heap.get?_push_size _ rfl), rfl, rfl⟩, V.inner (fun b o e => G.1 _ _ (Heap.get?_push_of_some _ e)) hf⟩⟩⟩)
  | list xs =>
    obtain ⟨as, r, hh⟩ := id V
    cases r with
    | @list a _ _ _ _ _ h1 h2 h3 h4 =>
      refine wpAny_pyIter_list ⟨_, h1, h2, _, h3⟩ (h _ _ ⟨_, rfl, hnew, Grow.push s _ s.toks, fun fr' hf => ⟨_, walk_list (a := a) (xs := xs) hb, fun s'' G => ⟨⟨_, G.1 _ _ (Heap.get?_push_size _ rfl), rfl, rfl⟩, V.inner (fun b o e => G.1 _ _ (Heap.get?_push_of_some _ e)) hf⟩⟩⟩)
  | @obj j xs hx =>
    obtain ⟨a, ha, rfl⟩ := V
    obtain ⟨its, as, hp, r, hh⟩ := S.obj j _ a hx ha
    exact wpAny_pyIter_list hp.isList (h _ _ ⟨_, rfl, hnew, Grow.push s _ s.toks, fun fr' hf => ⟨_, walk_obj (a := a) (xs := xs) hb, fun s'' G => ⟨⟨_, G.1 _ _ (Heap.get?_push_size _ rfl), rfl, rfl⟩, ha⟩⟩⟩)

theorem cameBack_mono {E E' : Value → Shared → Prop} {e : Value} {s' : Shared} (h : cameBackBy c.M A env E e s') (hE : ∀ e s, E e s → E' e s) : cameBackBy c.M A env E' e s' :=
  wpAny_mono h (fun _ s'' x => hE _ _ x) fun e s'' x => hE e s'' x

/-- the loop over what an iterator of s₁ yields -/
theorem for_it {x : Str} {px : Pos} {body : List Stmt} {items : List AV} {Hs : AH → Prop} {cv : Value} {σ₁ : AH} {s₂ : Shared} (hx : sc.names.lookup x = some .local ∨ sc.names.lookup x = some .cell)
    (H₁ : Here c true t k sc ρ σ₁ A env s₁ ads fr) (G : Go nil ads ads s s₁) (hok : IterOk c ads fr s₁ items Hs cv s₂) (hH : Hs σ₁) (hF : ForR c true t k sc x body Hs Q X items ρ σ₁)
    (hE : PassesOwn c.M A env (ExX c ads fr env s₁ X)) :
    codeAny c.M A (.forLoop (.Name x px) cv body [] env) (fun r s' => match r with | .ok f => ExQ c ads fr env s Q f s' | .error e => cameBackBy c.M A env (ExX c ads fr env s X) e s') s₂ := by
  obtain ⟨it, rfl, hn, G₂, hW⟩ := hok
  obtain ⟨P, W, hP⟩ := hW [] (fun _ hb => nomatch hb)
  have H₂ := H₁.go (G₂.go nil ads) (H₁.S.grow G₂)
  refine codeAny_mono (for_wp (.inl rfl) hx W H₂ G₂ hn (hP _ (.refl _)) hH hE hF) fun r s' hr => ?_
  cases r with
  | ok f => exact ExQ.trans G.own hr
  | error e => exact cameBack_mono hr fun _ _ y => y.trans G.own

/-! expressions that are gone through -/
noncomputable def EvI (c : Cx) (q t : Bool) (k : Nat) (sc : Scope) (ρ : Lo) (σ : AH) (e : Expr) (QI : List AV → (AH → Prop) → AH → Prop) (X : Addr → AH → Prop) : Prop :=
  ∀ A env s ads fr, Here c q t k sc ρ σ A env s ads fr → wpAny c.M A (eval e env) (fun cv s₁ => wpAny c.M A (pyIter cv)
    (fun ci s₂ => ∃ items Hs σ₁ s₀, QI items Hs σ₁ ∧ Hs σ₁ ∧ Go nil ads ads s s₀ ∧ St c.base σ₁ ads fr s₀.heap ∧ IterOk c ads fr s₀ items Hs ci s₂) (EvX c ads fr env.frame s X) s₁) (EvX c ads fr env.frame s X) s

variable {QI : List AV → (AH → Prop) → AH → Prop} {X₀ : Addr → AH → Prop}
theorem EvI.val {e : Expr} (h : Ev c q t k sc ρ σ e (fun v σ₁ => ∃ items Hs, Iter σ₁ v items Hs ∧ Hs σ₁ ∧ QI items Hs σ₁) X₀) : EvI c q t k sc ρ σ e QI X₀ := fun A env s ads fr H => by
  refine h.then H fun v σ₁ cv s₁ hv G₁ H₁ V => ?_
  obtain ⟨items, Hs, hi, hH, hQ⟩ := hv
  exact iter_wp hi H₁.S V fun ci s₂ hok => ⟨items, Hs, σ₁, s₁, hQ, hH, G₁, H₁.S, hok⟩

theorem pushed2 (s : Shared) (o o' : Obj) (tk : Nat) : Grow s { s with heap := (s.heap.push o).push o', toks := tk } := ⟨fun _ _ e => Heap.get?_push_of_some _ (Heap.get?_push_of_some _ e), _, tk, rfl⟩

/-- the range's iterator -/
theorem range_ok {s₂ : Shared} {σ₁ : AH} {o : Obj} {a m : Int} {n tk : Nat} (S : St c.base σ₁ ads fr s₁.heap) (G : Go nil ads ads s s₁) (hm : m = (n : Int)) (hQ : QI (rangeIts a n) (fun _ => True) σ₁)
    (h2 : s₂ = { s₁ with heap := (s₁.heap.push o).push { cls := .type "range_iterator", data := .fields #[rawInt a, rawInt m, rawInt 1] }, toks := tk }) :
    ∃ items Hs σ₁ s₀, QI items Hs σ₁ ∧ Hs σ₁ ∧ Go nil ads ads s s₀ ∧ St c.base σ₁ ads fr s₀.heap ∧ IterOk c ads fr s₀ items Hs (.ref (s₁.heap.push o).objs.size) s₂ := by
  subst hm h2
  refine ⟨_, _, σ₁, s₁, hQ, trivial, G, S, _, rfl, ?_, pushed2 s₁ _ _ _, fun fr' hf => ⟨_, walk_range (a := a) (n := n) ?_, fun s'' G => G.1 _ _ ?_⟩⟩
  · exact Heap.get?_none_of_le (by simp)
  · cases e : c.base.get? (s₁.heap.push o).objs.size with
    | none => rfl
    | some ob => exact absurd (Heap.lt_size (S.stays _ ob e)) (by simp)
  · show Heap.get? (Heap.push _ _) _ = some _
    rw [Heap.get?_push_size _ rfl]; simp

theorem EvI.range1 (g : Gd c) {p pos : Pos} {e : Expr} (hk : sc.names.lookup ("range" : Str) = some .globalImplicit) (hm : c.mg "range" = none)
    (h : Ev c q t k sc ρ σ e (fun v σ₁ => ∃ n : Nat, v = .dat (.int n) ∧ n < 2 ^ 62 ∧ QI (rangeIts 0 n) (fun _ => True) σ₁) X₀)
    (he : ∀ env, starEach [e] env = (false, eval e env) :: starEach [] env := by intro _; rfl) : EvI c q t k sc ρ σ (.Call (.Name "range" p) [e] [] pos) QI X₀ := fun A env s ads fr H => by
  obtain ⟨mb, h1, h2⟩ := g.b
  refine Call_ ?_
  refine Name_function_global H.F.kind (by rw [← H.sc] at hk; exact hk) (loadGlobal_builtin (by rw [H.F.glob]; exact g.g.keeps H.S.stays) hm (by rw [H.F.bi]; exact h1.keeps H.S.stays) ((h2 "range" (by decide)).trans Boot.«range») ?_)
  refine PyProof.Rows.callWith_type1 (args_cons (h.then H fun v σ₁ cv s₁ hv G₁ H₁ V => args_nil ?_) (he env)) (he env) rfl
  obtain ⟨n, rfl, hn, hQ⟩ := hv
  obtain ⟨as, r, _⟩ := V
  cases r
  refine call_range_1 ?_
  refine wpAny_pyIter_range (IsRange.new ..) (small_one (by decide) (by decide) (by omega) (by omega)) ?_
  exact range_ok H₁.S G₁ (by rw [rangeSize_one]; split <;> omega) hQ rfl

theorem Ex.for {x : Str} {px pos : Pos} {iter : Expr} {body : List Stmt} (hx : sc.names.lookup x = some .local ∨ sc.names.lookup x = some .cell)
    (h : EvI c true t k sc ρ σ iter (fun items Hs σ₁ => ForR c true t k sc x body Hs Q X items ρ σ₁) (fun C σ₁ => X C ρ σ₁))
    (hE : ∀ σ A env s ads fr, Here c true t k sc ρ σ A env s ads fr → PassesOwn c.M A env (ExX c ads fr env s X))
    (hs : ∀ env v, foldedSetIterable iter env v = pure v := by intro _ _; rfl) : Ex c true t k sc ρ σ (.For (.Name x px) iter body [] pos) Q X := fun A env s ads fr H => by
  refine wpAny_For (wpAny_mono (h A env s ads fr H) (fun cv s₁ hq => wpAny_mono hq (fun ci s₂ hi => ?_) fun _ _ x => x.own H) fun _ _ x => x.own H) (hs env)
  obtain ⟨items, Hs, σ₁, s₀, hF, hH, G, S, hok⟩ := hi
  have H₁ := H.go G S
  exact for_it hx H₁ G hok hH hF (hE _ _ _ _ _ _ H₁)
end


-- Core8

section
variable {c : Cx} {q t : Bool} {k : Nat} {sc : Scope} {ρ : Lo} {σ : AH} {Q : AV → AH → Prop} {X : Addr → AH → Prop} {A : Around} {env : Env} {s s₁ : Shared} {ads fr : List Addr}

/-! expressions that make a list -/
noncomputable def EvNQ (c : Cx) (ads fr : List Addr) (s : Shared) (Q : List PyData → AH → Prop) (cv : Value) (s' : Shared) : Prop :=
  ∃ xs σ' D its as, cv = .ref D ∧ Q xs σ' ∧ s.heap.get? D = none ∧ Go nil ads ads s s' ∧ St c.base σ' ads (D :: fr) s'.heap ∧ s'.heap.PlainList D its ∧ ReadsAll s'.heap its.toList xs as ∧ ∀ b ∈ as, b ∉ ads ∧ b ∉ D :: fr
noncomputable def EvN (c : Cx) (q t : Bool) (k : Nat) (sc : Scope) (ρ : Lo) (σ : AH) (e : Expr) (Q : List PyData → AH → Prop) (X : Addr → AH → Prop) : Prop :=
  ∀ A env s ads fr, Here c q t k sc ρ σ A env s ads fr → wpAny c.M A (eval e env) (EvNQ c ads fr s Q) (EvX c ads fr env.frame s X) s

theorem St.sub {base h : Heap} {b : Addr} (S : St base σ ads (b :: fr) h) : St base σ ads fr h := by
  refine ⟨S.stays, S.len, S.nodup, fun a ha => S.new a (ha.imp id (List.mem_cons_of_mem _)), fun i o a h1 h2 => ?_, fun a ha => S.frs a (List.mem_cons_of_mem _ ha), fun a ha hb => S.dis a ha (List.mem_cons_of_mem _ hb)⟩
  have x := S.obj i o a h1 h2
  cases o with
  | list xs => obtain ⟨items, as, hp, r, hh⟩ := x; exact ⟨items, as, hp, r, fun b hb => ⟨(hh b hb).1, fun q => (hh b hb).2 (List.mem_cons_of_mem _ q)⟩⟩
  | dict kvs => obtain ⟨o, es, m, as, bs, e, hc, hd, r1, r2, hh⟩ := x; exact ⟨o, es, m, as, bs, e, hc, hd, r1, r2, fun b hb => ⟨(hh b hb).1, fun q => (hh b hb).2 (List.mem_cons_of_mem _ q)⟩⟩

/-- the list is data -/
theorem EvNQ.frz {Qn : List PyData → AH → Prop} {cv : Value} {s' : Shared} (S₀ : St c.base σ ads fr s.heap) (h : EvNQ c ads fr s Qn cv s') : EvQ c ads fr s (fun v σ' => ∃ xs, v = .dat (.list xs) ∧ Qn xs σ') cv s' := by
  obtain ⟨xs, σ', D, its, as, rfl, hQ, hD, G, S, ⟨n, hp⟩, r, hh⟩ := h
  refine ⟨.dat (.list xs), σ', ⟨xs, rfl, hQ⟩, G, S.sub, D :: as, .list hp rfl rfl r, fun b hb => ?_⟩
  rcases List.mem_cons.mp hb with rfl | hb
  · exact ⟨fun z => S.dis b z List.mem_cons_self, fun z => by obtain ⟨o, e, _⟩ := S₀.frs b z; rw [hD] at e; cases e⟩
  · exact ⟨(hh b hb).1, fun z => (hh b hb).2 (List.mem_cons_of_mem _ z)⟩
theorem EvN.frz {e : Expr} {Qn : List PyData → AH → Prop} (h : EvN c q t k sc ρ σ e Qn X) (hQ : ∀ xs σ', Qn xs σ' → Q (.dat (.list xs)) σ') : Ev c q t k sc ρ σ e Q X := .of fun A env s ads fr H =>
  wpAny_mono (h A env s ads fr H) (fun cv s' x => (x.frz H.S).mono fun v σ' ⟨xs, e, y⟩ => e ▸ hQ xs σ' y) fun _ _ x => x

/-- the list is tracked -/
theorem St.track {base h : Heap} {D : Addr} {its : Array Value} {xs : List PyData} {as : List Addr} (S : St base σ ads (D :: fr) h) (hD : D ∉ fr) (hp : h.PlainList D its) (r : ReadsAll h its.toList xs as) (hh : ∀ b ∈ as, b ∉ ads ∧ b ∉ D :: fr) :
    St base (σ ++ [.list xs]) (ads ++ [D]) fr h := by
  have nD : D ∉ ads := fun z => S.dis D z List.mem_cons_self
  have up : ∀ bs : List Addr, (∀ b ∈ bs, b ∉ ads ∧ b ∉ D :: fr) → ∀ b ∈ bs, b ∉ ads ++ [D] ∧ b ∉ fr := fun bs hb b hm =>
    ⟨fun z => (List.mem_append.mp z).elim (hb b hm).1 fun z => (hb b hm).2 (by rw [List.mem_singleton.mp z]; exact List.mem_cons_self), fun z => (hb b hm).2 (List.mem_cons_of_mem _ z)⟩
  refine ⟨S.stays, by simp [S.len], ?_, fun a ha => ?_, fun i o a h1 h2 => ?_, fun a ha => S.frs a (List.mem_cons_of_mem _ ha), fun a ha hb => ?_⟩
  · refine List.nodup_append.mpr ⟨S.nodup, List.nodup_cons.mpr ⟨List.not_mem_nil, List.nodup_nil⟩, fun x hx y hy e => ?_⟩
    rw [List.mem_singleton.mp hy] at e; exact nD (e ▸ hx)
  · rcases ha with ha | ha
    · exact (List.mem_append.mp ha).elim (fun z => S.new a (.inl z)) fun z => S.new a (.inr (by rw [List.mem_singleton.mp z]; exact List.mem_cons_self))
    · exact S.new a (.inr (List.mem_cons_of_mem _ ha))
  · by_cases hi : i < ads.length
    · rw [List.getElem?_append_left hi] at h2
      rw [List.getElem?_append_left (by rw [S.len]; exact hi)] at h1
      have x := S.obj i o a h1 h2
      cases o with
      | list ys => obtain ⟨items, bs, hp, r, hh⟩ := x; exact ⟨items, bs, hp, r, up bs hh⟩
      | dict kvs => obtain ⟨o, es, m, as, bs, e, hc, hd, r1, r2, hh⟩ := x; exact ⟨o, es, m, as, bs, e, hc, hd, r1, r2, up _ hh⟩
    · have hlen : i < (ads ++ [D]).length := (List.getElem?_eq_some_iff.mp h2).1
      have e : i = ads.length := by simp at hlen; omega
      subst e
      rw [List.getElem?_append_right (Nat.le_refl _)] at h2
      rw [List.getElem?_append_right (by rw [S.len]; exact Nat.le_refl _), S.len] at h1
      simp at h1 h2
      subst h1 h2
      exact ⟨its, as, hp, r, up as hh⟩
  · exact (List.mem_append.mp ha).elim (fun z => S.dis a z (List.mem_cons_of_mem _ hb)) fun z => hD (by rw [← List.mem_singleton.mp z]; exact hb)

theorem VRs.readsAll {cvs : List Value} {ds : List PyData} {h : Heap} (V : VRs ads fr h (ds.map .dat) cvs) : ∃ as, ReadsAll h cvs ds as ∧ ∀ b ∈ as, b ∉ ads ∧ b ∉ fr := by
  induction ds generalizing cvs with
  | nil => obtain rfl : cvs = [] := V; exact ⟨[], .nil, fun _ hb => nomatch hb⟩
  | cons d ds ih =>
    obtain ⟨v, r, rfl, ⟨as, h1, h2⟩, h3⟩ := V
    obtain ⟨bs, h4, h5⟩ := ih h3
    exact ⟨as ++ bs, .cons h1 h4, fun b hb => (List.mem_append.mp hb).elim (h2 b) (h5 b)⟩

/-- a new list object -/
theorem newList_N' {vs : List Value} {xs : List PyData} {Qn : List PyData → AH → Prop} {P : Value → Shared → Prop} {E : Value → Shared → Prop} (S : St c.base σ ads fr s.heap) (V : VRs ads fr s.heap (xs.map .dat) vs) (hq : Qn xs σ) (hsz : xs.length ≤ sizeLine)
    (h : ∀ cv s', EvNQ c ads fr s Qn cv s' → P cv s') : wpAny c.M A (newList vs) P E s := by
  obtain ⟨as, r, hh⟩ := V.readsAll
  have hnew : s.heap.get? s.heap.objs.size = none := Heap.get?_none_of_le (Nat.le_refl _)
  have hl : vs.length = xs.length := by simpa using V.length
  refine wpAny_newObj_type (h _ _ ⟨xs, σ, s.heap.objs.size, vs.toArray, as, rfl, hq, hnew, (Grow.push s _ s.toks).go nil ads, ?_, ⟨_, Heap.get?_push_size _ rfl⟩, ?_, fun b hb => ?_⟩) (by show vs.toArray.size ≤ sizeLine; rw [List.size_toArray, hl]; exact hsz)
  · refine (S.grow (Grow.push s _ s.toks)).inner (fr' := [s.heap.objs.size]) (h₀ := s.heap) S.stays S (fun b hb => by rw [List.mem_singleton.mp hb]; exact hnew) (fun b hb => ?_) S.obj fun b o e => Heap.get?_push_of_some _ e
    rw [List.mem_singleton.mp hb]
    exact ⟨_, Heap.get?_push_size _ rfl, .inr (.inr ⟨rfl, _, _, rfl⟩)⟩
  · exact readsAll_keep (P := nil) (fun b o e _ => ⟨o, Heap.get?_push_of_some _ e, .refl _⟩) (fun _ _ _ _ _ _ _ => id) _ _ _ (by simpa using r) fun _ _ => id
  · refine ⟨(hh b hb).1, fun z => (List.mem_cons.mp z).elim (fun z => ?_) (hh b hb).2⟩
    obtain ⟨o, e, _⟩ := readsAll_at _ _ _ r b hb
    rw [z, hnew] at e; cases e

theorem EvNQ.trans {Qn : List PyData → AH → Prop} {cv : Value} {s' : Shared} (G : Go nil ads ads s s₁) (h : EvNQ c ads fr s₁ Qn cv s') : EvNQ c ads fr s Qn cv s' := by
  obtain ⟨xs, σ', D, its, as, h1, h2, h3, h4, h5⟩ := h
  exact ⟨xs, σ', D, its, as, h1, h2, G.none h3, G.trans h4, h5⟩

/-- a list display -/
theorem EvN.list {es : List Expr} {pos : Pos} {Qn : List PyData → AH → Prop} (h : Evs c q t k sc ρ σ es (fun vs σ₁ => ∃ ds, vs = ds.map .dat ∧ ds.length ≤ sizeLine ∧ Qn ds σ₁) X) : EvN c q t k sc ρ σ (.List es pos) Qn X := fun A env s ads fr H => by
  refine List_ (wpAny_mono (h A env s ads fr pos H) (fun cvs s₁ hq => ?_) fun _ _ x => x)
  obtain ⟨vs, σ₁, ⟨ds, rfl, hl, hQ⟩, G, S, V⟩ := hq
  exact newList_N' S V hQ hl fun cv s' x => x.trans G

/-- a tuple display -/
theorem Ev.tuple {es : List Expr} {kk : Nat} {pos : Pos} (h : Evs c q t k sc ρ σ es (fun vs σ₁ => ∃ ds, vs = ds.map .dat ∧ ds.length ≤ sizeLine ∧ Q (.dat (.tuple ds)) σ₁) X) : Ev c q t k sc ρ σ (.Tuple es kk pos) Q X := .of fun A env s ads fr H => by
  refine Tuple_ (wpAny_mono (h A env s ads fr pos H) (fun cvs s₁ hq => ?_) fun _ _ x => x)
  obtain ⟨vs, σ₁, ⟨ds, rfl, hl, hQ⟩, G, S, V⟩ := hq
  obtain ⟨as, r, hh⟩ := V.readsAll
  have hl' : cvs.length = ds.length := by simpa using V.length
  refine wpAny_newObj_type ?_ (by show cvs.toArray.size ≤ sizeLine; rw [List.size_toArray, hl']; exact hl)
  have G' := Grow.push s₁ { cls := .type "tuple", data := .seq cvs.toArray } s₁.toks
  refine ⟨.dat (.tuple ds), σ₁, hQ, G.trans (G'.go nil ads), S.grow G', as, .tuple (Heap.get?_push_size _ rfl) rfl rfl ?_, hh⟩
  exact readsAll_keep (P := nil) (fun b o e _ => ⟨o, Heap.get?_push_of_some _ e, .refl _⟩) (fun _ _ _ _ _ _ _ => id) _ _ _ (by simpa using r) fun _ _ => id
end

section
variable {c : Cx} {q t : Bool} {k : Nat} {sc : Scope} {ρ : Lo} {σ : AH} {Q : Fw → Lo → AH → Prop} {X : Addr → Lo → AH → Prop} {A : Around} {env : Env} {s s₁ : Shared} {ads fr : List Addr}
/-- x = [..], x tracked from now on -/
theorem Ex.assignNew {x : Str} {e : Expr} {p pos : Pos} (hk : sc.names.lookup x = some .local ∨ sc.names.lookup x = some .cell)
    (h : EvN c q t k sc ρ σ e (fun xs σ₁ => Q .next (upd x (.obj σ₁.length) ρ) (σ₁ ++ [.list xs])) (fun C σ₁ => X C ρ σ₁)) (hs : ∀ env, swapsWith e (some (.Name x p)) pos.line env = pure false := by intro _; rfl) :
    Ex c q t k sc ρ σ (.Assign [.Name x p] e pos) Q X := fun A env s ads fr H => by
  refine wpAny_Assign_Name (wpAny_mono (h A env s ads fr H) (fun cv s₁ hq => ?_) fun _ _ x => x.own H) (hs env)
  obtain ⟨xs, σ₁, D, its, as, rfl, hQ, hD, G, S, hp, r, hh⟩ := hq
  have nf : D ∉ fr := fun z => by obtain ⟨o, e, _⟩ := H.S.frs D z; rw [hD] at e; cases e
  have S₁ := S.track nf hp r hh
  have G₁ : Go nil ads (ads ++ [D]) s s₁ := ⟨G.kp, G.live, G.rest, ⟨[D], rfl⟩, fun a ha => (List.mem_append.mp ha).imp id fun z => by rw [List.mem_singleton.mp z]; exact hD⟩
  have H₁ : Here c q t k sc ρ (σ₁ ++ [.list xs]) A env s₁ (ads ++ [D]) fr := ⟨H.sc, H.R.go H.S G₁, H.F.go H.S G₁, S₁⟩
  have hl : σ₁.length = ads.length := S.len
  refine bind_wp H₁ (v := .obj σ₁.length) hk ⟨D, by rw [hl]; simp, rfl⟩ fun s' G' H' => ⟨.next, _, _, _, hQ, G₁.own.trans G', H'.S, H'.F, rfl⟩
end


-- Core9

/-! comprehensions -/
noncomputable def clos (cells : List (Str × Addr)) : List (Str × NameKind) → List (Str × Addr) → List (Str × Addr)
  | [], acc => acc
  | (n, kd) :: r, acc => if kd == .free then (match cells.lookup n with | some a => clos cells r ((n, a) :: acc) | none => clos cells r acc) else clos cells r acc

theorem closureFor_eq {scope : Scope} {env : Env} (h : ∀ n, (n, NameKind.free) ∈ scope.names → ∃ a, env.cells.lookup n = some a) : closureFor scope env = pure (clos env.cells scope.names []) := by
  unfold closureFor
  have : ∀ (names : List (Str × NameKind)) (acc : List (Str × Addr)), (∀ n, (n, NameKind.free) ∈ names → ∃ a, env.cells.lookup n = some a) →
      (forIn names acc fun x r => if (x.2 == NameKind.free) = true then do let a ← cellOf env x.1; pure (ForInStep.yield ((x.1, a) :: r)) else pure (ForInStep.yield r) : Sem (List (Str × Addr))) = pure (clos env.cells names acc) := by
    intro names
    induction names with
    | nil => intro acc _; rfl
    | cons y r ih =>
      obtain ⟨n, kd⟩ := y
      intro acc hn
      rw [List.forIn_cons]
      by_cases hk : (kd == NameKind.free) = true
      · have e : kd = .free := by simpa using hk
        subst e
        obtain ⟨a, ha⟩ := hn n List.mem_cons_self
        simp only [clos, ha, beq_self_eq_true, if_true]
        unfold cellOf
        rw [ha]
        exact ih _ fun m hm => hn m (List.mem_cons_of_mem _ hm)
      · simp only [clos, hk]
        exact ih _ fun m hm => hn m (List.mem_cons_of_mem _ hm)
  have h2 := this scope.names [] h
  simp only [bind_pure]
  exact h2

theorem clos_sub {cells : List (Str × Addr)} : ∀ (names : List (Str × NameKind)) (acc : List (Str × Addr)) (x : Str) (a : Addr), (clos cells names acc).lookup x = some a → acc.lookup x = some a ∨ cells.lookup x = some a := by
  intro l
  induction l with
  | nil =>
    intro _ _ _ h
    exact .inl h
  | cons pq r ih =>
    obtain ⟨n, kd⟩ := pq
    intro acc x a h
    unfold clos at h
    split at h
    · split at h
      · rename_i b hb
        rcases ih _ x a h with h | h
        · rw [List.lookup_cons] at h
          by_cases hx : (x == n) = true
          · rw [hx] at h; cases h; rw [beq_iff_eq.mp hx]; exact .inr hb
          · simp only [Bool.not_eq_true] at hx; rw [hx] at h; exact .inl h
        · exact .inr h
      · exact ih _ x a h
    · exact ih _ x a h

theorem clos_get {cells : List (Str × Addr)} {x : Str} {a : Addr} (hc : cells.lookup x = some a) : ∀ (names : List (Str × NameKind)) (acc : List (Str × Addr)), (x, NameKind.free) ∈ names ∨ acc.lookup x = some a → (acc.lookup x = none ∨ acc.lookup x = some a) → (clos cells names acc).lookup x = some a := by
  intro l
  induction l with
  | nil =>
    intro _ h _
    exact h.elim (fun z => nomatch z) id
  | cons pq r ih =>
    obtain ⟨n, kd⟩ := pq
    intro acc h hn
    unfold clos
    by_cases hk : (kd == NameKind.free) = true
    · rw [if_pos hk]
      have e : kd = .free := by simpa using hk
      subst e
      by_cases hx : x = n
      · subst hx
        rw [hc]
        exact ih _ (.inr (by simp)) (.inr (by simp))
      · have hb : (x == n) = false := beq_eq_false_iff_ne.mpr hx
        have h' : (x, NameKind.free) ∈ r ∨ acc.lookup x = some a := h.imp (fun z => by
          rcases List.mem_cons.mp z with z | z
          · cases z; exact absurd rfl hx
          · exact z) id
        split
        · exact ih _ (h'.imp id fun z => by rw [List.lookup_cons, hb]; exact z) (by rw [List.lookup_cons, hb]; exact hn)
        · exact ih _ h' hn
    · rw [if_neg hk]
      exact ih _ (h.imp (fun z => by
        rcases List.mem_cons.mp z with z | z
        · cases z; exact absurd rfl hk
        · exact z) id) hn

theorem mem_of_look {α : Type} [BEq α] : ∀ {l : List (Str × NameKind)} {n : Str} {kd : NameKind}, l.lookup n = some kd → (n, kd) ∈ l
  | (k, v) :: r, n, c, h => by
    rw [List.lookup_cons] at h
    cases hb : n == k with
    | true => rw [hb] at h; cases h; rw [beq_iff_eq.mp hb]; exact List.mem_cons_self
    | false => rw [hb] at h; exact List.mem_cons_of_mem _ (mem_of_look (α := α) h)

/-- a comprehension's names, as they stand inside -/
noncomputable def relab (scope sc : Scope) : Scope :=
  { scope with names := scope.names.map fun (n, k) => if (k == .free && sc.kind == .function && sc.names.lookup n == some .cell) then (n, .cell) else (n, k) }
theorem relab_eq {scope : Scope} {env : Env} : relabel scope env = relab scope env.scope := rfl

theorem relab_look {sc : Scope} {x : Str} : ∀ names : List (Str × NameKind), (names.map fun (n, k) => if (k == NameKind.free && sc.kind == .function && sc.names.lookup n == some .cell) then (n, NameKind.cell) else (n, k)).lookup x =
    (names.lookup x).map fun k => if (k == NameKind.free && sc.kind == .function && sc.names.lookup x == some .cell) then .cell else k := by
  intro l
  induction l with
  | nil =>
    exact rfl
  | cons pq r ih =>
    obtain ⟨n, k⟩ := pq
    rw [List.map_cons]
    by_cases hx : x = n
    · subst hx
      cases hc : (k == NameKind.free && sc.kind == .function && sc.names.lookup x == some .cell) with
      | true => simp only [hc, if_true, List.lookup_cons, beq_self_eq_true, Option.map_some]
      | false => simp only [hc, Bool.false_eq_true, if_false, List.lookup_cons, beq_self_eq_true, Option.map_some]
    · have hb : (x == n) = false := beq_eq_false_iff_ne.mpr hx
      by_cases hc : (k == NameKind.free && sc.kind == .function && sc.names.lookup n == some .cell) = true
      · simp only [hc, if_true, List.lookup_cons, hb]; exact ih
      · simp only [Bool.not_eq_true] at hc
        simp only [hc, Bool.false_eq_true, if_false, List.lookup_cons, hb]; exact ih

/-- the outer names that it sees -/
noncomputable def seen (scope : Scope) (ρ : Lo) : Lo := ρ.filter fun p => scope.names.lookup p.1 == some .free
theorem seen_look {scope : Scope} {x : Str} {v : AV} : ∀ ρ : Lo, (seen scope ρ).lookup x = some v → scope.names.lookup x = some .free ∧ ρ.lookup x = some v := by
  intro l
  induction l with
  | nil =>
    intro h
    simp [seen] at h
  | cons pq r ih =>
    obtain ⟨y, u⟩ := pq
    intro h
    unfold seen at h
    rw [List.filter_cons] at h
    split at h
    · rename_i hy
      rw [List.lookup_cons] at h
      by_cases hx : (x == y) = true
      · rw [hx] at h; cases h
        have e := beq_iff_eq.mp hx; subst e
        exact ⟨by simpa using hy, by simp⟩
      · simp only [Bool.not_eq_true] at hx
        rw [hx] at h
        obtain ⟨h1, h2⟩ := ih h
        exact ⟨h1, by rw [List.lookup_cons, hx]; exact h2⟩
    · rename_i hy
      obtain ⟨h1, h2⟩ := ih h
      refine ⟨h1, ?_⟩
      rw [List.lookup_cons]
      by_cases hx : (x == y) = true
      · have e := beq_iff_eq.mp hx; subst e
        exact absurd (by simpa using h1) hy
      · simp only [Bool.not_eq_true] at hx; rw [hx]; exact h2

theorem upd_upd (x : Str) (v w : AV) : ∀ ρ : Lo, upd x v (upd x w ρ) = upd x v ρ := by
  intro l
  induction l with
  | nil =>
    simp [upd]
  | cons pq r ih =>
    obtain ⟨y, u⟩ := pq
    by_cases hy : y = x
    · subst hy; simp [upd]
    · simp [upd, hy, ih]

section
variable {c : Cx} {q t : Bool} {k : Nat} {sc : Scope} {ρ : Lo} {σ : AH} {X : Addr → AH → Prop} {A : Around} {env : Env} {s s₁ : Shared} {ads fr : List Addr}

theorem bind_local {x : Str} {v : AV} {cv : Value} {P : Unit → Shared → Prop} {E : Value → Shared → Prop} (H : Here c q t k sc ρ σ A env s ads fr) (hk : sc.names.lookup x = some .local)
    (V : VR ads fr s.heap v cv) (h : ∀ s', Go (· = env.locals) ads ads s s' → Here c q t k sc (upd x v ρ) σ A env s' ads fr → P () s') : wpAny c.M A (storeName env x cv) P E s := by
  have hl : env.kindOf x = some .local := by rw [← H.sc] at hk; exact hk
  obtain ⟨m, hns, hρ⟩ := H.F.ns
  refine wpAny_storeName_local hl hns (fun h' hn hs => ?_) (by rw [H.F.kind]; rfl)
  obtain ⟨G, S'⟩ := go_fr (tk := s.toks + 1) (O := (· = env.locals)) H.S H.F.lin rfl hs fun o e => by
    obtain ⟨o', es, ep, e', hd, _⟩ := hn
    obtain ⟨o₀, es₀, ep₀, e₀, hd₀, _⟩ := hns
    rw [e] at e₀; cases e₀
    exact ⟨o', e', ⟨fun _ _ _ => ⟨es, ep, hd⟩, fun v q => by rw [hd₀] at q; cases q⟩, .inl ⟨es, ep, hd⟩⟩
  have hO : ∀ b, b = env.locals → b ∈ fr ∨ Bare s.heap b := fun b z => .inl (z ▸ H.F.lin)
  refine h _ G ⟨H.sc, H.R.go H.S G, ⟨H.F.kind, H.F.glob, H.F.bi, H.F.lin, ⟨_, hn, fun y u hy => ?_⟩, fun y hy => ?_, H.F.cin, H.F.apart⟩, S'⟩
  · rw [lookup_upd] at hy
    by_cases hyx : y = x
    · subst hyx
      rw [if_pos rfl] at hy; cases hy
      exact .inl ⟨hl, cv, by simp, V.go H.S G hO⟩
    · rw [if_neg hyx] at hy
      rcases hρ y u hy with ⟨h1, cu, h2, h3⟩ | ⟨h1, cl, cu, h2, h3, h4⟩
      · exact .inl ⟨h1, cu, by simp [hyx, h2], h3.go H.S G hO⟩
      · exact .inr ⟨h1, cl, cu, h2, h3.sameBut hs (H.F.cin y cl h2).2, h4.go H.S G hO⟩
  · obtain ⟨cl, u, h1, h2⟩ := H.F.cell y hy
    exact ⟨cl, u, h1, h2.sameBut hs (H.F.cin y cl h1).2⟩

noncomputable abbrev NoX : Addr → AH → Prop := fun _ _ => False

noncomputable def CTest (c : Cx) (q : Bool) (k : Nat) (sc : Scope) (ρ : Lo) (σ : AH) (ifs : List Expr) (K : Bool → AH → Prop) : Prop :=
  match ifs with
  | [] => K true σ
  | [e] => Tb c q false k sc ρ σ e K NoX
  | _ => False

noncomputable def CompR (c : Cx) (q : Bool) (k : Nat) (sc : Scope) (ρf : Lo) (x : Str) (elt : Expr) (ifs : List Expr) (Hs : AH → Prop) (Qn : List PyData → AH → Prop) : List AV → List PyData → AH → Prop
  | [], acc, σ => Qn acc σ
  | v :: vs, acc, σ => CTest c q k sc (upd x v ρf) σ ifs fun b σ₁ =>
      if b = true then Ev c q false k sc (upd x v ρf) σ₁ elt (fun u σ₂ => ∃ d, u = .dat d ∧ acc.length < sizeLine ∧ Hs σ₂ ∧ CompR c q k sc ρf x elt ifs Hs Qn vs (acc ++ [d]) σ₂) NoX
      else Hs σ₁ ∧ CompR c q k sc ρf x elt ifs Hs Qn vs acc σ₁

theorem ctest_wp {ifs : List Expr} {K : Bool → AH → Prop} {L : Option Addr} {E : Value → Shared → Prop} (h : CTest c q k sc ρ σ ifs K) (H : Here c q false k sc ρ σ A env s ads fr) :
    wpAny c.M A (forIn ifs true fun cc r => if r = true then do let ok ← isTrue cc env (eval cc env); pure (ForInStep.yield ok) else pure (ForInStep.yield r)) (TbQ c ads fr s K) E s := by
  cases ifs with
  | nil => exact wpAny_tests_nil ⟨σ, h, .refl .., H.S⟩
  | cons e r =>
    cases r with
    | nil => exact wpAny_tests_one (wpAny_mono (h A env s ads fr H) (fun _ _ x => x) fun _ _ x => by obtain ⟨C, σ', e, _, h1, _⟩ := x; exact h1.elim)
    | cons _ _ => exact h.elim
end


-- Core10

section
variable {c : Cx} {q t : Bool} {k : Nat} {sc : Scope} {ρ : Lo} {σ : AH} {X : Addr → AH → Prop} {A : Around} {env : Env} {s s₁ : Shared} {ads fr : List Addr}

/-- an own place that is given up -/
theorem St.extC {base h h' : Heap} {C : Addr} (S : St base σ ads (C :: fr) h) (hC : C ∉ fr) (hs : Heap.ExtBut C h h') : St base σ ads fr h' := by
  have hk : ∀ b o, h.get? b = some o → ¬ b = C → ∃ o', h'.get? b = some o' ∧ Same o o' := fun b o e nb => ⟨o, hs b o nb e, .refl _⟩
  have ht : ∀ a o vs n, h.get? a = some o → o.cls = .type "tuple" → o.data = .seq vs n → ¬ a = C := fun a o vs n e hc hd z => (S.tupleAt e hc hd).2 (z ▸ List.mem_cons_self)
  refine ⟨fun b o e => hs b o (fun z => ?_) (S.stays b o e), S.len, S.nodup, fun a ha => S.new a (ha.imp id (List.mem_cons_of_mem _)), fun i o a h1 h2 => ?_, fun b hb => ?_, fun a ha hb => S.dis a ha (List.mem_cons_of_mem _ hb)⟩
  · rw [z, S.new C (.inr List.mem_cons_self)] at e; cases e
  · have x := S.obj i o a h1 h2
    have ne : a ≠ C := fun z => S.dis a (List.mem_of_getElem? h2) (z ▸ List.mem_cons_self)
    have up : ∀ bs : List Addr, (∀ b ∈ bs, b ∉ ads ∧ b ∉ C :: fr) → ∀ b ∈ bs, b ∉ ads ∧ b ∉ fr := fun bs hb b hm => ⟨(hb b hm).1, fun z => (hb b hm).2 (List.mem_cons_of_mem _ z)⟩
    have nc : ∀ bs : List Addr, (∀ b ∈ bs, b ∉ ads ∧ b ∉ C :: fr) → ∀ b ∈ bs, ¬ b = C := fun bs hb b hm z => (hb b hm).2 (z ▸ List.mem_cons_self)
    cases o with
    | list xs => obtain ⟨items, as, ⟨n, e⟩, r, hh⟩ := x; exact ⟨items, as, ⟨n, hs _ _ ne e⟩, readsAll_keep (P := (· = C)) hk ht _ _ _ r (nc as hh), up as hh⟩
    | dict kvs =>
      obtain ⟨o, es, m, as, bs, e, hc, hd, r1, r2, hh⟩ := x
      exact ⟨o, es, m, as, bs, hs _ _ ne e, hc, hd, readsAllP_keep (P := (· = C)) hk ht _ _ _ r1 (nc as fun b hb => hh b (List.mem_append_left _ hb)), readsAllQ_keep (P := (· = C)) hk ht _ _ _ r2 (nc bs fun b hb => hh b (List.mem_append_right _ hb)), up _ hh⟩
  · obtain ⟨o, e, f⟩ := S.frs b (List.mem_cons_of_mem _ hb)
    exact ⟨o, hs b o (fun z => hC (z ▸ hb)) e, f⟩

theorem FrR.goF {base : Heap} {ads' : List Addr} {O : Addr → Prop} (F : FrR ads fr env ρ s.heap) (S : St base σ ads fr s.heap) (G : Go O ads ads' s s₁) (hO : ∀ b, O b → (b ∈ fr ∧ ¬ Own env b) ∨ Bare s.heap b) : FrR ads' fr env ρ s₁.heap := by
  have hO' : ∀ b, O b → b ∈ fr ∨ Bare s.heap b := fun b z => (hO b z).imp And.left id
  have same : ∀ b, b ∈ fr → Own env b → ∀ o, s.heap.get? b = some o → ∃ o', s₁.heap.get? b = some o' ∧ Same o o' := fun b hb ho o e => by
    obtain ⟨o', e', h1, _⟩ := G.kp b o e fun ha => S.dis b ha hb
    refine ⟨o', e', h1 fun z => ?_⟩
    rcases hO b z with ⟨_, n⟩ | ⟨o₁, vs, T, e₁, hd, _⟩
    · exact n ho
    · exact (S.fieldsAt e₁ hd).2 hb
  obtain ⟨m, hn, hρ⟩ := F.ns
  refine ⟨F.kind, F.glob, F.bi, F.lin, ⟨m, ns_same hn (same _ F.lin (.inl rfl)), fun x v hx => ?_⟩, fun x hx => ?_, F.cin, F.apart⟩
  · rcases hρ x v hx with ⟨h1, cv, h2, h3⟩ | ⟨h1, cl, cv, h2, h3, h4⟩
    · exact .inl ⟨h1, cv, h2, h3.go S G hO'⟩
    · exact .inr ⟨h1, cl, cv, h2, cell_same h3 (same _ (F.cin x cl h2).1 (.inr ⟨x, h2⟩)), h4.go S G hO'⟩
  · obtain ⟨cl, v, h1, h2⟩ := F.cell x hx
    exact ⟨cl, v, h1, cell_same h2 (same _ (F.cin x cl h1).1 (.inr ⟨x, h1⟩))⟩

/-- a list under way, outside the tracked ones -/
noncomputable def Acc (ads fr : List Addr) (h : Heap) (D : Addr) (xs : List PyData) : Prop := ∃ its as, h.PlainList D its ∧ ReadsAll h its.toList xs as ∧ ∀ b ∈ as, b ∉ ads ∧ b ∉ fr

theorem Acc.go {D : Addr} {xs : List PyData} {O : Addr → Prop} (x : Acc ads fr s.heap D xs) (S : St c.base σ ads fr s.heap) (hD : D ∈ fr) (G : Go O ads ads s s₁) (hO : ∀ b, O b → b ∈ fr ∨ Bare s.heap b) (hOD : ¬ O D) : Acc ads fr s₁.heap D xs := by
  obtain ⟨its, as, ⟨n, e⟩, r, hh⟩ := x
  obtain ⟨o', e', sm, _⟩ := G.kp D _ e fun z => S.dis D z hD
  have := (sm hOD).eq (by simp)
  subst this
  refine ⟨its, as, ⟨n, e'⟩, readsAll_keep (S.keep G hO) S.tup _ _ _ r fun a ha z => ?_, hh⟩
  rcases z with z | z | z
  · exact (hh a ha).1 z
  · exact (hh a ha).2 z
  · exact (readsAll_at _ _ _ r a ha).notBare z

theorem readsAll_snoc {h : Heap} {vs : List Value} {ds : List PyData} {as bs : List Addr} {v : Value} {d : PyData} (r : ReadsAll h vs ds as) (r' : Reads h v d bs) : ReadsAll h (vs ++ [v]) (ds ++ [d]) (as ++ bs) := by
  have : ∀ (ds : List PyData) (vs : List Value) (as : List Addr), ReadsAll h vs ds as → ReadsAll h (vs ++ [v]) (ds ++ [d]) (as ++ bs) := by
    intro ds
    induction ds with
    | nil => intro vs as r; cases r; simpa using ReadsAll.cons r' .nil
    | cons x xs ih => intro vs as r; cases r with | cons r1 r2 => rw [List.cons_append, List.cons_append, List.append_assoc]; exact .cons r1 (ih _ _ r2)
  exact this ds vs as r

/-- one more item -/
theorem append_acc {D : Addr} {xs : List PyData} {d : PyData} {cv : Value} {P : Value → Shared → Prop} {E : Value → Shared → Prop} (x : Acc ads fr s.heap D xs) (S : St c.base σ ads fr s.heap) (hD : D ∈ fr) (V : VR ads fr s.heap (.dat d) cv) (hsz : xs.length < sizeLine)
    (h : ∀ s', Go (· = D) ads ads s s' → St c.base σ ads fr s'.heap → Acc ads fr s'.heap D (xs ++ [d]) → P .none s') : wpAny c.M A (call (.builtin "list.append") [.ref D, cv]) P E s := by
  obtain ⟨its, as, hp, r, hh⟩ := x
  obtain ⟨bs, r', hh'⟩ := V
  refine wpAny_list_append_plain hp (fun h' hp' hs => ?_) (by rw [readsAll_size r]; omega)
  obtain ⟨n, e⟩ := hp
  obtain ⟨n', e'⟩ := id hp'
  obtain ⟨G, S'⟩ := go_fr (tk := s.toks) (O := (· = D)) S hD rfl hs fun o eo => by
    rw [e] at eo; cases eo
    exact ⟨_, e', ⟨fun _ _ q => (by cases q), fun _ q => (by cases q)⟩, .inr (.inr ⟨rfl, _, _, rfl⟩)⟩
  have nb : ∀ b ∈ as ++ bs, b ∉ ads ∧ b ∉ fr := fun b hb => (List.mem_append.mp hb).elim (hh b) (hh' b)
  have hO : ∀ b, b = D → b ∈ fr ∨ Bare s.heap b := fun b z => .inl (z ▸ hD)
  refine h { s with heap := h' } G S' ⟨_, as ++ bs, hp', ?_, nb⟩
  rw [Array.toList_push]
  refine readsAll_keep (S.keep G hO) S.tup _ _ _ (readsAll_snoc r r') fun a ha z => ?_
  rcases z with z | z | z
  · exact (nb a ha).1 z
  · exact (nb a ha).2 z
  · exact ((List.mem_append.mp ha).elim (fun y => readsAll_at _ _ _ r a y) fun y => reads_at _ _ _ r' a y).notBare z

theorem comp_wp {x : Str} {px pos : Pos} {elt iter : Expr} {ifs : List Expr} {scope : Scope} {it D : Addr} {items : List AV} {Hs : AH → Prop} {P : Nat → List Addr → Heap → Prop} {Qn : List PyData → AH → Prop} {R : Result → Shared → Prop} (hq : q = true)
    (hx : sc.names.lookup x = some .local) (W : Walk c fr it items Hs P) (H : Here c q false k sc ρ σ A env s ads fr) (hDf : D ∈ fr) (hDo : ¬ Own env D) (hP : P 0 ads s.heap) (hH : Hs σ) (hA : Acc ads fr s.heap D [])
    (h : CompR c q k sc ρ x elt ifs Hs Qn items [] σ)
    (hR : ∀ xs σ' h' s', Qn xs σ' → Go (fun b => b = env.locals ∨ b = D ∨ b = it) ads ads s s' → Heap.ExtBut it s'.heap h' → St c.base σ' ads fr h' → Acc ads fr h' D xs → (∃ m, h'.Ns env.locals m) → R (.ok .next) { s' with heap := h' }) :
    codeAny c.M A (.compLoop (.ListComp elt [⟨.Name x px, iter, ifs, 0⟩] scope pos) 0 (.ref it) (.ref D) env) R s := by
  refine codeAny_compLoop_tests (fun n s' => ∃ i acc σ' ρ', n = items.length - i ∧ i ≤ items.length ∧ Here c q false k sc ρ' σ' A env s' ads fr ∧ (∀ v, upd x v ρ' = upd x v ρ) ∧ Go (fun b => b = env.locals ∨ b = D ∨ b = it) ads ads s s' ∧
      P i ads s'.heap ∧ Hs σ' ∧ Acc ads fr s'.heap D acc ∧ CompR c q k sc ρ x elt ifs Hs Qn (items.drop i) acc σ') ?_ items.length
    ⟨0, [], σ, ρ, rfl, Nat.zero_le _, H, fun _ => rfl, .refl .., hP, hH, hA, by simpa using h⟩
  rintro n s' ⟨i, acc, σ', ρ', rfl, hi, H', hu, G', hP', hH', hA', hF⟩
  obtain ⟨hbare, hbase⟩ := W.bare i ads _ hP'
  have nit : it ∉ fr := by obtain ⟨_, _, _, e, hd, _⟩ := hbare; exact (H'.S.fieldsAt e hd).2
  have nD : ¬ D = it := fun z => nit (z ▸ hDf)
  cases hv : items[i]? with
  | none =>
    have hlen : items.length ≤ i := by simpa using hv
    rw [List.drop_eq_nil_of_le hlen] at hF
    refine W.stop i A s' ads σ' _ _ hv (H'.R.quiet hq) hP' hH' H'.S fun h' hs => ?_
    have F' := H'.F.extB H'.S hbare hs
    refine hR acc σ' h' s' hF G' hs (H'.S.extB hbare hbase hs) ?_ (by obtain ⟨m, hm, _⟩ := F'.ns; exact ⟨m, hm⟩)
    obtain ⟨its, as, hp, r, hh⟩ := hA'
    have hk : ∀ b o, s'.heap.get? b = some o → ¬ Bare s'.heap b → ∃ o', h'.get? b = some o' ∧ Same o o' := fun b o e nb => ⟨o, hs b o (fun z => nb (z ▸ hbare)) e, .refl _⟩
    have ht : ∀ a o vs n, s'.heap.get? a = some o → o.cls = .type "tuple" → o.data = .seq vs n → ¬ Bare s'.heap a := fun a o vs n e hc hd => Stands.notBare ⟨o, e, fun ws z => by rw [hd] at z; cases z⟩
    exact ⟨its, as, hp.extBut hs nD, readsAll_keep (P := Bare _) hk ht _ _ _ r fun b hb => (readsAll_at _ _ _ r b hb).notBare, hh⟩
  | some v =>
    have hlt : i < items.length := (List.getElem?_eq_some_iff.mp hv).1
    have hd : items.drop i = v :: items.drop (i + 1) := by
      rw [List.drop_eq_getElem_cons hlt, (List.getElem?_eq_some_iff.mp hv).2]
    rw [hd] at hF
    refine W.next i v A s' ads σ' _ _ hv hP' hH' H'.S fun s₂ cv G₂ S₂ hP₂ V₂ => ?_
    have hO₂ : ∀ b, b = it → Bare s'.heap b := fun b z => z ▸ hbare
    have H₂ : Here c q false k sc ρ' σ' A env s₂ ads fr := ⟨H'.sc, H'.R.go H'.S G₂, H'.F.goB H'.S G₂ hO₂, S₂⟩
    have A₂ := hA'.go H'.S hDf G₂ (fun b z => .inr (hO₂ b z)) nD
    refine wpAny_assign_Name (bind_local H₂ hx V₂ fun s₃ G₃ H₃ => ?_)
    rw [hu v] at H₃
    have hOl : ∀ b, b = env.locals → b ∈ fr := fun b z => z ▸ H₂.F.lin
    have hP₃ := W.keep (i + 1) ads ads s₂ s₃ σ' _ hP₂ S₂ G₃ hOl
    have A₃ := A₂.go S₂ hDf G₃ (fun b z => .inl (hOl b z)) fun z => hDo (.inl z)
    have G₃' : Go (fun b => b = env.locals ∨ b = D ∨ b = it) ads ads s s₃ := (G'.trans (G₂.mono fun _ z => .inr (.inr z))).trans (G₃.mono fun _ z => .inl z)
    refine wpAny_mono (ctest_wp (L := none) hF H₃) (fun ok s₄ h₄ => ?_) fun _ _ y => y
    obtain ⟨σ₄, h4, G₄, S₄⟩ := h₄
    have H₄ := H₃.go G₄ S₄
    have hP₄ := W.keep (i + 1) ads ads s₃ s₄ σ' nil hP₃ H₃.S G₄ fun _ z => z.elim
    have A₄ := A₃.go H₃.S hDf G₄ (fun b z => z.elim) id
    have G₄' := G₃'.trans (G₄.mono fun _ z => z.elim)
    have hu' : ∀ w, upd x w (upd x v ρ) = upd x w ρ := fun w => upd_upd x w v ρ
    cases ok with
    | false =>
      rw [if_neg (by simp)] at h4 ⊢
      exact ⟨items.length - (i + 1), by omega, i + 1, acc, σ₄, _, rfl, hlt, H₄, hu', G₄', hP₄, h4.1, A₄, h4.2⟩
    | true =>
      rw [if_pos rfl] at h4 ⊢
      refine wpAny_mono (h4.at H₄) (fun cu s₅ h₅ => ?_) fun _ _ y => by obtain ⟨C, σ', e, _, h1, _⟩ := y; exact h1.elim
      obtain ⟨u, σ₅, ⟨d, rfl, hsz, hH₅, hC₅⟩, G₅, S₅, V₅⟩ := h₅
      have H₅ := H₄.go G₅ S₅
      have hP₅ := W.keep (i + 1) ads ads s₄ s₅ σ₄ nil hP₄ S₄ G₅ fun _ z => z.elim
      have A₅ := A₄.go S₄ hDf G₅ (fun b z => z.elim) id
      refine append_acc A₅ S₅ hDf V₅ hsz fun s₆ G₆ S₆ A₆ => ?_
      have hO₆ : ∀ b, b = D → b ∈ fr := fun b z => z ▸ hDf
      have hP₆ := W.keep (i + 1) ads ads s₅ s₆ σ₅ _ hP₅ S₅ G₆ hO₆
      refine ⟨items.length - (i + 1), by omega, i + 1, acc ++ [d], σ₅, upd x v ρ, rfl, hlt, ⟨H₅.sc, H₅.R.go S₅ G₆, ?_, S₆⟩, hu', (G₄'.trans (G₅.mono fun _ z => z.elim)).trans (G₆.mono fun _ z => .inr (.inl z)), hP₆, hH₅, A₆, hC₅⟩
      exact H₅.F.goF S₅ G₆ fun b z => .inl ⟨hO₆ b z, z ▸ hDo⟩
end


-- Core11

noncomputable def compOk (scope sc : Scope) (x : Str) : Bool := scope.kind == .function && sc.kind == .function &&
  scope.names.all (fun y => y.2 != .cell && (y.2 != .free || sc.names.lookup y.1 == some .cell) && (y.2 != .local || scope.names.lookup y.1 == some .local)) && scope.names.lookup x == some .local

structure CompOk (scope sc : Scope) (x : Str) : Prop where
  kind : scope.kind = .function
  outer : sc.kind = .function
  cell : ∀ y ∈ scope.names, y.2 ≠ .cell
  free : ∀ n, (n, NameKind.free) ∈ scope.names → sc.names.lookup n = some .cell
  names : ∀ y ∈ scope.names, y.2 = .local → scope.names.lookup y.1 = some .local
  x : scope.names.lookup x = some .local

theorem CompOk.of {scope sc : Scope} {x : Str} (h : compOk scope sc x = true) : CompOk scope sc x := by
  unfold compOk at h
  simp only [Bool.and_eq_true, List.all_eq_true, Bool.or_eq_true, bne_iff_ne, beq_iff_eq] at h
  obtain ⟨⟨⟨h1, h2⟩, h3⟩, h4⟩ := h
  exact ⟨h1, h2, fun y hy => (h3 y hy).1.1, fun n hn => ((h3 _ hn).1.2).resolve_left fun z => z rfl, fun y hy e => ((h3 y hy).2).resolve_left fun z => z e, h4⟩

section
variable {c : Cx} {q t : Bool} {k : Nat} {sc : Scope} {ρ : Lo} {σ : AH} {X : Addr → AH → Prop} {A : Around} {env : Env} {s s₁ : Shared} {ads fr : List Addr}

theorem free_cells {scope : Scope} {x : Str} (H : Here c q t k sc ρ σ A env s ads fr) (ok : CompOk scope sc x) : ∀ n, (n, NameKind.free) ∈ scope.names → ∃ a, env.cells.lookup n = some a := fun n hn => by
  have h1 : env.kindOf n = some .cell := by unfold Env.kindOf; rw [H.sc]; exact ok.free n hn
  obtain ⟨cl, v, h2, _⟩ := H.F.cell n h1
  exact ⟨cl, h2⟩

/-- the frame of a comprehension -/
theorem comp_frame {scope : Scope} {x : Str} {C D : Addr} {h₄ : Heap} {fr' : List Addr} (H : Here c q t k sc ρ σ A env s ads fr) (ok : CompOk scope sc x) (hk : ∀ b o, s.heap.get? b = some o → h₄.get? b = some o) (hfr : fr' = [C, D]) (hn : ∀ b ∈ fr', s.heap.get? b = none)
    (hC : h₄.Ns C fun _ => none) :
    FrR ads (fr' ++ fr) (compEnvC scope (clos env.cells scope.names []) C env) (seen scope ρ) h₄ := by
  have hCin : C ∈ fr' := by rw [hfr]; exact List.mem_cons_self
  have look : ∀ y, (compEnvC scope (clos env.cells scope.names []) C env).kindOf y = (scope.names.lookup y).map fun kd => if (kd == NameKind.free && sc.kind == .function && sc.names.lookup y == some .cell) then .cell else kd := fun y => by
    show (relabel scope env).names.lookup y = _
    rw [relab_eq, H.sc]; exact relab_look _
  have cin : ∀ n cl, (clos env.cells scope.names []).lookup n = some cl → env.cells.lookup n = some cl := fun n cl h => (clos_sub _ _ _ _ h).elim (fun z => nomatch z) id
  have cget : ∀ n cl, scope.names.lookup n = some .free → env.cells.lookup n = some cl → (clos env.cells scope.names []).lookup n = some cl := fun n cl h1 h2 => clos_get h2 _ _ (.inl (mem_of_look (α := Nat) h1)) (.inl rfl)
  refine ⟨ok.kind, H.F.glob, H.F.bi, List.mem_append_left _ hCin, ⟨_, hC, fun y v hy => ?_⟩, fun y hy => ?_, fun n cl h => ?_, fun y z cl h1 h2 => H.F.apart y z cl (cin _ _ h1) (cin _ _ h2)⟩
  · obtain ⟨h1, h2⟩ := seen_look _ hy
    have hsc := ok.free y (mem_of_look (α := Nat) h1)
    have hkd : env.kindOf y = some .cell := by unfold Env.kindOf; rw [H.sc]; exact hsc
    obtain ⟨m, _, hρ⟩ := H.F.ns
    rcases hρ y v h2 with ⟨h3, _⟩ | ⟨_, cl, cv, h4, h5, h6⟩
    · rw [hkd] at h3; cases h3
    · refine .inr ⟨.inl ?_, cl, cv, cget y cl h1 h4, h5.keeps hk, h6.inner hk hn⟩
      rw [look, h1, hsc, ok.outer]; rfl
  · rw [look] at hy
    obtain ⟨kd, h1, h2⟩ := Option.map_eq_some_iff.mp hy
    have hkf : kd = .free := by
      by_cases hc : (kd == NameKind.free && sc.kind == .function && sc.names.lookup y == some .cell) = true
      · simp only [Bool.and_eq_true, beq_iff_eq] at hc; exact hc.1.1
      · rw [if_neg hc] at h2; exact absurd h2 (ok.cell _ (mem_of_look (α := Nat) h1))
    subst hkf
    have hkd : env.kindOf y = some .cell := by unfold Env.kindOf; rw [H.sc]; exact ok.free y (mem_of_look (α := Nat) h1)
    obtain ⟨cl, v, h3, h4⟩ := H.F.cell y hkd
    exact ⟨cl, v, cget y cl h1 h3, h4.keeps hk⟩
  · have h1 := (H.F.cin n cl (cin n cl h)).1
    exact ⟨List.mem_append_right _ h1, fun z => by
      obtain ⟨o, e, _⟩ := H.S.frs cl h1
      have z' : cl = C := z
      rw [z', hn C hCin] at e; cases e⟩

theorem comp_core {scope : Scope} {x : Str} {px pos : Pos} {elt iter : Expr} {ifs : List Expr} {items : List AV} {Hs : AH → Prop} {Qn : List PyData → AH → Prop} {RR : Value → Addr → Result → Shared → Prop} {E : Value → Shared → Prop} {ci : Value} {s₂ : Shared}
    (ok : CompOk scope sc x) (H : Here c true t k sc ρ σ A env s ads fr) (hI : IterOk c ads fr s items Hs ci s₂) (hH : Hs σ)
    (h : CompR c true k (relab scope sc) (seen scope ρ) x elt ifs Hs Qn items [] σ)
    (hRR : ∀ D C xs σ' s', Qn xs σ' → s.heap.get? D = none → s.heap.get? C = none → D ≠ C → Go nil ads ads s s' → St c.base σ' ads (C :: D :: fr) s'.heap → Acc ads (C :: D :: fr) s'.heap D xs → (∃ m, s'.heap.Ns C m) → RR (.ref D) C (.ok .next) s') :
    wpAny c.M A (newList []) (fun acc s₃ => wpAny c.M A (newFunctionEnv scope env.globals (clos env.cells scope.names []) [] env.qual none .none (some env)) (fun cenv s₄ =>
      codeAny c.M A (.compStart (.ListComp elt [⟨.Name x px, iter, ifs, 0⟩] scope pos) 0 ci acc { cenv with scope := relabel scope env }) (RR acc cenv.locals) s₄) E s₃) E s₂ := by
  obtain ⟨it, rfl, hit, G₂, hW⟩ := hI
  refine wpAny_newObj_type (wpAny_newFunctionEnv ok.cell (by intro y hy; simp at hy) (fun h₁ hns₁ hsb₁ => ?_) ok.kind)
  dsimp only at hns₁ hsb₁ ⊢
  generalize hH2 : s₂.heap.push { cls := .type "list", dict := none, data := .seq ([] : List Value).toArray } = H2 at hns₁ hsb₁ ⊢
  have hsz : H2.objs.size = s₂.heap.objs.size + 1 := by rw [← hH2, Heap.size_push]
  have keep₂ : ∀ b o, s₂.heap.get? b = some o → h₁.get? b = some o := fun b o e => by
    have hlt := Heap.lt_size e
    exact hsb₁.extBut b o (by rw [hsz]; exact Nat.ne_of_lt (Nat.lt_succ_of_lt hlt)) (Heap.get?_push_of_some _ (hH2 ▸ Heap.get?_push_of_some _ e))
  have keep : ∀ b o, s.heap.get? b = some o → h₁.get? b = some o := fun b o e => keep₂ b o (G₂.1 b o e)
  have new : ∀ b, s₂.heap.objs.size ≤ b → s.heap.get? b = none := fun b hb => by
    cases e : s.heap.get? b with
    | none => rfl
    | some o => exact absurd (Heap.lt_size (G₂.1 b o e)) (Nat.not_lt.mpr hb)
  have hD := new s₂.heap.objs.size (Nat.le_refl _)
  have hC := new H2.objs.size (by rw [hsz]; omega)
  have hne : s₂.heap.objs.size ≠ H2.objs.size := by rw [hsz]; omega
  have hn : ∀ b ∈ [H2.objs.size, s₂.heap.objs.size], s.heap.get? b = none := fun b hb => by
    rcases List.mem_cons.mp hb with rfl | hb
    · exact hC
    · rw [List.mem_singleton.mp hb]; exact hD
  have hpl : h₁.get? s₂.heap.objs.size = some { cls := .type "list", data := .seq #[] } := hsb₁.extBut _ _ hne (Heap.get?_push_of_some _ (hH2 ▸ Heap.get?_push_size _ rfl))
  have Gg : Grow s { s₂ with heap := h₁, toks := s₂.toks + ([] : List (Str × Value)).length } := by
    obtain ⟨_, h', tk, rfl⟩ := G₂
    exact ⟨keep, h₁, tk, rfl⟩
  have G₂₄ : Grow s₂ { s₂ with heap := h₁, toks := s₂.toks + ([] : List (Str × Value)).length } := ⟨keep₂, h₁, _, rfl⟩
  obtain ⟨P, W, hP⟩ := hW [H2.objs.size, s₂.heap.objs.size] hn
  have S₄ : St c.base σ ads ([H2.objs.size, s₂.heap.objs.size] ++ fr) h₁ := (H.S.grow Gg).inner (h₀ := s.heap) H.S.stays H.S hn (fun b hb => by
    rcases List.mem_cons.mp hb with rfl | hb
    · obtain ⟨o, es, ep, e, hd, _⟩ := hns₁; exact ⟨o, e, .inl ⟨es, ep, hd⟩⟩
    · rw [List.mem_singleton.mp hb]; exact ⟨_, hpl, .inr (.inr ⟨rfl, _, _, rfl⟩)⟩) H.S.obj keep
  have F₄ := comp_frame (C := H2.objs.size) (D := s₂.heap.objs.size) H ok keep rfl hn (by simpa using hns₁)
  have R₄ : Rdy true false k A (compEnvC scope (clos env.cells scope.names []) H2.objs.size env) ([H2.objs.size, s₂.heap.objs.size] ++ fr) h₁ := by
    have R := H.R.toRdyC.go H.S (Gg.go nil ads)
    obtain ⟨l, h1, h2⟩ := R.frames
    exact ⟨⟨R.depth, R.units, R.quiet, l, h1, fun e he => let ⟨h3, L, h4, h5, h6⟩ := h2 e he; ⟨h3, L, h4, List.mem_append_right _ h5, h6⟩⟩, fun z => by cases z⟩
  have H₄ : Here c true false k (relab scope sc) (seen scope ρ) σ A (compEnvC scope (clos env.cells scope.names []) H2.objs.size env) { s₂ with heap := h₁, toks := s₂.toks + ([] : List (Str × Value)).length } ads ([H2.objs.size, s₂.heap.objs.size] ++ fr) :=
    ⟨by show relabel scope env = _; rw [relab_eq, H.sc], R₄, F₄, S₄⟩
  have hDo : ¬ Own (compEnvC scope (clos env.cells scope.names []) H2.objs.size env) s₂.heap.objs.size := fun z => by
    rcases z with z | ⟨y, z⟩
    · exact hne z
    · have z' : env.cells.lookup y = some s₂.heap.objs.size := (clos_sub _ _ _ _ z).elim (fun w => nomatch w) id
      obtain ⟨o, e, _⟩ := H.S.frs _ (H.F.cin y _ z').1
      rw [hD] at e; cases e
  have hxl : (relab scope sc).names.lookup x = some .local := by
    show (scope.names.map _).lookup x = _
    rw [relab_look, ok.x]; rfl
  have hit₂ : it ≠ s₂.heap.objs.size ∧ it ≠ H2.objs.size := by
    have := (W.bare 0 ads _ (hP _ (.refl _))).1
    obtain ⟨_, _, _, e, _⟩ := this
    have := Heap.lt_size e
    exact ⟨Nat.ne_of_lt this, by rw [hsz]; exact Nat.ne_of_lt (Nat.lt_succ_of_lt this)⟩
  have loop : codeAny c.M A (.compLoop (.ListComp elt [⟨.Name x px, iter, ifs, 0⟩] scope pos) 0 (.ref it) (.ref s₂.heap.objs.size) (compEnvC scope (clos env.cells scope.names []) H2.objs.size env))
      (RR (.ref s₂.heap.objs.size) H2.objs.size) { s₂ with heap := h₁, toks := s₂.toks + ([] : List (Str × Value)).length } := by
    refine comp_wp rfl hxl W H₄ (by simp) hDo (hP _ G₂₄) hH ⟨#[], [], ⟨_, hpl⟩, .nil, fun _ hb => nomatch hb⟩ h fun xs σ' h' s' hQ G hs S' A' hm => ?_
    refine hRR _ _ xs σ' _ hQ hD hC hne ?_ S' A' hm
    have G' := (Gg.go (fun b => b = H2.objs.size ∨ b = s₂.heap.objs.size ∨ b = it) ads).trans G
    have ni : ∀ b o, s.heap.get? b = some o → b ≠ it := fun b o e z => by rw [z, hit] at e; cases e
    refine ⟨fun b o e hb => ?_, fun b o e => ?_, ?_, ⟨[], by simp⟩, fun _ z => .inl z⟩
    · obtain ⟨o', e', h1, h2⟩ := G'.kp b o e hb
      refine ⟨o', hs b o' (ni b o e) e', fun _ => h1 fun z => ?_, h2⟩
      rcases z with z | z | z
      · rw [z, hC] at e; cases e
      · rw [z, hD] at e; cases e
      · exact ni b o e z
    · obtain ⟨o', e'⟩ := G'.live b o e
      exact ⟨o', hs b o' (ni b o e) e'⟩
    · obtain ⟨h₅, tk, e⟩ := G'.rest
      exact ⟨h', tk, by rw [e]⟩
  exact codeAny_compStart_list loop (W.self 0 A _ ads _ _ (hP _ G₂₄) loop)

/-- a comprehension is a new list -/
theorem EvN.comp {scope : Scope} {x : Str} {px pos : Pos} {elt iter : Expr} {ifs : List Expr} {Qn : List PyData → AH → Prop} (ok : compOk scope sc x = true)
    (h : EvI c true t k sc ρ σ iter (fun items Hs σ₁ => CompR c true k (relab scope sc) (seen scope ρ) x elt ifs Hs Qn items [] σ₁) X)
    (hs : ∀ env v, foldedSetIterable iter env v = pure v := by intro _ _; rfl) : EvN c true t k sc ρ σ (.ListComp elt [⟨.Name x px, iter, ifs, 0⟩] scope pos) Qn X := fun A env s ads fr H => by
  have ok := CompOk.of ok
  rw [eval_ListComp]
  refine wpAny_comprehension_free (use := none) rfl (hs env) (closureFor_eq (free_cells H ok)) ok.kind ok.names (wpAny_mono (h A env s ads fr H) (fun cv s₁ hq => wpAny_mono hq (fun ci s₂ hi => ?_) fun _ _ y => y) fun _ _ y => y)
  obtain ⟨items, Hs, σ₁, s₀, hC, hH, G, S, hI⟩ := hi
  have H₁ := H.go G S
  refine comp_core (RR := fun acc C => compPost c.M A _ none _ acc C) ok H₁ hI hH hC fun D C xs σ' s' hQ hD hCn hne G' S' A' hm => ?_
  obtain ⟨m, hm⟩ := hm
  refine ⟨m, hm, fun h' hsb => ?_⟩
  obtain ⟨its, as, hp, r, hh⟩ := A'
  have nCD : C ∉ D :: fr := fun z => (List.mem_cons.mp z).elim (fun z => hne z.symm) fun z => by obtain ⟨o, e, _⟩ := H₁.S.frs C z; rw [hCn] at e; cases e
  have hk : ∀ b o, s'.heap.get? b = some o → ¬ b = C → ∃ o', h'.get? b = some o' ∧ Same o o' := fun b o e nb => ⟨o, hsb.extBut b o nb e, .refl _⟩
  refine ⟨xs, σ', D, its, as, rfl, hQ, G.none hD, G.trans ⟨fun b o e hb => ?_, fun b o e => ?_, ?_, ⟨[], by simp⟩, fun _ z => .inl z⟩, S'.extC nCD hsb.extBut, hp.extBut hsb.extBut hne,
    readsAll_keep (P := (· = C)) hk (fun a o vs n e hc hd z => (S'.tupleAt e hc hd).2 (z ▸ List.mem_cons_self)) _ _ _ r (fun b hb z => (hh b hb).2 (z ▸ List.mem_cons_self)), fun b hb => ⟨(hh b hb).1, fun z => (hh b hb).2 (List.mem_cons_of_mem _ z)⟩⟩
  · obtain ⟨o', e', h1, h2⟩ := G'.kp b o e hb
    exact ⟨o', hsb.extBut b o' (fun z => by rw [z, hCn] at e; cases e) e', h1, h2⟩
  · obtain ⟨o', e'⟩ := G'.live b o e
    exact ⟨o', hsb.extBut b o' (fun z => by rw [z, hCn] at e; cases e) e'⟩
  · obtain ⟨h₅, tk, e⟩ := G'.rest
    exact ⟨h', tk, by rw [e]⟩
end


-- Core12

section
variable {c : Cx} {q t : Bool} {k : Nat} {sc : Scope} {ρ : Lo} {σ : AH} {Q : AV → AH → Prop} {X : Addr → AH → Prop} {a b : Int}

/-- two values in hand -/
theorem Pr.of2 {m : List Value → Sem Value} {x y : AV} (h : ∀ A s ads fr L cx cy, RdyC q k A fr s.heap → St c.base σ ads fr s.heap → VR ads fr s.heap x cx → VR ads fr s.heap y cy → wpAny c.M A (m [cx, cy]) (EvQ c ads fr s Q) (EvX c ads fr L s X) s) :
    Pr c q k σ m [x, y] Q X := fun A s ads fr L cvs R S V => by
  obtain ⟨cx, r, rfl, Vx, cy, r', rfl, Vy, rfl⟩ := V
  exact h A s ads fr L cx cy R S Vx Vy
theorem Pr.of1 {m : List Value → Sem Value} {x : AV} (h : ∀ A s ads fr L cx, RdyC q k A fr s.heap → St c.base σ ads fr s.heap → VR ads fr s.heap x cx → wpAny c.M A (m [cx]) (EvQ c ads fr s Q) (EvX c ads fr L s X) s) :
    Pr c q k σ m [x] Q X := fun A s ads fr L cvs R S V => by
  obtain ⟨cx, r, rfl, Vx, rfl⟩ := V
  exact h A s ads fr L cx R S Vx
theorem Pr.ints {m : List Value → Sem Value} (h : ∀ A s ads fr L t u, RdyC q k A fr s.heap → St c.base σ ads fr s.heap → wpAny c.M A (m [.int a t, .int b u]) (EvQ c ads fr s Q) (EvX c ads fr L s X) s) : Pr c q k σ m [.dat (.int a), .dat (.int b)] Q X :=
  .of2 fun A s ads fr L cx cy R S Vx Vy => by
    obtain ⟨_, rx, _⟩ := Vx
    obtain ⟨_, ry, _⟩ := Vy
    cases rx; cases ry
    exact h A s ads fr L _ _ R S

theorem Pr.add (h : Q (.dat (.int (a + b))) σ) : Pr c q k σ (f2 (binaryOp .Add)) [.dat (.int a), .dat (.int b)] Q X := .ints fun A s ads fr L t u R S => add_int (.int S h)
theorem Pr.sub (h : Q (.dat (.int (a - b))) σ) : Pr c q k σ (f2 (binaryOp .Sub)) [.dat (.int a), .dat (.int b)] Q X := .ints fun A s ads fr L t u R S => sub_int (.int S h)
theorem bits_small {x : Int} (h : x.natAbs < 2 ^ 63) : Builtin.Int.intBits x ≤ 64 := by
  unfold Builtin.Int.intBits
  split
  · omega
  · rename_i hx
    have hx' : x.natAbs ≠ 0 := by simpa using hx
    have := (Nat.log2_lt hx').mpr h
    omega
theorem mulOk {a b : Int} (h : a.natAbs < 2 ^ 63 ∨ b.natAbs < 2 ^ 63) : IntMulOk a b := h.elim (fun z => .of_left (bits_small z)) fun z => .of_right (bits_small z)
theorem Pr.mul (hm : a.natAbs < 2 ^ 63 ∨ b.natAbs < 2 ^ 63) (h : Q (.dat (.int (a * b))) σ) : Pr c q k σ (f2 (binaryOp .Mult)) [.dat (.int a), .dat (.int b)] Q X := .ints fun A s ads fr L t u R S => mul_int (.int S h) (mulOk hm)
theorem Pr.mod (hb : b ≠ 0) (h : Q (.dat (.int (a.fmod b))) σ) : Pr c q k σ (f2 (binaryOp .Mod)) [.dat (.int a), .dat (.int b)] Q X := .ints fun A s ads fr L t u R S => mod_int' hb (.int S h)
theorem Pr.fdiv (hb : b ≠ 0 ∧ b.natAbs < 1073741824) (h : Q (.dat (.int (a.fdiv b))) σ) : Pr c q k σ (f2 (binaryOp .FloorDiv)) [.dat (.int a), .dat (.int b)] Q X := .ints fun A s ads fr L t u R S => floordiv_int hb.1 (.int S h) (.inl (PyProof.noPylong_small hb.2))
theorem Pr.neg (h : Q (.dat (.int (-a))) σ) : Pr c q k σ (f1 (unaryOp .USub)) [.dat (.int a)] Q X := .of1 fun A s ads fr L cx R S Vx => by
  obtain ⟨_, rx, _⟩ := Vx; cases rx; exact neg_int (.int S h)
theorem Pr.lt (h : Q (.dat (.bool (decide (a < b)))) σ) : Pr c q k σ (f2 (compareOp .Lt)) [.dat (.int a), .dat (.int b)] Q X := .ints fun A s ads fr L t u R S => lt_int (.bool S h)
theorem Pr.gt (h : Q (.dat (.bool (decide (b < a)))) σ) : Pr c q k σ (f2 (compareOp .Gt)) [.dat (.int a), .dat (.int b)] Q X := .ints fun A s ads fr L t u R S => gt_int (.bool S h)
theorem Pr.ge (h : Q (.dat (.bool (decide (b ≤ a)))) σ) : Pr c q k σ (f2 (compareOp .GtE)) [.dat (.int a), .dat (.int b)] Q X := .ints fun A s ads fr L t u R S => ge_int (.bool S h)
/-! equality of data -/
theorem Pr.eq {d d' : PyData} (hd : d.canLay0 = true) (hd' : d'.canLay0 = true) (hu : min d.depth d'.depth ≤ 90) (h : Q (.dat (.bool (PyData.eqv d d'))) σ) : Pr c q k σ (f2 (compareOp .Eq)) [.dat d, .dat d'] Q X := .of2 fun A s ads fr L cx cy R S Vx Vy => by
  obtain ⟨_, rx, _⟩ := Vx
  obtain ⟨_, ry, _⟩ := Vy
  exact SeqAt.compareEq_reads rx ry hd hd' (by have := R.units; omega) (.bool S h)
theorem Pr.ne {d d' : PyData} (hd : d.canLay0 = true) (hd' : d'.canLay0 = true) (hu : min d.depth d'.depth ≤ 90) (h : Q (.dat (.bool (!PyData.eqv d d'))) σ) : Pr c q k σ (f2 (compareOp .NotEq)) [.dat d, .dat d'] Q X := .of2 fun A s ads fr L cx cy R S Vx Vy => by
  obtain ⟨_, rx, _⟩ := Vx
  obtain ⟨_, ry, _⟩ := Vy
  exact SeqAt.compareNe_reads rx ry hd hd' (by have := R.units; omega) (.bool S h)

/-! lists, tuples -/
theorem Pr.lenL {xs : List PyData} (hl : xs.length < 2 ^ 63) (h : Q (.dat (.int xs.length)) σ) : Pr c q k σ (fun vs => call (.builtin "len") vs) [.dat (.list xs)] Q X := .of1 fun A s ads fr L cx R S Vx => by
  obtain ⟨_, rx, _⟩ := Vx
  cases rx with
  | list h1 h2 h3 h4 => exact len_list ⟨_, h1, h2, _, h3⟩ (by rw [readsAll_size h4]; omega) (by rw [readsAll_size h4]; exact .int S h)
theorem Pr.lenT {xs : List PyData} (hl : xs.length < 2 ^ 63) (h : Q (.dat (.int xs.length)) σ) : Pr c q k σ (fun vs => call (.builtin "len") vs) [.dat (.tuple xs)] Q X := .of1 fun A s ads fr L cx R S Vx => by
  obtain ⟨_, rx, _⟩ := Vx
  cases rx with
  | tuple h1 h2 h3 h4 => exact len_tuple ⟨_, h1, h2, _, h3⟩ (by rw [readsAll_size h4]; omega) (by rw [readsAll_size h4]; exact .int S h)
/-- an item, from the front or from behind -/
theorem Pr.itemT {value slice : Expr} {xs : List PyData} {i : Int} {j : Nat} {d : PyData} (hj : seqIndex? i xs.length = some j) (hx : xs[j]? = some d) (hlo : -(2 ^ 63) ≤ i) (hhi : i < 2 ^ 63) (h : Q (.dat d) σ)
    (hs : ∀ a u, subscripted slice false (.ref a) (.int i u) = operate [.ref a, .int i u] (getItem (.ref a) (.int i u)) := by intro _ _; with_unfolding_all rfl) : Pr c q k σ (f2 (subscriptTail value slice)) [.dat (.tuple xs), .dat (.int i)] Q X := .of2 fun A s ads fr L cx cy R S Vx Vy => by
  obtain ⟨as, rx, hh⟩ := Vx
  obtain ⟨_, ry, _⟩ := Vy
  cases ry
  cases rx with
  | tuple h1 h2 h3 h4 =>
    have ht : IsTup s.heap _ _ := ⟨_, h1, h2, _, h3⟩
    obtain ⟨v, as', h5, h6, h7⟩ := readsAll_nth _ _ _ j d h4 hx
    exact tail_any ht.typeIs slot_tuple_getitem.lookup (getItem_tuple ht hlo hhi (by rw [readsAll_size h4]; exact hj) (by simpa using h5) (.here (v := .dat d) S (.refl s) ⟨as', h6, fun b hb => hh b (h7 b hb)⟩ h)) (hs _ _)

theorem item_list_any {prog : Program} {w : World} {A : Around} {E : Value → Shared → Prop} {s : Shared} {l : Addr} {items : Array Value} {i : Int} {u : Tok} {j : Nat} {v : Value} {P : Value → Shared → Prop} (hl : s.heap.IsList l items) (hj : seqIndex? i items.size = some j) (hx : items[j]? = some v)
    (hlo : -(2 ^ 63) ≤ i) (hhi : i < 2 ^ 63) (h : P v s) : wpAny (model prog w) A (getItem (.ref l) (.int i u)) P E s := by
  by_cases h0 : i < 0
  · obtain ⟨h1, h2⟩ := PySem.W.kde_place h0 hj
    exact wpAny_getItem_list_neg hl h0 h1 hlo (by rw [h2]; exact hx) h
  · have e : i.toNat = j := by
      unfold seqIndex? at hj
      simp only [if_neg h0] at hj
      split at hj
      · cases hj; rfl
      · cases hj
    exact wpAny_getItem_list hl (by omega) hhi (by rw [e]; exact hx) h

theorem Pr.itemL {value slice : Expr} {xs : List PyData} {i : Int} {j : Nat} {d : PyData} (hj : seqIndex? i xs.length = some j) (hx : xs[j]? = some d) (hlo : -(2 ^ 63) ≤ i) (hhi : i < 2 ^ 63) (h : Q (.dat d) σ)
    (hs : ∀ a u, subscripted slice false (.ref a) (.int i u) = operate [.ref a, .int i u] (getItem (.ref a) (.int i u)) := by intro _ _; with_unfolding_all rfl) : Pr c q k σ (f2 (subscriptTail value slice)) [.dat (.list xs), .dat (.int i)] Q X := .of2 fun A s ads fr L cx cy R S Vx Vy => by
  obtain ⟨as, rx, hh⟩ := Vx
  obtain ⟨_, ry, _⟩ := Vy
  cases ry
  cases rx with
  | list h1 h2 h3 h4 =>
    have hl : s.heap.IsList _ _ := ⟨_, h1, h2, _, h3⟩
    obtain ⟨v, as', h5, h6, h7⟩ := readsAll_nth _ _ _ j d h4 hx
    exact tail_any hl.typeIs slot_list_getitem.lookup (item_list_any hl (by rw [readsAll_size h4]; exact hj) (by simpa using h5) hlo hhi (.here (v := .dat d) S (.refl s) ⟨as', h6, fun b hb => hh b (List.mem_cons_of_mem _ (h7 b hb))⟩ h)) (hs _ _)
theorem Pr.itemO {value slice : Expr} {n : Nat} {xs : List PyData} {i : Int} {j : Nat} {d : PyData} (hn : σ[n]? = some (.list xs)) (hj : seqIndex? i xs.length = some j) (hx : xs[j]? = some d) (hlo : -(2 ^ 63) ≤ i) (hhi : i < 2 ^ 63) (h : Q (.dat d) σ)
    (hs : ∀ a u, subscripted slice false (.ref a) (.int i u) = operate [.ref a, .int i u] (getItem (.ref a) (.int i u)) := by intro _ _; with_unfolding_all rfl) : Pr c q k σ (f2 (subscriptTail value slice)) [.obj n, .dat (.int i)] Q X := .of2 fun A s ads fr L cx cy R S Vx Vy => by
  obtain ⟨p, hp, rfl⟩ := Vx
  obtain ⟨its, as, hpl, r, hh⟩ := S.obj n _ p hn hp
  obtain ⟨_, ry, _⟩ := Vy
  cases ry
  obtain ⟨v, as', h5, h6, h7⟩ := readsAll_nth _ _ _ j d r hx
  exact tail_any hpl.isList.typeIs slot_list_getitem.lookup (item_list_any hpl.isList (by rw [readsAll_size r]; exact hj) (by simpa using h5) hlo hhi (.here (v := .dat d) S (.refl s) ⟨as', h6, fun b hb => hh b (h7 b hb)⟩ h)) (hs _ _)

theorem Pr.tupleOfO {n : Nat} {xs : List PyData} (hn : σ[n]? = some (.list xs)) (hl : xs.length ≤ sizeLine) (h : Q (.dat (.tuple xs)) σ) : Pr c q k σ (fun vs => call (.type "tuple") vs) [.obj n] Q X := .of1 fun A s ads fr L cx R S Vx => by
  obtain ⟨p, hp, rfl⟩ := Vx
  obtain ⟨its, as, hpl, r, hh⟩ := S.obj n _ p hn hp
  refine call_tuple_list hpl.isList (fun h' hk => ?_) (by rw [readsAll_size r]; exact hl)
  have G : ∀ o', Grow s { s with heap := h'.push o' } := fun o' => ⟨fun b o e => Heap.get?_push_of_some _ (hk b o e), _, s.toks, rfl⟩
  exact .here (v := .dat (.tuple xs)) S (G _) ⟨_, .tuple (Heap.get?_push_size _ rfl) rfl rfl (readsAll_keep (P := nil) (fun b o e _ => ⟨o, (G _).1 b o e, .refl _⟩) (fun _ _ _ _ _ _ _ => id) _ _ _ r fun _ _ => id), hh⟩ h
end


-- Core13

/-! tuples: +, *, cuts -/
section
variable (l : Addr) (items : Array Value) (n : Nat) (dd : Option Addr) (sl : Array (Option Value)) (x : Int) (u : Tok)
end
theorem adjust_upto (a n : Nat) (ha : a ≤ n) : Builtin.Slice.sliceAdjust none (some (a : Int)) 1 (n : Int) = (0, (a : Int)) := by
  unfold Builtin.Slice.sliceAdjust
  have h1 : ¬ ((1 : Int) < 0) := by omega
  have h2 : ¬ ((a : Int) < 0) := by omega
  simp only [h1, h2, if_false]
  congr 1
  omega
theorem places_upto (a : Nat) : Builtin.Slice.slicePlaces 0 (a : Int) 1 = a := by
  unfold Builtin.Slice.slicePlaces
  have h1 : (1 : Int) > 0 := by omega
  simp only [h1, if_true, Int.ediv_one]
  split <;> omega
theorem pick_upto (xs : Array Value) (a : Nat) (ha : a ≤ xs.size) : ((List.range a).filterMap fun (k : Nat) => xs[((0 : Int) + (k : Int) * 1).toNat]?).toArray = (xs.toList.take a).toArray := by
  congr 1
  have e : (fun (k : Nat) => xs[((0 : Int) + (k : Int) * 1).toNat]?) = fun k => xs.toList[k]? := by
    funext k
    have : ((0 : Int) + (k : Int) * 1).toNat = k := by omega
    rw [this]; simp
  rw [e]
  have ha' : a ≤ xs.toList.length := by simpa using ha
  generalize xs.toList = l at ha'
  clear e ha
  induction a with
  | zero => simp
  | succ a ih =>
    have hlt : a < l.length := by omega
    rw [List.range_succ, List.filterMap_append, ih (by omega), List.take_add_one]
    simp [hlt]

section
variable {prog : Program} {w : World} {A : Around} {E : Value → Shared → Prop} {s : Shared}
theorem cut_upto {sl : Addr} {a n : Nat} {u : Tok} {Q : Int × Int × Nat → Shared → Prop} (hs : s.heap.IsSliceOf sl .none (.int a u) .none) (ha : a ≤ n) (h : Q (0, 1, a) s) :
    wpAny (model prog w) A (Builtin.Slice.sliceApplied (.ref sl) (pure (n : Int))) Q E s := by
  obtain ⟨os, hos, hcs, hds⟩ := id hs
  unfold Builtin.Slice.sliceApplied Builtin.Slice.sliceFields
  refine wpAny_bind (wpAny_bind (wpAny_field hos hds (x := .none) rfl (wpAny_bind (wpAny_field hos hds (x := .int a u) rfl (wpAny_bind (wpAny_field hos hds (x := .none) rfl (wpAny_pure ?_)))))))
  refine wpAny_bind (slicePart_none ?_)
  show wpAny _ _ (if ((1 : Int) == 0) = true then _ else _) _ _ s
  rw [if_neg (by decide)]
  refine wpAny_bind (slicePart_none (wpAny_bind (slicePart_int (wpAny_bind (wpAny_pure ?_)))))
  show wpAny _ _ (match Builtin.Slice.sliceAdjust none (some (a : Int)) 1 (n : Int) with | (lo, hi) => pure (lo, (1 : Int), Builtin.Slice.slicePlaces lo hi 1)) _ _ s
  rw [adjust_upto a n ha]
  show wpAny _ _ (pure ((0 : Int), (1 : Int), Builtin.Slice.slicePlaces 0 (a : Int) 1)) _ _ s
  rw [places_upto a]
  exact wpAny_pure h

/-- t[:a]: the tuple itself, or a new one -/
theorem getItem_tuple_upto {t sl : Addr} {items : Array Value} {a : Nat} {u : Tok} {Q : Value → Shared → Prop} (ht : IsTup s.heap t items) (hs : s.heap.IsSliceOf sl .none (.int a u) .none) (ha : a ≤ items.size) (hsz : items.size ≤ sizeLine)
    (h0 : a = items.size → Q (.ref t) s)
    (h : Q (.ref s.heap.objs.size) { s with heap := s.heap.push { cls := .type "tuple", data := .seq (items.toList.take a).toArray } }) : wpAny (model prog w) A (getItem (.ref t) (.ref sl)) Q E s := by
  have htake : sizeOk (.seq (items.toList.take a).toArray) := by
    show (items.toList.take a).toArray.size ≤ sizeLine
    rw [List.size_toArray, List.length_take, Array.length_toList]
    omega
  obtain ⟨os, hos, hcs, hds⟩ := id hs
  have hTs : s.TypeIs (.ref sl) "slice" := ⟨os, hos, hcs⟩
  unfold getItem
  try with_reducible refine wpAny_holding ?_
  first | refine wpAny_bind (wpAny_pure ?_) | skip
  refine wpAny_bind (wpAny_sequenceKey ht.typeIs (by decide) ?_)
  refine wpAny_bind (wpAny_callSpecial?_slot (name := Str.ofString "__getitem__") ht.typeIs slot_tuple_getitem
    (wpAny_call_entry slot_tuple_getitem ht.typeIs entry_tuple_getitem ?_ (args_tuple_getitem _ _)))
  show wpAny _ _ (Builtin.Tuple.tupleItemsOf (.ref t) >>= _) _ _ s
  refine wpAny_bind (tupleItemsOf_ ht ?_)
  refine wpAny_bind (wpAny_typeOf hTs ?_)
  rw [if_pos (by decide)]
  refine wpAny_bind (cut_upto hs ha ?_)
  show wpAny _ _ (if ((0 : Int) == 0 && (1 : Int) == 1 && a == items.size) = true then _ else _) _ _ s
  by_cases hw : a = items.size
  · rw [if_pos (by simp [hw])]
    refine wpAny_bind (m := Builtin.Tuple.tupleIsExact _) (wpAny_bind (wpAny_typeOf ht.typeIs (wpAny_pure ?_)))
    show wpAny _ _ (if (Value.type "tuple" == Value.type "tuple") = true then _ else _) _ _ s
    rw [if_pos (by simp)]
    exact wpAny_bind (wpAny_rule (wpAny_pure ⟨_, rfl, wpAny_pure (h0 hw)⟩))
  · have hb : (a == items.size) = false := by simpa using hw
    rw [hb, if_neg (by simp), pick_upto items a ha]
    first
      | exact wpAny_bind (m := Builtin.Tuple.tupleExact _) (wpAny_newObj_type (wpAny_pure ⟨_, rfl, wpAny_pure h⟩) htake)
      | exact wpAny_bind (m := Builtin.Tuple.tupleExact _) (wpAny_newObj_type (wpAny_bind (wpAny_pure (wpAny_pure ⟨_, rfl, wpAny_pure h⟩))) htake)
      | exact wpAny_bind (wpAny_bind (m := Builtin.Tuple.tupleExact _) (wpAny_newObj_type (wpAny_pure (wpAny_pure ⟨_, rfl, wpAny_pure h⟩)) htake))
      | exact wpAny_bind (wpAny_bind (m := Builtin.Tuple.tupleExact _) (wpAny_newObj_type (wpAny_pure ⟨_, rfl, wpAny_pure h⟩) htake))
end


-- Core14

section
variable {c : Cx} {q t : Bool} {k : Nat} {sc : Scope} {ρ : Lo} {σ : AH} {Q : AV → AH → Prop} {X : Addr → AH → Prop} {a b : Int} {A : Around} {s : Shared} {ads fr : List Addr}

theorem Ev.callTy (g : Gd c) {x : Str} {p pos : Pos} {e : Expr} {rest : List Expr} {T : String} (hk : sc.names.lookup x = some .globalImplicit) (hm : c.mg x = none) (hb : bootBuiltins x = some (.type T))
    (h : Evs c q t k sc ρ σ (e :: rest) (fun vs σ₁ => Pr c q k σ₁ (fun vs => call (.type T) vs) vs Q X) X) (hn : x ≠ "__name__" := by decide) (hdb : (x == ("__debug__" : Str)) = false := by decide)
    (he : ∀ env, starEach (e :: rest) env = (false, eval e env) :: starEach rest env := by intro _; rfl) (hp : ∀ pos env, (backTo pos (starEach rest env)).any (·.1) = false := by intro _ _; rfl) :
    Ev c q t k sc ρ σ (.Call (.Name x p) (e :: rest) [] pos) Q X := .of fun A env s ads fr H => by
  obtain ⟨mb, h1, h2⟩ := g.b
  refine Call_ ?_
  refine Name_function_global H.F.kind (by rw [← H.sc] at hk; exact hk) (loadGlobal_builtin (by rw [H.F.glob]; exact g.g.keeps H.S.stays) hm (by rw [H.F.bi]; exact h1.keeps H.S.stays) ((h2 x hn).trans hb) ?_) hdb
  refine PyProof.Rows.callWith_type1 (wpAny_mono (h A env s ads fr pos H) (fun cvs s₁ hq => ?_) fun _ _ x => x) (he env) (hp pos env)
  obtain ⟨vs, σ₁, hp, G₁, S₁, Vs⟩ := hq
  exact lift G₁ (hp A s₁ ads fr env.frame cvs (H.go G₁ S₁).R.toRdyC S₁ Vs)

/-- a new tuple of what is in hand -/
theorem EvQ.newTuple {vs : Array Value} {xs : List PyData} {as : List Addr} {h' : Heap} (S : St c.base σ ads fr s.heap) (r : ReadsAll s.heap vs.toList xs as) (hh : ∀ b ∈ as, b ∉ ads ∧ b ∉ fr) (hk : ∀ b o, s.heap.get? b = some o → h'.get? b = some o) (h : Q (.dat (.tuple xs)) σ) :
    EvQ c ads fr s Q (.ref h'.objs.size) { s with heap := h'.push { cls := .type "tuple", data := .seq vs } } := by
  have G : Grow s { s with heap := h'.push { cls := .type "tuple", data := .seq vs } } := ⟨fun b o e => Heap.get?_push_of_some _ (hk b o e), _, s.toks, rfl⟩
  exact .here (v := .dat (.tuple xs)) S G ⟨as, .tuple (Heap.get?_push_size _ rfl) rfl rfl (readsAll_keep (P := nil) (fun b o e _ => ⟨o, G.1 b o e, .refl _⟩) (fun _ _ _ _ _ _ _ => id) _ _ _ r fun _ _ => id), hh⟩ h
theorem EvQ.newList {vs : Array Value} {xs : List PyData} {as : List Addr} {h' : Heap} (S : St c.base σ ads fr s.heap) (r : ReadsAll s.heap vs.toList xs as) (hh : ∀ b ∈ as, b ∉ ads ∧ b ∉ fr) (hk : ∀ b o, s.heap.get? b = some o → h'.get? b = some o) (h : Q (.dat (.list xs)) σ) :
    EvQ c ads fr s Q (.ref h'.objs.size) { s with heap := h'.push { cls := .type "list", data := .seq vs } } := by
  have G : Grow s { s with heap := h'.push { cls := .type "list", data := .seq vs } } := ⟨fun b o e => Heap.get?_push_of_some _ (hk b o e), _, s.toks, rfl⟩
  refine .here (v := .dat (.list xs)) S G ⟨h'.objs.size :: as, .list (Heap.get?_push_size _ rfl) rfl rfl (readsAll_keep (P := nil) (fun b o e _ => ⟨o, G.1 b o e, .refl _⟩) (fun _ _ _ _ _ _ _ => id) _ _ _ r fun _ _ => id), fun b hb => ?_⟩ h
  rcases List.mem_cons.mp hb with rfl | hb
  · exact ⟨fun z => by obtain ⟨o, e, _⟩ := S.adAt z; exact absurd (Heap.lt_size (hk _ o e)) (Nat.lt_irrefl _), fun z => by obtain ⟨o, e, _⟩ := S.frs _ z; exact absurd (Heap.lt_size (hk _ o e)) (Nat.lt_irrefl _)⟩
  · exact hh b hb

theorem readsAll_append {h : Heap} (ds : List PyData) (vs : List Value) (as : List Addr) (es : List PyData) (ws : List Value) (bs : List Addr) (r : ReadsAll h vs ds as) (r' : ReadsAll h ws es bs) : ReadsAll h (vs ++ ws) (ds ++ es) (as ++ bs) := by
  induction ds generalizing vs as with
  | nil => cases r; exact r'
  | cons d ds ih =>
    cases r with
    | cons r1 r2 => rw [List.append_assoc]; exact .cons r1 (ih _ _ r2)
theorem readsAll_take {h : Heap} (n : Nat) (ds : List PyData) (vs : List Value) (as : List Addr) (r : ReadsAll h vs ds as) : ∃ bs, ReadsAll h (vs.take n) (ds.take n) bs ∧ ∀ b ∈ bs, b ∈ as := by
  induction n generalizing ds vs as with
  | zero => rw [List.take_zero, List.take_zero]; exact ⟨[], .nil, fun _ hb => nomatch hb⟩
  | succ n ih =>
    cases r with
    | nil => exact ⟨[], .nil, fun _ hb => hb⟩
    | cons r1 r2 =>
      obtain ⟨bs, h1, h2⟩ := ih _ _ _ r2
      exact ⟨_, .cons r1 h1, fun b hb => (List.mem_append.mp hb).elim (List.mem_append_left _) fun z => List.mem_append_right _ (h2 b z)⟩
theorem readsAll_drop {h : Heap} (n : Nat) (ds : List PyData) (vs : List Value) (as : List Addr) (r : ReadsAll h vs ds as) : ∃ bs, ReadsAll h (vs.drop n) (ds.drop n) bs ∧ ∀ b ∈ bs, b ∈ as := by
  induction n generalizing ds vs as with
  | zero => exact ⟨as, r, fun _ hb => hb⟩
  | succ n ih =>
    cases r with
    | nil => exact ⟨[], .nil, fun _ hb => hb⟩
    | cons r1 r2 =>
      obtain ⟨bs, h1, h2⟩ := ih _ _ _ r2
      exact ⟨bs, h1, fun b hb => List.mem_append_right _ (h2 b hb)⟩
theorem Pr.addT {xs ys : List PyData} (hl : xs.length + ys.length ≤ sizeLine) (h : Q (.dat (.tuple (xs ++ ys))) σ) : Pr c q k σ (f2 (binaryOp .Add)) [.dat (.tuple xs), .dat (.tuple ys)] Q X := .of2 fun A s ads fr L cx cy R S Vx Vy => by
  obtain ⟨as, rx, hx⟩ := Vx
  obtain ⟨bs, ry, hy⟩ := Vy
  cases rx with
  | @tuple t o vs n _ _ h1 h2 h3 h4 =>
    cases ry with
    | @tuple t' o' ws n' _ _ k1 k2 k3 k4 =>
      have sx := readsAll_size h4
      have sy := readsAll_size k4
      obtain ⟨cls, dd, data, sl⟩ := o
      obtain ⟨cls2, dd2, data2, sl2⟩ := o'
      simp only at h2 h3 k2 k3
      subst h2 h3 k2 k3
      by_cases hv : vs.isEmpty = true
      · refine concat_meets ⟨_, h1, rfl⟩ ⟨_, k1, rfl⟩ noFill_tuple_add seq_tuple_add PySem.F.slot_tuple_add PySem.F.entry_tuple_add (PySem.F.args_tuple_add_2 _ _) (tuple_addW0 t t' vs ws n n' dd dd2 sl sl2 hv) ⟨h1, k1, ?_⟩
        have e : xs = [] := by have : vs.size = 0 := by simpa using hv
                               rw [this] at sx; exact List.eq_nil_of_length_eq_zero sx.symm
        subst e
        exact .here (v := .dat (.tuple ys)) S (.refl s) ⟨bs, .tuple k1 rfl rfl k4, hy⟩ (by simpa using h)
      · by_cases hw : ws.isEmpty = true
        · refine concat_meets ⟨_, h1, rfl⟩ ⟨_, k1, rfl⟩ noFill_tuple_add seq_tuple_add PySem.F.slot_tuple_add PySem.F.entry_tuple_add (PySem.F.args_tuple_add_2 _ _) (tuple_addW1 t t' vs ws n n' dd dd2 sl sl2 hv hw) ⟨h1, k1, ?_⟩
          have e : ys = [] := by have : ws.size = 0 := by simpa using hw
                                 rw [this] at sy; exact List.eq_nil_of_length_eq_zero sy.symm
          subst e
          exact .here (v := .dat (.tuple xs)) S (.refl s) ⟨as, .tuple h1 rfl rfl h4, hx⟩ (by simpa using h)
        · refine concat_meets ⟨_, h1, rfl⟩ ⟨_, k1, rfl⟩ noFill_tuple_add seq_tuple_add PySem.F.slot_tuple_add PySem.F.entry_tuple_add (PySem.F.args_tuple_add_2 _ _) (tuple_addW2 t t' vs ws n n' dd dd2 sl sl2 hv hw (by omega)) ⟨h1, k1, ?_⟩
          exact .newTuple S (by rw [Array.toList_append]; exact readsAll_append _ _ _ _ _ _ h4 k4) (fun b hb => (List.mem_append.mp hb).elim (hx b) (hy b)) (fun _ _ e => e) h

theorem Pr.addL {xs ys : List PyData} (hl : xs.length + ys.length ≤ sizeLine) (h : Q (.dat (.list (xs ++ ys))) σ) : Pr c q k σ (f2 (binaryOp .Add)) [.dat (.list xs), .dat (.list ys)] Q X := .of2 fun A s ads fr L cx cy R S Vx Vy => by
  obtain ⟨as, rx, hx⟩ := Vx
  obtain ⟨bs, ry, hy⟩ := Vy
  cases rx with
  | @list t o vs n _ _ h1 h2 h3 h4 =>
    cases ry with
    | @list t' o' ws n' _ _ k1 k2 k3 k4 =>
      have sx := readsAll_size h4
      have sy := readsAll_size k4
      obtain ⟨cls, dd, data, sl⟩ := o
      obtain ⟨cls2, dd2, data2, sl2⟩ := o'
      simp only at h2 h3 k2 k3
      subst h2 h3 k2 k3
      refine concat_meets ⟨_, h1, rfl⟩ ⟨_, k1, rfl⟩ noFill_list_add seq_list_add PySem.F.slot_list_add PySem.F.entry_list_add (PySem.F.args_list_add_2 _ _) (list_addW t t' vs ws n n' dd dd2 sl sl2 (by omega)) ⟨h1, k1, ?_⟩
      exact .newList S (by rw [Array.toList_append]; exact readsAll_append _ _ _ _ _ _ h4 k4) (fun b hb => (List.mem_append.mp hb).elim (fun z => hx b (List.mem_cons_of_mem _ z)) fun z => hy b (List.mem_cons_of_mem _ z)) (fun _ _ e => e) h

/-! cuts -/
/-- v[:n] -/
noncomputable def CutTo (c : Cx) (σ : AH) (v : AV) (n : Nat) (Q : AV → AH → Prop) : Prop := ∀ (A : Around) (s : Shared) (ads fr : List Addr) (value e : Expr) (p : Pos) (cv : Value) (sl : Addr) (tk : Tok) (E : Value → Shared → Prop),
  St c.base σ ads fr s.heap → VR ads fr s.heap v cv → s.heap.IsSliceOf sl .none (.int n tk) .none → wpAny c.M A (subscriptTail value (.Slice none (some e) none p) cv (.ref sl)) (EvQ c ads fr s Q) E s
/-- v[n:] -/
noncomputable def CutFrom (c : Cx) (σ : AH) (v : AV) (n : Nat) (Q : AV → AH → Prop) : Prop := ∀ (A : Around) (s : Shared) (ads fr : List Addr) (value e : Expr) (p : Pos) (cv : Value) (sl : Addr) (tk : Tok) (E : Value → Shared → Prop),
  St c.base σ ads fr s.heap → VR ads fr s.heap v cv → s.heap.IsSliceOf sl (.int n tk) .none .none → wpAny c.M A (subscriptTail value (.Slice (some e) none none p) cv (.ref sl)) (EvQ c ads fr s Q) E s
theorem CutTo.tuple {n : Nat} {xs : List PyData} (hn : n ≤ xs.length) (hz : xs.length ≤ sizeLine) (hQ : Q (.dat (.tuple (xs.take n))) σ) : CutTo c σ (.dat (.tuple xs)) n Q := fun A s ads fr value e p cv sl tk E S V hs => by
  obtain ⟨as, ra, hh⟩ := V
  cases ra with
  | @tuple tt o vs m _ _ h1 h2 h3 h4 =>
    have ht : IsTup _ tt vs := ⟨_, h1, h2, _, h3⟩
    have sx := readsAll_size h4
    refine tail_any ht.typeIs slot_tuple_getitem.lookup (getItem_tuple_upto ht hs (by omega) (by omega) (fun hw => ?_) ?_) (ops := [_, _]) rfl
    · exact .here (v := .dat (.tuple xs)) S (.refl _) ⟨as, .tuple h1 h2 h3 h4, hh⟩ (by rw [List.take_of_length_le (by omega)] at hQ; exact hQ)
    · obtain ⟨bs, h5, h6⟩ := readsAll_take n _ _ _ h4
      exact .newTuple S (by simpa using h5) (fun b hb => hh b (h6 b hb)) (fun _ _ e => e) hQ
theorem CutFrom.tuple {n : Nat} {xs : List PyData} (hn1 : 1 ≤ n) (hn : n ≤ xs.length) (hz : xs.length ≤ sizeLine) (hQ : Q (.dat (.tuple (xs.drop n))) σ) : CutFrom c σ (.dat (.tuple xs)) n Q := fun A s ads fr value e p cv sl tk E S V hs => by
  obtain ⟨as, ra, hh⟩ := V
  cases ra with
  | @tuple tt o vs m _ _ h1 h2 h3 h4 =>
    have ht : IsTup _ tt vs := ⟨_, h1, h2, _, h3⟩
    have sx := readsAll_size h4
    refine tail_any ht.typeIs slot_tuple_getitem.lookup (getItem_tuple_from ht hs hn1 (by omega) ?_ (by omega)) (ops := [_, _]) rfl
    obtain ⟨bs, h5, h6⟩ := readsAll_drop n _ _ _ h4
    exact .newTuple S (by simpa using h5) (fun b hb => hh b (h6 b hb)) (fun _ _ e => e) hQ
theorem CutFrom.obj {n i : Nat} {xs : List PyData} (hi : σ[i]? = some (.list xs)) (hn : n ≤ xs.length) (hz : xs.length ≤ sizeLine) (hQ : Q (.dat (.list (xs.drop n))) σ) : CutFrom c σ (.obj i) n Q := fun A s ads fr value e p cv sl tk E S V hs => by
  obtain ⟨tt, ha, rfl⟩ := V
  obtain ⟨vs, as, hp, h4, hh⟩ := S.obj i _ tt hi ha
  have sx := readsAll_size h4
  refine tail_any hp.isList.typeIs list_getitem_lookup (wpAny_getItem_list_slice hp.isList hs (.int _ _) .none .none (by simp) ?_ (by omega)) (ops := [_, _]) rfl
  rw [slicePick_from vs n (by omega)]
  obtain ⟨bs, h5, h6⟩ := readsAll_drop n _ _ _ h4
  exact .newList S (by simpa using h5) (fun b hb => hh b (h6 b hb)) (fun _ _ e => e) hQ
theorem Ev.cutTo {value e : Expr} {p pos : Pos} (h : Ev c q t k sc ρ σ value (fun a σ₁ => Ev c q t k sc ρ σ₁ e (fun b σ₂ => ∃ n : Nat, b = .dat (.int n) ∧ CutTo c σ₂ a n Q) X) X) :
    Ev c q t k sc ρ σ (.Subscript value (.Slice none (some e) none p) pos) Q X := .of fun A env s ads fr H => by
  refine Subscript_ (h.then H fun a σ₁ ca s₁ hr G₁ H₁ Va => ?_)
  show wpAny c.M A (do let l ← (pure Value.none : Sem Value); let u ← holding [l] (eval e env); let st ← holding [l, u] (pure Value.none : Sem Value); newFields "slice" [l, u, st]) _ _ s₁
  refine wpAny_bind (wpAny_pure (wpAny_bind (wpAny_holding (wpAny_mono (hr.at H₁) (fun cb s₂ hq => ?_) fun _ _ x => x.trans G₁))))
  obtain ⟨b, σ₂, ⟨n, rfl, hcut⟩, G₂, S₂, _, rb, _⟩ := hq
  cases rb with | int _ tk =>
  refine wpAny_bind (wpAny_holding (wpAny_pure (wpAny_newObj_type ?_)))
  have Gp := Grow.push s₂ { cls := .type "slice", data := .fields #[.none, .int n tk, .none] } s₂.toks
  exact lift ((G₁.trans G₂).trans (Gp.go nil ads)) (hcut A _ ads fr _ _ _ ca _ tk _ (S₂.grow Gp) ((Va.go H₁.S G₂ fun _ z => z.elim).grow S₂ Gp) (Heap.IsSliceOf.new ..))
theorem Ev.cutFrom {value e : Expr} {p pos : Pos} (h : Ev c q t k sc ρ σ value (fun a σ₁ => Ev c q t k sc ρ σ₁ e (fun b σ₂ => ∃ n : Nat, b = .dat (.int n) ∧ CutFrom c σ₂ a n Q) X) X) :
    Ev c q t k sc ρ σ (.Subscript value (.Slice (some e) none none p) pos) Q X := .of fun A env s ads fr H => by
  refine Subscript_ (h.then H fun a σ₁ ca s₁ hr G₁ H₁ Va => ?_)
  show wpAny c.M A (do let l ← eval e env; let u ← holding [l] (pure Value.none : Sem Value); let st ← holding [l, u] (pure Value.none : Sem Value); newFields "slice" [l, u, st]) _ _ s₁
  refine wpAny_bind (wpAny_mono (hr.at H₁) (fun cb s₂ hq => ?_) fun _ _ x => x.trans G₁)
  obtain ⟨b, σ₂, ⟨n, rfl, hcut⟩, G₂, S₂, _, rb, _⟩ := hq
  cases rb with | int _ tk =>
  refine wpAny_bind (wpAny_holding (wpAny_pure (wpAny_bind (wpAny_holding (wpAny_pure (wpAny_newObj_type ?_))))))
  have Gp := Grow.push s₂ { cls := .type "slice", data := .fields #[.int n tk, .none, .none] } s₂.toks
  exact lift ((G₁.trans G₂).trans (Gp.go nil ads)) (hcut A _ ads fr _ _ _ ca _ tk _ (S₂.grow Gp) ((Va.go H₁.S G₂ fun _ z => z.elim).grow S₂ Gp) (Heap.IsSliceOf.new ..))
end


-- Core15

section
variable {c : Cx} {q t : Bool} {k : Nat} {sc : Scope} {ρ ρ' : Lo} {σ : AH} {Q : Fw → Lo → AH → Prop} {X : Addr → Lo → AH → Prop} {A : Around} {env : Env} {s s₁ : Shared} {ads fr : List Addr}

/-! while -/
noncomputable def WhR (c : Cx) (q t : Bool) (k : Nat) (sc : Scope) (test : Expr) (body : List Stmt) (Q : Fw → Lo → AH → Prop) (X : Addr → Lo → AH → Prop) : Nat → Lo → AH → Prop
  | 0, _, _ => False
  | n + 1, ρ, σ => Tb c q t k sc ρ σ test (fun b σ₁ => if b = true then Exs c q t k sc ρ σ₁ body (Lp (fun ρ' σ' => WhR c q t k sc test body Q X n ρ' σ') Q) X else Q .next ρ σ₁) (fun C σ₁ => X C ρ σ₁)

theorem Ex.while {test : Expr} {body : List Stmt} {pos : Pos} (n : Nat) (h : WhR c q t k sc test body Q X n ρ σ)
    (hE : ∀ A env s ads fr, Here c q t k sc ρ σ A env s ads fr → PassesOwn c.M A env (ExX c ads fr env s X)) : Ex c q t k sc ρ σ (.While test body [] pos) Q X := fun A env s ads fr H => by
  have hE := hE A env s ads fr H
  refine wpAny_While (codeAny_whileLoop (fun m s' => ∃ ρ' σ' ads', Here c q t k sc ρ' σ' A env s' ads' fr ∧ Go (Own env) ads ads' s s' ∧ WhR c q t k sc test body Q X m ρ' σ') ?_ n ⟨ρ, σ, ads, H, .refl .., h⟩)
  rintro m s' ⟨ρ', σ', ads', H', G', hw⟩
  cases m with
  | zero => exact hw.elim
  | succ m =>
    refine wpAny_mono (hw A env s' ads' fr H') (fun b s₂ h₂ => ?_) fun ce s₂ hx => hE ce s₂ ((hx.own H').trans G')
    obtain ⟨σ₂, h₂, G₂, S₂⟩ := h₂
    have H₂ := H'.go G₂ S₂
    have G₂' := G'.trans G₂.own
    cases b with
    | false =>
      rw [if_neg (by simp)] at h₂ ⊢
      exact wpAny_execs_nil ⟨.next, ρ', σ₂, ads', h₂, G₂', S₂, H₂.F, rfl⟩
    | true =>
      rw [if_pos rfl] at h₂ ⊢
      refine wpAny_mono (h₂ A env s₂ ads' fr H₂) (fun fl s₃ h₃ => ?_) fun ce s₃ hx => hE ce s₃ (hx.trans G₂')
      obtain ⟨fw, ρ₃, σ₃, ads₃, h3, G₃, S₃, F₃, hfl⟩ := h₃
      have H₃ := H₂.after G₃ S₃ F₃
      have G₃' := G₂'.trans G₃
      cases fw with
      | next => obtain rfl : fl = .next := hfl; exact ⟨m, Nat.lt_succ_self _, ρ₃, σ₃, ads₃, H₃, G₃', h3⟩
      | cont => obtain rfl : fl = .cont := hfl; exact ⟨m, Nat.lt_succ_self _, ρ₃, σ₃, ads₃, H₃, G₃', h3⟩
      | brk => obtain rfl : fl = .brk := hfl; exact ⟨.next, ρ₃, σ₃, ads₃, h3, G₃', S₃, F₃, rfl⟩
      | ret u => obtain ⟨cu, rfl, V⟩ := hfl; exact ⟨.ret u, ρ₃, σ₃, ads₃, h3, G₃', S₃, F₃, cu, rfl, V⟩

/-! fewer names known -/
noncomputable def Sub (ρ' ρ : Lo) : Prop := ∀ x v, ρ'.lookup x = some v → ρ.lookup x = some v
theorem Sub.refl (ρ : Lo) : Sub ρ ρ := fun _ _ h => h
theorem Sub.nil (ρ : Lo) : Sub [] ρ := fun _ _ h => by simp at h
theorem Sub.cons {x : Str} {v : AV} {r ρ : Lo} (h : ρ.lookup x = some v) (hr : Sub r ρ) : Sub ((x, v) :: r) ρ := fun y u hy => by
  rw [List.lookup_cons] at hy
  by_cases hx : (y == x) = true
  · rw [hx] at hy; cases hy; rw [beq_iff_eq.mp hx]; exact h
  · simp only [Bool.not_eq_true] at hx; rw [hx] at hy; exact hr y u hy
theorem Sub.upd {x : Str} {v : AV} (h : Sub ρ' ρ) : Sub (Mine.upd x v ρ') (Mine.upd x v ρ) := fun y u hy => by
  rw [lookup_upd] at hy ⊢
  split
  · rename_i e; rw [if_pos e] at hy; exact hy
  · rename_i e; rw [if_neg e] at hy; exact h y u hy
theorem FrR.sub {h : Heap} (F : FrR ads fr env ρ h) (hs : Sub ρ' ρ) : FrR ads fr env ρ' h :=
  let ⟨m, h1, h2⟩ := F.ns; ⟨F.kind, F.glob, F.bi, F.lin, ⟨m, h1, fun x v hx => h2 x v (hs x v hx)⟩, F.cell, F.cin, F.apart⟩
theorem Here.sub (H : Here c q t k sc ρ σ A env s ads fr) (hs : Sub ρ' ρ) : Here c q t k sc ρ' σ A env s ads fr := ⟨H.sc, H.R, H.F.sub hs, H.S⟩
theorem Exs.sub {st : List Stmt} (hs : Sub ρ' ρ) (h : Exs c q t k sc ρ' σ st Q X) : Exs c q t k sc ρ σ st Q X := fun A env s ads fr H => h A env s ads fr (H.sub hs)
theorem noPass (P : Addr → Lo → AH → Prop) (hP : ∀ a b c, ¬ P a b c) : PassesOwn c.M A env (ExX c ads fr env s P) := fun e s' h => by
  obtain ⟨C, ρ', σ', ads', e', _, h1, _⟩ := h
  exact (hP _ _ _ h1).elim
end


-- Core16

section
variable {c : Cx} {q t : Bool} {k : Nat} {sc : Scope} {ρ : Lo} {σ : AH} {Q : Fw → Lo → AH → Prop} {X : Addr → Lo → AH → Prop}

/-- an expression for its own sake -/
theorem Ex.expr {e : Expr} {pos : Pos} (h : Ev c q t k sc ρ σ e (fun _ σ₁ => Q .next ρ σ₁) (fun C σ₁ => X C ρ σ₁)) (hs : ∀ env, swapsWith e none pos.line env = pure false := by intro _; rfl) :
    Ex c q t k sc ρ σ (.Expr e pos) Q X := fun A env s ads fr H => by
  refine wpAny_Expr_any (wpAny_mono (h.at H) (fun cv s₁ hq => ?_) fun _ _ x => x.own H) (by unfold interactive; rw [H.F.kind]; rfl) (hs env)
  obtain ⟨v, σ₁, h1, G, S, V⟩ := hq
  exact ⟨.next, ρ, σ₁, ads, h1, G.own, S, H.F.go H.S G, rfl⟩
end

/-! functions by their names -/
noncomputable def HD (c : Cx) (x : Str) (ps : List Str) (d : DefRec × List (Str × Expr)) : Prop := ∃ f fd, Def c x ps d.1.body d.1.scope f fd
noncomputable def IsFn (c : Cx) (x : Str) : Prop := ∃ f o fd, c.mg x = some (.ref f) ∧ c.base.get? f = some o ∧ o.data = .func fd
theorem HD.isFn {c : Cx} {x : Str} {ps : List Str} {d : DefRec × List (Str × Expr)} (h : HD c x ps d) : IsFn c x :=
  let ⟨f, fd, D⟩ := h; let ⟨o, h1, h2⟩ := D.at'; ⟨f, o, fd, D.mg, h1, h2⟩
/-- the contract of a def, by its name -/
noncomputable def Cl (c : Cx) (q : Bool) (k : Nat) (x : Str) (args : List AV) (σ : AH) (Q : AV → AH → Prop) (X : Addr → AH → Prop) : Prop := ∀ f, c.mg x = some (.ref f) → Fn c q k f args σ Q X

section
variable {c : Cx} {q t : Bool} {k : Nat} {sc : Scope} {ρ : Lo} {σ : AH} {Q : AV → AH → Prop} {X : Addr → AH → Prop} {x : Str} {ps : List Str} {args : List AV} {d : DefRec × List (Str × Expr)}

theorem Ev.call (g : Gd c) {p pos : Pos} {e : Expr} {rest : List Expr} (hf : IsFn c x) (hk : sc.names.lookup x = some .globalImplicit)
    (h : Evs c q t k sc ρ σ (e :: rest) (fun vs σ₁ => Cl c q k x vs σ₁ Q X) X) (hdb : (x == ("__debug__" : Str)) = false := by decide)
    (he : ∀ env, starEach (e :: rest) env = (false, eval e env) :: starEach rest env := by intro _; rfl) :
    Ev c q t k sc ρ σ (.Call (.Name x p) (e :: rest) [] pos) Q X := by
  obtain ⟨f, o, fd, h1, h2, h3⟩ := hf
  exact Ev.callFn g hk h1 h2 h3 (fun A env s ads fr pos H => wpAny_mono (h A env s ads fr pos H) (fun _ _ ⟨vs, σ₁, a, b⟩ => ⟨vs, σ₁, a f h1, b⟩) fun _ _ x => x) hdb he


end


-- Ring

/-! rings, plainly -/
noncomputable abbrev zs (xs : List Int) : List PyData := xs.map .int
noncomputable def may (xs : List Int) (m : Nat) : Bool := if m = 0 then decide (xs.getD 0 0 = xs.getD (xs.length - 1) 0) else decide (xs.getD m 0 ≠ xs.getD (m - 1) 0)
/-- a ring of n machines with numbers below K -/
structure Rg (xs : List Int) (n : Nat) (K : Int) : Prop where
  len : xs.length = n
  two : 2 ≤ n
  top : n ≤ 12
  k2 : 2 ≤ K
  k100 : K ≤ 100
  lo : ∀ i, i < n → 0 ≤ xs.getD i 0
  hi : ∀ i, i < n → xs.getD i 0 < K
noncomputable def ableL (xs : List Int) : List Int := ((List.range xs.length).filter (may xs)).map fun (n : Nat) => (n : Int)
noncomputable def mv (xs : List Int) (K : Int) (m : Nat) : List Int := xs.set m (if m = 0 then (xs.getD 0 0 + 1).fmod K else xs.getD (m - 1) 0)

theorem zs_get {xs : List Int} {j : Nat} (h : j < xs.length) : (zs xs)[j]? = some (.int (xs.getD j 0)) := by
  simp [zs, List.getElem?_map, h]

theorem idx_nat {n j : Nat} {i : Int} (hi : i = (j : Int)) (h : j < n) : seqIndex? i n = some j := by
  subst hi
  unfold seqIndex?
  have h1 : ¬ ((j : Int) < 0) := by omega
  simp only [h1, if_false]
  rw [if_pos (by simp; omega)]
  simp
theorem idx_neg {n : Nat} (h : 0 < n) : seqIndex? (-1) n = some (n - 1) := by
  unfold seqIndex?
  simp only [show ((-1 : Int) < 0) from by omega, if_true]
  rw [if_pos (by simp; omega)]
  congr 1
  omega

theorem idx_bnd {n j : Nat} {i : Int} (hj : seqIndex? i n = some j) : -(n : Int) ≤ i ∧ i < n ∧ j < n := by
  unfold seqIndex? at hj
  split at hj <;> (dsimp only at hj; split at hj)
  · rename_i h1 h2; simp only [Bool.and_eq_true, decide_eq_true_eq] at h2; cases hj; omega
  · cases hj
  · rename_i h1 h2; simp only [Bool.and_eq_true, decide_eq_true_eq] at h2; cases hj; omega
  · cases hj

section
variable {c : Cx} {q : Bool} {k : Nat} {σ : AH} {Q : AV → AH → Prop} {X : Addr → AH → Prop} {a b : Int}
theorem Pr.eqI (h : Q (.dat (.bool (decide (a = b)))) σ) : Pr c q k σ (f2 (compareOp .Eq)) [.dat (.int a), .dat (.int b)] Q X := .ints fun A s ads fr L t u R S => eq_int (.bool S (by
  have e : (a == b) = decide (a = b) := rfl
  rw [e]; exact h))
theorem Pr.neI (h : Q (.dat (.bool (decide (a ≠ b)))) σ) : Pr c q k σ (f2 (compareOp .NotEq)) [.dat (.int a), .dat (.int b)] Q X := .ints fun A s ads fr L t u R S => ne_int (.bool S (by
  have e : (a != b) = decide (a ≠ b) := by by_cases h : a = b <;> simp [h]
  rw [e]; exact h))
theorem ifT {c : Prop} [Decidable c] {P R : Prop} (ht : c → P) (hf : ¬ c → R) : if decide c = true then P else R := split_dec ht hf
/-- an item of a ring -/
theorem Pr.ringAt {value slice : Expr} {xs : List Int} {i : Int} {j : Nat} (hj : seqIndex? i xs.length = some j) (hl : xs.length < 2 ^ 60) (h : Q (.dat (.int (xs.getD j 0))) σ)
    (hs : ∀ a u, subscripted slice false (.ref a) (.int i u) = operate [.ref a, .int i u] (getItem (.ref a) (.int i u)) := by intro _ _; with_unfolding_all rfl) : Pr c q k σ (f2 (subscriptTail value slice)) [.dat (.tuple (zs xs)), .dat (.int i)] Q X := by
  have hb := idx_bnd hj
  exact .itemT (j := j) (by simpa [zs] using hj) (zs_get hb.2.2) (by omega) (by omega) h hs
theorem Pr.listAt {value slice : Expr} {xs : List Int} {i : Int} {j : Nat} (hj : seqIndex? i xs.length = some j) (hl : xs.length < 2 ^ 60) (h : Q (.dat (.int (xs.getD j 0))) σ)
    (hs : ∀ a u, subscripted slice false (.ref a) (.int i u) = operate [.ref a, .int i u] (getItem (.ref a) (.int i u)) := by intro _ _; with_unfolding_all rfl) : Pr c q k σ (f2 (subscriptTail value slice)) [.dat (.list (zs xs)), .dat (.int i)] Q X := by
  have hb := idx_bnd hj
  exact .itemL (j := j) (by simpa [zs] using hj) (zs_get hb.2.2) (by omega) (by omega) h hs
end

-- Core17

section
variable {c : Cx} {q t : Bool} {k : Nat} {sc : Scope} {ρ : Lo} {σ : AH} {Q Q' : Fw → Lo → AH → Prop} {X : Addr → Lo → AH → Prop} {x : Str} {body : List Stmt} {Hs : AH → Prop} {items : List AV}

theorem ForR.ind (Inv : Nat → Lo → AH → Prop) (hb : ∀ i v ρ σ, items[i]? = some v → Inv i ρ σ → Exs c q t k sc (upd x v ρ) σ body (Lp (fun ρ' σ' => Hs σ' ∧ ∃ ρ'', Sub ρ'' ρ' ∧ Inv (i + 1) ρ'' σ') Q) X)
    (he : ∀ ρ ρ' σ, Sub ρ ρ' → Inv items.length ρ σ → Q .next ρ' σ) (h0 : ∃ ρ'', Sub ρ'' ρ ∧ Inv 0 ρ'' σ) : ForR c q t k sc x body Hs Q X items ρ σ := by
  have : ∀ (m i : Nat) (ρ : Lo) (σ : AH), m = items.length - i → i ≤ items.length → (∃ ρ'', Sub ρ'' ρ ∧ Inv i ρ'' σ) → ForR c q t k sc x body Hs Q X (items.drop i) ρ σ := by
    intro m
    induction m with
    | zero =>
      rintro i ρ σ hm hi ⟨ρ'', hs, hI⟩
      have e : i = items.length := by omega
      subst e
      rw [List.drop_eq_nil_of_le (Nat.le_refl _)]
      exact he _ _ _ hs hI
    | succ m ih =>
      rintro i ρ σ hm hi ⟨ρ'', hs, hI⟩
      have hlt : i < items.length := by omega
      rw [List.drop_eq_getElem_cons hlt]
      refine Exs.sub (Sub.upd hs) (Exs.mono (hb i items[i] ρ'' σ (by simp [hlt]) hI) (fun fw ρ σ z => ?_) fun _ _ _ z => z)
      cases fw with
      | next => exact ⟨z.1, ih (i + 1) ρ σ (by omega) hlt z.2⟩
      | cont => exact ⟨z.1, ih (i + 1) ρ σ (by omega) hlt z.2⟩
      | brk => exact z
      | ret v => exact z
  simpa using this items.length 0 ρ σ (by omega) (Nat.zero_le _) h0

/-- over the numbers from 0 on -/
theorem ForR.upto {n : Nat} (Inv : Nat → Lo → AH → Prop) (hb : ∀ i ρ σ, i < n → Inv i ρ σ → Exs c q t k sc (upd x (I i) ρ) σ body (Lp (fun ρ' σ' => Hs σ' ∧ ∃ ρ'', Sub ρ'' ρ' ∧ Inv (i + 1) ρ'' σ') Q) X)
    (he : ∀ ρ ρ' σ, Sub ρ ρ' → Inv n ρ σ → Q .next ρ' σ) (h0 : ∃ ρ'', Sub ρ'' ρ ∧ Inv 0 ρ'' σ) : ForR c q t k sc x body Hs Q X (rangeIts 0 n) ρ σ := by
  refine .ind Inv (fun i v ρ σ hv hI => ?_) (fun ρ ρ' σ hs hI => he ρ ρ' σ hs (by simpa [rangeIts] using hI)) h0
  rw [rangeIts_get] at hv
  split at hv
  · cases hv; rename_i hi; rw [Int.zero_add]; exact hb i ρ σ hi hI
  · cases hv
/-- over numbers -/
theorem ForR.zs {xs : List Int} (Inv : Nat → Lo → AH → Prop) (hb : ∀ i ρ σ, i < xs.length → Inv i ρ σ → Exs c q t k sc (upd x (I (xs.getD i 0)) ρ) σ body (Lp (fun ρ' σ' => Hs σ' ∧ ∃ ρ'', Sub ρ'' ρ' ∧ Inv (i + 1) ρ'' σ') Q) X)
    (he : ∀ ρ ρ' σ, Sub ρ ρ' → Inv xs.length ρ σ → Q .next ρ' σ) (h0 : ∃ ρ'', Sub ρ'' ρ ∧ Inv 0 ρ'' σ) : ForR c q t k sc x body Hs Q X ((zs xs).map .dat) ρ σ := by
  refine .ind Inv (fun i v ρ σ hv hI => ?_) (fun ρ ρ' σ hs hI => he ρ ρ' σ hs (by simpa using hI)) h0
  rw [List.getElem?_map, List.getElem?_map] at hv
  by_cases hi : i < xs.length
  · have e : v = I (xs.getD i 0) := by
      simp [hi] at hv; rw [← hv]; simp [hi]
    subst e
    exact hb i ρ σ hi hI
  · have : xs[i]? = none := by simp; omega
    rw [this] at hv; cases hv

theorem WhR.ind {test : Expr} (Inv : Nat → Lo → AH → Prop) (hb : ∀ n ρ σ, Inv n ρ σ → Tb c q t k sc ρ σ test (fun b σ₁ => if b = true then Exs c q t k sc ρ σ₁ body (Lp (fun ρ' σ' => ∃ m, m < n ∧ ∃ ρ'', Sub ρ'' ρ' ∧ Inv m ρ'' σ') Q) X else ∀ ρ', Sub ρ ρ' → Q .next ρ' σ₁) (fun C σ₁ => ∀ ρ', Sub ρ ρ' → X C ρ' σ₁))
    (n : Nat) (h0 : ∃ ρ'', Sub ρ'' ρ ∧ Inv n ρ'' σ) : WhR c q t k sc test body Q X (n + 1) ρ σ := by
  have : ∀ (N n : Nat) (ρ : Lo) (σ : AH), n < N → (∃ ρ'', Sub ρ'' ρ ∧ Inv n ρ'' σ) → WhR c q t k sc test body Q X N ρ σ := by
    intro N
    induction N with
    | zero => intro n ρ σ h; omega
    | succ N ih =>
      rintro n ρ σ hn ⟨ρ'', hs, hI⟩
      intro A env s ads fr H
      refine wpAny_mono (hb n ρ'' σ hI A env s ads fr (H.sub hs)) (fun b s' hq => ?_) fun e s' ⟨C, σ', e', h0, h1, h2⟩ => ⟨C, σ', e', h0, h1 _ hs, h2⟩
      obtain ⟨σ', h1, h2⟩ := hq
      refine ⟨σ', ?_, h2⟩
      cases b with
      | false => exact h1 _ hs
      | true =>
        refine Exs.sub hs (Exs.mono h1 (fun fw ρ σ z => ?_) fun _ _ _ z => z)
        cases fw with
        | next => obtain ⟨m, hm, z⟩ := z; exact ih m ρ σ (by omega) z
        | cont => obtain ⟨m, hm, z⟩ := z; exact ih m ρ σ (by omega) z
        | brk => exact z
        | ret v => exact z
  exact this (n + 1) n ρ σ (Nat.lt_succ_self _) h0
end

section
variable {c : Cx} {q t : Bool} {k : Nat} {sc : Scope} {ρ : Lo} {σ : AH} {x : Str} {elt : Expr} {Hs : AH → Prop} {items : List AV} {Qn : List PyData → AH → Prop} {acc : List PyData}

theorem CompR.map (f : AV → PyData) (h : ∀ v ∈ items, Ev c q false k sc (upd x v ρ) σ elt (fun u σ' => u = .dat (f v) ∧ σ' = σ) NoX) (hl : acc.length + items.length ≤ sizeLine) (hH : Hs σ) (hQ : Qn (acc ++ items.map f) σ) : CompR c q k sc ρ x elt [] Hs Qn items acc σ := by
  induction items generalizing acc with
  | nil => show Qn acc σ; simpa using hQ
  | cons v vs ih =>
    rw [CompR]
    show ite (true = true) _ (Hs σ ∧ CompR c q k sc ρ x elt [] Hs Qn vs acc σ)
    rw [if_pos rfl]
    simp only [List.length_cons] at hl
    refine (h v List.mem_cons_self).mono (fun u σ' hu => ?_) fun _ _ z => z
    obtain ⟨rfl, rfl⟩ := hu
    exact ⟨_, rfl, by omega, hH, ih (fun w hw => h w (List.mem_cons_of_mem _ hw)) (by simp; omega) (by simpa using hQ)⟩
theorem CompR.filter {e : Expr} (p : AV → Bool) (f : AV → PyData) (ht : ∀ v ∈ items, Tb c q false k sc (upd x v ρ) σ e (fun b σ' => b = p v ∧ σ' = σ) NoX)
    (h : ∀ v ∈ items, p v = true → Ev c q false k sc (upd x v ρ) σ elt (fun u σ' => u = .dat (f v) ∧ σ' = σ) NoX) (hl : acc.length + items.length ≤ sizeLine) (hH : Hs σ) (hQ : Qn (acc ++ (items.filter p).map f) σ) : CompR c q k sc ρ x elt [e] Hs Qn items acc σ := by
  induction items generalizing acc with
  | nil => show Qn acc σ; simpa using hQ
  | cons v vs ih =>
    intro A env s ads fr H
    simp only [List.length_cons] at hl
    refine wpAny_mono (ht v List.mem_cons_self A env s ads fr H) (fun b s' hq => ?_) fun _ _ z => z
    obtain ⟨σ', ⟨hb, rfl⟩, h2⟩ := hq
    refine ⟨σ', ?_, h2⟩
    rw [List.filter_cons] at hQ
    cases hp : p v with
    | false =>
      rw [hp] at hQ hb; subst hb
      rw [if_neg (by simp)]
      exact ⟨hH, ih (fun w hw => ht w (List.mem_cons_of_mem _ hw)) (fun w hw => h w (List.mem_cons_of_mem _ hw)) (by omega) (by simpa using hQ)⟩
    | true =>
      rw [hp] at hQ hb; subst hb
      rw [if_pos rfl]
      refine (h v List.mem_cons_self hp).mono (fun u σ' hu => ?_) fun _ _ z => z
      obtain ⟨rfl, rfl⟩ := hu
      exact ⟨_, rfl, by omega, hH, ih (fun w hw => ht w (List.mem_cons_of_mem _ hw)) (fun w hw => h w (List.mem_cons_of_mem _ hw)) (by simp; omega) (by simpa using hQ)⟩

theorem rangeIts0 (n : Nat) : rangeIts 0 n = (List.range n).map fun (i : Nat) => I i := by unfold rangeIts; simp
/-- over the numbers from 0 on -/
theorem CompR.upto {n : Nat} (f : Nat → PyData) (h : ∀ i, i < n → Ev c q false k sc (upd x (I i) ρ) σ elt (fun u σ' => u = .dat (f i) ∧ σ' = σ) NoX) (hl : n ≤ sizeLine) (hH : Hs σ) (hQ : Qn ((List.range n).map f) σ) : CompR c q k sc ρ x elt [] Hs Qn (rangeIts 0 n) [] σ := by
  refine .map (fun v => match v with | .dat (.int i) => f i.toNat | _ => .none) (fun v hv => ?_) (by simpa using hl) hH ?_
  · rw [rangeIts0] at hv
    obtain ⟨i, hi, rfl⟩ := List.mem_map.mp hv
    simpa using h i (by simpa using hi)
  · rw [rangeIts0]; simpa [Function.comp_def] using hQ
theorem CompR.uptoF {n : Nat} {e : Expr} (p : Nat → Bool) (f : Nat → PyData) (ht : ∀ i, i < n → Tb c q false k sc (upd x (I i) ρ) σ e (fun b σ' => b = p i ∧ σ' = σ) NoX)
    (h : ∀ i, i < n → p i = true → Ev c q false k sc (upd x (I i) ρ) σ elt (fun u σ' => u = .dat (f i) ∧ σ' = σ) NoX) (hl : n ≤ sizeLine) (hH : Hs σ) (hQ : Qn (((List.range n).filter p).map f) σ) : CompR c q k sc ρ x elt [e] Hs Qn (rangeIts 0 n) [] σ := by
  refine .filter (fun v => match v with | .dat (.int i) => p i.toNat | _ => false) (fun v => match v with | .dat (.int i) => f i.toNat | _ => .none) (fun v hv => ?_) (fun v hv hp => ?_) (by simpa using hl) hH ?_
  · rw [rangeIts0] at hv
    obtain ⟨i, hi, rfl⟩ := List.mem_map.mp hv
    simpa using ht i (by simpa using hi)
  · rw [rangeIts0] at hv
    obtain ⟨i, hi, rfl⟩ := List.mem_map.mp hv
    simpa using h i (by simpa using hi) (by simpa using hp)
  · rw [rangeIts0]; simpa [Function.comp_def, List.filter_map] using hQ
end

theorem truthEx {σ : AH} {b : Bool} {P : Bool → Prop} (h : P b) : ∃ b', Truth σ (.dat (.bool b)) b' ∧ P b' := ⟨b, rfl, h⟩
theorem ifF {c : Prop} [Decidable c] {P R : Prop} (hc : ¬ c) (h : R) : if decide c = true then P else R := by rw [if_neg (by simpa using hc)]; exact h
theorem ifY {c : Prop} [Decidable c] {P R : Prop} (hc : c) (h : P) : if decide c = true then P else R := by rw [if_pos (by simpa using hc)]; exact h
theorem if0 {P R : Prop} (h : R) : if false = true then P else R := by simpa using h
theorem if1 {P R : Prop} (h : P) : if true = true then P else R := by simpa using h
theorem ifB {b : Bool} {P R : Prop} (ht : b = true → P) (hf : b = false → R) : if b = true then P else R := by cases b; exact hf rfl; exact ht rfl
theorem ifN {b : Bool} {P R : Prop} (ht : b = false → P) (hf : b = true → R) : if (!b) = true then P else R := by cases b; exact ht rfl; exact hf rfl


-- Core18

section
variable {c : Cx} {q t : Bool} {k : Nat} {sc : Scope} {ρ : Lo} {σ : AH} {Q : AV → AH → Prop} {X : Addr → AH → Prop}
/-- a list display, as data -/
theorem Ev.list {es : List Expr} {pos : Pos} (h : Evs c q t k sc ρ σ es (fun vs σ₁ => ∃ ds, vs = ds.map .dat ∧ ds.length ≤ sizeLine ∧ Q (.dat (.list ds)) σ₁) X) : Ev c q t k sc ρ σ (.List es pos) Q X :=
  (EvN.list (Qn := fun xs σ' => Q (.dat (.list xs)) σ') h).frz fun _ _ z => z
/-- a comprehension, as data -/
theorem Ev.comp {scope : Scope} {x : Str} {px pos : Pos} {elt iter : Expr} {ifs : List Expr} (ok : compOk scope sc x = true)
    (h : EvI c true t k sc ρ σ iter (fun items Hs σ₁ => CompR c true k (relab scope sc) (seen scope ρ) x elt ifs Hs (fun xs σ' => Q (.dat (.list xs)) σ') items [] σ₁) X)
    (hs : ∀ env v, foldedSetIterable iter env v = pure v := by intro _ _; rfl) : Ev c true t k sc ρ σ (.ListComp elt [⟨.Name x px, iter, ifs, 0⟩] scope pos) Q X :=
  (EvN.comp (Qn := fun xs σ' => Q (.dat (.list xs)) σ') ok h hs).frz fun _ _ z => z
end
section
variable {P : List PyData → Prop} {a b d e f g h : PyData}
theorem ex0 (p : P []) : ∃ ds, ([] : List AV) = ds.map AV.dat ∧ ds.length ≤ sizeLine ∧ P ds := ⟨[], rfl, by rw [sizeLine_eq]; simp, p⟩
theorem ex1 (p : P [a]) : ∃ ds, [AV.dat a] = ds.map AV.dat ∧ ds.length ≤ sizeLine ∧ P ds := ⟨[a], rfl, by rw [sizeLine_eq]; simp, p⟩
theorem ex2 (p : P [a, b]) : ∃ ds, [AV.dat a, AV.dat b] = ds.map AV.dat ∧ ds.length ≤ sizeLine ∧ P ds := ⟨[a, b], rfl, by rw [sizeLine_eq]; simp, p⟩
theorem ex3 (p : P [a, b, d]) : ∃ ds, [AV.dat a, AV.dat b, AV.dat d] = ds.map AV.dat ∧ ds.length ≤ sizeLine ∧ P ds := ⟨[a, b, d], rfl, by rw [sizeLine_eq]; simp, p⟩
theorem ex4 (p : P [a, b, d, e]) : ∃ ds, [AV.dat a, AV.dat b, AV.dat d, AV.dat e] = ds.map AV.dat ∧ ds.length ≤ sizeLine ∧ P ds := ⟨[a, b, d, e], rfl, by rw [sizeLine_eq]; simp, p⟩
theorem ex5 (p : P [a, b, d, e, f]) : ∃ ds, [AV.dat a, AV.dat b, AV.dat d, AV.dat e, AV.dat f] = ds.map AV.dat ∧ ds.length ≤ sizeLine ∧ P ds := ⟨[a, b, d, e, f], rfl, by rw [sizeLine_eq]; simp, p⟩
theorem ex7 (p : P [a, b, d, e, f, g, h]) : ∃ ds, [AV.dat a, AV.dat b, AV.dat d, AV.dat e, AV.dat f, AV.dat g, AV.dat h] = ds.map AV.dat ∧ ds.length ≤ sizeLine ∧ P ds := ⟨[a, b, d, e, f, g, h], rfl, by rw [sizeLine_eq]; simp, p⟩
end
theorem ifNT {P R : Prop} (h : R) : if (!true) = true then P else R := by simpa using h
theorem smallZ {xs : List Int} (h : xs.length ≤ 1000) : (zs xs).length ≤ sizeLine := by rw [sizeLine_eq, List.length_map]; exact Nat.le_trans h (by decide)
theorem smallN {n : Nat} (h : n ≤ 1000) : n ≤ sizeLine := by rw [sizeLine_eq]; exact Nat.le_trans h (by decide)
theorem zlt {xs : List Int} {m : Nat} (h : xs.length < m) : (zs xs).length < m := by rw [List.length_map]; exact h
theorem zle {xs : List Int} {m : Nat} (h : m ≤ xs.length) : m ≤ (zs xs).length := by rw [List.length_map]; exact h

-- Core19

/-! equality of rows of numbers -/
theorem zs_lay (xs : List Int) : PyData.canLayAll0 (zs xs) = true := by
  induction xs with
  | nil => rfl
  | cons x xs ih => simpa [zs, PyData.canLayAll0, PyData.canLay0] using ih
theorem zs_layL (xs : List Int) : PyData.canLay0 (.list (zs xs)) = true := zs_lay xs
theorem zs_layT (xs : List Int) : PyData.canLay0 (.tuple (zs xs)) = true := zs_lay xs
theorem zs_deep (xs : List Int) : PyData.depthAll (zs xs) ≤ 1 := by
  induction xs with
  | nil => simp [zs, PyData.depthAll]
  | cons x xs ih => simp [zs, PyData.depthAll, PyData.depth] at ih ⊢; omega
theorem eqv_zs : ∀ xs ys : List Int, PyData.eqvAll (zs xs) (zs ys) = decide (xs = ys)
  | [], [] => by simp [zs, PyData.eqvAll]
  | [], _ :: _ => by simp [zs, PyData.eqvAll]
  | _ :: _, [] => by simp [zs, PyData.eqvAll]
  | x :: xs, y :: ys => by
    have ih := eqv_zs xs ys
    simp only [zs, List.map_cons, PyData.eqvAll, PyData.eqv] at ih ⊢
    rw [ih]
    by_cases h : x = y <;> by_cases h' : xs = ys <;> simp [h, h']
section
variable {c : Cx} {q t : Bool} {k : Nat} {sc : Scope} {ρ : Lo} {σ : AH} {Q : AV → AH → Prop} {X : Addr → AH → Prop} {xs ys : List Int}
theorem depthL (xs : List Int) : PyData.depth (.list (zs xs)) ≤ 2 := by have := zs_deep xs; simp only [PyData.depth]; omega
theorem depthT (xs : List Int) : PyData.depth (.tuple (zs xs)) ≤ 2 := by have := zs_deep xs; simp only [PyData.depth]; omega
theorem Pr.eqL (h : Q (.dat (.bool (decide (xs = ys)))) σ) : Pr c q k σ (f2 (compareOp .Eq)) [.dat (.list (zs xs)), .dat (.list (zs ys))] Q X :=
  .eq (zs_layL xs) (zs_layL ys) (by have := depthL xs; omega) (by rw [← eqv_zs] at h; exact h)
theorem Pr.neL (h : Q (.dat (.bool (!decide (xs = ys)))) σ) : Pr c q k σ (f2 (compareOp .NotEq)) [.dat (.list (zs xs)), .dat (.list (zs ys))] Q X :=
  .ne (zs_layL xs) (zs_layL ys) (by have := depthL xs; omega) (by rw [← eqv_zs] at h; exact h)
theorem Pr.eqT (h : Q (.dat (.bool (decide (xs = ys)))) σ) : Pr c q k σ (f2 (compareOp .Eq)) [.dat (.tuple (zs xs)), .dat (.tuple (zs ys))] Q X :=
  .eq (zs_layT xs) (zs_layT ys) (by have := depthT xs; omega) (by rw [← eqv_zs] at h; exact h)
end

-- Core20

section
variable {c : Cx} {q t : Bool} {k : Nat} {sc : Scope} {ρ : Lo} {σ : AH} {A : Around} {env : Env} {s s₁ : Shared} {ads fr : List Addr}

/-- a tracked list gets other items -/
theorem St.setL {h' : Heap} {tk : Nat} {i : Nat} {xs ys : List PyData} {a : Addr} {items : Array Value} {as : List Addr} (S : St c.base σ ads fr s.heap) (hx : σ[i]? = some (.list xs)) (ha : ads[i]? = some a) (hs : Heap.SameBut a s.heap h')
    (hp : h'.PlainList a items) (r : ReadsAll s.heap items.toList ys as) (hh : ∀ b ∈ as, b ∉ ads ∧ b ∉ fr) :
    Go nil ads ads s { s with heap := h', toks := tk } ∧ St c.base (σ.set i (.list ys)) ads fr h' := by
  have ham : a ∈ ads := List.mem_of_getElem? ha
  have hk : ∀ b o, s.heap.get? b = some o → ¬ b ∈ ads → ∃ o', h'.get? b = some o' ∧ Same o o' := fun b o e nb => ⟨o, (hs.2 b fun z => nb (z ▸ ham)).trans e, .refl _⟩
  have ht : ∀ b o vs n, s.heap.get? b = some o → o.cls = .type "tuple" → o.data = .seq vs n → ¬ b ∈ ads := fun b o vs n e hc hd => (S.tupleAt e hc hd).1
  have hi : i < ads.length := (List.getElem?_eq_some_iff.mp ha).1
  refine ⟨⟨fun b o e nb => ⟨o, (hs.2 b fun z => nb (z ▸ ham)).trans e, fun _ => .refl _, .of_data rfl⟩, fun b o e => ?_, ⟨h', tk, rfl⟩, ⟨[], by simp⟩, fun _ z => .inl z⟩, ⟨fun b o e => ?_, by simp [S.len], S.nodup, S.new, fun j o b h1 h2 => ?_, fun b hb => ?_, S.dis⟩⟩
  · by_cases hb : b = a
    · obtain ⟨n, e'⟩ := hp; exact ⟨_, hb ▸ e'⟩
    · exact ⟨o, (hs.2 b hb).trans e⟩
  · exact (hs.2 b fun z => by rw [z, S.new a (.inl ham)] at e; cases e).trans (S.stays b o e)
  · by_cases hj : j = i
    · subst hj
      rw [List.getElem?_set_self (by rw [S.len]; exact hi)] at h1
      rw [ha] at h2
      cases h1; cases h2
      exact ⟨items, as, hp, readsAll_keep (P := (· ∈ ads)) hk ht _ _ _ r fun b hb => (hh b hb).1, hh⟩
    · rw [List.getElem?_set_ne (fun z => hj z.symm)] at h1
      have hne : b ≠ a := fun z => by
        subst z
        have hj' : j < ads.length := (List.getElem?_eq_some_iff.mp h2).1
        have e1 := (List.getElem?_eq_some_iff.mp h2).2
        have e2 := (List.getElem?_eq_some_iff.mp ha).2
        exact hj ((List.getElem_inj (h₀ := hj') (h₁ := hi) S.nodup).mp (e1.trans e2.symm))
      have x := S.obj j o b h1 h2
      cases o with
      | list zs =>
        obtain ⟨its, bs, ⟨n, e⟩, r', hh'⟩ := x
        exact ⟨its, bs, ⟨n, (hs.2 b hne).trans e⟩, readsAll_keep (P := (· ∈ ads)) hk ht _ _ _ r' fun b hb => (hh' b hb).1, hh'⟩
      | dict kvs =>
        obtain ⟨o, es, n, bs, ds, e, hc, hd, r1, r2, hh'⟩ := x
        exact ⟨o, es, n, bs, ds, (hs.2 b hne).trans e, hc, hd, readsAllP_keep (P := (· ∈ ads)) hk ht _ _ _ r1 (fun b hb => (hh' b (List.mem_append_left _ hb)).1), readsAllQ_keep (P := (· ∈ ads)) hk ht _ _ _ r2 (fun b hb => (hh' b (List.mem_append_right _ hb)).1), hh'⟩
  · obtain ⟨o, e, f⟩ := S.frs b hb
    exact ⟨o, (hs.2 b fun z => S.dis a ham (z ▸ hb)).trans e, f⟩
end

section
variable {c : Cx} {q t : Bool} {k : Nat} {sc : Scope} {ρ : Lo} {σ : AH} {Q : Fw → Lo → AH → Prop} {X : Addr → Lo → AH → Prop}
/-- x.append(e) -/
theorem Ex.append {x : Str} {p apos cpos epos : Pos} {elt : Expr} {i : Nat} (hv : ρ.lookup x = some (.obj i)) (hl : ∃ xs, σ[i]? = some (.list xs))
    (h : Ev c q t k sc ρ σ elt (fun v σ₁ => ∃ d xs, v = .dat d ∧ σ₁[i]? = some (.list xs) ∧ xs.length < sizeLine ∧ Q .next ρ (σ₁.set i (.list (xs ++ [d])))) (fun C σ₁ => X C ρ σ₁))
    (hline : (apos.endLine == cpos.line) = true := by rfl) (hs : ∀ env, swapsWith (.Call (.Attribute (.Name x p) "append" apos) [elt] [] cpos) none epos.line env = pure false := by intro _; rfl)
    (hb : ∀ env, attributeBase (.Name x p) "append" env (eval (.Name x p) env) = eval (.Name x p) env := by intro _; rfl)
    (hf : ∀ env, ((backTo cpos (starEach [elt] env)).all (fun x => !x.1) && (backToKw cpos (keywordEach [] env)).all (fun x => x.1.isSome) && decide (([elt] : List Expr).length + ([] : List Keyword).length + (if ([] : List Keyword).isEmpty then 0 else 1) < 30)) = true := by intro _; rfl)
    (htr : ∀ env, backTo cpos (starEach [elt] env) = [(false, eval elt env)] := by intro _; rfl)
    (hd : (x == ("__debug__" : Str)) = false := by rfl) (hn : (x == ("__classdict__" : Str)) = false := by rfl) :
    Ex c q t k sc ρ σ (.Expr (.Call (.Attribute (.Name x p) "append" apos) [elt] [] cpos) epos) Q X := fun A env s ads fr H => by
  refine wpAny_Expr_any (wpAny_Call_append (hb env) (hf env) hline (htr env) ?_) (by unfold interactive; rw [H.F.kind]; rfl) (hs env)
  refine wpAny_mono ((Ev.nm (Q := fun v σ' => v = .obj i ∧ σ' = σ) (X := NoX) hv ⟨rfl, rfl⟩ hd hn).at H) (fun ov s₁ hq => ?_) fun _ _ z => by obtain ⟨_, _, _, _, z, _⟩ := z; exact z.elim
  obtain ⟨v, σ', ⟨rfl, rfl⟩, G, S, a, ha, rfl⟩ := hq
  obtain ⟨xs, hx⟩ := hl
  obtain ⟨its, as, ⟨n, e⟩, r, hh⟩ := S.obj i _ a hx ha
  have H₁ := H.go G S
  refine ⟨a, its, rfl, ⟨_, n, e, rfl, rfl, rfl⟩, ?_⟩
  refine wpAny_mono (h.at H₁) (fun y s₂ hq => ?_) fun _ _ z => ((z.trans G).own H)
  obtain ⟨v, σ₁, ⟨d, ys, rfl, hy, hz, hQ⟩, G₂, S₂, V⟩ := hq
  have H₂ := H₁.go G₂ S₂
  obtain ⟨its', as', hp', r', hh'⟩ := S₂.obj i _ a hy ha
  obtain ⟨bs, r'', hh''⟩ := V
  refine wpAny_list_append_plain hp' (fun h' hp'' hsb => ?_) (by rw [readsAll_size r']; omega)
  obtain ⟨G₃, S₃⟩ := S₂.setL (tk := s₂.toks) (ys := ys ++ [d]) (as := as' ++ bs) hy ha hsb hp'' (by rw [Array.toList_push]; exact readsAll_snoc r' r'') (fun b hb => (List.mem_append.mp hb).elim (hh' b) (hh'' b))
  exact ⟨.next, ρ, _, ads, hQ, (G.trans (G₂.trans G₃)).own, S₃, (H₂.go G₃ S₃).F, rfl⟩

/-- x[e] = e' -/
theorem Ex.store {x : Str} {p pos' pos : Pos} {ix value : Expr} {i : Nat} (hv : ρ.lookup x = some (.obj i))
    (h : Ev c q t k sc ρ σ value (fun v σ₁ => ∃ d, v = .dat d ∧ Ev c q t k sc ρ σ₁ ix (fun u σ₂ => ∃ (j : Nat) (xs : List PyData), u = .dat (.int j) ∧ σ₂[i]? = some (.list xs) ∧ j < xs.length ∧ xs.length < 2 ^ 60 ∧ Q .next ρ (σ₂.set i (.list (xs.set j d)))) (fun C σ₁ => X C ρ σ₁)) (fun C σ₁ => X C ρ σ₁))
    (hs : ∀ env, swapsWith value (some (.Subscript (.Name x p) ix pos')) pos.line env = pure false := by intro _; rfl) (hd : (x == ("__debug__" : Str)) = false := by rfl) (hn : (x == ("__classdict__" : Str)) = false := by rfl) :
    Ex c q t k sc ρ σ (.Assign [.Subscript (.Name x p) ix pos'] value pos) Q X := fun A env s ads fr H => by
  refine wpAny_Assign_Subscript (wpAny_mono (h.at H) (fun cv s₁ hq => ?_) fun _ _ z => z.own H) (hs env)
  obtain ⟨v, σ₁, ⟨d, rfl, h'⟩, G₁, S₁, V₁⟩ := hq
  have H₁ := H.go G₁ S₁
  refine wpAny_mono ((Ev.nm (Q := fun v σ' => v = .obj i ∧ σ' = σ₁) (X := NoX) hv ⟨rfl, rfl⟩ hd hn).at H₁) (fun ov s₂ hq => ?_) fun _ _ z => by obtain ⟨_, _, _, _, z, _⟩ := z; exact z.elim
  obtain ⟨v, σ', ⟨rfl, rfl⟩, G₂, S₂, a, ha, rfl⟩ := hq
  have H₂ := H₁.go G₂ S₂
  have V₂ := V₁.go S₁ G₂ fun _ z => z.elim
  refine wpAny_mono (h'.at H₂) (fun cj s₃ hq => ?_) fun _ _ z => ((z.trans (G₁.trans G₂)).own H)
  obtain ⟨v, σ₃, ⟨j, xs, rfl, hx, hj, hz, hQ⟩, G₃, S₃, V₃⟩ := hq
  have H₃ := H₂.go G₃ S₃
  have V₂' := V₂.go S₂ G₃ fun _ z => z.elim
  obtain ⟨_, rj, _⟩ := V₃
  cases rj with | int _ tk =>
  obtain ⟨its, as, ⟨n, e⟩, r, hh⟩ := S₃.obj i _ a hx ha
  obtain ⟨bs, r', hh'⟩ := V₂'
  have hsz := readsAll_size r
  refine PySem.W.ki_setAt e (by omega) (by omega) (by omega) ?_
  have hup : ∃ n', (s₃.heap.update a (Obj.mapSeq (·.setIfInBounds (j : Int).toNat cv))).get? a = some { cls := .type "list", data := .seq (its.setIfInBounds j cv) n' } := by
    have e1 : ∃ n', Obj.mapSeq (·.setIfInBounds (j : Int).toNat cv) { cls := .type "list", data := .seq its n } = { cls := .type "list", data := .seq (its.setIfInBounds j cv) n' } := by
      unfold Obj.mapSeq
      exact ⟨_, rfl⟩
    obtain ⟨n', e1⟩ := e1
    exact ⟨n', by rw [Heap.get?_update_self _ e (by rw [e1]; rfl), e1]⟩
  have hset : ∃ cs, ReadsAll s₃.heap (its.setIfInBounds j cv).toList (xs.set j d) cs ∧ ∀ b ∈ cs, b ∈ as ∨ b ∈ bs := by
    rw [Array.toList_setIfInBounds]
    have : ∀ (j : Nat) (vs : List Value) (xs : List PyData) (as : List Addr), ReadsAll s₃.heap vs xs as → j < xs.length → ∃ cs, ReadsAll s₃.heap (vs.set j cv) (xs.set j d) cs ∧ ∀ b ∈ cs, b ∈ as ∨ b ∈ bs := by
      intro j
      induction j with
      | zero =>
        intro vs xs as r hj
        cases r with
        | nil => simp at hj
        | cons r1 r2 => exact ⟨_, .cons r' r2, fun b hb => (List.mem_append.mp hb).elim .inr fun z => .inl (List.mem_append_right _ z)⟩
      | succ j ih =>
        intro vs xs as r hj
        cases r with
        | nil => simp at hj
        | cons r1 r2 =>
          obtain ⟨cs, h1, h2⟩ := ih _ _ _ r2 (by simpa using hj)
          exact ⟨_, .cons r1 h1, fun b hb => (List.mem_append.mp hb).elim (fun z => .inl (List.mem_append_left _ z)) fun z => (h2 b z).imp (List.mem_append_right _) id⟩
    exact this j _ _ _ r hj
  obtain ⟨cs, hr, hcs⟩ := hset
  obtain ⟨G₄, S₄⟩ := S₃.setL (tk := s₃.toks) hx ha (Heap.SameBut.update ..) hup hr fun b hb => (hcs b hb).elim (hh b) (hh' b)
  exact ⟨.next, ρ, _, ads, hQ, (G₁.trans (G₂.trans (G₃.trans G₄))).own, S₄, (H₃.go G₄ S₄).F, rfl⟩
end

-- Core21

/-- a list or a tuple, frozen or tracked -/
inductive SeqV (σ : AH) : AV → List PyData → Prop
  | tuple (xs : List PyData) : SeqV σ (.dat (.tuple xs)) xs
  | list (xs : List PyData) : SeqV σ (.dat (.list xs)) xs
  | obj {i : Nat} {xs : List PyData} : σ[i]? = some (.list xs) → SeqV σ (.obj i) xs
/-- a list, frozen or tracked -/
inductive LstV (σ : AH) : AV → List PyData → Prop
  | list (xs : List PyData) : LstV σ (.dat (.list xs)) xs
  | obj {i : Nat} {xs : List PyData} : σ[i]? = some (.list xs) → LstV σ (.obj i) xs
section
variable {c : Cx} {q t : Bool} {k : Nat} {sc : Scope} {ρ : Lo} {σ : AH} {A : Around} {env : Env} {s s₁ : Shared} {ads fr : List Addr}

theorem SeqV.at {v : AV} {xs : List PyData} {cv : Value} (h : SeqV σ v xs) (S : St c.base σ ads fr s.heap) (V : VR ads fr s.heap v cv) :
    ∃ a o T vs n as, cv = .ref a ∧ s.heap.get? a = some o ∧ (T = "list" ∨ T = "tuple") ∧ o.cls = .type T ∧ o.data = .seq vs n ∧ ReadsAll s.heap vs.toList xs as ∧ ∀ b ∈ as, b ∉ ads ∧ b ∉ fr := by
  cases h with
  | tuple =>
    obtain ⟨as, r, hh⟩ := V
    cases r with
    | tuple h1 h2 h3 h4 => exact ⟨_, _, _, _, _, _, rfl, h1, .inr rfl, h2, h3, h4, hh⟩
  | list =>
    obtain ⟨as, r, hh⟩ := V
    cases r with
    | list h1 h2 h3 h4 => exact ⟨_, _, _, _, _, _, rfl, h1, .inl rfl, h2, h3, h4, fun b hb => hh b (List.mem_cons_of_mem _ hb)⟩
  | obj hx =>
    obtain ⟨a, ha, rfl⟩ := V
    obtain ⟨its, as, ⟨n, e⟩, r, hh⟩ := S.obj _ _ a hx ha
    exact ⟨_, _, _, _, _, _, rfl, e, .inl rfl, rfl, rfl, r, hh⟩
theorem LstV.at {v : AV} {xs : List PyData} {cv : Value} (h : LstV σ v xs) (S : St c.base σ ads fr s.heap) (V : VR ads fr s.heap v cv) :
    ∃ a o vs n as, cv = .ref a ∧ s.heap.get? a = some o ∧ o.cls = .type "list" ∧ o.data = .seq vs n ∧ ReadsAll s.heap vs.toList xs as ∧ ∀ b ∈ as, b ∉ ads ∧ b ∉ fr := by
  cases h with
  | list =>
    obtain ⟨as, r, hh⟩ := V
    cases r with
    | list h1 h2 h3 h4 => exact ⟨_, _, _, _, _, rfl, h1, h2, h3, h4, fun b hb => hh b (List.mem_cons_of_mem _ hb)⟩
  | obj hx =>
    obtain ⟨a, ha, rfl⟩ := V
    obtain ⟨its, as, ⟨n, e⟩, r, hh⟩ := S.obj _ _ a hx ha
    exact ⟨_, _, _, _, _, rfl, e, rfl, rfl, r, hh⟩

/-- a new list of given items -/
theorem newN {s' : Shared} {vs : Array Value} {xs : List PyData} {as : List Addr} {n : Nat} {Qn : List PyData → AH → Prop} (S : St c.base σ ads fr s.heap) (G : Grow s s') (hn : s.heap.get? s.heap.objs.size = none)
    (e : s'.heap.get? s.heap.objs.size = some { cls := .type "list", data := .seq vs n }) (r : ReadsAll s.heap vs.toList xs as) (hh : ∀ b ∈ as, b ∉ ads ∧ b ∉ fr) (hQ : Qn xs σ) : EvNQ c ads fr s Qn (.ref s.heap.objs.size) s' := by
  refine ⟨xs, σ, s.heap.objs.size, vs, as, rfl, hQ, hn, G.go nil ads, ?_, ⟨n, e⟩, ?_, fun b hb => ?_⟩
  · refine (S.grow G).inner (fr' := [s.heap.objs.size]) (h₀ := s.heap) S.stays S (fun b hb => by rw [List.mem_singleton.mp hb]; exact hn) (fun b hb => ?_) S.obj G.1
    rw [List.mem_singleton.mp hb]
    exact ⟨_, e, .inr (.inr ⟨rfl, _, _, rfl⟩)⟩
  · exact readsAll_keep (P := nil) (fun b o e _ => ⟨o, G.1 b o e, .refl _⟩) (fun _ _ _ _ _ _ _ => id) _ _ _ r fun _ _ => id
  · refine ⟨(hh b hb).1, fun z => (List.mem_cons.mp z).elim (fun z => ?_) (hh b hb).2⟩
    obtain ⟨o, e, _⟩ := readsAll_at _ _ _ r b hb
    rw [z, hn] at e; cases e

variable {Qn : List PyData → AH → Prop} {X₀ : Addr → AH → Prop}
/-- list(x) -/
theorem EvN.listOf (g : Gd c) {p pos : Pos} {e : Expr} (hk : sc.names.lookup ("list" : Str) = some .globalImplicit) (hm : c.mg "list" = none)
    (h : Ev c q t k sc ρ σ e (fun v σ₁ => ∃ xs, SeqV σ₁ v xs ∧ xs.length ≤ sizeLine ∧ Qn xs σ₁) X₀) (he : ∀ env, starEach [e] env = (false, eval e env) :: starEach [] env := by intro _; rfl) :
    EvN c q t k sc ρ σ (.Call (.Name "list" p) [e] [] pos) Qn X₀ := fun A env s ads fr H => by
  obtain ⟨mb, h1, h2⟩ := g.b
  refine Call_ ?_
  refine Name_function_global H.F.kind (by rw [← H.sc] at hk; exact hk) (loadGlobal_builtin (by rw [H.F.glob]; exact g.g.keeps H.S.stays) hm (by rw [H.F.bi]; exact h1.keeps H.S.stays) ((h2 "list" (by decide)).trans Boot.«list») ?_)
  refine PyProof.Rows.callWith_type1 (args_cons (h.then H fun v σ₁ cv s₁ hv G₁ H₁ V => args_nil ?_) (he env)) (he env) rfl
  obtain ⟨xs, hx, hz, hQ⟩ := hv
  obtain ⟨a, o, T, vs, n, as, rfl, e1, hT, hc, hd, r, hh⟩ := hx.at H₁.S V
  refine call_list_seq a hT e1 hc hd (fun h' c' hk' e2 => ?_) (by rw [readsAll_size r]; exact hz)
  exact (newN (s' := { s₁ with heap := h' }) H₁.S ⟨hk', h', s₁.toks, rfl⟩ (Heap.get?_none_of_le (Nat.le_refl _)) e2 r hh hQ).trans G₁
end

section
variable {c : Cx} {q t : Bool} {k : Nat} {sc : Scope} {ρ : Lo} {σ : AH} {Q : AV → AH → Prop} {X : Addr → AH → Prop} {xs ys : List PyData} {v : AV}
theorem LstV.reads {s : Shared} {ads fr : List Addr} {cv : Value} (h : LstV σ v xs) (S : St c.base σ ads fr s.heap) (V : VR ads fr s.heap v cv) : ∃ as, Reads s.heap cv (.list xs) as := by
  obtain ⟨a, o, vs, n, as, rfl, e, hc, hd, r, _⟩ := h.at S V
  exact ⟨_, .list e hc hd r⟩
theorem Pr.eqV {v' : AV} (hv : LstV σ v xs) (hv' : LstV σ v' ys) (hd : PyData.canLayAll0 xs = true) (hd' : PyData.canLayAll0 ys = true) (hu : PyData.depth (.list xs) ≤ 90) (h : Q (.dat (.bool (PyData.eqvAll xs ys))) σ) : Pr c q k σ (f2 (compareOp .Eq)) [v, v'] Q X := .of2 fun A s ads fr L cx cy R S Vx Vy => by
  obtain ⟨_, rx⟩ := hv.reads S Vx
  obtain ⟨_, ry⟩ := hv'.reads S Vy
  exact SeqAt.compareEq_reads rx ry hd hd' (by have := R.units; omega) (.bool S h)
end

-- Core22
section
variable {c : Cx} {q t : Bool} {k : Nat} {sc : Scope} {ρ : Lo} {σ : AH}
theorem Tb.mono {e : Expr} {K K' : Bool → AH → Prop} {X X' : Addr → AH → Prop} (h : Tb c q t k sc ρ σ e K X) (hK : ∀ b σ, K b σ → K' b σ) (hX : ∀ v σ, X v σ → X' v σ) : Tb c q t k sc ρ σ e K' X' := fun A env s ads fr H =>
  wpAny_mono (h A env s ads fr H) (fun _ _ ⟨σ', a, b⟩ => ⟨σ', hK _ _ a, b⟩) fun _ _ x => x.mono hX
/-- a test whose truth is known -/
theorem Ex.ifV {e : Expr} {a b : List Stmt} {pos : Pos} {Q : Fw → Lo → AH → Prop} {X : Addr → Lo → AH → Prop} (v : Bool) (ht : Tb c q t k sc ρ σ e (fun x σ₁ => x = v ∧ σ₁ = σ) NoX) (h1 : v = true → Exs c q t k sc ρ σ a Q X) (h0 : v = false → Exs c q t k sc ρ σ b Q X) : Ex c q t k sc ρ σ (.If e a b pos) Q X :=
  .if (ht.mono (fun x σ₁ z => by
    obtain ⟨rfl, rfl⟩ := z
    cases x with
    | true => exact h1 rfl
    | false => exact h0 rfl) fun _ _ z => z.elim)
theorem Hand.obj {Q : AV → AH → Prop} {n i : Nat} {xs : List PyData} (hi : n ≤ i) (hx : σ[i]? = some (.list xs)) (h : Q (.dat (.list xs)) (σ.take n)) : Hand n Q (.ret (.obj i)) σ := ⟨hi, xs, hx, h⟩
/-- the last one tracked -/
theorem last_at (σ : AH) (o : AO) : (σ ++ [o])[σ.length]? = some o := by simp
theorem last_set (σ : AH) (o o' : AO) : (σ ++ [o]).set σ.length o' = σ ++ [o'] := by simp
theorem last_take (σ : AH) (o : AO) : (σ ++ [o]).take σ.length = σ := by simp
end

-- Core23
section
variable {c : Cx} {q : Bool} {k : Nat} {σ : AH} {Q : AV → AH → Prop} {X : Addr → AH → Prop}
theorem boolV {s : Shared} {ads fr : List Addr} {b : Bool} {tk : Nat} (S : St c.base σ ads fr s.heap) (h : Q (.dat (.bool b)) σ) : EvQ c ads fr s Q (.bool b) { s with toks := tk } := .here (v := .dat (.bool b)) S (.tok s tk) ⟨[], .bool _, fun _ ha => (nomatch ha)⟩ h
theorem Pr.isi_tuple_tuple {xs : List PyData} (h : Q (B true) σ) : Pr c q k σ (fun vs => call (.builtin "isinstance") vs) [.dat (.tuple xs), .val (.type "tuple")] Q X := .of2 fun A s ads fr L cx cy R S Vx Vy => by
  obtain rfl : cy = .type "tuple" := Vy
  obtain ⟨as, r, _⟩ := Vx
  cases r with
  | tuple h1 h2 h3 h4 => exact IsiPair.tuple_tuple h1 h2 (.bool S h)
theorem Pr.isi_list_list {xs : List PyData} (h : Q (B true) σ) : Pr c q k σ (fun vs => call (.builtin "isinstance") vs) [.dat (.list xs), .val (.type "list")] Q X := .of2 fun A s ads fr L cx cy R S Vx Vy => by
  obtain rfl : cy = .type "list" := Vy
  obtain ⟨as, r, _⟩ := Vx
  cases r with
  | list h1 h2 h3 h4 => exact IsiPair.list_list h1 h2 (.bool S h)
theorem Pr.isi_int_bool {a : Int} (h : Q (B false) σ) : Pr c q k σ (fun vs => call (.builtin "isinstance") vs) [.dat (.int a), .val (.type "bool")] Q X := .of2 fun A s ads fr L cx cy R S Vx Vy => by
  obtain rfl : cy = .type "bool" := Vy
  obtain ⟨as, r, _⟩ := Vx
  cases r with
  | int => exact IsiPair.int_bool (boolV S h)
theorem Pr.isi_int_int {a : Int} (h : Q (B true) σ) : Pr c q k σ (fun vs => call (.builtin "isinstance") vs) [.dat (.int a), .val (.type "int")] Q X := .of2 fun A s ads fr L cx cy R S Vx Vy => by
  obtain rfl : cy = .type "int" := Vy
  obtain ⟨as, r, _⟩ := Vx
  cases r with
  | int => exact IsiPair.int_int (.bool S h)
end
section
variable {c : Cx} {q t : Bool} {k : Nat} {sc : Scope} {ρ : Lo} {σ : AH} {Q : Fw → Lo → AH → Prop} {X : Addr → Lo → AH → Prop}
end
/-- numbers, and tuples of such, no deeper than n -/
noncomputable def Nice : Nat → PyData → Prop
  | _, .int _ => True
  | n + 1, .tuple xs => xs.length ≤ 1000 ∧ ∀ x ∈ xs, Nice n x
  | _, _ => False
open PySem.W
-- Core24

/-! an exception on its way: what the notes upon it change -/
noncomputable def OneOf (fr : List Addr) (b : Addr) (o o' : Obj) : Prop := o' = o ∨ (b ∈ fr ∧ (∃ es n, o.data = .dict es n) ∧ ∃ sl, o' = { o with slots := sl })
/-- records younger than h₀ change, frames get other notes; all else stands -/
noncomputable def Bd (h₀ : Heap) (fr : List Addr) (h h' : Heap) : Prop := ∃ X : List Addr, (∀ x ∈ X, h₀.get? x = none ∧ ∀ o, h.get? x = some o → ∃ vs, o.data = .fields vs) ∧
  ∀ b o, h.get? b = some o → b ∉ X → ∃ o', h'.get? b = some o' ∧ OneOf fr b o o'

theorem OneOf.same {fr : List Addr} {b : Addr} {o o' : Obj} (x : OneOf fr b o o') : Same o o' := x.elim .inl fun ⟨_, h, h'⟩ => .inr ⟨h, h'⟩
theorem Bd.refl (h₀ : Heap) (fr : List Addr) (h : Heap) : Bd h₀ fr h h := ⟨[], fun _ hx => (nomatch hx), fun b o e _ => ⟨o, e, .inl rfl⟩⟩
theorem Bd.at {h₀ h h' : Heap} {fr : List Addr} (x : Bd h₀ fr h h') {b : Addr} {o : Obj} (e : h.get? b = some o) (hn : ∀ vs, o.data ≠ .fields vs) : ∃ o', h'.get? b = some o' ∧ OneOf fr b o o' := by
  obtain ⟨X, h1, h2⟩ := x
  by_cases hb : b ∈ X
  · obtain ⟨vs, hv⟩ := (h1 b hb).2 o e
    exact absurd hv (hn vs)
  · exact h2 b o e hb
theorem Bd.old {h₀ h h' : Heap} {fr : List Addr} (x : Bd h₀ fr h h') {b : Addr} {o o₀ : Obj} (e₀ : h₀.get? b = some o₀) (e : h.get? b = some o) : ∃ o', h'.get? b = some o' ∧ OneOf fr b o o' := by
  obtain ⟨X, h1, h2⟩ := x
  exact h2 b o e fun hb => by rw [(h1 b hb).1] at e₀; cases e₀
theorem Bd.trans {h₀ h₁ h₂ h₃ : Heap} {fr : List Addr} (x : Bd h₀ fr h₁ h₂) (y : Bd h₀ fr h₂ h₃) : Bd h₀ fr h₁ h₃ := by
  obtain ⟨X, x1, x2⟩ := x
  obtain ⟨Y, y1, y2⟩ := y
  refine ⟨X ++ Y, fun b hb => ⟨(List.mem_append.mp hb).elim (fun z => (x1 b z).1) fun z => (y1 b z).1, fun o e => ?_⟩, fun b o e hb => ?_⟩
  · by_cases hX : b ∈ X
    · exact (x1 b hX).2 o e
    · have hY := (List.mem_append.mp hb).resolve_left hX
      obtain ⟨o', e', r⟩ := x2 b o e hX
      obtain ⟨vs, hv⟩ := (y1 b hY).2 o' e'
      rcases r with rfl | ⟨_, ⟨es, n, z⟩, sl, rfl⟩
      · exact ⟨vs, hv⟩
      · have hv : o.data = .fields vs := hv
        rw [hv] at z; cases z
  · obtain ⟨o', e', r⟩ := x2 b o e fun z => hb (List.mem_append_left _ z)
    obtain ⟨o'', e'', r'⟩ := y2 b o' e' fun z => hb (List.mem_append_right _ z)
    refine ⟨o'', e'', ?_⟩
    rcases r with rfl | ⟨m, hd, sl, rfl⟩
    · exact r'
    · rcases r' with rfl | ⟨m', hd', sl', rfl⟩
      · exact .inr ⟨m, hd, sl, rfl⟩
      · exact .inr ⟨m, hd, sl', rfl⟩
noncomputable def notExc : AV → Prop
  | .exc _ => False
  | _ => True
noncomputable def NoExc (ρ : Lo) : Prop := ∀ x v, ρ.lookup x = some v → notExc v
theorem NoExc.nil : NoExc [] := fun _ _ h => by simp at h
theorem NoExc.cons {y : Str} {u : AV} {r : Lo} (h : notExc u) (hr : NoExc r) : NoExc ((y, u) :: r) := fun x v hx => by
  rw [List.lookup_cons] at hx
  split at hx
  · cases hx; exact h
  · exact hr x v hx

section
variable {base : Heap} {σ : AH} {ads ads₀ fr : List Addr} {s s₀ : Shared} {O : Addr → Prop} {h' : Heap} {env : Env} {ρ : Lo} {q t : Bool} {k : Nat} {A : Around}

theorem Bd.go (x : Bd s₀.heap fr s.heap h') (G : Go O ads₀ ads s₀ s) : Go O ads₀ ads s₀ { s with heap := h' } := by
  refine ⟨fun b o e hb => ?_, fun b o e => ?_, ?_, G.pre, G.new⟩
  · obtain ⟨o', e', h1, h2⟩ := G.kp b o e hb
    obtain ⟨o'', e'', r⟩ := x.old e e'
    exact ⟨o'', e'', fun n => (h1 n).trans r.same, h2.trans (.of_data r.same.data)⟩
  · obtain ⟨o', e'⟩ := G.live b o e
    obtain ⟨o'', e'', _⟩ := x.old e e'
    exact ⟨o'', e''⟩
  · obtain ⟨h₁, tk, e⟩ := G.rest
    exact ⟨h', tk, by rw [e]⟩

theorem Bd.keep (x : Bd s₀.heap fr s.heap h') : ∀ b o, s.heap.get? b = some o → ¬ (∃ o vs, s.heap.get? b = some o ∧ o.data = .fields vs) → ∃ o', h'.get? b = some o' ∧ Same o o' := fun b o e nb => by
  obtain ⟨o', e', r⟩ := x.at e fun vs z => nb ⟨o, vs, e, z⟩
  exact ⟨o', e', r.same⟩
theorem tup_no {h : Heap} : ∀ a o vs n, h.get? a = some o → o.cls = .type "tuple" → o.data = .seq vs n → ¬ (∃ o vs, h.get? a = some o ∧ o.data = .fields vs) := fun a o vs n e hc hd ⟨o', ws, e', hd'⟩ => by
  rw [e] at e'; cases e'; rw [hd] at hd'; cases hd'
theorem Stands.no {h : Heap} {a : Addr} (x : Stands h a) : ¬ (∃ o vs, h.get? a = some o ∧ o.data = .fields vs) := fun ⟨o', ws, e', hd'⟩ => by
  obtain ⟨o, e, hn⟩ := x
  rw [e] at e'; cases e'; exact hn _ hd'

theorem Bd.vr (x : Bd s₀.heap fr s.heap h') {v : AV} {cv : Value} (V : VR ads fr s.heap v cv) (hv : notExc v) : VR ads fr h' v cv := by
  cases v with
  | dat d => obtain ⟨as, r, h⟩ := V; exact ⟨as, reads_keep x.keep tup_no _ _ _ r fun b hb => (reads_at _ _ _ r b hb).no, h⟩
  | obj i => exact V
  | exc C => exact hv.elim
  | val c => exact V
theorem Bd.st (x : Bd s₀.heap fr s.heap h') (S : St base σ ads fr s.heap) (hb : base.StaysIn s₀.heap) : St base σ ads fr h' := by
  refine ⟨fun b o e => ?_, S.len, S.nodup, S.new, fun i o a h1 h2 => ?_, fun b hm => ?_, S.dis⟩
  · obtain ⟨o', e', r⟩ := x.old (hb b o e) (S.stays b o e)
    rcases r with rfl | ⟨m, _⟩
    · exact e'
    · rw [S.new b (.inr m)] at e; cases e
  · have y := S.obj i o a h1 h2
    have ham : a ∈ ads := List.mem_of_getElem? h2
    cases o with
    | list xs =>
      obtain ⟨items, as, ⟨n, e⟩, r, h⟩ := y
      obtain ⟨o', e', rr⟩ := x.at e (by simp)
      rcases rr with rfl | ⟨m, _⟩
      · exact ⟨items, as, ⟨n, e'⟩, readsAll_keep x.keep tup_no _ _ _ r fun b hb => (readsAll_at _ _ _ r b hb).no, h⟩
      · exact absurd m (S.dis a ham)
    | dict kvs =>
      obtain ⟨o, es, n, as, bs, e, hc, hd, r1, r2, h⟩ := y
      obtain ⟨o', e', rr⟩ := x.at e (by rw [hd]; simp)
      rcases rr with rfl | ⟨m, _⟩
      · exact ⟨o', es, n, as, bs, e', hc, hd, readsAllP_keep x.keep tup_no _ _ _ r1 (fun b hb => (readsAllP_at _ _ _ r1 b hb).no), readsAllQ_keep x.keep tup_no _ _ _ r2 (fun b hb => (readsAllQ_at _ _ _ r2 b hb).no), h⟩
      · exact absurd m (S.dis a ham)
  · obtain ⟨o, e, f⟩ := S.frs b hm
    obtain ⟨o', e', r⟩ := x.at e fun vs z => by rcases f with ⟨es, n, y⟩ | ⟨v, y⟩ | ⟨_, _, _, y⟩ <;> (rw [z] at y; cases y)
    refine ⟨o', e', ?_⟩
    rcases r with rfl | ⟨_, _, sl, rfl⟩
    · exact f
    · exact f
theorem Bd.frr (x : Bd s₀.heap fr s.heap h') (F : FrR ads fr env ρ s.heap) (hne : NoExc ρ) : FrR ads fr env ρ h' := by
  obtain ⟨m, hn, hρ⟩ := F.ns
  have cell : ∀ {cl : Addr} {v : Option Value}, s.heap.IsCell cl v → h'.IsCell cl v := fun {cl v} hc => cell_same hc fun o e => by
    obtain ⟨o', e', hd⟩ := hc
    rw [e] at e'; cases e'
    obtain ⟨o'', e'', r⟩ := x.at e fun vs z => by rw [hd] at z; cases z
    exact ⟨o'', e'', r.same⟩
  refine ⟨F.kind, F.glob, F.bi, F.lin, ⟨m, ns_same hn fun o e => ?_, fun y v hy => ?_⟩, fun y hy => ?_, F.cin, F.apart⟩
  · obtain ⟨o', es, ep, e', hd, _⟩ := hn
    rw [e] at e'; cases e'
    obtain ⟨o'', e'', r⟩ := x.at e fun vs z => by rw [hd] at z; cases z
    exact ⟨o'', e'', r.same⟩
  · rcases hρ y v hy with ⟨h1, cv, h2, h3⟩ | ⟨h1, cl, cv, h2, h3, h4⟩
    · exact .inl ⟨h1, cv, h2, x.vr h3 (hne y v hy)⟩
    · exact .inr ⟨h1, cl, cv, h2, cell h3, x.vr h4 (hne y v hy)⟩
  · obtain ⟨cl, v, h1, h2⟩ := F.cell y hy
    exact ⟨cl, v, h1, cell h2⟩
theorem Bd.rdyC (x : Bd s₀.heap fr s.heap h') (R : RdyC q k A fr s.heap) : RdyC q k A fr h' := by
  obtain ⟨l, h1, h2⟩ := R.frames
  refine ⟨R.depth, R.units, R.quiet, l, h1, fun e he => ?_⟩
  obtain ⟨h3, L, h4, h5, o, es, n, h6, h7⟩ := h2 e he
  obtain ⟨o', e', r⟩ := x.at h6 fun vs z => by rw [h7] at z; cases z
  exact ⟨h3, L, h4, h5, o', es, n, e', r.same.data.trans h7⟩
end

/-- an exception noted in a frame, or in none -/
noncomputable def Noted (h₀ : Heap) (e C : Addr) (fl : Value) (h : Heap) : Prop :=
  h₀.get? e = none ∧ ∃ oe vs T oT ts x0, h.get? e = some oe ∧ oe.cls = .ref C ∧ oe.data = .fields vs ∧ vs[0]? = some x0 ∧ vs[1]? = some (.ref T) ∧ h₀.get? T = none ∧ T ≠ e ∧ h.get? T = some oT ∧ oT.data = .fields ts ∧ ts[3]? = some fl
theorem Noted.at {h₀ h : Heap} {e C : Addr} {fl : Value} (x : Noted h₀ e C fl h) : ∃ oe vs, h.get? e = some oe ∧ oe.cls = .ref C ∧ oe.data = .fields vs := by
  obtain ⟨_, oe, vs, _, _, _, _, a1, a2, a3, _⟩ := x
  exact ⟨oe, vs, a1, a2, a3⟩
theorem Noted.fly {h₀ h : Heap} {e C : Addr} {L : Option Addr} (x : Noted h₀ e C .none h) : Fly h₀ L e C h := by
  obtain ⟨h0, oe, vs, T, oT, ts, x0, a1, a2, a3, a4, a5, a6, a7, a8, a9, a10⟩ := x
  exact ⟨h0, oe, vs, a1, a2, a3, ⟨x0, a4⟩, .inr ⟨T, oT, ts, a5, a6, a7, a8, a9, .inl a10⟩⟩
theorem Noted.flyAt {h₀ h : Heap} {e C l : Addr} (x : Noted h₀ e C (rawInt l) h) : Fly h₀ (some l) e C h := by
  obtain ⟨h0, oe, vs, T, oT, ts, x0, a1, a2, a3, a4, a5, a6, a7, a8, a9, a10⟩ := x
  exact ⟨h0, oe, vs, a1, a2, a3, ⟨x0, a4⟩, .inr ⟨T, oT, ts, a5, a6, a7, a8, a9, .inr ⟨l, rfl, a10⟩⟩⟩

-- Core25

section
variable {c : Cx} {q t : Bool} {k : Nat} {sc : Scope} {ρ : Lo} {σ : AH} {A : Around} {env : Env} {s : Shared} {ads fr : List Addr} {h₀ : Heap} {e C L : Addr} {outer : List Env} {E : Value → Shared → Prop} {M : Model}

noncomputable def FrOk (fr : List Addr) (h : Heap) (l : List Env) : Prop := ∀ e ∈ l, e.scope.kind ≠ .module ∧ ∃ L, e.frame = some L ∧ L ∈ fr ∧ ∃ o es n, h.get? L = some o ∧ o.data = .dict es n
theorem FrOk.fun {h : Heap} {X : List Addr} : ∀ {l : List Env}, FrOk fr h l → (∀ a ∈ l.filterMap (·.frame), a ∈ X) → h.FunFrames (hideAll h X) l
  | [], _, _ => trivial
  | env :: r, hl, hX => by
    obtain ⟨h1, L, h2, h3, o, es, n, h4, h5⟩ := hl env List.mem_cons_self
    refine ⟨h1, ⟨L, o, h2, hideAll_none X (hX L ?_), h4, fun vs z => by rw [h5] at z; cases z⟩, FrOk.fun (fun e he => hl e (List.mem_cons_of_mem _ he)) fun a ha => hX a ?_⟩
    · rw [List.filterMap_cons, h2]; exact List.mem_cons_self
    · rw [List.filterMap_cons, h2]; exact List.mem_cons_of_mem _ ha
theorem FrOk.dict {h : Heap} {l : List Env} (x : FrOk fr h l) {a : Addr} (ha : a ∈ l.filterMap (·.frame)) : a ∈ fr ∧ ∃ o es n, h.get? a = some o ∧ o.data = .dict es n := by
  obtain ⟨e, he, hf⟩ := List.mem_filterMap.mp ha
  obtain ⟨_, L, h2, h3, h4⟩ := x e he
  rw [hf] at h2; cases h2
  exact ⟨h3, h4⟩

/-- from the library's word to Bd -/
theorem bd_of {h h' : Heap} {l : List Env} {Y : List Addr} (hl : FrOk fr h l) (hY : ∀ x ∈ Y, h₀.get? x = none ∧ ∀ o, h.get? x = some o → ∃ vs, o.data = .fields vs)
    (hs : (hideAll h (Y ++ l.filterMap (·.frame))).StaysIn h') (hu : ∀ b o, h.get? b = some o → (∀ vs, o.data ≠ .fields vs) → ∃ sl, h'.get? b = some { o with slots := sl }) : Bd h₀ fr h h' := by
  refine ⟨Y, hY, fun b o e hb => ?_⟩
  by_cases hf : b ∈ l.filterMap (·.frame)
  · obtain ⟨h1, o', es, n, e', hd⟩ := hl.dict hf
    rw [e] at e'; cases e'
    obtain ⟨sl, e''⟩ := hu b o e fun vs z => by rw [hd] at z; cases z
    exact ⟨_, e'', .inr ⟨h1, ⟨es, n, hd⟩, sl, rfl⟩⟩
  · exact ⟨o, hs b o (hideAll_get _ e fun z => (List.mem_append.mp z).elim hb hf), .inl rfl⟩

theorem noted_of {h' base : Heap} {a0 fl : Value} (hn : h₀.get? e = none) (hb : ∀ a, base.get? a = none → h₀.get? a = none ∨ a ∈ fr) (hT : h'.TracedAtW base e (.ref C) a0 fl) (hf : ∀ a ∈ fr, ∀ o vs, h'.get? a = some o → o.data ≠ .fields vs) : Noted h₀ e C fl h' := by
  obtain ⟨oe, vs, T, oT, ts, a1, ⟨a2, a3⟩, a4, a5, a6, a7, a8, a9, a10⟩ := hT
  refine ⟨hn, oe, vs, T, oT, ts, a0, a1, a2, a4, a3, a5, ?_, a7, a8, a9, a10⟩
  exact (hb T a6).resolve_right fun z => hf T z oT ts a8 a9

theorem note_wp {P : Unit → Shared → Prop} (hf : env.frame = some L) (hA : A.frames = some (env :: outer)) (hl : FrOk fr s.heap (env :: outer)) (hst : ∀ a o, h₀.get? a = some o → ∃ o', s.heap.get? a = some o') (hfr : ∀ b ∈ fr, ∃ o, s.heap.get? b = some o ∧ Fl o) (F : Fly h₀ (some L) e C s.heap)
    (h : ∀ h', Bd h₀ fr s.heap h' → Noted h₀ e C (rawInt L) h' → P () { s with heap := h' }) : wpAny M A (noteFrame (.ref e) env) P E s := by
  obtain ⟨hn, oe, vs, he, hc, hd, ⟨x0, h0⟩, hcase⟩ := F
  have frkeep : ∀ {Y : List Addr} {h' : Heap}, Bd h₀ fr s.heap h' → ∀ a ∈ fr, ∀ o vs, h'.get? a = some o → o.data ≠ .fields vs := fun {Y h'} B a ha o vs e' hd' => by
    obtain ⟨o₁, e₁, f⟩ := hfr a ha
    have nf : ∀ vs, o₁.data ≠ .fields vs := fun vs z => by rcases f with ⟨es, n, y⟩ | ⟨v, y⟩ | ⟨_, _, _, y⟩ <;> (rw [z] at y; cases y)
    obtain ⟨o₂, e₂, r⟩ := B.at e₁ nf
    rw [e'] at e₂; cases e₂
    exact nf vs (by rw [← r.same.data]; exact hd')
  have old : ∀ (Y : List Addr), (∀ x ∈ Y, h₀.get? x = none) → ∀ a, (hideAll s.heap (Y ++ (env :: outer).filterMap (·.frame))).get? a = none → h₀.get? a = none ∨ a ∈ fr := fun Y hY a ha => by
    by_cases hm : a ∈ Y ++ (env :: outer).filterMap (·.frame)
    · exact (List.mem_append.mp hm).imp (hY a) fun z => (hl.dict z).1
    · refine .inl ?_
      cases e1 : h₀.get? a with
      | none => rfl
      | some o => obtain ⟨o', e'⟩ := hst a o e1; rw [hideAll_get _ e' hm] at ha; cases ha
  rcases hcase with h1 | ⟨T, oT, ts, h1, hTn, hTe, hT, hTd, h3⟩
  · unfold noteFrame
    simp only [hf]
    refine wpAny_bind (wpAny_field he hd h1 ?_)
    rw [if_neg (by decide)]
    have hY : ∀ x ∈ [e], h₀.get? x = none ∧ ∀ o, s.heap.get? x = some o → ∃ vs, o.data = .fields vs := fun x hx => by
      rw [List.mem_singleton.mp hx]
      exact ⟨hn, fun o e' => by rw [he] at e'; cases e'; exact ⟨vs, hd⟩⟩
    refine wpAny_entryW (base := hideAll s.heap ([e] ++ (env :: outer).filterMap (·.frame))) hA (hl.fun fun a ha => List.mem_append_right _ ha) hf he (fun b o z => of_hideAll _ z) (hideAll_none _ (by simp)) hd (Array.getElem?_eq_some_iff.mp h1).1 h0 fun h' hN => ?_
    obtain ⟨n1, n2, n3, n4⟩ := hN
    have B := bd_of hl hY n1 n4
    rw [hc] at n3
    exact h h' B (noted_of hn (old [e] fun x hx => (hY x hx).1) n3 (frkeep (Y := []) B))
  · rcases h3 with h3 | ⟨l, hLl, h3⟩
    · have hY : ∀ x ∈ [e, T], h₀.get? x = none ∧ ∀ o, s.heap.get? x = some o → ∃ vs, o.data = .fields vs := fun x hx => by
        rcases List.mem_cons.mp hx with rfl | hx
        · exact ⟨hn, fun o e' => by rw [he] at e'; cases e'; exact ⟨vs, hd⟩⟩
        · rw [List.mem_singleton.mp hx]
          exact ⟨hTn, fun o e' => by rw [hT] at e'; cases e'; exact ⟨ts, hTd⟩⟩
      refine wpAny_noteFrame_onW (base := hideAll s.heap ([e, T] ++ (env :: outer).filterMap (·.frame))) hA (hl.fun fun a ha => List.mem_append_right _ ha) hf ⟨oe, vs, T, oT, ts, he, ⟨hc, h0⟩, hd, h1, hideAll_none _ (by simp), hTe, hT, hTd, h3⟩ (fun b o z => of_hideAll _ z) (hideAll_none _ (by simp)) fun h' hN => ?_
      obtain ⟨n1, n2, n3, n4⟩ := hN
      have B := bd_of hl hY n1 n4
      exact h h' B (noted_of hn (old [e, T] fun x hx => (hY x hx).1) n3 (frkeep (Y := []) B))
    · cases hLl
      have := h s.heap (.refl ..) ⟨hn, oe, vs, T, oT, ts, x0, he, hc, hd, h0, h1, hTn, hTe, hT, hTd, h3⟩
      exact wpAny_noteFrame_againW (base := h₀) hf ⟨oe, vs, T, oT, ts, he, ⟨hc, h0⟩, hd, h1, hTn, hTe, hT, hTd, h3⟩ this

/-- in flight, or not -/
theorem flight_wp {P : Unit → Shared → Prop} {fl : Value} {f : Option Addr} (N : Noted h₀ e C fl s.heap) (h : ∀ h', Bd h₀ fr s.heap h' → Noted h₀ e C (f.elim .none fun a => rawInt a) h' → P () { s with heap := h' }) : wpAny M A (setFlight (.ref e) f) P E s := by
  obtain ⟨hn, oe, vs, T, oT, ts, x0, he, hc, hd, h0, h1, hTn, hTe, hT, hTd, h3⟩ := N
  unfold setFlight
  refine wpAny_bind (wpAny_field he hd h1 ?_)
  rw [if_pos (show (Value.ref T != Value.none) = true from by simp)]
  have hsz : 3 < ts.size := (Array.getElem?_eq_some_iff.mp h3).1
  refine wpAny_setField hT hTd hsz (h _ ⟨[T], fun x hx => ?_, fun b o e' hb => ⟨o, ?_, .inl rfl⟩⟩ ⟨hn, oe, vs, T, _, _, x0, ?_, hc, hd, h0, h1, hTn, hTe, Heap.get?_update_self _ hT (Obj.isFreed_of_fields (Obj.data_mapFields hTd _)), Obj.data_mapFields hTd _, ?_⟩)
  · rw [List.mem_singleton.mp hx]
    exact ⟨hTn, fun o e' => by rw [hT] at e'; cases e'; exact ⟨ts, hTd⟩⟩
  · rw [Heap.get?_update_other _ _ fun z => hb (List.mem_singleton.mpr z.symm)]; exact e'
  · rw [Heap.get?_update_other _ _ hTe]; exact he
  · simp [hsz]
end

-- Core26

section
variable {c : Cx} {q : Bool} {k : Nat} {sc : Scope} {ρ : Lo} {σ : AH} {A : Around} {env : Env} {s : Shared} {ads fr : List Addr} {X : Addr → Lo → AH → Prop}

theorem Here.frok (H : Here c q true k sc ρ σ A env s ads fr) : ∃ outer, A.frames = some (env :: outer) ∧ env.frame = some env.locals ∧ FrOk fr s.heap (env :: outer) := by
  obtain ⟨h1, o, h2⟩ := H.R.top rfl
  obtain ⟨l, h3, h4⟩ := H.R.frames
  rw [h2] at h3; cases h3
  exact ⟨o, h2, h1, h4⟩
theorem FrOk.go {O : Addr → Prop} {ads' : List Addr} {s' : Shared} {l : List Env} {base : Heap} (x : FrOk fr s.heap l) (S : St base σ ads fr s.heap) (G : Go O ads ads' s s') : FrOk fr s'.heap l := fun e he => by
  obtain ⟨h3, L, h4, h5, o, es, n, h6, h7⟩ := x e he
  obtain ⟨o', e', _, kd⟩ := G.kp L o h6 fun ha => S.dis L ha h5
  obtain ⟨es', n', e''⟩ := kd.1 es n h7
  exact ⟨h3, L, h4, h5, o', es', n', e', e''⟩

/-- through the statements of its own frame -/
theorem passes (H : Here c q true k sc ρ σ A env s ads fr) (hX : ∀ C ρ σ, X C ρ σ → X C [] σ) : PassesOwn c.M A env (ExX c ads fr env s X) := fun ce s₁ hx => by
  obtain ⟨C, ρ', σ', ads', e, rfl, h1, G, S, F, Fl⟩ := hx
  obtain ⟨outer, hA, hf, hl⟩ := H.frok
  have hl₁ := hl.go H.S G
  rw [hf] at Fl
  refine note_wp hf hA hl₁ (fun a o z => G.live a o z) S.frs Fl fun h₂ B₂ N₂ => ?_
  obtain ⟨hn, oe, vs, T, oT, ts, x0, he, hc, hd, h0, h1', hTn, hTe, hT, hTd, h3⟩ := id N₂
  refine wpAny_bind (wpAny_field (s := { s₁ with heap := h₂ }) he hd h1' ?_)
  rw [if_neg (show ¬ ((Value.ref T == Value.none) = true) from by simp)]
  refine (flight_wp (s := { s₁ with heap := h₂ }) (fr := fr) N₂ fun h₃ B₃ N₃ => ?_)
  have B := B₂.trans B₃
  rw [hf] at N₃
  refine ⟨C, [], σ', ads', e, rfl, hX _ _ _ h1, B.go G, B.st S H.S.stays, B.frr (F.sub (Sub.nil _)) NoExc.nil, ?_⟩
  rw [hf]
  exact N₃.flyAt

/-- out of a call -/
theorem leave_wp {s₀ : Shared} {ads₀ : List Addr} {O : Addr → Prop} {outer : List Env} {e C : Addr} {P : Unit → Shared → Prop} {E : Value → Shared → Prop} (hf : env.frame = some env.locals) (hA : A.frames = some (env :: outer)) (hl : FrOk fr s.heap (env :: outer))
    (G : Go O ads₀ ads s₀ s) (S : St c.base σ ads fr s.heap) (hb : c.base.StaysIn s₀.heap) (F : Fly s₀.heap env.frame e C s.heap)
    (h : ∀ s', Go O ads₀ ads s₀ s' → St c.base σ ads fr s'.heap → (∀ L, Fly s₀.heap L e C s'.heap) → P () s') : wpAny c.M A (leaving env (.ref e)) P E s := by
  rw [hf] at F
  unfold leaving
  refine wpAny_bind (note_wp hf hA hl (fun a o z => G.live a o z) S.frs F fun h₂ B₂ N₂ => ?_)
  refine flight_wp (s := { s with heap := h₂ }) (fr := fr) (f := none) N₂ fun h₃ B₃ N₃ => ?_
  have B := B₂.trans B₃
  exact h { s with heap := h₃ } (B.go G) (B.st S hb) fun L => N₃.fly
end

section
variable {c : Cx} {q : Bool} {k : Nat} {sc : Scope} {σ : AH} {Q : AV → AH → Prop} {X : Addr → AH → Prop} {x : Str} {ps : List Str} {body : List Stmt} {f : Addr} {fd : FuncData} {args : List AV}

theorem Fn.intro (g : Gd c) (D : Def c x ps body sc f fd) (hl : args.length = ps.length) (h : Exs c q true k sc (ps.zip args) σ body (fun fw _ σ' => Hand σ.length Q fw σ') (fun C _ σ' => X C (σ'.take σ.length))) : Fn c q (k + 1) f args σ Q X := fun A s ads fr L cvs R S V => by
  obtain ⟨o, ho, hd⟩ := D.at'
  have hlc : cvs.length = ps.length := V.length.trans hl
  have hsc : fd.scope = sc := D.scope
  refine wpAny_call (codeAny_call_cells (fd := fd) (body := body) (Nat.lt_of_le_of_lt (Nat.le_add_right _ _) R.depth) (S.stays _ _ ho) hd (g.nolimit.keeps S.stays) (D.code.keeps S.stays) D.body (D.binds cvs hlc) D.closure (fun y hy => ?_) (fun s₁ C => ?_)
    (hsc ▸ D.co) (hsc ▸ D.gen) (hsc ▸ D.kind))
  · have : y.1 ∈ ps := zip_names ps cvs y.1 (List.mem_map_of_mem hy)
    rw [hsc]
    rcases D.names _ this with h1 | h1
    · exact .inl h1
    · exact .inr ⟨h1, cells_some _ _ _ (.inl h1)⟩
  · generalize henv : callEnvC fd s.heap.objs.size f = env at C ⊢
    have e1 : env.scope = sc := by rw [← henv]; exact hsc
    have e2 : env.globals = mainGlobals := by rw [← henv]; exact D.globals
    have e3 : env.builtins = builtinsNs := by rw [← henv]; exact D.builtins
    have e4 : env.locals = s.heap.objs.size := by rw [← henv]; rfl
    have e5 : env.frame = some env.locals := by rw [← henv]; rfl
    have e6 : env.cells = cellsFrom (s.heap.objs.size + 1) sc.names [] := by rw [← henv]; show cellsFrom _ fd.scope.names [] = _; rw [hsc]
    have hk := C.toInCall.keep
    have G0 : Grow s s₁ := ⟨hk, C.toInCall.same⟩
    have hin : ∀ b, b ∈ env.locals :: (env.cells.map (·.1)).filterMap (fun n => env.cells.lookup n) → b = env.locals ∨ ∃ n, env.cells.lookup n = some b := fun b hb => by
      rcases List.mem_cons.mp hb with rfl | hb
      · exact .inl rfl
      · obtain ⟨n, _, hq⟩ := List.mem_filterMap.mp hb
        exact .inr ⟨n, hq⟩
    have hin' : ∀ n cl, env.cells.lookup n = some cl → cl ∈ env.locals :: (env.cells.map (·.1)).filterMap (fun n => env.cells.lookup n) := fun n cl hq =>
      List.mem_cons_of_mem _ (List.mem_filterMap.mpr ⟨n, List.mem_map.mpr ⟨_, mem_of_lookup hq, rfl⟩, hq⟩)
    have hn : ∀ b ∈ env.locals :: (env.cells.map (·.1)).filterMap (fun n => env.cells.lookup n), s.heap.get? b = none := fun b hb => by
      rcases hin b hb with rfl | ⟨n, hq⟩
      · exact Heap.get?_none_of_le C.toInCall.fresh
      · exact Heap.get?_none_of_le (Nat.le_trans C.toInCall.fresh (Nat.le_of_lt (C.above n b (mem_of_lookup hq))))
    generalize hfr : env.locals :: (env.cells.map (·.1)).filterMap (fun n => env.cells.lookup n) = fr' at hin hin' hn
    have hlin : env.locals ∈ fr' := by rw [← hfr]; exact List.mem_cons_self
    have S₁ : St c.base σ ads (fr' ++ fr) s₁.heap := (S.grow G0).inner (h₀ := s.heap) S.stays S hn (fun b hb => by
      rcases hin b hb with rfl | ⟨n, hq⟩
      · obtain ⟨o, es, ep, e, hd, _⟩ := C.toInCall.ns
        exact ⟨o, e, .inl ⟨es, ep, hd⟩⟩
      · obtain ⟨o, e, hd⟩ := C.cell n b hq
        exact ⟨o, e, .inr (.inl ⟨_, hd⟩)⟩) S.obj hk
    have V₁ : VRs ads (fr' ++ fr) s₁.heap args cvs := V.inner hk hn
    have F₁ : FrR ads (fr' ++ fr) env (ps.zip args) s₁.heap := by
      refine ⟨e1 ▸ D.kind, e2, e3, List.mem_append_left _ hlin, ⟨_, C.toInCall.ns, fun y v hy => ?_⟩, fun y hy => ?_, fun n cl hq => ⟨List.mem_append_left _ (hin' n cl hq), Nat.ne_of_gt (C.above n cl (mem_of_lookup hq))⟩, fun y z cl h1 h2 => name_of_addr C.apart (mem_of_lookup h1) (mem_of_lookup h2)⟩
      · obtain ⟨cv, hv, hL, hC⟩ := bind_get env.kindOf ps args cvs (fun _ => none) (fun _ => none) D.nodup V₁ y v hy
        have hyp : y ∈ ps := by
          have : ∀ (ps : List Str) (args : List AV), (ps.zip args).lookup y = some v → y ∈ ps := by
            intro ps
            induction ps with
            | nil => intro args h; simp at h
            | cons p ps ih =>
              intro args h
              cases args with
              | nil => simp at h
              | cons a as =>
                simp only [List.zip_cons_cons, List.lookup_cons] at h
                by_cases hyp : (y == p) = true
                · rw [beq_iff_eq.mp hyp]; exact List.mem_cons_self
                · simp only [Bool.not_eq_true] at hyp
                  rw [hyp] at h
                  exact List.mem_cons_of_mem _ (ih as h)
          exact this ps args hy
        have hkd : env.kindOf y = some .local ∨ env.kindOf y = some .cell := by unfold Env.kindOf; rw [e1]; exact D.names y hyp
        rcases hkd with h1 | h1
        · exact .inl ⟨h1, cv, hL h1, hv⟩
        · have hcs : ((cellsFrom (s.heap.objs.size + 1) sc.names []).lookup y).isSome = true := cells_some _ _ _ (.inl (by unfold Env.kindOf at h1; rw [e1] at h1; exact h1))
          obtain ⟨cl, hcl⟩ := Option.isSome_iff_exists.mp hcs
          rw [← e6] at hcl
          exact .inr ⟨.inl h1, cl, cv, hcl, (hC (by rw [h1]; simp)) ▸ C.cell y cl hcl, hv⟩
      · have hcs : ((cellsFrom (s.heap.objs.size + 1) sc.names []).lookup y).isSome = true := cells_some _ _ _ (.inl (by unfold Env.kindOf at hy; rw [e1] at hy; exact hy))
        obtain ⟨cl, hcl⟩ := Option.isSome_iff_exists.mp hcs
        rw [← e6] at hcl
        exact ⟨cl, _, hcl, C.cell y cl hcl⟩
    obtain ⟨l, hA, hlf⟩ := R.frames
    have hA₁ : (A.deeper env).frames = some (env :: l) := by show A.frames.map (env :: ·) = _; rw [hA]; rfl
    have hfo : FrOk (fr' ++ fr) s₁.heap (env :: l) := fun e he => by
      rcases List.mem_cons.mp he with rfl | he
      · obtain ⟨o, es, ep, ee, hd, _⟩ := C.toInCall.ns
        exact ⟨by rw [e1, D.kind]; decide, _, e5, List.mem_append_left _ hlin, o, es, ep, ee, hd⟩
      · obtain ⟨h3, L', h4, h5, o, es, n, h6, h7⟩ := hlf e he
        exact ⟨h3, L', h4, List.mem_append_right _ h5, o, es, n, hk _ _ h6, h7⟩
    have R₁ : Rdy q true k (A.deeper env) env (fr' ++ fr) s₁.heap :=
      ⟨⟨by show A.depth + 1 + k < _; have := R.depth; omega, by show A.units + 3 + 8 * k + 100 < _; have := R.units; omega, R.quiet, env :: l, hA₁, hfo⟩, fun _ => ⟨e5, l, hA₁⟩⟩
    have toGs : ∀ {ads' : List Addr} {s' : Shared} (r : List Addr), ads' = ads ++ r → Go (Own env) ads ads' s₁ s' → Go nil ads ads s s' := fun {ads' s'} r hr G => by
      have G' := (G0.go (Own env) ads).trans G
      refine ⟨fun b o e hb => ?_, G'.live, G'.rest, ⟨[], by simp⟩, fun _ h => .inl h⟩
      obtain ⟨o', e', h1, h2⟩ := G'.kp b o e hb
      refine ⟨o', e', fun _ => h1 fun q => ?_, h2⟩
      rcases q with rfl | ⟨n, hq⟩
      · exact no_some (hn _ hlin) e
      · exact no_some (hn _ (hin' n b hq)) e
    refine wpAny_mono (h (A.deeper env) env s₁ ads (fr' ++ fr) ⟨e1, R₁, F₁, S₁⟩) (fun fl s' hq => ?_) fun ce s' hx => ?_
    · obtain ⟨fw, ρ', σ', ads', hQ, G, S', F', hf⟩ := hq
      obtain ⟨r, rfl⟩ := G.pre
      have Gs := toGs r rfl G
      have So : St c.base (σ'.take σ.length) ads fr s'.heap := S'.outer S.len
      cases fw with
      | next =>
        obtain rfl : fl = .next := hf
        exact ⟨.dat .none, _, hQ, Gs, So, [], .none, fun _ ha => (nomatch ha)⟩
      | brk => exact hQ.elim
      | cont => exact hQ.elim
      | ret v =>
        obtain ⟨cv, rfl, V⟩ := hf
        cases v with
        | dat d => exact ⟨.dat d, _, hQ, Gs, So, V.outer⟩
        | val u => exact ⟨.val u, _, hQ, Gs, So, V⟩
        | obj i =>
          obtain ⟨hi, xs, hx, hQ⟩ := hQ
          obtain ⟨a, ha, rfl⟩ := V
          exact ⟨.dat (.list xs), _, hQ, Gs, So, S'.frozen (S.len ▸ hi) hx ha⟩
        | exc C => exact hQ.elim
    · obtain ⟨C', ρ', σ', ads', e, rfl, h1, G, S', F', Fl'⟩ := hx
      obtain ⟨r, rfl⟩ := G.pre
      refine leave_wp (s₀ := s₁) e5 hA₁ (hfo.go S₁ G) G S' S₁.stays Fl' fun s'' G'' S'' Fl'' => ?_
      exact ⟨C', _, e, rfl, h1, toGs r rfl G'', S''.outer S.len, (Fl'' L).mono fun a z => by
        cases e' : s.heap.get? a with
        | none => rfl
        | some o => rw [hk _ _ e'] at z; cases z⟩

theorem Cl.intro (g : Gd c) {d : DefRec × List (Str × Expr)} (D : HD c x ps d) (hl : args.length = ps.length) (h : Exs c q true k d.1.scope (ps.zip args) σ d.1.body (fun fw _ σ' => Hand σ.length Q fw σ') (fun C _ σ' => X C (σ'.take σ.length))) : Cl c q (k + 1) x args σ Q X := fun f hf => by
  obtain ⟨f', fd, D⟩ := D
  have e := D.mg
  rw [hf] at e
  cases e
  exact Fn.intro g D hl h
theorem Cl.intro0 (g : Gd c) {d : DefRec × List (Str × Expr)} (D : HD c x ps d) (hl : args.length = ps.length) (h : Exs c q true k d.1.scope (ps.zip args) σ d.1.body (fun fw _ σ' => Hand σ.length Q fw σ') (fun _ _ _ => False)) : Cl c q (k + 1) x args σ Q X :=
  .intro g D hl (h.mono (fun _ _ _ y => y) fun _ _ _ y => y.elim)
theorem Hand.dat {n : Nat} {d : PyData} (h : Q (.dat d) (σ.take n)) : Hand n Q (.ret (.dat d)) σ := h
theorem Hand.none {n : Nat} (h : Q (.dat .none) (σ.take n)) : Hand n Q .next σ := h
end

-- Core27

noncomputable abbrev bmV : List Value := [.type "ValueError", .type "Exception", .type "BaseException", .type "object"]
noncomputable abbrev OwnC (c : Cx) (x : Str) (C : Addr) : Prop := OwnCls x C bmV "ValueError.__new__" c.mg c.base
/-- an exception of the class C is caught by D -/
noncomputable def Exm (c : Cx) (C : Addr) (D : Value) (b : Bool) : Prop := ∀ (A : Around) (s : Shared) (e : Addr) (o : Obj) (P : Bool → Shared → Prop) (E : Value → Shared → Prop), c.base.StaysIn s.heap → s.heap.get? e = some o → o.cls = .ref C → P b s → wpAny c.M A (excMatches (.ref e) D) P E s

section
variable {c : Cx} {q t : Bool} {k : Nat} {sc : Scope} {ρ : Lo} {σ : AH} {Q : Fw → Lo → AH → Prop} {X : Addr → Lo → AH → Prop} {A : Around} {env : Env} {s s₁ : Shared} {ads fr : List Addr}

/-- raise Own(..) -/
theorem Ex.raise (g : Gd c) {x : Str} {C : Addr} {e₀ : Expr} {rest : List Expr} {np cpos pos : Pos} (O : OwnC c x C) (hk : sc.names.lookup x = some .globalImplicit)
    (h : Evs c true t k sc ρ σ (e₀ :: rest) (fun vs σ₁ => vs.length ≤ sizeLine ∧ X C ρ σ₁) (fun C σ₁ => X C ρ σ₁)) (hd : (x == ("__debug__" : Str)) = false := by decide)
    (he : ∀ env, starEach (e₀ :: rest) env = (false, eval e₀ env) :: starEach rest env := by intro _; rfl) (hp : ∀ pos env, (backTo pos (starEach rest env)).any (·.1) = false := by intro _ _; rfl) :
    Ex c true t k sc ρ σ (.Raise (some (.Call (.Name x np) (e₀ :: rest) [] cpos)) none pos) Q X := fun A env s ads fr H => by
  obtain ⟨tl, N, nm, qn, bs, hdct, sn, sub, ab, col, dd, k0, k1, k2, k3, k5, mN, hC, hN, hni, TL⟩ := O.obj
  refine wpAny_Raise_call_subT (C := C) (nm := nm) (q := qn) (N := N) (bs := bs) (bm := tl) (hdct := hdct) (sn := sn) (sub := sub) (ab := ab) (col := col) (dd := dd) (k0 := k0) (k1 := k1) (k2 := k2) (k3 := k3) (k5 := k5)
    F.excBase_ValueError (mN := mN) (TL.hasType F.excBase_ValueError.hasBase) (H.R.quiet rfl) (by rw [he env]; show (false || (backTo cpos (starEach rest env)).any (·.1)) = false; rw [hp]; rfl) hni
    (Name_function_global H.F.kind (by rw [← H.sc] at hk; exact hk) (loadGlobal_global (by rw [H.F.glob]; exact g.g.keeps H.S.stays) O.bound ⟨rfl, ?_⟩) hd)
  have h' := h A env s ads fr cpos H
  rw [he env] at h' ⊢
  refine Calls.evalArgs_plain (wpAny_mono h' (fun vs s₂ h₂ => ?_) fun _ _ y => y.own H)
  obtain ⟨avs, σ₁, ⟨hlen, hX⟩, G, S, V⟩ := h₂
  refine ⟨rfl, by rw [V.length]; exact hlen, S.stays _ _ hC, hN.keeps S.stays, TL.keeps S.stays, fun h₃ e hm => ?_⟩
  obtain ⟨t', ht, _, _⟩ := hm.there
  have Gr : Grow s₂ { s₂ with heap := h₃ } := ⟨hm.keeps, h₃, s₂.toks, rfl⟩
  have H₂ := H.go G S
  exact ⟨C, ρ, σ₁, ads, e, rfl, hX, (G.trans (Gr.go nil ads)).own, S.grow Gr, H₂.F.go S (Gr.go nil ads), G.none hm.new, _, _, ht, rfl, rfl, ⟨_, rfl⟩, .inl rfl⟩

/-- behind the suite: the name goes -/
theorem gone_wp {n : Str} {pos : Pos} {fw : Fw} {f : Flow} {P : Unit → Shared → Prop} {E : Value → Shared → Prop} (hkn : env.kindOf n = some .local) (S : St c.base σ ads fr s.heap) (F : FrR ads fr env ρ s.heap) (hfl : FlR ads fr s.heap fw f)
    (h : ∀ s', Go (Own env) ads ads s s' → St c.base σ ads fr s'.heap → FrR ads fr env [] s'.heap → FlR ads fr s'.heap fw f → P () s') : wpAny c.M A (do bindName env n .none; unbindBehindTheSuite env n pos) P E s := by
  obtain ⟨m, hns, _⟩ := F.ns
  refine wpAny_nameGoes hkn hns (by rw [F.kind]; rfl) fun h₇ m' hns' hs => ?_
  obtain ⟨G₇, S₇⟩ := go_fr (tk := s.toks + 1) (O := Own env) S F.lin (.inl rfl) hs fun o eo => by
    obtain ⟨o', es, ep, e', hd', _⟩ := hns'
    obtain ⟨o₀, es₀, ep₀, e₀, hd₀, _⟩ := hns
    rw [eo] at e₀; cases e₀
    exact ⟨o', e', ⟨fun _ _ _ => ⟨es, ep, hd'⟩, fun v q => by rw [hd₀] at q; cases q⟩, .inl ⟨es, ep, hd'⟩⟩
  refine h _ G₇ S₇ ⟨F.kind, F.glob, F.bi, F.lin, ⟨m', hns', fun y u hy => by cases hy⟩, fun y hy => ?_, F.cin, F.apart⟩ ?_
  · obtain ⟨cl, u, h1, h2⟩ := F.cell y hy
    exact ⟨cl, u, h1, h2.sameBut hs (F.cin y cl h1).2⟩
  · cases fw with
    | next => exact hfl
    | brk => exact hfl
    | cont => exact hfl
    | ret u => obtain ⟨cu, rfl, V⟩ := hfl; exact ⟨cu, rfl, V.go S G₇ fun b h => .inl (F.own b h)⟩
/-- the handler -/
theorem hand_wp {s₀ : Shared} {ads₀ : List Addr} {x n : Str} {D C e : Addr} {np pos : Pos} {b₀ : Stmt} {suite : List Stmt} {Qh : Fw → Lo → AH → Prop} {P : Flow → Shared → Prop} {E : Value → Shared → Prop} (g : Gd c) (hsc : env.scope = sc) (R : Rdy q true k A env fr s.heap)
    (hkx : env.kindOf x = some .globalImplicit) (hv : c.mg x = some (.ref D)) (hkn : sc.names.lookup n = some .local) (hd : (x == ("__debug__" : Str)) = false)
    (hb : c.base.StaysIn s₀.heap) (G : Go (Own env) ads₀ ads s₀ s) (S : St c.base σ ads fr s.heap) (F : FrR ads fr env ρ s.heap) (hne : NoExc ρ) (N : Noted s₀.heap e C .none s.heap) (hm : Exm c C (.ref D) true)
    (hh : Exs c false true k sc (upd n (.exc C) ρ) σ (b₀ :: suite) Qh (fun _ _ _ => False)) (hP : ∀ fw ρ' σ' ads' f s', Qh fw ρ' σ' → Go (Own env) ads₀ ads' s₀ s' → St c.base σ' ads' fr s'.heap → FrR ads' fr env [] s'.heap → FlR ads' fr s'.heap fw f → P f s') :
    wpAny c.M A (handleBy (.ref e) env [.ExceptHandler (some (.Name x np)) (some n) (b₀ :: suite) pos]) P E s := by
  obtain ⟨oe, vs, he, hc, hdd⟩ := N.at
  refine wpAny_handleBy_cons (codeAny_handlers_test (Name_function_global F.kind hkx (loadGlobal_global (by rw [F.glob]; exact g.g.keeps S.stays) hv
    (hm _ _ e oe _ _ S.stays he hc (codeAny_handlers_suite_as (flight_wp (fr := fr) (f := none) N fun h₄ B N₄ => ?_)))) hd)) (by intro q; cases q)
  have S₄ := B.st S hb
  have R₄ := B.rdyC R.toRdyC
  have H₄ : Here c false true k sc ρ σ (A.mark (some (.ref e))) env { s with heap := h₄ } ads fr := ⟨hsc, ⟨⟨R₄.depth, R₄.units, fun z => (by cases z), R₄.frames⟩, R.top⟩, B.frr F hne, S₄⟩
  obtain ⟨oe', vs', he', hc', hdd'⟩ := N₄.at
  refine bind_wp H₄ (v := .exc C) (.inl hkn) ⟨e, oe', vs', rfl, he', hc', hdd', (S₄.fieldsAt he' hdd').1⟩ fun s₅ G₅ H₅ => ?_
  refine wpAny_mono (hh _ env s₅ ads fr H₅) (fun f s₆ hq => ?_) fun ce s₆ hx => by obtain ⟨_, _, _, _, _, _, h1, _⟩ := hx; exact h1.elim
  obtain ⟨fw, ρ₆, σ₆, ads₆, h6, G₆, S₆, F₆, hfl⟩ := hq
  exact gone_wp (by rw [← hsc] at hkn; exact hkn) S₆ F₆ hfl fun s₇ G₇ S₇ F₇ hfl₇ => hP fw ρ₆ σ₆ ads₆ f s₇ h6 ((((B.go G).trans G₅).trans G₆).trans G₇) S₇ F₇ hfl₇
/-- try: .. except D as n: .. -/
theorem Ex.tryAs (g : Gd c) {body : List Stmt} {x n : Str} {D : Addr} {np pos pos' : Pos} {b₀ : Stmt} {suite : List Stmt} (Qh : Fw → Lo → AH → Prop) (hkx : sc.names.lookup x = some .globalImplicit) (hv : c.mg x = some (.ref D)) (hkn : sc.names.lookup n = some .local)
    (hQ : ∀ fw ρ' σ', Qh fw ρ' σ' → Q fw [] σ')
    (h : Exs c q true k sc ρ σ body Q (fun C ρ' σ' => NoExc ρ' ∧ Exm c C (.ref D) true ∧ Exs c false true k sc (upd n (.exc C) ρ') σ' (b₀ :: suite) Qh (fun _ _ _ => False)))
    (hd : (x == ("__debug__" : Str)) = false := by decide) :
    Ex c q true k sc ρ σ (.Try body [.ExceptHandler (some (.Name x np)) (some n) (b₀ :: suite) pos] [] [] pos') Q X := fun A env s ads fr H => by
  refine wpAny_Try_except (wpAny_mono (h A env s ads fr H) (fun f s₁ hq => ?_) fun ce s₁ hx => ?_)
  · obtain ⟨fw, ρ', σ', ads', h1, h2, h3, h4, h5⟩ := hq
    cases fw with
    | next => obtain rfl : f = .next := h5; exact wpAny_execs_nil ⟨.next, ρ', σ', ads', h1, h2, h3, h4, rfl⟩
    | brk => obtain rfl : f = .brk := h5; exact ⟨.brk, ρ', σ', ads', h1, h2, h3, h4, rfl⟩
    | cont => obtain rfl : f = .cont := h5; exact ⟨.cont, ρ', σ', ads', h1, h2, h3, h4, rfl⟩
    | ret u => obtain ⟨cu, rfl, V⟩ := h5; exact ⟨.ret u, ρ', σ', ads', h1, h2, h3, h4, cu, rfl, V⟩
  · obtain ⟨C, ρ', σ', ads', e, rfl, hC, G, S, F, Fl'⟩ := hx
    obtain ⟨outer, hA, hf, hl⟩ := H.frok
    rw [hf] at Fl'
    refine note_wp hf hA (hl.go H.S G) (fun a o z => G.live a o z) S.frs Fl' fun h₂ B₂ N₂ => ?_
    refine flight_wp (s := { s₁ with heap := h₂ }) (fr := fr) (f := none) N₂ fun h₃ B₃ N₃ => ?_
    have B := B₂.trans B₃
    exact hand_wp (s := { s₁ with heap := h₃ }) g H.sc ⟨B.rdyC (H.R.go H.S G).toRdyC, H.R.top⟩ (by rw [← H.sc] at hkx; exact hkx) hv hkn hd H.S.stays (B.go G) (B.st S H.S.stays) (B.frr F hC.1) hC.1 N₃ hC.2.1 hC.2.2 fun fw ρ' σ' ads' f s' h1 h2 h3 h4 h5 => ⟨fw, [], σ', ads', hQ _ _ _ h1, h2, h3, h4, h5⟩
end

-- Core28

/-- isinstance upon an exception of the class C -/
noncomputable def Isi (c : Cx) (C : Addr) (D : Value) (b : Bool) : Prop := ∀ (A : Around) (s : Shared) (e : Addr) (o : Obj) (P : Value → Shared → Prop) (E : Value → Shared → Prop), c.base.StaysIn s.heap → s.heap.get? e = some o → o.cls = .ref C →
  (∀ tk, P (.bool b) { s with toks := tk }) → wpAny c.M A (call (.builtin "isinstance") [.ref e, D]) P E s

section
variable {prog : Program} {w : World} {A : Around} {E : Value → Shared → Prop} {s : Shared} {K : Frag} {x C : Addr} {ox : Obj}

noncomputable def InstOf (x C : Addr) (h : Heap) : Prop := ∃ o, h.get? x = some o ∧ o.cls = .ref C
theorem InstOf.ty {M : Model} {h : Heap} (I : InstOf x C h) : Looks M h (typeOf (.ref x)) (.ref C) := by
  obtain ⟨o, h1, h2⟩ := I
  exact h2 ▸ (Looks.ld h1).andThen .now

end

section
open Builtin Builtin.ObjectAttr Builtin.Getset_descriptor
variable {prog : Program} {w : World} {A : Around} {E : Value → Shared → Prop} {s : Shared} {K : Frag} {x C : Addr} {ox : Obj}

/-- a data descriptor of the class comes first -/
theorem looks_data {M : Model} {h : Heap} (X : K.In h) {name : Str} {a g : Value} (ha : findIn K (.ref C) name = some (some a)) (hg : specialIn K a "__get__" = some (some g)) (htk : takesIn K a = some true) : Looks M h (find (.ref x) (.ref C) name) (.bind g a) := by
  have L1 := looks_findIn (M := M) X ha
  have L2 : Looks M h (getOf (some a)) (some g) := looks_specialIn X hg
  have L3 := looks_takesIn (M := M) X htk
  exact L1.andThen (L2.andThen ((show Looks M h (dataDescriptor? (some a) (some g)) (some (g, a)) from L3.andThen .now).andThen (Looks.tag .now)))

theorem exc_get {R : Result → Shared → Prop} {tp : Value} (X : K.In s.heap) (I : InstOf x C s.heap) (hm : mroIn K C (.type "object") = some true)
    (h : R (.ok (.ret (.ref C))) s) : codeAny (model prog w) A (.call (.builtin "getset_descriptor.__get__") ⟨[.builtin "object.__class__", .ref x, tp], []⟩) R s := by
  obtain ⟨hh, g, dr, t, os⟩ := s
  have L0 := I.ty (M := model prog w)
  have L1 := looks_mroIn (M := model prog w) X hm
  refine codeAny_call_builtin KF.slot_gs.plain KF.entry_gs (KF.slot_gs.check _ _ _ _ _ _ _ _ KF.type_class (KF.args_gs _ _ _) ?_)
  unfold Builtin.«getset_descriptor.__get__» descrGet
  rw [dga_obj]
  refine wpAny_bind (wpAny_pure ?_)
  unfold descrGetter descrCheckInstance descrNameAndClass isInstance
  simp only [KF.owner_class]
  repeat lk
  refine ⟨Code.quiet_builtin _ (by decide +kernel), codeAny_builtin KF.entry_class ?_⟩
  unfold Builtin.«object.__class__» shownTypeOf
  repeat lk
  exact h

structure ExcOk (K : Frag) (C : Addr) : Prop where
  hg : findIn K (.ref C) "__getattribute__" = some (some (.builtin "BaseException.__getattribute__"))
  hk : findIn K (.ref C) "__getattr__" = some none
  hc : (clsIn K C).isSome = true
  ha : findIn K (.ref C) "__class__" = some (some (.builtin "object.__class__"))
  hn : specialIn K (.builtin "object.__class__") "__get__" = some (some (.builtin "getset_descriptor.__get__"))
  htk : takesIn K (.builtin "object.__class__") = some true
  hm : mroIn K C (.type "object") = some true
  hb : mroIn K C (.type "BaseException") = some true

theorem exc_entry {Q : Fin → Shared → Prop} {tk : Tok} (O : ExcOk K C) (X : K.In s.heap) (I : InstOf x C s.heap) (h : Q (.done (.ret (.ref C))) s) :
    wpAny (model prog w) A (Builtin.«object.__getattribute__» ⟨[.ref x, .str "__class__" tk], []⟩) Q E s := by
  obtain ⟨hh, g, d, t, os⟩ := s
  have L0 := I.ty (M := model prog w)
  have L3 := looks_data (M := model prog w) (x := x) X O.ha O.hn O.htk
  have f6 := F.slot_gs_get.lookup
  repeat (any_goals (first | assumption | with_reducible refine Looks.at (by assumption) ?_ | wp_step))
  refine exc_get (s := ⟨hh, g, d, t, os⟩) X I O.hm ?_
  repeat (any_goals (first | assumption | wp_step))

theorem exc_check {M : Model} {nameV : Value} {Q : Unit → Shared → Prop} (O : ExcOk K C) (X : K.In s.heap) (I : InstOf x C s.heap) (hq : Q () s) : wpAny M A (checkBuiltinCall "BaseException.__getattribute__" ⟨[.ref x, nameV], []⟩) Q E s := by
  obtain ⟨hh, g, d, t, os⟩ := s
  have hk : builtinKind "BaseException.__getattribute__" = some .slot := by decide +kernel
  have hsplit : splitId "BaseException.__getattribute__" = some ("BaseException", "__getattribute__") := by decide +kernel
  have L0 := I.ty (M := M)
  have LB : Looks M hh (isInstance (.ref x) (.type "BaseException")) true := L0.andThen (looks_mroIn (M := M) X O.hb)
  have ha := F.args_bexc_ga (.ref x) nameV
  simp only [checkBuiltinCall, hk, hsplit]
  refine wpAny_bind (LB.at ?_)
  repeat (first | wp_step)
  exact hq

theorem exc_class {Q : Option Value → Shared → Prop} (O : ExcOk K C) (X : K.In s.heap) (I : InstOf x C s.heap) (h : Q (some (.ref C)) { s with toks := s.toks + 1 }) : wpAny (model prog w) A (getAttr? (.ref x) "__class__") Q E s := by
  obtain ⟨hh, g, d, t, os⟩ := s
  have L0 := I.ty (M := model prog w)
  have L1 := looks_findIn (M := model prog w) X O.hg
  have L2 := looks_findIn (M := model prog w) X O.hk
  have f3 := F.attr_ValueError.ga.bind (.ref x)
  have hx0 : (false && onTheHeap (Value.builtin "BaseException.__getattribute__")) = false := rfl
  have hx2 : (Value.builtin "BaseException.__getattribute__" == Value.builtin "object.__getattribute__") = false := by decide +kernel
  have hx1 : (onTheHeap (Value.ref C) && Value.builtin "BaseException.__getattribute__" == Value.builtin "object.__getattribute__") = false := by rw [hx2]; rfl
  unfold getAttr? getAttrBy? getAttrBy
  refine wpAny_bind (wpAny_mkText (wpAny_bind (wpAny_attempt (wpAny_holding (wpAny_bind (L0.at (wpAny_bind (L1.at ?_))))))))
  dsimp only
  rw [if_neg (by rw [hx1]; decide)]
  unfold getAttrByItsOwn hookBefore
  rw [if_pos (show onTheHeap (Value.ref C) = true from rfl)]
  refine wpAny_bind (L2.at (wpAny_bind (wpAny_attempt (wpAny_holding ?_))))
  unfold callGetattribute
  rw [if_neg (by rw [hx0]; decide)]
  repeat (any_goals (first | assumption | with_reducible refine Looks.at (by assumption) ?_ | wp_step))
  refine codeAny_call_builtin F.attr_ValueError.ga.plain F.entry_bexc_ga (exc_check (s := ⟨hh, g, d, t + 1, os⟩) O X I (exc_entry (s := ⟨hh, g, d, t + 1, os⟩) O X I ?_))
  repeat (any_goals (first | assumption | wp_step))

theorem kitx_exc (O : ExcOk K C) : KitX K (.ref x) (.ref C) (InstOf x C) where
  ty := fun _ _ _ I => I.ty
  it := fun _ _ X _ => by
    obtain ⟨cdD, hcD⟩ := Option.isSome_iff_exists.mp O.hc
    unfold clsIn at hcD
    split at hcD
    · rename_i c' d' cd' sl' ho
      intro A' Q' E' s' k q
      unfold isType loadHead
      exact wpAny_bind (wpAny_loadPart (k _ _ (X _ _ ho)) (wpAny_pure q))
    · cases hcD
  ne := fun h tp dd its n sl X htp => by
    obtain ⟨cdD, hcD⟩ := Option.isSome_iff_exists.mp O.hc
    refine Bool.eq_false_iff.mpr fun q => ?_
    have e : C = tp := Value.ref.inj (beq_iff_eq.mp q)
    subst e
    unfold clsIn at hcD
    split at hcD
    · rename_i c' d' cd' sl' ho
      have z := (X _ _ ho).symm.trans htp
      cases z
    · cases hcD
  ca := fun X I k => exc_class O X I k

theorem Isi.of {c : Cx} {D : Value} {b : Bool} (X : K.In c.base) (O : ExcOk K C) (e : kitOne K (.ref C) D = some b) : Isi c C D b := fun A s a o P E hs ha hc h =>
  kia_one (kitx_exc O) (X.keeps hs) ⟨o, ha, hc⟩ e (by intro z; cases z) h
theorem Exm.of {c : Cx} {D : Value} {b : Bool} (X : K.In c.base) (e : exmOne K (.ref C) D = some b) : Exm c C D b := fun A s a o P E hs ha hc h =>
  exm_one (X.keeps hs) (InstOf.ty ⟨o, ha, hc⟩) e A P E s (fun _ _ z => z) h

/-! a table of classes, checked at once -/
noncomputable def excOk (K : Frag) (C : Addr) : Bool := findIn K (.ref C) "__getattribute__" == some (some (.builtin "BaseException.__getattribute__")) && findIn K (.ref C) "__getattr__" == some none && (clsIn K C).isSome && findIn K (.ref C) "__class__" == some (some (.builtin "object.__class__")) &&
  specialIn K (.builtin "object.__class__") "__get__" == some (some (.builtin "getset_descriptor.__get__")) && takesIn K (.builtin "object.__class__") == some true && mroIn K C (.type "object") == some true && mroIn K C (.type "BaseException") == some true
theorem ExcOk.of (h : excOk K C = true) : ExcOk K C := by
  unfold excOk at h
  simp only [Bool.and_eq_true, beq_iff_eq] at h
  obtain ⟨⟨⟨⟨⟨⟨⟨h1, h2⟩, h3⟩, h4⟩, h5⟩, h6⟩, h7⟩, h8⟩ := h
  exact ⟨h1, h2, h3, h4, h5, h6, h7, h8⟩

noncomputable def tabOk (K : Frag) (heal : Addr) (tab : List (Str × Addr)) : Bool := tab.all fun p => nsIn K mainGlobals p.1 == some (some (.ref p.2)) && excIn K p.2 bmV "ValueError.__new__" && excOk K p.2 &&
  exmOne K (.ref p.2) (.ref heal) == some true && kitOne K (.ref p.2) (.ref heal) == some true && kitOne K (.ref p.2) (.type "ValueError") == some true && tab.all fun d => kitOne K (.ref p.2) (.ref d.2) == some (p.2 == d.2)

structure Tab (c : Cx) (heal : Addr) (tab : List (Str × Addr)) : Prop where
  own : ∀ p ∈ tab, OwnC c p.1 p.2
  exm : ∀ p ∈ tab, Exm c p.2 (.ref heal) true
  isiH : ∀ p ∈ tab, Isi c p.2 (.ref heal) true
  isiV : ∀ p ∈ tab, Isi c p.2 (.type "ValueError") true
  isi : ∀ p ∈ tab, ∀ d ∈ tab, Isi c p.2 (.ref d.2) (p.2 == d.2)
theorem Tab.of {c : Cx} {heal : Addr} {tab : List (Str × Addr)} {p : Program} {loose : List Str} {mb : Str → Option Value} (X : K.In c.base) (T : TopRead p loose c.mg mb c.base) (h : tabOk K heal tab = true) : Tab c heal tab := by
  have z : ∀ p ∈ tab, OwnC c p.1 p.2 ∧ Exm c p.2 (.ref heal) true ∧ Isi c p.2 (.ref heal) true ∧ Isi c p.2 (.type "ValueError") true ∧ ∀ d ∈ tab, Isi c p.2 (.ref d.2) (p.2 == d.2) := fun p hp => by
    have h1 := List.all_eq_true.mp h p hp
    simp only [Bool.and_eq_true, beq_iff_eq] at h1
    obtain ⟨⟨⟨⟨⟨⟨h1, h2⟩, h3⟩, h4⟩, h5⟩, h6⟩, h7⟩ := h1
    have O := ExcOk.of h3
    exact ⟨own_of_in X T h1 h2, .of X h4, .of X O h5, .of X O h6, fun d hd => .of X O (beq_iff_eq.mp (List.all_eq_true.mp h7 d hd))⟩
  exact ⟨fun p hp => (z p hp).1, fun p hp => (z p hp).2.1, fun p hp => (z p hp).2.2.1, fun p hp => (z p hp).2.2.2.1, fun p hp => (z p hp).2.2.2.2⟩
end

section
variable {c : Cx} {q t : Bool} {k : Nat} {sc : Scope} {ρ : Lo} {σ : AH} {Q : AV → AH → Prop} {X : Addr → AH → Prop}
theorem Pr.isiExc {C : Addr} {D : Value} {b : Bool} (hI : Isi c C D b) (h : Q (B b) σ) : Pr c q k σ (fun vs => call (.builtin "isinstance") vs) [.exc C, .val D] Q X := .of2 fun A s ads fr L cx cy R S Vx Vy => by
  obtain ⟨e, o, vs, rfl, he, hc, hd, _⟩ := Vx
  obtain rfl : cy = D := Vy
  exact hI A s e o _ _ S.stays he hc fun tk => EvQ.here (v := .dat (.bool b)) S (.tok s tk) ⟨[], .bool _, fun _ ha => (nomatch ha)⟩ h
end

-- Core29

section
variable {c : Cx} {q t : Bool} {k : Nat} {sc : Scope} {ρ : Lo} {σ : AH} {Q : Fw → Lo → AH → Prop} {X : Addr → Lo → AH → Prop} {A : Around} {env : Env} {s s₁ : Shared} {ads fr : List Addr}

/-- a loop that never comes to its end -/
theorem Ex.forH {x : Str} {px pos : Pos} {iter : Expr} {body : List Stmt} (hx : sc.names.lookup x = some .local ∨ sc.names.lookup x = some .cell) (hend : ∀ ρ σ, ¬ Q .next ρ σ)
    (h : EvI c q t k sc ρ σ iter (fun items Hs σ₁ => ForR c q t k sc x body Hs Q X items ρ σ₁) (fun C σ₁ => X C ρ σ₁))
    (hE : ∀ σ A env s ads fr, Here c q t k sc ρ σ A env s ads fr → PassesOwn c.M A env (ExX c ads fr env s X))
    (hs : ∀ env v, foldedSetIterable iter env v = pure v := by intro _ _; rfl) : Ex c q t k sc ρ σ (.For (.Name x px) iter body [] pos) Q X := fun A env s ads fr H => by
  refine wpAny_For (wpAny_mono (h A env s ads fr H) (fun cv s₁ hq => wpAny_mono hq (fun ci s₂ hi => ?_) fun _ _ x => x.own H) fun _ _ x => x.own H) (hs env)
  obtain ⟨items, Hs, σ₁, s₀, hF, hH, G, S, hok⟩ := hi
  have H₁ := H.go G S
  obtain ⟨it, rfl, hn, G₂, hW⟩ := hok
  obtain ⟨P, W, hP⟩ := hW [] (fun _ hb => nomatch hb)
  have H₂ := H₁.go (G₂.go nil ads) (H₁.S.grow G₂)
  refine codeAny_mono (for_wp (.inr hend) hx W H₂ G₂ hn (hP _ (.refl _)) hH (hE _ _ _ _ _ _ H₁) hF) fun r s' hr => ?_
  cases r with
  | ok f => exact ExQ.trans G.own hr
  | error e => exact cameBack_mono hr fun _ _ y => y.trans G.own
end

/-! steps upon values that make a list -/
section
variable {c : Cx} {q t : Bool} {k : Nat} {sc : Scope} {ρ : Lo} {σ : AH} {Qn : List PyData → AH → Prop} {Q : AV → AH → Prop} {X : Addr → AH → Prop} {v v' : AV}
noncomputable def PrN (c : Cx) (q : Bool) (k : Nat) (σ : AH) (m : List Value → Sem Value) (args : List AV) (Qn : List PyData → AH → Prop) (X : Addr → AH → Prop) : Prop :=
  ∀ A s ads fr L cvs, RdyC q k A fr s.heap → St c.base σ ads fr s.heap → VRs ads fr s.heap args cvs → wpAny c.M A (m cvs) (EvNQ c ads fr s Qn) (EvX c ads fr L s X) s
theorem EvN.binop {l r : Expr} {op : Operator} {pos : Pos} (h : Ev c q t k sc ρ σ l (fun a σ₁ => Ev c q t k sc ρ σ₁ r (fun b σ₂ => PrN c q k σ₂ (f2 (binaryOp op)) [a, b] Qn X) X) X) :
    EvN c q t k sc ρ σ (.BinOp l op r pos) Qn X := fun A env s ads fr H => by
  refine wpAny_BinOp (h.then H fun a σ₁ ca s₁ hr G₁ H₁ Va => ?_)
  refine wpAny_mono (hr.at H₁) (fun cb s₂ hq => ?_) fun _ _ x => x.trans G₁
  obtain ⟨b, σ₂, hp, G₂, S₂, Vb⟩ := hq
  have H₂ := H₁.go G₂ S₂
  exact wpAny_mono (hp A s₂ ads fr env.frame [ca, cb] H₂.R.toRdyC S₂ ⟨ca, [cb], rfl, Va.go H₁.S G₂ fun _ z => z.elim, cb, [], rfl, Vb, rfl⟩) (fun _ _ y => y.trans (G₁.trans G₂)) fun _ _ y => y.trans (G₁.trans G₂)
theorem PrN.cat {xs ys : List PyData} (hv : LstV σ v xs) (hv' : LstV σ v' ys) (hl : xs.length + ys.length ≤ sizeLine) (h : Qn (xs ++ ys) σ) : PrN c q k σ (f2 (binaryOp .Add)) [v, v'] Qn X := fun A s ads fr L cvs R S V => by
  obtain ⟨cx, _, rfl, Vx, cy, _, rfl, Vy, rfl⟩ := V
  obtain ⟨t, o, vs, n, as, rfl, h1, h2, h3, h4, hx⟩ := hv.at S Vx
  obtain ⟨t', o', ws, n', bs, rfl, k1, k2, k3, k4, hy⟩ := hv'.at S Vy
  have sx := readsAll_size h4
  have sy := readsAll_size k4
  obtain ⟨cls, dd, data, sl⟩ := o
  obtain ⟨cls2, dd2, data2, sl2⟩ := o'
  simp only at h2 h3 k2 k3
  subst h2 h3 k2 k3
  refine concat_meets ⟨_, h1, rfl⟩ ⟨_, k1, rfl⟩ noFill_list_add seq_list_add PySem.F.slot_list_add PySem.F.entry_list_add (PySem.F.args_list_add_2 _ _) (list_addW t t' vs ws n n' dd dd2 sl sl2 (by omega)) ⟨h1, k1, ?_⟩
  exact newN (as := as ++ bs) S (Grow.push s _ s.toks) (Heap.get?_none_of_le (Nat.le_refl _)) (Heap.get?_push_size _ rfl) (by rw [Array.toList_append]; exact readsAll_append _ _ _ _ _ _ h4 k4) (fun b hb => (List.mem_append.mp hb).elim (hx b) (hy b)) h

/-- x.count(b), x a tracked list of truths -/
theorem Ev.countB {x : Str} {p apos cpos : Pos} {elt : Expr} {i : Nat} (hv : ρ.lookup x = some (.obj i)) (hl : ∃ xs, σ[i]? = some (.list xs))
    (h : Ev c q t k sc ρ σ elt (fun v σ₁ => ∃ b xs, v = B b ∧ σ₁[i]? = some (.list xs) ∧ xs.all Spec.Shape.bool.has = true ∧ Q (I (Spec.countIn (.bool b) xs)) σ₁) X)
    (hline : (apos.endLine == cpos.line) = true := by rfl) (hb : ∀ env, attributeBase (.Name x p) "count" env (eval (.Name x p) env) = eval (.Name x p) env := by intro _; rfl)
    (hs : ∀ env, starEach [elt] env = [(false, eval elt env)] := by intro _; rfl)
    (hd : (x == ("__debug__" : Str)) = false := by rfl) (hn : (x == ("__classdict__" : Str)) = false := by rfl) :
    Ev c q t k sc ρ σ (.Call (.Attribute (.Name x p) "count" apos) [elt] [] cpos) Q X := .of fun A env s ads fr H => by
  refine Call_method1 (hb env) (hs env) hline ?_
  refine (Ev.nm (Q := fun v σ' => v = .obj i ∧ σ' = σ) (X := X) hv ⟨rfl, rfl⟩ hd hn).then H fun v σ' cv s₁ hq G H₁ V => ?_
  obtain ⟨rfl, rfl⟩ := hq
  obtain ⟨a, ha, rfl⟩ := V
  obtain ⟨xs, hx⟩ := hl
  obtain ⟨its, as, ⟨n, e⟩, r, hh⟩ := H₁.S.obj i _ a hx ha
  refine ⟨"list", "list.count", PySem.F.plainAttrs_list, PySem.F.slot_list_count, PySem.F.type_list_count, ⟨_, e, rfl⟩, fun b z => by cases z; exact ⟨_, e, rfl⟩, ?_⟩
  refine seqMethod1_meets PySem.F.slot_list_count PySem.F.entry_list_count (wpAny_mono (h.at H₁) (fun y s₂ hq => ?_) fun _ _ z => z.trans G)
  obtain ⟨v, σ₁, ⟨b, ys, rfl, hy, hall, hQ⟩, G₂, S₂, bs, r'', _⟩ := hq
  cases r''
  obtain ⟨its', as', ⟨n', e'⟩, r', hh'⟩ := S₂.obj i _ a hy ha
  refine ⟨⟨_, e', rfl⟩, PySem.F.args_list_count_2 _ _, _, SeqAt.list_countAt a its' n' none #[] (.bool b) (isBoolOf b), e', fun y hy => eq_isBoolOf b r' hall y (by simpa using hy) _ _, ?_⟩
  rw [countP_isBoolOf b r' hall]
  exact EvQ.trans (G.trans G₂) (EvQ.int S₂ hQ)

theorem any_zs (x : Int) : ∀ xs : List Int, (zs xs).any (fun y => PyData.eqv y (.int x)) = decide (x ∈ xs)
  | [] => by simp [zs]
  | y :: ys => by
    have ih := any_zs x ys
    simp only [zs, List.map_cons, List.any_cons, PyData.eqv] at ih ⊢
    rw [ih]
    by_cases h : y = x
    · simp [h]
    · have h1 : (y == x) = false := by simpa using h
      have h2 : ¬ x = y := fun z => h z.symm
      by_cases h' : x ∈ ys <;> simp [h1, h2, h']
theorem Pr.notInZ {x : Int} {xs : List Int} (hv : LstV σ v (zs xs)) (h : Q (B (!decide (x ∈ xs))) σ) : Pr c q k σ (f2 (compareOp .NotIn)) [I x, v] Q X := .of2 fun A s ads fr L cx cy R S Vx Vy => by
  obtain ⟨_, rx, _⟩ := Vx
  obtain ⟨_, ry⟩ := hv.reads S Vy
  exact SeqAt.notIn_list_reads ry rx (zs_lay xs) rfl (by have := R.units; simp only [PyData.depth]; omega) (by rw [any_zs]; exact .bool S h)
end

section
variable {c : Cx} {q t : Bool} {k : Nat} {sc : Scope} {ρ : Lo} {σ : AH} {Q : Fw → Lo → AH → Prop} {X : Addr → Lo → AH → Prop}
theorem lenEx {v : AV} {P : Prop} (h : P) : [v].length ≤ sizeLine ∧ P := ⟨by rw [sizeLine_eq]; simp, h⟩
/-- it returns -/
noncomputable def OnlyRet (Q : Fw → Lo → AH → Prop) (fw : Fw) (ρ : Lo) (σ : AH) : Prop := ∃ v, fw = .ret v ∧ Q (.ret v) [] σ
theorem OnlyRet.ret {v : AV} (h : Q (.ret v) [] σ) : OnlyRet Q (.ret v) ρ σ := ⟨v, rfl, h⟩
theorem OnlyRet.no (ρ : Lo) (σ : AH) : ¬ OnlyRet Q .next ρ σ := fun ⟨_, h, _⟩ => by cases h
theorem Exs.one {st : Stmt} (h : Ex c q t k sc ρ σ st Q X) : Exs c q t k sc ρ σ [st] Q X :=
  .cons fun A env s ads fr H => wpAny_mono (h A env s ads fr H) (fun _ _ ⟨fw, ρ', σ', ads', h1, h2⟩ => ⟨fw, ρ', σ', ads', by cases fw with | next => exact Exs.nil h1 | brk => exact h1 | cont => exact h1 | ret v => exact h1, h2⟩) fun _ _ x => x
theorem Ex.tryRet (g : Gd c) {body : List Stmt} {x n : Str} {D : Addr} {np pos pos' : Pos} {b₀ : Stmt} {suite : List Stmt} (hkx : sc.names.lookup x = some .globalImplicit) (hv : c.mg x = some (.ref D)) (hkn : sc.names.lookup n = some .local)
    (h : Exs c q true k sc ρ σ body Q (fun C ρ' σ' => NoExc ρ' ∧ Exm c C (.ref D) true ∧ Exs c false true k sc (upd n (.exc C) ρ') σ' (b₀ :: suite) (OnlyRet Q) (fun _ _ _ => False)))
    (hd : (x == ("__debug__" : Str)) = false := by decide) :
    Ex c q true k sc ρ σ (.Try body [.ExceptHandler (some (.Name x np)) (some n) (b₀ :: suite) pos] [] [] pos') Q X :=
  .tryAs g (OnlyRet Q) hkx hv hkn (fun fw ρ' σ' ⟨v, e, h⟩ => e ▸ h) h hd
end

-- Core30

/-! defs that hand out a list of their own -/
noncomputable def HandN (n : Nat) (Qn : List PyData → AH → Prop) (fw : Fw) (σ' : AH) : Prop := ∃ i, fw = .ret (.obj i) ∧ n ≤ i ∧ ∃ xs, σ'[i]? = some (.list xs) ∧ Qn xs (σ'.take n)
theorem St.asNew {base : Heap} {σ σ' : AH} {ads r fr fr' : List Addr} {h : Heap} {i : Nat} {a : Addr} (S : St base σ' (ads ++ r) (fr' ++ fr) h) (hl : σ.length = ads.length) (hi : σ.length ≤ i) (ha : (ads ++ r)[i]? = some a) :
    St base (σ'.take σ.length) ads (a :: fr) h ∧ a ∉ ads ∧ a ∈ r := by
  have hr : r[i - ads.length]? = some a := by rw [List.getElem?_append_right (by omega)] at ha; exact ha
  have har : a ∈ r := List.mem_of_getElem? hr
  have hna : a ∉ ads := fun z => (List.nodup_append.mp S.nodup).2.2 a z a har rfl
  have hlen := S.len
  refine ⟨⟨S.stays, by rw [List.length_take, hlen]; simp; omega, (List.nodup_append.mp S.nodup).1, fun b hb => ?_, fun j o b h1 h2 => ?_, fun b hb => ?_, fun b hb hc => ?_⟩, hna, har⟩
  · rcases hb with hb | hb
    · exact S.new b (.inl (List.mem_append_left _ hb))
    · rcases List.mem_cons.mp hb with rfl | hb
      · exact S.new b (.inl (List.mem_append_right _ har))
      · exact S.new b (.inr (List.mem_append_right _ hb))
  · have hj : j < ads.length := (List.getElem?_eq_some_iff.mp h2).1
    rw [List.getElem?_take, if_pos (by omega)] at h1
    have x := S.obj j o b h1 (by rw [List.getElem?_append_left hj]; exact h2)
    have up : ∀ bs : List Addr, (∀ b ∈ bs, b ∉ ads ++ r ∧ b ∉ fr' ++ fr) → ∀ b ∈ bs, b ∉ ads ∧ b ∉ a :: fr := fun bs hb b hm =>
      ⟨fun z => (hb b hm).1 (List.mem_append_left _ z), fun z => (List.mem_cons.mp z).elim (fun z => (hb b hm).1 (z ▸ List.mem_append_right _ har)) fun z => (hb b hm).2 (List.mem_append_right _ z)⟩
    cases o with
    | list ys => obtain ⟨items, bs, hp, r, hh⟩ := x; exact ⟨items, bs, hp, r, up bs hh⟩
    | dict kvs => obtain ⟨o, es, m, as, bs, e, hc, hd, r1, r2, hh⟩ := x; exact ⟨o, es, m, as, bs, e, hc, hd, r1, r2, up _ hh⟩
  · rcases List.mem_cons.mp hb with rfl | hb
    · have hs : i < σ'.length := by rw [hlen]; exact (List.getElem?_eq_some_iff.mp ha).1
      have x := S.obj i σ'[i] b (by simp [hs]) ha
      cases hq : σ'[i] with
      | list ys => rw [hq] at x; obtain ⟨items, bs, ⟨n, e⟩, _⟩ := x; exact ⟨_, e, .inr (.inr ⟨rfl, _, _, rfl⟩)⟩
      | dict kvs => rw [hq] at x; obtain ⟨o, es, m, as, bs, e, hc, hd, _⟩ := x; exact ⟨o, e, .inl ⟨es, m, hd⟩⟩
    · exact S.frs b (List.mem_append_right _ hb)
  · rcases List.mem_cons.mp hc with rfl | hc
    · exact hna hb
    · exact S.dis b (List.mem_append_left _ hb) (List.mem_append_right _ hc)

section
variable {c : Cx} {q t : Bool} {k : Nat} {sc : Scope} {ρ : Lo} {σ : AH} {Qn : List PyData → AH → Prop} {X : Addr → AH → Prop} {x : Str} {ps : List Str} {body : List Stmt} {f : Addr} {fd : FuncData} {args : List AV}

noncomputable def ClN (c : Cx) (q : Bool) (k : Nat) (x : Str) (args : List AV) (σ : AH) (Qn : List PyData → AH → Prop) (X : Addr → AH → Prop) : Prop := ∀ f, c.mg x = some (.ref f) → PrN c q k σ (fun vs => call (.ref f) vs) args Qn X
end

-- Core31

section
variable {c : Cx} {q t : Bool} {k : Nat} {sc : Scope} {ρ : Lo} {σ : AH} {Qn : List PyData → AH → Prop} {Q : AV → AH → Prop} {X : Addr → AH → Prop} {v v' : AV}
end

-- Core32

section
variable {base : Heap} {σ : AH} {ads ads' fr fr' : List Addr} {s s' : Shared} {env : Env} {ρ : Lo}
/-- with more frames, made since -/
theorem VR.goIn {v : AV} {cv : Value} (x : VR ads fr s.heap v cv) (S : St base σ ads fr s.heap) (G : Go nil ads ads' s s') (hn : ∀ b ∈ fr', s.heap.get? b = none) : VR ads' (fr' ++ fr) s'.heap v cv := by
  cases v with
  | dat d =>
    obtain ⟨as, r, h⟩ := x
    refine ⟨as, reads_keep (S.keep G fun _ z => z.elim) S.tup _ _ _ r (fun a ha q => ?_), fun a ha => ⟨(avoid G (reads_at _ _ _ r) h a ha).1, fun z => (List.mem_append.mp z).elim (fun z => ?_) (h a ha).2⟩⟩
    · rcases q with q | q | q
      · exact (h a ha).1 q
      · exact (h a ha).2 q
      · exact (reads_at _ _ _ r a ha).notBare q
    · obtain ⟨o, e, _⟩ := reads_at _ _ _ r a ha
      rw [hn a z] at e; cases e
  | obj i => obtain ⟨a, h1, h2⟩ := x; exact ⟨a, G.at h1, h2⟩
  | exc C =>
    obtain ⟨a, o, vs, h1, h2, h3, h4, h5⟩ := x.go S G (fun _ z => z.elim)
    exact ⟨a, o, vs, h1, h2, h3, h4, h5⟩
  | val c => exact x
theorem FrR.goIn (F : FrR ads fr env ρ s.heap) (S : St base σ ads fr s.heap) (G : Go nil ads ads' s s') (hn : ∀ b ∈ fr', s.heap.get? b = none) : FrR ads' (fr' ++ fr) env ρ s'.heap := by
  obtain ⟨m, hns, hρ⟩ := F.ns
  have hO : ∀ b, nil b → Bare s.heap b := fun _ h => h.elim
  refine ⟨F.kind, F.glob, F.bi, List.mem_append_right _ F.lin, ⟨m, ns_same hns (G.sameAt hO S F.lin), fun x v hx => ?_⟩, fun x hx => ?_, fun n cl h => ⟨List.mem_append_right _ (F.cin n cl h).1, (F.cin n cl h).2⟩, F.apart⟩
  · rcases hρ x v hx with ⟨h1, cv, h2, h3⟩ | ⟨h1, cl, cv, h2, h3, h4⟩
    · exact .inl ⟨h1, cv, h2, h3.goIn S G hn⟩
    · exact .inr ⟨h1, cl, cv, h2, cell_same h3 (G.sameAt hO S (F.cin x cl h2).1), h4.goIn S G hn⟩
  · obtain ⟨cl, v, h1, h2⟩ := F.cell x hx
    exact ⟨cl, v, h1, cell_same h2 (G.sameAt hO S (F.cin x cl h1).1)⟩
theorem VR.extC {C : Addr} {h h' : Heap} {v : AV} {cv : Value} (x : VR ads (C :: fr) h v cv) (S : St base σ ads (C :: fr) h) (hs : Heap.ExtBut C h h') (hf : ∀ o vs, h.get? C = some o → o.data ≠ .fields vs) : VR ads fr h' v cv := by
  have hk : ∀ b o, h.get? b = some o → ¬ b = C → ∃ o', h'.get? b = some o' ∧ Same o o' := fun b o e nb => ⟨o, hs b o nb e, .refl _⟩
  have ht : ∀ a o vs n, h.get? a = some o → o.cls = .type "tuple" → o.data = .seq vs n → ¬ a = C := fun a o vs n e hc hd z => (S.tupleAt e hc hd).2 (z ▸ List.mem_cons_self)
  cases v with
  | dat d =>
    obtain ⟨as, r, hh⟩ := x
    exact ⟨as, reads_keep (P := (· = C)) hk ht _ _ _ r fun b hb z => (hh b hb).2 (z ▸ List.mem_cons_self), fun b hb => ⟨(hh b hb).1, fun z => (hh b hb).2 (List.mem_cons_of_mem _ z)⟩⟩
  | obj i => exact x
  | exc D => obtain ⟨a, o, vs, rfl, e, hc, hd, hn⟩ := x; exact ⟨a, o, vs, rfl, hs a o (fun z => hf o vs (z ▸ e) hd) e, hc, hd, hn⟩
  | val c => exact x
theorem FrR.extC {C : Addr} {h h' : Heap} (F : FrR ads (C :: fr) env ρ h) (S : St base σ ads (C :: fr) h) (hs : Heap.ExtBut C h h') (hf : ∀ o vs, h.get? C = some o → o.data ≠ .fields vs) (hC : ¬ Own env C) (lin : env.locals ∈ fr) (cin : ∀ n cl, env.cells.lookup n = some cl → cl ∈ fr) : FrR ads fr env ρ h' := by
  obtain ⟨m, hns, hρ⟩ := F.ns
  have nl : ∀ n cl, env.cells.lookup n = some cl → cl ≠ C := fun n cl h z => hC (.inr ⟨n, z ▸ h⟩)
  refine ⟨F.kind, F.glob, F.bi, lin, ⟨m, hns.extBut hs fun z => hC (.inl z.symm), fun x v hx => ?_⟩, fun x hx => ?_, fun n cl h => ⟨cin n cl h, (F.cin n cl h).2⟩, F.apart⟩
  · rcases hρ x v hx with ⟨h1, cv, h2, h3⟩ | ⟨h1, cl, cv, h2, ⟨o, h3, h3'⟩, h4⟩
    · exact .inl ⟨h1, cv, h2, h3.extC S hs hf⟩
    · exact .inr ⟨h1, cl, cv, h2, ⟨o, hs _ _ (nl x cl h2) h3, h3'⟩, h4.extC S hs hf⟩
  · obtain ⟨cl, v, h1, o, h2, h2'⟩ := F.cell x hx
    exact ⟨cl, v, h1, o, hs _ _ (nl x cl h1) h2, h2'⟩
theorem St.perm {fr₂ : List Addr} {h : Heap} (S : St base σ ads fr h) (hp : ∀ b, b ∈ fr₂ ↔ b ∈ fr) : St base σ ads fr₂ h := by
  refine ⟨S.stays, S.len, S.nodup, fun a ha => S.new a (ha.imp id (hp a).mp), fun i o a h1 h2 => ?_, fun b hb => S.frs b ((hp b).mp hb), fun a ha hb => S.dis a ha ((hp a).mp hb)⟩
  have x := S.obj i o a h1 h2
  cases o with
  | list xs => obtain ⟨items, as, hp', r, hh⟩ := x; exact ⟨items, as, hp', r, fun b hb => ⟨(hh b hb).1, fun q => (hh b hb).2 ((hp b).mp q)⟩⟩
  | dict kvs => obtain ⟨o, es, m, as, bs, e, hc, hd, r1, r2, hh⟩ := x; exact ⟨o, es, m, as, bs, e, hc, hd, r1, r2, fun b hb => ⟨(hh b hb).1, fun q => (hh b hb).2 ((hp b).mp q)⟩⟩
end

section
variable {c : Cx} {q t : Bool} {k : Nat} {sc : Scope} {ρ : Lo} {σ : AH} {Q : Fw → Lo → AH → Prop} {X : Addr → Lo → AH → Prop} {A : Around} {env : Env} {s s₁ : Shared} {ads fr : List Addr}
noncomputable def swapOk (scope sc : Scope) (y : Str) (l l' : Nat) : Bool := sc.kind == .function && sc.names.lookup y == some .local && l == l' && !(scope.names.any fun (n, k) => n == y && (k == .local || k == .cell))
/-- y = [.. for ..], y tracked from now on -/
theorem Ex.assignComp {scope : Scope} {x y : Str} {px py pos spos : Pos} {elt iter : Expr} {ifs : List Expr} (ok : compOk scope sc x = true) (hsw : swapOk scope sc y py.line pos.line = true)
    (h : EvI c true t k sc ρ σ iter (fun items Hs σ₁ => CompR c true k (relab scope sc) (seen scope ρ) x elt ifs Hs (fun xs σ₂ => Q .next (upd y (.obj σ₂.length) ρ) (σ₂ ++ [.list xs])) items [] σ₁) (fun C σ₁ => X C ρ σ₁))
    (hs : ∀ env v, foldedSetIterable iter env v = pure v := by intro _ _; rfl) :
    Ex c true t k sc ρ σ (.Assign [.Name y py] (.ListComp elt [⟨.Name x px, iter, ifs, 0⟩] scope pos) spos) Q X := fun A env s ads fr H => by
  have ok := CompOk.of ok
  unfold swapOk at hsw
  simp only [Bool.and_eq_true, beq_iff_eq] at hsw
  obtain ⟨⟨⟨hw1, hw2⟩, hw3⟩, hw4⟩ := hsw
  have hky : env.kindOf y = some .local := by rw [← H.sc] at hw2; exact hw2
  have hsw : swapsWith (.ListComp elt [⟨.Name x px, iter, ifs, 0⟩] scope pos) (some (.Name y py)) spos.line env = pure true := by
    have hbk : env.blockKind = .function := by unfold Env.blockKind; rw [H.sc, hw1]; rfl
    unfold swapsWith
    simp only [hbk, hky, hw4, Expr.pos, hw3, beq_self_eq_true, Bool.and_true]
  rw [exec_Assign_Name_used _ _ _ _ hsw]
  refine wpAny_bind (wpAny_standAt (wpAny_bind ?_))
  show wpAny _ A (do let _ ← comprehension (.ListComp elt [⟨.Name x px, iter, ifs, 0⟩] scope pos) scope env _ (newList []) false (eval iter env) (some (PySem.assign (.Name y py) env))) _ _ s
  refine wpAny_bind (wpAny_mono (wpAny_comprehension_free (use := some (PySem.assign (.Name y py) env)) (Q := fun _ s' => ExQ c ads fr env s Q .next s') rfl (hs env) (closureFor_eq (free_cells H ok)) ok.kind ok.names
    (wpAny_mono (h A env s ads fr H) (fun cv s₁ hq => wpAny_mono hq (fun ci s₂ hi => ?_) fun _ _ y => y.own H) fun _ _ y => y.own H)) (fun _ s' hq => wpAny_pure (wpAny_pure hq)) fun _ _ e => e)
  obtain ⟨items, Hs, σ₁, s₀, hC, hH, G, S, hI⟩ := hi
  have H₁ := H.go G S
  refine comp_core (RR := fun acc C => compPost c.M A _ (some (PySem.assign (.Name y py) env)) _ acc C) ok H₁ hI hH hC fun D C xs σ' s' hQ hD hCn hne G' S' A' hm => ?_
  obtain ⟨m, hm⟩ := hm
  obtain ⟨its, as, hp, r, hh⟩ := A'
  have live : ∀ b ∈ fr, ∃ o, s₀.heap.get? b = some o := fun b hb => let ⟨o, e, _⟩ := H₁.S.frs b hb; ⟨o, e⟩
  have nCf : C ∉ fr := fun z => by obtain ⟨o, e⟩ := live C z; rw [hCn] at e; cases e
  have nDf : D ∉ fr := fun z => by obtain ⟨o, e⟩ := live D z; rw [hD] at e; cases e
  have nCo : ¬ Own env C := fun z => nCf (H₁.F.own C z)
  have nDC : D ∉ C :: fr := fun z => (List.mem_cons.mp z).elim hne nDf
  have S₂ : St c.base (σ' ++ [.list xs]) (ads ++ [D]) (C :: fr) s'.heap := (S'.perm (fr₂ := D :: C :: fr) fun b => by simp only [List.mem_cons]; exact or_left_comm).track nDC hp r fun b hb => ⟨(hh b hb).1, fun z => (hh b hb).2 (by simp only [List.mem_cons] at z ⊢; exact or_left_comm.mp z)⟩
  have hCads : C ∉ ads := fun z => by obtain ⟨o, e, _⟩ := H₁.S.adAt z; rw [hCn] at e; cases e
  have G₂ : Go nil ads (ads ++ [D]) s₀ s' := ⟨G'.kp, G'.live, G'.rest, ⟨[D], rfl⟩, fun a ha => (List.mem_append.mp ha).imp id fun z => by rw [List.mem_singleton.mp z]; exact hD⟩
  have F₂ : FrR (ads ++ [D]) (C :: fr) env ρ s'.heap := H₁.F.goIn (fr' := [C]) H₁.S G₂ fun b hb => by rw [List.mem_singleton.mp hb]; exact hCn
  have R₂ : Rdy true t k A env (C :: fr) s'.heap := by
    have R := H₁.R.go H₁.S G₂
    obtain ⟨l, h1, h2⟩ := R.frames
    exact ⟨⟨R.depth, R.units, R.quiet, l, h1, fun e he => let ⟨h3, L, h4, h5, h6⟩ := h2 e he; ⟨h3, L, h4, List.mem_cons_of_mem _ h5, h6⟩⟩, R.top⟩
  have H₂ : Here c true t k sc ρ (σ' ++ [.list xs]) A env s' (ads ++ [D]) (C :: fr) := ⟨H.sc, R₂, F₂, S₂⟩
  have hl : σ'.length = ads.length := S'.len
  show wpAny _ A (PySem.assign (.Name y py) env (.ref D)) _ _ _
  refine wpAny_assign_Name (bind_wp H₂ (v := .obj σ'.length) (.inl hw2) ⟨D, by rw [hl]; simp, rfl⟩ fun s'' G'' H'' => ?_)
  have nCad : C ∉ ads ++ [D] := fun z => (List.mem_append.mp z).elim hCads fun z => hne (List.mem_singleton.mp z).symm
  have hm'' : s''.heap.Ns C m := ns_same hm fun o e => let ⟨o', e', h1, _⟩ := G''.kp C o e nCad; ⟨o', e', h1 nCo⟩
  refine ⟨m, hm'', fun h' hsb => ?_⟩
  have hf : ∀ o vs, s''.heap.get? C = some o → o.data ≠ .fields vs := fun o vs e z => by
    obtain ⟨o', es, ep, e', hd, _⟩ := hm''
    rw [e] at e'; cases e'; rw [hd] at z; cases z
  have Gt : Go (Own env) ads (ads ++ [D]) s s'' := (G.trans G₂).own.trans G''
  have Cs : s.heap.get? C = none := G.none hCn
  refine ⟨.next, _, _, ads ++ [D], hQ, ⟨fun b o e hb => ?_, fun b o e => ?_, ?_, Gt.pre, Gt.new⟩, H''.S.extC nCf hsb.extBut, H''.F.extC H''.S hsb.extBut hf nCo H.F.lin (fun n cl h => (H.F.cin n cl h).1), rfl⟩
  · obtain ⟨o', e', h1, h2⟩ := Gt.kp b o e hb
    exact ⟨o', hsb.extBut b o' (fun z => by rw [z, Cs] at e; cases e) e', h1, h2⟩
  · obtain ⟨o', e'⟩ := Gt.live b o e
    exact ⟨o', hsb.extBut b o' (fun z => by rw [z, Cs] at e; cases e) e'⟩
  · obtain ⟨h₅, tk, e⟩ := Gt.rest
    exact ⟨h', tk, by rw [e]⟩
end

-- Core33

section
variable {c : Cx} {q t : Bool} {k : Nat} {sc : Scope} {ρ : Lo} {σ : AH} {Qn : List PyData → AH → Prop} {Q : AV → AH → Prop} {X : Addr → AH → Prop}
end

-- Core34

/-! tables keyed by tuples of ints -/
noncomputable abbrev Mp := List (List Int × PyData)
noncomputable abbrev dOf (m : Mp) : List (PyData × PyData) := m.map fun p => (PyData.tuple (zs p.1), p.2)
noncomputable abbrev Dc (m : Mp) (n : Nat) : AO := .dict (dOf m) n
noncomputable def look (m : Mp) (k : List Int) : Option PyData := (m.find? fun p => decide (p.1 = k)).map (·.2)
noncomputable def put (m : Mp) (k : List Int) (v : PyData) : Mp := if (look m k).isSome then m.map (fun p => if p.1 = k then (p.1, v) else p) else m ++ [(k, v)]
noncomputable def cutK (m : Mp) (k : List Int) : Mp := m.filter fun p => decide (p.1 ≠ k)
noncomputable abbrev kT (p : Program) (w : World) := tupleKind (intKind p w)

section
variable {p : Program} {w : World} {h : Heap}
theorem items_of {h : Heap} : ∀ (k : List Int) (vs : List Value) (as : List Addr), ReadsAll h vs (zs k) as → ItemsAre (intKind p w) k vs ∧ as = []
  | [], vs, as, r => by cases r; exact ⟨.nil, rfl⟩
  | i :: k, vs, as, r => by
    cases r with
    | cons r1 r2 =>
      cases r1
      obtain ⟨h1, rfl⟩ := items_of k _ _ r2
      exact ⟨.cons (by simp [intKind, Value.isInt]) h1, rfl⟩
theorem zs_nil {h : Heap} : ∀ (k : List Int) (vs : List Value) (as : List Addr), ReadsAll h vs (zs k) as → as = []
  | [], vs, as, r => by cases r; rfl
  | i :: k, vs, as, r => by
    cases r with
    | cons r1 r2 => cases r1; rw [zs_nil k _ _ r2]; rfl
theorem of_items {h : Heap} {k : List Int} {vs : List Value} (x : ItemsAre (intKind p w) k vs) : ReadsAll h vs (zs k) [] := by
  induction x with
  | nil => exact .nil
  | cons h1 _ ih =>
    obtain ⟨t, rfl⟩ := Value.isInt_shape h1
    exact .cons (as := []) (.int _ _) ih
theorem key_of {v : Value} {k : List Int} {as : List Addr} (r : Reads h v (.tuple (zs k)) as) : ∃ a, v = .ref a ∧ IsTupleKey (intKind p w) h k a ∧ as = [] := by
  cases r with
  | tuple h1 h2 h3 h4 =>
    obtain ⟨x, rfl⟩ := items_of (p := p) (w := w) k _ _ h4
    exact ⟨_, rfl, ⟨_, _, _, h1, h2, h3, x⟩, rfl⟩
theorem of_key {a : Addr} {k : List Int} (x : IsTupleKey (intKind p w) h k a) : Reads h (.ref a) (.tuple (zs k)) [] := by
  obtain ⟨o, items, n, e, hc, hd, hi⟩ := x
  exact .tuple e hc hd (of_items hi)

theorem tab_lists (m : Mp) : ∀ (es : List DictEntry) (as : List Addr), ReadsAll h (es.map (·.key)) ((dOf m).map (·.1)) as → es.map (·.hash) = m.map (fun q => reduceHash (Builtin.Tuple.tupleHashOf (q.1.map hashInt))) →
    ∃ xs : List (List Int × Addr × Value), es = xs.map (entryOfKey (kT p w)) ∧ xs.map (·.1) = m.map (·.1) ∧ (∀ x ∈ xs, (kT p w).is h x.1 x.2.1) ∧ xs.map (·.2.2) = es.map (·.val) := by
  induction m with
  | nil =>
    intro es as r hh
    cases es with
    | nil => exact ⟨[], rfl, rfl, fun _ hx => (nomatch hx), rfl⟩
    | cons => simp at hh
  | cons q m ih =>
    intro es as r hh
    cases es with
    | nil => simp at hh
    | cons e es =>
      simp only [List.map_cons, List.cons.injEq] at hh
      change ReadsAll h (e.key :: es.map (·.key)) (PyData.tuple (zs q.1) :: (dOf m).map (·.1)) as at r
      cases r with
      | cons r1 r2 =>
        obtain ⟨a, ha, hk, _⟩ := key_of (p := p) (w := w) r1
        obtain ⟨xs, h1, h2, h3, h4⟩ := ih es _ r2 hh.2
        refine ⟨(q.1, a, e.val) :: xs, ?_, by simp [h2], fun x hx => ?_, by simp [h4]⟩
        · rw [List.map_cons, ← h1]
          congr 1
          obtain ⟨eh, ek, ev⟩ := e
          simp only at ha hh
          rw [ha, hh.1]; rfl
        · rcases List.mem_cons.mp hx with rfl | hx
          · exact hk
          · exact h3 x hx

theorem nodup_of {α : Type} {l : List (List Int)} {m : Mp} (h : (dOf m).map (·.1) = l.map fun k => PyData.tuple (k.map .int)) : m.map (·.1) = l := by
  induction m generalizing l with
  | nil => cases l with | nil => rfl | cons => simp at h
  | cons q m ih =>
    cases l with
    | nil => simp at h
    | cons k l =>
      simp only [List.map_cons, List.cons.injEq, PyData.tuple.injEq] at h
      have e : q.1 = k := (List.map_inj_right (f := PyData.int) (fun _ _ e => by injection e)).mp h.1
      rw [List.map_cons, e, ih h.2]

/-- what the library's rules want of a tracked table -/
theorem OR.tab {ads fr : List Addr} {m : Mp} {n : Nat} {a : Addr} (p : Program) (w : World) (x : OR ads fr h (Dc m n) a) : (a == sysModules) = false ∧ ∃ xs bs, h.DictOfH (kT p w) a xs ∧ xs.map (·.1) = m.map (·.1) ∧ ReadsAll h (xs.map (·.2.2)) (m.map (·.2)) bs ∧ ∀ b ∈ bs, b ∉ ads ∧ b ∉ fr := by
  obtain ⟨o, es, n, as, bs, e, ⟨c1, c2, c3, lo, _, ks, hk, hh, hn⟩, hd, r1, r2, hb⟩ := x
  have hk' := nodup_of (α := Unit) hk
  obtain ⟨xs, h1, h2, h3, h4⟩ := tab_lists (p := p) (w := w) m es.toList as r1 (by rw [hh, ← hk', List.map_map]; rfl)
  refine ⟨lo, xs, bs, ⟨o, es, n, e, ⟨c1, c2, c3⟩, hd, h1, h3, by rw [h2, hk']; exact hn⟩, h2, ?_, fun b hbb => hb b (List.mem_append_right _ hbb)⟩
  rw [h4]
  simpa [Function.comp_def] using r2
theorem keys_read {xs : List (List Int × Addr × Value)} {m : Mp} (hk : xs.map (·.1) = m.map (·.1)) (his : ∀ x ∈ xs, (kT p w).is h x.1 x.2.1) : ReadsAll h (xs.map fun x => Value.ref x.2.1) ((dOf m).map (·.1)) [] := by
  induction xs generalizing m with
  | nil => cases m with | nil => exact .nil | cons => simp at hk
  | cons x xs ih =>
    cases m with
    | nil => simp at hk
    | cons q m =>
      simp only [List.map_cons, List.cons.injEq] at hk
      show ReadsAll h (Value.ref x.2.1 :: xs.map fun x => Value.ref x.2.1) (PyData.tuple (zs q.1) :: (dOf m).map (·.1)) []
      refine .cons (as := []) ?_ (ih hk.2 fun y hy => his y (List.mem_cons_of_mem _ hy))
      rw [← hk.1]
      exact of_key (his x List.mem_cons_self)
theorem OR.ofTab {ads fr : List Addr} {m : Mp} {a : Addr} {xs : List (List Int × Addr × Value)} {bs : List Addr} (lo : (a == sysModules) = false) (hm : h.DictOfH (kT p w) a xs) (hk : xs.map (·.1) = m.map (·.1))
    (r : ReadsAll h (xs.map (·.2.2)) (m.map (·.2)) bs) (hb : ∀ b ∈ bs, b ∉ ads ∧ b ∉ fr) : ∃ n, OR ads fr h (Dc m n) a := by
  obtain ⟨o, es, n, e, ⟨c1, c2, c3⟩, hd, he, his, hn⟩ := hm
  refine ⟨n, o, es, n, [], bs, e, ⟨c1, c2, c3, lo, hd, m.map (·.1), by simp [Function.comp_def], ?_, by rw [← hk]; exact hn⟩, hd, ?_, ?_, fun b hbb => hb b (by simpa using hbb)⟩
  · rw [he, ← hk, List.map_map, List.map_map]; rfl
  · rw [he, List.map_map]
    exact keys_read hk his
  · rw [he, List.map_map]
    simpa [Function.comp_def, entryOfKey] using r

theorem OR.raw {ads fr : List Addr} {m : Mp} {n : Nat} {a : Addr} (x : OR ads fr h (Dc m n) a) : (a == sysModules) = false ∧ ∃ o es, h.get? a = some o ∧ o.ExactDict ∧ o.data = .dict es n ∧ ReadsAll h (es.toList.map (·.key)) (m.map fun p => PyData.tuple (zs p.1)) [] := by
  obtain ⟨o, es, n, as, bs, e, ⟨c1, c2, c3, lo, hd', ks, hk, hh, hn⟩, hd, r1, r2, hb⟩ := x
  have e0 : ∀ (m : Mp) (vs : List Value) (as : List Addr), ReadsAll h vs (m.map fun p => PyData.tuple (zs p.1)) as → as = [] := by
    intro m
    induction m with
    | nil => intro vs as r; cases r; rfl
    | cons q m ih =>
      intro vs as r
      rw [List.map_cons] at r
      cases r with
      | cons r1 r2 =>
        cases r1 with | tuple h1 h2 h3 h4 => rw [ih _ _ r2, zs_nil _ _ _ h4]; rfl
  have r1' : ReadsAll h (es.toList.map (·.key)) (m.map fun p => PyData.tuple (zs p.1)) as := by simpa [Function.comp_def] using r1
  rw [e0 _ _ _ r1'] at r1'
  exact ⟨lo, o, es, e, ⟨c1, c2, c3⟩, hd', r1'⟩
/-- a key's value -/
theorem look_at {k : List Int} {m : Mp} {xs : List (List Int × Addr × Value)} {bs : List Addr} (hk : xs.map (·.1) = m.map (·.1)) (r : ReadsAll h (xs.map (·.2.2)) (m.map (·.2)) bs) :
    (∀ d, look m k = some d → ∃ q as, atKey xs k = some q ∧ Reads h q.2 d as ∧ ∀ b ∈ as, b ∈ bs) ∧ (look m k = none → atKey xs k = none) := by
  induction m generalizing xs bs with
  | nil => cases xs with
    | nil => exact ⟨fun d hd => by simp [look] at hd, fun _ => rfl⟩
    | cons => simp at hk
  | cons q m ih =>
    cases xs with
    | nil => simp at hk
    | cons x xs =>
      simp only [List.map_cons, List.cons.injEq] at hk
      rw [List.map_cons, List.map_cons] at r
      cases r with
      | cons r1 r2 =>
        obtain ⟨i1, i2⟩ := ih hk.2 r2
        by_cases e : q.1 = k
        · refine ⟨fun d hd => ?_, fun hd => ?_⟩
          · simp [look, e] at hd
            subst hd
            exact ⟨x.2, _, by simp [atKey, hk.1, e], r1, fun b hb => List.mem_append_left _ hb⟩
          · simp [look, e] at hd
        · have e1 : look (q :: m) k = look m k := by simp [look, e]
          have e2 : atKey (x :: xs) k = atKey xs k := by simp [atKey, hk.1, e]
          rw [e1, e2]
          refine ⟨fun d hd => ?_, i2⟩
          obtain ⟨q', as, a1, a2, a3⟩ := i1 d hd
          exact ⟨q', as, a1, a2, fun b hb => List.mem_append_right _ (a3 b hb)⟩
theorem look_some {k : List Int} {m : Mp} {xs : List (List Int × Addr × Value)} {bs : List Addr} (hk : xs.map (·.1) = m.map (·.1)) (r : ReadsAll h (xs.map (·.2.2)) (m.map (·.2)) bs) : (atKey xs k).isSome = (look m k).isSome := by
  obtain ⟨i1, i2⟩ := look_at (k := k) hk r
  cases e : look m k with
  | none => rw [i2 e]; rfl
  | some d => obtain ⟨q, as, a1, _⟩ := i1 d e; rw [a1]; rfl

/-- a value stored -/
theorem put_old {k : List Int} {m : Mp} {xs : List (List Int × Addr × Value)} {bs vs : List Addr} {v : Value} {d : PyData} (hk : xs.map (·.1) = m.map (·.1)) (r : ReadsAll h (xs.map (·.2.2)) (m.map (·.2)) bs) (rv : Reads h v d vs) :
    (xs.map (putAt k v)).map (·.1) = (m.map fun p => if p.1 = k then (p.1, d) else p).map (·.1) ∧ ∃ cs, ReadsAll h ((xs.map (putAt k v)).map (·.2.2)) ((m.map fun p => if p.1 = k then (p.1, d) else p).map (·.2)) cs ∧ ∀ b ∈ cs, b ∈ bs ∨ b ∈ vs := by
  induction m generalizing xs bs with
  | nil => cases xs with
    | nil => exact ⟨rfl, [], .nil, fun _ hb => nomatch hb⟩
    | cons => simp at hk
  | cons q m ih =>
    cases xs with
    | nil => simp at hk
    | cons x xs =>
      simp only [List.map_cons, List.cons.injEq] at hk
      rw [List.map_cons, List.map_cons] at r
      cases r with
      | cons r1 r2 =>
        obtain ⟨i1, cs, i2, i3⟩ := ih hk.2 r2
        by_cases e : q.1 = k
        · have e1 : putAt k v x = (x.1, x.2.1, v) := by simp [putAt, hk.1, e]
          refine ⟨?_, vs ++ cs, ?_, fun b hb => (List.mem_append.mp hb).elim .inr fun z => (i3 b z).imp (List.mem_append_right _) id⟩
          · simp only [List.map_cons, e1, if_pos e]; rw [i1, hk.1]
          · simp only [List.map_cons, e1, if_pos e]; exact .cons rv i2
        · have e1 : putAt k v x = x := by simp [putAt, hk.1, e]
          refine ⟨?_, _, ?_, fun b hb => (List.mem_append.mp hb).elim (fun z => .inl (List.mem_append_left _ z)) fun z => (i3 b z).imp (List.mem_append_right _) id⟩
          · simp only [List.map_cons, e1, if_neg e]; rw [i1, hk.1]
          · simp only [List.map_cons, e1, if_neg e]; exact .cons r1 i2
theorem put_at {k : List Int} {m : Mp} {xs : List (List Int × Addr × Value)} {bs vs : List Addr} {a : Addr} {v : Value} {d : PyData} (hk : xs.map (·.1) = m.map (·.1)) (r : ReadsAll h (xs.map (·.2.2)) (m.map (·.2)) bs) (rv : Reads h v d vs) :
    (storedH xs k a v).map (·.1) = (put m k d).map (·.1) ∧ ∃ cs, ReadsAll h ((storedH xs k a v).map (·.2.2)) ((put m k d).map (·.2)) cs ∧ ∀ b ∈ cs, b ∈ bs ∨ b ∈ vs := by
  unfold storedH put
  rw [look_some hk r]
  split
  · exact put_old hk r rv
  · refine ⟨by simp [hk], bs ++ vs, ?_, fun b hb => List.mem_append.mp hb⟩
    rw [List.map_append, List.map_append]
    exact readsAll_snoc r rv
end

-- Core35

section
variable {c : Cx} {q t : Bool} {k : Nat} {sc : Scope} {ρ : Lo} {σ : AH} {A : Around} {env : Env} {s s₁ : Shared} {ads fr : List Addr} {Q : AV → AH → Prop} {X : Addr → AH → Prop}

/-- a tracked object becomes another -/
theorem St.setO {h' : Heap} {tk : Nat} {i : Nat} {o₀ o' : AO} {a : Addr} (S : St c.base σ ads fr s.heap) (hx : σ[i]? = some o₀) (ha : ads[i]? = some a) (hs : Heap.SameBut a s.heap h') (hO : OR ads fr h' o' a) :
    Go nil ads ads s { s with heap := h', toks := tk } ∧ St c.base (σ.set i o') ads fr h' := by
  have ham : a ∈ ads := List.mem_of_getElem? ha
  have hk : ∀ b o, s.heap.get? b = some o → ¬ b ∈ ads → ∃ o', h'.get? b = some o' ∧ Same o o' := fun b o e nb => ⟨o, (hs.2 b fun z => nb (z ▸ ham)).trans e, .refl _⟩
  have ht : ∀ b o vs n, s.heap.get? b = some o → o.cls = .type "tuple" → o.data = .seq vs n → ¬ b ∈ ads := fun b o vs n e hc hd => (S.tupleAt e hc hd).1
  have hi : i < ads.length := (List.getElem?_eq_some_iff.mp ha).1
  refine ⟨⟨fun b o e nb => ⟨o, (hs.2 b fun z => nb (z ▸ ham)).trans e, fun _ => .refl _, .of_data rfl⟩, fun b o e => ?_, ⟨h', tk, rfl⟩, ⟨[], by simp⟩, fun _ z => .inl z⟩, ⟨fun b o e => ?_, by simp [S.len], S.nodup, S.new, fun j o b h1 h2 => ?_, fun b hb => ?_, S.dis⟩⟩
  · by_cases hb : b = a
    · obtain ⟨ob, e', _⟩ := hO.there; exact ⟨_, hb ▸ e'⟩
    · exact ⟨o, (hs.2 b hb).trans e⟩
  · exact (hs.2 b fun z => by rw [z, S.new a (.inl ham)] at e; cases e).trans (S.stays b o e)
  · by_cases hj : j = i
    · subst hj
      rw [List.getElem?_set_self (by rw [S.len]; exact hi)] at h1
      rw [ha] at h2
      cases h1; cases h2
      exact hO
    · rw [List.getElem?_set_ne (fun z => hj z.symm)] at h1
      have hne : b ≠ a := fun z => by
        subst z
        have hj' : j < ads.length := (List.getElem?_eq_some_iff.mp h2).1
        have e1 := (List.getElem?_eq_some_iff.mp h2).2
        have e2 := (List.getElem?_eq_some_iff.mp ha).2
        exact hj ((List.getElem_inj (h₀ := hj') (h₁ := hi) S.nodup).mp (e1.trans e2.symm))
      have x := S.obj j o b h1 h2
      cases o with
      | list zs =>
        obtain ⟨its, bs, ⟨n, e⟩, r', hh'⟩ := x
        exact ⟨its, bs, ⟨n, (hs.2 b hne).trans e⟩, readsAll_keep (P := (· ∈ ads)) hk ht _ _ _ r' fun b hb => (hh' b hb).1, hh'⟩
      | dict kvs =>
        obtain ⟨o, es, n, bs, ds, e, hc, hd, r1, r2, hh'⟩ := x
        exact ⟨o, es, n, bs, ds, (hs.2 b hne).trans e, hc, hd, readsAllP_keep (P := (· ∈ ads)) hk ht _ _ _ r1 (fun b hb => (hh' b (List.mem_append_left _ hb)).1), readsAllQ_keep (P := (· ∈ ads)) hk ht _ _ _ r2 (fun b hb => (hh' b (List.mem_append_right _ hb)).1), hh'⟩
  · obtain ⟨o, e, f⟩ := S.frs b hb
    exact ⟨o, (hs.2 b fun z => S.dis a ham (z ▸ hb)).trans e, f⟩
/-- an object is tracked -/
theorem St.trackO {base h : Heap} {D : Addr} {o' : AO} (S : St base σ ads (D :: fr) h) (hD : D ∉ fr) (hO : OR (ads ++ [D]) fr h o' D) : St base (σ ++ [o']) (ads ++ [D]) fr h := by
  have nD : D ∉ ads := fun z => S.dis D z List.mem_cons_self
  have up : ∀ bs : List Addr, (∀ b ∈ bs, b ∉ ads ∧ b ∉ D :: fr) → ∀ b ∈ bs, b ∉ ads ++ [D] ∧ b ∉ fr := fun bs hb b hm =>
    ⟨fun z => (List.mem_append.mp z).elim (hb b hm).1 fun z => (hb b hm).2 (by rw [List.mem_singleton.mp z]; exact List.mem_cons_self), fun z => (hb b hm).2 (List.mem_cons_of_mem _ z)⟩
  refine ⟨S.stays, by simp [S.len], ?_, fun a ha => ?_, fun i o a h1 h2 => ?_, fun a ha => S.frs a (List.mem_cons_of_mem _ ha), fun a ha hb => ?_⟩
  · refine List.nodup_append.mpr ⟨S.nodup, List.nodup_cons.mpr ⟨List.not_mem_nil, List.nodup_nil⟩, fun x hx y hy e => ?_⟩
    rw [List.mem_singleton.mp hy] at e; exact nD (e ▸ hx)
  · rcases ha with ha | ha
    · exact (List.mem_append.mp ha).elim (fun z => S.new a (.inl z)) fun z => S.new a (.inr (by rw [List.mem_singleton.mp z]; exact List.mem_cons_self))
    · exact S.new a (.inr (List.mem_cons_of_mem _ ha))
  · by_cases hi : i < ads.length
    · rw [List.getElem?_append_left hi] at h2
      rw [List.getElem?_append_left (by rw [S.len]; exact hi)] at h1
      have x := S.obj i o a h1 h2
      cases o with
      | list ys => obtain ⟨items, bs, hp, r, hh⟩ := x; exact ⟨items, bs, hp, r, up bs hh⟩
      | dict kvs => obtain ⟨o, es, m, as, bs, e, hc, hd, r1, r2, hh⟩ := x; exact ⟨o, es, m, as, bs, e, hc, hd, r1, r2, up _ hh⟩
    · have hlen : i < (ads ++ [D]).length := (List.getElem?_eq_some_iff.mp h2).1
      have e : i = ads.length := by simp at hlen; omega
      subst e
      rw [List.getElem?_append_right (Nat.le_refl _)] at h2
      rw [List.getElem?_append_right (by rw [S.len]; exact Nat.le_refl _), S.len] at h1
      simp at h1 h2
      subst h1 h2
      exact hO
  · exact (List.mem_append.mp ha).elim (fun z => S.dis a z (List.mem_cons_of_mem _ hb)) fun z => hD (by rw [← List.mem_singleton.mp z]; exact hb)
/-- data stands where a tracked object becomes another -/
theorem reads_set {h' : Heap} {i : Nat} {a : Addr} {vs : List Value} {ds : List PyData} {as : List Addr} (S : St c.base σ ads fr s.heap) (ha : ads[i]? = some a) (hs : Heap.SameBut a s.heap h') (r : ReadsAll s.heap vs ds as) (hh : ∀ b ∈ as, b ∉ ads ∧ b ∉ fr) : ReadsAll h' vs ds as := by
  have ham : a ∈ ads := List.mem_of_getElem? ha
  exact readsAll_keep (P := (· ∈ ads)) (fun b o e nb => ⟨o, (hs.2 b fun z => nb (z ▸ ham)).trans e, .refl _⟩) (fun b o vs n e hc hd => (S.tupleAt e hc hd).1) _ _ _ r fun b hb => (hh b hb).1

/-! asked, read -/
theorem Pr.inD {i : Nat} {m : Mp} {n : Nat} {k' : List Int} (hi : σ[i]? = some (Dc m n)) (h : Q (B (look m k').isSome) σ) : Pr c q k σ (f2 (compareOp .In)) [T (zs k'), .obj i] Q X := .of2 fun A s ads fr L cx cy R S Vx Vy => by
  obtain ⟨as, rx, _⟩ := Vx
  obtain ⟨a, rfl, hk, _⟩ := key_of (p := c.prog) (w := c.w) rx
  obtain ⟨d, hd, rfl⟩ := Vy
  obtain ⟨lo, xs, bs, hm, hkk, r, _⟩ := (S.obj i _ d hi hd).tab c.prog c.w
  refine wpAny_in_heap (tupleKind_room_in1 (by have := R.units; omega)) hk lo hm ?_
  rw [look_some hkk r]
  exact .here (v := B _) S (Grow.tok s _) ⟨[], .bool _, fun _ ha => nomatch ha⟩ h
theorem Pr.notInD {i : Nat} {m : Mp} {n : Nat} {k' : List Int} (hi : σ[i]? = some (Dc m n)) (h : Q (B (!(look m k').isSome)) σ) : Pr c q k σ (f2 (compareOp .NotIn)) [T (zs k'), .obj i] Q X := .of2 fun A s ads fr L cx cy R S Vx Vy => by
  obtain ⟨as, rx, _⟩ := Vx
  obtain ⟨a, rfl, hk, _⟩ := key_of (p := c.prog) (w := c.w) rx
  obtain ⟨d, hd, rfl⟩ := Vy
  obtain ⟨lo, xs, bs, hm, hkk, r, _⟩ := (S.obj i _ d hi hd).tab c.prog c.w
  refine wpAny_notIn_heap (tupleKind_room_in1 (by have := R.units; omega)) hk lo hm ?_
  rw [look_some hkk r]
  exact .here (v := B _) S (Grow.tok s _) ⟨[], .bool _, fun _ ha => nomatch ha⟩ h
theorem Pr.itemD {value slice : Expr} {i : Nat} {m : Mp} {n : Nat} {k' : List Int} {d : PyData} (hi : σ[i]? = some (Dc m n)) (hl : look m k' = some d) (h : Q (.dat d) σ)
    (hs : ∀ a b, subscripted slice false (.ref a) (.ref b) = operate [.ref a, .ref b] (getItem (.ref a) (.ref b)) := by intro _ _; with_unfolding_all rfl) (hg : ∀ a r, letTemporaryGo value (.ref a) r = pure () := by intro _ _; rfl) :
    Pr c q k σ (f2 (subscriptTail value slice)) [.obj i, T (zs k')] Q X := .of2 fun A s ads fr L cx cy R S Vx Vy => by
  obtain ⟨as, ry, _⟩ := Vy
  obtain ⟨a, rfl, hk, _⟩ := key_of (p := c.prog) (w := c.w) ry
  obtain ⟨b, hb, rfl⟩ := Vx
  obtain ⟨lo, xs, bs, hm, hkk, r, hbs⟩ := (S.obj i _ b hi hb).tab c.prog c.w
  obtain ⟨p, as', hp, rd, hin⟩ := (look_at (k := k') hkk r).1 d hl
  exact subscriptTail_builtin hm.typeIs slot_dict_getitem.lookup (wpAny_getItem_heap (tupleKind_room_in1 (by have := R.units; omega)) hk hm hp
    (.here (v := .dat d) S (Grow.tok s _) ⟨as', rd, fun z hz => hbs z (hin z hz)⟩ h)) (hs _ _) (hg _)
end

section
variable {c : Cx} {q t : Bool} {k : Nat} {sc : Scope} {ρ : Lo} {σ : AH} {Q : Fw → Lo → AH → Prop} {X : Addr → Lo → AH → Prop}
/-- x[e] = e', x a table -/
theorem Ex.storeD {x : Str} {p pos' pos : Pos} {ix value : Expr} {i : Nat} (hv : ρ.lookup x = some (.obj i))
    (h : Ev c q t k sc ρ σ value (fun v σ₁ => ∃ d, v = .dat d ∧ Ev c q t k sc ρ σ₁ ix (fun u σ₂ => ∃ (k' : List Int) (m : Mp) (n : Nat), u = T (zs k') ∧ σ₂[i]? = some (Dc m n) ∧ m.length ≤ sizeLine ∧ ∀ n', Q .next ρ (σ₂.set i (Dc (put m k' d) n'))) (fun C σ₁ => X C ρ σ₁)) (fun C σ₁ => X C ρ σ₁))
    (hs : ∀ env, swapsWith value (some (.Subscript (.Name x p) ix pos')) pos.line env = pure false := by intro _; rfl) (hd : (x == ("__debug__" : Str)) = false := by rfl) (hn : (x == ("__classdict__" : Str)) = false := by rfl) :
    Ex c q t k sc ρ σ (.Assign [.Subscript (.Name x p) ix pos'] value pos) Q X := fun A env s ads fr H => by
  refine wpAny_Assign_Subscript (wpAny_mono (h.at H) (fun cv s₁ hq => ?_) fun _ _ z => z.own H) (hs env)
  obtain ⟨v, σ₁, ⟨d, rfl, h'⟩, G₁, S₁, V₁⟩ := hq
  have H₁ := H.go G₁ S₁
  refine wpAny_mono ((Ev.nm (Q := fun v σ' => v = .obj i ∧ σ' = σ₁) (X := NoX) hv ⟨rfl, rfl⟩ hd hn).at H₁) (fun ov s₂ hq => ?_) fun _ _ z => by obtain ⟨_, _, _, _, z, _⟩ := z; exact z.elim
  obtain ⟨v, σ', ⟨rfl, rfl⟩, G₂, S₂, a, ha, rfl⟩ := hq
  have H₂ := H₁.go G₂ S₂
  have V₂ := V₁.go S₁ G₂ fun _ z => z.elim
  refine wpAny_mono (h'.at H₂) (fun cj s₃ hq => ?_) fun _ _ z => ((z.trans (G₁.trans G₂)).own H)
  obtain ⟨v, σ₃, ⟨k', m, n, rfl, hx, hz, hQ⟩, G₃, S₃, V₃⟩ := hq
  have H₃ := H₂.go G₃ S₃
  obtain ⟨vs, rv, hvs⟩ := V₂.go S₂ G₃ fun _ z => z.elim
  obtain ⟨_, rj, _⟩ := V₃
  obtain ⟨b, rfl, hk, _⟩ := key_of (p := c.prog) (w := c.w) rj
  obtain ⟨lo, xs, bs, hm, hkk, r, hbs⟩ := (S₃.obj i _ a hx ha).tab c.prog c.w
  have hlen : xs.length = m.length := by have := congrArg List.length hkk; simpa using this
  refine wpAny_setItem_heap (tupleKind_room_in1 (by have := H₃.R.units; omega)) hk hm (fun h' hm' hsb => ?_) (by omega)
  obtain ⟨e1, cs, r', hcs⟩ := put_at (k := k') (a := b) hkk r rv
  have hcs' : ∀ z ∈ cs, z ∉ ads ∧ z ∉ fr := fun z hz => (hcs z hz).elim (hbs z) (hvs z)
  obtain ⟨n', hO⟩ := OR.ofTab (ads := ads) (fr := fr) lo hm' e1 (reads_set S₃ ha hsb r' hcs') hcs'
  obtain ⟨G₄, S₄⟩ := S₃.setO (tk := s₃.toks + (kT c.prog c.w).draws k') hx ha hsb hO
  exact ⟨.next, ρ, _, ads, hQ n', (G₁.trans (G₂.trans (G₃.trans G₄))).own, S₄, (H₃.go G₄ S₄).F, rfl⟩

/-- x = {} -/
theorem Ex.assignDict (g : Gd c) {x : Str} {p pos dp : Pos} (hk : sc.names.lookup x = some .local ∨ sc.names.lookup x = some .cell) (h : ∀ n, Q .next (upd x (.obj σ.length) ρ) (σ ++ [Dc [] n]))
    (hs : ∀ env, swapsWith (.Dict [] [] dp) (some (.Name x p)) pos.line env = pure false := by intro _; rfl) : Ex c q t k sc ρ σ (.Assign [.Name x p] (.Dict [] [] dp) pos) Q X := fun A env s ads fr H => by
  refine wpAny_Assign_Name (wpAny_Dict_empty ?_) (hs env)
  have hnew : s.heap.get? s.heap.objs.size = none := Heap.get?_none_of_le (Nat.le_refl _)
  have G := Grow.push s { cls := .type "dict", data := .dict #[] } s.toks
  have hlt : mainGlobals < s.heap.objs.size := (g.g.keeps H.S.stays).lt
  have hlo : (s.heap.objs.size == sysModules) = false := beq_eq_false_iff_ne.mpr fun z => by rw [z] at hlt; exact absurd hlt (by decide)
  have nf : s.heap.objs.size ∉ fr := fun z => by obtain ⟨o, e, _⟩ := H.S.frs _ z; rw [hnew] at e; cases e
  have S₁ : St c.base σ ads (s.heap.objs.size :: fr) (s.heap.push { cls := .type "dict", data := .dict #[] }) := by
    refine (H.S.grow G).inner (fr' := [s.heap.objs.size]) (h₀ := s.heap) H.S.stays H.S (fun b hb => by rw [List.mem_singleton.mp hb]; exact hnew) (fun b hb => ?_) H.S.obj fun b o e => Heap.get?_push_of_some _ e
    rw [List.mem_singleton.mp hb]
    exact ⟨_, Heap.get?_push_size _ rfl, .inl ⟨_, _, rfl⟩⟩
  obtain ⟨n, hO⟩ := OR.ofTab (ads := ads ++ [s.heap.objs.size]) (fr := fr) (p := c.prog) (w := c.w) (m := []) hlo (Heap.DictOfH.new s.heap) rfl .nil fun _ hb => nomatch hb
  have S₂ := S₁.trackO nf hO
  have G₁ : Go nil ads (ads ++ [s.heap.objs.size]) s { s with heap := s.heap.push { cls := .type "dict", data := .dict #[] } } := by
    have G' := G.go nil ads
    exact ⟨G'.kp, G'.live, G'.rest, ⟨[s.heap.objs.size], rfl⟩, fun a ha => (List.mem_append.mp ha).imp id fun z => by rw [List.mem_singleton.mp z]; exact hnew⟩
  have H₁ : Here c q t k sc ρ (σ ++ [Dc [] n]) A env { s with heap := s.heap.push { cls := .type "dict", data := .dict #[] } } (ads ++ [s.heap.objs.size]) fr := ⟨H.sc, H.R.go H.S G₁, H.F.go H.S G₁, S₂⟩
  have hl : σ.length = ads.length := H.S.len
  refine bind_wp H₁ (v := .obj σ.length) hk ⟨s.heap.objs.size, by rw [hl]; simp, rfl⟩ fun s' G' H' => ⟨.next, _, _, _, h n, G₁.own.trans G', H'.S, H'.F, rfl⟩
end

-- Core36

/-! a table gone through -/
section
variable {prog : Program} {w : World} {A : Around} {E : Value → Shared → Prop} {s : Shared} {d it : Addr} {o : Obj} {es : Array DictEntry} {ep : Nat}
theorem iterE {Q : Value → Shared → Prop} (hd : (d == sysModules) = false) (ho : s.heap.get? d = some o) (hc : o.ExactDict) (hdat : o.data = .dict es ep)
    (hQ : Q (.ref s.heap.objs.size) { s with heap := s.heap.push { cls := .type "dict_keyiterator", data := .fields #[.ref d, .int 0 0, .int es.size 0, .int ep 0] } }) :
    wpAny (model prog w) A (pyIter (.ref d)) Q E s := by
  have hT : s.TypeIs (.ref d) "dict" := ⟨o, ho, hc.1⟩
  refine wpAny_pyIter_slot hT F.slot_dict_iter (wpAny_call_entry F.slot_dict_iter hT F.entry_dict_iter ?_ (F.args_dict_iter_1 _))
  unfold Builtin.«dict.__iter__»
  refine wpAny_bind ?_
  unfold Builtin.Dict.dictSlotNone
  refine wpAny_bind (wpAny_notOrdered_dict hT ?_)
  show wpAny _ _ (pure (Value.ref d)) _ _ s
  refine wpAny_pure ?_
  show wpAny _ _ (Builtin.Dict.showsAll d >>= _) _ _ s
  unfold Builtin.Dict.showsAll
  rw [if_neg (by rw [hd]; exact Bool.false_ne_true)]
  refine wpAny_bind (wpAny_pure (wpAny_bind (wpAny_dictEntries ho hdat (wpAny_bind (wpAny_dictEpoch ho hdat ?_)))))
  refine wpAny_bind (wpAny_newObj_type (wpAny_pure ⟨_, rfl, "dict_keyiterator", _, ⟨_, Heap.get?_push_size _ rfl, rfl⟩, F.slot_dict_keyiterator_next.lookup, ?_⟩))
  simpa [rawInt] using hQ
theorem nextE {i : Nat} {v : Value} {Q : Option Value → Shared → Prop} (hit : s.heap.IsKeyIter it d i es.size ep) (hod : s.heap.get? d = some o) (hdd : o.data = .dict es ep) (hx : (es.toList.map (·.key))[i]? = some v)
    (hQ : ∀ h', h'.IsKeyIter it d (i + 1) es.size ep → Heap.SameBut it s.heap h' → Q (some v) { s with heap := h' }) : wpAny (model prog w) A (pyNext (.ref it)) Q E s := by
  obtain ⟨oi, ho, hc, hd⟩ := id hit
  have hlt : i < es.size := by
    rcases Nat.lt_or_ge i es.size with h | h
    · exact h
    · rw [List.getElem?_eq_none (by simpa using h)] at hx; cases hx
  have hv : es[i].key = v := by simpa [hlt] using hx
  unfold pyNext
  refine wpAny_bind (wpAny_attempt (wpAny_callSpecial?_slot (name := Str.ofString "__next__") hit.typeIs F.slot_dict_keyiterator_next
    (wpAny_call_entry F.slot_dict_keyiterator_next hit.typeIs F.entry_dict_keyiterator_next ?_ (F.args_dict_keyiterator_next_1 _))))
  refine wpAny_bind (wpAny_pure (wpAny_bind (wpAny_bind ?_)))
  first | refine wpAny_bind (wpAny_typeNameOfWhole_keyiter hit.typeIs (wpAny_pure ?_)) | refine wpAny_bind (wpAny_typeNameOf_keyiter hit.typeIs (wpAny_pure ?_))
  refine wpAny_bind (wpAny_fieldsOf ho hd ?_)
  have hown : Builtin.Dict_items.ownsTuple "dict_keyiterator" = false := by decide
  simp only [hown, Bool.false_eq_true, if_false]
  show wpAny _ _ (if (Value.ref d == Value.none) = true then _ else _) _ _ s
  rw [if_neg (show ¬ ((Value.ref d == Value.none) = true) from Bool.false_ne_true)]
  refine wpAny_bind (wpAny_pure (wpAny_bind (wpAny_dictEntries hod hdd ?_)))
  rw [if_neg (by simp)]
  refine wpAny_bind (wpAny_pure (wpAny_bind (wpAny_dictEpoch hod hdd ?_)))
  rw [if_neg (by simp)]
  refine wpAny_pure ?_
  simp only [show ¬ ((i : Int) < 0) from by omega, if_false, Int.toNat_natCast, Array.getElem?_eq_getElem hlt]
  refine wpAny_bind ?_
  first | refine wpAny_bind (wpAny_typeNameOfWhole_keyiter hit.typeIs (wpAny_pure ?_)) | refine wpAny_bind (wpAny_typeNameOf_keyiter hit.typeIs (wpAny_pure ?_))
  refine wpAny_bind (wpAny_isOneOf_keyiter hit.typeIs ?_)
  show wpAny _ _ (setField (.ref it) 1 (rawInt ((i : Int) + 1)) >>= _) _ _ s
  refine wpAny_bind (wpAny_setField ho hd (by simp) ?_)
  have hit' : (s.heap.update it (Obj.mapFields (·.setIfInBounds 1 (rawInt ((i : Int) + 1))))).IsKeyIter it d (i + 1) es.size ep :=
    ⟨_, Heap.get?_update_self _ ho (Obj.isFreed_of_fields (Obj.data_mapFields hd _)), (Obj.cls_mapFields ..).trans hc, by rw [Obj.data_mapFields hd]; simp [rawInt]⟩
  refine wpAny_bind (wpAny_holding ?_)
  refine wpAny_bind (wpAny_isOneOf_keyiter (s := { s with heap := s.heap.update it (Obj.mapFields (·.setIfInBounds 1 (rawInt ((i : Int) + 1)))) }) hit'.typeIs ?_)
  show wpAny _ _ (pure es[i].key) _ _ _
  rw [hv]
  exact wpAny_pure (wpAny_pure ⟨_, rfl, wpAny_pure (hQ _ hit' (Heap.SameBut.update ..))⟩)
theorem stopE {i : Nat} {Q : Option Value → Shared → Prop} (hh : A.handled = none) (hit : s.heap.IsKeyIter it d i es.size ep) (hod : s.heap.get? d = some o) (hdd : o.data = .dict es ep) (hge : es.size ≤ i)
    (hQ : ∀ h', Heap.ExtBut it s.heap h' → Q none { s with heap := h' }) : wpAny (model prog w) A (pyNext (.ref it)) Q E s := by
  obtain ⟨oi, ho, hc, hd⟩ := id hit
  unfold pyNext
  refine wpAny_bind (wpAny_attempt (wpAny_callSpecial?_slot (name := Str.ofString "__next__") hit.typeIs F.slot_dict_keyiterator_next
    (wpAny_call_entry F.slot_dict_keyiterator_next hit.typeIs F.entry_dict_keyiterator_next ?_ (F.args_dict_keyiterator_next_1 _))))
  refine wpAny_bind (wpAny_pure (wpAny_bind (wpAny_bind ?_)))
  first | refine wpAny_bind (wpAny_typeNameOfWhole_keyiter hit.typeIs (wpAny_pure ?_)) | refine wpAny_bind (wpAny_typeNameOf_keyiter hit.typeIs (wpAny_pure ?_))
  refine wpAny_bind (wpAny_fieldsOf ho hd ?_)
  have hown : Builtin.Dict_items.ownsTuple "dict_keyiterator" = false := by decide
  simp only [hown, Bool.false_eq_true, if_false]
  show wpAny _ _ (if (Value.ref d == Value.none) = true then _ else _) _ _ s
  rw [if_neg (show ¬ ((Value.ref d == Value.none) = true) from Bool.false_ne_true)]
  refine wpAny_bind (wpAny_pure (wpAny_bind (wpAny_dictEntries hod hdd ?_)))
  rw [if_neg (by simp)]
  refine wpAny_bind (wpAny_pure (wpAny_bind (wpAny_dictEpoch hod hdd ?_)))
  rw [if_neg (by simp)]
  refine wpAny_pure ?_
  simp only [show ¬ ((i : Int) < 0) from by omega, if_false, Int.toNat_natCast, Array.getElem?_eq_none hge]
  refine wpAny_bind ?_
  first | refine wpAny_bind (wpAny_typeNameOfWhole_keyiter hit.typeIs (wpAny_pure ?_)) | refine wpAny_bind (wpAny_typeNameOf_keyiter hit.typeIs (wpAny_pure ?_))
  show wpAny _ _ (setField (.ref it) 0 .none >>= _) _ _ s
  refine wpAny_bind (wpAny_setField ho hd (by simp) ?_)
  show wpAny _ _ (newExc (.type "StopIteration") [] >>= _) _ _ _
  refine wpAny_bind ?_
  simp only [newExc, newTuple]
  refine wpAny_bind (wpAny_newObj_type ?_ (by size_fits))
  refine wpAny_bind (m := firstArgMember _ _) (wpAny_of_eq (a := Value.none) (by first | rfl | (simp only [firstArgMember]; rfl)) ?_)
  refine wpAny_newObj_type ?_ (by size_fits)
  simp only [raiseNew]
  refine wpAny_bind (wpAny_handled ?_)
  rw [show A.in1.handled = none from hh]
  refine wpAny_bind (wpAny_pure (wpAny_throw ?_))
  refine wpAny_bind (wpAny_isInstance (T := "StopIteration") (b := true) ⟨_, Heap.get?_push_size _ rfl, rfl⟩ isSubtype_stop ?_)
  exact wpAny_pure (hQ _ (((Heap.SameBut.update ..).extBut.push _).push _))
theorem lenE {Q : Value → Shared → Prop} (hd : (d == sysModules) = false) (ho : s.heap.get? d = some o) (hc : o.ExactDict) (hdat : o.data = .dict es ep) (hfit : (es.size : Int) < 2 ^ 63)
    (h : Q (.int es.size (s.toks + 1)) { s with toks := s.toks + 1 + 1 }) : wpAny (model prog w) A (Builtin.«len» ⟨[.ref d], []⟩) (fun fin s' => ∃ r, fin = .done (.ret r) ∧ Q r s') E s := by
  have hT : s.TypeIs (.ref d) "dict" := ⟨o, ho, hc.1⟩
  unfold Builtin.«len»
  refine wpAny_bind (m := oneArg "len" _) (wpAny_pure ?_)
  refine wpAny_bind (m := callSpecial? (.ref d) (Str.ofString "__len__")) (wpAny_callSpecial?_slot (name := Str.ofString "__len__") hT F.slot_dict_len
    (wpAny_call_entry F.slot_dict_len hT F.entry_dict_len ?_ (F.args_dict_len_1 _)))
  show wpAny _ _ (dictSize d >>= _) _ _ s
  unfold dictSize
  refine wpAny_bind (wpAny_bind (wpAny_dictEntries ho hdat (wpAny_pure ?_)))
  show wpAny _ _ (Builtin.Dict.pendingCount d >>= _) _ _ s
  refine wpAny_bind (wpAny_pendingCount_other hd ?_)
  refine wpAny_ret_mkInt ?_
  rw [show (((es.size : Nat) : Int) + ((0 : Nat) : Int)) = ((es.size : Nat) : Int) from by omega]
  refine wpAny_bind (wpAny_holding (wpAny_pure ?_))
  refine wpAny_bind (wpAny_letGo ?_)
  show wpAny _ _ (if ((es.size : Nat) : Int) < 0 then _ else _) _ _ _
  rw [if_neg (by omega)]
  show wpAny _ _ (if ((es.size : Nat) : Int) ≥ 2 ^ 63 then _ else _) _ _ _
  rw [if_neg (by omega)]
  exact wpAny_bind (wpAny_mkInt (wpAny_pure ⟨_, rfl, h⟩))
theorem len_dictE {Q : Value → Shared → Prop} (hd : (d == sysModules) = false) (ho : s.heap.get? d = some o) (hc : o.ExactDict) (hdat : o.data = .dict es ep) (hfit : (es.size : Int) < 2 ^ 63)
    (h : Q (.int es.size (s.toks + 1)) { s with toks := s.toks + 1 + 1 }) : wpAny (model prog w) A (call (.builtin "len") [.ref d]) Q E s :=
  Calls.call_function_entry kind_len plain_len entry_len (args_len1 _) (lenE hd ho hc hdat hfit h)
theorem truth_dictE {Q : Bool → Shared → Prop} (hd : (d == sysModules) = false) (ho : s.heap.get? d = some o) (hc : o.ExactDict) (hdat : o.data = .dict es ep) (hfit : (es.size : Int) < 2 ^ 63)
    (h : Q (decide (es.size ≠ 0)) { s with toks := s.toks + 1 + 1 }) : wpAny (model prog w) A (truthy (.ref d)) Q E s := by
  have hT : s.TypeIs (.ref d) "dict" := ⟨o, ho, hc.1⟩
  have hne : ((es.size : Int) != 0) = decide (es.size ≠ 0) := by
    by_cases z : es.size = 0
    · simp [z]
    · simp [z]
  have key : wpAny (model prog w) A (runValue (.builtin "len" ⟨[.ref d], []⟩)) (fun r s' => r = .int es.size (s.toks + 1) ∧ Q (decide (es.size ≠ 0)) s') E s := by
    refine wpAny_runValue (codeAny_builtin entry_len ?_)
    rw [Around.under_plainId plain_len _]
    exact wpAny_mono (lenE (Q := fun r s' => r = .int es.size (s.toks + 1) ∧ Q (decide (es.size ≠ 0)) s') hd ho hc hdat hfit ⟨rfl, h⟩)
      (fun fin s' h' => by obtain ⟨r, rfl, hq⟩ := h'; exact hq) fun _ _ e => e
  unfold truthy
  first
    | refine wpAny_bind (wpAny_callSpecial?_none (name := Str.ofString "__bool__") hT noBool_dict ?_)
    | refine wpAny_bind (wpAny_pure (wpAny_bind (wpAny_callSpecial?_none (name := Str.ofString "__bool__") hT noBool_dict ?_)))
  first
    | refine wpAny_bind (wpAny_specialOf (name := Str.ofString "__len__") hT F.slot_dict_len.lookup ?_)
    | refine wpAny_bind (wpAny_pure (wpAny_bind (wpAny_specialOf (name := Str.ofString "__len__") hT F.slot_dict_len.lookup ?_)))
  first
    | exact wpAny_bind (wpAny_mono key (fun r s' h' => by obtain ⟨rfl, hq⟩ := h'; exact wpAny_pure (hne ▸ hq)) fun _ _ e => e)
    | exact wpAny_bind (wpAny_pure (wpAny_bind (wpAny_mono key (fun r s' h' => by obtain ⟨rfl, hq⟩ := h'; exact wpAny_pure (hne ▸ hq)) fun _ _ e => e)))
end

section
variable {c : Cx} {q t : Bool} {k : Nat} {sc : Scope} {ρ : Lo} {σ : AH} {A : Around} {env : Env} {s s₁ : Shared} {ads fr : List Addr} {Q : AV → AH → Prop} {X : Addr → AH → Prop} {Qb : Bool → AH → Prop}
theorem keys_size {h : Heap} {es : Array DictEntry} {m : Mp} (r : ReadsAll h (es.toList.map (·.key)) (m.map fun p => PyData.tuple (zs p.1)) []) : es.size = m.length := by
  have := readsAll_size (items := (es.toList.map (·.key)).toArray) (by simpa using r)
  simpa using this
theorem Pr.lenD {i : Nat} {m : Mp} {n : Nat} (hi : σ[i]? = some (Dc m n)) (hl : m.length < 2 ^ 63) (h : Q (I m.length) σ) : Pr c q k σ (fun vs => call (.builtin "len") vs) [.obj i] Q X := .of1 fun A s ads fr L cx R S Vx => by
  obtain ⟨d, hd, rfl⟩ := Vx
  obtain ⟨lo, o, es, e, hc, hdat, r⟩ := (S.obj i _ d hi hd).raw
  have hsz := keys_size r
  refine len_dictE lo e hc hdat (by omega) ?_
  rw [hsz]
  exact .int S h
theorem Tb.valD {e : Expr} (h : Ev c q t k sc ρ σ e (fun v σ₁ => ∃ i m n, v = .obj i ∧ σ₁[i]? = some (Dc m n) ∧ m.length < 2 ^ 63 ∧ Qb (decide (m ≠ [])) σ₁) X)
    (he : ∀ env, isTrue e env (eval e env) = (do let v ← eval e env; standAt e.pos; holding [v] (truthy v)) := by intro _; rfl) : Tb c q t k sc ρ σ e Qb X := fun A env s ads fr H => by
  refine wpAny_isTrue_value (h.then H fun v σ₁ cv s₁ hb G₁ H₁ V => ?_) (he env)
  obtain ⟨i, m, n, rfl, hi, hl, h2⟩ := hb
  obtain ⟨d, hd, rfl⟩ := V
  obtain ⟨lo, o, es, e, hc, hdat, r⟩ := (H₁.S.obj i _ d hi hd).raw
  have hsz := keys_size r
  refine truth_dictE lo e hc hdat (by omega) ⟨σ₁, ?_, G₁.trans ((Grow.tok s₁ _).go ..), H₁.S⟩
  have e : decide (es.size ≠ 0) = decide (m ≠ []) := by rw [hsz]; cases m <;> simp
  rw [e]; exact h2

/-- a tracked table that the loop leaves as it is -/
theorem walk_dict {it a : Addr} {j : Nat} {m : Mp} {n : Nat} (hb : c.base.get? it = none) : Walk c fr it (m.map fun p => T (zs p.1)) (fun σ => σ[j]? = some (Dc m n)) (fun i ads h => h.IsKeyIter it a i m.length n ∧ ads[j]? = some a) where
  bare := fun i ads h hP => by obtain ⟨⟨o, e, hc, hd⟩, _⟩ := hP; exact ⟨⟨o, _, _, e, hd, hc⟩, hb⟩
  keep := fun i ads ads' s s' σ O hP S G hO => by
    obtain ⟨⟨o, e, hc, hd⟩, V⟩ := hP
    exact ⟨⟨o, G.fields S hO e hd, hc, hd⟩, G.at V⟩
  self := fun i A s ads E Pq hP h => wpAny_pyIter_keyiter hP.1 h
  next := fun i v A s ads σ E Pq hv hP hH S h => by
    obtain ⟨hit, ha⟩ := hP
    obtain ⟨lo, o, es, e, hc, hdat, r⟩ := (S.obj j _ a hH ha).raw
    have hsz := keys_size r
    have hbr : Bare s.heap it := by obtain ⟨o, e, hc, hd⟩ := hit; exact ⟨o, _, _, e, hd, hc⟩
    rw [List.getElem?_map] at hv
    obtain ⟨p, hp, rfl⟩ := Option.map_eq_some_iff.mp hv
    obtain ⟨cv, as', h5, h6, h7⟩ := readsAll_nth _ _ _ i (PyData.tuple (zs p.1)) r (by simp [hp])
    rw [← hsz] at hit
    refine nextE hit e hdat h5 fun h' hit' hs => ?_
    rw [hsz] at hit'
    have Vd : VR ads fr s.heap (T (zs p.1)) cv := ⟨as', h6, fun b hb => by have := h7 b hb; cases this⟩
    exact h { s with heap := h' } _ (go_bare (tk := s.toks) hbr hs.extBut (by obtain ⟨o, e, _⟩ := hit'; exact ⟨o, e⟩)) (S.extB hbr hb hs.extBut) ⟨hit', ha⟩ (Vd.extB hbr hs.extBut)
  stop := fun i A s ads σ E Pq hv hh hP hH S h => by
    obtain ⟨hit, ha⟩ := hP
    obtain ⟨lo, o, es, e, hc, hdat, r⟩ := (S.obj j _ a hH ha).raw
    have hsz := keys_size r
    rw [List.getElem?_map, Option.map_eq_none_iff] at hv
    rw [← hsz] at hit
    exact stopE hh hit e hdat (by rw [List.getElem?_eq_none_iff] at hv; omega) fun h' hs => h h' hs
variable {QI : List AV → (AH → Prop) → AH → Prop}
/-- a table's keys -/
theorem EvI.keys {e : Expr} (h : Ev c q t k sc ρ σ e (fun v σ₁ => ∃ j m n, v = .obj j ∧ σ₁[j]? = some (Dc m n) ∧ QI (m.map fun p => T (zs p.1)) (fun σ => σ[j]? = some (Dc m n)) σ₁) X) : EvI c q t k sc ρ σ e QI X := fun A env s ads fr H => by
  refine h.then H fun v σ₁ cv s₁ hv G₁ H₁ V => ?_
  obtain ⟨j, m, n, rfl, hj, hQ⟩ := hv
  obtain ⟨a, ha, rfl⟩ := V
  obtain ⟨lo, o, es, e, hc, hdat, r⟩ := (H₁.S.obj j _ a hj ha).raw
  have hsz := keys_size r
  have hb := base_new H₁.S
  have hnew : s₁.heap.get? s₁.heap.objs.size = none := Heap.get?_none_of_le (Nat.le_refl _)
  refine iterE lo e hc hdat ⟨_, _, σ₁, s₁, hQ, hj, G₁, H₁.S, _, rfl, hnew, Grow.push s₁ _ s₁.toks, fun fr' hf => ⟨_, walk_dict (a := a) (j := j) (m := m) (n := n) hb, fun s'' G => ⟨⟨_, G.1 _ _ (Heap.get?_push_size _ rfl), rfl, ?_⟩, ha⟩⟩⟩
  rw [hsz]; rfl
end

-- Core37

/-! a key taken out -/
theorem erase_filter {xs : List (List Int × Addr × Value)} {k : List Int} {p : Addr × Value} {j : Nat} (hn : (xs.map (·.1)).Nodup) (hx : xs[j]? = some (k, p)) : xs.eraseIdx j = xs.filter fun x => decide (x.1 ≠ k) := by
  induction xs generalizing j with
  | nil => simp at hx
  | cons x xs ih =>
    rw [List.map_cons, List.nodup_cons] at hn
    cases j with
    | zero =>
      simp at hx; subst hx
      have : xs.filter (fun x => decide (x.1 ≠ k)) = xs := List.filter_eq_self.mpr fun y hy => by
        simp only [decide_eq_true_eq]; exact fun e => hn.1 (List.mem_map.mpr ⟨y, hy, e⟩)
      rw [List.eraseIdx_cons_zero, List.filter_cons, if_neg (by simp), this]
    | succ j =>
      simp at hx
      have hne : x.1 ≠ k := fun e => hn.1 (List.mem_map.mpr ⟨(k, p), List.mem_of_getElem? hx, e.symm⟩)
      rw [List.eraseIdx_cons_succ, ih hn.2 hx, List.filter_cons, if_pos (by simpa using hne)]
theorem erase_map {α β : Type} (f : α → β) : ∀ (l : List α) (j : Nat), (l.map f).eraseIdx j = (l.eraseIdx j).map f
  | [], _ => rfl
  | _ :: _, 0 => rfl
  | x :: l, j + 1 => by simp [erase_map f l j]
section
variable {prog : Program} {w : World} {A : Around} {E : Value → Shared → Prop} {s : Shared} {d a : Addr} {k : List Int} {xs : List (List Int × Addr × Value)}
theorem takeE {Q : Option DictEntry → Shared → Prop} (hu : (kT prog w).room A) (hkey : (kT prog w).is s.heap k a) (hm : s.heap.DictOfH (kT prog w) d xs) (hp : (atKey xs k).isSome = true) (hsz : xs.length ≤ sizeLine)
    (hQ : ∀ e h', h'.DictOfH (kT prog w) d (xs.filter fun x => decide (x.1 ≠ k)) → Heap.SameBut d s.heap h' → Q (some e) { s with heap := h', toks := s.toks + (kT prog w).draws k }) :
    wpAny (model prog w) A (Builtin.Dict.takeOut d (.ref a)) Q E s := by
  obtain ⟨o, es, ep, ho, hc, hd, he, his, hn⟩ := hm
  have hes := size_of_entries he
  unfold Builtin.Dict.takeOut
  try with_reducible refine wpAny_holding ?_
  refine wpAny_bind ((kT prog w).pyHash hu hkey ?_)
  refine wpAny_bind (wpAny_dictFind_heap (s := { s with toks := s.toks + (kT prog w).draws k }) hu hkey ho hd he his hn ?_ ?_)
  · intro hno
    rw [atKey_none_of_get hno] at hp; cases hp
  · intro j p hj
    refine wpAny_bind (wpAny_dictEntries (s := { s with toks := s.toks + (kT prog w).draws k }) ho hd ?_)
    rw [entry_at he j, hj]
    have hf := erase_filter hn hj
    refine wpAny_bind (wpAny_updateDictKeys (hz := by omega) (s := { s with toks := s.toks + (kT prog w).draws k }) ho hd (wpAny_pure (hQ _ _ ⟨_, _, ep + 1, Heap.get?_update_self _ ho (Obj.isFreed_of_dict (Obj.data_mapDictKeys hd _)),
      hc.mapDictKeys _, Obj.data_mapDictKeys hd _, ?_, fun x hx => ?_, ?_⟩ (Heap.SameBut.update ..))))
    · rw [← hf]
      have : (es.eraseIdxIfInBounds j).toList = es.toList.eraseIdx j := by obtain ⟨l⟩ := es; simp
      rw [this, he, erase_map]
    · exact (kT prog w).keeps (his x (List.mem_filter.mp hx).1) ho hd (Heap.SameBut.update ..)
    · exact hn.sublist (List.filter_sublist.map _)
theorem popE {P : Fin → Shared → Prop} (hu : (kT prog w).room A) (hkey : (kT prog w).is s.heap k a) (hm : s.heap.DictOfH (kT prog w) d xs) (hp : (atKey xs k).isSome = true) (hsz : xs.length ≤ sizeLine)
    (hQ : ∀ v h', h'.DictOfH (kT prog w) d (xs.filter fun x => decide (x.1 ≠ k)) → Heap.SameBut d s.heap h' → P (.done (.ret v)) { s with heap := h', toks := s.toks + (kT prog w).draws k }) :
    wpAny (model prog w) A (Builtin.«dict.pop» ⟨[.ref d, .ref a], []⟩) P E s := by
  have hT := hm.typeIs
  obtain ⟨o, es, ep, ho, hc, hd, he, his, hn⟩ := id hm
  have hne : es.isEmpty = false := by
    have hes := size_of_entries he
    cases xs with
    | nil => simp [atKey] at hp
    | cons x xs => rw [Array.isEmpty_eq_false_iff]; intro z; rw [z] at hes; simp at hes
  unfold Builtin.«dict.pop»
  refine wpAny_bind ?_
  unfold Builtin.Dict.keyAndDefault
  refine wpAny_bind (wpAny_notOrdered_dict hT ?_)
  show wpAny _ _ (pure (d, Value.ref a, none)) _ _ s
  refine wpAny_pure ?_
  refine wpAny_bind ?_
  refine wpAny_dictEntries ho hd (wpAny_bind (wpAny_pure ?_))
  rw [hne]
  simp only [Bool.false_eq_true, if_false]
  refine wpAny_bind (takeE hu hkey hm hp hsz fun e h' hm' hs' => ?_)
  simp only [Option.isNone_some, Bool.false_eq_true, if_false]
  exact wpAny_bind (wpAny_letGo (wpAny_pure (hQ _ _ hm' hs')))
theorem meets_popE : MeetsIn prog w (Builtin.«dict.pop» ⟨[.ref d, .ref a], []⟩) (fun A R s => (kT prog w).room A.in1 ∧ ∃ k xs, (kT prog w).is s.heap k a ∧ s.heap.DictOfH (kT prog w) d xs ∧ (atKey xs k).isSome = true ∧ xs.length ≤ sizeLine ∧
      ∀ v h', h'.DictOfH (kT prog w) d (xs.filter fun x => decide (x.1 ≠ k)) → Heap.SameBut d s.heap h' → R (.ok (.ret v)) { s with heap := h', toks := s.toks + (kT prog w).draws k }) :=
  .of_wp fun A R s ⟨hu, k, xs, hkey, hm, hp, hsz, h⟩ => popE hu hkey hm hp hsz fun v h' h1 h2 => ⟨v, rfl, h v h' h1 h2⟩
end
theorem cut_at {h : Heap} {k : List Int} {m : Mp} {xs : List (List Int × Addr × Value)} {bs : List Addr} (hk : xs.map (·.1) = m.map (·.1)) (r : ReadsAll h (xs.map (·.2.2)) (m.map (·.2)) bs) :
    (xs.filter fun x => decide (x.1 ≠ k)).map (·.1) = (cutK m k).map (·.1) ∧ ∃ cs, ReadsAll h ((xs.filter fun x => decide (x.1 ≠ k)).map (·.2.2)) ((cutK m k).map (·.2)) cs ∧ ∀ b ∈ cs, b ∈ bs := by
  unfold cutK
  induction m generalizing xs bs with
  | nil => cases xs with
    | nil => exact ⟨rfl, [], .nil, fun _ hb => nomatch hb⟩
    | cons => simp at hk
  | cons q m ih =>
    cases xs with
    | nil => simp at hk
    | cons x xs =>
      simp only [List.map_cons, List.cons.injEq] at hk
      rw [List.map_cons, List.map_cons] at r
      cases r with
      | cons r1 r2 =>
        obtain ⟨i1, cs, i2, i3⟩ := ih hk.2 r2
        by_cases e : q.1 = k
        · rw [List.filter_cons, List.filter_cons, if_neg (by simp [hk.1, e]), if_neg (by simp [e])]
          exact ⟨i1, cs, i2, fun b hb => List.mem_append_right _ (i3 b hb)⟩
        · rw [List.filter_cons, List.filter_cons, if_pos (by simp [hk.1, e]), if_pos (by simp [e])]
          refine ⟨by rw [List.map_cons, List.map_cons, i1, hk.1], _, .cons r1 i2, fun b hb => (List.mem_append.mp hb).elim (List.mem_append_left _) fun z => List.mem_append_right _ (i3 b z)⟩

section
variable {c : Cx} {q t : Bool} {k : Nat} {sc : Scope} {ρ : Lo} {σ : AH} {Q : Fw → Lo → AH → Prop} {X : Addr → Lo → AH → Prop}
/-- x.pop(e), x a table -/
theorem Ex.popD {x : Str} {p apos cpos epos : Pos} {elt : Expr} {i : Nat} (hv : ρ.lookup x = some (.obj i)) (hl : ∃ m n, σ[i]? = some (Dc m n))
    (h : Ev c q t k sc ρ σ elt (fun v σ₁ => ∃ (k' : List Int) (m : Mp) (n : Nat), v = T (zs k') ∧ σ₁[i]? = some (Dc m n) ∧ m.length ≤ sizeLine ∧ (look m k').isSome = true ∧ ∀ n', Q .next ρ (σ₁.set i (Dc (cutK m k') n'))) (fun C σ₁ => X C ρ σ₁))
    (hline : (apos.endLine == cpos.line) = true := by rfl) (hs : ∀ env, swapsWith (.Call (.Attribute (.Name x p) "pop" apos) [elt] [] cpos) none epos.line env = pure false := by intro _; rfl)
    (hb : ∀ env, attributeBase (.Name x p) "pop" env (eval (.Name x p) env) = eval (.Name x p) env := by intro _; rfl)
    (hst : ∀ env, starEach [elt] env = [(false, eval elt env)] := by intro _; rfl)
    (hd : (x == ("__debug__" : Str)) = false := by rfl) (hn : (x == ("__classdict__" : Str)) = false := by rfl) :
    Ex c q t k sc ρ σ (.Expr (.Call (.Attribute (.Name x p) "pop" apos) [elt] [] cpos) epos) Q X := fun A env s ads fr H => by
  refine wpAny_Expr_any (Call_method1 (hb env) (hst env) hline ?_) (by unfold interactive; rw [H.F.kind]; rfl) (hs env)
  refine wpAny_mono ((Ev.nm (Q := fun v σ' => v = .obj i ∧ σ' = σ) (X := NoX) hv ⟨rfl, rfl⟩ hd hn).at H) (fun ov s₁ hq => ?_) fun _ _ z => by obtain ⟨_, _, _, _, z, _⟩ := z; exact z.elim
  obtain ⟨v, σ', ⟨rfl, rfl⟩, G, S, a, ha, rfl⟩ := hq
  obtain ⟨m, n, hx⟩ := hl
  have H₁ := H.go G S
  obtain ⟨lo, o, es, e, hc, hdat, r⟩ := (S.obj i _ a hx ha).raw
  refine ⟨"dict", "dict.pop", PySem.F.plainAttrs_dict, PySem.F.slot_dict_pop, PySem.F.type_dict_pop, ⟨_, e, hc.1⟩, fun b z => by cases z; exact ⟨_, e, hc.2.1⟩, ?_⟩
  refine method1_meetsIn PySem.F.slot_dict_pop PySem.F.entry_dict_pop (wpAny_mono (h.at H₁) (fun y s₂ hq => ?_) fun _ _ z => ((z.trans G).own H))
  obtain ⟨v, σ₁, ⟨k', m', n', rfl, hy, hz, hs', hQ⟩, G₂, S₂, bs, r'', _⟩ := hq
  have H₂ := H₁.go G₂ S₂
  obtain ⟨b, rfl, hk, _⟩ := key_of (p := c.prog) (w := c.w) r''
  obtain ⟨lo', xs, cs, hm, hkk, rr, hbs⟩ := (S₂.obj i _ a hy ha).tab c.prog c.w
  have hlen : xs.length = m'.length := by have := congrArg List.length hkk; simpa using this
  refine ⟨hm.typeIs, PySem.F.args_dict_pop_2 _ _, _, meets_popE, tupleKind_room_in1 (by have := H₂.R.units; omega), k', xs, hk, hm, by rw [look_some hkk rr]; exact hs', by omega, fun v h' hm' hsb => ?_⟩
  obtain ⟨e1, ds, r', hds⟩ := cut_at (k := k') hkk rr
  have hds' : ∀ z ∈ ds, z ∉ ads ∧ z ∉ fr := fun z hz => hbs z (hds z hz)
  obtain ⟨n'', hO⟩ := OR.ofTab (ads := ads) (fr := fr) lo' hm' e1 (reads_set S₂ ha hsb r' hds') hds'
  obtain ⟨G₄, S₄⟩ := S₂.setO (tk := s₂.toks + (kT c.prog c.w).draws k') hy ha hsb hO
  exact ⟨.next, ρ, _, ads, hQ n'', (G.trans (G₂.trans G₄)).own, S₄, (H₂.go G₄ S₄).F, rfl⟩
end

-- Core38

/-! tuples of ints, by order -/
noncomputable def lexLt : List Int → List Int → Bool
  | _, [] => false
  | [], _ :: _ => true
  | x :: xs, y :: ys => if x = y then lexLt xs ys else decide (x < y)
theorem lexLt_irr : ∀ xs : List Int, lexLt xs xs = false
  | [] => rfl
  | x :: xs => by simp [lexLt, lexLt_irr xs]
theorem lexLt_trans : ∀ {xs ys us : List Int}, lexLt xs ys = true → lexLt ys us = true → lexLt xs us = true
  | _, [], _, h, _ => by cases ‹List Int› <;> simp [lexLt] at h
  | [], _ :: _, [], _, h => by simp [lexLt] at h
  | [], _ :: _, _ :: _, _, _ => rfl
  | x :: xs, y :: ys, [], _, h => by simp [lexLt] at h
  | x :: xs, y :: ys, u :: us, h1, h2 => by
    unfold lexLt at h1 h2 ⊢
    by_cases e1 : x = y
    · subst e1
      rw [if_pos rfl] at h1
      by_cases e2 : x = u
      · rw [if_pos e2] at h2 ⊢; exact lexLt_trans h1 h2
      · rw [if_neg e2] at h2 ⊢; exact h2
    · rw [if_neg e1] at h1
      have h1 := of_decide_eq_true h1
      by_cases e2 : y = u
      · subst e2; rw [if_neg e1]; exact decide_eq_true h1
      · rw [if_neg e2] at h2
        have h2 := of_decide_eq_true h2
        rw [if_neg (by omega)]; exact decide_eq_true (by omega)
section
variable {prog : Program} {w : World} {A : Around} {E : Value → Shared → Prop} {s : Shared}
theorem int_lt {i j : Int} {t u : Tok} {Q : Value → Shared → Prop} (h : Q (.bool (decide (i < j))) s) : wpAny (model prog w) A (richCompare .Lt (.int i t) (.int j u)) Q E s :=
  richCompare_gives (op := .Lt) (typeIs_int s _ t) (typeIs_int s _ u) F.slot_int_lt F.entry_int_lt (F.args_int_lt_2 _ _) (gives_int_lt _ _ t u) (fun x => nomatch x) h
theorem tuple_lt_tree {x y : List Int} {a b : Addr} {P : Fin → Shared → Prop} (hx : IsTupleKey (intKind prog w) s.heap x a) (hy : IsTupleKey (intKind prog w) s.heap y b) (h : P (.done (.ret (.bool (lexLt x y)))) s) :
    wpAny (model prog w) A (Builtin.«tuple.__lt__» ⟨[.ref a, .ref b], []⟩) P E s := by
  have hTb := hy.typeIs
  obtain ⟨oa, xs, na, hoa, _, hda, hia⟩ := hx
  obtain ⟨ob, ys, nb, hob, _, hdb, hib⟩ := hy
  show wpAny _ _ (isInstance (.ref b) (.type "tuple") >>= _) _ _ s
  refine wpAny_bind (wpAny_isInstance hTb isSubtype_tuple_tuple ?_)
  simp only [Bool.not_true, Bool.false_eq_true, if_false]
  refine wpAny_bind (wpAny_tupleItemsOf hoa hda ?_)
  refine wpAny_bind (wpAny_tupleItemsOf hob hdb ?_)
  refine wpAny_bind ?_
  refine wpAny_forIn_list _
    (fun rest r s' => r.1 = none ∧ s' = s ∧ ∃ x' y' xs' ys', rest = List.zip xs' ys' ∧ ItemsAre (intKind prog w) x' xs' ∧ ItemsAre (intKind prog w) y' ys' ∧ lexLt x' y' = lexLt x y ∧ decide (xs'.length < ys'.length) = decide (xs.size < ys.size))
    _ ?_ ?_ _ _ ⟨rfl, rfl, x, y, xs.toList, ys.toList, rfl, hia, hib, rfl, by simp⟩
  · rintro ⟨u, v⟩ rest r s' ⟨hr, rfl, x', y', xs', ys', hz, hx', hy', hdec, hlen⟩
    cases hx' with
    | nil => simp at hz
    | @cons k1 u' x'' xs'' h1 hx'' =>
      cases hy' with
      | nil => simp at hz
      | @cons k2 v' y'' ys'' h2 hy'' =>
        simp only [List.zip_cons_cons, List.cons.injEq, Prod.mk.injEq] at hz
        obtain ⟨⟨rfl, rfl⟩, rfl⟩ := hz
        refine wpAny_bind ((intKind prog w).eqBool (a := k1) (b := k2) h1 h2 ?_)
        by_cases hk : k1 = k2
        · subst hk
          rw [decide_eq_true rfl]
          simp only [Bool.not_true, Bool.false_eq_true, if_false]
          refine wpAny_pure ⟨rfl, rfl, x'', y'', xs'', ys'', rfl, hx'', hy'', ?_, by simpa using hlen⟩
          rw [← hdec]; simp [lexLt]
        · rw [decide_eq_false hk]
          simp only [Bool.not_false, if_true]
          have hf : lexLt x y = decide (k1 < k2) := by rw [← hdec]; simp [lexLt, hk]
          rw [hf] at h
          obtain ⟨t1, rfl⟩ := Value.isInt_shape h1
          obtain ⟨t2, rfl⟩ := Value.isInt_shape h2
          exact wpAny_bind (wpAny_rule (wpAny_bind (int_lt (wpAny_bind (wpAny_pure (wpAny_pure (wpAny_pure h)))))))
  · rintro ⟨r1, r2⟩ s' ⟨hr, rfl, x', y', xs', ys', hz, hx', hy', hdec, hlen⟩
    simp only at hr
    subst hr
    refine wpAny_pure ?_
    have hfin : decide (xs.size < ys.size) = lexLt x y := by
      rw [← hdec, ← hlen]
      cases hx' with
      | nil =>
        cases hy' with
        | nil => simp [lexLt]
        | cons _ _ => simp [lexLt]
      | cons _ _ =>
        cases hy' with
        | nil => simp [lexLt]
        | cons _ _ => simp at hz
    show P (.done (.ret (.bool (decide (xs.size < ys.size))))) s'
    rw [hfin]; exact h
theorem tuple_lt {x y : List Int} {a b : Addr} {Q : Value → Shared → Prop} (hu : A.units < cLine) (hx : IsTupleKey (intKind prog w) s.heap x a) (hy : IsTupleKey (intKind prog w) s.heap y b) (h : Q (.bool (lexLt x y)) s) :
    wpAny (model prog w) A (richCompare .Lt (.ref a) (.ref b)) Q E s :=
  wpAny_richCompare_same_room (op := .Lt) hx.typeIs hy.typeIs F.slot_tuple_lt
      (wpAny_call_entry F.slot_tuple_lt hx.typeIs F.entry_tuple_lt (tuple_lt_tree hx hy ⟨_, rfl, (fun e => nomatch e), h⟩) (F.args_tuple_lt_2 _ _)) hu
end

-- Core39

/-! the least item, where the items are compared by what stands in the heap -/
noncomputable def Kp (wr : List Addr) (S : Addr) (h₀ h : Heap) : Prop := ∀ b o, b ∉ wr → b ≠ S → h₀.get? b = some o → h.get? b = some o
section
variable {prog : Program} {w : World} {A : Around} {R : Result → Shared → Prop} {I : Addr} {fp wr : List Addr} {n : Nat} {P : Nat → Value → Prop} {St : Nat → Heap → Prop} {h₀ : Heap}
theorem min_loopH (W : Walks prog w A.in1 I fp wr n P St) (bt : Nat → Nat → Bool) (S : Addr) (hSf : S ∉ fp)
    (hcmp : ∀ i j vi vj (s : Shared) (Q : Value → Shared → Prop) (E : Value → Shared → Prop), Kp wr S h₀ s.heap → P i vi → P j vj → Q (.bool (bt i j)) s → wpAny (model prog w) A.in1 (richCompare .Lt vi vj) Q E s) :
    ∀ (k j : Nat) (s : Shared) (vb : Value) (c : Nat), n - (j + 1) = k → j + 1 ≤ n → St (j + 1) s.heap → P (argBest bt j) vb → Kp wr S h₀ s.heap →
    s.heap.get? S = some { cls := .type "list", dict := none, data := .seq #[vb, vb] c, slots := #[] } →
    (∀ v h' tk, P (argBest bt (n - 1)) v → (∀ b o, b ∉ wr → b ≠ S → s.heap.get? b = some o → h'.get? b = some o) → R (.ok (.ret v)) { s with heap := h', toks := tk }) →
    codeAny (model prog w) A (.builtin "min.loop" ⟨[.ref I, .none, .ref S], []⟩) R s := by
  have hSw : S ∉ wr := fun h => hSf (W.sub _ h)
  have hname : (toString "min" ++ toString ".loop" : String) = "min.loop" := by decide
  intro k
  induction k with
  | zero =>
    intro j s vb c hk hj hst hPb hKp hS hR
    have hin : j + 1 = n := by omega
    refine codeAny_builtin F.entry_min_loop ?_
    rw [Around.under_plainId F.plain_min_loop _]
    show wpAny _ A.in1 (seqItems? (.ref S) >>= _) _ _ s
    refine wpAny_bind (wpAny_seqItems hS rfl ?_)
    show wpAny _ A.in1 (tryCatch (pyNext (.ref I)) _ >>= _) _ _ s
    refine wpAny_bind (wpAny_tryCatch (W.done s _ _ (hin ▸ hst) fun h' tk hk' => ?_))
    have hS' := hk' S _ hSw hS
    show wpAny _ A.in1 (updateSeq S (fun _ => #[]) >>= _) _ _ _
    refine wpAny_bind ?_
    refine wpAny_updateSeq hS' rfl (wpAny_bind (wpAny_letGo (wpAny_pure ?_)))
    refine hR vb _ tk (by rw [← hin]; exact hPb) fun b o hbw hbS e => (Heap.get?_update_other _ _ (Ne.symm hbS)).trans (hk' b o hbw e)
  | succ k ih =>
    intro j s vb c hk hj hst hPb hKp hS hR
    have hlt : j + 1 < n := by omega
    refine codeAny_builtin F.entry_min_loop ?_
    rw [Around.under_plainId F.plain_min_loop _]
    show wpAny _ A.in1 (seqItems? (.ref S) >>= _) _ _ s
    refine wpAny_bind (wpAny_seqItems hS rfl ?_)
    show wpAny _ A.in1 (tryCatch (pyNext (.ref I)) _ >>= _) _ _ s
    refine wpAny_bind (wpAny_tryCatch (W.item (j + 1) s _ _ hlt hst fun v h' tk hP hst' hk' => ?_))
    have hS' := hk' S _ hSw hS
    have hKp' : Kp wr S h₀ h' := fun b o hb1 hb2 e => hk' b o hb1 (hKp b o hb1 hb2 e)
    show wpAny _ A.in1 (tryCatch (holding [v, v] (richCompare .Lt v vb >>= _)) _ >>= _) _ _ _
    refine wpAny_bind (wpAny_tryCatch (wpAny_holding (wpAny_bind (hcmp (j + 1) (argBest bt j) v vb _ _ _ hKp' hP hPb ?_))))
    refine wpAny_bind (wpAny_holding (wpAny_truthy_bool ?_))
    refine wpAny_bind (wpAny_letGo (wpAny_pure ?_))
    cases hb : bt (j + 1) (argBest bt j) with
    | true =>
      simp only [if_true]
      refine wpAny_bind ?_
      refine wpAny_updateSeq hS' rfl (wpAny_bind (wpAny_letGo ?_))
      rw [hname]
      refine wpAny_pure ⟨plainId_quiet F.plain_min_loop _, ih (j + 1) _ v _ (by omega) hlt (W.frame _ _ _ hst' fun b hbf o e => ?_) (by simp only [argBest, hb, if_true]; exact hP) (fun b o hb1 hb2 e => ?_) (Heap.get?_update_self _ hS' rfl)
        fun v' h'' tk'' hP' hk'' => ?_⟩
      · exact (Heap.get?_update_other _ _ (fun h : S = b => hSf (by rw [h]; exact hbf))).trans e
      · exact (Heap.get?_update_other _ _ (Ne.symm hb2)).trans (hKp' b o hb1 hb2 e)
      · exact hR v' h'' tk'' hP' fun b o hbw hbS e => hk'' b o hbw hbS ((Heap.get?_update_other _ _ (Ne.symm hbS)).trans (hk' b o hbw e))
    | false =>
      simp only [Bool.false_eq_true, if_false]
      refine wpAny_bind (wpAny_letGo ?_)
      rw [hname]
      refine wpAny_pure ⟨plainId_quiet F.plain_min_loop _, ih (j + 1) _ vb c (by omega) hlt hst' (by simp only [argBest, hb, Bool.false_eq_true, if_false]; exact hPb) hKp' hS' fun v' h'' tk'' hP' hk'' => ?_⟩
      exact hR v' h'' tk'' hP' fun b o hbw hbS e => hk'' b o hbw hbS (hk' b o hbw e)
theorem min_firstH (W : Walks prog w A.in1 I fp wr n P St) (bt : Nat → Nat → Bool) (S : Addr) (hSf : S ∉ fp) (hn : 0 < n)
    (hcmp : ∀ i j vi vj (s : Shared) (Q : Value → Shared → Prop) (E : Value → Shared → Prop), Kp wr S h₀ s.heap → P i vi → P j vj → Q (.bool (bt i j)) s → wpAny (model prog w) A.in1 (richCompare .Lt vi vj) Q E s) {s : Shared} {c : Nat} (hst : St 0 s.heap) (hKp : Kp wr S h₀ s.heap)
    (hS : s.heap.get? S = some { cls := .type "list", dict := none, data := .seq #[] c, slots := #[] })
    (hR : ∀ v h' tk, P (argBest bt (n - 1)) v → (∀ b o, b ∉ wr → b ≠ S → s.heap.get? b = some o → h'.get? b = some o) → R (.ok (.ret v)) { s with heap := h', toks := tk }) :
    codeAny (model prog w) A (.builtin "min.loop" ⟨[.ref I, .none, .ref S], []⟩) R s := by
  have hSw : S ∉ wr := fun h => hSf (W.sub _ h)
  have hname : (toString "min" ++ toString ".loop" : String) = "min.loop" := by decide
  refine codeAny_builtin F.entry_min_loop ?_
  rw [Around.under_plainId F.plain_min_loop _]
  show wpAny _ A.in1 (seqItems? (.ref S) >>= _) _ _ s
  refine wpAny_bind (wpAny_seqItems hS rfl ?_)
  show wpAny _ A.in1 (tryCatch (pyNext (.ref I)) _ >>= _) _ _ s
  refine wpAny_bind (wpAny_tryCatch (W.item 0 s _ _ hn hst fun v h' tk hP hst' hk' => ?_))
  have hS' := hk' S _ hSw hS
  have hKp' : Kp wr S h₀ h' := fun b o hb1 hb2 e => hk' b o hb1 (hKp b o hb1 hb2 e)
  show wpAny _ A.in1 (updateSeq S (fun _ => #[v, v]) >>= _) _ _ _
  refine wpAny_bind ?_
  refine wpAny_updateSeq hS' rfl ?_
  rw [hname]
  refine wpAny_pure ⟨plainId_quiet F.plain_min_loop _, min_loopH W bt S hSf hcmp _ 0 _ v _ rfl hn (W.frame _ _ _ hst' fun b hbf o e => ?_) hP (fun b o hb1 hb2 e => (Heap.get?_update_other _ _ (Ne.symm hb2)).trans (hKp' b o hb1 hb2 e)) (Heap.get?_update_self _ hS' rfl) fun v' h'' tk'' hP' hk'' => ?_⟩
  · exact (Heap.get?_update_other _ _ (fun h : S = b => hSf (by rw [h]; exact hbf))).trans e
  · exact hR v' h'' tk'' hP' fun b o hbw hbS e => hk'' b o hbw hbS ((Heap.get?_update_other _ _ (Ne.symm hbS)).trans (hk' b o hbw e))
theorem call_minH {x : Value} {Q : Value → Shared → Prop} {E : Value → Shared → Prop} {s : Shared}
    (h : wpAny (model prog w) A.in1 (pyIter x) (fun it s₂ => ∃ I fp wr n P St bt, it = .ref I ∧ Walks prog w A.in1 I fp wr n P St ∧ St 0 s₂.heap ∧ (∀ b ∈ fp, b < s₂.heap.objs.size) ∧ 0 < n ∧
      (∀ i j vi vj (s : Shared) (Q : Value → Shared → Prop) (E : Value → Shared → Prop), (∀ b o, b ∉ wr → s₂.heap.get? b = some o → s.heap.get? b = some o) → P i vi → P j vj → Q (.bool (bt i j)) s → wpAny (model prog w) A.in1 (richCompare .Lt vi vj) Q E s) ∧
      ∀ v h' tk, P (argBest bt (n - 1)) v → (∀ b o, b ∉ wr → s₂.heap.get? b = some o → h'.get? b = some o) → Q v { s₂ with heap := h', toks := tk }) E s) :
    wpAny (model prog w) A (call (.builtin "min") [x]) Q E s := by
  have hname : (toString "min" ++ toString ".loop" : String) = "min.loop" := by decide
  refine call_function_tree F.kind_min F.plain_min F.entry_min (F.args_min1 _) ?_
  show wpAny _ A.in1 (Builtin.Builtins.bindParams "min" ["key", "default"] 0 ⟨[], []⟩ >>= _) _ _ s
  refine wpAny_bind (wpAny_of_eq (show Builtin.Builtins.bindParams "min" ["key", "default"] 0 ⟨[], []⟩ = pure [none, none] from rfl) ?_)
  refine wpAny_bind (wpAny_pure ?_)
  refine wpAny_bind (wpAny_mono h (fun it s₂ h₂ => ?_) fun _ _ e => e)
  obtain ⟨I, fp, wr, n, P, St, bt, rfl, W, hst, hfp, hn, hcmp, hQ⟩ := h₂
  refine wpAny_bind (wpAny_newObj_type ?_)
  have hSf : s₂.heap.objs.size ∉ fp := fun hm => Nat.lt_irrefl _ (hfp _ hm)
  have hne : ∀ b o, s₂.heap.get? b = some o → b ≠ s₂.heap.objs.size := fun b o e => Nat.ne_of_lt (Heap.lt_size e)
  rw [hname]
  refine wpAny_pure ⟨plainId_quiet F.plain_min_loop _, min_firstH (h₀ := s₂.heap) W bt s₂.heap.objs.size hSf hn (fun i j vi vj s Q E hK => hcmp i j vi vj s Q E fun b o hb e => hK b o hb (hne b o e) e)
    (W.frame _ _ _ hst fun b _ o e => Heap.get?_push_of_some _ e) (fun b o _ _ e => Heap.get?_push_of_some _ e) (Heap.get?_push_size _ rfl) fun v h' tk hP hk => ?_⟩
  exact hQ v h' tk hP fun b o hbw e => hk b o hbw (hne b o e) (Heap.get?_push_of_some _ e)
end

-- Core40

theorem best_le (bt : Nat → Nat → Bool) : ∀ k, argBest bt k ≤ k
  | 0 => Nat.le_refl _
  | k + 1 => by unfold argBest; split; exact Nat.le_refl _; exact Nat.le_succ_of_le (best_le bt k)
theorem best_is {bt : Nat → Nat → Bool} (irr : ∀ i, bt i i = false) (trans : ∀ i j l, bt i j = true → bt j l = true → bt i l = true) : ∀ k i, i ≤ k → bt i (argBest bt k) = false
  | 0, i, h => by obtain rfl : i = 0 := by omega
                  exact irr _
  | k + 1, i, h => by
    unfold argBest
    cases e : bt (k + 1) (argBest bt k) with
    | true =>
      simp only [if_true]
      by_cases hi : i = k + 1
      · rw [hi]; exact irr _
      · have := best_is irr trans k i (by omega)
        cases e' : bt i (k + 1) with
        | false => rfl
        | true => rw [trans _ _ _ e' e] at this; cases this
    | false =>
      simp only [Bool.false_eq_true, if_false]
      by_cases hi : i = k + 1
      · rw [hi]; exact e
      · exact best_is irr trans k i (by omega)

section
variable {c : Cx} {k : Nat} {σ : AH} {Q : AV → AH → Prop} {X : Addr → AH → Prop}
theorem key_keep {p : Program} {w : World} {h h' : Heap} {x : List Int} {b : Addr} (K : IsTupleKey (intKind p w) h x b) (hk : ∀ o, h.get? b = some o → h'.get? b = some o) : IsTupleKey (intKind p w) h' x b := by
  obtain ⟨o, its, n, e, r⟩ := K; exact ⟨o, its, n, hk o e, r⟩
/-- max(..) over a list of ints -/
theorem Pr.maxL {v : AV} {xs : List Int} (hv : LstV σ v (zs xs)) (hne : 0 < xs.length) (h : ∀ x ∈ xs, (∀ y ∈ xs, y ≤ x) → Q (I x) σ) : Pr c true k σ (fun vs => call (.builtin "max") vs) [v] Q X := .of1 fun A s ads fr L cx R S Vx => by
  obtain ⟨l, items, as, rfl, hl, r⟩ : ∃ l items as, cx = .ref l ∧ s.heap.IsList l items ∧ ReadsAll s.heap items.toList (zs xs) as := by
    cases hv with
    | list =>
      obtain ⟨as, rx, hh⟩ := Vx
      cases rx with
      | list h1 h2 h3 h4 => exact ⟨_, _, _, rfl, ⟨_, h1, h2, _, h3⟩, h4⟩
    | obj hx =>
      obtain ⟨a, ha, rfl⟩ := Vx
      obtain ⟨its, as, hp, r, _⟩ := S.obj _ _ a hx ha
      exact ⟨_, _, _, rfl, hp.isList, r⟩
  have hsz : items.size = xs.length := by simpa using readsAll_size r
  have hit : ∀ (i : Nat) (v : Value), items[i]? = some v → ∃ t, v = Value.int (xs.getD i 0) t := fun i v e => by
    have hi : i < xs.length := by rw [← hsz]; exact (Array.getElem?_eq_some_iff.mp e).1
    obtain ⟨cv, as', h5, h6, _⟩ := readsAll_nth _ _ _ i (PyData.int (xs.getD i 0)) r (zs_get hi)
    have e' : items.toList[i]? = some v := by simpa using e
    rw [e'] at h5; cases h5
    cases h6
    exact ⟨_, rfl⟩
  have hlt : l < s.heap.objs.size := by obtain ⟨_, e, _⟩ := hl; exact Heap.lt_size e
  refine call_max_walk (wpAny_pyIter_list hl ?_)
  refine ⟨_, _, _, _, _, _, _, rfl, Walks.list (A := A.in1) (R.quiet rfl) _ l (Nat.ne_of_lt hlt) items, ⟨⟨_, Heap.get?_push_size _ rfl, rfl, rfl⟩, hl.push _⟩, fun b hb => ?_, by omega, CmpOf.ints_gt (fun i => xs.getD i 0) hit, fun v h' tk hP hk => ?_⟩
  · show b < (s.heap.push _).objs.size
    rw [Heap.size_push]
    rcases List.mem_cons.mp hb with rfl | hb
    · exact Nat.lt_succ_self _
    · rw [List.mem_singleton.mp hb]; exact Nat.lt_succ_of_lt hlt
  · have hb := best_le (fun i j => decide (xs.getD i 0 > xs.getD j 0)) (items.size - 1)
    have hbest := best_is (bt := fun i j => decide (xs.getD i 0 > xs.getD j 0)) (fun i => by simp) (fun i j l a b => by have := of_decide_eq_true a; have := of_decide_eq_true b; exact decide_eq_true (by omega)) (items.size - 1)
    obtain ⟨t, rfl⟩ := hit _ _ hP
    generalize argBest _ _ = j at hb hbest hP
    have hj : j < xs.length := by omega
    have hkk : ∀ b o, s.heap.get? b = some o → h'.get? b = some o := fun b o e => hk b o (by simpa using Nat.ne_of_lt (Heap.lt_size e)) (Heap.get?_push_of_some _ e)
    refine EvQ.here (v := I (xs.getD j 0)) (s' := { s with heap := h', toks := tk }) S ⟨hkk, h', tk, rfl⟩ ⟨[], .int _ _, fun _ ha => nomatch ha⟩ (h _ ?_ fun y hy => ?_)
    · rw [List.getD_eq_getElem?_getD, List.getElem?_eq_getElem hj]; exact List.getElem_mem hj
    · obtain ⟨i, hi, rfl⟩ := List.getElem_of_mem hy
      have := of_decide_eq_false (hbest i (by omega))
      have e : xs.getD i 0 = xs[i] := by rw [List.getD_eq_getElem?_getD, List.getElem?_eq_getElem hi]; rfl
      omega
end

-- Core41

section
variable {c : Cx} {q t : Bool} {k : Nat} {sc : Scope} {ρ : Lo} {σ : AH} {Q : AV → AH → Prop} {X : Addr → AH → Prop}
theorem Pr.isNone_none (h : Q (B true) σ) : Pr c q k σ (f2 (compareOp .Is)) [No, No] Q X := .of2 fun A s ads fr L cx cy R S Vx Vy => by
  obtain ⟨_, rx, _⟩ := Vx
  obtain ⟨_, ry, _⟩ := Vy
  cases rx; cases ry
  exact wpAny_is_self rfl (.bool S h)
end
section
variable {c : Cx} {t : Bool} {k : Nat} {sc : Scope} {ρ : Lo} {σ : AH} {Q : Fw → Lo → AH → Prop} {X : Addr → Lo → AH → Prop}
/-- a, b = e -/
theorem Ex.unpack2 {a b : Str} {pa pb tp pos : Pos} {kk : Nat} {value : Expr} (ha : sc.names.lookup a = some .local ∨ sc.names.lookup a = some .cell) (hb : sc.names.lookup b = some .local ∨ sc.names.lookup b = some .cell)
    (h : Ev c true t k sc ρ σ value (fun v σ₁ => ∃ d1 d2, v = T [d1, d2] ∧ Q .next (upd b (.dat d2) (upd a (.dat d1) ρ)) σ₁) (fun C σ₁ => X C ρ σ₁))
    (hs : ∀ env, swapsWithSole [.Tuple [.Name a pa, .Name b pb] kk tp] value pos.line env = pure false := by intro _; rfl)
    (hw : ∀ env, swappedStores [.Tuple [.Name a pa, .Name b pb] kk tp] value env = pure none := by intro _; rfl) :
    Ex c true t k sc ρ σ (.Assign [.Tuple [.Name a pa, .Name b pb] kk tp] value pos) Q X := fun A env s ads fr H => by
  refine Assign_Tuple (wpAny_mono (h.at H) (fun cv s₁ hq => ?_) fun _ _ z => z.own H) (hs env) (hw env)
  obtain ⟨v, σ₁, ⟨d1, d2, rfl, hQ⟩, G₁, S₁, as, r, hh⟩ := hq
  have H₁ := H.go G₁ S₁
  cases r with
  | @tuple tt o vs n xs as h1 h2 h3 h4 =>
    have hsz := readsAll_size h4
    have ht : IsTup s₁.heap tt vs := ⟨_, h1, h2, _, h3⟩
    obtain ⟨l⟩ := vs
    cases h4 with
    | @cons v1 vs1 _ _ as1 bs1 r1 r1' =>
      cases r1' with
      | @cons v2 vs2 _ _ as2 bs2 r2 r2' =>
        cases r2'
        refine assign_Tuple_tuple (H₁.R.quiet rfl) ht rfl rfl fun h' he => ?_
        have Gw : Grow s₁ { s₁ with heap := h' } := ⟨fun b o e => he b o (Nat.ne_of_lt (Heap.lt_size e)) e, h', s₁.toks, rfl⟩
        have H₂ := H₁.go (Gw.go nil ads) (S₁.grow Gw)
        have V1 : VR ads fr s₁.heap (.dat d1) v1 := ⟨as1, r1, fun z hz => hh z (by simp [hz])⟩
        have V2 : VR ads fr s₁.heap (.dat d2) v2 := ⟨as2, r2, fun z hz => hh z (by simp [hz])⟩
        refine assignInOrder_cons ?_
        refine wpAny_bind (wpAny_standAt (bindName_ ?_))
        refine bind_wp H₂ ha (V1.grow S₁ Gw) fun s₃ G₃ H₃ => ?_
        refine assignInOrder_cons ?_
        refine wpAny_bind (wpAny_standAt (bindName_ ?_))
        refine bind_wp H₃ hb ((V2.grow S₁ Gw).go H₂.S G₃ fun b z => ?_) fun s₄ G₄ H₄ => ?_
        · rcases z with rfl | ⟨x, hx⟩
          · exact .inl H₂.F.lin
          · exact .inl (H₂.F.cin x b hx).1
        · exact assignInOrder_nil ⟨.next, _, _, ads, hQ, (G₁.trans (Gw.go nil ads)).own.trans (G₃.trans G₄), H₄.S, H₄.F, rfl⟩
end

-- Link

noncomputable abbrev FnRow := Str × List Str × (DefRec × List (Str × Expr))
noncomputable def FnAll (c : Cx) : List FnRow → Prop
  | [] => True
  | e :: l => HD c e.1 e.2.1 e.2.2 ∧ FnAll c l
theorem FnAll.get {c : Cx} (e : FnRow) : ∀ {l : List FnRow} (i : Nat), FnAll c l → l[i]? = some e → HD c e.1 e.2.1 e.2.2 := by
  intro l
  induction l with
  | nil => intro i _ h; cases h
  | cons e' l ih =>
    intro i h hi
    cases i with
    | zero => cases hi; exact h.1
    | succ i => exact ih i h.2 hi
theorem FnAll.isFn {c : Cx} : ∀ {l : List FnRow}, FnAll c l → ∀ x ∈ l.map (·.1), IsFn c x
  | [], _, _, h => nomatch h
  | e :: l, h, x, hx => by
    rcases List.mem_cons.mp hx with rfl | hx
    · exact h.1.isFn
    · exact FnAll.isFn h.2 x hx
theorem all0 {P : List Value → Prop} (h : P []) : ∀ l : List Value, l.length = 0 → P l := fun l hl => List.eq_nil_of_length_eq_zero hl ▸ h
theorem allS {P : List Value → Prop} {n : Nat} (h : ∀ v, ∀ l : List Value, l.length = n → P (v :: l)) (l : List Value) (hl : l.length = n + 1) : P l := by
  cases l with
  | nil => cases hl
  | cons v l => exact h v l (Nat.succ.inj hl)
theorem all1 {P : List Value → Prop} (h : ∀ v0, P [v0]) : ∀ l : List Value, l.length = 1 → P l := allS fun v0 => all0 (P := fun l => P (v0 :: l)) (h v0)
theorem all2 {P : List Value → Prop} (h : ∀ v0 v1, P [v0, v1]) : ∀ l : List Value, l.length = 2 → P l := allS fun v0 => all1 (P := fun l => P (v0 :: l)) (h v0)
theorem all3 {P : List Value → Prop} (h : ∀ v0 v1 v2, P [v0, v1, v2]) : ∀ l : List Value, l.length = 3 → P l := allS fun v0 => all2 (P := fun l => P (v0 :: l)) (h v0)
theorem all4 {P : List Value → Prop} (h : ∀ v0 v1 v2 v3, P [v0, v1, v2, v3]) : ∀ l : List Value, l.length = 4 → P l := allS fun v0 => all3 (P := fun l => P (v0 :: l)) (h v0)
/-! from the head to the names -/
section
variable {p : Program} {loose : List Str} {R : WRecords} {XP : (Str → Option Value) → Heap → Prop} {w : World} {s₀ : Shared} {mg mb : Str → Option Value} {h : Heap} {pr : Program}

theorem HD.of (G : Ground p loose R XP w s₀ mg mb h) {x : Str} {ps : List Str} {d : DefRec × List (Str × Expr)} (e : defOf p x = some d) (hd : d.1.params.defaults = [])
    (hb : ∀ pm cd doc kV cvs, cvs.length = ps.length → bindArgs { docDef d.1.name d.1.params d.1.body d.1.scope pm cd doc with defaults := .none, kwdefaults := kV } ⟨cvs, []⟩ = pure (ps.zip cvs))
    (co : d.1.scope.isCoroutine = false) (gen : d.1.scope.isGenerator = false) (kind : d.1.scope.kind = .function) (names : ∀ q ∈ ps, d.1.scope.names.lookup q = some .local ∨ d.1.scope.names.lookup q = some .cell) (nodup : ps.Nodup) :
    HD ⟨pr, w, h, mg⟩ x ps d := by
  obtain ⟨d, kw⟩ := d
  obtain ⟨a, o, pm, cd, doc, dV, kV, h1, h2, h3, h4, h5⟩ := G.fn e
  obtain rfl := h5.none hd
  exact ⟨a, _, { mg := h1, at' := ⟨o, h2, h3⟩, body := rfl, scope := rfl, closure := rfl, globals := rfl, builtins := rfl, code := h4, binds := fun cvs hl => hb pm cd doc kV cvs hl, co := co, gen := gen, kind := kind, names := names, nodup := nodup }⟩
theorem Gd.of (G : Ground p loose R XP w s₀ mg mb h) : Gd ⟨pr, w, h, mg⟩ := ⟨G.T.g, ⟨mb, G.T.b, G.T.builtins⟩, G.T.nolimit⟩
theorem const_of (G : Ground p loose R XP w s₀ mg mb h) {x : Str} {i : Int} (e : valOf p x = some (.int i)) : ∃ tk, mg x = some (.int i tk) := by
  obtain ⟨v, h1, h2⟩ := G.T.const x _ e
  have := h2 h
  cases this
  exact ⟨_, h1⟩

theorem post_ok (l : OpenLaw) (args : List WData) : l.row.claim.post args (.bool true) args = true := by with_unfolding_all rfl
/-- the end of a law -/
theorem law_end {l : OpenLaw} {args : List WData} {s₁ : Shared} {fa a : Addr} {ws : List Int} {as : List Addr} {K : Nat} {cs : Str → Option Addr} {mean : ExcName → Option Value}
    (hm : mg "law" = some (.ref fa)) (r : Reads s₁.heap (.ref a) (.list (ws.map .int)) as) (hg : s₁.gens = #[]) (hK : K ≤ 100)
    (main : Cl ⟨pr, w, s₁.heap, mg⟩ true K "law" [Ls (zs ws)] [] (fun v _ => v = B true) NoX) :
    wpAny (model pr w) callerA (call (.ref fa) [.ref a]) (fun v s' => GoodWG l.row.claim cs mean args s₁ (.ok (.ret v)) s') (fun e s' => GoodWG l.row.claim cs mean args s₁ (.error e) s') s₁ := by
  refine wpAny_mono (main fa hm callerA s₁ [] [] none [.ref a] ⟨?_, ?_, fun _ => rfl, [], rfl, fun _ he => (nomatch he)⟩ ⟨fun _ _ e => e, rfl, List.nodup_nil, fun _ ha => ha.elim (fun z => (nomatch z)) (fun z => (nomatch z)), fun i o a h1 h2 => by simp at h1, fun _ hb => (nomatch hb), fun _ hb => (nomatch hb)⟩
    ⟨.ref a, [], rfl, ⟨as, r, fun _ _ => ⟨fun z => (nomatch z), fun z => (nomatch z)⟩⟩, rfl⟩) (fun v s' hq => ?_) fun e s' hx => ?_
  · have : callerA.depth = 301 := rfl
    have : recursionLimit = 1000 := rfl
    omega
  · have : callerA.units = 4 := rfl
    have : cLine = 9900 := rfl
    omega
  · obtain ⟨v', σ', rfl, G, S, as', r', _⟩ := hq
    cases r'
    obtain ⟨h', tk, rfl⟩ := G.rest
    exact GoodW.toG ⟨.inl ⟨.bool true, .bool true, [], rfl, fun _ => rfl, .bool _, post_ok l args, fun _ => ⟨List.nodup_nil, fun _ ha => (nomatch ha)⟩⟩, S.stays, rfl, hg⟩
  · obtain ⟨C, σ', e', _, h1, _⟩ := hx
    exact h1.elim
end

-- Math1

/-! rings, plainly: who may step, what a step does -/
theorem mv_get {xs : List Int} {K : Int} {m i : Nat} (hm : m < xs.length) : (mv xs K m).getD i 0 = if i = m then (if m = 0 then (xs.getD 0 0 + 1).fmod K else xs.getD (m - 1) 0) else xs.getD i 0 := by
  unfold mv
  simp only [List.getD_eq_getElem?_getD, List.getElem?_set]
  by_cases h : m = i
  · subst h
    rw [if_pos rfl, if_pos hm, if_pos rfl]; rfl
  · rw [if_neg h, if_neg (fun z => h z.symm)]
theorem mv_len {xs : List Int} {K : Int} {m : Nat} : (mv xs K m).length = xs.length := by unfold mv; simp

theorem Rg.mv {xs : List Int} {n : Nat} {K : Int} {m : Nat} (R : Rg xs n K) (hm : m < n) : Rg (Mine.mv xs K m) n K := by
  have hl := R.len
  have h2 := R.two
  have hk := R.k2
  refine ⟨by rw [mv_len]; exact hl, R.two, R.top, R.k2, R.k100, fun i hi => ?_, fun i hi => ?_⟩
  · rw [mv_get (by omega)]
    split
    · split
      · exact Int.fmod_nonneg_of_pos _ (by omega)
      · exact R.lo _ (by omega)
    · exact R.lo i hi
  · rw [mv_get (by omega)]
    split
    · split
      · exact Int.fmod_lt_of_pos _ (by omega)
      · exact R.hi _ (by omega)
    · exact R.hi i hi

theorem may0 {xs : List Int} : may xs 0 = true ↔ xs.getD 0 0 = xs.getD (xs.length - 1) 0 := by unfold may; simp
theorem mayS {xs : List Int} {m : Nat} (h : 0 < m) : may xs m = true ↔ xs.getD m 0 ≠ xs.getD (m - 1) 0 := by unfold may; rw [if_neg (by omega)]; exact decide_eq_true_iff

/-- the machines that may step, as numbers from 0 on -/
noncomputable def ableN (xs : List Int) : List Nat := (List.range xs.length).filter (may xs)
theorem ableL_eq (xs : List Int) : ableL xs = (ableN xs).map fun (n : Nat) => (n : Int) := rfl
theorem ableL_len (xs : List Int) : (ableL xs).length = (ableN xs).length := by rw [ableL_eq, List.length_map]
theorem mem_able {xs : List Int} {m : Nat} : m ∈ ableN xs ↔ m < xs.length ∧ may xs m = true := by
  unfold ableN; rw [List.mem_filter, List.mem_range]
/-- like neighbours all along -/
theorem alike_upto {xs : List Int} {p : Nat} (h : ∀ i, 0 < i → i ≤ p → xs.getD i 0 = xs.getD (i - 1) 0) : ∀ i, i ≤ p → xs.getD i 0 = xs.getD 0 0 := by
  intro i
  induction i with
  | zero => intro _; rfl
  | succ i ih => intro hi; rw [h (i + 1) (by omega) hi]; exact ih (by omega)
/-- one may step always -/
theorem able_some {xs : List Int} (h2 : 2 ≤ xs.length) : 0 < (ableN xs).length := by
  by_cases h : ∃ i, 0 < i ∧ i < xs.length ∧ xs.getD i 0 ≠ xs.getD (i - 1) 0
  · obtain ⟨i, h1, h2, h3⟩ := h
    exact List.length_pos_of_mem (mem_able.mpr ⟨h2, (mayS h1).mpr h3⟩)
  · have : ∀ i, 0 < i → i ≤ xs.length - 1 → xs.getD i 0 = xs.getD (i - 1) 0 := fun i h1 h2 => Classical.byContradiction fun hn => h ⟨i, h1, by omega, hn⟩
    have e := alike_upto this (xs.length - 1) (Nat.le_refl _)
    exact List.length_pos_of_mem (mem_able.mpr ⟨show 0 < xs.length by omega, may0.mpr e.symm⟩)

-- Math2

/-! counts of steps -/
noncomputable def bump (cs : Nat → Nat) (m : Nat) : Nat → Nat := fun k => if k = m then cs k + 1 else cs k
noncomputable def sumTo (cs : Nat → Nat) : Nat → Nat
  | 0 => 0
  | n + 1 => sumTo cs n + cs n
/-- a machine steps at most once more than the one before it -/
noncomputable def Lag (n : Nat) (xs : List Int) (cs : Nat → Nat) : Prop := ∀ k, 0 < k → k < n → cs k ≤ cs (k - 1) + if xs.getD k 0 = xs.getD (k - 1) 0 then 1 else 0
/-! no more than so many in a list without doubles -/
theorem few_in {α : Type} [BEq α] [LawfulBEq α] : ∀ (L M : List α), L.Nodup → (∀ a ∈ L, a ∈ M) → L.length ≤ M.length
  | [], _, _, _ => Nat.zero_le _
  | a :: L, M, nd, h => by
    obtain ⟨h1, h2⟩ := List.nodup_cons.mp nd
    have ha := h a List.mem_cons_self
    have := few_in L (M.erase a) h2 fun b hb => (List.mem_erase_of_ne (show b ≠ a from fun e => h1 (e ▸ hb))).mpr (h b (List.mem_cons_of_mem _ hb))
    rw [List.length_erase_of_mem ha] at this
    have := List.length_pos_of_mem ha
    simp only [List.length_cons]
    omega

noncomputable def turn (x : Int) (K : Int) (a : Nat) : Int := (x + a).fmod K
structure Run (x0 : Int) (n : Nat) (K : Int) (j : Nat) (xs : List Int) (cs : Nat → Nat) : Prop where
  rg : Rg xs n K
  lag : Lag n xs cs
  le : cs 0 ≤ j
  first : xs.getD 0 0 = turn x0 K (cs 0)
  before : cs 0 < j → ∀ i, 0 < i → i < n → xs.getD i 0 ≠ turn x0 K j
  after : cs 0 = j → ∀ i, 0 < i → i < n → xs.getD i 0 = turn x0 K j → xs.getD (i - 1) 0 = turn x0 K j

-- Math3

/-! all rings -/
noncomputable def allR (K : Nat) : Nat → List (List Int)
  | 0 => [[]]
  | n + 1 => (allR K n).flatMap fun r => (List.range K).map fun (v : Nat) => r ++ [(v : Int)]
theorem allR_len (K n : Nat) : (allR K n).length = K ^ n := by
  induction n with
  | zero => rfl
  | succ n ih =>
    have e : ∀ l : List (List Int), (l.map fun _ => K).sum = l.length * K := fun l => by
      induction l with
      | nil => simp
      | cons x l ih => simp [ih, Nat.succ_mul, Nat.add_comm]
    rw [allR, List.length_flatMap, Nat.pow_succ, ← ih]
    simp only [List.length_map, List.length_range]
    exact e _
theorem allR_each {K n : Nat} {r : List Int} : r ∈ allR K n ↔ r.length = n ∧ ∀ i, i < n → 0 ≤ r.getD i 0 ∧ r.getD i 0 < K := by
  induction n generalizing r with
  | zero =>
    simp only [allR, List.mem_singleton]
    constructor
    · rintro rfl; exact ⟨rfl, fun i hi => by omega⟩
    · intro h; exact List.length_eq_zero_iff.mp h.1
  | succ n ih =>
    simp only [allR, List.mem_flatMap, List.mem_map, List.mem_range]
    constructor
    · rintro ⟨r', h1, v, hv, rfl⟩
      obtain ⟨h2, h3⟩ := ih.mp h1
      refine ⟨by simp [h2], fun i hi => ?_⟩
      by_cases e : i = n
      · subst e
        have : (r' ++ [(v : Int)]).getD i 0 = v := by rw [← h2]; simp
        omega
      · have : (r' ++ [(v : Int)]).getD i 0 = r'.getD i 0 := by rw [List.getD_eq_getElem?_getD, List.getD_eq_getElem?_getD, List.getElem?_append_left (by omega)]
        rw [this]; exact h3 i (by omega)
    · rintro ⟨h1, h2⟩
      have hne : r ≠ [] := fun z => by rw [z] at h1; simp at h1
      have hd := List.dropLast_concat_getLast hne
      have hl : r.dropLast.length = n := by simp [h1]
      have hg : r.getLast hne = r.getD n 0 := by
        rw [List.getLast_eq_getElem, List.getD_eq_getElem?_getD, List.getElem?_eq_getElem (by omega)]; simp [h1]
      have hn := h2 n (by omega)
      refine ⟨r.dropLast, ih.mpr ⟨hl, fun i hi => ?_⟩, (r.getD n 0).toNat, by omega, ?_⟩
      · have : r.dropLast.getD i 0 = r.getD i 0 := by
          rw [List.getD_eq_getElem?_getD, List.getD_eq_getElem?_getD, List.getElem?_dropLast, if_pos (by omega)]
        rw [this]; exact h2 i (by omega)
      · rw [Int.toNat_of_nonneg hn.1, ← hg]; exact hd
theorem rg_all {K n : Nat} {r : List Int} (h2 : 2 ≤ n) (h12 : n ≤ 12) (hk : 2 ≤ K) (hk' : K ≤ 100) : r ∈ allR K n ↔ Rg r n K := by
  rw [allR_each]
  constructor
  · rintro ⟨h, h'⟩; exact ⟨h, h2, h12, by omega, by omega, fun i hi => (h' i hi).1, fun i hi => (h' i hi).2⟩
  · intro R; exact ⟨R.len, fun i hi => ⟨R.lo i hi, R.hi i hi⟩⟩
theorem lex_app {a b : List Int} (h : lexLt a b = true) (hl : a.length = b.length) (x y : List Int) : lexLt (a ++ x) (b ++ y) = true := by
  induction a generalizing b with
  | nil => cases b with
    | nil => simp [lexLt] at h
    | cons => simp at hl
  | cons u a ih =>
    cases b with
    | nil => simp at hl
    | cons v b =>
      rw [List.cons_append, List.cons_append]
      unfold lexLt at h ⊢
      by_cases e : u = v
      · rw [if_pos e] at h ⊢; exact ih h (by simpa using hl)
      · rw [if_neg e] at h ⊢; exact h
theorem lex_last (a : List Int) {x y : Int} (h : x < y) : lexLt (a ++ [x]) (a ++ [y]) = true := by
  induction a with
  | nil => simp only [List.nil_append]; unfold lexLt; rw [if_neg (by omega)]; exact decide_eq_true h
  | cons u a ih => rw [List.cons_append, List.cons_append]; unfold lexLt; rw [if_pos rfl]; exact ih
theorem allR_sorted (K n : Nat) : (allR K n).Pairwise fun a b => lexLt a b = true := by
  induction n with
  | zero => simp [allR]
  | succ n ih =>
    unfold allR
    rw [List.pairwise_flatMap]
    refine ⟨fun r _ => ?_, ?_⟩
    · rw [List.pairwise_map]
      exact List.Pairwise.imp (fun h => lex_last r (by omega)) List.pairwise_lt_range
    · refine List.Pairwise.imp_of_mem ?_ ih
      intro a b ha hb h x hx y hy
      obtain ⟨_, _, rfl⟩ := List.mem_map.mp hx
      obtain ⟨_, _, rfl⟩ := List.mem_map.mp hy
      exact lex_app h ((allR_each.mp ha).1.trans (allR_each.mp hb).1.symm) _ _
theorem allR_nodup (K n : Nat) : (allR K n).Nodup := by
  rw [List.nodup_iff_pairwise_ne]
  refine List.Pairwise.imp ?_ (allR_sorted K n)
  intro a b h e
  rw [e, lexLt_irr] at h; cases h

/-! how long an order may last -/
noncomputable def mx (l : List Nat) : Nat := l.foldl max 0
noncomputable def hF (K : Int) : Nat → List Int → Nat
  | 0, _ => 0
  | f + 1, r => if (ableN r).length ≤ 1 then 0 else 1 + mx ((ableN r).map fun m => hF K f (mv r K m))
noncomputable def ht (n : Nat) (K : Int) (r : List Int) : Nat := hF K (3 * n * (n - 1) / 2 + 1) r
-- Core42

/-! defs that hand out a table of their own -/
noncomputable def HandD (n : Nat) (Qd : Mp → Nat → AH → Prop) (fw : Fw) (σ' : AH) : Prop := ∃ i, fw = .ret (.obj i) ∧ n ≤ i ∧ ∃ m ep, σ'[i]? = some (Dc m ep) ∧ Qd m ep (σ'.take n)
theorem HandD.obj {Qd : Mp → Nat → AH → Prop} {n i : Nat} {σ : AH} {m : Mp} {ep : Nat} (hi : n ≤ i) (hx : σ[i]? = some (Dc m ep)) (h : Qd m ep (σ.take n)) : HandD n Qd (.ret (.obj i)) σ := ⟨i, rfl, hi, m, ep, hx, h⟩
theorem OR.weak {ads ads' fr fr' : List Addr} {h : Heap} {o : AO} {a : Addr} (x : OR ads fr h o a) (h1 : ∀ b ∈ ads', b ∈ ads) (h2 : ∀ b ∈ fr', b ∈ fr) : OR ads' fr' h o a := by
  have up : ∀ bs : List Addr, (∀ b ∈ bs, b ∉ ads ∧ b ∉ fr) → ∀ b ∈ bs, b ∉ ads' ∧ b ∉ fr' := fun bs hb b hm => ⟨fun z => (hb b hm).1 (h1 b z), fun z => (hb b hm).2 (h2 b z)⟩
  cases o with
  | list ys => obtain ⟨items, bs, hp, r, hh⟩ := x; exact ⟨items, bs, hp, r, up bs hh⟩
  | dict kvs => obtain ⟨o, es, m, as, bs, e, hc, hd, r1, r2, hh⟩ := x; exact ⟨o, es, m, as, bs, e, hc, hd, r1, r2, up _ hh⟩
noncomputable def EvDQ (c : Cx) (ads fr : List Addr) (s : Shared) (Qd : Mp → Nat → AH → Prop) (cv : Value) (s' : Shared) : Prop :=
  ∃ m ep σ' D, cv = .ref D ∧ Qd m ep σ' ∧ s.heap.get? D = none ∧ Go nil ads ads s s' ∧ St c.base σ' ads (D :: fr) s'.heap ∧ OR (ads ++ [D]) fr s'.heap (Dc m ep) D
noncomputable def PrD (c : Cx) (q : Bool) (k : Nat) (σ : AH) (m : List Value → Sem Value) (args : List AV) (Qd : Mp → Nat → AH → Prop) (X : Addr → AH → Prop) : Prop :=
  ∀ A s ads fr L cvs, RdyC q k A fr s.heap → St c.base σ ads fr s.heap → VRs ads fr s.heap args cvs → wpAny c.M A (m cvs) (EvDQ c ads fr s Qd) (EvX c ads fr L s X) s

section
variable {c : Cx} {q t : Bool} {k : Nat} {sc : Scope} {ρ : Lo} {σ : AH} {Qd : Mp → Nat → AH → Prop} {X : Addr → AH → Prop} {x : Str} {ps : List Str} {body : List Stmt} {f : Addr} {fd : FuncData} {args : List AV}

theorem Fn.introD (g : Gd c) (D : Def c x ps body sc f fd) (hl : args.length = ps.length) (h : Exs c q true k sc (ps.zip args) σ body (fun fw _ σ' => HandD σ.length Qd fw σ') (fun C _ σ' => X C (σ'.take σ.length))) : PrD c q (k + 1) σ (fun vs => call (.ref f) vs) args Qd X := fun A s ads fr L cvs R S V => by
  obtain ⟨o, ho, hd⟩ := D.at'
  have hlc : cvs.length = ps.length := V.length.trans hl
  have hsc : fd.scope = sc := D.scope
  refine wpAny_call (codeAny_call_cells (fd := fd) (body := body) (Nat.lt_of_le_of_lt (Nat.le_add_right _ _) R.depth) (S.stays _ _ ho) hd (g.nolimit.keeps S.stays) (D.code.keeps S.stays) D.body (D.binds cvs hlc) D.closure (fun y hy => ?_) (fun s₁ C => ?_)
    (hsc ▸ D.co) (hsc ▸ D.gen) (hsc ▸ D.kind))
  · have : y.1 ∈ ps := zip_names ps cvs y.1 (List.mem_map_of_mem hy)
    rw [hsc]
    rcases D.names _ this with h1 | h1
    · exact .inl h1
    · exact .inr ⟨h1, cells_some _ _ _ (.inl h1)⟩
  · generalize henv : callEnvC fd s.heap.objs.size f = env at C ⊢
    have e1 : env.scope = sc := by rw [← henv]; exact hsc
    have e2 : env.globals = mainGlobals := by rw [← henv]; exact D.globals
    have e3 : env.builtins = builtinsNs := by rw [← henv]; exact D.builtins
    have e4 : env.locals = s.heap.objs.size := by rw [← henv]; rfl
    have e5 : env.frame = some env.locals := by rw [← henv]; rfl
    have e6 : env.cells = cellsFrom (s.heap.objs.size + 1) sc.names [] := by rw [← henv]; show cellsFrom _ fd.scope.names [] = _; rw [hsc]
    have hk := C.toInCall.keep
    have G0 : Grow s s₁ := ⟨hk, C.toInCall.same⟩
    have hin : ∀ b, b ∈ env.locals :: (env.cells.map (·.1)).filterMap (fun n => env.cells.lookup n) → b = env.locals ∨ ∃ n, env.cells.lookup n = some b := fun b hb => by
      rcases List.mem_cons.mp hb with rfl | hb
      · exact .inl rfl
      · obtain ⟨n, _, hq⟩ := List.mem_filterMap.mp hb
        exact .inr ⟨n, hq⟩
    have hin' : ∀ n cl, env.cells.lookup n = some cl → cl ∈ env.locals :: (env.cells.map (·.1)).filterMap (fun n => env.cells.lookup n) := fun n cl hq =>
      List.mem_cons_of_mem _ (List.mem_filterMap.mpr ⟨n, List.mem_map.mpr ⟨_, mem_of_lookup hq, rfl⟩, hq⟩)
    have hn : ∀ b ∈ env.locals :: (env.cells.map (·.1)).filterMap (fun n => env.cells.lookup n), s.heap.get? b = none := fun b hb => by
      rcases hin b hb with rfl | ⟨n, hq⟩
      · exact Heap.get?_none_of_le C.toInCall.fresh
      · exact Heap.get?_none_of_le (Nat.le_trans C.toInCall.fresh (Nat.le_of_lt (C.above n b (mem_of_lookup hq))))
    generalize hfr : env.locals :: (env.cells.map (·.1)).filterMap (fun n => env.cells.lookup n) = fr' at hin hin' hn
    have hlin : env.locals ∈ fr' := by rw [← hfr]; exact List.mem_cons_self
    have S₁ : St c.base σ ads (fr' ++ fr) s₁.heap := (S.grow G0).inner (h₀ := s.heap) S.stays S hn (fun b hb => by
      rcases hin b hb with rfl | ⟨n, hq⟩
      · obtain ⟨o, es, ep, e, hd, _⟩ := C.toInCall.ns
        exact ⟨o, e, .inl ⟨es, ep, hd⟩⟩
      · obtain ⟨o, e, hd⟩ := C.cell n b hq
        exact ⟨o, e, .inr (.inl ⟨_, hd⟩)⟩) S.obj hk
    have V₁ : VRs ads (fr' ++ fr) s₁.heap args cvs := V.inner hk hn
    have F₁ : FrR ads (fr' ++ fr) env (ps.zip args) s₁.heap := by
      refine ⟨e1 ▸ D.kind, e2, e3, List.mem_append_left _ hlin, ⟨_, C.toInCall.ns, fun y v hy => ?_⟩, fun y hy => ?_, fun n cl hq => ⟨List.mem_append_left _ (hin' n cl hq), Nat.ne_of_gt (C.above n cl (mem_of_lookup hq))⟩, fun y z cl h1 h2 => name_of_addr C.apart (mem_of_lookup h1) (mem_of_lookup h2)⟩
      · obtain ⟨cv, hv, hL, hC⟩ := bind_get env.kindOf ps args cvs (fun _ => none) (fun _ => none) D.nodup V₁ y v hy
        have hyp : y ∈ ps := by
          have : ∀ (ps : List Str) (args : List AV), (ps.zip args).lookup y = some v → y ∈ ps := by
            intro ps
            induction ps with
            | nil => intro args h; simp at h
            | cons p ps ih =>
              intro args h
              cases args with
              | nil => simp at h
              | cons a as =>
                simp only [List.zip_cons_cons, List.lookup_cons] at h
                by_cases hyp : (y == p) = true
                · rw [beq_iff_eq.mp hyp]; exact List.mem_cons_self
                · simp only [Bool.not_eq_true] at hyp
                  rw [hyp] at h
                  exact List.mem_cons_of_mem _ (ih as h)
          exact this ps args hy
        have hkd : env.kindOf y = some .local ∨ env.kindOf y = some .cell := by unfold Env.kindOf; rw [e1]; exact D.names y hyp
        rcases hkd with h1 | h1
        · exact .inl ⟨h1, cv, hL h1, hv⟩
        · have hcs : ((cellsFrom (s.heap.objs.size + 1) sc.names []).lookup y).isSome = true := cells_some _ _ _ (.inl (by unfold Env.kindOf at h1; rw [e1] at h1; exact h1))
          obtain ⟨cl, hcl⟩ := Option.isSome_iff_exists.mp hcs
          rw [← e6] at hcl
          exact .inr ⟨.inl h1, cl, cv, hcl, (hC (by rw [h1]; simp)) ▸ C.cell y cl hcl, hv⟩
      · have hcs : ((cellsFrom (s.heap.objs.size + 1) sc.names []).lookup y).isSome = true := cells_some _ _ _ (.inl (by unfold Env.kindOf at hy; rw [e1] at hy; exact hy))
        obtain ⟨cl, hcl⟩ := Option.isSome_iff_exists.mp hcs
        rw [← e6] at hcl
        exact ⟨cl, _, hcl, C.cell y cl hcl⟩
    obtain ⟨l, hA, hlf⟩ := R.frames
    have hA₁ : (A.deeper env).frames = some (env :: l) := by show A.frames.map (env :: ·) = _; rw [hA]; rfl
    have hfo : FrOk (fr' ++ fr) s₁.heap (env :: l) := fun e he => by
      rcases List.mem_cons.mp he with rfl | he
      · obtain ⟨o, es, ep, ee, hd, _⟩ := C.toInCall.ns
        exact ⟨by rw [e1, D.kind]; decide, _, e5, List.mem_append_left _ hlin, o, es, ep, ee, hd⟩
      · obtain ⟨h3, L', h4, h5, o, es, n, h6, h7⟩ := hlf e he
        exact ⟨h3, L', h4, List.mem_append_right _ h5, o, es, n, hk _ _ h6, h7⟩
    have R₁ : Rdy q true k (A.deeper env) env (fr' ++ fr) s₁.heap :=
      ⟨⟨by show A.depth + 1 + k < _; have := R.depth; omega, by show A.units + 3 + 8 * k + 100 < _; have := R.units; omega, R.quiet, env :: l, hA₁, hfo⟩, fun _ => ⟨e5, l, hA₁⟩⟩
    have toGs : ∀ {ads' : List Addr} {s' : Shared} (r : List Addr), ads' = ads ++ r → Go (Own env) ads ads' s₁ s' → Go nil ads ads s s' := fun {ads' s'} r hr G => by
      have G' := (G0.go (Own env) ads).trans G
      refine ⟨fun b o e hb => ?_, G'.live, G'.rest, ⟨[], by simp⟩, fun _ h => .inl h⟩
      obtain ⟨o', e', h1, h2⟩ := G'.kp b o e hb
      refine ⟨o', e', fun _ => h1 fun q => ?_, h2⟩
      rcases q with rfl | ⟨n, hq⟩
      · exact no_some (hn _ hlin) e
      · exact no_some (hn _ (hin' n b hq)) e
    refine wpAny_mono (h (A.deeper env) env s₁ ads (fr' ++ fr) ⟨e1, R₁, F₁, S₁⟩) (fun fl s' hq => ?_) fun ce s' hx => ?_
    · obtain ⟨fw, ρ', σ', ads', hQ, G, S', F', hf⟩ := hq
      obtain ⟨r, rfl⟩ := G.pre
      have Gs := toGs r rfl G
      obtain ⟨i, rfl, hi, m, ep, hx, hQ⟩ := hQ
      obtain ⟨cv, rfl, V⟩ := hf
      obtain ⟨a, ha, rfl⟩ := V
      have hO := S'.obj i _ a hx ha
      obtain ⟨S2, hna, hr⟩ := S'.asNew S.len hi ha
      have hnew : s.heap.get? a = none := by
        rcases G.new a (List.mem_of_getElem? ha) with z | z
        · exact absurd z hna
        · cases e' : s.heap.get? a with
          | none => rfl
          | some o => rw [hk _ _ e'] at z; cases z
      exact ⟨m, ep, _, a, rfl, hQ, hnew, Gs, S2, hO.weak (fun b hb => (List.mem_append.mp hb).elim (List.mem_append_left _) fun z => by rw [List.mem_singleton.mp z]; exact List.mem_of_getElem? ha) fun b hb => List.mem_append_right _ hb⟩
    · obtain ⟨C', ρ', σ', ads', e, rfl, h1, G, S', F', Fl'⟩ := hx
      obtain ⟨r, rfl⟩ := G.pre
      refine leave_wp (s₀ := s₁) e5 hA₁ (hfo.go S₁ G) G S' S₁.stays Fl' fun s'' G'' S'' Fl'' => ?_
      exact ⟨C', _, e, rfl, h1, toGs r rfl G'', S''.outer S.len, (Fl'' L).mono fun a z => by
        cases e' : s.heap.get? a with
        | none => rfl
        | some o => rw [hk _ _ e'] at z; cases z⟩



noncomputable def ClD (c : Cx) (q : Bool) (k : Nat) (x : Str) (args : List AV) (σ : AH) (Qd : Mp → Nat → AH → Prop) (X : Addr → AH → Prop) : Prop := ∀ f, c.mg x = some (.ref f) → PrD c q k σ (fun vs => call (.ref f) vs) args Qd X
theorem ClD.intro (g : Gd c) {d : DefRec × List (Str × Expr)} (D : HD c x ps d) (hl : args.length = ps.length) (h : Exs c q true k d.1.scope (ps.zip args) σ d.1.body (fun fw _ σ' => HandD σ.length Qd fw σ') (fun C _ σ' => X C (σ'.take σ.length))) : ClD c q (k + 1) x args σ Qd X := fun f hf => by
  obtain ⟨f', fd, D⟩ := D
  have e := D.mg
  rw [hf] at e
  cases e
  exact Fn.introD g D hl h
end
section
variable {c : Cx} {q t : Bool} {k : Nat} {sc : Scope} {ρ : Lo} {σ : AH} {Q : Fw → Lo → AH → Prop} {X : Addr → Lo → AH → Prop}
/-- y = f(..), which hands out a table -/
theorem Ex.assignCallD (g : Gd c) {x y : Str} {py p pos cpos : Pos} {e : Expr} {rest : List Expr} (hy : sc.names.lookup y = some .local ∨ sc.names.lookup y = some .cell) (hf : IsFn c x) (hk : sc.names.lookup x = some .globalImplicit)
    (h : Evs c q t k sc ρ σ (e :: rest) (fun vs σ₁ => ClD c q k x vs σ₁ (fun m ep σ₂ => Q .next (upd y (.obj σ₂.length) ρ) (σ₂ ++ [Dc m ep])) (fun C σ₁ => X C ρ σ₁)) (fun C σ₁ => X C ρ σ₁)) (hdb : (x == ("__debug__" : Str)) = false := by decide)
    (he : ∀ env, starEach (e :: rest) env = (false, eval e env) :: starEach rest env := by intro _; rfl)
    (hs : ∀ env, swapsWith (.Call (.Name x p) (e :: rest) [] cpos) (some (.Name y py)) pos.line env = pure false := by intro _; rfl) :
    Ex c q t k sc ρ σ (.Assign [.Name y py] (.Call (.Name x p) (e :: rest) [] cpos) pos) Q X := fun A env s ads fr H => by
  obtain ⟨f, o, fd, h1, h2, h3⟩ := hf
  refine wpAny_Assign_Name (Call_ ?_) (hs env)
  refine Name_function_global H.F.kind (by rw [← H.sc] at hk; exact hk) (loadGlobal_global (by rw [H.F.glob]; exact g.g.keeps H.S.stays) h1 ?_) hdb
  refine callWith_def h3 (wpAny_mono (h A env s ads fr cpos H) (fun cvs s₁ hq => ?_) fun _ _ x => x.own H) (he env)
  obtain ⟨vs, σ₁, hp, G₁, S₁, Vs⟩ := hq
  refine ⟨S₁.stays _ _ h2, wpAny_mono (hp f h1 A s₁ ads fr env.frame cvs (H.go G₁ S₁).R.toRdyC S₁ Vs) (fun cv s₂ hq => ?_) fun _ _ y => (y.trans G₁).own H⟩
  obtain ⟨m, ep, σ₂, D, rfl, hQ, hD, G₂, S₂, hO⟩ := hq
  have hD0 : s.heap.get? D = none := G₁.none hD
  have nf : D ∉ fr := fun z => by obtain ⟨o, e, _⟩ := H.S.frs D z; rw [hD0] at e; cases e
  have S₃ := S₂.trackO nf hO
  have G := G₁.trans G₂
  have G₃ : Go nil ads (ads ++ [D]) s s₂ := ⟨G.kp, G.live, G.rest, ⟨[D], rfl⟩, fun a ha => (List.mem_append.mp ha).imp id fun z => by rw [List.mem_singleton.mp z]; exact hD0⟩
  have H₁ : Here c q t k sc ρ (σ₂ ++ [Dc m ep]) A env s₂ (ads ++ [D]) fr := ⟨H.sc, H.R.go H.S G₃, H.F.go H.S G₃, S₃⟩
  have hl : σ₂.length = ads.length := S₂.len
  refine bind_wp H₁ (v := .obj σ₂.length) hy ⟨D, by rw [hl]; simp, rfl⟩ fun s' G' H' => ⟨.next, _, _, _, hQ, G₃.own.trans G', H'.S, H'.F, rfl⟩
end

-- Core43

/-! list(..), min(..) of a table -/
section
variable {prog : Program} {w : World} {A : Around} {E : Value → Shared → Prop} {s : Shared} {d : Addr} {o : Obj} {es : Array DictEntry} {ep : Nat}
theorem walks_keys (hh : A.handled = none) (It : Addr) (hne : d ≠ It) (hc : o.ExactDict) (hdat : o.data = .dict es ep) :
    Walks prog w A It [It, d] [It] es.size (fun i v => (es.toList.map (·.key))[i]? = some v) (fun i h => h.IsKeyIter It d i es.size ep ∧ h.get? d = some o) where
  sub := fun b hb => by simp at hb; simp [hb]
  frame := fun _ _ _ st hk => ⟨st.1.at fun o e => hk It (by simp) o e, hk d (by simp) _ st.2⟩
  item := fun i s Q E hi st hQ => by
    refine nextE st.1 st.2 hdat (v := es[i].key) (by simp [hi]) fun h' hit' hs' => ?_
    exact hQ _ h' s.toks (by simp [hi]) ⟨hit', (hs'.2 d hne).trans st.2⟩ fun b o hb e => hs'.extBut b o (fun h => hb (by simp [h])) e
  done := fun s Q E st hQ => stopE hh st.1 st.2 hdat (Nat.le_refl _) fun h' he' => hQ h' s.toks fun b o hb e => he' b o (fun h => hb (by simp [h])) e
  self := fun _ _ _ _ st hQ => wpAny_pyIter_keyiter st.1 hQ
theorem src_keys (hd : (d == sysModules) = false) (hc : o.ExactDict) (hdat : o.data = .dict es ep) : PySem.W.KdlSrc prog w "dict" d d es.size (fun i v => (es.toList.map (·.key))[i]? = some v) (fun h => h.get? d = some o) where
  type := fun _ hm => ⟨o, hm, hc.1⟩
  there := fun _ hm => ⟨Heap.lt_size hm, Heap.lt_size hm⟩
  keep := fun _ _ hm hk => hk d (.inl rfl) o hm
  notList := by decide
  notTuple := by decide
  hint := fun _ _ _ _ hm hq => PySem.W.kdl_hint_dict ⟨o, hm, hc.1⟩ hq
  iter := fun _ _ hh hm => ⟨_, _, (fun _ _ hq => iterE hd hm hc hdat hq), walks_keys hh _ (Nat.ne_of_lt (Heap.lt_size hm)) hc hdat, ⟨⟨_, Heap.get?_push_size _ rfl, rfl, rfl⟩, Heap.get?_push_of_some _ hm⟩⟩
end

-- Core44

section
variable {c : Cx} {q t : Bool} {k : Nat} {sc : Scope} {ρ : Lo} {σ : AH} {A : Around} {env : Env} {s s₁ : Shared} {ads fr : List Addr} {Q : AV → AH → Prop} {X : Addr → AH → Prop}
/-- list(table) -/
theorem Pr.listD {i : Nat} {m : Mp} {n : Nat} (hi : σ[i]? = some (Dc m n)) (hl : m.length ≤ 1000) (h : Q (.dat (.list (m.map fun p => PyData.tuple (zs p.1)))) σ) : Pr c true k σ (fun vs => call (.type "list") vs) [.obj i] Q X := .of1 fun A s ads fr L cx R S Vx => by
  obtain ⟨d, hd, rfl⟩ := Vx
  obtain ⟨lo, o, es, e, hc, hdat, r⟩ := (S.obj i _ d hi hd).raw
  have hsz := keys_size r
  refine kdl_call (src_keys lo hc hdat) (R.quiet rfl) e (by rw [sizeLine_eq]; omega) fun h' tk acc' c' hk hD hacc => ?_
  have G : Grow s { s with heap := h', toks := tk } := ⟨hk, h', tk, rfl⟩
  have he : acc'.toList = es.toList.map (·.key) := by
    refine List.ext_getElem? fun j => ?_
    have has := hacc.1
    by_cases hj : j < es.size
    · have hj' : j < acc'.size := by omega
      have := hacc.2 j (acc'[j]) (by simp [hj'])
      rw [this]; simp [hj']
    · rw [List.getElem?_eq_none (by simp; omega), List.getElem?_eq_none (by simp; omega)]
  refine EvQ.here (v := .dat (.list _)) S G ⟨s.heap.objs.size :: [], .list hD rfl rfl (by rw [he]; exact readsAll_keep (P := nil) (fun b o e _ => ⟨o, G.1 b o e, .refl _⟩) (fun _ _ _ _ _ _ _ => id) _ _ _ r fun _ _ => id), fun b hb => ?_⟩ h
  rw [List.mem_singleton.mp hb]
  exact ⟨fun z => by obtain ⟨o, e, _⟩ := S.adAt z; exact absurd (Heap.lt_size e) (Nat.lt_irrefl _), fun z => by obtain ⟨o, e, _⟩ := S.frs _ z; exact absurd (Heap.lt_size e) (Nat.lt_irrefl _)⟩
/-- min(table) -/
theorem Pr.minD {i : Nat} {m : Mp} {n : Nat} (hi : σ[i]? = some (Dc m n)) (hne : 0 < m.length) (h : ∀ x ∈ m.map (·.1), (∀ y ∈ m.map (·.1), lexLt y x = false) → Q (T (zs x)) σ) : Pr c true k σ (fun vs => call (.builtin "min") vs) [.obj i] Q X := .of1 fun A s ads fr L cx R S Vx => by
  obtain ⟨d, hd, rfl⟩ := Vx
  obtain ⟨lo, o, es, e, hc, hdat, r⟩ := (S.obj i _ d hi hd).raw
  have hsz := keys_size r
  have hit : ∀ j v, (es.toList.map (·.key))[j]? = some v → ∃ b, v = .ref b ∧ IsTupleKey (intKind c.prog c.w) s.heap ((m.map (·.1)).getD j []) b := fun j v e => by
    have hj : j < m.length := by rw [← hsz]; have := (List.getElem?_eq_some_iff.mp e).1; simpa using this
    obtain ⟨cv, as', h5, h6, _⟩ := readsAll_nth _ _ _ j (PyData.tuple (zs ((m.map (·.1)).getD j []))) r (by simp [hj])
    rw [e] at h5; cases h5
    obtain ⟨b, rfl, K, _⟩ := key_of (p := c.prog) (w := c.w) h6
    exact ⟨b, rfl, K⟩
  have hlt : d < s.heap.objs.size := Heap.lt_size e
  refine call_minH (iterE lo e hc hdat ?_)
  refine ⟨_, _, _, _, _, _, (fun i j => lexLt ((m.map (·.1)).getD i []) ((m.map (·.1)).getD j [])), rfl, walks_keys (A := A.in1) (R.quiet rfl) _ (Nat.ne_of_lt hlt) hc hdat, ⟨⟨_, Heap.get?_push_size _ rfl, rfl, rfl⟩, Heap.get?_push_of_some _ e⟩, fun b hb => ?_, by omega, fun i j vi vj s' Q' E' hK hi hj hq => ?_, fun v h' tk hP hk => ?_⟩
  · show b < (s.heap.push _).objs.size
    rw [Heap.size_push]
    rcases List.mem_cons.mp hb with rfl | hb
    · exact Nat.lt_succ_self _
    · rw [List.mem_singleton.mp hb]; exact Nat.lt_succ_of_lt hlt
  · obtain ⟨bi, rfl, Ki⟩ := hit i vi hi
    obtain ⟨bj, rfl, Kj⟩ := hit j vj hj
    have up : ∀ {b : Addr} {x : List Int}, IsTupleKey (intKind c.prog c.w) s.heap x b → IsTupleKey (intKind c.prog c.w) s'.heap x b := fun {b x} K => key_keep K fun o e => hK b o (by simpa using Nat.ne_of_lt (Heap.lt_size e)) (Heap.get?_push_of_some _ e)
    exact tuple_lt (by have := R.units; show A.units + 1 < cLine; omega) (up Ki) (up Kj) hq
  · have hb := best_le (fun i j => lexLt ((m.map (·.1)).getD i []) ((m.map (·.1)).getD j [])) (es.size - 1)
    have hbest := best_is (bt := fun i j => lexLt ((m.map (·.1)).getD i []) ((m.map (·.1)).getD j [])) (fun i => lexLt_irr _) (fun i j l => lexLt_trans) (es.size - 1)
    obtain ⟨b, rfl, K⟩ := hit _ _ hP
    generalize argBest _ _ = j at hb hbest K hP
    have hml : (m.map (·.1)).length = m.length := by simp
    generalize m.map (·.1) = xs at *
    have hj : j < xs.length := by omega
    have hkk : ∀ b o, s.heap.get? b = some o → h'.get? b = some o := fun b o e => hk b o (by simpa using Nat.ne_of_lt (Heap.lt_size e)) (Heap.get?_push_of_some _ e)
    refine EvQ.here (v := T (zs (xs.getD j []))) (s' := { s with heap := h', toks := tk }) S ⟨hkk, h', tk, rfl⟩ ⟨[], of_key (key_keep K fun o e => hkk b o e), fun _ ha => nomatch ha⟩ (h _ ?_ fun y hy => ?_)
    · rw [List.getD_eq_getElem?_getD, List.getElem?_eq_getElem hj]; exact List.getElem_mem hj
    · obtain ⟨i, hi, rfl⟩ := List.getElem_of_mem hy
      have := hbest i (by omega)
      rw [List.getD_eq_getElem?_getD, List.getElem?_eq_getElem hi] at this
      exact this
/-- tuples in a list -/
theorem lay_ts (l : List (List Int)) : PyData.canLayAll0 (l.map fun x => PyData.tuple (zs x)) = true := by
  induction l with
  | nil => rfl
  | cons x l ih => rw [List.map_cons]; simp only [PyData.canLayAll0, PyData.canLay0, zs_lay x, ih, Bool.and_self]
theorem eqv_ts : ∀ (x y : List Int), PyData.eqv (.tuple (zs y)) (.tuple (zs x)) = decide (x = y) := fun x y => by
  have : PyData.eqv (PyData.tuple (zs y)) (.tuple (zs x)) = PyData.eqvAll (zs y) (zs x) := by simp [PyData.eqv]
  rw [this, eqv_zs]
  by_cases e : x = y
  · simp [e]
  · simp [e, Ne.symm e]
theorem any_ts (x : List Int) (l : List (List Int)) : (l.map fun x => PyData.tuple (zs x)).any (fun y => PyData.eqv y (.tuple (zs x))) = decide (x ∈ l) := by
  induction l with
  | nil => simp
  | cons y l ih =>
    rw [List.map_cons, List.any_cons, eqv_ts, ih]
    by_cases e : x = y <;> simp [e]
theorem Pr.notInT {v : AV} {x : List Int} {l : List (List Int)} (hv : LstV σ v (l.map fun x => PyData.tuple (zs x))) (h : Q (B (!decide (x ∈ l))) σ) : Pr c q k σ (f2 (compareOp .NotIn)) [T (zs x), v] Q X := .of2 fun A s ads fr L cx cy R S Vx Vy => by
  obtain ⟨_, rx, _⟩ := Vx
  obtain ⟨_, ry⟩ := hv.reads S Vy
  exact SeqAt.notIn_list_reads ry rx (lay_ts l) (zs_layT _) (by have := R.units; have := depthT x; omega) (by rw [any_ts]; exact .bool S h)
/-- v[:-1] -/
theorem Ev.cutLast {value e : Expr} {p pos : Pos} (h : Ev c q t k sc ρ σ value (fun a σ₁ => Ev c q t k sc ρ σ₁ e (fun b σ₂ => b = I (-1) ∧ ∃ i xs, a = .obj i ∧ σ₂[i]? = some (.list xs) ∧ xs.length ≤ sizeLine ∧ Q (.dat (.list (xs.take (xs.length - 1)))) σ₂) X) X) :
    Ev c q t k sc ρ σ (.Subscript value (.Slice none (some e) none p) pos) Q X := .of fun A env s ads fr H => by
  refine Subscript_ (h.then H fun a σ₁ ca s₁ hr G₁ H₁ Va => ?_)
  show wpAny c.M A (do let l ← (pure Value.none : Sem Value); let u ← holding [l] (eval e env); let st ← holding [l, u] (pure Value.none : Sem Value); newFields "slice" [l, u, st]) _ _ s₁
  refine wpAny_bind (wpAny_pure (wpAny_bind (wpAny_holding (wpAny_mono (hr.at H₁) (fun cb s₂ hq => ?_) fun _ _ x => x.trans G₁))))
  obtain ⟨b, σ₂, ⟨rfl, i, xs, rfl, hi, hz, hQ⟩, G₂, S₂, _, rb, _⟩ := hq
  cases rb with | int _ tk =>
  refine wpAny_bind (wpAny_holding (wpAny_pure (wpAny_newObj_type ?_)))
  have Gp := Grow.push s₂ { cls := .type "slice", data := .fields #[.none, .int (-1) tk, .none] } s₂.toks
  have S₃ := S₂.grow Gp
  obtain ⟨tt, ha, rfl⟩ := (Va.go H₁.S G₂ fun _ z => z.elim).grow S₂ Gp
  obtain ⟨vs, as, hp, h4, hh⟩ := S₃.obj i _ tt hi ha
  have sx := readsAll_size h4
  refine lift ((G₁.trans G₂).trans (Gp.go nil ads)) ?_
  refine tail_any hp.isList.typeIs list_getitem_lookup (wpAny_getItem_list_slice hp.isList (Heap.IsSliceOf.new ..) .none (.int _ _) .none (by simp) ?_ (by omega)) (ops := [_, _]) rfl
  rw [show (some (-1 : Int)) = some (-((1 : Nat) : Int)) from rfl, slicePick_butLast vs 1 (by omega)]
  obtain ⟨bs, h5, h6⟩ := readsAll_take (xs.length - 1) _ _ _ h4
  rw [sx]
  exact .newList S₃ (by simpa using h5) (fun b hb => hh b (h6 b hb)) (fun _ _ e => e) hQ
/-- x.index(..) -/
theorem Ev.indexT {x : Str} {p apos cpos : Pos} {elt : Expr} {i : Nat} (hv : ρ.lookup x = some (.obj i)) (hl : ∃ xs, σ[i]? = some (.list xs))
    (h : Ev c q t k sc ρ σ elt (fun v σ₁ => ∃ (r : List Int) (l : List (List Int)), v = T (zs r) ∧ σ₁[i]? = some (.list (l.map fun x => PyData.tuple (zs x))) ∧ l.length ≤ 1000 ∧ r ∈ l ∧ Q (I (l.idxOf r)) σ₁) X)
    (hline : (apos.endLine == cpos.line) = true := by rfl) (hb : ∀ env, attributeBase (.Name x p) "index" env (eval (.Name x p) env) = eval (.Name x p) env := by intro _; rfl)
    (hs : ∀ env, starEach [elt] env = [(false, eval elt env)] := by intro _; rfl)
    (hd : (x == ("__debug__" : Str)) = false := by rfl) (hn : (x == ("__classdict__" : Str)) = false := by rfl) :
    Ev c q t k sc ρ σ (.Call (.Attribute (.Name x p) "index" apos) [elt] [] cpos) Q X := .of fun A env s ads fr H => by
  have hu := H.R.units
  refine Call_method1 (hb env) (hs env) hline ?_
  refine (Ev.nm (Q := fun v σ' => v = .obj i ∧ σ' = σ) (X := X) hv ⟨rfl, rfl⟩ hd hn).then H fun v σ' cv s₁ hq G H₁ V => ?_
  obtain ⟨rfl, rfl⟩ := hq
  obtain ⟨a, ha, rfl⟩ := V
  obtain ⟨xs, hx⟩ := hl
  obtain ⟨its, as, ⟨n, e⟩, r, hh⟩ := H₁.S.obj i _ a hx ha
  refine ⟨"list", "list.index", PySem.F.plainAttrs_list, PySem.F.slot_list_index, PySem.F.type_list_index, ⟨_, e, rfl⟩, fun b z => by cases z; exact ⟨_, e, rfl⟩, ?_⟩
  refine seqMethod1_meets PySem.F.slot_list_index PySem.F.entry_list_index (wpAny_mono (h.at H₁) (fun y s₂ hq => ?_) fun _ _ z => z.trans G)
  obtain ⟨v, σ₁, ⟨r₀, l, rfl, hy, hll, hr₀, hQ⟩, G₂, S₂, bs, r'', _⟩ := hq
  obtain ⟨its', as', ⟨n', e'⟩, r', hh'⟩ := S₂.obj i _ a hy ha
  have sx := readsAll_size r'
  have hmp := SeqAt.readsAll_map _ _ _ (lay_ts l) r'
  have hj := List.idxOf_lt_length_of_mem hr₀
  rw [List.length_map] at sx
  have hrd : ∀ m (hm : m < its'.size), SeqAt.readOf s₂.heap its'[m] = PyData.tuple (zs (l[m]'(by omega))) := fun m hm => by
    have := congrArg (fun z => z[m]?) hmp
    simpa [hm, show m < l.length by omega] using this
  refine ⟨⟨_, e', rfl⟩, PySem.F.args_list_index_2 _ _, _, SeqAt.list_indexAt a its' n' none #[] y (fun y => PyData.eqv (SeqAt.readOf s₂.heap y) (.tuple (zs r₀))) (l.idxOf r₀) (by omega) (by omega) ?_ ?_, e', fun y' hy' => SeqAt.items_eqAt r' r'' (lay_ts l) (zs_layT _) (by have := depthT r₀; omega) y' hy', ?_⟩
  · rw [hrd _ (by omega), eqv_ts]; simp
  · intro m hm hlt
    rw [hrd m hm, eqv_ts, decide_eq_false]
    intro z
    have := List.not_of_lt_findIdx (p := (· == r₀)) (xs := l) (i := m) hlt
    simp [z] at this
  · exact EvQ.trans (G.trans G₂) (EvQ.int S₂ hQ)
end

-- the head (printed by gen/HeadGen)
noncomputable abbrev PW : Program := PySem.Challenge.pw_uf050025_12
noncomputable def st (i : Nat) : Stmt := PW.main.body.getD i (.Pass ⟨0, 0, 0, 0⟩)
noncomputable def fA (i : Nat) : Arguments := match st i with | .FunctionDef _ a _ _ _ _ _ _ _ _ => a | _ => default
noncomputable def fB (i : Nat) : List Stmt := match st i with | .FunctionDef _ _ b _ _ _ _ _ _ _ => b | _ => []
noncomputable def fS (i : Nat) : Scope := match st i with | .FunctionDef _ _ _ _ _ _ s _ _ _ => s | _ => default
noncomputable def VV : Program := { PW with main := { PW.main with body := [st 1, st 2, st 3, st 4, st 5, st 6, st 7, st 9, st 10, st 11, st 12, st 13, st 14, st 15, st 16, st 17, st 18, st 19, st 21, st 22, st 23, st 24, st 25, st 26, st 28, st 29, st 30, st 31, st 32, st 33, st 34, st 35, st 36, st 37, st 38, st 39] } }
noncomputable def env0 : Env := { scope := PW.main.scope, locals := mainNs, globals := mainNs, cells := [], code := Value.ref 13, frame := some 14 }
noncomputable abbrev cE : Code := .body (behindTheImports PW) env0
noncomputable abbrev B0 : List Frame := [topFrame (Pos.mk 0 0 0 0)]
noncomputable abbrev ann0 : Option Value := Option.some (Value.ref 6)
noncomputable def o11_0 (P : Params) : Obj := Obj.mk (Value.type "tuple") Option.none (Data.seq #[]) #[]
noncomputable def o12_0 (P : Params) : Obj := Obj.mk Value.none Option.none (Data.fields #[]) #[]
noncomputable def o13_0 (P : Params) : Obj := Obj.mk (Value.type "code") Option.none (Data.fields #[Value.str (Str.ofString "<module>") 182, Value.str (Str.ofString "<module>") 183, Value.str (Str.ofString "/claim/cut.py") 184, Value.int 1 0, Value.int 0 0, Value.int 0 0, Value.int 0 0, Value.int 0 0, Value.ref 11, Value.bool Bool.false, Value.int 181 0, Value.ref 12, Value.none, Value.none, Value.none, Value.none, Value.int 185 0, Value.int 1 0, Value.str (Str.ofString "/claim/cut.py") 186]) #[]
noncomputable def o14_0 (P : Params) : Obj := Obj.mk (Value.type "frame") Option.none Data.plain #[Option.some (Value.ref 13), Option.some (Value.ref 3), Option.some (Value.ref 3), Option.none, Option.some (Value.str (Str.ofString "__main__") 164), Option.none, Option.some (Value.ref 0)]
noncomputable def heap_a (P : Params) : Heap := ⟨⟨[boot_o_0 P, boot_o_1 P, boot_o_2 P, boot_o_3 P, boot_o_4 P, boot_o_5 P, boot_o_6 P, boot_o_7 P, boot_o_8 P, boot_o_9 P, boot_o_10 P, o11_0 P, o12_0 P, o13_0 P, o14_0 P]⟩, Life.mk [] [] [] 0 [] [] Bool.false #[] [] 0 Bool.false Bool.false Bool.false 0 [2000, 10, 10] Bool.false 0 Bool.true [] [] 0 Bool.false⟩
noncomputable abbrev S_a (w : World) (os : OsState) : Shared := ⟨heap_a w.params, ⟨[]⟩, Drawn.mk 0 0 0 0, 187, os⟩
noncomputable def tree_b (P : Params) : BT := (.node (boot_o_0 P) (.node (boot_o_1 P) (.node (boot_o_3 P) (.node (boot_o_7 P) .nil .nil) (.node (o11_0 P) .nil .nil)) (.node (boot_o_5 P) (.node (boot_o_9 P) .nil .nil) (.node (o13_0 P) .nil .nil))) (.node (boot_o_2 P) (.node (boot_o_4 P) (.node (boot_o_8 P) .nil .nil) (.node (o12_0 P) .nil .nil)) (.node (boot_o_6 P) (.node (boot_o_10 P) .nil .nil) (.node (o14_0 P) .nil .nil))))
noncomputable abbrev S_b (w : World) (os : OsState) : SharedT := ⟨tree_b w.params, 15, Life.mk [] [] [] 0 [] [] Bool.false #[] [] 0 Bool.false Bool.false Bool.false 0 [2000, 10, 10] Bool.false 0 Bool.true [] [] 0 Bool.false, ⟨[]⟩, Drawn.mk 0 0 0 0, 187, os⟩
noncomputable def o3_0 (P : Params) : Obj := Obj.mk (Value.type "dict") Option.none (Data.dict #[DictEntry.mk (PyData.keyHash P (Str.ofString "__name__")) (Value.str (Str.ofString "__name__") 165) (Value.str (Str.ofString "healring.errors") 187), DictEntry.mk (PyData.keyHash P (Str.ofString "__doc__")) (Value.str (Str.ofString "__doc__") 166) Value.none, DictEntry.mk (PyData.keyHash P (Str.ofString "__package__")) (Value.str (Str.ofString "__package__") 167) Value.none, DictEntry.mk (PyData.keyHash P (Str.ofString "__loader__")) (Value.str (Str.ofString "__loader__") 168) (Value.builtin "__main__.__loader__#opaque"), DictEntry.mk (PyData.keyHash P (Str.ofString "__spec__")) (Value.str (Str.ofString "__spec__") 169) Value.none, DictEntry.mk (PyData.keyHash P (Str.ofString "__annotations__")) (Value.str (Str.ofString "__annotations__") 170) (Value.ref 6), DictEntry.mk (PyData.keyHash P (Str.ofString "__builtins__")) (Value.str (Str.ofString "__builtins__") 171) (Value.ref 4), DictEntry.mk (PyData.keyHash P (Str.ofString "__file__")) (Value.str (Str.ofString "__file__") 173) (Value.str (Str.ofString "/claim/cut.py") 172), DictEntry.mk (PyData.keyHash P (Str.ofString "__cached__")) (Value.str (Str.ofString "__cached__") 174) Value.none, DictEntry.mk (PyData.keyHash P (Str.ofString "HealError")) (Value.str (Str.ofString "HealError") 206) (Value.ref 24), DictEntry.mk (PyData.keyHash P (Str.ofString "NoNumbers")) (Value.str (Str.ofString "NoNumbers") 222) (Value.ref 37), DictEntry.mk (PyData.keyHash P (Str.ofString "NoRing")) (Value.str (Str.ofString "NoRing") 238) (Value.ref 49), DictEntry.mk (PyData.keyHash P (Str.ofString "NoMachine")) (Value.str (Str.ofString "NoMachine") 254) (Value.ref 61)] 13) #[]
noncomputable def o12_1 (P : Params) : Obj := Obj.mk Value.none Option.none (Data.fields #[Value.int 2 0, Value.int 0 0, Value.ref 20, Value.int 4 0, Value.int 0 0, Value.ref 33, Value.int 6 0, Value.int 0 0, Value.ref 45, Value.int 8 0, Value.int 0 0, Value.ref 57]) #[]
noncomputable def o15_0 (P : Params) : Obj := Obj.mk (Value.type "tuple") Option.none (Data.seq #[Value.type "ValueError"]) #[]
noncomputable def o16_0 (P : Params) : Obj := Obj.mk (Value.type "builtin_function_or_method") Option.none (Data.fields #[Value.builtin "type.__prepare__", Value.type "type"]) #[]
noncomputable def o17_0 (P : Params) : Obj := Obj.mk (Value.type "dict") Option.none (Data.dict #[DictEntry.mk (PyData.keyHash P (Str.ofString "__module__")) (Value.str (Str.ofString "__module__") 196) (Value.str (Str.ofString "healring.errors") 187), DictEntry.mk (PyData.keyHash P (Str.ofString "__qualname__")) (Value.str (Str.ofString "__qualname__") 198) (Value.str (Str.ofString "HealError") 197), DictEntry.mk (PyData.keyHash P (Str.ofString "__firstlineno__")) (Value.str (Str.ofString "__firstlineno__") 200) (Value.int 2 199), DictEntry.mk (PyData.keyHash P (Str.ofString "__static_attributes__")) (Value.str (Str.ofString "__static_attributes__") 201) (Value.ref 22)] 4) #[]
noncomputable def o18_0 (P : Params) : Obj := Obj.mk (Value.type "tuple") Option.none (Data.seq #[]) #[]
noncomputable def o19_0 (P : Params) : Obj := Obj.mk Value.none Option.none (Data.fields #[]) #[]
noncomputable def o20_0 (P : Params) : Obj := Obj.mk (Value.type "code") Option.none (Data.fields #[Value.str (Str.ofString "HealError") 191, Value.str (Str.ofString "HealError") 192, Value.str (Str.ofString "/claim/cut.py") 193, Value.int 2 0, Value.int 0 0, Value.int 0 0, Value.int 0 0, Value.int 0 0, Value.ref 18, Value.bool Bool.false, Value.int 181 0, Value.ref 19, Value.none, Value.none, Value.none, Value.none, Value.int 194 0, Value.int 2 0, Value.str (Str.ofString "/claim/cut.py") 195]) #[]
noncomputable def o21_0 (P : Params) : Obj := Obj.mk (Value.type "frame") Option.none Data.plain #[Option.some (Value.ref 20), Option.some (Value.ref 3), Option.some (Value.ref 17), Option.none, Option.some (Value.str (Str.ofString "healring.errors") 187), Option.none, Option.some (Value.ref 0)]
noncomputable def o22_0 (P : Params) : Obj := Obj.mk (Value.type "tuple") Option.none (Data.seq #[]) #[]
noncomputable def o23_0 (P : Params) : Obj := Obj.mk (Value.type "dict") Option.none (Data.dict #[DictEntry.mk (PyData.keyHash P (Str.ofString "__module__")) (Value.str (Str.ofString "__module__") 196) (Value.str (Str.ofString "healring.errors") 187), DictEntry.mk (PyData.keyHash P (Str.ofString "__firstlineno__")) (Value.str (Str.ofString "__firstlineno__") 200) (Value.int 2 199), DictEntry.mk (PyData.keyHash P (Str.ofString "__static_attributes__")) (Value.str (Str.ofString "__static_attributes__") 201) (Value.ref 22), DictEntry.mk (PyData.keyHash P (Str.ofString "__weakref__")) (Value.str (Str.ofString "__weakref__") 203) (Value.ref 25), DictEntry.mk (PyData.keyHash P (Str.ofString "__doc__")) (Value.str (Str.ofString "__doc__") 204) Value.none] 3) #[]
noncomputable def o24_0 (P : Params) : Obj := Obj.mk (Value.type "type") Option.none (Data.cls (ClassData.mk (Str.ofString "HealError") [Value.type "ValueError"] [Value.ref 24, Value.type "ValueError", Value.type "Exception", Value.type "BaseException", Value.type "object"] 23 (Str.ofString "HealError") Bool.true [] [Value.ref 37, Value.ref 49, Value.ref 61] Bool.false Option.none Bool.false)) #[Option.some (Value.ref 15), Option.none, Option.some (Value.str (Str.ofString "HealError") 189), Option.some (Value.str (Str.ofString "HealError") 197), Option.some (Value.builtin "ValueError.__new__"), Option.some (Value.bool Bool.true)]
noncomputable def o25_0 (P : Params) : Obj := Obj.mk (Value.type "getset_descriptor") Option.none (Data.fields #[Value.str (Str.ofString "__weakref__") 202, Value.ref 24, Value.builtin "ExceptionGroup.__weakref__", Value.none]) #[]
noncomputable def o26_0 (P : Params) : Obj := Obj.mk (Value.type "super") Option.none (Data.fields #[Value.ref 24, Value.ref 24, Value.ref 24]) #[]
noncomputable def o27_0 (P : Params) : Obj := Obj.mk (Value.type "builtin_function_or_method") Option.none (Data.fields #[Value.builtin "object.__init_subclass__", Value.ref 24]) #[]
noncomputable def o28_0 (P : Params) : Obj := Obj.mk (Value.type "tuple") Option.none (Data.seq #[Value.ref 24]) #[]
noncomputable def o29_0 (P : Params) : Obj := Obj.mk (Value.type "builtin_function_or_method") Option.none (Data.fields #[Value.builtin "type.__prepare__", Value.type "type"]) #[]
noncomputable def o30_0 (P : Params) : Obj := Obj.mk (Value.type "dict") Option.none (Data.dict #[DictEntry.mk (PyData.keyHash P (Str.ofString "__module__")) (Value.str (Str.ofString "__module__") 214) (Value.str (Str.ofString "healring.errors") 187), DictEntry.mk (PyData.keyHash P (Str.ofString "__qualname__")) (Value.str (Str.ofString "__qualname__") 216) (Value.str (Str.ofString "NoNumbers") 215), DictEntry.mk (PyData.keyHash P (Str.ofString "__firstlineno__")) (Value.str (Str.ofString "__firstlineno__") 218) (Value.int 4 217), DictEntry.mk (PyData.keyHash P (Str.ofString "__static_attributes__")) (Value.str (Str.ofString "__static_attributes__") 219) (Value.ref 35)] 4) #[]
noncomputable def o31_0 (P : Params) : Obj := Obj.mk (Value.type "tuple") Option.none (Data.seq #[]) #[]
noncomputable def o32_0 (P : Params) : Obj := Obj.mk Value.none Option.none (Data.fields #[]) #[]
noncomputable def o33_0 (P : Params) : Obj := Obj.mk (Value.type "code") Option.none (Data.fields #[Value.str (Str.ofString "NoNumbers") 209, Value.str (Str.ofString "NoNumbers") 210, Value.str (Str.ofString "/claim/cut.py") 211, Value.int 4 0, Value.int 0 0, Value.int 0 0, Value.int 0 0, Value.int 0 0, Value.ref 31, Value.bool Bool.false, Value.int 181 0, Value.ref 32, Value.none, Value.none, Value.none, Value.none, Value.int 212 0, Value.int 4 0, Value.str (Str.ofString "/claim/cut.py") 213]) #[]
noncomputable def o34_0 (P : Params) : Obj := Obj.mk (Value.type "frame") Option.none Data.plain #[Option.some (Value.ref 33), Option.some (Value.ref 3), Option.some (Value.ref 30), Option.none, Option.some (Value.str (Str.ofString "healring.errors") 187), Option.none, Option.some (Value.ref 0)]
noncomputable def o35_0 (P : Params) : Obj := Obj.mk (Value.type "tuple") Option.none (Data.seq #[]) #[]
noncomputable def o36_0 (P : Params) : Obj := Obj.mk (Value.type "dict") Option.none (Data.dict #[DictEntry.mk (PyData.keyHash P (Str.ofString "__module__")) (Value.str (Str.ofString "__module__") 214) (Value.str (Str.ofString "healring.errors") 187), DictEntry.mk (PyData.keyHash P (Str.ofString "__firstlineno__")) (Value.str (Str.ofString "__firstlineno__") 218) (Value.int 4 217), DictEntry.mk (PyData.keyHash P (Str.ofString "__static_attributes__")) (Value.str (Str.ofString "__static_attributes__") 219) (Value.ref 35), DictEntry.mk (PyData.keyHash P (Str.ofString "__doc__")) (Value.str (Str.ofString "__doc__") 220) Value.none] 2) #[]
noncomputable def o37_0 (P : Params) : Obj := Obj.mk (Value.type "type") Option.none (Data.cls (ClassData.mk (Str.ofString "NoNumbers") [Value.ref 24] [Value.ref 37, Value.ref 24, Value.type "ValueError", Value.type "Exception", Value.type "BaseException", Value.type "object"] 36 (Str.ofString "NoNumbers") Bool.true [] [] Bool.false Option.none Bool.false)) #[Option.some (Value.ref 28), Option.none, Option.some (Value.str (Str.ofString "NoNumbers") 207), Option.some (Value.str (Str.ofString "NoNumbers") 215), Option.some (Value.builtin "ValueError.__new__"), Option.some (Value.bool Bool.true)]
noncomputable def o38_0 (P : Params) : Obj := Obj.mk (Value.type "super") Option.none (Data.fields #[Value.ref 37, Value.ref 37, Value.ref 37]) #[]
noncomputable def o39_0 (P : Params) : Obj := Obj.mk (Value.type "builtin_function_or_method") Option.none (Data.fields #[Value.builtin "object.__init_subclass__", Value.ref 37]) #[]
noncomputable def o40_0 (P : Params) : Obj := Obj.mk (Value.type "tuple") Option.none (Data.seq #[Value.ref 24]) #[]
noncomputable def o41_0 (P : Params) : Obj := Obj.mk (Value.type "builtin_function_or_method") Option.none (Data.fields #[Value.builtin "type.__prepare__", Value.type "type"]) #[]
noncomputable def o42_0 (P : Params) : Obj := Obj.mk (Value.type "dict") Option.none (Data.dict #[DictEntry.mk (PyData.keyHash P (Str.ofString "__module__")) (Value.str (Str.ofString "__module__") 230) (Value.str (Str.ofString "healring.errors") 187), DictEntry.mk (PyData.keyHash P (Str.ofString "__qualname__")) (Value.str (Str.ofString "__qualname__") 232) (Value.str (Str.ofString "NoRing") 231), DictEntry.mk (PyData.keyHash P (Str.ofString "__firstlineno__")) (Value.str (Str.ofString "__firstlineno__") 234) (Value.int 6 233), DictEntry.mk (PyData.keyHash P (Str.ofString "__static_attributes__")) (Value.str (Str.ofString "__static_attributes__") 235) (Value.ref 47)] 4) #[]
noncomputable def o43_0 (P : Params) : Obj := Obj.mk (Value.type "tuple") Option.none (Data.seq #[]) #[]
noncomputable def o44_0 (P : Params) : Obj := Obj.mk Value.none Option.none (Data.fields #[]) #[]
noncomputable def o45_0 (P : Params) : Obj := Obj.mk (Value.type "code") Option.none (Data.fields #[Value.str (Str.ofString "NoRing") 225, Value.str (Str.ofString "NoRing") 226, Value.str (Str.ofString "/claim/cut.py") 227, Value.int 6 0, Value.int 0 0, Value.int 0 0, Value.int 0 0, Value.int 0 0, Value.ref 43, Value.bool Bool.false, Value.int 181 0, Value.ref 44, Value.none, Value.none, Value.none, Value.none, Value.int 228 0, Value.int 6 0, Value.str (Str.ofString "/claim/cut.py") 229]) #[]
noncomputable def o46_0 (P : Params) : Obj := Obj.mk (Value.type "frame") Option.none Data.plain #[Option.some (Value.ref 45), Option.some (Value.ref 3), Option.some (Value.ref 42), Option.none, Option.some (Value.str (Str.ofString "healring.errors") 187), Option.none, Option.some (Value.ref 0)]
noncomputable def o47_0 (P : Params) : Obj := Obj.mk (Value.type "tuple") Option.none (Data.seq #[]) #[]
noncomputable def o48_0 (P : Params) : Obj := Obj.mk (Value.type "dict") Option.none (Data.dict #[DictEntry.mk (PyData.keyHash P (Str.ofString "__module__")) (Value.str (Str.ofString "__module__") 230) (Value.str (Str.ofString "healring.errors") 187), DictEntry.mk (PyData.keyHash P (Str.ofString "__firstlineno__")) (Value.str (Str.ofString "__firstlineno__") 234) (Value.int 6 233), DictEntry.mk (PyData.keyHash P (Str.ofString "__static_attributes__")) (Value.str (Str.ofString "__static_attributes__") 235) (Value.ref 47), DictEntry.mk (PyData.keyHash P (Str.ofString "__doc__")) (Value.str (Str.ofString "__doc__") 236) Value.none] 2) #[]
noncomputable def o49_0 (P : Params) : Obj := Obj.mk (Value.type "type") Option.none (Data.cls (ClassData.mk (Str.ofString "NoRing") [Value.ref 24] [Value.ref 49, Value.ref 24, Value.type "ValueError", Value.type "Exception", Value.type "BaseException", Value.type "object"] 48 (Str.ofString "NoRing") Bool.true [] [] Bool.false Option.none Bool.false)) #[Option.some (Value.ref 40), Option.none, Option.some (Value.str (Str.ofString "NoRing") 223), Option.some (Value.str (Str.ofString "NoRing") 231), Option.some (Value.builtin "ValueError.__new__"), Option.some (Value.bool Bool.true)]
noncomputable def o50_0 (P : Params) : Obj := Obj.mk (Value.type "super") Option.none (Data.fields #[Value.ref 49, Value.ref 49, Value.ref 49]) #[]
noncomputable def o51_0 (P : Params) : Obj := Obj.mk (Value.type "builtin_function_or_method") Option.none (Data.fields #[Value.builtin "object.__init_subclass__", Value.ref 49]) #[]
noncomputable def o52_0 (P : Params) : Obj := Obj.mk (Value.type "tuple") Option.none (Data.seq #[Value.ref 24]) #[]
noncomputable def o53_0 (P : Params) : Obj := Obj.mk (Value.type "builtin_function_or_method") Option.none (Data.fields #[Value.builtin "type.__prepare__", Value.type "type"]) #[]
noncomputable def o54_0 (P : Params) : Obj := Obj.mk (Value.type "dict") Option.none (Data.dict #[DictEntry.mk (PyData.keyHash P (Str.ofString "__module__")) (Value.str (Str.ofString "__module__") 246) (Value.str (Str.ofString "healring.errors") 187), DictEntry.mk (PyData.keyHash P (Str.ofString "__qualname__")) (Value.str (Str.ofString "__qualname__") 248) (Value.str (Str.ofString "NoMachine") 247), DictEntry.mk (PyData.keyHash P (Str.ofString "__firstlineno__")) (Value.str (Str.ofString "__firstlineno__") 250) (Value.int 8 249), DictEntry.mk (PyData.keyHash P (Str.ofString "__static_attributes__")) (Value.str (Str.ofString "__static_attributes__") 251) (Value.ref 59)] 4) #[]
noncomputable def o55_0 (P : Params) : Obj := Obj.mk (Value.type "tuple") Option.none (Data.seq #[]) #[]
noncomputable def o56_0 (P : Params) : Obj := Obj.mk Value.none Option.none (Data.fields #[]) #[]
noncomputable def o57_0 (P : Params) : Obj := Obj.mk (Value.type "code") Option.none (Data.fields #[Value.str (Str.ofString "NoMachine") 241, Value.str (Str.ofString "NoMachine") 242, Value.str (Str.ofString "/claim/cut.py") 243, Value.int 8 0, Value.int 0 0, Value.int 0 0, Value.int 0 0, Value.int 0 0, Value.ref 55, Value.bool Bool.false, Value.int 181 0, Value.ref 56, Value.none, Value.none, Value.none, Value.none, Value.int 244 0, Value.int 8 0, Value.str (Str.ofString "/claim/cut.py") 245]) #[]
noncomputable def o58_0 (P : Params) : Obj := Obj.mk (Value.type "frame") Option.none Data.plain #[Option.some (Value.ref 57), Option.some (Value.ref 3), Option.some (Value.ref 54), Option.none, Option.some (Value.str (Str.ofString "healring.errors") 187), Option.none, Option.some (Value.ref 0)]
noncomputable def o59_0 (P : Params) : Obj := Obj.mk (Value.type "tuple") Option.none (Data.seq #[]) #[]
noncomputable def o60_0 (P : Params) : Obj := Obj.mk (Value.type "dict") Option.none (Data.dict #[DictEntry.mk (PyData.keyHash P (Str.ofString "__module__")) (Value.str (Str.ofString "__module__") 246) (Value.str (Str.ofString "healring.errors") 187), DictEntry.mk (PyData.keyHash P (Str.ofString "__firstlineno__")) (Value.str (Str.ofString "__firstlineno__") 250) (Value.int 8 249), DictEntry.mk (PyData.keyHash P (Str.ofString "__static_attributes__")) (Value.str (Str.ofString "__static_attributes__") 251) (Value.ref 59), DictEntry.mk (PyData.keyHash P (Str.ofString "__doc__")) (Value.str (Str.ofString "__doc__") 252) Value.none] 2) #[]
noncomputable def o61_0 (P : Params) : Obj := Obj.mk (Value.type "type") Option.none (Data.cls (ClassData.mk (Str.ofString "NoMachine") [Value.ref 24] [Value.ref 61, Value.ref 24, Value.type "ValueError", Value.type "Exception", Value.type "BaseException", Value.type "object"] 60 (Str.ofString "NoMachine") Bool.true [] [] Bool.false Option.none Bool.false)) #[Option.some (Value.ref 52), Option.none, Option.some (Value.str (Str.ofString "NoMachine") 239), Option.some (Value.str (Str.ofString "NoMachine") 247), Option.some (Value.builtin "ValueError.__new__"), Option.some (Value.bool Bool.true)]
noncomputable def o62_0 (P : Params) : Obj := Obj.mk (Value.type "super") Option.none (Data.fields #[Value.ref 61, Value.ref 61, Value.ref 61]) #[]
noncomputable def o63_0 (P : Params) : Obj := Obj.mk (Value.type "builtin_function_or_method") Option.none (Data.fields #[Value.builtin "object.__init_subclass__", Value.ref 61]) #[]
noncomputable def tree_5 (P : Params) : BT := (.node (boot_o_0 P) (.node (boot_o_1 P) (.node (o3_0 P) (.node (boot_o_7 P) (.node (o15_0 P) (.node (o31_0 P) (.node (o63_0 P) .nil .nil) .nil) (.node (o47_0 P) .nil .nil)) (.node (o23_0 P) (.node (o39_0 P) .nil .nil) (.node (o55_0 P) .nil .nil))) (.node (o11_0 P) (.node (o19_0 P) (.node (o35_0 P) .nil .nil) (.node (o51_0 P) .nil .nil)) (.node (o27_0 P) (.node (o43_0 P) .nil .nil) (.node (o59_0 P) .nil .nil)))) (.node (boot_o_5 P) (.node (boot_o_9 P) (.node (o17_0 P) (.node (o33_0 P) .nil .nil) (.node (o49_0 P) .nil .nil)) (.node (o25_0 P) (.node (o41_0 P) .nil .nil) (.node (o57_0 P) .nil .nil))) (.node (o13_0 P) (.node (o21_0 P) (.node (o37_0 P) .nil .nil) (.node (o53_0 P) .nil .nil)) (.node (o29_0 P) (.node (o45_0 P) .nil .nil) (.node (o61_0 P) .nil .nil))))) (.node (boot_o_2 P) (.node (boot_o_4 P) (.node (boot_o_8 P) (.node (o16_0 P) (.node (o32_0 P) .nil .nil) (.node (o48_0 P) .nil .nil)) (.node (o24_0 P) (.node (o40_0 P) .nil .nil) (.node (o56_0 P) .nil .nil))) (.node (o12_1 P) (.node (o20_0 P) (.node (o36_0 P) .nil .nil) (.node (o52_0 P) .nil .nil)) (.node (o28_0 P) (.node (o44_0 P) .nil .nil) (.node (o60_0 P) .nil .nil)))) (.node (boot_o_6 P) (.node (boot_o_10 P) (.node (o18_0 P) (.node (o34_0 P) .nil .nil) (.node (o50_0 P) .nil .nil)) (.node (o26_0 P) (.node (o42_0 P) .nil .nil) (.node (o58_0 P) .nil .nil))) (.node (o14_0 P) (.node (o22_0 P) (.node (o38_0 P) .nil .nil) (.node (o54_0 P) .nil .nil)) (.node (o30_0 P) (.node (o46_0 P) .nil .nil) (.node (o62_0 P) .nil .nil))))))
noncomputable abbrev S_5 (w : World) (os : OsState) : SharedT := ⟨tree_5 w.params, 64, Life.mk [] [] [] 0 [] [] Bool.false #[] [] 0 Bool.false Bool.false Bool.false 0 [2000, 10, 10] Bool.false 0 Bool.true [] [] 0 Bool.false, ⟨[]⟩, Drawn.mk 0 0 0 0, 255, os⟩
noncomputable def o3_1 (P : Params) : Obj := Obj.mk (Value.type "dict") Option.none (Data.dict #[DictEntry.mk (PyData.keyHash P (Str.ofString "__name__")) (Value.str (Str.ofString "__name__") 165) (Value.str (Str.ofString "healring.errors") 187), DictEntry.mk (PyData.keyHash P (Str.ofString "__doc__")) (Value.str (Str.ofString "__doc__") 166) Value.none, DictEntry.mk (PyData.keyHash P (Str.ofString "__package__")) (Value.str (Str.ofString "__package__") 167) Value.none, DictEntry.mk (PyData.keyHash P (Str.ofString "__loader__")) (Value.str (Str.ofString "__loader__") 168) (Value.builtin "__main__.__loader__#opaque"), DictEntry.mk (PyData.keyHash P (Str.ofString "__spec__")) (Value.str (Str.ofString "__spec__") 169) Value.none, DictEntry.mk (PyData.keyHash P (Str.ofString "__annotations__")) (Value.str (Str.ofString "__annotations__") 170) (Value.ref 6), DictEntry.mk (PyData.keyHash P (Str.ofString "__builtins__")) (Value.str (Str.ofString "__builtins__") 171) (Value.ref 4), DictEntry.mk (PyData.keyHash P (Str.ofString "__file__")) (Value.str (Str.ofString "__file__") 173) (Value.str (Str.ofString "/claim/cut.py") 172), DictEntry.mk (PyData.keyHash P (Str.ofString "__cached__")) (Value.str (Str.ofString "__cached__") 174) Value.none, DictEntry.mk (PyData.keyHash P (Str.ofString "HealError")) (Value.str (Str.ofString "HealError") 206) (Value.ref 24), DictEntry.mk (PyData.keyHash P (Str.ofString "NoNumbers")) (Value.str (Str.ofString "NoNumbers") 222) (Value.ref 37), DictEntry.mk (PyData.keyHash P (Str.ofString "NoRing")) (Value.str (Str.ofString "NoRing") 238) (Value.ref 49), DictEntry.mk (PyData.keyHash P (Str.ofString "NoMachine")) (Value.str (Str.ofString "NoMachine") 254) (Value.ref 61), DictEntry.mk (PyData.keyHash P (Str.ofString "NotNow")) (Value.str (Str.ofString "NotNow") 270) (Value.ref 73), DictEntry.mk (PyData.keyHash P (Str.ofString "NotHealed")) (Value.str (Str.ofString "NotHealed") 286) (Value.ref 85), DictEntry.mk (PyData.keyHash P (Str.ofString "TooGreat")) (Value.str (Str.ofString "TooGreat") 302) (Value.ref 97)] 16) #[]
noncomputable def o12_2 (P : Params) : Obj := Obj.mk Value.none Option.none (Data.fields #[Value.int 2 0, Value.int 0 0, Value.ref 20, Value.int 4 0, Value.int 0 0, Value.ref 33, Value.int 6 0, Value.int 0 0, Value.ref 45, Value.int 8 0, Value.int 0 0, Value.ref 57, Value.int 10 0, Value.int 0 0, Value.ref 69, Value.int 12 0, Value.int 0 0, Value.ref 81, Value.int 14 0, Value.int 0 0, Value.ref 93]) #[]
noncomputable def o24_1 (P : Params) : Obj := Obj.mk (Value.type "type") Option.none (Data.cls (ClassData.mk (Str.ofString "HealError") [Value.type "ValueError"] [Value.ref 24, Value.type "ValueError", Value.type "Exception", Value.type "BaseException", Value.type "object"] 23 (Str.ofString "HealError") Bool.true [] [Value.ref 37, Value.ref 49, Value.ref 61, Value.ref 73, Value.ref 85, Value.ref 97] Bool.false Option.none Bool.false)) #[Option.some (Value.ref 15), Option.none, Option.some (Value.str (Str.ofString "HealError") 189), Option.some (Value.str (Str.ofString "HealError") 197), Option.some (Value.builtin "ValueError.__new__"), Option.some (Value.bool Bool.true)]
noncomputable def o64_0 (P : Params) : Obj := Obj.mk (Value.type "tuple") Option.none (Data.seq #[Value.ref 24]) #[]
noncomputable def o65_0 (P : Params) : Obj := Obj.mk (Value.type "builtin_function_or_method") Option.none (Data.fields #[Value.builtin "type.__prepare__", Value.type "type"]) #[]
noncomputable def o66_0 (P : Params) : Obj := Obj.mk (Value.type "dict") Option.none (Data.dict #[DictEntry.mk (PyData.keyHash P (Str.ofString "__module__")) (Value.str (Str.ofString "__module__") 262) (Value.str (Str.ofString "healring.errors") 187), DictEntry.mk (PyData.keyHash P (Str.ofString "__qualname__")) (Value.str (Str.ofString "__qualname__") 264) (Value.str (Str.ofString "NotNow") 263), DictEntry.mk (PyData.keyHash P (Str.ofString "__firstlineno__")) (Value.str (Str.ofString "__firstlineno__") 266) (Value.int 10 265), DictEntry.mk (PyData.keyHash P (Str.ofString "__static_attributes__")) (Value.str (Str.ofString "__static_attributes__") 267) (Value.ref 71)] 4) #[]
noncomputable def o67_0 (P : Params) : Obj := Obj.mk (Value.type "tuple") Option.none (Data.seq #[]) #[]
noncomputable def o68_0 (P : Params) : Obj := Obj.mk Value.none Option.none (Data.fields #[]) #[]
noncomputable def o69_0 (P : Params) : Obj := Obj.mk (Value.type "code") Option.none (Data.fields #[Value.str (Str.ofString "NotNow") 257, Value.str (Str.ofString "NotNow") 258, Value.str (Str.ofString "/claim/cut.py") 259, Value.int 10 0, Value.int 0 0, Value.int 0 0, Value.int 0 0, Value.int 0 0, Value.ref 67, Value.bool Bool.false, Value.int 181 0, Value.ref 68, Value.none, Value.none, Value.none, Value.none, Value.int 260 0, Value.int 10 0, Value.str (Str.ofString "/claim/cut.py") 261]) #[]
noncomputable def o70_0 (P : Params) : Obj := Obj.mk (Value.type "frame") Option.none Data.plain #[Option.some (Value.ref 69), Option.some (Value.ref 3), Option.some (Value.ref 66), Option.none, Option.some (Value.str (Str.ofString "healring.errors") 187), Option.none, Option.some (Value.ref 0)]
noncomputable def o71_0 (P : Params) : Obj := Obj.mk (Value.type "tuple") Option.none (Data.seq #[]) #[]
noncomputable def o72_0 (P : Params) : Obj := Obj.mk (Value.type "dict") Option.none (Data.dict #[DictEntry.mk (PyData.keyHash P (Str.ofString "__module__")) (Value.str (Str.ofString "__module__") 262) (Value.str (Str.ofString "healring.errors") 187), DictEntry.mk (PyData.keyHash P (Str.ofString "__firstlineno__")) (Value.str (Str.ofString "__firstlineno__") 266) (Value.int 10 265), DictEntry.mk (PyData.keyHash P (Str.ofString "__static_attributes__")) (Value.str (Str.ofString "__static_attributes__") 267) (Value.ref 71), DictEntry.mk (PyData.keyHash P (Str.ofString "__doc__")) (Value.str (Str.ofString "__doc__") 268) Value.none] 2) #[]
noncomputable def o73_0 (P : Params) : Obj := Obj.mk (Value.type "type") Option.none (Data.cls (ClassData.mk (Str.ofString "NotNow") [Value.ref 24] [Value.ref 73, Value.ref 24, Value.type "ValueError", Value.type "Exception", Value.type "BaseException", Value.type "object"] 72 (Str.ofString "NotNow") Bool.true [] [] Bool.false Option.none Bool.false)) #[Option.some (Value.ref 64), Option.none, Option.some (Value.str (Str.ofString "NotNow") 255), Option.some (Value.str (Str.ofString "NotNow") 263), Option.some (Value.builtin "ValueError.__new__"), Option.some (Value.bool Bool.true)]
noncomputable def o74_0 (P : Params) : Obj := Obj.mk (Value.type "super") Option.none (Data.fields #[Value.ref 73, Value.ref 73, Value.ref 73]) #[]
noncomputable def o75_0 (P : Params) : Obj := Obj.mk (Value.type "builtin_function_or_method") Option.none (Data.fields #[Value.builtin "object.__init_subclass__", Value.ref 73]) #[]
noncomputable def o76_0 (P : Params) : Obj := Obj.mk (Value.type "tuple") Option.none (Data.seq #[Value.ref 24]) #[]
noncomputable def o77_0 (P : Params) : Obj := Obj.mk (Value.type "builtin_function_or_method") Option.none (Data.fields #[Value.builtin "type.__prepare__", Value.type "type"]) #[]
noncomputable def o78_0 (P : Params) : Obj := Obj.mk (Value.type "dict") Option.none (Data.dict #[DictEntry.mk (PyData.keyHash P (Str.ofString "__module__")) (Value.str (Str.ofString "__module__") 278) (Value.str (Str.ofString "healring.errors") 187), DictEntry.mk (PyData.keyHash P (Str.ofString "__qualname__")) (Value.str (Str.ofString "__qualname__") 280) (Value.str (Str.ofString "NotHealed") 279), DictEntry.mk (PyData.keyHash P (Str.ofString "__firstlineno__")) (Value.str (Str.ofString "__firstlineno__") 282) (Value.int 12 281), DictEntry.mk (PyData.keyHash P (Str.ofString "__static_attributes__")) (Value.str (Str.ofString "__static_attributes__") 283) (Value.ref 83)] 4) #[]
noncomputable def o79_0 (P : Params) : Obj := Obj.mk (Value.type "tuple") Option.none (Data.seq #[]) #[]
noncomputable def o80_0 (P : Params) : Obj := Obj.mk Value.none Option.none (Data.fields #[]) #[]
noncomputable def o81_0 (P : Params) : Obj := Obj.mk (Value.type "code") Option.none (Data.fields #[Value.str (Str.ofString "NotHealed") 273, Value.str (Str.ofString "NotHealed") 274, Value.str (Str.ofString "/claim/cut.py") 275, Value.int 12 0, Value.int 0 0, Value.int 0 0, Value.int 0 0, Value.int 0 0, Value.ref 79, Value.bool Bool.false, Value.int 181 0, Value.ref 80, Value.none, Value.none, Value.none, Value.none, Value.int 276 0, Value.int 12 0, Value.str (Str.ofString "/claim/cut.py") 277]) #[]
noncomputable def o82_0 (P : Params) : Obj := Obj.mk (Value.type "frame") Option.none Data.plain #[Option.some (Value.ref 81), Option.some (Value.ref 3), Option.some (Value.ref 78), Option.none, Option.some (Value.str (Str.ofString "healring.errors") 187), Option.none, Option.some (Value.ref 0)]
noncomputable def o83_0 (P : Params) : Obj := Obj.mk (Value.type "tuple") Option.none (Data.seq #[]) #[]
noncomputable def o84_0 (P : Params) : Obj := Obj.mk (Value.type "dict") Option.none (Data.dict #[DictEntry.mk (PyData.keyHash P (Str.ofString "__module__")) (Value.str (Str.ofString "__module__") 278) (Value.str (Str.ofString "healring.errors") 187), DictEntry.mk (PyData.keyHash P (Str.ofString "__firstlineno__")) (Value.str (Str.ofString "__firstlineno__") 282) (Value.int 12 281), DictEntry.mk (PyData.keyHash P (Str.ofString "__static_attributes__")) (Value.str (Str.ofString "__static_attributes__") 283) (Value.ref 83), DictEntry.mk (PyData.keyHash P (Str.ofString "__doc__")) (Value.str (Str.ofString "__doc__") 284) Value.none] 2) #[]
noncomputable def o85_0 (P : Params) : Obj := Obj.mk (Value.type "type") Option.none (Data.cls (ClassData.mk (Str.ofString "NotHealed") [Value.ref 24] [Value.ref 85, Value.ref 24, Value.type "ValueError", Value.type "Exception", Value.type "BaseException", Value.type "object"] 84 (Str.ofString "NotHealed") Bool.true [] [] Bool.false Option.none Bool.false)) #[Option.some (Value.ref 76), Option.none, Option.some (Value.str (Str.ofString "NotHealed") 271), Option.some (Value.str (Str.ofString "NotHealed") 279), Option.some (Value.builtin "ValueError.__new__"), Option.some (Value.bool Bool.true)]
noncomputable def o86_0 (P : Params) : Obj := Obj.mk (Value.type "super") Option.none (Data.fields #[Value.ref 85, Value.ref 85, Value.ref 85]) #[]
noncomputable def o87_0 (P : Params) : Obj := Obj.mk (Value.type "builtin_function_or_method") Option.none (Data.fields #[Value.builtin "object.__init_subclass__", Value.ref 85]) #[]
noncomputable def o88_0 (P : Params) : Obj := Obj.mk (Value.type "tuple") Option.none (Data.seq #[Value.ref 24]) #[]
noncomputable def o89_0 (P : Params) : Obj := Obj.mk (Value.type "builtin_function_or_method") Option.none (Data.fields #[Value.builtin "type.__prepare__", Value.type "type"]) #[]
noncomputable def o90_0 (P : Params) : Obj := Obj.mk (Value.type "dict") Option.none (Data.dict #[DictEntry.mk (PyData.keyHash P (Str.ofString "__module__")) (Value.str (Str.ofString "__module__") 294) (Value.str (Str.ofString "healring.errors") 187), DictEntry.mk (PyData.keyHash P (Str.ofString "__qualname__")) (Value.str (Str.ofString "__qualname__") 296) (Value.str (Str.ofString "TooGreat") 295), DictEntry.mk (PyData.keyHash P (Str.ofString "__firstlineno__")) (Value.str (Str.ofString "__firstlineno__") 298) (Value.int 14 297), DictEntry.mk (PyData.keyHash P (Str.ofString "__static_attributes__")) (Value.str (Str.ofString "__static_attributes__") 299) (Value.ref 95)] 4) #[]
noncomputable def o91_0 (P : Params) : Obj := Obj.mk (Value.type "tuple") Option.none (Data.seq #[]) #[]
noncomputable def o92_0 (P : Params) : Obj := Obj.mk Value.none Option.none (Data.fields #[]) #[]
noncomputable def o93_0 (P : Params) : Obj := Obj.mk (Value.type "code") Option.none (Data.fields #[Value.str (Str.ofString "TooGreat") 289, Value.str (Str.ofString "TooGreat") 290, Value.str (Str.ofString "/claim/cut.py") 291, Value.int 14 0, Value.int 0 0, Value.int 0 0, Value.int 0 0, Value.int 0 0, Value.ref 91, Value.bool Bool.false, Value.int 181 0, Value.ref 92, Value.none, Value.none, Value.none, Value.none, Value.int 292 0, Value.int 14 0, Value.str (Str.ofString "/claim/cut.py") 293]) #[]
noncomputable def o94_0 (P : Params) : Obj := Obj.mk (Value.type "frame") Option.none Data.plain #[Option.some (Value.ref 93), Option.some (Value.ref 3), Option.some (Value.ref 90), Option.none, Option.some (Value.str (Str.ofString "healring.errors") 187), Option.none, Option.some (Value.ref 0)]
noncomputable def o95_0 (P : Params) : Obj := Obj.mk (Value.type "tuple") Option.none (Data.seq #[]) #[]
noncomputable def o96_0 (P : Params) : Obj := Obj.mk (Value.type "dict") Option.none (Data.dict #[DictEntry.mk (PyData.keyHash P (Str.ofString "__module__")) (Value.str (Str.ofString "__module__") 294) (Value.str (Str.ofString "healring.errors") 187), DictEntry.mk (PyData.keyHash P (Str.ofString "__firstlineno__")) (Value.str (Str.ofString "__firstlineno__") 298) (Value.int 14 297), DictEntry.mk (PyData.keyHash P (Str.ofString "__static_attributes__")) (Value.str (Str.ofString "__static_attributes__") 299) (Value.ref 95), DictEntry.mk (PyData.keyHash P (Str.ofString "__doc__")) (Value.str (Str.ofString "__doc__") 300) Value.none] 2) #[]
noncomputable def o97_0 (P : Params) : Obj := Obj.mk (Value.type "type") Option.none (Data.cls (ClassData.mk (Str.ofString "TooGreat") [Value.ref 24] [Value.ref 97, Value.ref 24, Value.type "ValueError", Value.type "Exception", Value.type "BaseException", Value.type "object"] 96 (Str.ofString "TooGreat") Bool.true [] [] Bool.false Option.none Bool.false)) #[Option.some (Value.ref 88), Option.none, Option.some (Value.str (Str.ofString "TooGreat") 287), Option.some (Value.str (Str.ofString "TooGreat") 295), Option.some (Value.builtin "ValueError.__new__"), Option.some (Value.bool Bool.true)]
noncomputable def o98_0 (P : Params) : Obj := Obj.mk (Value.type "super") Option.none (Data.fields #[Value.ref 97, Value.ref 97, Value.ref 97]) #[]
noncomputable def o99_0 (P : Params) : Obj := Obj.mk (Value.type "builtin_function_or_method") Option.none (Data.fields #[Value.builtin "object.__init_subclass__", Value.ref 97]) #[]
noncomputable def tree_8 (P : Params) : BT := (.node (boot_o_0 P) (.node (boot_o_1 P) (.node (o3_1 P) (.node (boot_o_7 P) (.node (o15_0 P) (.node (o31_0 P) (.node (o63_0 P) .nil .nil) (.node (o95_0 P) .nil .nil)) (.node (o47_0 P) (.node (o79_0 P) .nil .nil) .nil)) (.node (o23_0 P) (.node (o39_0 P) (.node (o71_0 P) .nil .nil) .nil) (.node (o55_0 P) (.node (o87_0 P) .nil .nil) .nil))) (.node (o11_0 P) (.node (o19_0 P) (.node (o35_0 P) (.node (o67_0 P) .nil .nil) (.node (o99_0 P) .nil .nil)) (.node (o51_0 P) (.node (o83_0 P) .nil .nil) .nil)) (.node (o27_0 P) (.node (o43_0 P) (.node (o75_0 P) .nil .nil) .nil) (.node (o59_0 P) (.node (o91_0 P) .nil .nil) .nil)))) (.node (boot_o_5 P) (.node (boot_o_9 P) (.node (o17_0 P) (.node (o33_0 P) (.node (o65_0 P) .nil .nil) (.node (o97_0 P) .nil .nil)) (.node (o49_0 P) (.node (o81_0 P) .nil .nil) .nil)) (.node (o25_0 P) (.node (o41_0 P) (.node (o73_0 P) .nil .nil) .nil) (.node (o57_0 P) (.node (o89_0 P) .nil .nil) .nil))) (.node (o13_0 P) (.node (o21_0 P) (.node (o37_0 P) (.node (o69_0 P) .nil .nil) .nil) (.node (o53_0 P) (.node (o85_0 P) .nil .nil) .nil)) (.node (o29_0 P) (.node (o45_0 P) (.node (o77_0 P) .nil .nil) .nil) (.node (o61_0 P) (.node (o93_0 P) .nil .nil) .nil))))) (.node (boot_o_2 P) (.node (boot_o_4 P) (.node (boot_o_8 P) (.node (o16_0 P) (.node (o32_0 P) (.node (o64_0 P) .nil .nil) (.node (o96_0 P) .nil .nil)) (.node (o48_0 P) (.node (o80_0 P) .nil .nil) .nil)) (.node (o24_1 P) (.node (o40_0 P) (.node (o72_0 P) .nil .nil) .nil) (.node (o56_0 P) (.node (o88_0 P) .nil .nil) .nil))) (.node (o12_2 P) (.node (o20_0 P) (.node (o36_0 P) (.node (o68_0 P) .nil .nil) .nil) (.node (o52_0 P) (.node (o84_0 P) .nil .nil) .nil)) (.node (o28_0 P) (.node (o44_0 P) (.node (o76_0 P) .nil .nil) .nil) (.node (o60_0 P) (.node (o92_0 P) .nil .nil) .nil)))) (.node (boot_o_6 P) (.node (boot_o_10 P) (.node (o18_0 P) (.node (o34_0 P) (.node (o66_0 P) .nil .nil) (.node (o98_0 P) .nil .nil)) (.node (o50_0 P) (.node (o82_0 P) .nil .nil) .nil)) (.node (o26_0 P) (.node (o42_0 P) (.node (o74_0 P) .nil .nil) .nil) (.node (o58_0 P) (.node (o90_0 P) .nil .nil) .nil))) (.node (o14_0 P) (.node (o22_0 P) (.node (o38_0 P) (.node (o70_0 P) .nil .nil) .nil) (.node (o54_0 P) (.node (o86_0 P) .nil .nil) .nil)) (.node (o30_0 P) (.node (o46_0 P) (.node (o78_0 P) .nil .nil) .nil) (.node (o62_0 P) (.node (o94_0 P) .nil .nil) .nil))))))
noncomputable abbrev S_8 (w : World) (os : OsState) : SharedT := ⟨tree_8 w.params, 100, Life.mk [] [] [] 0 [] [] Bool.false #[] [] 0 Bool.false Bool.false Bool.false 0 [2000, 10, 10] Bool.false 0 Bool.true [] [] 0 Bool.false, ⟨[]⟩, Drawn.mk 0 0 0 0, 303, os⟩
noncomputable def o3_2 (P : Params) : Obj := Obj.mk (Value.type "dict") Option.none (Data.dict #[DictEntry.mk (PyData.keyHash P (Str.ofString "__name__")) (Value.str (Str.ofString "__name__") 165) (Value.str (Str.ofString "healring.rings") 303), DictEntry.mk (PyData.keyHash P (Str.ofString "__doc__")) (Value.str (Str.ofString "__doc__") 166) Value.none, DictEntry.mk (PyData.keyHash P (Str.ofString "__package__")) (Value.str (Str.ofString "__package__") 167) Value.none, DictEntry.mk (PyData.keyHash P (Str.ofString "__loader__")) (Value.str (Str.ofString "__loader__") 168) (Value.builtin "__main__.__loader__#opaque"), DictEntry.mk (PyData.keyHash P (Str.ofString "__spec__")) (Value.str (Str.ofString "__spec__") 169) Value.none, DictEntry.mk (PyData.keyHash P (Str.ofString "__annotations__")) (Value.str (Str.ofString "__annotations__") 170) (Value.ref 6), DictEntry.mk (PyData.keyHash P (Str.ofString "__builtins__")) (Value.str (Str.ofString "__builtins__") 171) (Value.ref 4), DictEntry.mk (PyData.keyHash P (Str.ofString "__file__")) (Value.str (Str.ofString "__file__") 173) (Value.str (Str.ofString "/claim/cut.py") 172), DictEntry.mk (PyData.keyHash P (Str.ofString "__cached__")) (Value.str (Str.ofString "__cached__") 174) Value.none, DictEntry.mk (PyData.keyHash P (Str.ofString "HealError")) (Value.str (Str.ofString "HealError") 206) (Value.ref 24), DictEntry.mk (PyData.keyHash P (Str.ofString "NoNumbers")) (Value.str (Str.ofString "NoNumbers") 222) (Value.ref 37), DictEntry.mk (PyData.keyHash P (Str.ofString "NoRing")) (Value.str (Str.ofString "NoRing") 238) (Value.ref 49), DictEntry.mk (PyData.keyHash P (Str.ofString "NoMachine")) (Value.str (Str.ofString "NoMachine") 254) (Value.ref 61), DictEntry.mk (PyData.keyHash P (Str.ofString "NotNow")) (Value.str (Str.ofString "NotNow") 270) (Value.ref 73), DictEntry.mk (PyData.keyHash P (Str.ofString "NotHealed")) (Value.str (Str.ofString "NotHealed") 286) (Value.ref 85), DictEntry.mk (PyData.keyHash P (Str.ofString "TooGreat")) (Value.str (Str.ofString "TooGreat") 302) (Value.ref 97), DictEntry.mk (PyData.keyHash P (Str.ofString "LEAST")) (Value.str (Str.ofString "LEAST") 306) (Value.int 2 305), DictEntry.mk (PyData.keyHash P (Str.ofString "MOST_MACHINES")) (Value.str (Str.ofString "MOST_MACHINES") 308) (Value.int 12 307), DictEntry.mk (PyData.keyHash P (Str.ofString "MOST_NUMBERS")) (Value.str (Str.ofString "MOST_NUMBERS") 310) (Value.int 100 309), DictEntry.mk (PyData.keyHash P (Str.ofString "need_many")) (Value.str (Str.ofString "need_many") 317) (Value.ref 106), DictEntry.mk (PyData.keyHash P (Str.ofString "need_machines")) (Value.str (Str.ofString "need_machines") 324) (Value.ref 113), DictEntry.mk (PyData.keyHash P (Str.ofString "need_ring")) (Value.str (Str.ofString "need_ring") 333) (Value.ref 120), DictEntry.mk (PyData.keyHash P (Str.ofString "may_step")) (Value.str (Str.ofString "may_step") 341) (Value.ref 127)] 23) #[]
noncomputable def o12_3 (P : Params) : Obj := Obj.mk Value.none Option.none (Data.fields #[Value.int 2 0, Value.int 0 0, Value.ref 20, Value.int 4 0, Value.int 0 0, Value.ref 33, Value.int 6 0, Value.int 0 0, Value.ref 45, Value.int 8 0, Value.int 0 0, Value.ref 57, Value.int 10 0, Value.int 0 0, Value.ref 69, Value.int 12 0, Value.int 0 0, Value.ref 81, Value.int 14 0, Value.int 0 0, Value.ref 93, Value.int 20 0, Value.int 0 0, Value.ref 105, Value.int 23 0, Value.int 0 0, Value.ref 112, Value.int 26 0, Value.int 0 0, Value.ref 119, Value.int 32 0, Value.int 0 0, Value.ref 126]) #[]
noncomputable def o100_0 (P : Params) : Obj := Obj.mk (Value.type "tuple") Option.none (Data.seq #[]) #[]
noncomputable def o101_0 (P : Params) : Obj := Obj.mk Value.none Option.none (Data.fields #[]) #[]
noncomputable def o102_0 (P : Params) : Obj := Obj.mk (Value.type "tuple") Option.none (Data.seq #[Value.str (Str.ofString "many") 314]) #[]
noncomputable def o103_0 (P : Params) : Obj := Obj.mk (Value.type "tuple") Option.none (Data.seq #[]) #[]
noncomputable def o104_0 (P : Params) : Obj := Obj.mk (Value.none) (Option.none) (Data.func (FuncData.mk (Str.ofString "need_many") (Str.ofString "need_many")  (fA 12) (.stmts (fB 12)) (fS 12) 0 [] Value.none Value.none Value.none Value.none Option.none Value.none Value.none 0)) #[]
noncomputable def o105_0 (P : Params) : Obj := Obj.mk (Value.type "code") Option.none (Data.fields #[Value.str (Str.ofString "need_many") 311, Value.str (Str.ofString "need_many") 312, Value.str (Str.ofString "/claim/cut.py") 313, Value.int 20 0, Value.int 1 0, Value.int 0 0, Value.int 0 0, Value.int 3 0, Value.ref 100, Value.bool Bool.true, Value.int 181 0, Value.ref 101, Value.none, Value.ref 102, Value.ref 103, Value.ref 104, Value.int 315 0, Value.int 20 0, Value.str (Str.ofString "/claim/cut.py") 316]) #[]
noncomputable def o106_0 (P : Params) : Obj := Obj.mk (Value.type "function") (Option.none) (Data.func (FuncData.mk (Str.ofString "need_many") (Str.ofString "need_many")  (fA 12) (.stmts (fB 12)) (fS 12) 3 [] Value.none Value.none Value.none (Value.str (Str.ofString "healring.rings") 303) Option.none (Value.ref 105) Value.none 0)) #[]
noncomputable def o107_0 (P : Params) : Obj := Obj.mk (Value.type "tuple") Option.none (Data.seq #[]) #[]
noncomputable def o108_0 (P : Params) : Obj := Obj.mk Value.none Option.none (Data.fields #[]) #[]
noncomputable def o109_0 (P : Params) : Obj := Obj.mk (Value.type "tuple") Option.none (Data.seq #[Value.str (Str.ofString "machines") 321]) #[]
noncomputable def o110_0 (P : Params) : Obj := Obj.mk (Value.type "tuple") Option.none (Data.seq #[]) #[]
noncomputable def o111_0 (P : Params) : Obj := Obj.mk (Value.none) (Option.none) (Data.func (FuncData.mk (Str.ofString "need_machines") (Str.ofString "need_machines")  (fA 13) (.stmts (fB 13)) (fS 13) 0 [] Value.none Value.none Value.none Value.none Option.none Value.none Value.none 0)) #[]
noncomputable def o112_0 (P : Params) : Obj := Obj.mk (Value.type "code") Option.none (Data.fields #[Value.str (Str.ofString "need_machines") 318, Value.str (Str.ofString "need_machines") 319, Value.str (Str.ofString "/claim/cut.py") 320, Value.int 23 0, Value.int 1 0, Value.int 0 0, Value.int 0 0, Value.int 3 0, Value.ref 107, Value.bool Bool.true, Value.int 181 0, Value.ref 108, Value.none, Value.ref 109, Value.ref 110, Value.ref 111, Value.int 322 0, Value.int 23 0, Value.str (Str.ofString "/claim/cut.py") 323]) #[]
noncomputable def o113_0 (P : Params) : Obj := Obj.mk (Value.type "function") (Option.none) (Data.func (FuncData.mk (Str.ofString "need_machines") (Str.ofString "need_machines")  (fA 13) (.stmts (fB 13)) (fS 13) 3 [] Value.none Value.none Value.none (Value.str (Str.ofString "healring.rings") 303) Option.none (Value.ref 112) Value.none 0)) #[]
noncomputable def o114_0 (P : Params) : Obj := Obj.mk (Value.type "tuple") Option.none (Data.seq #[]) #[]
noncomputable def o115_0 (P : Params) : Obj := Obj.mk Value.none Option.none (Data.fields #[]) #[]
noncomputable def o116_0 (P : Params) : Obj := Obj.mk (Value.type "tuple") Option.none (Data.seq #[Value.str (Str.ofString "ring") 328, Value.str (Str.ofString "many") 329, Value.str (Str.ofString "number") 330]) #[]
noncomputable def o117_0 (P : Params) : Obj := Obj.mk (Value.type "tuple") Option.none (Data.seq #[]) #[]
noncomputable def o118_0 (P : Params) : Obj := Obj.mk (Value.none) (Option.none) (Data.func (FuncData.mk (Str.ofString "need_ring") (Str.ofString "need_ring")  (fA 14) (.stmts (fB 14)) (fS 14) 0 [] Value.none Value.none Value.none Value.none Option.none Value.none Value.none 0)) #[]
noncomputable def o119_0 (P : Params) : Obj := Obj.mk (Value.type "code") Option.none (Data.fields #[Value.str (Str.ofString "need_ring") 325, Value.str (Str.ofString "need_ring") 326, Value.str (Str.ofString "/claim/cut.py") 327, Value.int 26 0, Value.int 2 0, Value.int 0 0, Value.int 0 0, Value.int 3 0, Value.ref 114, Value.bool Bool.true, Value.int 181 0, Value.ref 115, Value.none, Value.ref 116, Value.ref 117, Value.ref 118, Value.int 331 0, Value.int 26 0, Value.str (Str.ofString "/claim/cut.py") 332]) #[]
noncomputable def o120_0 (P : Params) : Obj := Obj.mk (Value.type "function") (Option.none) (Data.func (FuncData.mk (Str.ofString "need_ring") (Str.ofString "need_ring")  (fA 14) (.stmts (fB 14)) (fS 14) 3 [] Value.none Value.none Value.none (Value.str (Str.ofString "healring.rings") 303) Option.none (Value.ref 119) Value.none 0)) #[]
noncomputable def o121_0 (P : Params) : Obj := Obj.mk (Value.type "tuple") Option.none (Data.seq #[]) #[]
noncomputable def o122_0 (P : Params) : Obj := Obj.mk Value.none Option.none (Data.fields #[]) #[]
noncomputable def o123_0 (P : Params) : Obj := Obj.mk (Value.type "tuple") Option.none (Data.seq #[Value.str (Str.ofString "ring") 337, Value.str (Str.ofString "machine") 338]) #[]
noncomputable def o124_0 (P : Params) : Obj := Obj.mk (Value.type "tuple") Option.none (Data.seq #[]) #[]
noncomputable def o125_0 (P : Params) : Obj := Obj.mk (Value.none) (Option.none) (Data.func (FuncData.mk (Str.ofString "may_step") (Str.ofString "may_step")  (fA 15) (.stmts (fB 15)) (fS 15) 0 [] Value.none Value.none Value.none Value.none Option.none Value.none Value.none 0)) #[]
noncomputable def o126_0 (P : Params) : Obj := Obj.mk (Value.type "code") Option.none (Data.fields #[Value.str (Str.ofString "may_step") 334, Value.str (Str.ofString "may_step") 335, Value.str (Str.ofString "/claim/cut.py") 336, Value.int 32 0, Value.int 2 0, Value.int 0 0, Value.int 0 0, Value.int 3 0, Value.ref 121, Value.bool Bool.true, Value.int 181 0, Value.ref 122, Value.none, Value.ref 123, Value.ref 124, Value.ref 125, Value.int 339 0, Value.int 32 0, Value.str (Str.ofString "/claim/cut.py") 340]) #[]
noncomputable def o127_0 (P : Params) : Obj := Obj.mk (Value.type "function") (Option.none) (Data.func (FuncData.mk (Str.ofString "may_step") (Str.ofString "may_step")  (fA 15) (.stmts (fB 15)) (fS 15) 3 [] Value.none Value.none Value.none (Value.str (Str.ofString "healring.rings") 303) Option.none (Value.ref 126) Value.none 0)) #[]
noncomputable def tree_16 (P : Params) : BT := (.node (boot_o_0 P) (.node (boot_o_1 P) (.node (o3_2 P) (.node (boot_o_7 P) (.node (o15_0 P) (.node (o31_0 P) (.node (o63_0 P) (.node (o127_0 P) .nil .nil) .nil) (.node (o95_0 P) .nil .nil)) (.node (o47_0 P) (.node (o79_0 P) .nil .nil) (.node (o111_0 P) .nil .nil))) (.node (o23_0 P) (.node (o39_0 P) (.node (o71_0 P) .nil .nil) (.node (o103_0 P) .nil .nil)) (.node (o55_0 P) (.node (o87_0 P) .nil .nil) (.node (o119_0 P) .nil .nil)))) (.node (o11_0 P) (.node (o19_0 P) (.node (o35_0 P) (.node (o67_0 P) .nil .nil) (.node (o99_0 P) .nil .nil)) (.node (o51_0 P) (.node (o83_0 P) .nil .nil) (.node (o115_0 P) .nil .nil))) (.node (o27_0 P) (.node (o43_0 P) (.node (o75_0 P) .nil .nil) (.node (o107_0 P) .nil .nil)) (.node (o59_0 P) (.node (o91_0 P) .nil .nil) (.node (o123_0 P) .nil .nil))))) (.node (boot_o_5 P) (.node (boot_o_9 P) (.node (o17_0 P) (.node (o33_0 P) (.node (o65_0 P) .nil .nil) (.node (o97_0 P) .nil .nil)) (.node (o49_0 P) (.node (o81_0 P) .nil .nil) (.node (o113_0 P) .nil .nil))) (.node (o25_0 P) (.node (o41_0 P) (.node (o73_0 P) .nil .nil) (.node (o105_0 P) .nil .nil)) (.node (o57_0 P) (.node (o89_0 P) .nil .nil) (.node (o121_0 P) .nil .nil)))) (.node (o13_0 P) (.node (o21_0 P) (.node (o37_0 P) (.node (o69_0 P) .nil .nil) (.node (o101_0 P) .nil .nil)) (.node (o53_0 P) (.node (o85_0 P) .nil .nil) (.node (o117_0 P) .nil .nil))) (.node (o29_0 P) (.node (o45_0 P) (.node (o77_0 P) .nil .nil) (.node (o109_0 P) .nil .nil)) (.node (o61_0 P) (.node (o93_0 P) .nil .nil) (.node (o125_0 P) .nil .nil)))))) (.node (boot_o_2 P) (.node (boot_o_4 P) (.node (boot_o_8 P) (.node (o16_0 P) (.node (o32_0 P) (.node (o64_0 P) .nil .nil) (.node (o96_0 P) .nil .nil)) (.node (o48_0 P) (.node (o80_0 P) .nil .nil) (.node (o112_0 P) .nil .nil))) (.node (o24_1 P) (.node (o40_0 P) (.node (o72_0 P) .nil .nil) (.node (o104_0 P) .nil .nil)) (.node (o56_0 P) (.node (o88_0 P) .nil .nil) (.node (o120_0 P) .nil .nil)))) (.node (o12_3 P) (.node (o20_0 P) (.node (o36_0 P) (.node (o68_0 P) .nil .nil) (.node (o100_0 P) .nil .nil)) (.node (o52_0 P) (.node (o84_0 P) .nil .nil) (.node (o116_0 P) .nil .nil))) (.node (o28_0 P) (.node (o44_0 P) (.node (o76_0 P) .nil .nil) (.node (o108_0 P) .nil .nil)) (.node (o60_0 P) (.node (o92_0 P) .nil .nil) (.node (o124_0 P) .nil .nil))))) (.node (boot_o_6 P) (.node (boot_o_10 P) (.node (o18_0 P) (.node (o34_0 P) (.node (o66_0 P) .nil .nil) (.node (o98_0 P) .nil .nil)) (.node (o50_0 P) (.node (o82_0 P) .nil .nil) (.node (o114_0 P) .nil .nil))) (.node (o26_0 P) (.node (o42_0 P) (.node (o74_0 P) .nil .nil) (.node (o106_0 P) .nil .nil)) (.node (o58_0 P) (.node (o90_0 P) .nil .nil) (.node (o122_0 P) .nil .nil)))) (.node (o14_0 P) (.node (o22_0 P) (.node (o38_0 P) (.node (o70_0 P) .nil .nil) (.node (o102_0 P) .nil .nil)) (.node (o54_0 P) (.node (o86_0 P) .nil .nil) (.node (o118_0 P) .nil .nil))) (.node (o30_0 P) (.node (o46_0 P) (.node (o78_0 P) .nil .nil) (.node (o110_0 P) .nil .nil)) (.node (o62_0 P) (.node (o94_0 P) .nil .nil) (.node (o126_0 P) .nil .nil)))))))
noncomputable abbrev S_16 (w : World) (os : OsState) : SharedT := ⟨tree_16 w.params, 128, Life.mk [] [] [] 0 [] [] Bool.false #[] [] 0 Bool.false Bool.false Bool.false 0 [2000, 10, 10] Bool.false 0 Bool.true [] [] 0 Bool.false, ⟨[]⟩, Drawn.mk 0 0 0 0, 342, os⟩
noncomputable def o3_3 (P : Params) : Obj := Obj.mk (Value.type "dict") Option.none (Data.dict #[DictEntry.mk (PyData.keyHash P (Str.ofString "__name__")) (Value.str (Str.ofString "__name__") 165) (Value.str (Str.ofString "law_uf050025_12") 434), DictEntry.mk (PyData.keyHash P (Str.ofString "__doc__")) (Value.str (Str.ofString "__doc__") 166) Value.none, DictEntry.mk (PyData.keyHash P (Str.ofString "__package__")) (Value.str (Str.ofString "__package__") 167) Value.none, DictEntry.mk (PyData.keyHash P (Str.ofString "__loader__")) (Value.str (Str.ofString "__loader__") 168) (Value.builtin "__main__.__loader__#opaque"), DictEntry.mk (PyData.keyHash P (Str.ofString "__spec__")) (Value.str (Str.ofString "__spec__") 169) Value.none, DictEntry.mk (PyData.keyHash P (Str.ofString "__annotations__")) (Value.str (Str.ofString "__annotations__") 170) (Value.ref 6), DictEntry.mk (PyData.keyHash P (Str.ofString "__builtins__")) (Value.str (Str.ofString "__builtins__") 171) (Value.ref 4), DictEntry.mk (PyData.keyHash P (Str.ofString "__file__")) (Value.str (Str.ofString "__file__") 173) (Value.str (Str.ofString "/claim/cut.py") 172), DictEntry.mk (PyData.keyHash P (Str.ofString "__cached__")) (Value.str (Str.ofString "__cached__") 174) Value.none, DictEntry.mk (PyData.keyHash P (Str.ofString "HealError")) (Value.str (Str.ofString "HealError") 206) (Value.ref 24), DictEntry.mk (PyData.keyHash P (Str.ofString "NoNumbers")) (Value.str (Str.ofString "NoNumbers") 222) (Value.ref 37), DictEntry.mk (PyData.keyHash P (Str.ofString "NoRing")) (Value.str (Str.ofString "NoRing") 238) (Value.ref 49), DictEntry.mk (PyData.keyHash P (Str.ofString "NoMachine")) (Value.str (Str.ofString "NoMachine") 254) (Value.ref 61), DictEntry.mk (PyData.keyHash P (Str.ofString "NotNow")) (Value.str (Str.ofString "NotNow") 270) (Value.ref 73), DictEntry.mk (PyData.keyHash P (Str.ofString "NotHealed")) (Value.str (Str.ofString "NotHealed") 286) (Value.ref 85), DictEntry.mk (PyData.keyHash P (Str.ofString "TooGreat")) (Value.str (Str.ofString "TooGreat") 302) (Value.ref 97), DictEntry.mk (PyData.keyHash P (Str.ofString "LEAST")) (Value.str (Str.ofString "LEAST") 306) (Value.int 2 305), DictEntry.mk (PyData.keyHash P (Str.ofString "MOST_MACHINES")) (Value.str (Str.ofString "MOST_MACHINES") 308) (Value.int 12 307), DictEntry.mk (PyData.keyHash P (Str.ofString "MOST_NUMBERS")) (Value.str (Str.ofString "MOST_NUMBERS") 310) (Value.int 100 309), DictEntry.mk (PyData.keyHash P (Str.ofString "need_many")) (Value.str (Str.ofString "need_many") 317) (Value.ref 106), DictEntry.mk (PyData.keyHash P (Str.ofString "need_machines")) (Value.str (Str.ofString "need_machines") 324) (Value.ref 113), DictEntry.mk (PyData.keyHash P (Str.ofString "need_ring")) (Value.str (Str.ofString "need_ring") 333) (Value.ref 120), DictEntry.mk (PyData.keyHash P (Str.ofString "may_step")) (Value.str (Str.ofString "may_step") 341) (Value.ref 127), DictEntry.mk (PyData.keyHash P (Str.ofString "able_of")) (Value.str (Str.ofString "able_of") 347) (Value.ref 132), DictEntry.mk (PyData.keyHash P (Str.ofString "moved")) (Value.str (Str.ofString "moved") 357) (Value.ref 139), DictEntry.mk (PyData.keyHash P (Str.ofString "need_step")) (Value.str (Str.ofString "need_step") 365) (Value.ref 146), DictEntry.mk (PyData.keyHash P (Str.ofString "gone")) (Value.str (Str.ofString "gone") 376) (Value.ref 153), DictEntry.mk (PyData.keyHash P (Str.ofString "MOST_RINGS")) (Value.str (Str.ofString "MOST_RINGS") 380) (Value.int 300 379), DictEntry.mk (PyData.keyHash P (Str.ofString "need_few")) (Value.str (Str.ofString "need_few") 390) (Value.ref 160), DictEntry.mk (PyData.keyHash P (Str.ofString "all_rings")) (Value.str (Str.ofString "all_rings") 403) (Value.ref 167), DictEntry.mk (PyData.keyHash P (Str.ofString "going_on")) (Value.str (Str.ofString "going_on") 409) (Value.ref 172), DictEntry.mk (PyData.keyHash P (Str.ofString "endless")) (Value.str (Str.ofString "endless") 420) (Value.ref 179), DictEntry.mk (PyData.keyHash P (Str.ofString "never")) (Value.str (Str.ofString "never") 433) (Value.ref 186), DictEntry.mk (PyData.keyHash P (Str.ofString "_law_cell_at")) (Value.str (Str.ofString "_law_cell_at") 443) (Value.ref 193), DictEntry.mk (PyData.keyHash P (Str.ofString "_law_whole")) (Value.str (Str.ofString "_law_whole") 450) (Value.ref 200), DictEntry.mk (PyData.keyHash P (Str.ofString "_law_alike")) (Value.str (Str.ofString "_law_alike") 456) (Value.ref 205), DictEntry.mk (PyData.keyHash P (Str.ofString "_law_able")) (Value.str (Str.ofString "_law_able") 465) (Value.ref 212), DictEntry.mk (PyData.keyHash P (Str.ofString "_law_step")) (Value.str (Str.ofString "_law_step") 475) (Value.ref 219), DictEntry.mk (PyData.keyHash P (Str.ofString "_law_all")) (Value.str (Str.ofString "_law_all") 481) (Value.ref 224), DictEntry.mk (PyData.keyHash P (Str.ofString "_law_heights")) (Value.str (Str.ofString "_law_heights") 487) (Value.ref 229), DictEntry.mk (PyData.keyHash P (Str.ofString "_law_sizes")) (Value.str (Str.ofString "_law_sizes") 496) (Value.ref 236), DictEntry.mk (PyData.keyHash P (Str.ofString "_law_only")) (Value.str (Str.ofString "_law_only") 505) (Value.ref 243), DictEntry.mk (PyData.keyHash P (Str.ofString "_law_told")) (Value.str (Str.ofString "_law_told") 515) (Value.ref 250), DictEntry.mk (PyData.keyHash P (Str.ofString "_law_due")) (Value.str (Str.ofString "_law_due") 523) (Value.ref 257), DictEntry.mk (PyData.keyHash P (Str.ofString "law")) (Value.str (Str.ofString "law") 529) (Value.ref 262)] 45) #[]
noncomputable def o12_4 (P : Params) : Obj := Obj.mk Value.none Option.none (Data.fields #[Value.int 2 0, Value.int 0 0, Value.ref 20, Value.int 4 0, Value.int 0 0, Value.ref 33, Value.int 6 0, Value.int 0 0, Value.ref 45, Value.int 8 0, Value.int 0 0, Value.ref 57, Value.int 10 0, Value.int 0 0, Value.ref 69, Value.int 12 0, Value.int 0 0, Value.ref 81, Value.int 14 0, Value.int 0 0, Value.ref 93, Value.int 20 0, Value.int 0 0, Value.ref 105, Value.int 23 0, Value.int 0 0, Value.ref 112, Value.int 26 0, Value.int 0 0, Value.ref 119, Value.int 32 0, Value.int 0 0, Value.ref 126, Value.int 36 0, Value.int 0 0, Value.ref 131, Value.int 38 0, Value.int 0 0, Value.ref 138, Value.int 44 0, Value.int 0 0, Value.ref 145, Value.int 49 0, Value.int 0 0, Value.ref 152, Value.int 58 0, Value.int 0 0, Value.ref 159, Value.int 64 0, Value.int 0 0, Value.ref 166, Value.int 73 0, Value.int 0 0, Value.ref 171, Value.int 75 0, Value.int 0 0, Value.ref 178, Value.int 88 0, Value.int 0 0, Value.ref 185, Value.int 104 0, Value.int 0 0, Value.ref 192, Value.int 108 0, Value.int 0 0, Value.ref 199, Value.int 110 0, Value.int 0 0, Value.ref 204, Value.int 116 0, Value.int 0 0, Value.ref 211, Value.int 122 0, Value.int 0 0, Value.ref 218, Value.int 129 0, Value.int 0 0, Value.ref 223, Value.int 137 0, Value.int 0 0, Value.ref 228, Value.int 155 0, Value.int 0 0, Value.ref 235, Value.int 159 0, Value.int 0 0, Value.ref 242, Value.int 163 0, Value.int 0 0, Value.ref 249, Value.int 171 0, Value.int 0 0, Value.ref 256, Value.int 177 0, Value.int 0 0, Value.ref 261]) #[]
noncomputable def o128_0 (P : Params) : Obj := Obj.mk (Value.type "tuple") Option.none (Data.seq #[]) #[]
noncomputable def o129_0 (P : Params) : Obj := Obj.mk Value.none Option.none (Data.fields #[]) #[]
noncomputable def o130_0 (P : Params) : Obj := Obj.mk (Value.none) (Option.none) (Data.func (FuncData.mk (Str.ofString "able_of") (Str.ofString "able_of")  (fA 16) (.stmts (fB 16)) (fS 16) 0 [] Value.none Value.none Value.none Value.none Option.none Value.none Value.none 0)) #[]
noncomputable def o131_0 (P : Params) : Obj := Obj.mk (Value.type "code") Option.none (Data.fields #[Value.str (Str.ofString "able_of") 342, Value.str (Str.ofString "able_of") 343, Value.str (Str.ofString "/claim/cut.py") 344, Value.int 36 0, Value.int 1 0, Value.int 0 0, Value.int 0 0, Value.int 3 0, Value.ref 128, Value.bool Bool.true, Value.int 181 0, Value.ref 129, Value.none, Value.none, Value.none, Value.ref 130, Value.int 345 0, Value.int 36 0, Value.str (Str.ofString "/claim/cut.py") 346]) #[]
noncomputable def o132_0 (P : Params) : Obj := Obj.mk (Value.type "function") (Option.none) (Data.func (FuncData.mk (Str.ofString "able_of") (Str.ofString "able_of")  (fA 16) (.stmts (fB 16)) (fS 16) 3 [] Value.none Value.none Value.none (Value.str (Str.ofString "healring.rings") 303) Option.none (Value.ref 131) Value.none 0)) #[]
noncomputable def o133_0 (P : Params) : Obj := Obj.mk (Value.type "tuple") Option.none (Data.seq #[]) #[]
noncomputable def o134_0 (P : Params) : Obj := Obj.mk Value.none Option.none (Data.fields #[]) #[]
noncomputable def o135_0 (P : Params) : Obj := Obj.mk (Value.type "tuple") Option.none (Data.seq #[Value.str (Str.ofString "ring") 351, Value.str (Str.ofString "many") 352, Value.str (Str.ofString "machine") 353, Value.str (Str.ofString "number") 354]) #[]
noncomputable def o136_0 (P : Params) : Obj := Obj.mk (Value.type "tuple") Option.none (Data.seq #[]) #[]
noncomputable def o137_0 (P : Params) : Obj := Obj.mk (Value.none) (Option.none) (Data.func (FuncData.mk (Str.ofString "moved") (Str.ofString "moved")  (fA 17) (.stmts (fB 17)) (fS 17) 0 [] Value.none Value.none Value.none Value.none Option.none Value.none Value.none 0)) #[]
noncomputable def o138_0 (P : Params) : Obj := Obj.mk (Value.type "code") Option.none (Data.fields #[Value.str (Str.ofString "moved") 348, Value.str (Str.ofString "moved") 349, Value.str (Str.ofString "/claim/cut.py") 350, Value.int 38 0, Value.int 3 0, Value.int 0 0, Value.int 0 0, Value.int 3 0, Value.ref 133, Value.bool Bool.true, Value.int 181 0, Value.ref 134, Value.none, Value.ref 135, Value.ref 136, Value.ref 137, Value.int 355 0, Value.int 38 0, Value.str (Str.ofString "/claim/cut.py") 356]) #[]
noncomputable def o139_0 (P : Params) : Obj := Obj.mk (Value.type "function") (Option.none) (Data.func (FuncData.mk (Str.ofString "moved") (Str.ofString "moved")  (fA 17) (.stmts (fB 17)) (fS 17) 3 [] Value.none Value.none Value.none (Value.str (Str.ofString "healring.rings") 303) Option.none (Value.ref 138) Value.none 0)) #[]
noncomputable def o140_0 (P : Params) : Obj := Obj.mk (Value.type "tuple") Option.none (Data.seq #[]) #[]
noncomputable def o141_0 (P : Params) : Obj := Obj.mk Value.none Option.none (Data.fields #[]) #[]
noncomputable def o142_0 (P : Params) : Obj := Obj.mk (Value.type "tuple") Option.none (Data.seq #[Value.str (Str.ofString "ring") 361, Value.str (Str.ofString "machine") 362]) #[]
noncomputable def o143_0 (P : Params) : Obj := Obj.mk (Value.type "tuple") Option.none (Data.seq #[]) #[]
noncomputable def o144_0 (P : Params) : Obj := Obj.mk (Value.none) (Option.none) (Data.func (FuncData.mk (Str.ofString "need_step") (Str.ofString "need_step")  (fA 18) (.stmts (fB 18)) (fS 18) 0 [] Value.none Value.none Value.none Value.none Option.none Value.none Value.none 0)) #[]
noncomputable def o145_0 (P : Params) : Obj := Obj.mk (Value.type "code") Option.none (Data.fields #[Value.str (Str.ofString "need_step") 358, Value.str (Str.ofString "need_step") 359, Value.str (Str.ofString "/claim/cut.py") 360, Value.int 44 0, Value.int 2 0, Value.int 0 0, Value.int 0 0, Value.int 3 0, Value.ref 140, Value.bool Bool.true, Value.int 181 0, Value.ref 141, Value.none, Value.ref 142, Value.ref 143, Value.ref 144, Value.int 363 0, Value.int 44 0, Value.str (Str.ofString "/claim/cut.py") 364]) #[]
noncomputable def o146_0 (P : Params) : Obj := Obj.mk (Value.type "function") (Option.none) (Data.func (FuncData.mk (Str.ofString "need_step") (Str.ofString "need_step")  (fA 18) (.stmts (fB 18)) (fS 18) 3 [] Value.none Value.none Value.none (Value.str (Str.ofString "healring.rings") 303) Option.none (Value.ref 145) Value.none 0)) #[]
noncomputable def o147_0 (P : Params) : Obj := Obj.mk (Value.type "tuple") Option.none (Data.seq #[]) #[]
noncomputable def o148_0 (P : Params) : Obj := Obj.mk Value.none Option.none (Data.fields #[]) #[]
noncomputable def o149_0 (P : Params) : Obj := Obj.mk (Value.type "tuple") Option.none (Data.seq #[Value.str (Str.ofString "ring") 369, Value.str (Str.ofString "many") 370, Value.str (Str.ofString "order") 371, Value.str (Str.ofString "found") 372, Value.str (Str.ofString "machine") 373]) #[]
noncomputable def o150_0 (P : Params) : Obj := Obj.mk (Value.type "tuple") Option.none (Data.seq #[]) #[]
noncomputable def o151_0 (P : Params) : Obj := Obj.mk (Value.none) (Option.none) (Data.func (FuncData.mk (Str.ofString "gone") (Str.ofString "gone")  (fA 19) (.stmts (fB 19)) (fS 19) 0 [] Value.none Value.none Value.none Value.none Option.none Value.none Value.none 0)) #[]
noncomputable def o152_0 (P : Params) : Obj := Obj.mk (Value.type "code") Option.none (Data.fields #[Value.str (Str.ofString "gone") 366, Value.str (Str.ofString "gone") 367, Value.str (Str.ofString "/claim/cut.py") 368, Value.int 49 0, Value.int 3 0, Value.int 0 0, Value.int 0 0, Value.int 3 0, Value.ref 147, Value.bool Bool.true, Value.int 181 0, Value.ref 148, Value.none, Value.ref 149, Value.ref 150, Value.ref 151, Value.int 374 0, Value.int 49 0, Value.str (Str.ofString "/claim/cut.py") 375]) #[]
noncomputable def o153_0 (P : Params) : Obj := Obj.mk (Value.type "function") (Option.none) (Data.func (FuncData.mk (Str.ofString "gone") (Str.ofString "gone")  (fA 19) (.stmts (fB 19)) (fS 19) 3 [] Value.none Value.none Value.none (Value.str (Str.ofString "healring.rings") 303) Option.none (Value.ref 152) Value.none 0)) #[]
noncomputable def o154_0 (P : Params) : Obj := Obj.mk (Value.type "tuple") Option.none (Data.seq #[]) #[]
noncomputable def o155_0 (P : Params) : Obj := Obj.mk Value.none Option.none (Data.fields #[]) #[]
noncomputable def o156_0 (P : Params) : Obj := Obj.mk (Value.type "tuple") Option.none (Data.seq #[Value.str (Str.ofString "machines") 384, Value.str (Str.ofString "many") 385, Value.str (Str.ofString "rings") 386, Value.str (Str.ofString "turn") 387]) #[]
noncomputable def o157_0 (P : Params) : Obj := Obj.mk (Value.type "tuple") Option.none (Data.seq #[]) #[]
noncomputable def o158_0 (P : Params) : Obj := Obj.mk (Value.none) (Option.none) (Data.func (FuncData.mk (Str.ofString "need_few") (Str.ofString "need_few")  (fA 22) (.stmts (fB 22)) (fS 22) 0 [] Value.none Value.none Value.none Value.none Option.none Value.none Value.none 0)) #[]
noncomputable def o159_0 (P : Params) : Obj := Obj.mk (Value.type "code") Option.none (Data.fields #[Value.str (Str.ofString "need_few") 381, Value.str (Str.ofString "need_few") 382, Value.str (Str.ofString "/claim/cut.py") 383, Value.int 58 0, Value.int 2 0, Value.int 0 0, Value.int 0 0, Value.int 3 0, Value.ref 154, Value.bool Bool.true, Value.int 181 0, Value.ref 155, Value.none, Value.ref 156, Value.ref 157, Value.ref 158, Value.int 388 0, Value.int 58 0, Value.str (Str.ofString "/claim/cut.py") 389]) #[]
noncomputable def o160_0 (P : Params) : Obj := Obj.mk (Value.type "function") (Option.none) (Data.func (FuncData.mk (Str.ofString "need_few") (Str.ofString "need_few")  (fA 22) (.stmts (fB 22)) (fS 22) 3 [] Value.none Value.none Value.none (Value.str (Str.ofString "healring.small") 377) Option.none (Value.ref 159) Value.none 0)) #[]
noncomputable def o161_0 (P : Params) : Obj := Obj.mk (Value.type "tuple") Option.none (Data.seq #[]) #[]
noncomputable def o162_0 (P : Params) : Obj := Obj.mk Value.none Option.none (Data.fields #[]) #[]
noncomputable def o163_0 (P : Params) : Obj := Obj.mk (Value.type "tuple") Option.none (Data.seq #[Value.str (Str.ofString "machines") 394, Value.str (Str.ofString "many") 395, Value.str (Str.ofString "rings") 396, Value.str (Str.ofString "turn") 397, Value.str (Str.ofString "longer") 398, Value.str (Str.ofString "ring") 399, Value.str (Str.ofString "number") 400]) #[]
noncomputable def o164_0 (P : Params) : Obj := Obj.mk (Value.type "tuple") Option.none (Data.seq #[]) #[]
noncomputable def o165_0 (P : Params) : Obj := Obj.mk (Value.none) (Option.none) (Data.func (FuncData.mk (Str.ofString "all_rings") (Str.ofString "all_rings")  (fA 23) (.stmts (fB 23)) (fS 23) 0 [] Value.none Value.none Value.none Value.none Option.none Value.none Value.none 0)) #[]
noncomputable def o166_0 (P : Params) : Obj := Obj.mk (Value.type "code") Option.none (Data.fields #[Value.str (Str.ofString "all_rings") 391, Value.str (Str.ofString "all_rings") 392, Value.str (Str.ofString "/claim/cut.py") 393, Value.int 64 0, Value.int 2 0, Value.int 0 0, Value.int 0 0, Value.int 3 0, Value.ref 161, Value.bool Bool.true, Value.int 181 0, Value.ref 162, Value.none, Value.ref 163, Value.ref 164, Value.ref 165, Value.int 401 0, Value.int 64 0, Value.str (Str.ofString "/claim/cut.py") 402]) #[]
noncomputable def o167_0 (P : Params) : Obj := Obj.mk (Value.type "function") (Option.none) (Data.func (FuncData.mk (Str.ofString "all_rings") (Str.ofString "all_rings")  (fA 23) (.stmts (fB 23)) (fS 23) 3 [] Value.none Value.none Value.none (Value.str (Str.ofString "healring.small") 377) Option.none (Value.ref 166) Value.none 0)) #[]
noncomputable def o168_0 (P : Params) : Obj := Obj.mk (Value.type "tuple") Option.none (Data.seq #[]) #[]
noncomputable def o169_0 (P : Params) : Obj := Obj.mk Value.none Option.none (Data.fields #[]) #[]
noncomputable def o170_0 (P : Params) : Obj := Obj.mk (Value.none) (Option.none) (Data.func (FuncData.mk (Str.ofString "going_on") (Str.ofString "going_on")  (fA 24) (.stmts (fB 24)) (fS 24) 0 [] Value.none Value.none Value.none Value.none Option.none Value.none Value.none 0)) #[]
noncomputable def o171_0 (P : Params) : Obj := Obj.mk (Value.type "code") Option.none (Data.fields #[Value.str (Str.ofString "going_on") 404, Value.str (Str.ofString "going_on") 405, Value.str (Str.ofString "/claim/cut.py") 406, Value.int 73 0, Value.int 3 0, Value.int 0 0, Value.int 0 0, Value.int 3 0, Value.ref 168, Value.bool Bool.true, Value.int 181 0, Value.ref 169, Value.none, Value.none, Value.none, Value.ref 170, Value.int 407 0, Value.int 73 0, Value.str (Str.ofString "/claim/cut.py") 408]) #[]
noncomputable def o172_0 (P : Params) : Obj := Obj.mk (Value.type "function") (Option.none) (Data.func (FuncData.mk (Str.ofString "going_on") (Str.ofString "going_on")  (fA 24) (.stmts (fB 24)) (fS 24) 3 [] Value.none Value.none Value.none (Value.str (Str.ofString "healring.small") 377) Option.none (Value.ref 171) Value.none 0)) #[]
noncomputable def o173_0 (P : Params) : Obj := Obj.mk (Value.type "tuple") Option.none (Data.seq #[]) #[]
noncomputable def o174_0 (P : Params) : Obj := Obj.mk Value.none Option.none (Data.fields #[]) #[]
noncomputable def o175_0 (P : Params) : Obj := Obj.mk (Value.type "tuple") Option.none (Data.seq #[Value.str (Str.ofString "machines") 413, Value.str (Str.ofString "many") 414, Value.str (Str.ofString "left") 415, Value.str (Str.ofString "ring") 416, Value.str (Str.ofString "changed") 417]) #[]
noncomputable def o176_0 (P : Params) : Obj := Obj.mk (Value.type "tuple") Option.none (Data.seq #[]) #[]
noncomputable def o177_0 (P : Params) : Obj := Obj.mk (Value.none) (Option.none) (Data.func (FuncData.mk (Str.ofString "endless") (Str.ofString "endless")  (fA 25) (.stmts (fB 25)) (fS 25) 0 [] Value.none Value.none Value.none Value.none Option.none Value.none Value.none 0)) #[]
noncomputable def o178_0 (P : Params) : Obj := Obj.mk (Value.type "code") Option.none (Data.fields #[Value.str (Str.ofString "endless") 410, Value.str (Str.ofString "endless") 411, Value.str (Str.ofString "/claim/cut.py") 412, Value.int 75 0, Value.int 2 0, Value.int 0 0, Value.int 0 0, Value.int 3 0, Value.ref 173, Value.bool Bool.true, Value.int 181 0, Value.ref 174, Value.none, Value.ref 175, Value.ref 176, Value.ref 177, Value.int 418 0, Value.int 75 0, Value.str (Str.ofString "/claim/cut.py") 419]) #[]
noncomputable def o179_0 (P : Params) : Obj := Obj.mk (Value.type "function") (Option.none) (Data.func (FuncData.mk (Str.ofString "endless") (Str.ofString "endless")  (fA 25) (.stmts (fB 25)) (fS 25) 3 [] Value.none Value.none Value.none (Value.str (Str.ofString "healring.small") 377) Option.none (Value.ref 178) Value.none 0)) #[]
noncomputable def o180_0 (P : Params) : Obj := Obj.mk (Value.type "tuple") Option.none (Data.seq #[]) #[]
noncomputable def o181_0 (P : Params) : Obj := Obj.mk Value.none Option.none (Data.fields #[]) #[]
noncomputable def o182_0 (P : Params) : Obj := Obj.mk (Value.type "tuple") Option.none (Data.seq #[Value.str (Str.ofString "machines") 424, Value.str (Str.ofString "many") 425, Value.str (Str.ofString "left") 426, Value.str (Str.ofString "rings") 427, Value.str (Str.ofString "order") 428, Value.str (Str.ofString "machine") 429, Value.str (Str.ofString "at") 430]) #[]
noncomputable def o183_0 (P : Params) : Obj := Obj.mk (Value.type "tuple") Option.none (Data.seq #[]) #[]
noncomputable def o184_0 (P : Params) : Obj := Obj.mk (Value.none) (Option.none) (Data.func (FuncData.mk (Str.ofString "never") (Str.ofString "never")  (fA 26) (.stmts (fB 26)) (fS 26) 0 [] Value.none Value.none Value.none Value.none Option.none Value.none Value.none 0)) #[]
noncomputable def o185_0 (P : Params) : Obj := Obj.mk (Value.type "code") Option.none (Data.fields #[Value.str (Str.ofString "never") 421, Value.str (Str.ofString "never") 422, Value.str (Str.ofString "/claim/cut.py") 423, Value.int 88 0, Value.int 2 0, Value.int 0 0, Value.int 0 0, Value.int 3 0, Value.ref 180, Value.bool Bool.true, Value.int 181 0, Value.ref 181, Value.none, Value.ref 182, Value.ref 183, Value.ref 184, Value.int 431 0, Value.int 88 0, Value.str (Str.ofString "/claim/cut.py") 432]) #[]
noncomputable def o186_0 (P : Params) : Obj := Obj.mk (Value.type "function") (Option.none) (Data.func (FuncData.mk (Str.ofString "never") (Str.ofString "never")  (fA 26) (.stmts (fB 26)) (fS 26) 3 [] Value.none Value.none Value.none (Value.str (Str.ofString "healring.small") 377) Option.none (Value.ref 185) Value.none 0)) #[]
noncomputable def o187_0 (P : Params) : Obj := Obj.mk (Value.type "tuple") Option.none (Data.seq #[]) #[]
noncomputable def o188_0 (P : Params) : Obj := Obj.mk Value.none Option.none (Data.fields #[]) #[]
noncomputable def o189_0 (P : Params) : Obj := Obj.mk (Value.type "tuple") Option.none (Data.seq #[Value.str (Str.ofString "_law_script") 439, Value.str (Str.ofString "_law_k") 440]) #[]
noncomputable def o190_0 (P : Params) : Obj := Obj.mk (Value.type "tuple") Option.none (Data.seq #[]) #[]
noncomputable def o191_0 (P : Params) : Obj := Obj.mk (Value.none) (Option.none) (Data.func (FuncData.mk (Str.ofString "_law_cell_at") (Str.ofString "_law_cell_at")  (fA 28) (.stmts (fB 28)) (fS 28) 0 [] Value.none Value.none Value.none Value.none Option.none Value.none Value.none 0)) #[]
noncomputable def o192_0 (P : Params) : Obj := Obj.mk (Value.type "code") Option.none (Data.fields #[Value.str (Str.ofString "_law_cell_at") 436, Value.str (Str.ofString "_law_cell_at") 437, Value.str (Str.ofString "/claim/cut.py") 438, Value.int 104 0, Value.int 2 0, Value.int 0 0, Value.int 0 0, Value.int 3 0, Value.ref 187, Value.bool Bool.true, Value.int 181 0, Value.ref 188, Value.none, Value.ref 189, Value.ref 190, Value.ref 191, Value.int 441 0, Value.int 104 0, Value.str (Str.ofString "/claim/cut.py") 442]) #[]
noncomputable def o193_0 (P : Params) : Obj := Obj.mk (Value.type "function") (Option.none) (Data.func (FuncData.mk (Str.ofString "_law_cell_at") (Str.ofString "_law_cell_at")  (fA 28) (.stmts (fB 28)) (fS 28) 3 [] Value.none Value.none Value.none (Value.str (Str.ofString "law_uf050025_12") 434) Option.none (Value.ref 192) Value.none 0)) #[]
noncomputable def o194_0 (P : Params) : Obj := Obj.mk (Value.type "tuple") Option.none (Data.seq #[]) #[]
noncomputable def o195_0 (P : Params) : Obj := Obj.mk Value.none Option.none (Data.fields #[]) #[]
noncomputable def o196_0 (P : Params) : Obj := Obj.mk (Value.type "tuple") Option.none (Data.seq #[Value.str (Str.ofString "_law_told_here") 447]) #[]
noncomputable def o197_0 (P : Params) : Obj := Obj.mk (Value.type "tuple") Option.none (Data.seq #[]) #[]
noncomputable def o198_0 (P : Params) : Obj := Obj.mk (Value.none) (Option.none) (Data.func (FuncData.mk (Str.ofString "_law_whole") (Str.ofString "_law_whole")  (fA 29) (.stmts (fB 29)) (fS 29) 0 [] Value.none Value.none Value.none Value.none Option.none Value.none Value.none 0)) #[]
noncomputable def o199_0 (P : Params) : Obj := Obj.mk (Value.type "code") Option.none (Data.fields #[Value.str (Str.ofString "_law_whole") 444, Value.str (Str.ofString "_law_whole") 445, Value.str (Str.ofString "/claim/cut.py") 446, Value.int 108 0, Value.int 1 0, Value.int 0 0, Value.int 0 0, Value.int 3 0, Value.ref 194, Value.bool Bool.true, Value.int 181 0, Value.ref 195, Value.none, Value.ref 196, Value.ref 197, Value.ref 198, Value.int 448 0, Value.int 108 0, Value.str (Str.ofString "/claim/cut.py") 449]) #[]
noncomputable def o200_0 (P : Params) : Obj := Obj.mk (Value.type "function") (Option.none) (Data.func (FuncData.mk (Str.ofString "_law_whole") (Str.ofString "_law_whole")  (fA 29) (.stmts (fB 29)) (fS 29) 3 [] Value.none Value.none Value.none (Value.str (Str.ofString "law_uf050025_12") 434) Option.none (Value.ref 199) Value.none 0)) #[]
noncomputable def o201_0 (P : Params) : Obj := Obj.mk (Value.type "tuple") Option.none (Data.seq #[]) #[]
noncomputable def o202_0 (P : Params) : Obj := Obj.mk Value.none Option.none (Data.fields #[]) #[]
noncomputable def o203_0 (P : Params) : Obj := Obj.mk (Value.none) (Option.none) (Data.func (FuncData.mk (Str.ofString "_law_alike") (Str.ofString "_law_alike")  (fA 30) (.stmts (fB 30)) (fS 30) 0 [] Value.none Value.none Value.none Value.none Option.none Value.none Value.none 0)) #[]
noncomputable def o204_0 (P : Params) : Obj := Obj.mk (Value.type "code") Option.none (Data.fields #[Value.str (Str.ofString "_law_alike") 451, Value.str (Str.ofString "_law_alike") 452, Value.str (Str.ofString "/claim/cut.py") 453, Value.int 110 0, Value.int 2 0, Value.int 0 0, Value.int 0 0, Value.int 3 0, Value.ref 201, Value.bool Bool.true, Value.int 181 0, Value.ref 202, Value.none, Value.none, Value.none, Value.ref 203, Value.int 454 0, Value.int 110 0, Value.str (Str.ofString "/claim/cut.py") 455]) #[]
noncomputable def o205_0 (P : Params) : Obj := Obj.mk (Value.type "function") (Option.none) (Data.func (FuncData.mk (Str.ofString "_law_alike") (Str.ofString "_law_alike")  (fA 30) (.stmts (fB 30)) (fS 30) 3 [] Value.none Value.none Value.none (Value.str (Str.ofString "law_uf050025_12") 434) Option.none (Value.ref 204) Value.none 0)) #[]
noncomputable def o206_0 (P : Params) : Obj := Obj.mk (Value.type "tuple") Option.none (Data.seq #[]) #[]
noncomputable def o207_0 (P : Params) : Obj := Obj.mk Value.none Option.none (Data.fields #[]) #[]
noncomputable def o208_0 (P : Params) : Obj := Obj.mk (Value.type "tuple") Option.none (Data.seq #[Value.str (Str.ofString "_law_ring") 460, Value.str (Str.ofString "_law_found") 461, Value.str (Str.ofString "_law_k") 462]) #[]
noncomputable def o209_0 (P : Params) : Obj := Obj.mk (Value.type "tuple") Option.none (Data.seq #[]) #[]
noncomputable def o210_0 (P : Params) : Obj := Obj.mk (Value.none) (Option.none) (Data.func (FuncData.mk (Str.ofString "_law_able") (Str.ofString "_law_able")  (fA 31) (.stmts (fB 31)) (fS 31) 0 [] Value.none Value.none Value.none Value.none Option.none Value.none Value.none 0)) #[]
noncomputable def o211_0 (P : Params) : Obj := Obj.mk (Value.type "code") Option.none (Data.fields #[Value.str (Str.ofString "_law_able") 457, Value.str (Str.ofString "_law_able") 458, Value.str (Str.ofString "/claim/cut.py") 459, Value.int 116 0, Value.int 1 0, Value.int 0 0, Value.int 0 0, Value.int 3 0, Value.ref 206, Value.bool Bool.true, Value.int 181 0, Value.ref 207, Value.none, Value.ref 208, Value.ref 209, Value.ref 210, Value.int 463 0, Value.int 116 0, Value.str (Str.ofString "/claim/cut.py") 464]) #[]
noncomputable def o212_0 (P : Params) : Obj := Obj.mk (Value.type "function") (Option.none) (Data.func (FuncData.mk (Str.ofString "_law_able") (Str.ofString "_law_able")  (fA 31) (.stmts (fB 31)) (fS 31) 3 [] Value.none Value.none Value.none (Value.str (Str.ofString "law_uf050025_12") 434) Option.none (Value.ref 211) Value.none 0)) #[]
noncomputable def o213_0 (P : Params) : Obj := Obj.mk (Value.type "tuple") Option.none (Data.seq #[]) #[]
noncomputable def o214_0 (P : Params) : Obj := Obj.mk Value.none Option.none (Data.fields #[]) #[]
noncomputable def o215_0 (P : Params) : Obj := Obj.mk (Value.type "tuple") Option.none (Data.seq #[Value.str (Str.ofString "_law_ring") 469, Value.str (Str.ofString "_law_many") 470, Value.str (Str.ofString "_law_k") 471, Value.str (Str.ofString "_law_told_here") 472]) #[]
noncomputable def o216_0 (P : Params) : Obj := Obj.mk (Value.type "tuple") Option.none (Data.seq #[]) #[]
noncomputable def o217_0 (P : Params) : Obj := Obj.mk (Value.none) (Option.none) (Data.func (FuncData.mk (Str.ofString "_law_step") (Str.ofString "_law_step")  (fA 32) (.stmts (fB 32)) (fS 32) 0 [] Value.none Value.none Value.none Value.none Option.none Value.none Value.none 0)) #[]
noncomputable def o218_0 (P : Params) : Obj := Obj.mk (Value.type "code") Option.none (Data.fields #[Value.str (Str.ofString "_law_step") 466, Value.str (Str.ofString "_law_step") 467, Value.str (Str.ofString "/claim/cut.py") 468, Value.int 122 0, Value.int 3 0, Value.int 0 0, Value.int 0 0, Value.int 3 0, Value.ref 213, Value.bool Bool.true, Value.int 181 0, Value.ref 214, Value.none, Value.ref 215, Value.ref 216, Value.ref 217, Value.int 473 0, Value.int 122 0, Value.str (Str.ofString "/claim/cut.py") 474]) #[]
noncomputable def o219_0 (P : Params) : Obj := Obj.mk (Value.type "function") (Option.none) (Data.func (FuncData.mk (Str.ofString "_law_step") (Str.ofString "_law_step")  (fA 32) (.stmts (fB 32)) (fS 32) 3 [] Value.none Value.none Value.none (Value.str (Str.ofString "law_uf050025_12") 434) Option.none (Value.ref 218) Value.none 0)) #[]
noncomputable def o220_0 (P : Params) : Obj := Obj.mk (Value.type "tuple") Option.none (Data.seq #[]) #[]
noncomputable def o221_0 (P : Params) : Obj := Obj.mk Value.none Option.none (Data.fields #[]) #[]
noncomputable def o222_0 (P : Params) : Obj := Obj.mk (Value.none) (Option.none) (Data.func (FuncData.mk (Str.ofString "_law_all") (Str.ofString "_law_all")  (fA 33) (.stmts (fB 33)) (fS 33) 0 [] Value.none Value.none Value.none Value.none Option.none Value.none Value.none 0)) #[]
noncomputable def o223_0 (P : Params) : Obj := Obj.mk (Value.type "code") Option.none (Data.fields #[Value.str (Str.ofString "_law_all") 476, Value.str (Str.ofString "_law_all") 477, Value.str (Str.ofString "/claim/cut.py") 478, Value.int 129 0, Value.int 2 0, Value.int 0 0, Value.int 0 0, Value.int 3 0, Value.ref 220, Value.bool Bool.true, Value.int 181 0, Value.ref 221, Value.none, Value.none, Value.none, Value.ref 222, Value.int 479 0, Value.int 129 0, Value.str (Str.ofString "/claim/cut.py") 480]) #[]
noncomputable def o224_0 (P : Params) : Obj := Obj.mk (Value.type "function") (Option.none) (Data.func (FuncData.mk (Str.ofString "_law_all") (Str.ofString "_law_all")  (fA 33) (.stmts (fB 33)) (fS 33) 3 [] Value.none Value.none Value.none (Value.str (Str.ofString "law_uf050025_12") 434) Option.none (Value.ref 223) Value.none 0)) #[]
noncomputable def o225_0 (P : Params) : Obj := Obj.mk (Value.type "tuple") Option.none (Data.seq #[]) #[]
noncomputable def o226_0 (P : Params) : Obj := Obj.mk Value.none Option.none (Data.fields #[]) #[]
noncomputable def o227_0 (P : Params) : Obj := Obj.mk (Value.none) (Option.none) (Data.func (FuncData.mk (Str.ofString "_law_heights") (Str.ofString "_law_heights")  (fA 34) (.stmts (fB 34)) (fS 34) 0 [] Value.none Value.none Value.none Value.none Option.none Value.none Value.none 0)) #[]
noncomputable def o228_0 (P : Params) : Obj := Obj.mk (Value.type "code") Option.none (Data.fields #[Value.str (Str.ofString "_law_heights") 482, Value.str (Str.ofString "_law_heights") 483, Value.str (Str.ofString "/claim/cut.py") 484, Value.int 137 0, Value.int 2 0, Value.int 0 0, Value.int 0 0, Value.int 3 0, Value.ref 225, Value.bool Bool.true, Value.int 181 0, Value.ref 226, Value.none, Value.none, Value.none, Value.ref 227, Value.int 485 0, Value.int 137 0, Value.str (Str.ofString "/claim/cut.py") 486]) #[]
noncomputable def o229_0 (P : Params) : Obj := Obj.mk (Value.type "function") (Option.none) (Data.func (FuncData.mk (Str.ofString "_law_heights") (Str.ofString "_law_heights")  (fA 34) (.stmts (fB 34)) (fS 34) 3 [] Value.none Value.none Value.none (Value.str (Str.ofString "law_uf050025_12") 434) Option.none (Value.ref 228) Value.none 0)) #[]
noncomputable def o230_0 (P : Params) : Obj := Obj.mk (Value.type "tuple") Option.none (Data.seq #[]) #[]
noncomputable def o231_0 (P : Params) : Obj := Obj.mk Value.none Option.none (Data.fields #[]) #[]
noncomputable def o232_0 (P : Params) : Obj := Obj.mk (Value.type "tuple") Option.none (Data.seq #[Value.str (Str.ofString "_law_cell") 491, Value.str (Str.ofString "_law_machines") 492, Value.str (Str.ofString "_law_great") 493]) #[]
noncomputable def o233_0 (P : Params) : Obj := Obj.mk (Value.type "tuple") Option.none (Data.seq #[]) #[]
noncomputable def o234_0 (P : Params) : Obj := Obj.mk (Value.none) (Option.none) (Data.func (FuncData.mk (Str.ofString "_law_sizes") (Str.ofString "_law_sizes")  (fA 35) (.stmts (fB 35)) (fS 35) 0 [] Value.none Value.none Value.none Value.none Option.none Value.none Value.none 0)) #[]
noncomputable def o235_0 (P : Params) : Obj := Obj.mk (Value.type "code") Option.none (Data.fields #[Value.str (Str.ofString "_law_sizes") 488, Value.str (Str.ofString "_law_sizes") 489, Value.str (Str.ofString "/claim/cut.py") 490, Value.int 155 0, Value.int 1 0, Value.int 0 0, Value.int 0 0, Value.int 3 0, Value.ref 230, Value.bool Bool.true, Value.int 181 0, Value.ref 231, Value.none, Value.ref 232, Value.ref 233, Value.ref 234, Value.int 494 0, Value.int 155 0, Value.str (Str.ofString "/claim/cut.py") 495]) #[]
noncomputable def o236_0 (P : Params) : Obj := Obj.mk (Value.type "function") (Option.none) (Data.func (FuncData.mk (Str.ofString "_law_sizes") (Str.ofString "_law_sizes")  (fA 35) (.stmts (fB 35)) (fS 35) 3 [] Value.none Value.none Value.none (Value.str (Str.ofString "law_uf050025_12") 434) Option.none (Value.ref 235) Value.none 0)) #[]
noncomputable def o237_0 (P : Params) : Obj := Obj.mk (Value.type "tuple") Option.none (Data.seq #[]) #[]
noncomputable def o238_0 (P : Params) : Obj := Obj.mk Value.none Option.none (Data.fields #[]) #[]
noncomputable def o239_0 (P : Params) : Obj := Obj.mk (Value.type "tuple") Option.none (Data.seq #[Value.str (Str.ofString "_law_e") 500, Value.str (Str.ofString "_law_at") 501, Value.str (Str.ofString "_law_found") 502]) #[]
noncomputable def o240_0 (P : Params) : Obj := Obj.mk (Value.type "tuple") Option.none (Data.seq #[]) #[]
noncomputable def o241_0 (P : Params) : Obj := Obj.mk (Value.none) (Option.none) (Data.func (FuncData.mk (Str.ofString "_law_only") (Str.ofString "_law_only")  (fA 36) (.stmts (fB 36)) (fS 36) 0 [] Value.none Value.none Value.none Value.none Option.none Value.none Value.none 0)) #[]
noncomputable def o242_0 (P : Params) : Obj := Obj.mk (Value.type "code") Option.none (Data.fields #[Value.str (Str.ofString "_law_only") 497, Value.str (Str.ofString "_law_only") 498, Value.str (Str.ofString "/claim/cut.py") 499, Value.int 159 0, Value.int 2 0, Value.int 0 0, Value.int 0 0, Value.int 3 0, Value.ref 237, Value.bool Bool.true, Value.int 181 0, Value.ref 238, Value.none, Value.ref 239, Value.ref 240, Value.ref 241, Value.int 503 0, Value.int 159 0, Value.str (Str.ofString "/claim/cut.py") 504]) #[]
noncomputable def o243_0 (P : Params) : Obj := Obj.mk (Value.type "function") (Option.none) (Data.func (FuncData.mk (Str.ofString "_law_only") (Str.ofString "_law_only")  (fA 36) (.stmts (fB 36)) (fS 36) 3 [] Value.none Value.none Value.none (Value.str (Str.ofString "law_uf050025_12") 434) Option.none (Value.ref 242) Value.none 0)) #[]
noncomputable def o244_0 (P : Params) : Obj := Obj.mk (Value.type "tuple") Option.none (Data.seq #[]) #[]
noncomputable def o245_0 (P : Params) : Obj := Obj.mk Value.none Option.none (Data.fields #[]) #[]
noncomputable def o246_0 (P : Params) : Obj := Obj.mk (Value.type "tuple") Option.none (Data.seq #[Value.str (Str.ofString "_law_machines") 509, Value.str (Str.ofString "_law_many") 510, Value.str (Str.ofString "_law_e") 511, Value.str (Str.ofString "_law_at") 512]) #[]
noncomputable def o247_0 (P : Params) : Obj := Obj.mk (Value.type "tuple") Option.none (Data.seq #[]) #[]
noncomputable def o248_0 (P : Params) : Obj := Obj.mk (Value.none) (Option.none) (Data.func (FuncData.mk (Str.ofString "_law_told") (Str.ofString "_law_told")  (fA 37) (.stmts (fB 37)) (fS 37) 0 [] Value.none Value.none Value.none Value.none Option.none Value.none Value.none 0)) #[]
noncomputable def o249_0 (P : Params) : Obj := Obj.mk (Value.type "code") Option.none (Data.fields #[Value.str (Str.ofString "_law_told") 506, Value.str (Str.ofString "_law_told") 507, Value.str (Str.ofString "/claim/cut.py") 508, Value.int 163 0, Value.int 2 0, Value.int 0 0, Value.int 0 0, Value.int 3 0, Value.ref 244, Value.bool Bool.true, Value.int 181 0, Value.ref 245, Value.none, Value.ref 246, Value.ref 247, Value.ref 248, Value.int 513 0, Value.int 163 0, Value.str (Str.ofString "/claim/cut.py") 514]) #[]
noncomputable def o250_0 (P : Params) : Obj := Obj.mk (Value.type "function") (Option.none) (Data.func (FuncData.mk (Str.ofString "_law_told") (Str.ofString "_law_told")  (fA 37) (.stmts (fB 37)) (fS 37) 3 [] Value.none Value.none Value.none (Value.str (Str.ofString "law_uf050025_12") 434) Option.none (Value.ref 249) Value.none 0)) #[]
noncomputable def o251_0 (P : Params) : Obj := Obj.mk (Value.type "tuple") Option.none (Data.seq #[]) #[]
noncomputable def o252_0 (P : Params) : Obj := Obj.mk Value.none Option.none (Data.fields #[]) #[]
noncomputable def o253_0 (P : Params) : Obj := Obj.mk (Value.type "tuple") Option.none (Data.seq #[Value.str (Str.ofString "_law_machines") 519, Value.str (Str.ofString "_law_many") 520]) #[]
noncomputable def o254_0 (P : Params) : Obj := Obj.mk (Value.type "tuple") Option.none (Data.seq #[]) #[]
noncomputable def o255_0 (P : Params) : Obj := Obj.mk (Value.none) (Option.none) (Data.func (FuncData.mk (Str.ofString "_law_due") (Str.ofString "_law_due")  (fA 38) (.stmts (fB 38)) (fS 38) 0 [] Value.none Value.none Value.none Value.none Option.none Value.none Value.none 0)) #[]
noncomputable def o256_0 (P : Params) : Obj := Obj.mk (Value.type "code") Option.none (Data.fields #[Value.str (Str.ofString "_law_due") 516, Value.str (Str.ofString "_law_due") 517, Value.str (Str.ofString "/claim/cut.py") 518, Value.int 171 0, Value.int 2 0, Value.int 0 0, Value.int 0 0, Value.int 3 0, Value.ref 251, Value.bool Bool.true, Value.int 181 0, Value.ref 252, Value.none, Value.ref 253, Value.ref 254, Value.ref 255, Value.int 521 0, Value.int 171 0, Value.str (Str.ofString "/claim/cut.py") 522]) #[]
noncomputable def o257_0 (P : Params) : Obj := Obj.mk (Value.type "function") (Option.none) (Data.func (FuncData.mk (Str.ofString "_law_due") (Str.ofString "_law_due")  (fA 38) (.stmts (fB 38)) (fS 38) 3 [] Value.none Value.none Value.none (Value.str (Str.ofString "law_uf050025_12") 434) Option.none (Value.ref 256) Value.none 0)) #[]
noncomputable def o258_0 (P : Params) : Obj := Obj.mk (Value.type "tuple") Option.none (Data.seq #[]) #[]
noncomputable def o259_0 (P : Params) : Obj := Obj.mk Value.none Option.none (Data.fields #[]) #[]
noncomputable def o260_0 (P : Params) : Obj := Obj.mk (Value.none) (Option.none) (Data.func (FuncData.mk (Str.ofString "law") (Str.ofString "law")  (fA 39) (.stmts (fB 39)) (fS 39) 0 [] Value.none Value.none Value.none Value.none Option.none Value.none Value.none 0)) #[]
noncomputable def o261_0 (P : Params) : Obj := Obj.mk (Value.type "code") Option.none (Data.fields #[Value.str (Str.ofString "law") 524, Value.str (Str.ofString "law") 525, Value.str (Str.ofString "/claim/cut.py") 526, Value.int 177 0, Value.int 1 0, Value.int 0 0, Value.int 0 0, Value.int 3 0, Value.ref 258, Value.bool Bool.true, Value.int 181 0, Value.ref 259, Value.none, Value.none, Value.none, Value.ref 260, Value.int 527 0, Value.int 177 0, Value.str (Str.ofString "/claim/cut.py") 528]) #[]
noncomputable def o262_0 (P : Params) : Obj := Obj.mk (Value.type "function") (Option.none) (Data.func (FuncData.mk (Str.ofString "law") (Str.ofString "law")  (fA 39) (.stmts (fB 39)) (fS 39) 3 [] Value.none Value.none Value.none (Value.str (Str.ofString "law_uf050025_12") 434) Option.none (Value.ref 261) Value.none 0)) #[]
noncomputable def tree_40 (P : Params) : BT := (.node (boot_o_0 P) (.node (boot_o_1 P) (.node (o3_3 P) (.node (boot_o_7 P) (.node (o15_0 P) (.node (o31_0 P) (.node (o63_0 P) (.node (o127_0 P) (.node (o255_0 P) .nil .nil) .nil) (.node (o191_0 P) .nil .nil)) (.node (o95_0 P) (.node (o159_0 P) .nil .nil) (.node (o223_0 P) .nil .nil))) (.node (o47_0 P) (.node (o79_0 P) (.node (o143_0 P) .nil .nil) (.node (o207_0 P) .nil .nil)) (.node (o111_0 P) (.node (o175_0 P) .nil .nil) (.node (o239_0 P) .nil .nil)))) (.node (o23_0 P) (.node (o39_0 P) (.node (o71_0 P) (.node (o135_0 P) .nil .nil) (.node (o199_0 P) .nil .nil)) (.node (o103_0 P) (.node (o167_0 P) .nil .nil) (.node (o231_0 P) .nil .nil))) (.node (o55_0 P) (.node (o87_0 P) (.node (o151_0 P) .nil .nil) (.node (o215_0 P) .nil .nil)) (.node (o119_0 P) (.node (o183_0 P) .nil .nil) (.node (o247_0 P) .nil .nil))))) (.node (o11_0 P) (.node (o19_0 P) (.node (o35_0 P) (.node (o67_0 P) (.node (o131_0 P) (.node (o259_0 P) .nil .nil) .nil) (.node (o195_0 P) .nil .nil)) (.node (o99_0 P) (.node (o163_0 P) .nil .nil) (.node (o227_0 P) .nil .nil))) (.node (o51_0 P) (.node (o83_0 P) (.node (o147_0 P) .nil .nil) (.node (o211_0 P) .nil .nil)) (.node (o115_0 P) (.node (o179_0 P) .nil .nil) (.node (o243_0 P) .nil .nil)))) (.node (o27_0 P) (.node (o43_0 P) (.node (o75_0 P) (.node (o139_0 P) .nil .nil) (.node (o203_0 P) .nil .nil)) (.node (o107_0 P) (.node (o171_0 P) .nil .nil) (.node (o235_0 P) .nil .nil))) (.node (o59_0 P) (.node (o91_0 P) (.node (o155_0 P) .nil .nil) (.node (o219_0 P) .nil .nil)) (.node (o123_0 P) (.node (o187_0 P) .nil .nil) (.node (o251_0 P) .nil .nil)))))) (.node (boot_o_5 P) (.node (boot_o_9 P) (.node (o17_0 P) (.node (o33_0 P) (.node (o65_0 P) (.node (o129_0 P) (.node (o257_0 P) .nil .nil) .nil) (.node (o193_0 P) .nil .nil)) (.node (o97_0 P) (.node (o161_0 P) .nil .nil) (.node (o225_0 P) .nil .nil))) (.node (o49_0 P) (.node (o81_0 P) (.node (o145_0 P) .nil .nil) (.node (o209_0 P) .nil .nil)) (.node (o113_0 P) (.node (o177_0 P) .nil .nil) (.node (o241_0 P) .nil .nil)))) (.node (o25_0 P) (.node (o41_0 P) (.node (o73_0 P) (.node (o137_0 P) .nil .nil) (.node (o201_0 P) .nil .nil)) (.node (o105_0 P) (.node (o169_0 P) .nil .nil) (.node (o233_0 P) .nil .nil))) (.node (o57_0 P) (.node (o89_0 P) (.node (o153_0 P) .nil .nil) (.node (o217_0 P) .nil .nil)) (.node (o121_0 P) (.node (o185_0 P) .nil .nil) (.node (o249_0 P) .nil .nil))))) (.node (o13_0 P) (.node (o21_0 P) (.node (o37_0 P) (.node (o69_0 P) (.node (o133_0 P) (.node (o261_0 P) .nil .nil) .nil) (.node (o197_0 P) .nil .nil)) (.node (o101_0 P) (.node (o165_0 P) .nil .nil) (.node (o229_0 P) .nil .nil))) (.node (o53_0 P) (.node (o85_0 P) (.node (o149_0 P) .nil .nil) (.node (o213_0 P) .nil .nil)) (.node (o117_0 P) (.node (o181_0 P) .nil .nil) (.node (o245_0 P) .nil .nil)))) (.node (o29_0 P) (.node (o45_0 P) (.node (o77_0 P) (.node (o141_0 P) .nil .nil) (.node (o205_0 P) .nil .nil)) (.node (o109_0 P) (.node (o173_0 P) .nil .nil) (.node (o237_0 P) .nil .nil))) (.node (o61_0 P) (.node (o93_0 P) (.node (o157_0 P) .nil .nil) (.node (o221_0 P) .nil .nil)) (.node (o125_0 P) (.node (o189_0 P) .nil .nil) (.node (o253_0 P) .nil .nil))))))) (.node (boot_o_2 P) (.node (boot_o_4 P) (.node (boot_o_8 P) (.node (o16_0 P) (.node (o32_0 P) (.node (o64_0 P) (.node (o128_0 P) (.node (o256_0 P) .nil .nil) .nil) (.node (o192_0 P) .nil .nil)) (.node (o96_0 P) (.node (o160_0 P) .nil .nil) (.node (o224_0 P) .nil .nil))) (.node (o48_0 P) (.node (o80_0 P) (.node (o144_0 P) .nil .nil) (.node (o208_0 P) .nil .nil)) (.node (o112_0 P) (.node (o176_0 P) .nil .nil) (.node (o240_0 P) .nil .nil)))) (.node (o24_1 P) (.node (o40_0 P) (.node (o72_0 P) (.node (o136_0 P) .nil .nil) (.node (o200_0 P) .nil .nil)) (.node (o104_0 P) (.node (o168_0 P) .nil .nil) (.node (o232_0 P) .nil .nil))) (.node (o56_0 P) (.node (o88_0 P) (.node (o152_0 P) .nil .nil) (.node (o216_0 P) .nil .nil)) (.node (o120_0 P) (.node (o184_0 P) .nil .nil) (.node (o248_0 P) .nil .nil))))) (.node (o12_4 P) (.node (o20_0 P) (.node (o36_0 P) (.node (o68_0 P) (.node (o132_0 P) (.node (o260_0 P) .nil .nil) .nil) (.node (o196_0 P) .nil .nil)) (.node (o100_0 P) (.node (o164_0 P) .nil .nil) (.node (o228_0 P) .nil .nil))) (.node (o52_0 P) (.node (o84_0 P) (.node (o148_0 P) .nil .nil) (.node (o212_0 P) .nil .nil)) (.node (o116_0 P) (.node (o180_0 P) .nil .nil) (.node (o244_0 P) .nil .nil)))) (.node (o28_0 P) (.node (o44_0 P) (.node (o76_0 P) (.node (o140_0 P) .nil .nil) (.node (o204_0 P) .nil .nil)) (.node (o108_0 P) (.node (o172_0 P) .nil .nil) (.node (o236_0 P) .nil .nil))) (.node (o60_0 P) (.node (o92_0 P) (.node (o156_0 P) .nil .nil) (.node (o220_0 P) .nil .nil)) (.node (o124_0 P) (.node (o188_0 P) .nil .nil) (.node (o252_0 P) .nil .nil)))))) (.node (boot_o_6 P) (.node (boot_o_10 P) (.node (o18_0 P) (.node (o34_0 P) (.node (o66_0 P) (.node (o130_0 P) (.node (o258_0 P) .nil .nil) .nil) (.node (o194_0 P) .nil .nil)) (.node (o98_0 P) (.node (o162_0 P) .nil .nil) (.node (o226_0 P) .nil .nil))) (.node (o50_0 P) (.node (o82_0 P) (.node (o146_0 P) .nil .nil) (.node (o210_0 P) .nil .nil)) (.node (o114_0 P) (.node (o178_0 P) .nil .nil) (.node (o242_0 P) .nil .nil)))) (.node (o26_0 P) (.node (o42_0 P) (.node (o74_0 P) (.node (o138_0 P) .nil .nil) (.node (o202_0 P) .nil .nil)) (.node (o106_0 P) (.node (o170_0 P) .nil .nil) (.node (o234_0 P) .nil .nil))) (.node (o58_0 P) (.node (o90_0 P) (.node (o154_0 P) .nil .nil) (.node (o218_0 P) .nil .nil)) (.node (o122_0 P) (.node (o186_0 P) .nil .nil) (.node (o250_0 P) .nil .nil))))) (.node (o14_0 P) (.node (o22_0 P) (.node (o38_0 P) (.node (o70_0 P) (.node (o134_0 P) (.node (o262_0 P) .nil .nil) .nil) (.node (o198_0 P) .nil .nil)) (.node (o102_0 P) (.node (o166_0 P) .nil .nil) (.node (o230_0 P) .nil .nil))) (.node (o54_0 P) (.node (o86_0 P) (.node (o150_0 P) .nil .nil) (.node (o214_0 P) .nil .nil)) (.node (o118_0 P) (.node (o182_0 P) .nil .nil) (.node (o246_0 P) .nil .nil)))) (.node (o30_0 P) (.node (o46_0 P) (.node (o78_0 P) (.node (o142_0 P) .nil .nil) (.node (o206_0 P) .nil .nil)) (.node (o110_0 P) (.node (o174_0 P) .nil .nil) (.node (o238_0 P) .nil .nil))) (.node (o62_0 P) (.node (o94_0 P) (.node (o158_0 P) .nil .nil) (.node (o222_0 P) .nil .nil)) (.node (o126_0 P) (.node (o190_0 P) .nil .nil) (.node (o254_0 P) .nil .nil))))))))
noncomputable abbrev S_40 (w : World) (os : OsState) : SharedT := ⟨tree_40 w.params, 263, Life.mk [] [] [] 0 [] [] Bool.false #[] [] 0 Bool.false Bool.false Bool.false 0 [2000, 10, 10] Bool.false 0 Bool.true [] [] 0 Bool.false, ⟨[]⟩, Drawn.mk 0 0 0 0, 530, os⟩
noncomputable def heap_f (P : Params) : Heap := ⟨⟨[boot_o_0 P, boot_o_1 P, boot_o_2 P, o3_3 P, boot_o_4 P, boot_o_5 P, boot_o_6 P, boot_o_7 P, boot_o_8 P, boot_o_9 P, boot_o_10 P, o11_0 P, o12_4 P, o13_0 P, o14_0 P, o15_0 P, o16_0 P, o17_0 P, o18_0 P, o19_0 P, o20_0 P, o21_0 P, o22_0 P, o23_0 P, o24_1 P, o25_0 P, o26_0 P, o27_0 P, o28_0 P, o29_0 P, o30_0 P, o31_0 P, o32_0 P, o33_0 P, o34_0 P, o35_0 P, o36_0 P, o37_0 P, o38_0 P, o39_0 P, o40_0 P, o41_0 P, o42_0 P, o43_0 P, o44_0 P, o45_0 P, o46_0 P, o47_0 P, o48_0 P, o49_0 P, o50_0 P, o51_0 P, o52_0 P, o53_0 P, o54_0 P, o55_0 P, o56_0 P, o57_0 P, o58_0 P, o59_0 P, o60_0 P, o61_0 P, o62_0 P, o63_0 P, o64_0 P, o65_0 P, o66_0 P, o67_0 P, o68_0 P, o69_0 P, o70_0 P, o71_0 P, o72_0 P, o73_0 P, o74_0 P, o75_0 P, o76_0 P, o77_0 P, o78_0 P, o79_0 P, o80_0 P, o81_0 P, o82_0 P, o83_0 P, o84_0 P, o85_0 P, o86_0 P, o87_0 P, o88_0 P, o89_0 P, o90_0 P, o91_0 P, o92_0 P, o93_0 P, o94_0 P, o95_0 P, o96_0 P, o97_0 P, o98_0 P, o99_0 P, o100_0 P, o101_0 P, o102_0 P, o103_0 P, o104_0 P, o105_0 P, o106_0 P, o107_0 P, o108_0 P, o109_0 P, o110_0 P, o111_0 P, o112_0 P, o113_0 P, o114_0 P, o115_0 P, o116_0 P, o117_0 P, o118_0 P, o119_0 P, o120_0 P, o121_0 P, o122_0 P, o123_0 P, o124_0 P, o125_0 P, o126_0 P, o127_0 P, o128_0 P, o129_0 P, o130_0 P, o131_0 P, o132_0 P, o133_0 P, o134_0 P, o135_0 P, o136_0 P, o137_0 P, o138_0 P, o139_0 P, o140_0 P, o141_0 P, o142_0 P, o143_0 P, o144_0 P, o145_0 P, o146_0 P, o147_0 P, o148_0 P, o149_0 P, o150_0 P, o151_0 P, o152_0 P, o153_0 P, o154_0 P, o155_0 P, o156_0 P, o157_0 P, o158_0 P, o159_0 P, o160_0 P, o161_0 P, o162_0 P, o163_0 P, o164_0 P, o165_0 P, o166_0 P, o167_0 P, o168_0 P, o169_0 P, o170_0 P, o171_0 P, o172_0 P, o173_0 P, o174_0 P, o175_0 P, o176_0 P, o177_0 P, o178_0 P, o179_0 P, o180_0 P, o181_0 P, o182_0 P, o183_0 P, o184_0 P, o185_0 P, o186_0 P, o187_0 P, o188_0 P, o189_0 P, o190_0 P, o191_0 P, o192_0 P, o193_0 P, o194_0 P, o195_0 P, o196_0 P, o197_0 P, o198_0 P, o199_0 P, o200_0 P, o201_0 P, o202_0 P, o203_0 P, o204_0 P, o205_0 P, o206_0 P, o207_0 P, o208_0 P, o209_0 P, o210_0 P, o211_0 P, o212_0 P, o213_0 P, o214_0 P, o215_0 P, o216_0 P, o217_0 P, o218_0 P, o219_0 P, o220_0 P, o221_0 P, o222_0 P, o223_0 P, o224_0 P, o225_0 P, o226_0 P, o227_0 P, o228_0 P, o229_0 P, o230_0 P, o231_0 P, o232_0 P, o233_0 P, o234_0 P, o235_0 P, o236_0 P, o237_0 P, o238_0 P, o239_0 P, o240_0 P, o241_0 P, o242_0 P, o243_0 P, o244_0 P, o245_0 P, o246_0 P, o247_0 P, o248_0 P, o249_0 P, o250_0 P, o251_0 P, o252_0 P, o253_0 P, o254_0 P, o255_0 P, o256_0 P, o257_0 P, o258_0 P, o259_0 P, o260_0 P, o261_0 P, o262_0 P]⟩, Life.mk [] [] [] 0 [] [] Bool.false #[] [] 0 Bool.false Bool.false Bool.false 0 [2000, 10, 10] Bool.false 0 Bool.true [] [] 0 Bool.false⟩
noncomputable abbrev S_f (w : World) (os : OsState) : Shared := ⟨heap_f w.params, ⟨[]⟩, Drawn.mk 0 0 0 0, 530, os⟩
theorem run_a (w : World) (os : OsState) : topGo treeTable PW w 11 ann0 12 ⟨boot_heap w.params, ⟨[]⟩, boot_drawn, boot_toks, os⟩ (topStub PW) = some (S_a w os, ⟨denote treeTable cE, cE, (Pos.mk 0 0 0 0), B0⟩) := by
  rw [PySem.W.Fast.te15667345088766844465, PySem.W.Fast.te11892475500146522536, PySem.W.Fast.te14364793385576792824]; kernel_rfl
theorem run_b (w : World) (os : OsState) : segRun treeTable PW w 11 ann0 1 1 (S_a w os) (blockOf (behindTheImports PW) env0 cE (Pos.mk 0 0 0 0) B0) = some (.next, (S_b w os).abs, cE, (Pos.mk 0 0 0 0)) := by
  rw [PySem.W.Fast.te14374325043358763698, PySem.W.Fast.te14364793385576792824]; kernel_rfl
theorem run_5 (w : World) (os : OsState) : segRunT treeTable PW w 11 ann0 1 835 (S_b w os) (piecesOf ((PW.main.body.drop 0).take 5) env0 cE (Pos.mk 0 0 0 0) B0) = some (.next, S_5 w os, cE, (Pos.mk 8 0 9 8)) := by
  rw [PySem.W.Fast.te10110043849684766642, PySem.W.Fast.te14364793385576792824]; kernel_rfl
theorem run_8 (w : World) (os : OsState) : segRunT treeTable PW w 11 ann0 1 640 (S_5 w os) (piecesOf ((PW.main.body.drop 5).take 3) env0 cE (Pos.mk 8 0 9 8) B0) = some (.next, S_8 w os, cE, (Pos.mk 14 0 15 8)) := by
  rw [PySem.W.Fast.te10110043849684766642, PySem.W.Fast.te14364793385576792824]; kernel_rfl
theorem run_16 (w : World) (os : OsState) : segRunT treeTable PW w 11 ann0 1 156 (S_8 w os) (piecesOf ((PW.main.body.drop 8).take 8) env0 cE (Pos.mk 14 0 15 8) B0) = some (.next, S_16 w os, cE, (Pos.mk 32 0 35 45)) := by
  rw [PySem.W.Fast.te10110043849684766642, PySem.W.Fast.te14364793385576792824]; kernel_rfl
theorem run_40 (w : World) (os : OsState) : segRunT treeTable PW w 11 ann0 1 660 (S_16 w os) (piecesOf ((PW.main.body.drop 16).take 24) env0 cE (Pos.mk 32 0 35 45) B0) = some (.next, S_40 w os, cE, (Pos.mk 177 0 199 124)) := by
  rw [PySem.W.Fast.te10110043849684766642, PySem.W.Fast.te14364793385576792824]; kernel_rfl
theorem run_f (w : World) (os : OsState) : topRun treeTable PW w 11 ann0 2 (S_40 w os).abs ⟨doneF .next, cE, (Pos.mk 177 0 199 124), B0⟩ = some (S_f w os) := by
  rw [PySem.W.Fast.te14082659384304107361, PySem.W.Fast.te14364793385576792824]; kernel_rfl
theorem run_rest (w : World) (os : OsState) : topRun treeTable PW w 11 ann0 (835 + (640 + (156 + (660 + 2)))) (S_b w os).abs (restOf ((PW.main.body.drop 0).take 5 ++ ((PW.main.body.drop 5).take 3 ++ ((PW.main.body.drop 8).take 8 ++ ((PW.main.body.drop 16).take 24 ++ [])))) env0 cE (Pos.mk 0 0 0 0) B0) = some (S_f w os) :=
  (piece_app (segRun_of (run_5 w os)) (piece_app (segRun_of (run_8 w os)) (piece_app (segRun_of (run_16 w os)) (piece_app (segRun_of (run_40 w os)) (piece_nil (run_f w os))))))
theorem body_eq : ((PW.main.body.drop 0).take 5 ++ ((PW.main.body.drop 5).take 3 ++ ((PW.main.body.drop 8).take 8 ++ ((PW.main.body.drop 16).take 24 ++ [])))) = behindTheImports PW := by kernel_rfl
theorem run_all (w : World) (os : OsState) : topRun treeTable PW w 11 ann0 (12 + (1 + (835 + (640 + (156 + (660 + 2)))))) ⟨boot_heap w.params, ⟨[]⟩, boot_drawn, boot_toks, os⟩ (topStub PW) = some (S_f w os) :=
  go_top (run_a w os) (piece_block (run_b w os) ((congrArg (fun l => topRun treeTable PW w 11 ann0 (835 + (640 + (156 + (660 + 2)))) (S_b w os).abs (restOf l env0 cE (Pos.mk 0 0 0 0) B0)) body_eq).symm.trans (run_rest w os)))
noncomputable def KK (P : Params) : Frag := [(3, o3_3 P), (23, o23_0 P), (24, o24_1 P), (36, o36_0 P), (37, o37_0 P), (48, o48_0 P), (49, o49_0 P), (60, o60_0 P), (61, o61_0 P), (72, o72_0 P), (73, o73_0 P), (84, o84_0 P), (85, o85_0 P), (96, o96_0 P), (97, o97_0 P)]
noncomputable abbrev HK := kHook KK [3, 23, 24, 36, 37, 48, 49, 60, 61, 72, 73, 84, 85, 96, 97] (fun _ => by kernel_rfl)
noncomputable abbrev Xt0 (s : Shared) : Bool := xlAt VV [] s && recOk (RowW.records (PySem.Challenge.rw_uf050025_12.row.toRowW)) s
theorem look_1 (w : World) (os : OsState) : (staticsOk (importedModules PW.main.body) (boot_heap w.params) (heap_f w.params) && namesBound PW (heap_f w.params) && gensDone (S_f w os) && laidKept (boot_heap w.params) (heap_f w.params)) = true := by kernel_rfl
theorem look_2 (w : World) (os : OsState) : openSeen VV [] (importedModules PW.main.body) Xt0 true (S_f w os) = openGood VV [] := by
  rw [PySem.W.Fast.te4187177175401517315]; kernel_rfl
theorem look_3 (w : World) (os : OsState) : Hook.obs HK (S_f w os) = Hook.val HK w := by kernel_rfl
theorem left0 : LeftO PW VV [] Xt0 (Hook.obs HK) (Hook.val HK) 4700 :=
  LeftO.of_pieces (m₀ := 11) (ann := ann0) (boot_open (by kernel_rfl) (by decide) (fun s => by kernel_rfl)) (fun w => by kernel_rfl) run_all (by decide) (fun w => funext fun os => looks_pair (look_1 w os) (looks_pair (look_2 w os) (look_3 w os)))
theorem said0 : OpenLaw.wellSaid PySem.Challenge.rw_uf050025_12 = true := by
  rw [PySem.W.Fast.te9446332074065402090]; kernel_rfl
set_option maxHeartbeats 1000000
noncomputable def d_need_many := (⟨_, rfl⟩ : { d // defOf VV "need_many" = some d })
noncomputable def d_need_machines := (⟨_, rfl⟩ : { d // defOf VV "need_machines" = some d })
noncomputable def d_need_ring := (⟨_, rfl⟩ : { d // defOf VV "need_ring" = some d })
noncomputable def d_may_step := (⟨_, rfl⟩ : { d // defOf VV "may_step" = some d })
noncomputable def d_able_of := (⟨_, rfl⟩ : { d // defOf VV "able_of" = some d })
noncomputable def d_moved := (⟨_, rfl⟩ : { d // defOf VV "moved" = some d })
noncomputable def d_need_step := (⟨_, rfl⟩ : { d // defOf VV "need_step" = some d })
noncomputable def d_gone := (⟨_, rfl⟩ : { d // defOf VV "gone" = some d })
noncomputable def d_need_few := (⟨_, rfl⟩ : { d // defOf VV "need_few" = some d })
noncomputable def d_all_rings := (⟨_, rfl⟩ : { d // defOf VV "all_rings" = some d })
noncomputable def d_going_on := (⟨_, rfl⟩ : { d // defOf VV "going_on" = some d })
noncomputable def d_endless := (⟨_, rfl⟩ : { d // defOf VV "endless" = some d })
noncomputable def d_never := (⟨_, rfl⟩ : { d // defOf VV "never" = some d })
noncomputable def d_law_cell_at := (⟨_, rfl⟩ : { d // defOf VV "_law_cell_at" = some d })
noncomputable def d_law_whole := (⟨_, rfl⟩ : { d // defOf VV "_law_whole" = some d })
noncomputable def d_law_alike := (⟨_, rfl⟩ : { d // defOf VV "_law_alike" = some d })
noncomputable def d_law_able := (⟨_, rfl⟩ : { d // defOf VV "_law_able" = some d })
noncomputable def d_law_step := (⟨_, rfl⟩ : { d // defOf VV "_law_step" = some d })
noncomputable def d_law_all := (⟨_, rfl⟩ : { d // defOf VV "_law_all" = some d })
noncomputable def d_law_heights := (⟨_, rfl⟩ : { d // defOf VV "_law_heights" = some d })
noncomputable def d_law_sizes := (⟨_, rfl⟩ : { d // defOf VV "_law_sizes" = some d })
noncomputable def d_law_only := (⟨_, rfl⟩ : { d // defOf VV "_law_only" = some d })
noncomputable def d_law_told := (⟨_, rfl⟩ : { d // defOf VV "_law_told" = some d })
noncomputable def d_law_due := (⟨_, rfl⟩ : { d // defOf VV "_law_due" = some d })
noncomputable def d_law := (⟨_, rfl⟩ : { d // defOf VV "law" = some d })

noncomputable abbrev fnTab : List FnRow := [("need_many", ["many"], d_need_many.1), ("need_machines", ["machines"], d_need_machines.1), ("need_ring", ["ring", "many"], d_need_ring.1), ("may_step", ["ring", "machine"], d_may_step.1), ("able_of", ["ring"], d_able_of.1), ("moved", ["ring", "many", "machine"], d_moved.1), ("need_step", ["ring", "machine"], d_need_step.1), ("gone", ["ring", "many", "order"], d_gone.1), ("need_few", ["machines", "many"], d_need_few.1), ("all_rings", ["machines", "many"], d_all_rings.1), ("going_on", ["left", "ring", "many"], d_going_on.1), ("endless", ["machines", "many"], d_endless.1), ("never", ["machines", "many"], d_never.1), ("_law_cell_at", ["_law_script", "_law_k"], d_law_cell_at.1), ("_law_whole", ["_law_told_here"], d_law_whole.1), ("_law_alike", ["_law_told_here", "_law_due_here"], d_law_alike.1), ("_law_able", ["_law_ring"], d_law_able.1), ("_law_step", ["_law_ring", "_law_many", "_law_k"], d_law_step.1), ("_law_all", ["_law_machines", "_law_many"], d_law_all.1), ("_law_heights", ["_law_machines", "_law_many"], d_law_heights.1), ("_law_sizes", ["_law_cell"], d_law_sizes.1), ("_law_only", ["_law_e", "_law_at"], d_law_only.1), ("_law_told", ["_law_machines", "_law_many"], d_law_told.1), ("_law_due", ["_law_machines", "_law_many"], d_law_due.1), ("law", ["_law_script"], d_law.1)]
noncomputable abbrev a_NoNumbers : Addr := 37
noncomputable abbrev a_NoRing : Addr := 49
noncomputable abbrev a_NoMachine : Addr := 61
noncomputable abbrev a_NotNow : Addr := 73
noncomputable abbrev a_NotHealed : Addr := 85
noncomputable abbrev a_TooGreat : Addr := 97
noncomputable abbrev a_HealError : Addr := 24
noncomputable abbrev clsTab : List (Str × Addr) := [("NoNumbers", a_NoNumbers), ("NoRing", a_NoRing), ("NoMachine", a_NoMachine), ("NotNow", a_NotNow), ("NotHealed", a_NotHealed), ("TooGreat", a_TooGreat)]
noncomputable abbrev clsAt (j : Nat) : Addr := ([a_NoNumbers, a_NoRing, a_NoMachine, a_NotNow, a_NotHealed, a_TooGreat] : List Addr).getD j 0

structure Wd (c : Cx) : Prop extends Gd c where
  tab : Tab c a_HealError clsTab
  at_HealError : c.mg "HealError" = some (.ref a_HealError)
  LEAST : ∃ tk, c.mg "LEAST" = some (.int 2 tk)
  MOST_MACHINES : ∃ tk, c.mg "MOST_MACHINES" = some (.int 12 tk)
  MOST_NUMBERS : ∃ tk, c.mg "MOST_NUMBERS" = some (.int 100 tk)
  MOST_RINGS : ∃ tk, c.mg "MOST_RINGS" = some (.int 300 tk)
  bi : ∀ x ∈ (["len", "range", "max", "min", "int", "tuple", "list", "isinstance", "bool", "ValueError"] : List Str), c.mg x = none
  fn : FnAll c fnTab
theorem Wd.need_many {c : Cx} (W : Wd c) : HD c "need_many" ["many"] d_need_many.1 := FnAll.get ("need_many", ["many"], d_need_many.1) 0 W.fn rfl
theorem Wd.need_machines {c : Cx} (W : Wd c) : HD c "need_machines" ["machines"] d_need_machines.1 := FnAll.get ("need_machines", ["machines"], d_need_machines.1) 1 W.fn rfl
theorem Wd.need_ring {c : Cx} (W : Wd c) : HD c "need_ring" ["ring", "many"] d_need_ring.1 := FnAll.get ("need_ring", ["ring", "many"], d_need_ring.1) 2 W.fn rfl
theorem Wd.may_step {c : Cx} (W : Wd c) : HD c "may_step" ["ring", "machine"] d_may_step.1 := FnAll.get ("may_step", ["ring", "machine"], d_may_step.1) 3 W.fn rfl
theorem Wd.able_of {c : Cx} (W : Wd c) : HD c "able_of" ["ring"] d_able_of.1 := FnAll.get ("able_of", ["ring"], d_able_of.1) 4 W.fn rfl
theorem Wd.moved {c : Cx} (W : Wd c) : HD c "moved" ["ring", "many", "machine"] d_moved.1 := FnAll.get ("moved", ["ring", "many", "machine"], d_moved.1) 5 W.fn rfl
theorem Wd.need_step {c : Cx} (W : Wd c) : HD c "need_step" ["ring", "machine"] d_need_step.1 := FnAll.get ("need_step", ["ring", "machine"], d_need_step.1) 6 W.fn rfl
theorem Wd.gone {c : Cx} (W : Wd c) : HD c "gone" ["ring", "many", "order"] d_gone.1 := FnAll.get ("gone", ["ring", "many", "order"], d_gone.1) 7 W.fn rfl
theorem Wd.need_few {c : Cx} (W : Wd c) : HD c "need_few" ["machines", "many"] d_need_few.1 := FnAll.get ("need_few", ["machines", "many"], d_need_few.1) 8 W.fn rfl
theorem Wd.all_rings {c : Cx} (W : Wd c) : HD c "all_rings" ["machines", "many"] d_all_rings.1 := FnAll.get ("all_rings", ["machines", "many"], d_all_rings.1) 9 W.fn rfl
theorem Wd.going_on {c : Cx} (W : Wd c) : HD c "going_on" ["left", "ring", "many"] d_going_on.1 := FnAll.get ("going_on", ["left", "ring", "many"], d_going_on.1) 10 W.fn rfl
theorem Wd.endless {c : Cx} (W : Wd c) : HD c "endless" ["machines", "many"] d_endless.1 := FnAll.get ("endless", ["machines", "many"], d_endless.1) 11 W.fn rfl
theorem Wd.never {c : Cx} (W : Wd c) : HD c "never" ["machines", "many"] d_never.1 := FnAll.get ("never", ["machines", "many"], d_never.1) 12 W.fn rfl
theorem Wd.law_cell_at {c : Cx} (W : Wd c) : HD c "_law_cell_at" ["_law_script", "_law_k"] d_law_cell_at.1 := FnAll.get ("_law_cell_at", ["_law_script", "_law_k"], d_law_cell_at.1) 13 W.fn rfl
theorem Wd.law_whole {c : Cx} (W : Wd c) : HD c "_law_whole" ["_law_told_here"] d_law_whole.1 := FnAll.get ("_law_whole", ["_law_told_here"], d_law_whole.1) 14 W.fn rfl
theorem Wd.law_able {c : Cx} (W : Wd c) : HD c "_law_able" ["_law_ring"] d_law_able.1 := FnAll.get ("_law_able", ["_law_ring"], d_law_able.1) 16 W.fn rfl
theorem Wd.law_step {c : Cx} (W : Wd c) : HD c "_law_step" ["_law_ring", "_law_many", "_law_k"] d_law_step.1 := FnAll.get ("_law_step", ["_law_ring", "_law_many", "_law_k"], d_law_step.1) 17 W.fn rfl
theorem Wd.law_all {c : Cx} (W : Wd c) : HD c "_law_all" ["_law_machines", "_law_many"] d_law_all.1 := FnAll.get ("_law_all", ["_law_machines", "_law_many"], d_law_all.1) 18 W.fn rfl
theorem Wd.law_heights {c : Cx} (W : Wd c) : HD c "_law_heights" ["_law_machines", "_law_many"] d_law_heights.1 := FnAll.get ("_law_heights", ["_law_machines", "_law_many"], d_law_heights.1) 19 W.fn rfl
theorem Wd.law_sizes {c : Cx} (W : Wd c) : HD c "_law_sizes" ["_law_cell"] d_law_sizes.1 := FnAll.get ("_law_sizes", ["_law_cell"], d_law_sizes.1) 20 W.fn rfl
theorem Wd.law_only {c : Cx} (W : Wd c) : HD c "_law_only" ["_law_e", "_law_at"] d_law_only.1 := FnAll.get ("_law_only", ["_law_e", "_law_at"], d_law_only.1) 21 W.fn rfl
theorem Wd.law_told {c : Cx} (W : Wd c) : HD c "_law_told" ["_law_machines", "_law_many"] d_law_told.1 := FnAll.get ("_law_told", ["_law_machines", "_law_many"], d_law_told.1) 22 W.fn rfl
theorem Wd.law_due {c : Cx} (W : Wd c) : HD c "_law_due" ["_law_machines", "_law_many"] d_law_due.1 := FnAll.get ("_law_due", ["_law_machines", "_law_many"], d_law_due.1) 23 W.fn rfl
theorem Wd.law {c : Cx} (W : Wd c) : HD c "law" ["_law_script"] d_law.1 := FnAll.get ("law", ["_law_script"], d_law.1) 24 W.fn rfl
theorem Wd.fns {c : Cx} (W : Wd c) : ∀ x ∈ (["need_many", "need_machines", "need_ring", "may_step", "able_of", "moved", "need_step", "gone", "need_few", "all_rings", "going_on", "endless", "never", "_law_cell_at", "_law_whole", "_law_alike", "_law_able", "_law_step", "_law_all", "_law_heights", "_law_sizes", "_law_only", "_law_told", "_law_due", "law"] : List Str), IsFn c x := W.fn.isFn
theorem Wd.own_NoNumbers {c : Cx} (W : Wd c) : OwnC c "NoNumbers" a_NoNumbers := W.tab.own (_, _) (.head _)
theorem Wd.at_NoNumbers {c : Cx} (W : Wd c) : c.mg "NoNumbers" = some (.ref a_NoNumbers) := W.own_NoNumbers.bound
theorem Wd.isi_NoNumbers {c : Cx} (W : Wd c) {nm : Str} {C : Addr} (h : (nm, C) ∈ clsTab) : Isi c C (.ref a_NoNumbers) (C == a_NoNumbers) := W.tab.isi _ h (_, _) (.head _)
theorem in_NoNumbers : (("NoNumbers" : Str), a_NoNumbers) ∈ clsTab := .head _
theorem Wd.own_NoRing {c : Cx} (W : Wd c) : OwnC c "NoRing" a_NoRing := W.tab.own (_, _) (.tail _ (.head _))
theorem Wd.at_NoRing {c : Cx} (W : Wd c) : c.mg "NoRing" = some (.ref a_NoRing) := W.own_NoRing.bound
theorem Wd.isi_NoRing {c : Cx} (W : Wd c) {nm : Str} {C : Addr} (h : (nm, C) ∈ clsTab) : Isi c C (.ref a_NoRing) (C == a_NoRing) := W.tab.isi _ h (_, _) (.tail _ (.head _))
theorem in_NoRing : (("NoRing" : Str), a_NoRing) ∈ clsTab := .tail _ (.head _)
theorem Wd.own_NoMachine {c : Cx} (W : Wd c) : OwnC c "NoMachine" a_NoMachine := W.tab.own (_, _) (.tail _ (.tail _ (.head _)))
theorem Wd.at_NoMachine {c : Cx} (W : Wd c) : c.mg "NoMachine" = some (.ref a_NoMachine) := W.own_NoMachine.bound
theorem Wd.isi_NoMachine {c : Cx} (W : Wd c) {nm : Str} {C : Addr} (h : (nm, C) ∈ clsTab) : Isi c C (.ref a_NoMachine) (C == a_NoMachine) := W.tab.isi _ h (_, _) (.tail _ (.tail _ (.head _)))
theorem Wd.own_NotNow {c : Cx} (W : Wd c) : OwnC c "NotNow" a_NotNow := W.tab.own (_, _) (.tail _ (.tail _ (.tail _ (.head _))))
theorem Wd.at_NotNow {c : Cx} (W : Wd c) : c.mg "NotNow" = some (.ref a_NotNow) := W.own_NotNow.bound
theorem Wd.isi_NotNow {c : Cx} (W : Wd c) {nm : Str} {C : Addr} (h : (nm, C) ∈ clsTab) : Isi c C (.ref a_NotNow) (C == a_NotNow) := W.tab.isi _ h (_, _) (.tail _ (.tail _ (.tail _ (.head _))))
theorem Wd.own_NotHealed {c : Cx} (W : Wd c) : OwnC c "NotHealed" a_NotHealed := W.tab.own (_, _) (.tail _ (.tail _ (.tail _ (.tail _ (.head _)))))
theorem Wd.at_NotHealed {c : Cx} (W : Wd c) : c.mg "NotHealed" = some (.ref a_NotHealed) := W.own_NotHealed.bound
theorem Wd.isi_NotHealed {c : Cx} (W : Wd c) {nm : Str} {C : Addr} (h : (nm, C) ∈ clsTab) : Isi c C (.ref a_NotHealed) (C == a_NotHealed) := W.tab.isi _ h (_, _) (.tail _ (.tail _ (.tail _ (.tail _ (.head _)))))
theorem Wd.own_TooGreat {c : Cx} (W : Wd c) : OwnC c "TooGreat" a_TooGreat := W.tab.own (_, _) (.tail _ (.tail _ (.tail _ (.tail _ (.tail _ (.head _))))))
theorem Wd.at_TooGreat {c : Cx} (W : Wd c) : c.mg "TooGreat" = some (.ref a_TooGreat) := W.own_TooGreat.bound
theorem Wd.isi_TooGreat {c : Cx} (W : Wd c) {nm : Str} {C : Addr} (h : (nm, C) ∈ clsTab) : Isi c C (.ref a_TooGreat) (C == a_TooGreat) := W.tab.isi _ h (_, _) (.tail _ (.tail _ (.tail _ (.tail _ (.tail _ (.head _))))))
theorem in_TooGreat : (("TooGreat" : Str), a_TooGreat) ∈ clsTab := .tail _ (.tail _ (.tail _ (.tail _ (.tail _ (.head _)))))
theorem Wd.isi_HealError {c : Cx} (W : Wd c) {nm : Str} {C : Addr} (h : (nm, C) ∈ clsTab) : Isi c C (.ref a_HealError) true := W.tab.isiH _ h
theorem Wd.isi_ValueError {c : Cx} (W : Wd c) {nm : Str} {C : Addr} (h : (nm, C) ∈ clsTab) : Isi c C (.type "ValueError") true := W.tab.isiV _ h

theorem Wd.of {loose : List Str} {R : WRecords} {XP : (Str → Option Value) → Heap → Prop} {w : World} {s₀ : Shared} {mg mb : Str → Option Value} {h : Heap} {pr : Program} (G : Ground VV [] R XP w s₀ mg mb h) (KX : (KK w.params).In h) : Wd ⟨pr, w, h, mg⟩ :=
  { toGd := Gd.of G
    tab := Tab.of KX (topRead_of G.T) (by kernel_rfl)
    at_HealError := mg_of KX G.T.g (by kernel_rfl)
    LEAST := const_of G rfl
    MOST_MACHINES := const_of G rfl
    MOST_NUMBERS := const_of G rfl
    MOST_RINGS := const_of G rfl
    bi := fun x hx => G.T.free x (by revert x; decide +kernel) (by revert x; decide +kernel) (by revert x; decide +kernel) (by revert x; decide +kernel) (by revert x; decide +kernel)
    fn := ⟨HD.of G d_need_many.2 rfl (fun pm cd doc kV => all1 fun v0 => rfl) rfl rfl rfl (by decide) (by decide), HD.of G d_need_machines.2 rfl (fun pm cd doc kV => all1 fun v0 => rfl) rfl rfl rfl (by decide) (by decide), HD.of G d_need_ring.2 rfl (fun pm cd doc kV => all2 fun v0 v1 => rfl) rfl rfl rfl (by decide) (by decide), HD.of G d_may_step.2 rfl (fun pm cd doc kV => all2 fun v0 v1 => rfl) rfl rfl rfl (by decide) (by decide), HD.of G d_able_of.2 rfl (fun pm cd doc kV => all1 fun v0 => rfl) rfl rfl rfl (by decide) (by decide), HD.of G d_moved.2 rfl (fun pm cd doc kV => all3 fun v0 v1 v2 => rfl) rfl rfl rfl (by decide) (by decide), HD.of G d_need_step.2 rfl (fun pm cd doc kV => all2 fun v0 v1 => rfl) rfl rfl rfl (by decide) (by decide), HD.of G d_gone.2 rfl (fun pm cd doc kV => all3 fun v0 v1 v2 => rfl) rfl rfl rfl (by decide) (by decide), HD.of G d_need_few.2 rfl (fun pm cd doc kV => all2 fun v0 v1 => rfl) rfl rfl rfl (by decide) (by decide), HD.of G d_all_rings.2 rfl (fun pm cd doc kV => all2 fun v0 v1 => rfl) rfl rfl rfl (by decide) (by decide), HD.of G d_going_on.2 rfl (fun pm cd doc kV => all3 fun v0 v1 v2 => rfl) rfl rfl rfl (by decide) (by decide), HD.of G d_endless.2 rfl (fun pm cd doc kV => all2 fun v0 v1 => rfl) rfl rfl rfl (by decide) (by decide), HD.of G d_never.2 rfl (fun pm cd doc kV => all2 fun v0 v1 => rfl) rfl rfl rfl (by decide) (by decide), HD.of G d_law_cell_at.2 rfl (fun pm cd doc kV => all2 fun v0 v1 => rfl) rfl rfl rfl (by decide) (by decide), HD.of G d_law_whole.2 rfl (fun pm cd doc kV => all1 fun v0 => rfl) rfl rfl rfl (by decide) (by decide), HD.of G d_law_alike.2 rfl (fun pm cd doc kV => all2 fun v0 v1 => rfl) rfl rfl rfl (by decide) (by decide), HD.of G d_law_able.2 rfl (fun pm cd doc kV => all1 fun v0 => rfl) rfl rfl rfl (by decide) (by decide), HD.of G d_law_step.2 rfl (fun pm cd doc kV => all3 fun v0 v1 v2 => rfl) rfl rfl rfl (by decide) (by decide), HD.of G d_law_all.2 rfl (fun pm cd doc kV => all2 fun v0 v1 => rfl) rfl rfl rfl (by decide) (by decide), HD.of G d_law_heights.2 rfl (fun pm cd doc kV => all2 fun v0 v1 => rfl) rfl rfl rfl (by decide) (by decide), HD.of G d_law_sizes.2 rfl (fun pm cd doc kV => all1 fun v0 => rfl) rfl rfl rfl (by decide) (by decide), HD.of G d_law_only.2 rfl (fun pm cd doc kV => all2 fun v0 v1 => rfl) rfl rfl rfl (by decide) (by decide), HD.of G d_law_told.2 rfl (fun pm cd doc kV => all2 fun v0 v1 => rfl) rfl rfl rfl (by decide) (by decide), HD.of G d_law_due.2 rfl (fun pm cd doc kV => all2 fun v0 v1 => rfl) rfl rfl rfl (by decide) (by decide), HD.of G d_law.2 rfl (fun pm cd doc kV => all1 fun v0 => rfl) rfl rfl rfl (by decide) (by decide), trivial⟩ }

set_option compiler.extract_closed false
local macro_rules | `(tactic| walk_at "s0") => `(tactic| first
  | with_reducible first
    | refine Exs.nil ?_
    | refine Ex.ret ?_
    | refine Ex.if ?_
    | refine Nx.next ?_
    | refine Nx.ret ?_
    | refine Lp.ret ?_
    | refine Hand.dat ?_
    | refine Hand.none ?_
    | refine Tb.not ?_
    | refine Tb.and ?_
    | refine Tb.or ?_
    | refine TbA.andNil ?_
    | refine TbA.orNil ?_
    | refine TbA.andCons ?_
    | refine TbA.orCons ?_
    | refine Ev.cint ?_
    | refine Ev.cbool ?_
    | refine Ev.cnone ?_
    | refine Ev.cstr ?_
    | refine Ev.binop ?_
    | refine Ev.unop ?_
    | refine Ev.cutTo ?_
    | refine Ev.cutFrom ?_
    | refine Ev.sub ?_
    | refine Ev.boolOp ?_
    | refine EvB.one ?_
    | refine EvB.and ?_
    | refine EvB.or ?_
    | refine Ev.tuple ?_
    | refine Ev.list ?_
    | refine ex0 ?_
    | refine ex1 ?_
    | refine ex2 ?_
    | refine ex3 ?_
    | refine ex4 ?_
    | refine ex5 ?_
    | refine ex7 ?_
    | refine Evs.nil ?_
    | refine Pr.add ?_
    | refine Pr.sub ?_
    | refine Pr.neg ?_
    | refine Pr.lt ?_
    | refine Pr.gt ?_
    | refine Pr.le ?_
    | refine Pr.ge ?_
    | refine Pr.eqI ?_
    | refine Pr.neI ?_
    | refine Pr.max2 ?_
    | refine Pr.min2 ?_
    | refine Pr.intOf ?_
    | refine Pr.eqB ?_
    | refine Pr.neB ?_
    | refine Pr.isi_int_tuple ?_
    | refine Pr.isi_bool_tuple ?_
    | refine Pr.isi_tuple_tuple ?_
    | refine Pr.isi_list_tuple ?_
    | refine Pr.isi_str_tuple ?_
    | refine Pr.isi_int_list ?_
    | refine Pr.isi_bool_list ?_
    | refine Pr.isi_tuple_list ?_
    | refine Pr.isi_list_list ?_
    | refine Pr.isi_str_list ?_
    | refine Pr.isi_int_bool ?_
    | refine Pr.isi_bool_bool ?_
    | refine Pr.isi_tuple_bool ?_
    | refine Pr.isi_list_bool ?_
    | refine Pr.isi_str_bool ?_
    | refine Pr.isi_int_int ?_
    | refine Pr.isi_bool_int ?_
    | refine Pr.isi_tuple_int ?_
    | refine Pr.isi_list_int ?_
    | refine Pr.isi_str_int ?_
    | refine Pr.isNone_tuple ?_
    | refine Pr.isNone_list ?_
    | refine Pr.isNone_none ?_
    | refine truthEx ?_
    | refine if0 ?_
    | refine if1 ?_
    | refine ifNT ?_
    | refine ifNF ?_
    | refine ifFF ?_
    | refine ifTT ?_
    | refine ifFT ?_
    | refine ifTF ?_
    | refine lenEx ?_
  | ((with_reducible refine Ex.expr ?_ ?hs); (case hs => intro _; rfl))
  | ((with_reducible refine Ex.assign (.inl ?hh) ?_ ?hs); (case hh => rfl); (case hs => intro _; rfl))
  | ((with_reducible refine Ex.assign (.inr ?hh) ?_ ?hs); (case hh => rfl); (case hs => intro _; rfl))
  | ((with_reducible refine Tb.cmp ?_ ?hs); (case hs => with_unfolding_all rfl))
  | ((with_reducible refine Tb.val ?_ ?hs); (case hs => intro _; rfl))
  | ((with_reducible refine' Ev.nm ?hh ?_ ?hd ?hn); (case hh => rfl); (case hd => rfl); (case hn => rfl))
  | ((with_reducible refine Ev.cmp ?_ ?hs); (case hs => with_unfolding_all rfl))
  | ((with_reducible refine' Ev.comp ?hok ?_ ?hs); (case hok => rfl); (case hs => intro _ _; rfl))
  | ((with_reducible refine' Ev.glInt ?gg ?hk ?hv ?_ ?hd); (case hd => rfl); (case hk => rfl); (case gg => exact Wd.toGd (by assumption)); (case hv => first | exact (Wd.LEAST (by assumption)).choose_spec | exact (Wd.MOST_MACHINES (by assumption)).choose_spec | exact (Wd.MOST_NUMBERS (by assumption)).choose_spec | exact (Wd.MOST_RINGS (by assumption)).choose_spec))
  | ((with_reducible refine' Ev.bi ?gg ?hk ?hm ?hv ?_ ?hn ?hd); (case hv => first | exact Boot.«tuple» | exact Boot.«list» | exact Boot.«bool» | exact Boot.«int» | exact Boot.«ValueError»); (case hk => rfl); (case gg => exact Wd.toGd (by assumption)); (case hm => exact Wd.bi (by assumption) _ (by decide)); (case hn => decide); (case hd => rfl))
  | ((with_reducible refine' Ev.call ?gg ?hf ?hk ?_ ?hd ?he); (case hk => rfl); (case gg => exact Wd.toGd (by assumption)); (case hf => exact Wd.fns (by assumption) _ (by decide)); (case hd => rfl); (case he => intro _; rfl))
  | ((with_reducible refine' Ev.callBi ?gg ?hk ?hm ?hb ?_ ?hn ?hd ?he ?hp); (case hb => first | exact Boot.«len» | exact Boot.«max» | exact Boot.«min» | exact Boot.«isinstance»); (case hk => rfl); (case gg => exact Wd.toGd (by assumption)); (case hm => exact Wd.bi (by assumption) _ (by decide)); (case hn => decide); (case hd => rfl); (case he => intro _; rfl); (case hp => intro _ _; rfl))
  | ((with_reducible refine' Ev.callTy ?gg ?hk ?hm ?hb ?_ ?hn ?hd ?he ?hp); (case hb => first | exact Boot.«int» | exact Boot.«tuple» | exact Boot.«list»); (case hk => rfl); (case gg => exact Wd.toGd (by assumption)); (case hm => exact Wd.bi (by assumption) _ (by decide)); (case hn => decide); (case hd => rfl); (case he => intro _; rfl); (case hp => intro _ _; rfl))
  | ((with_reducible refine Evs.cons ?_ ?hs); (case hs => intro _; rfl))
  | ((with_reducible refine Pr.mod ?hz ?_); (case hz => omega))
  | ((with_reducible refine Pr.fdiv ?hz ?_); (case hz => exact ⟨by decide, by decide⟩))
  | ((with_reducible refine ifF ?hz ?_); (case hz => omega))
  | ((with_reducible refine ifY ?hz ?_); (case hz => omega))
  | ((with_reducible refine' Ev.gl ?gg ?hk ?hv ?_ ?hd); (case hd => rfl); (case hk => rfl); (case gg => exact Wd.toGd (by assumption)); (case hv => first | exact Wd.at_NoNumbers (by assumption) | exact Wd.at_NoRing (by assumption) | exact Wd.at_NoMachine (by assumption) | exact Wd.at_NotNow (by assumption) | exact Wd.at_NotHealed (by assumption) | exact Wd.at_TooGreat (by assumption) | exact Wd.at_HealError (by assumption)))
  | ((with_reducible refine' Pr.isiExc ?hI ?_); (case hI => first | exact Wd.isi_NoNumbers (by assumption) (by assumption) | exact Wd.isi_NoRing (by assumption) (by assumption) | exact Wd.isi_NoMachine (by assumption) (by assumption) | exact Wd.isi_NotNow (by assumption) (by assumption) | exact Wd.isi_NotHealed (by assumption) (by assumption) | exact Wd.isi_TooGreat (by assumption) (by assumption) | exact Wd.isi_HealError (by assumption) (by assumption) | exact Wd.isi_ValueError (by assumption) (by assumption)))
  | ((with_reducible refine' Ex.raise ?gg ?O ?hk ?_ ?hd ?he ?hp); (case hd => rfl); (case hk => rfl); (case gg => exact Wd.toGd (by assumption)); (case O => first | exact Wd.own_NoNumbers (by assumption) | exact Wd.own_NoRing (by assumption) | exact Wd.own_NoMachine (by assumption) | exact Wd.own_NotNow (by assumption) | exact Wd.own_NotHealed (by assumption) | exact Wd.own_TooGreat (by assumption)); (case he => intro _; rfl); (case hp => intro _ _; rfl)))
local macro_rules | `(tactic| walk_at "s") => `(tactic| first | with_reducible refine Exs.cons ?_ | walk_at "s0")
/-- on, over the statements -/
local macro_rules | `(tactic| walk_at "w") => `(tactic| repeat walk_at "s")
/-- on, up to the next statement -/
local macro_rules | `(tactic| walk_at "v") => `(tactic| repeat walk_at "s0")

/-! the script's numbers, plainly -/
noncomputable def cellAt (w : List Int) (k : Nat) : Int := w.getD k 0
noncomputable def mixed (cell : Int) (k : Nat) : Int :=
  let one := ((cell.fmod 1000003 + 1) * (k * 48271 + 11)).fmod 1000003
  let other := (one * one + k * 7919 + cell.fdiv 1000003).fmod 1000003
  (other * other).fmod 1000003
noncomputable def sizeOfS (w : List Int) : Int := 2 + (cellAt w 0).fmod 6

theorem Rg.l2 {xs : List Int} {n : Nat} {K : Int} (R : Rg xs n K) : 2 ≤ xs.length := by rw [R.len]; exact R.two
theorem Rg.l1000 {xs : List Int} {n : Nat} {K : Int} (R : Rg xs n K) : xs.length < 1000 := by rw [R.len]; exact Nat.lt_of_le_of_lt R.top (by decide)
theorem Rg.l60 {xs : List Int} {n : Nat} {K : Int} (R : Rg xs n K) : xs.length < 2 ^ 60 := by rw [R.len]; exact Nat.lt_of_le_of_lt R.top (by decide)
theorem Rg.lt {xs : List Int} {n : Nat} {K : Int} {m : Nat} (R : Rg xs n K) (h : m < n) : m < xs.length := by rw [R.len]; exact h
theorem Rg.z63 {xs : List Int} {n : Nat} {K : Int} (R : Rg xs n K) : (zs xs).length < 2 ^ 63 := by rw [List.length_map, R.len]; exact Nat.lt_of_le_of_lt R.top (by decide)
section
variable {c : Cx} {q : Bool} {k : Nat} {σ : AH} {Q : AV → AH → Prop} {X : Addr → AH → Prop}

theorem fn_need_many (W : Wd c) {m : Int} (h2 : 2 ≤ m) (h3 : m ≤ 100) (h : Q No σ) : Cl c q (k + 1) "need_many" [I m] σ Q X := by
  refine Cl.intro0 W.toGd W.need_many rfl ?_
  dsimp only [d_need_many, List.zip_cons_cons, List.zip_nil_right, List.zip_nil_left]
  walk_at "w"
  simpa using h
theorem fn_need_machines (W : Wd c) {m : Int} (h2 : 2 ≤ m) (h3 : m ≤ 12) (h : Q No σ) : Cl c q (k + 1) "need_machines" [I m] σ Q X := by
  refine Cl.intro0 W.toGd W.need_machines rfl ?_
  dsimp only [d_need_machines, List.zip_cons_cons, List.zip_nil_right, List.zip_nil_left]
  walk_at "w"
  simpa using h
theorem fn_may_step (W : Wd c) {xs : List Int} {m : Nat} (hl : 2 ≤ xs.length) (hl' : xs.length < 2 ^ 60) (hm : m < xs.length) (h : Q (B (may xs m)) σ) :
    Cl c q (k + 1) "may_step" [T (zs xs), I m] σ Q X := by
  refine Cl.intro0 W.toGd W.may_step rfl ?_
  dsimp only [d_may_step, List.zip_cons_cons, List.zip_nil_right, List.zip_nil_left]
  walk_at "w"
  refine ifT (fun hz => ?_) fun hz => ?_
  · walk_at "w"
    refine Pr.ringAt (j := 0) (idx_nat rfl (by omega)) hl' ?_
    walk_at "w"
    refine Pr.ringAt (idx_neg (by omega)) hl' ?_
    walk_at "w"
    have e : may xs m = decide (xs.getD 0 0 = xs.getD (xs.length - 1) 0) := by
      unfold may; rw [if_pos (by omega)]
    rw [e] at h
    simpa using h
  · walk_at "w"
    refine Pr.ringAt (j := m) (idx_nat rfl (by omega)) hl' ?_
    walk_at "w"
    refine Pr.ringAt (j := m - 1) (idx_nat (by omega) (by omega)) hl' ?_
    walk_at "w"
    have e : may xs m = decide (xs.getD m 0 ≠ xs.getD (m - 1) 0) := by
      unfold may; rw [if_neg (by omega)]
    rw [e] at h
    simpa using h
theorem fn_need_ring (W : Wd c) {xs : List Int} {n : Nat} {K : Int} (R : Rg xs n K) (h : Q No σ) : Cl c true (k + 2) "need_ring" [T (zs xs), I K] σ Q X := by
  have hn := R.len; have h2 := R.two; have h12 := R.top; have hk2 := R.k2; have hk := R.k100
  refine Cl.intro0 W.toGd W.need_ring rfl ?_
  dsimp only [d_need_ring, List.zip_cons_cons, List.zip_nil_right, List.zip_nil_left]
  walk_at "w"
  refine fn_need_many W (by omega) (by omega) ?_
  walk_at "w"
  refine Pr.lenT (by simp; omega) ?_
  walk_at "w"
  refine fn_need_machines W (by simp; omega) (by simp; omega) ?_
  walk_at "w"
  refine Ex.for (.inl rfl) ?_ (fun _ _ _ _ _ _ _ => noPass _ fun _ _ _ z => z)
  refine EvI.val ?_
  walk_at "w"
  refine ⟨_, _, .tuple _, trivial, ?_⟩
  refine ForR.zs (fun i ρ σ' => ρ = ([("ring", T (zs xs)), ("many", I K)] : Lo) ∧ σ' = σ) ?_ ?_ ⟨_, Sub.refl _, rfl, rfl⟩
  · rintro i ρ σ' hi ⟨rfl, rfl⟩
    have l0 := R.lo i (by omega); have l1 := R.hi i (by omega)
    dsimp only [upd]
    walk_at "w"
    exact Lp.next ⟨trivial, _, Sub.cons rfl (Sub.cons rfl (Sub.nil _)), rfl, rfl⟩
  · rintro ρ ρ' σ' hs ⟨rfl, rfl⟩
    walk_at "w"
    simpa using h
theorem fn_able_of (W : Wd c) {xs : List Int} (hl : 2 ≤ xs.length) (hl' : xs.length < 1000) (h : Q (Ls (zs (ableL xs))) σ) : Cl c true (k + 2) "able_of" [T (zs xs)] σ Q X := by
  refine Cl.intro0 W.toGd W.able_of rfl ?_
  dsimp only [d_able_of, List.zip_cons_cons, List.zip_nil_right, List.zip_nil_left]
  walk_at "w"
  refine EvI.range1 W.toGd rfl (W.bi _ (by decide)) ?_
  walk_at "w"
  refine Pr.lenT (by simp; omega) ?_
  refine ⟨xs.length, by simp, by omega, ?_⟩
  refine CompR.uptoF (may xs) (fun i => .int i) (fun i hi => ?_) (fun i hi _ => ?_) (by rw [sizeLine_eq]; omega) trivial ?_
  · walk_at "w"
    refine fn_may_step W hl (by omega) hi ?_
    walk_at "w"
    exact ⟨rfl, rfl⟩
  · walk_at "w"
    exact ⟨rfl, rfl⟩
  · walk_at "w"
    simpa [ableL, zs, Function.comp_def] using h
theorem fn_moved (W : Wd c) {xs : List Int} {K : Int} {m : Nat} (hl : 2 ≤ xs.length) (hl' : xs.length < 1000) (hK : 2 ≤ K) (hm : m < xs.length) (h : Q (T (zs (mv xs K m))) σ) : Cl c true (k + 1) "moved" [T (zs xs), I K, I m] σ Q X := by
  refine Cl.intro0 W.toGd W.moved rfl ?_
  dsimp only [d_moved, List.zip_cons_cons, List.zip_nil_right, List.zip_nil_left]
  have key : ∀ (y : Int), mv xs K m = xs.set m y → Exs c true true k d_moved.1.1.scope [("ring", T (zs xs)), ("many", I K), ("machine", I m), ("number", I y)] σ (d_moved.1.1.body.drop 1) (fun fw _ σ' => Hand σ.length Q fw σ') (fun _ _ _ => False) := by
    intro y hy
    dsimp only [d_moved, List.drop]
    walk_at "w"
    refine ⟨m, rfl, CutTo.tuple (by simp; omega) (by rw [sizeLine_eq]; simp; omega) ?_⟩
    walk_at "w"
    refine Pr.addT (by rw [sizeLine_eq]; simp; omega) ?_
    walk_at "w"
    refine ⟨m + 1, by simp, CutFrom.tuple (by omega) (by simp; omega) (by rw [sizeLine_eq]; simp; omega) ?_⟩
    refine Pr.addT (by rw [sizeLine_eq]; simp; omega) ?_
    walk_at "w"
    rw [hy, List.set_eq_take_append_cons_drop] at h
    simpa [hm, zs] using h
  walk_at "w"
  refine ifT (fun hz => ?_) fun hz => ?_
  · walk_at "w"
    refine Pr.ringAt (j := 0) (idx_nat rfl (by omega)) (by omega) ?_
    walk_at "v"
    have := key ((xs.getD 0 0 + 1).fmod K) (by unfold mv; rw [if_pos (by omega)])
    exact this
  · walk_at "w"
    refine Pr.ringAt (j := m - 1) (idx_nat (by omega) (by omega)) (by omega) ?_
    walk_at "v"
    have := key (xs.getD (m - 1) 0) (by unfold mv; rw [if_neg (by omega)])
    exact this
theorem fn_cell_at (W : Wd c) {w : List Int} {j : Nat} {z : Int} (hj : z = j) (hw : w.length ≤ 63) (h : Q (I (cellAt w j)) σ) : Cl c q (k + 1) "_law_cell_at" [Ls (zs w), I z] σ Q X := by
  subst hj
  refine Cl.intro0 W.toGd W.law_cell_at rfl ?_
  dsimp only [d_law_cell_at, List.zip_cons_cons, List.zip_nil_right, List.zip_nil_left]
  walk_at "w"
  refine Pr.lenL (by simp; omega) ?_
  walk_at "w"
  refine ifT (fun hz => ?_) fun hz => ?_
  · walk_at "w"
    simp at hz
    refine Pr.listAt (j := j) (idx_nat rfl (by omega)) (by omega) ?_
    walk_at "w"
    simpa [cellAt] using h
  · walk_at "w"
    simp at hz
    have e : cellAt w j = 0 := by unfold cellAt; simp [List.getD, hz]
    rw [e] at h
    simpa using h
theorem fmod_lt {a b : Int} (hb : 0 < b) : 0 ≤ a.fmod b ∧ a.fmod b < b := ⟨Int.fmod_nonneg_of_pos a hb, Int.fmod_lt_of_pos a hb⟩
end

section
variable {c : Cx} {k : Nat} {σ : AH} {Q : AV → AH → Prop} {X : Addr → AH → Prop}
/-- the law's own list of those that may step -/
theorem fn_lable (W : Wd c) {xs : List Int} (hl : 2 ≤ xs.length) (hl' : xs.length < 1000) (h : Q (Ls (zs (ableL xs))) σ) : Cl c true (k + 1) "_law_able" [T (zs xs)] σ Q X := by
  refine Cl.intro0 W.toGd W.law_able rfl ?_
  dsimp only [d_law_able, List.zip_cons_cons, List.zip_nil_right, List.zip_nil_left]
  refine Exs.cons (Ex.assignNew (.inl rfl) (EvN.list ?_))
  walk_at "w"
  refine Ex.for (.inl rfl) ?_ (fun _ _ _ _ _ _ _ => noPass _ fun _ _ _ z => z)
  refine EvI.range1 W.toGd rfl (W.bi _ (by decide)) ?_
  walk_at "w"
  refine Pr.lenT (by simp; omega) ?_
  refine ⟨xs.length, by simp, by omega, ?_⟩
  refine ForR.upto (fun i ρ σ' => ρ = ([("_law_ring", T (zs xs)), ("_law_found", .obj σ.length)] : Lo) ∧ σ' = σ ++ [.list (zs (((List.range i).filter (may xs)).map fun (n : Nat) => (n : Int)))]) ?_ ?_
    ⟨_, Sub.cons rfl (Sub.cons rfl (Sub.nil _)), rfl, rfl⟩
  · rintro i ρ σ' hi ⟨rfl, rfl⟩
    dsimp only [upd]
    have hlen : (zs (((List.range i).filter (may xs)).map fun (n : Nat) => (n : Int))).length < sizeLine := by
      have := List.length_filter_le (may xs) (List.range i)
      rw [sizeLine_eq]; simp at this ⊢; omega
    refine Exs.cons (Ex.ifV (may xs i) ?_ (fun hm => ?_) fun hm => ?_)
    · walk_at "w"
      refine ifT (fun h0 => ?_) fun h0 => ?_
      · have e : may xs i = decide (xs.getD 0 0 = xs.getD (xs.length - 1) 0) := by unfold may; rw [if_pos (by omega)]
        walk_at "w"
        refine Pr.ringAt (j := 0) (idx_nat rfl (by omega)) (by omega) ?_
        walk_at "w"
        refine Pr.ringAt (idx_neg (by omega)) (by omega) ?_
        walk_at "w"
        refine ifT (fun h1 => ?_) fun h1 => ?_
        · walk_at "w"
          rw [e]; exact ⟨(decide_eq_true h1).symm, rfl⟩
        · walk_at "w"
          rw [e]; exact ⟨(decide_eq_false h1).symm, rfl⟩
      · have e : may xs i = decide (xs.getD i 0 ≠ xs.getD (i - 1) 0) := by unfold may; rw [if_neg (by omega)]
        walk_at "w"
        refine Pr.ringAt (j := i) (idx_nat rfl (by omega)) (by omega) ?_
        walk_at "w"
        refine Pr.ringAt (j := i - 1) (idx_nat (by omega) (by omega)) (by omega) ?_
        walk_at "w"
        refine ifT (fun h1 => ?_) fun h1 => ?_
        · walk_at "w"
          rw [e]; exact ⟨(decide_eq_true h1).symm, rfl⟩
        · walk_at "w"
          rw [e]; exact ⟨(decide_eq_false h1).symm, rfl⟩
    · refine Exs.cons (Ex.append rfl ⟨_, last_at _ _⟩ ?_)
      walk_at "w"
      refine ⟨_, _, rfl, last_at _ _, hlen, ?_⟩
      rw [last_set]
      walk_at "w"
      refine Lp.next ⟨trivial, _, Sub.cons rfl (Sub.cons rfl (Sub.nil _)), rfl, ?_⟩
      rw [List.range_succ, List.filter_append]
      simp [hm, zs]
    · walk_at "w"
      refine Lp.next ⟨trivial, _, Sub.cons rfl (Sub.cons rfl (Sub.nil _)), rfl, ?_⟩
      rw [List.range_succ, List.filter_append]
      simp [hm]
  · rintro ρ ρ' σ' hs ⟨rfl, rfl⟩
    refine Nx.next (Exs.sub hs ?_)
    walk_at "w"
    refine Hand.obj (Nat.le_refl _) (last_at _ _) ?_
    rw [last_take]
    simpa [ableL] using h
/-- the law's own step -/
theorem fn_lstep (W : Wd c) {xs : List Int} {K : Int} {m : Nat} (hl : 2 ≤ xs.length) (hl' : xs.length < 1000) (hK : 2 ≤ K) (hm : m < xs.length) (h : Q (T (zs (mv xs K m))) σ) : Cl c true (k + 1) "_law_step" [T (zs xs), I K, I m] σ Q X := by
  refine Cl.intro0 W.toGd W.law_step rfl ?_
  dsimp only [d_law_step, List.zip_cons_cons, List.zip_nil_right, List.zip_nil_left]
  refine Exs.cons (Ex.assignNew (.inl rfl) (EvN.listOf W.toGd rfl (W.bi _ (by decide)) ?_))
  walk_at "w"
  refine ⟨_, .tuple _, by rw [sizeLine_eq]; simp; omega, ?_⟩
  walk_at "w"
  have fin : ∀ y : Int, mv xs K m = xs.set m y → (σ ++ [AO.list (zs xs)]).set σ.length (.list ((zs xs).set m (.int y))) = σ ++ [.list (zs (mv xs K m))] := fun y hy => by
    rw [last_set, hy]; simp [zs]
  refine ifT (fun h0 => ?_) fun h0 => ?_
  · refine Exs.cons (Ex.store rfl ?_)
    walk_at "w"
    refine Pr.ringAt (j := 0) (idx_nat rfl (by omega)) (by omega) ?_
    walk_at "w"
    refine ⟨_, rfl, ?_⟩
    walk_at "w"
    refine ⟨0, _, rfl, last_at _ _, by simp; omega, by simp; omega, ?_⟩
    have e0 : m = 0 := by omega
    have := fin ((xs.getD 0 0 + 1).fmod K) (by unfold mv; rw [if_pos e0])
    rw [e0] at this h
    rw [this]
    walk_at "w"
    refine Pr.tupleOfO (last_at _ _) (by rw [sizeLine_eq]; simp [mv]; omega) ?_
    walk_at "w"
    rw [last_take]
    exact h
  · refine Exs.cons (Ex.store rfl ?_)
    walk_at "w"
    refine Pr.ringAt (j := m - 1) (idx_nat (by omega) (by omega)) (by omega) ?_
    walk_at "w"
    refine ⟨_, rfl, ?_⟩
    walk_at "w"
    refine ⟨m, _, rfl, last_at _ _, by simp; omega, by simp; omega, ?_⟩
    have := fin (xs.getD (m - 1) 0) (by unfold mv; rw [if_neg (by omega)])
    rw [this]
    walk_at "w"
    refine Pr.tupleOfO (last_at _ _) (by rw [sizeLine_eq]; simp [mv]; omega) ?_
    walk_at "w"
    rw [last_take]
    exact h
end

section
variable {c : Cx} {k : Nat} {σ : AH} {Q : AV → AH → Prop} {X : Addr → AH → Prop}
end

section
variable {c : Cx} {k : Nat} {σ : AH} {Q : AV → AH → Prop} {X : Addr → AH → Prop}
/-- a step that there is not, or may not be: an exception -/
theorem fn_need_stepX (W : Wd c) {xs : List Int} {n : Nat} {K : Int} {m : Int} (R : Rg xs n K) (h1 : m < 0 ∨ (n : Int) ≤ m → X a_NoMachine σ) (h2 : ∀ j : Nat, m = j → j < n → may xs j = false → X a_NotNow σ)
    (h3 : ∀ j : Nat, m = j → j < n → may xs j = true → Q No σ) : Cl c true (k + 2) "need_step" [T (zs xs), I m] σ Q X := by
  have hl := R.len; have hn2 := R.two; have h12 := R.top
  refine Cl.intro W.toGd W.need_step rfl ?_
  dsimp only [d_need_step, List.zip_cons_cons, List.zip_nil_right, List.zip_nil_left]
  walk_at "w"
  refine ifT (fun hz => ?_) fun hz => ?_
  · walk_at "w"
    simpa using h1 (.inl hz)
  · walk_at "w"
    refine Pr.lenT R.z63 ?_
    walk_at "w"
    refine ifT (fun hy => ?_) fun hy => ?_
    · walk_at "w"
      simpa using h1 (.inr (by simp at hy; omega))
    · obtain ⟨j, rfl⟩ : ∃ j : Nat, m = j := ⟨m.toNat, by omega⟩
      have hj : j < n := by simp at hy; omega
      walk_at "w"
      refine fn_may_step W R.l2 R.l60 (R.lt hj) ?_
      walk_at "w"
      refine ifN (fun hm => ?_) fun hm => ?_
      · walk_at "w"
        simpa using h2 j rfl hj hm
      · walk_at "w"
        simpa using h3 j rfl hj hm
theorem clsAt_one {nm : Str} {C : Addr} (h : (nm, C) ∈ clsTab) : Spec.countIn (.bool true) [.bool (C == a_NoNumbers), .bool (C == a_NoRing), .bool (C == a_NoMachine), .bool (C == a_NotNow), .bool (C == a_NotHealed), .bool (C == a_TooGreat)] = 1 := by
  simp only [clsTab, List.mem_cons, Prod.mk.injEq, List.not_mem_nil, or_false] at h
  rcases h with ⟨_, rfl⟩ | ⟨_, rfl⟩ | ⟨_, rfl⟩ | ⟨_, rfl⟩ | ⟨_, rfl⟩ | ⟨_, rfl⟩ <;> rfl
theorem clsAt_get {C : Addr} {j : Nat} (hj : j < 6) : ([.bool (C == a_NoNumbers), .bool (C == a_NoRing), .bool (C == a_NoMachine), .bool (C == a_NotNow), .bool (C == a_NotHealed), .bool (C == a_TooGreat)] : List PyData)[j]? = some (.bool (C == clsAt j)) := by
  match j, hj with
  | 0, _ => rfl
  | 1, _ => rfl
  | 2, _ => rfl
  | 3, _ => rfl
  | 4, _ => rfl
  | 5, _ => rfl
/-- of which class alone an exception is -/
theorem fn_only (W : Wd c) {q : Bool} {nm : Str} {C : Addr} (hC : (nm, C) ∈ clsTab) {j : Nat} (hj : j < 6) (h : Q (B (C == clsAt j)) σ) : Cl c q (k + 1) "_law_only" [.exc C, I j] σ Q X := by
  refine Cl.intro0 W.toGd W.law_only rfl ?_
  dsimp only [d_law_only, List.zip_cons_cons, List.zip_nil_right, List.zip_nil_left]
  refine Exs.cons (Ex.assignNew (.inl rfl) (EvN.list ?_))
  walk_at "v"
  refine Exs.cons (Ex.assignNew (.inl rfl) (EvN.binop ?_))
  walk_at "w"
  refine PrN.cat (.obj (last_at _ _)) (.list _) (by rw [sizeLine_eq]; simp) ?_
  walk_at "w"
  refine Ev.countB rfl ⟨_, last_at _ _⟩ ?_
  walk_at "w"
  refine ⟨true, _, rfl, last_at _ _, rfl, ?_⟩
  walk_at "w"
  have hc := clsAt_one hC
  simp only [List.cons_append, List.nil_append]
  refine ifY hc ?_
  walk_at "w"
  refine Pr.itemO (j := j) (last_at _ _) (idx_nat rfl (by simpa using hj)) (clsAt_get hj) (by omega) (by omega) ?_
  walk_at "w"
  refine ifB (fun hb => ?_) fun hb => ?_
  · walk_at "w"
    rw [hb] at h
    simpa using h
  · walk_at "w"
    rw [hb] at h
    rw [hb]
    simpa using h
end

/-! all rings -/
noncomputable abbrev tz (r : List Int) : PyData := .tuple (zs r)
noncomputable def extR (K : Nat) (r : List Int) : List (List Int) := (List.range K).map fun (v : Nat) => r ++ [(v : Int)]
theorem flat_len (K : Nat) (l : List (List Int)) : (l.flatMap (extR K)).length = l.length * K := by
  induction l with
  | nil => simp
  | cons x l ih => rw [List.flatMap_cons, List.length_append, ih]; simp [extR, Nat.succ_mul, Nat.add_comm]
theorem take_flat {K : Nat} {l : List (List Int)} {p : Nat} (hp : p < l.length) : (l.take (p + 1)).flatMap (extR K) = (l.take p).flatMap (extR K) ++ extR K (l.getD p []) := by
  rw [List.take_add_one, List.getElem?_eq_getElem hp, List.flatMap_append, List.getD_eq_getElem?_getD, List.getElem?_eq_getElem hp]
  simp
theorem pow_le_300 {K n i : Nat} (hK : 2 ≤ K) (hs : K ^ n ≤ 300) (hi : i ≤ n) : K ^ i ≤ 300 := Nat.le_trans (Nat.pow_le_pow_right (by omega) hi) hs
theorem row_bound {K n i p v : Nat} (hK : 2 ≤ K) (hs : K ^ n ≤ 300) (hi : i < n) (hp : p < K ^ i) (hv : v < K) : p * K + v < 300 := by
  have h1 := pow_le_300 hK hs (i := i + 1) (by omega)
  rw [Nat.pow_succ] at h1
  have h2 : (p + 1) * K ≤ K ^ i * K := Nat.mul_le_mul_right _ (by omega)
  rw [Nat.succ_mul] at h2
  omega
section
variable {c : Cx} {k : Nat} {σ : AH} {Q : AV → AH → Prop} {X : Addr → AH → Prop}
theorem fn_need_manyX (W : Wd c) {m : Int} (h1 : m < 2 ∨ 100 < m → X a_NoNumbers σ) (h2 : 2 ≤ m → m ≤ 100 → Q No σ) : Cl c true (k + 1) "need_many" [I m] σ Q X := by
  refine Cl.intro W.toGd W.need_many rfl ?_
  dsimp only [d_need_many, List.zip_cons_cons, List.zip_nil_right, List.zip_nil_left]
  walk_at "w"
  refine ifT (fun hz => ?_) fun hz => ?_
  · walk_at "w"
    simpa using h1 (.inl hz)
  · walk_at "w"
    refine ifT (fun hy => ?_) fun hy => ?_
    · walk_at "w"
      simpa using h1 (.inr hy)
    · walk_at "w"
      simpa using h2 (by omega) (by omega)
theorem fn_need_machinesX (W : Wd c) {m : Int} (h1 : m < 2 ∨ 12 < m → X a_NoRing σ) (h2 : 2 ≤ m → m ≤ 12 → Q No σ) : Cl c true (k + 1) "need_machines" [I m] σ Q X := by
  refine Cl.intro W.toGd W.need_machines rfl ?_
  dsimp only [d_need_machines, List.zip_cons_cons, List.zip_nil_right, List.zip_nil_left]
  walk_at "w"
  refine ifT (fun hz => ?_) fun hz => ?_
  · walk_at "w"
    simpa using h1 (.inl hz)
  · walk_at "w"
    refine ifT (fun hy => ?_) fun hy => ?_
    · walk_at "w"
      simpa using h1 (.inr hy)
    · walk_at "w"
      simpa using h2 (by omega) (by omega)
theorem fn_need_few (W : Wd c) {n : Nat} {K : Int} (hn : n ≤ 100) (hK2 : 2 ≤ K) (hK : K ≤ 100) (h1 : 300 < K ^ n → X a_TooGreat σ) (h2 : K ^ n ≤ 300 → Q No σ) : Cl c true (k + 1) "need_few" [I n, I K] σ Q X := by
  refine Cl.intro W.toGd W.need_few rfl ?_
  dsimp only [d_need_few, List.zip_cons_cons, List.zip_nil_right, List.zip_nil_left]
  walk_at "w"
  refine Ex.for (.inl rfl) ?_ (fun _ _ _ _ _ _ H => passes H fun _ _ _ z => z)
  refine EvI.range1 W.toGd rfl (W.bi _ (by decide)) ?_
  walk_at "w"
  refine ⟨n, rfl, by omega, ?_⟩
  refine ForR.upto (fun i ρ σ' => ρ = ([("machines", I n), ("many", I K), ("rings", I (K ^ i))] : Lo) ∧ σ' = σ) ?_ ?_
    ⟨[("machines", I n), ("many", I K), ("rings", I (K ^ 0))], by rw [Int.pow_zero]; exact Sub.cons rfl (Sub.cons rfl (Sub.cons rfl (Sub.nil _))), rfl, rfl⟩
  · rintro i ρ σ' hi ⟨rfl, rfl⟩
    dsimp only [upd]
    walk_at "w"
    refine Pr.mul (.inr (by omega)) ?_
    walk_at "w"
    refine Lp.next ⟨trivial, _, ?_, rfl, rfl⟩
    rw [Int.pow_succ]
    exact Sub.cons rfl (Sub.cons rfl (Sub.cons rfl (Sub.nil _)))
  · rintro ρ ρ' σ' hs ⟨rfl, rfl⟩
    refine Nx.next (Exs.sub hs ?_)
    walk_at "w"
    refine ifT (fun hz => ?_) fun hz => ?_
    · walk_at "w"
      simpa using h1 hz
    · walk_at "w"
      simpa using h2 (by omega)
theorem fn_all_rings (W : Wd c) {n K : Nat} (hn : n ≤ 12) (hK2 : 2 ≤ K) (hK : K ≤ 100) (hs : K ^ n ≤ 300) (h : Q (Ls ((allR K n).map tz)) σ) : Cl c true (k + 1) "all_rings" [I n, I K] σ Q X := by
  refine Cl.intro0 W.toGd W.all_rings rfl ?_
  dsimp only [d_all_rings, List.zip_cons_cons, List.zip_nil_right, List.zip_nil_left]
  refine Exs.cons (Ex.assignNew (.inl rfl) (EvN.list ?_))
  walk_at "w"
  refine Ex.for (.inl rfl) ?_ (fun _ _ _ _ _ _ _ => noPass _ fun _ _ _ z => z)
  refine EvI.range1 W.toGd rfl (W.bi _ (by decide)) ?_
  walk_at "w"
  refine ⟨n, rfl, by omega, ?_⟩
  refine ForR.upto (fun i ρ σ' => ∃ (ex : AH) (j : Nat), ρ = ([("machines", I n), ("many", I K), ("rings", .obj (σ.length + j))] : Lo) ∧ σ' = σ ++ ex ∧ ex[j]? = some (.list ((allR K i).map tz))) ?_ ?_
    ⟨_, Sub.cons rfl (Sub.cons rfl (Sub.cons rfl (Sub.nil _))), [.list [tz []]], 0, rfl, rfl, rfl⟩
  · rintro i ρ σ' hi ⟨ex, j, rfl, rfl, hex⟩
    dsimp only [upd]
    refine Exs.cons (Ex.assignNew (.inl rfl) (EvN.list ?_))
    walk_at "w"
    have hj : j < ex.length := (List.getElem?_eq_some_iff.mp hex).1
    have hat : ∀ o, (σ ++ ex ++ [o])[σ.length + j]? = some (AO.list ((allR K i).map tz)) := fun o => by
      rw [List.append_assoc, List.getElem?_append_right (by omega), Nat.add_sub_cancel_left, List.getElem?_append_left hj]; exact hex
    refine Ex.for (.inl rfl) ?_ (fun _ _ _ _ _ _ _ => noPass _ fun _ _ _ z => z)
    refine EvI.val ?_
    walk_at "w"
    refine ⟨_, _, .obj (hat _), hat _, ?_⟩
    refine ForR.ind (fun p ρ σ' => ρ = ([("machines", I n), ("many", I K), ("rings", .obj (σ.length + j)), ("longer", .obj (σ ++ ex).length)] : Lo) ∧ σ' = σ ++ ex ++ [.list ((((allR K i).take p).flatMap (extR K)).map tz)]) ?_ ?_
      ⟨_, Sub.cons rfl (Sub.cons rfl (Sub.cons rfl (Sub.cons rfl (Sub.nil _)))), rfl, rfl⟩
    · rintro p v ρ σ' hv ⟨rfl, rfl⟩
      have hp : p < (allR K i).length := by
        have := (List.getElem?_eq_some_iff.mp hv).1; simpa using this
      have hp' : p < K ^ i := by rw [← allR_len]; exact hp
      have ev : v = T (zs ((allR K i).getD p [])) := by
        have e : v = ((((allR K i).map tz).map AV.dat))[p]'(by simpa using hp) := ((List.getElem?_eq_some_iff.mp hv).2).symm
        rw [e]; simp [tz, hp]
      subst ev
      have hrl : ((allR K i).getD p []).length = i := (allR_each.mp (by rw [List.getD_eq_getElem?_getD, List.getElem?_eq_getElem hp]; exact List.getElem_mem hp)).1
      have htl : ((allR K i).take p).length = p := by simp; omega
      have htf := take_flat (K := K) hp
      generalize (allR K i).getD p [] = r at hrl htf
      dsimp only [upd]
      walk_at "w"
      refine Ex.for (.inl rfl) ?_ (fun _ _ _ _ _ _ _ => noPass _ fun _ _ _ z => z)
      refine EvI.range1 W.toGd rfl (W.bi _ (by decide)) ?_
      walk_at "w"
      refine ⟨K, rfl, by omega, ?_⟩
      refine ForR.upto (fun v ρ σ' => ρ = ([("machines", I n), ("many", I K), ("rings", .obj (σ.length + j)), ("longer", .obj (σ ++ ex).length), ("ring", T (zs r))] : Lo) ∧ σ' = σ ++ ex ++ [.list ((((allR K i).take p).flatMap (extR K) ++ (extR K r).take v).map tz)]) ?_ ?_
        ⟨_, Sub.cons rfl (Sub.cons rfl (Sub.cons rfl (Sub.cons rfl (Sub.cons rfl (Sub.nil _))))), rfl, by simp⟩
      · rintro v ρ σ' hv ⟨rfl, rfl⟩
        have hb := row_bound hK2 hs hi hp' hv
        dsimp only [upd]
        refine Exs.cons (Ex.append rfl ⟨_, last_at _ _⟩ ?_)
        walk_at "w"
        refine Pr.addT (by rw [sizeLine_eq]; simp [hrl]; omega) ?_
        refine ⟨_, _, rfl, last_at _ _, ?_, ?_⟩
        · rw [sizeLine_eq, List.length_map, List.length_append, flat_len, htl]
          have : ((extR K r).take v).length ≤ v := List.length_take_le _ _
          omega
        rw [last_set]
        walk_at "w"
        refine Lp.next ⟨trivial, _, Sub.cons rfl (Sub.cons rfl (Sub.cons rfl (Sub.cons rfl (Sub.cons rfl (Sub.nil _))))), rfl, ?_⟩
        have e : (extR K r).take (v + 1) = (extR K r).take v ++ [r ++ [(v : Int)]] := by
          rw [List.take_add_one]; simp [extR, hv]
        rw [e]; simp [tz, zs]
      · rintro ρ ρ' σ' hs' ⟨rfl, rfl⟩
        refine Nx.next (Exs.sub hs' ?_)
        walk_at "w"
        refine Lp.next ⟨hat _, _, Sub.cons rfl (Sub.cons rfl (Sub.cons rfl (Sub.cons rfl (Sub.nil _)))), rfl, ?_⟩
        rw [htf, show (extR K r).take K = extR K r from List.take_of_length_le (by simp [extR])]
    · rintro ρ ρ' σ' hs' ⟨rfl, rfl⟩
      refine Nx.next (Exs.sub hs' ?_)
      walk_at "w"
      refine Lp.next ⟨trivial, _, ?_, ex ++ [.list ((allR K (i + 1)).map tz)], ex.length, rfl, ?_, by simp⟩
      · rw [← List.length_append]
        exact Sub.cons rfl (Sub.cons rfl (Sub.cons rfl (Sub.nil _)))
      · have e : allR K (i + 1) = (allR K i).flatMap (extR K) := rfl
        rw [e, List.append_assoc]
        have : (((allR K i).map tz).map AV.dat).length = (allR K i).length := by simp
        rw [this, List.take_length]
  · rintro ρ ρ' σ' hs' ⟨ex, j, rfl, rfl, hex⟩
    refine Nx.next (Exs.sub hs' ?_)
    walk_at "w"
    refine Hand.obj (Nat.le_add_right _ _) (xs := (allR K n).map tz) (by rw [List.getElem?_append_right (by omega), Nat.add_sub_cancel_left]; exact hex) ?_
    rw [List.take_left]
    exact h
theorem fn_lall (W : Wd c) {n K : Nat} (hn : n ≤ 12) (hK2 : 2 ≤ K) (hK : K ≤ 100) (hs : K ^ n ≤ 300) (h : Q (Ls ((allR K n).map tz)) σ) : Cl c true (k + 1) "_law_all" [I n, I K] σ Q X := by
  refine Cl.intro0 W.toGd W.law_all rfl ?_
  dsimp only [d_law_all, List.zip_cons_cons, List.zip_nil_right, List.zip_nil_left]
  walk_at "w"
  refine Ex.for (.inl rfl) ?_ (fun _ _ _ _ _ _ _ => noPass _ fun _ _ _ z => z)
  refine EvI.range1 W.toGd rfl (W.bi _ (by decide)) ?_
  walk_at "w"
  refine ⟨n, rfl, by omega, ?_⟩
  refine ForR.upto (fun i ρ σ' => ρ = ([("_law_machines", I n), ("_law_many", I K), ("_law_rings", Ls ((allR K i).map tz))] : Lo) ∧ σ' = σ) ?_ ?_
    ⟨_, Sub.cons rfl (Sub.cons rfl (Sub.cons rfl (Sub.nil _))), rfl, rfl⟩
  · rintro i ρ σ' hi ⟨rfl, rfl⟩
    dsimp only [upd]
    walk_at "w"
    refine Ex.for (.inr rfl) ?_ (fun _ _ _ _ _ _ _ => noPass _ fun _ _ _ z => z)
    refine EvI.val ?_
    walk_at "w"
    refine ⟨_, _, .list _, trivial, ?_⟩
    refine ForR.ind (fun p ρ σ'' => ρ = ([("_law_machines", I n), ("_law_many", I K), ("_law_rings", Ls ((allR K i).map tz)), ("_law_longer", Ls ((((allR K i).take p).flatMap (extR K)).map tz))] : Lo) ∧ σ'' = σ') ?_ ?_
      ⟨_, Sub.cons rfl (Sub.cons rfl (Sub.cons rfl (Sub.cons rfl (Sub.nil _)))), rfl, rfl⟩
    · rintro p v ρ σ'' hv ⟨rfl, rfl⟩
      have hp : p < (allR K i).length := by
        have := (List.getElem?_eq_some_iff.mp hv).1; simpa using this
      have hp' : p < K ^ i := by rw [← allR_len]; exact hp
      have ev : v = T (zs ((allR K i).getD p [])) := by
        have e : v = ((((allR K i).map tz).map AV.dat))[p]'(by simpa using hp) := ((List.getElem?_eq_some_iff.mp hv).2).symm
        rw [e]; simp [tz, hp]
      subst ev
      have hrl : ((allR K i).getD p []).length = i := (allR_each.mp (by rw [List.getD_eq_getElem?_getD, List.getElem?_eq_getElem hp]; exact List.getElem_mem hp)).1
      have htl : ((allR K i).take p).length = p := by simp; omega
      have htf := take_flat (K := K) hp
      have hb := row_bound (v := K - 1) hK2 hs hi hp' (by omega)
      generalize (allR K i).getD p [] = r at hrl htf
      dsimp only [upd]
      walk_at "w"
      refine EvI.range1 W.toGd rfl (W.bi _ (by decide)) ?_
      walk_at "w"
      refine ⟨K, rfl, by omega, CompR.upto (fun (v : Nat) => tz (r ++ [(v : Int)])) (fun v hv => ?_) (by rw [sizeLine_eq]; omega) trivial ?_⟩
      · walk_at "w"
        refine Pr.addT (by rw [sizeLine_eq]; simp [hrl]; omega) ?_
        refine ⟨?_, rfl⟩
        simp [tz, zs]
      refine Pr.addL (by rw [sizeLine_eq, List.length_map, flat_len, htl]; simp; omega) ?_
      walk_at "w"
      refine Lp.next ⟨trivial, _, ?_, rfl, rfl⟩
      rw [htf]
      have e : (((allR K i).take p).flatMap (extR K) ++ extR K r).map tz = (((allR K i).take p).flatMap (extR K)).map tz ++ (List.range K).map fun (v : Nat) => tz (r ++ [(v : Int)]) := by simp [extR, Function.comp_def]
      rw [e]
      exact Sub.cons rfl (Sub.cons rfl (Sub.cons rfl (Sub.cons rfl (Sub.nil _))))
    · rintro ρ ρ' σ'' hs' ⟨rfl, rfl⟩
      refine Nx.next (Exs.sub hs' ?_)
      walk_at "w"
      refine Lp.next ⟨trivial, _, ?_, rfl, rfl⟩
      have e : allR K (i + 1) = (allR K i).flatMap (extR K) := rfl
      have : (((allR K i).map tz).map AV.dat).length = (allR K i).length := by simp
      rw [e, this, List.take_length]
      exact Sub.cons rfl (Sub.cons rfl (Sub.cons rfl (Sub.nil _)))
  · rintro ρ ρ' σ' hs' ⟨rfl, rfl⟩
    refine Nx.next (Exs.sub hs' ?_)
    walk_at "w"
    simpa using h
end

/-! tables, plainly -/
theorem look_mem {m : Mp} {k : List Int} : (look m k).isSome = true ↔ k ∈ m.map (·.1) := by
  induction m with
  | nil => simp [look]
  | cons q m ih =>
    by_cases e : q.1 = k
    · simp [look, e]
    · have e1 : look (q :: m) k = look m k := by simp [look, e]
      rw [e1, ih]
      simp [Ne.symm e]
theorem look_app {m m' : Mp} {k : List Int} : look (m ++ m') k = (look m k).or (look m' k) := by
  induction m with
  | nil => simp [look]
  | cons q m ih =>
    by_cases e : q.1 = k
    · simp [look, e]
    · have e1 : ∀ l, look (q :: l) k = look l k := fun l => by simp [look, e]
      rw [List.cons_append, e1, e1, ih]
theorem look_put (m : Mp) (k k' : List Int) (v : PyData) : look (put m k v) k' = if k' = k then some v else look m k' := by
  unfold put
  split
  · rename_i h
    rw [look_mem] at h
    induction m with
    | nil => simp at h
    | cons q m ih =>
      by_cases e : q.1 = k
      · by_cases e' : k' = k
        · simp [look, e, e']
        · have e1 : ∀ l : Mp, look ((q.1, v) :: l) k' = look l k' := fun l => by simp [look, e, Ne.symm e']
          have e2 : ∀ l : Mp, look (q :: l) k' = look l k' := fun l => by simp [look, e, Ne.symm e']
          rw [List.map_cons, if_pos e, e1, e2, if_neg e']
          by_cases hm : k ∈ m.map (·.1)
          · rw [ih hm, if_neg e']
          · have : m.map (fun p => if p.1 = k then (p.1, v) else p) = m := by
              refine (List.map_congr_left fun p hp => ?_).trans (List.map_id _)
              rw [if_neg fun z => hm (List.mem_map.mpr ⟨p, hp, z⟩)]; rfl
            rw [this]
      · have hm : k ∈ m.map (·.1) := by simpa [Ne.symm e] using h
        rw [List.map_cons, if_neg e]
        by_cases e' : q.1 = k'
        · have : ¬ k' = k := fun z => e (e'.trans z)
          simp [look, e', this]
        · have e2 : ∀ l : Mp, look (q :: l) k' = look l k' := fun l => by simp [look, e']
          rw [e2, e2, ih hm]
  · rename_i h
    rw [look_app]
    have hn : look m k = none := by cases e : look m k with | none => rfl | some d => rw [e] at h; simp at h
    by_cases e : k' = k
    · rw [e, hn, if_pos rfl]; simp [look]
    · rw [if_neg e]
      have : look [(k, v)] k' = none := by simp [look, Ne.symm e]
      rw [this, Option.or_none]
theorem put_keys (m : Mp) (k : List Int) (v : PyData) : (put m k v).map (·.1) = if k ∈ m.map (·.1) then m.map (·.1) else m.map (·.1) ++ [k] := by
  unfold put
  by_cases h : (look m k).isSome = true
  · rw [if_pos h, if_pos (look_mem.mp h), List.map_map]
    refine List.map_congr_left fun p _ => ?_
    show (if p.1 = k then (p.1, v) else p).1 = p.1
    split <;> rfl
  · rw [if_neg h, if_neg (fun z => h (look_mem.mpr z))]; simp
theorem put_nodup {m : Mp} {k : List Int} {v : PyData} (h : (m.map (·.1)).Nodup) : ((put m k v).map (·.1)).Nodup := by
  rw [put_keys]
  split
  · exact h
  · rename_i hn
    rw [List.nodup_append]
    exact ⟨h, by simp, fun a ha b hb e => hn (by rw [List.mem_singleton.mp hb] at e; exact e ▸ ha)⟩

/-- what is known of the rings' heights -/
structure Kn (n K : Nat) (m : Mp) : Prop where
  nd : (m.map (·.1)).Nodup
  ok : ∀ k d, look m k = some d → k ∈ allR K n ∧ d = .int (ht n K k)
noncomputable def Ext (m m' : Mp) : Prop := ∀ k, (look m k).isSome = true → (look m' k).isSome = true
theorem mv_all {n K : Nat} {r : List Int} {m : Nat} (h2 : 2 ≤ n) (h12 : n ≤ 12) (hK : 2 ≤ K) (hK' : K ≤ 100) (hr : r ∈ allR K n) (hm : m < n) : mv r K m ∈ allR K n :=
  (rg_all h2 h12 hK hK').mpr (((rg_all h2 h12 hK hK').mp hr).mv hm)
section
variable {c : Cx} {k : Nat} {σ : AH} {Q : AV → AH → Prop} {X : Addr → AH → Prop}
end

/-! lists in the middle -/
theorem mid_at (σ : AH) (o : AO) (ex : AH) : (σ ++ o :: ex)[σ.length]? = some o := by simp
theorem mid_set (σ : AH) (o o' : AO) (ex : AH) : (σ ++ o :: ex).set σ.length o' = σ ++ o' :: ex := by simp
theorem mid_take (σ : AH) (ex : AH) : (σ ++ ex).take σ.length = σ := by simp
theorem take_snoc {l : List (List Int)} {p : Nat} (hp : p < l.length) : l.take (p + 1) = l.take p ++ [l.getD p []] := by
  rw [List.take_add_one, List.getElem?_eq_getElem hp, List.getD_eq_getElem?_getD, List.getElem?_eq_getElem hp]; rfl
theorem getD_mem_l {l : List (List Int)} {p : Nat} (hp : p < l.length) : l.getD p [] ∈ l := by
  rw [List.getD_eq_getElem?_getD, List.getElem?_eq_getElem hp]; exact List.getElem_mem hp
theorem item_tz {l : List (List Int)} {p : Nat} {v : AV} (hv : ((l.map tz).map AV.dat)[p]? = some v) : p < l.length ∧ v = T (zs (l.getD p [])) := by
  have hp : p < l.length := by have := (List.getElem?_eq_some_iff.mp hv).1; simpa using this
  refine ⟨hp, ?_⟩
  have e : v = ((l.map tz).map AV.dat)[p]'(by simpa using hp) := ((List.getElem?_eq_some_iff.mp hv).2).symm
  rw [e]; simp [tz, hp]

theorem able_mem {xs : List Int} {m : Int} (h : m ∈ ableL xs) : ∃ j : Nat, m = j ∧ j < xs.length ∧ may xs j = true := by
  rw [ableL_eq] at h
  obtain ⟨j, hj, rfl⟩ := List.mem_map.mp h
  exact ⟨j, rfl, mem_able.mp hj⟩
theorem able_yes {xs : List Int} {j : Nat} (hj : j < xs.length) (hm : may xs j = true) : decide ((j : Int) ∈ ableL xs) = true := by
  rw [decide_eq_true_iff, ableL_eq]
  exact List.mem_map.mpr ⟨j, mem_able.mpr ⟨hj, hm⟩, rfl⟩
/-! the law's own reckoning of the heights -/
noncomputable def sc (K : Nat) (r : List Int) : PyData := .list ((ableN r).map fun j => tz (mv r K j))
noncomputable def Lm (K : Nat) (ll : List (List Int)) : Mp := ll.map fun r => (r, sc K r)
noncomputable def unT : AV → List Int
  | .dat (.tuple ds) => ds.map fun d => match d with | .int a => a | _ => 0
  | _ => []
theorem unT_zs (r : List Int) : unT (T (zs r)) = r := by simp [unT, zs, Function.comp_def]
theorem Lm_keys (K : Nat) (ll : List (List Int)) : (Lm K ll).map (·.1) = ll := by simp [Lm, Function.comp_def]
theorem look_Lm {K : Nat} {ll : List (List Int)} {r : List Int} (h : r ∈ ll) : look (Lm K ll) r = some (sc K r) := by
  induction ll with
  | nil => cases h
  | cons x ll ih =>
    by_cases e : x = r
    · simp [Lm, look, e]
    · have e1 : look (Lm K (x :: ll)) r = look (Lm K ll) r := by simp [Lm, look, e]
      rw [e1]; exact ih ((List.mem_cons.mp h).resolve_left fun z => e z.symm)
theorem cut_Lm (K : Nat) (ll : List (List Int)) (r : List Int) : cutK (Lm K ll) r = Lm K (ll.filter fun x => decide (x ≠ r)) := by simp [cutK, Lm, List.filter_map, Function.comp_def]
theorem put_new {m : Mp} {k : List Int} {v : PyData} (h : k ∉ m.map (·.1)) : put m k v = m ++ [(k, v)] := by
  unfold put; rw [if_neg (fun z => h (look_mem.mp z))]
noncomputable def Vl (K : Nat) (F : Mp) (r : List Int) (v : Nat) : Prop :=
  ((ableN r).length = 1 ∧ v = 0) ∨ (1 < (ableN r).length ∧ (∀ j ∈ ableN r, ∃ u : Nat, look F (mv r K j) = some (.int u) ∧ u < v) ∧ ∃ j ∈ ableN r, look F (mv r K j) = some (.int ((v - 1 : Nat) : Int)))
theorem Vl.mono {K : Nat} {F F' : Mp} {r : List Int} {v : Nat} (h : Vl K F r v) (ag : ∀ k d, look F k = some d → look F' k = some d) : Vl K F' r v := by
  rcases h with h | ⟨h1, h2, j, hj, e⟩
  · exact .inl h
  · exact .inr ⟨h1, fun j hj => let ⟨u, e, hu⟩ := h2 j hj; ⟨u, ag _ _ e, hu⟩, j, hj, ag _ _ e⟩
structure FI (n K : Nat) (ll : List (List Int)) (F : Mp) : Prop where
  nd : (F.map (·.1)).Nodup
  ln : ll.Nodup
  ab : ∀ r ∈ ll, r ∈ allR K n ∧ 1 < (ableN r).length
  sub : ∀ k d, look F k = some d → k ∈ allR K n ∧ ∃ v : Nat, d = .int v ∧ Vl K F k v
  part : ∀ r ∈ allR K n, look F r = none → r ∈ ll
  dis : ∀ r ∈ ll, look F r = none
theorem FI.lenF {n K : Nat} {ll : List (List Int)} {F : Mp} (h : FI n K ll F) (hs : K ^ n ≤ 300) : F.length ≤ 300 := by
  have := few_in (F.map (·.1)) (allR K n) h.nd fun k hk => by
    obtain ⟨d, hd⟩ := Option.isSome_iff_exists.mp (look_mem.mpr hk)
    exact (h.sub k d hd).1
  rw [allR_len, List.length_map] at this; omega
theorem FI.lenL {n K : Nat} {ll : List (List Int)} {F : Mp} (h : FI n K ll F) (hs : K ^ n ≤ 300) : ll.length ≤ 300 := by
  have := few_in ll (allR K n) h.ln fun k hk => (h.ab k hk).1
  rw [allR_len] at this; omega
/-- one more height -/
theorem FI.add {n K : Nat} {ll : List (List Int)} {F : Mp} {r : List Int} {v : Nat} (h : FI n K ll F) (hr : r ∈ ll) (hv : Vl K F r v) : FI n K (ll.filter fun x => decide (x ≠ r)) (put F r (.int v)) := by
  have hno := h.dis r hr
  have ag : ∀ k d, look F k = some d → look (put F r (.int v)) k = some d := fun k d e => by
    rw [look_put, if_neg fun z => by rw [z, hno] at e; cases e]; exact e
  refine ⟨put_nodup h.nd, h.ln.sublist List.filter_sublist, fun x hx => h.ab x (List.mem_filter.mp hx).1, fun k d e => ?_, fun x hx e => ?_, fun x hx => ?_⟩
  · rw [look_put] at e
    split at e
    · rename_i ek; subst ek; cases e; exact ⟨(h.ab k hr).1, v, rfl, hv.mono ag⟩
    · obtain ⟨h1, u, h2, h3⟩ := h.sub k d e
      exact ⟨h1, u, h2, h3.mono ag⟩
  · rw [look_put] at e
    split at e
    · cases e
    · rename_i ek; exact List.mem_filter.mpr ⟨h.part x hx e, decide_eq_true ek⟩
  · obtain ⟨h1, h2⟩ := List.mem_filter.mp hx
    rw [look_put, if_neg (of_decide_eq_true h2)]; exact h.dis x h1
/-- the heights, as far as there are any -/
structure Hts (n K : Nat) (F : Mp) : Prop where
  nd : (F.map (·.1)).Nodup
  sub : ∀ k d, look F k = some d → k ∈ allR K n ∧ ∃ v : Nat, d = .int v ∧ Vl K F k v
  rest : ∀ r ∈ allR K n, look F r = none → 1 < (ableN r).length ∧ ∃ j ∈ ableN r, look F (mv r K j) = none
noncomputable def lefts (K : Nat) (l : List (List Int)) : Mp := Lm K (l.filter fun r => decide ((ableN r).length ≠ 1))
noncomputable def heals (l : List (List Int)) : Mp := (l.filter fun r => decide ((ableN r).length = 1)).map fun r => (r, .int 0)
theorem heals_keys (l : List (List Int)) : (heals l).map (·.1) = l.filter fun r => decide ((ableN r).length = 1) := by simp [heals, Function.comp_def]
theorem look_heals (l : List (List Int)) (k : List Int) (d : PyData) (h : look (heals l) k = some d) : k ∈ l ∧ (ableN k).length = 1 ∧ d = .int 0 := by
  induction l with
  | nil => simp [heals, look] at h
  | cons x l ih =>
    unfold heals at h ih
    rw [List.filter_cons] at h
    split at h
    · rename_i hx
      by_cases e : x = k
      · rw [List.map_cons] at h
        simp [look, e] at h
        rw [← e]; exact ⟨List.mem_cons_self, of_decide_eq_true hx, h.symm⟩
      · have e1 : ∀ l' : Mp, look ((x, PyData.int 0) :: l') k = look l' k := fun l' => by simp [look, e]
        rw [List.map_cons, e1] at h
        obtain ⟨h1, h2⟩ := ih h
        exact ⟨List.mem_cons_of_mem _ h1, h2⟩
    · obtain ⟨h1, h2⟩ := ih h
      exact ⟨List.mem_cons_of_mem _ h1, h2⟩
theorem FI.start {n K : Nat} (h2 : 2 ≤ n) : FI n K ((allR K n).filter fun r => decide ((ableN r).length ≠ 1)) (heals (allR K n)) := by
  refine ⟨by rw [heals_keys]; exact (allR_nodup K n).sublist List.filter_sublist, (allR_nodup K n).sublist List.filter_sublist, fun r hr => ?_, fun k d e => ?_, fun r hr e => ?_, fun r hr => ?_⟩
  · obtain ⟨h1, h3⟩ := List.mem_filter.mp hr
    have := able_some (xs := r) (by rw [(allR_each.mp h1).1]; exact h2)
    exact ⟨h1, by have := of_decide_eq_true h3; omega⟩
  · obtain ⟨h1, h3, h4⟩ := look_heals _ _ _ e
    exact ⟨h1, 0, h4, .inl ⟨h3, rfl⟩⟩
  · refine List.mem_filter.mpr ⟨hr, decide_eq_true fun z => ?_⟩
    have : (look (heals (allR K n)) r).isSome = true := look_mem.mpr (by rw [heals_keys]; exact List.mem_filter.mpr ⟨hr, decide_eq_true z⟩)
    rw [e] at this; cases this
  · cases e : look (heals (allR K n)) r with
    | none => rfl
    | some d => have := (look_heals _ _ _ e).2.1; have := of_decide_eq_true (List.mem_filter.mp hr).2; omega
theorem mid_at1 (σ : AH) (a b : AO) (ex : AH) : (σ ++ a :: b :: ex)[σ.length + 1]? = some b := by simp
theorem mid_set1 (σ : AH) (a b b' : AO) (ex : AH) : (σ ++ a :: b :: ex).set (σ.length + 1) b' = σ ++ a :: b' :: ex := by
  rw [List.set_append_right _ _ (by omega), Nat.add_sub_cancel_left]; rfl
theorem tzs_lay (l : List (List Int)) : PyData.canLayAll0 (l.map tz) = true ∧ PyData.depthAll (l.map tz) ≤ 3 := by
  induction l with
  | nil => exact ⟨rfl, by simp [PyData.depthAll]⟩
  | cons x l ih =>
    have h1 := zs_layT x
    have h2 : (tz x).depth ≤ 2 := depthT x
    refine ⟨?_, ?_⟩
    · rw [List.map_cons]; simp only [PyData.canLayAll0]; rw [h1, ih.1]; rfl
    · rw [List.map_cons]; simp only [PyData.depthAll]; have := ih.2; omega
theorem eqv_nil (l : List (List Int)) : PyData.eqvAll (l.map tz) [] = decide (l = []) := by cases l <;> simp [PyData.eqvAll]
noncomputable def okD (K : Nat) (F : Mp) (r : List Int) : Bool := (ableN r).all fun j => (look F (mv r K j)).isSome
noncomputable def valD (F : Mp) (x : List Int) : Int := match look F x with | some (.int a) => a | _ => 0
theorem filter_take {ll D : List (List Int)} {p : Nat} (hp : p < D.length) : (ll.filter fun x => decide (x ∉ D.take p)).filter (fun x => decide (x ≠ D.getD p [])) = ll.filter fun x => decide (x ∉ D.take (p + 1)) := by
  rw [List.filter_filter, take_snoc hp]
  refine List.filter_congr fun x _ => ?_
  by_cases e1 : x ∈ D.take p <;> by_cases e2 : x = D.getD p [] <;> simp [e1, e2]
theorem nodup_take {D : List (List Int)} {p : Nat} (hn : D.Nodup) (hp : p < D.length) : D.getD p [] ∉ D.take p := fun z => by
  obtain ⟨i, hi, e⟩ := List.getElem_of_mem z
  rw [List.length_take] at hi
  rw [List.getElem_take, List.getD_eq_getElem?_getD, List.getElem?_eq_getElem hp] at e
  have := (List.getElem_inj (h₀ := by omega) (h₁ := hp) hn).mp e
  omega
section
variable {c : Cx} {k : Nat} {σ : AH} {Q : AV → AH → Prop} {X : Addr → AH → Prop}
theorem fn_heights (W : Wd c) {n K : Nat} {Qd : Mp → Nat → AH → Prop} (h2 : 2 ≤ n) (h12 : n ≤ 12) (hK2 : 2 ≤ K) (hK : K ≤ 100) (hs : K ^ n ≤ 300) (h : ∀ F e, Hts n K F → Qd F e σ) : ClD c true (k + 3) "_law_heights" [I n, I K] σ Qd X := by
  refine ClD.intro W.toGd W.law_heights rfl ?_
  dsimp only [d_law_heights, List.zip_cons_cons, List.zip_nil_right, List.zip_nil_left]
  refine Exs.cons (Ex.assignDict W.toGd (.inr rfl) fun e0 => ?_)
  walk_at "v"
  refine Exs.cons (Ex.assignDict W.toGd (.inr rfl) fun e1 => ?_)
  walk_at "w"
  refine Ex.for (.inr rfl) ?_ (fun _ _ _ _ _ _ _ => passes (by assumption) fun _ _ _ z => z)
  refine EvI.val ?_
  walk_at "w"
  refine fn_lall W h12 hK2 hK hs ?_
  refine ⟨_, _, .list _, trivial, ?_⟩
  refine ForR.ind (fun p ρ σ' => ∃ e0 e1, σ' = σ ++ Dc (lefts K ((allR K n).take p)) e0 :: [Dc (heals ((allR K n).take p)) e1] ∧ ρ = ([("_law_machines", I n), ("_law_many", I K), ("_law_left", .obj σ.length), ("_law_found", .obj (σ.length + 1))] : Lo)) ?_ ?_
    ⟨_, Sub.cons rfl (Sub.cons rfl (Sub.cons rfl (Sub.cons (by simp only [List.length_append, List.length_singleton]; rfl) (Sub.nil _)))), e0, e1, by simp [lefts, heals, Lm], rfl⟩
  · rintro p v ρ σ' hv ⟨e0, e1, rfl, rfl⟩
    obtain ⟨hp, rfl⟩ := item_tz hv
    have hr := getD_mem_l hp
    have etk := take_snoc hp
    have hnd := allR_nodup K n
    have hnew : (allR K n).getD p [] ∉ (allR K n).take p := fun z => by
      obtain ⟨i, hi, e⟩ := List.getElem_of_mem z
      rw [List.length_take] at hi
      rw [List.getElem_take, List.getD_eq_getElem?_getD, List.getElem?_eq_getElem hp] at e
      have := (List.getElem_inj (h₀ := by omega) (h₁ := hp) hnd).mp e
      omega
    have hlen : ((allR K n).take p).length ≤ 300 := by rw [List.length_take, allR_len]; omega
    generalize (allR K n).getD p [] = r at hr etk hnew
    have R := (rg_all h2 h12 hK2 hK).mp hr
    have hl := R.len
    have hal : (ableL r).length ≤ 12 := by rw [ableL_len]; unfold ableN; have := List.length_filter_le (may r) (List.range r.length); simp at this; omega
    dsimp only [upd]
    walk_at "w"
    refine fn_lable W R.l2 R.l1000 ?_
    walk_at "w"
    refine Pr.lenL (by simp; omega) ?_
    walk_at "w"
    refine ifT (fun hz => ?_) fun hz => ?_
    · rw [List.length_map, ableL_len] at hz
      refine Exs.cons (Ex.storeD rfl ?_)
      walk_at "w"
      refine ⟨_, rfl, ?_⟩
      walk_at "w"
      refine ⟨r, _, _, rfl, mid_at1 _ _ _ _, ?_, fun n' => ?_⟩
      · rw [sizeLine_eq]; have := List.length_filter_le (fun r => decide ((ableN r).length = 1)) ((allR K n).take p); simp [heals]; omega
      rw [mid_set1]
      walk_at "w"
      refine Lp.next ⟨trivial, _, Sub.cons rfl (Sub.cons rfl (Sub.cons rfl (Sub.cons rfl (Sub.nil _)))), e0, n', ?_, rfl⟩
      rw [put_new (by rw [heals_keys]; exact fun z => hnew (List.mem_filter.mp z).1), etk]
      have hz' : (ableN r).length = 1 := by omega
      simp [lefts, heals, Lm, List.filter_append, hz']
    · rw [List.length_map, ableL_len] at hz
      refine Exs.cons (Ex.storeD rfl ?_)
      walk_at "w"
      refine EvI.val ?_
      walk_at "w"
      refine ⟨_, _, .list _, trivial, ?_⟩
      refine CompR.map (fun v => match v with | .dat (.int a) => tz (mv r K a.toNat) | _ => .none) (fun v hv => ?_) (by rw [sizeLine_eq]; simp; omega) trivial ?_
      · obtain ⟨_, hd, rfl⟩ := List.mem_map.mp hv
        obtain ⟨a, ha, rfl⟩ := List.mem_map.mp hd
        obtain ⟨j, rfl, hj, hjm⟩ := able_mem ha
        dsimp only [upd]
        walk_at "w"
        refine fn_lstep W R.l2 R.l1000 (by omega) hj ?_
        exact ⟨rfl, rfl⟩
      have e : ([] : List PyData) ++ ((zs (ableL r)).map AV.dat).map (fun v => match v with | .dat (.int a) => tz (mv r K a.toNat) | _ => .none) = (ableN r).map fun j => tz (mv r K j) := by
        rw [ableL_eq]; simp [zs, Function.comp_def]
      rw [e]
      refine ⟨_, rfl, ?_⟩
      walk_at "w"
      refine ⟨r, _, _, rfl, mid_at _ _ _, ?_, fun n' => ?_⟩
      · have := List.length_filter_le (fun r => decide ((ableN r).length ≠ 1)) ((allR K n).take p)
        rw [sizeLine_eq]; unfold lefts Lm; rw [List.length_map]; omega
      rw [mid_set]
      walk_at "w"
      refine Lp.next ⟨trivial, _, Sub.cons rfl (Sub.cons rfl (Sub.cons rfl (Sub.cons rfl (Sub.nil _)))), n', e1, ?_, rfl⟩
      rw [put_new (by unfold lefts; rw [Lm_keys]; exact fun z => hnew (List.mem_filter.mp z).1), etk]
      have hz' : ¬ (ableN r).length = 1 := by omega
      simp [lefts, heals, Lm, List.filter_append, hz', sc]
  · rintro ρ ρ' σ' hs' ⟨e0, e1, rfl, rfl⟩
    have hlen : (((allR K n).map tz).map AV.dat).length = (allR K n).length := by simp
    rw [hlen, List.take_length]
    refine Nx.next (Exs.sub hs' ?_)
    have FI0 := FI.start (n := n) (K := K) h2
    unfold lefts
    generalize ((allR K n).filter fun r => decide ((ableN r).length ≠ 1)) = ll at FI0
    generalize heals (allR K n) = F at FI0
    clear hs' ρ'
    refine Exs.cons (Ex.while _ (WhR.ind (fun f ρ σ' => ∃ (ll : List (List Int)) (F : Mp) (e0 e1 : Nat) (ex : AH), ll.length = f ∧ FI n K ll F ∧ σ' = σ ++ Dc (Lm K ll) e0 :: Dc F e1 :: ex ∧ ρ = ([("_law_machines", I n), ("_law_many", I K), ("_law_left", .obj σ.length), ("_law_found", .obj (σ.length + 1))] : Lo)) ?_ ll.length
      ⟨_, Sub.refl _, ll, F, e0, e1, [], rfl, FI0, rfl, rfl⟩) (fun _ _ _ _ _ H => passes H fun _ _ _ z => z))
    clear FI0 ll F e0 e1
    rintro f ρ σ' ⟨ll, F, e0, e1, ex, rfl, FI0, rfl, rfl⟩
    have hll := FI0.lenL hs
    have hFl := FI0.lenF hs
    have hLl : (Lm K ll).length = ll.length := by simp [Lm]
    refine Tb.valD ?_
    walk_at "w"
    refine ⟨_, Lm K ll, e0, rfl, mid_at _ _ _, by omega, ?_⟩
    refine ifT (fun hne => ?_) fun he => ?_
    · refine Exs.cons (Ex.assignComp rfl rfl ?_)
      refine EvI.keys ?_
      walk_at "w"
      refine ⟨_, Lm K ll, e0, rfl, mid_at _ _ _, ?_⟩
      refine CompR.filter (fun v => okD K F (unT v)) (fun v => tz (unT v)) (fun v hv => ?_) (fun v hv hp => ?_) (by rw [sizeLine_eq]; simp [Lm]; omega) (mid_at _ _ _) ?_
      · obtain ⟨q, hq, rfl⟩ := List.mem_map.mp hv
        obtain ⟨r, hr, rfl⟩ := List.mem_map.mp hq
        have R := (rg_all h2 h12 hK2 hK).mp (FI0.ab r hr).1
        have hl := R.len
        have hal : (ableN r).length ≤ 12 := by unfold ableN; have := List.length_filter_le (may r) (List.range r.length); simp at this; omega
        rw [unT_zs]
        dsimp only [upd]
        walk_at "w"
        refine EvI.val ?_
        walk_at "w"
        refine Pr.itemD (mid_at _ _ _) (look_Lm hr) ?_
        refine ⟨_, _, .list _, trivial, ?_⟩
        refine CompR.filter (fun v => !(look F (unT v)).isSome) (fun _ => .int 1) (fun v hv => ?_) (fun v hv hp => ?_) (by rw [sizeLine_eq]; simp; omega) trivial ?_
        · obtain ⟨_, hd, rfl⟩ := List.mem_map.mp hv
          obtain ⟨j, hj, rfl⟩ := List.mem_map.mp hd
          try dsimp only [upd]
          walk_at "w"
          refine Pr.notInD (mid_at1 _ _ _ _) ?_
          walk_at "w"
          exact ⟨by rw [unT_zs], rfl⟩
        · walk_at "w"
          exact ⟨rfl, rfl⟩
        have e : ([] : List PyData) ++ (((((ableN r).map fun j => tz (mv r K j)).map AV.dat).filter fun v => !(look F (unT v)).isSome).map fun _ => PyData.int 1) = zs (((ableN r).filter fun j => !(look F (mv r K j)).isSome).map fun _ => 1) := by
          simp [zs, List.filter_map, Function.comp_def, unT]
        rw [e]
        walk_at "w"
        refine Pr.eqL (ys := []) ?_
        walk_at "w"
        refine ⟨?_, rfl⟩
        unfold okD
        cases hk : (ableN r).all fun j => (look F (mv r K j)).isSome with
        | true =>
          rw [decide_eq_true]
          rw [List.map_eq_nil_iff, List.filter_eq_nil_iff]
          intro j hj
          have := List.all_eq_true.mp hk j hj
          simp [this]
        | false =>
          rw [decide_eq_false]
          rw [List.map_eq_nil_iff, List.filter_eq_nil_iff]
          intro z
          obtain ⟨j, hj, hf⟩ := List.all_eq_false.mp hk
          have := z j hj
          simp at this hf
          rw [hf] at this; exact this rfl
      · obtain ⟨q, hq, rfl⟩ := List.mem_map.mp hv
        obtain ⟨r, hr, rfl⟩ := List.mem_map.mp hq
        rw [unT_zs]
        dsimp only [upd]
        walk_at "w"
        exact ⟨rfl, rfl⟩
      have eD : ([] : List PyData) ++ ((((Lm K ll).map fun p => T (zs p.1)).filter fun v => okD K F (unT v)).map fun v => tz (unT v)) = (ll.filter (okD K F)).map tz := by
        simp [Lm, List.filter_map, Function.comp_def, unT_zs]
      rw [eD]
      have hDl : (ll.filter (okD K F)).length ≤ 300 := Nat.le_trans (List.length_filter_le _ _) hll
      have hDn : (ll.filter (okD K F)).Nodup := FI0.ln.sublist List.filter_sublist
      have hDm : ∀ r ∈ ll.filter (okD K F), r ∈ ll ∧ okD K F r = true := fun r hr => List.mem_filter.mp hr
      have hDr : ∀ r ∈ ll, r ∉ ll.filter (okD K F) → okD K F r = false := fun r hr hn => by
        cases e : okD K F r with
        | false => rfl
        | true => exact absurd (List.mem_filter.mpr ⟨hr, e⟩) hn
      generalize ll.filter (okD K F) = D at hDl hDn hDm hDr
      rw [List.append_assoc, List.cons_append, List.cons_append]
      have hdn : ∀ a b : AO, (σ ++ a :: b :: (ex ++ [.list (D.map tz)]))[(σ ++ Dc (Lm K ll) e0 :: Dc F e1 :: ex).length]? = some (.list (D.map tz)) := fun a b => by
        rw [show (σ ++ Dc (Lm K ll) e0 :: Dc F e1 :: ex).length = (σ ++ a :: b :: ex).length from by simp, ← List.cons_append, ← List.cons_append, ← List.append_assoc]
        exact last_at _ _
      generalize (σ ++ Dc (Lm K ll) e0 :: Dc F e1 :: ex).length = dn at hdn
      walk_at "w"
      refine Ex.for (.inr rfl) ?_ (fun _ _ _ _ _ _ H => passes H fun _ _ _ z => z)
      refine EvI.val ?_
      walk_at "w"
      refine ⟨_, _, .obj (hdn _ _), hdn _ _, ?_⟩
      refine ForR.ind (fun p ρ σ' => ∃ (F' : Mp) (e1' : Nat), FI n K (ll.filter fun x => decide (x ∉ D.take p)) F' ∧ (∀ k d, look F k = some d → look F' k = some d) ∧ σ' = σ ++ Dc (Lm K ll) e0 :: Dc F' e1' :: (ex ++ [.list (D.map tz)]) ∧
          ρ = ([("_law_machines", I n), ("_law_many", I K), ("_law_left", .obj σ.length), ("_law_found", .obj (σ.length + 1)), ("_law_done", .obj dn)] : Lo)) ?_ ?_
        ⟨_, Sub.cons rfl (Sub.cons rfl (Sub.cons rfl (Sub.cons rfl (Sub.cons rfl (Sub.nil _))))), F, e1, ?_, fun _ _ e => e, rfl, rfl⟩
      · rintro p v ρ σ' hv ⟨F', e1', FI1, ag, rfl, rfl⟩
        obtain ⟨hp, rfl⟩ := item_tz hv
        have hr := getD_mem_l hp
        obtain ⟨hrl, hok⟩ := hDm _ hr
        have hnt := nodup_take hDn hp
        have eft := filter_take (ll := ll) hp
        generalize D.getD p [] = r at hr hrl hok hnt eft
        have hrf : r ∈ ll.filter fun x => decide (x ∉ D.take p) := List.mem_filter.mpr ⟨hrl, decide_eq_true hnt⟩
        obtain ⟨hra, hru⟩ := FI0.ab r hrl
        have R := (rg_all h2 h12 hK2 hK).mp hra
        have hl := R.len
        have hal : (ableN r).length ≤ 12 := by unfold ableN; have := List.length_filter_le (may r) (List.range r.length); simp at this; omega
        have hlk : ∀ j ∈ ableN r, ∃ u : Nat, look F' (mv r K j) = some (.int u) := fun j hj => by
          obtain ⟨d, hd⟩ := Option.isSome_iff_exists.mp (List.all_eq_true.mp hok j hj)
          obtain ⟨_, u, rfl, _⟩ := FI0.sub _ d hd
          exact ⟨u, ag _ _ hd⟩
        have hF'l := FI1.lenF hs
        dsimp only [upd]
        refine Exs.cons (Ex.storeD rfl ?_)
        walk_at "w"
        refine EvI.val ?_
        walk_at "w"
        refine Pr.itemD (mid_at _ _ _) (look_Lm hrl) ?_
        refine ⟨_, _, .list _, trivial, ?_⟩
        refine CompR.map (fun v => .int (valD F' (unT v))) (fun v hv => ?_) (by rw [sizeLine_eq]; simp; omega) trivial ?_
        · obtain ⟨_, hd, rfl⟩ := List.mem_map.mp hv
          obtain ⟨j, hj, rfl⟩ := List.mem_map.mp hd
          obtain ⟨u, hu⟩ := hlk j hj
          try dsimp only [upd]
          walk_at "w"
          refine Pr.itemD (mid_at1 _ _ _ _) hu ?_
          refine ⟨?_, rfl⟩
          rw [unT_zs, valD, hu]
        have e : ([] : List PyData) ++ ((((ableN r).map fun j => tz (mv r K j)).map AV.dat).map fun v => PyData.int (valD F' (unT v))) = zs ((ableN r).map fun j => valD F' (mv r K j)) := by
          simp [zs, Function.comp_def, unT]
        rw [e]
        walk_at "w"
        refine Pr.maxL (.list _) (by simp; omega) fun x hx hmax => ?_
        obtain ⟨j, hj, rfl⟩ := List.mem_map.mp hx
        obtain ⟨u, hu⟩ := hlk j hj
        have eu : valD F' (mv r K j) = u := by rw [valD, hu]
        walk_at "w"
        refine ⟨_, rfl, ?_⟩
        walk_at "w"
        refine ⟨r, _, _, rfl, mid_at1 _ _ _ _, by rw [sizeLine_eq]; omega, fun n' => ?_⟩
        rw [mid_set1, eu, show (1 : Int) + (u : Int) = ((1 + u : Nat) : Int) from by omega]
        walk_at "w"
        have hV : Vl K F' r (1 + u) := .inr ⟨hru, fun j' hj' => by
          obtain ⟨u', hu'⟩ := hlk j' hj'
          have := hmax _ (List.mem_map.mpr ⟨j', hj', rfl⟩)
          rw [eu, show valD F' (mv r K j') = u' from by rw [valD, hu']] at this
          exact ⟨u', hu', by omega⟩, j, hj, by rw [hu, Nat.add_sub_cancel_left]⟩
        have FI2 := FI1.add hrf hV
        rw [eft] at FI2
        refine Lp.next ⟨hdn _ _, _, Sub.cons rfl (Sub.cons rfl (Sub.cons rfl (Sub.cons rfl (Sub.cons rfl (Sub.nil _))))), _, n', FI2, fun k' d e => ?_, rfl, rfl⟩
        rw [look_put, if_neg fun z => by rw [z, FI0.dis r hrl] at e; cases e]
        exact ag k' d e
      · rintro ρ ρ' σ' hs' ⟨F', e1', FI1, ag, rfl, rfl⟩
        have hlen : ((D.map tz).map AV.dat).length = D.length := by simp
        rw [hlen, List.take_length] at FI1
        refine Nx.next (Exs.sub hs' ?_)
        clear hs' ρ'
        refine Exs.cons (Ex.for (.inr rfl) ?_ (fun _ _ _ _ _ _ H => passes H fun _ _ _ z => z))
        refine EvI.val ?_
        walk_at "w"
        refine ⟨_, _, .obj (hdn _ _), hdn _ _, ?_⟩
        refine ForR.ind (fun p ρ σ' => ∃ e0' : Nat, σ' = σ ++ Dc (Lm K (ll.filter fun x => decide (x ∉ D.take p))) e0' :: Dc F' e1' :: (ex ++ [.list (D.map tz)]) ∧
            ρ = ([("_law_machines", I n), ("_law_many", I K), ("_law_left", .obj σ.length), ("_law_found", .obj (σ.length + 1)), ("_law_done", .obj dn)] : Lo)) ?_ ?_
          ⟨_, Sub.cons rfl (Sub.cons rfl (Sub.cons rfl (Sub.cons rfl (Sub.cons rfl (Sub.nil _))))), e0, ?_, rfl⟩
        · rintro p v ρ σ' hv ⟨e0', rfl, rfl⟩
          obtain ⟨hp, rfl⟩ := item_tz hv
          have hr := getD_mem_l hp
          obtain ⟨hrl, hok⟩ := hDm _ hr
          have hnt := nodup_take hDn hp
          have eft := filter_take (ll := ll) hp
          generalize D.getD p [] = r at hr hrl hok hnt eft
          have hrf : r ∈ ll.filter fun x => decide (x ∉ D.take p) := List.mem_filter.mpr ⟨hrl, decide_eq_true hnt⟩
          dsimp only [upd]
          refine Exs.cons (Ex.popD rfl ⟨_, _, mid_at _ _ _⟩ ?_)
          walk_at "w"
          refine ⟨r, _, _, rfl, mid_at _ _ _, ?_, by rw [look_Lm hrf]; rfl, fun n' => ?_⟩
          · have := List.length_filter_le (fun x => decide (x ∉ D.take p)) ll
            rw [sizeLine_eq]; unfold Lm; rw [List.length_map]; omega
          rw [mid_set, cut_Lm, eft]
          walk_at "w"
          exact Lp.next ⟨hdn _ _, _, Sub.cons rfl (Sub.cons rfl (Sub.cons rfl (Sub.cons rfl (Sub.cons rfl (Sub.nil _))))), n', rfl, rfl⟩
        · rintro ρ ρ' σ' hs' ⟨e0', rfl, rfl⟩
          rw [hlen, List.take_length]
          refine Nx.next (Exs.sub hs' ?_)
          clear hs' ρ'
          walk_at "w"
          refine Pr.eqV (ys := []) (.obj (hdn _ _)) (.list _) (tzs_lay D).1 rfl (by have := (tzs_lay D).2; simp only [PyData.depth]; omega) ?_
          rw [eqv_nil]
          walk_at "w"
          refine ifT (fun hz => ?_) fun hz => ?_
          · subst hz
            walk_at "w"
            have ell : (ll.filter fun x => decide (x ∉ ([] : List (List Int)))) = ll := by simp
            rw [ell] at FI1 ⊢
            refine HandD.obj (by omega) (mid_at1 _ _ _ _) ?_
            rw [mid_take]
            refine h F' e1' ⟨FI1.nd, FI1.sub, fun r hr e => ?_⟩
            have hrl := FI1.part r hr e
            refine ⟨(FI1.ab r hrl).2, ?_⟩
            have hokf := hDr r hrl (by simp)
            obtain ⟨j, hj, hf⟩ := List.all_eq_false.mp hokf
            refine ⟨j, hj, ?_⟩
            have hmv : mv r K j ∈ allR K n := mv_all h2 h12 hK2 hK hr (by have := (mem_able.mp hj).1; rw [(allR_each.mp hr).1] at this; exact this)
            have hn0 : look F (mv r K j) = none := by
              cases e' : look F (mv r K j) with
              | none => rfl
              | some d => rw [e'] at hf; simp at hf
            exact FI1.dis _ (FI0.part _ hmv hn0)
          · walk_at "w"
            have hlt : (ll.filter fun x => decide (x ∉ D)).length < ll.length := by
              obtain ⟨r, hr⟩ := List.exists_mem_of_ne_nil D hz
              refine List.length_filter_lt_length_iff_exists.mpr ⟨r, (hDm r hr).1, ?_⟩
              simp [hr]
            exact Lp.next ⟨_, hlt, _, Sub.cons rfl (Sub.cons rfl (Sub.cons rfl (Sub.cons rfl (Sub.nil _)))), _, F', e0', e1', _, rfl, FI1, rfl, rfl⟩
        · rw [show (ll.filter fun x => decide (x ∉ D.take 0)) = ll from by simp]
      · have : (ll.filter fun x => decide (x ∉ D.take 0)) = ll := by simp
        rw [this]; exact FI0
    · intro ρ' hs'
      have hl0 : ll = [] := by
        cases ll with
        | nil => rfl
        | cons x l => exact absurd (by simp [Lm]) he
      subst hl0
      refine Nx.next (Exs.sub hs' ?_)
      walk_at "w"
      refine HandD.obj (by omega) (mid_at1 _ _ _ _) ?_
      rw [mid_take]
      exact h F e1 ⟨FI0.nd, FI0.sub, fun r hr e => by have := FI0.part r hr e; cases this⟩
end

/-! the rings from which an order need never heal -/
noncomputable def Lt (ll : List (List Int)) : Mp := ll.map fun r => (r, .bool true)
theorem Lt_keys (ll : List (List Int)) : (Lt ll).map (·.1) = ll := by simp [Lt, Function.comp_def]
theorem Lt_len (ll : List (List Int)) : (Lt ll).length = ll.length := by simp [Lt]
theorem look_Lt (ll : List (List Int)) (r : List Int) : (look (Lt ll) r).isSome = decide (r ∈ ll) := by
  by_cases e : r ∈ ll
  · rw [decide_eq_true e]; exact look_mem.mpr (by rw [Lt_keys]; exact e)
  · rw [decide_eq_false e]
    cases h : (look (Lt ll) r).isSome with
    | false => rfl
    | true => exact absurd (by have := look_mem.mp h; rw [Lt_keys] at this; exact this) e
theorem cut_Lt (ll : List (List Int)) (r : List Int) : cutK (Lt ll) r = Lt (ll.filter fun x => decide (x ≠ r)) := by simp [cutK, Lt, List.filter_map, Function.comp_def]
noncomputable def goN (K : Nat) (S : List (List Int)) (r : List Int) : List Nat := (ableN r).filter fun j => decide (mv r K j ∈ S)
theorem goN_mem {K : Nat} {S : List (List Int)} {r : List Int} {j : Nat} (h : j ∈ goN K S r) : j ∈ ableN r ∧ mv r K j ∈ S := by
  obtain ⟨h1, h2⟩ := List.mem_filter.mp h
  exact ⟨h1, of_decide_eq_true h2⟩
structure Lv (n K : Nat) (S : List (List Int)) : Prop where
  nd : S.Nodup
  sub : ∀ r ∈ S, r ∈ allR K n ∧ 1 < (ableN r).length
  mx : ∀ P : List Int → Prop, (∀ r, P r → r ∈ allR K n ∧ 1 < (ableN r).length ∧ ∃ j ∈ ableN r, P (mv r K j)) → ∀ r, P r → r ∈ S
theorem Lv.len {n K : Nat} {S : List (List Int)} (h : Lv n K S) (hs : K ^ n ≤ 300) : S.length ≤ 300 := by
  have := few_in S (allR K n) h.nd fun k hk => (h.sub k hk).1
  rw [allR_len] at this; omega
theorem Lv.start (n K : Nat) : Lv n K ((allR K n).filter fun r => decide (1 < (ableN r).length)) :=
  ⟨(allR_nodup K n).sublist List.filter_sublist, fun r hr => ⟨(List.mem_filter.mp hr).1, of_decide_eq_true (List.mem_filter.mp hr).2⟩, fun P hP r hr => List.mem_filter.mpr ⟨(hP r hr).1, decide_eq_true (hP r hr).2.1⟩⟩
theorem Lv.cut {n K : Nat} {S : List (List Int)} {r : List Int} (h : Lv n K S) (hr : goN K S r = []) : Lv n K (S.filter fun x => decide (x ≠ r)) :=
  ⟨h.nd.sublist List.filter_sublist, fun x hx => h.sub x (List.mem_filter.mp hx).1, fun P hP x hx => List.mem_filter.mpr ⟨h.mx P hP x hx, decide_eq_true fun z => by
    subst z
    obtain ⟨_, _, j, hj, hp⟩ := hP x hx
    have : j ∈ goN K S x := List.mem_filter.mpr ⟨hj, decide_eq_true (h.mx P hP _ hp)⟩
    rw [hr] at this; cases this⟩⟩
theorem cut_less {S : List (List Int)} {r : List Int} (h : r ∈ S) : (S.filter fun x => decide (x ≠ r)).length < S.length := by
  induction S with
  | nil => cases h
  | cons x S ih =>
    rw [List.filter_cons]
    split
    · rename_i hx
      have hx := of_decide_eq_true hx
      have := ih ((List.mem_cons.mp h).resolve_left fun z => hx z.symm)
      simp only [List.length_cons]; omega
    · have := List.length_filter_le (fun x => decide (x ≠ r)) S
      simp only [List.length_cons]; omega
theorem drop_snoc {l : List (List Int)} {p : Nat} (hp : p < l.length) : l.drop p = l.getD p [] :: l.drop (p + 1) := by
  rw [List.drop_eq_getElem_cons hp, List.getD_eq_getElem?_getD, List.getElem?_eq_getElem hp]; rfl
section
variable {c : Cx} {k : Nat} {σ : AH} {Q : AV → AH → Prop} {X : Addr → AH → Prop}
theorem fn_going_on (W : Wd c) {n K : Nat} {r : List Int} {i ep : Nat} {S : List (List Int)} (R : Rg r n K) (hσ : σ[i]? = some (Dc (Lt S) ep)) (h : Q (Ls (zs ((goN K S r).map fun (j : Nat) => (j : Int)))) σ) : Cl c true (k + 3) "going_on" [.obj i, T (zs r), I K] σ Q X := by
  have hl := R.len
  have hk := R.k2
  have h12 := R.top
  have hal : (ableL r).length ≤ 12 := by rw [ableL_len]; unfold ableN; have := List.length_filter_le (may r) (List.range r.length); simp at this; omega
  refine Cl.intro0 W.toGd W.going_on rfl ?_
  dsimp only [d_going_on, List.zip_cons_cons, List.zip_nil_right, List.zip_nil_left]
  walk_at "w"
  refine EvI.val ?_
  walk_at "w"
  refine fn_able_of W R.l2 R.l1000 ?_
  refine ⟨_, _, .list _, trivial, ?_⟩
  refine CompR.filter (fun v => match v with | .dat (.int a) => decide (mv r K a.toNat ∈ S) | _ => false) (fun v => match v with | .dat d => d | _ => .none) (fun v hv => ?_) (fun v hv hq => ?_) (by rw [sizeLine_eq]; simp; omega) trivial ?_
  · obtain ⟨_, hd, rfl⟩ := List.mem_map.mp hv
    obtain ⟨a, ha, rfl⟩ := List.mem_map.mp hd
    obtain ⟨j, rfl, hj, hjm⟩ := able_mem ha
    dsimp only [upd]
    walk_at "w"
    refine fn_moved W R.l2 R.l1000 R.k2 hj ?_
    walk_at "w"
    refine Pr.inD hσ ?_
    walk_at "w"
    refine ⟨?_, rfl⟩
    rw [Int.toNat_natCast, look_Lt]
  · obtain ⟨_, hd, rfl⟩ := List.mem_map.mp hv
    obtain ⟨a, ha, rfl⟩ := List.mem_map.mp hd
    dsimp only [upd]
    walk_at "w"
    exact ⟨rfl, rfl⟩
  have e : ([] : List PyData) ++ ((((zs (ableL r)).map AV.dat).filter fun v => match v with | .dat (.int a) => decide (mv r K a.toNat ∈ S) | _ => false).map fun v => match v with | .dat d => d | _ => .none) = zs ((goN K S r).map fun (j : Nat) => (j : Int)) := by
    rw [ableL_eq]; simp [goN, zs, List.filter_map, Function.comp_def]
  rw [e]
  walk_at "w"
  simpa using h
theorem fn_endless (W : Wd c) {n K : Nat} {Qd : Mp → Nat → AH → Prop} (h2 : 2 ≤ n) (h12 : n ≤ 12) (hK2 : 2 ≤ K) (hK : K ≤ 100) (hs : K ^ n ≤ 300) (h : ∀ S e, Lv n K S → (∀ r ∈ S, goN K S r ≠ []) → Qd (Lt S) e σ) : ClD c true (k + 4) "endless" [I n, I K] σ Qd X := by
  refine ClD.intro W.toGd W.endless rfl ?_
  dsimp only [d_endless, List.zip_cons_cons, List.zip_nil_right, List.zip_nil_left]
  refine Exs.cons (Ex.assignDict W.toGd (.inl rfl) fun e0 => ?_)
  walk_at "w"
  refine Ex.for (.inl rfl) ?_ (fun _ _ _ _ _ _ _ => passes (by assumption) fun _ _ _ z => z)
  refine EvI.val ?_
  walk_at "w"
  refine fn_all_rings W h12 (by omega) hK hs ?_
  refine ⟨_, _, .list _, trivial, ?_⟩
  refine ForR.ind (fun p ρ σ' => ∃ e0, σ' = σ ++ [Dc (Lt (((allR K n).take p).filter fun r => decide (1 < (ableN r).length))) e0] ∧ ρ = ([("machines", I n), ("many", I K), ("left", .obj σ.length)] : Lo)) ?_ ?_
    ⟨_, Sub.cons rfl (Sub.cons rfl (Sub.cons rfl (Sub.nil _))), e0, by simp [Lt], rfl⟩
  · rintro p v ρ σ' hv ⟨e0, rfl, rfl⟩
    obtain ⟨hp, rfl⟩ := item_tz hv
    have hr := getD_mem_l hp
    have etk := take_snoc hp
    have hnew := nodup_take (allR_nodup K n) hp
    have hlen : ((allR K n).take p).length ≤ 300 := by rw [List.length_take, allR_len]; omega
    generalize (allR K n).getD p [] = r at hr etk hnew
    have R := (rg_all h2 h12 hK2 hK).mp hr
    have hl := R.len
    have hal : (ableL r).length ≤ 12 := by rw [ableL_len]; unfold ableN; have := List.length_filter_le (may r) (List.range r.length); simp at this; omega
    dsimp only [upd]
    walk_at "w"
    refine fn_able_of W R.l2 R.l1000 ?_
    walk_at "w"
    refine Pr.lenL (by simp; omega) ?_
    walk_at "w"
    refine ifT (fun hz => ?_) fun hz => ?_
    · rw [List.length_map, ableL_len] at hz
      refine Exs.cons (Ex.storeD rfl ?_)
      walk_at "w"
      refine ⟨_, rfl, ?_⟩
      walk_at "w"
      refine ⟨r, _, _, rfl, last_at _ _, ?_, fun n' => ?_⟩
      · rw [sizeLine_eq, Lt_len]; have := List.length_filter_le (fun r => decide (1 < (ableN r).length)) ((allR K n).take p); omega
      rw [last_set]
      walk_at "w"
      refine Lp.next ⟨trivial, _, Sub.cons rfl (Sub.cons rfl (Sub.cons rfl (Sub.nil _))), n', ?_, rfl⟩
      rw [put_new (by rw [Lt_keys]; exact fun z => hnew (List.mem_filter.mp z).1), etk]
      have hz' : 1 < (ableN r).length := by omega
      simp [Lt, List.filter_append, hz']
    · rw [List.length_map, ableL_len] at hz
      walk_at "w"
      refine Lp.next ⟨trivial, _, Sub.cons rfl (Sub.cons rfl (Sub.cons rfl (Sub.nil _))), e0, ?_, rfl⟩
      have hz' : ¬ 1 < (ableN r).length := by omega
      rw [etk]
      simp [List.filter_append, hz']
  · rintro ρ ρ' σ' hs' ⟨e0, rfl, rfl⟩
    have hlen : (((allR K n).map tz).map AV.dat).length = (allR K n).length := by simp
    rw [hlen, List.take_length]
    refine Nx.next (Exs.sub hs' ?_)
    have L0 := Lv.start n K
    generalize ((allR K n).filter fun r => decide (1 < (ableN r).length)) = S at L0
    clear hs' ρ'
    walk_at "w"
    refine Ex.while _ (WhR.ind (fun f ρ σ' => ∃ (S : List (List Int)) (b : Bool) (e0 : Nat), S.length + (if b = true then 1 else 0) = f ∧ Lv n K S ∧ (b = false → ∀ r ∈ S, goN K S r ≠ []) ∧ σ' = σ ++ [Dc (Lt S) e0] ∧ ρ = ([("machines", I n), ("many", I K), ("left", .obj σ.length), ("changed", B b)] : Lo)) ?_ (S.length + 1)
      ⟨_, Sub.cons rfl (Sub.cons rfl (Sub.cons rfl (Sub.cons rfl (Sub.nil _)))), S, true, e0, rfl, L0, (fun z => by cases z), rfl, rfl⟩) (fun _ _ _ _ _ H => passes H fun _ _ _ z => z)
    clear L0 S e0
    rintro f ρ σ' ⟨S0, b, e0, rfl, L0, hgo, rfl, rfl⟩
    have hSl := L0.len hs
    walk_at "w"
    cases b with
    | false =>
      show ∀ ρ', _ → _
      intro ρ' hs'
      refine Nx.next (Exs.sub hs' ?_)
      walk_at "w"
      refine HandD.obj (by omega) (last_at _ _) ?_
      rw [last_take]
      exact h S0 e0 L0 (hgo rfl)
    | true =>
      clear hgo
      walk_at "w"
      refine Ex.for (.inl rfl) ?_ (fun _ _ _ _ _ _ _ => passes (by assumption) fun _ _ _ z => z)
      refine EvI.val ?_
      walk_at "w"
      refine Pr.listD (last_at _ _) (by rw [Lt_len]; omega) ?_
      rw [show (Lt S0).map (fun p => PyData.tuple (zs p.1)) = S0.map tz from by simp [Lt, Function.comp_def]]
      refine ⟨_, _, .list _, trivial, ?_⟩
      refine ForR.ind (fun p ρ σ' => ∃ (S : List (List Int)) (b : Bool) (e1 : Nat), Lv n K S ∧ (∀ r ∈ S0.drop p, r ∈ S) ∧ (b = false → S = S0 ∧ ∀ r ∈ S0.take p, goN K S0 r ≠ []) ∧ (b = true → S.length < S0.length) ∧ σ' = σ ++ [Dc (Lt S) e1] ∧ ρ = ([("machines", I n), ("many", I K), ("left", .obj σ.length), ("changed", B b)] : Lo)) ?_ ?_
        ⟨_, Sub.cons rfl (Sub.cons rfl (Sub.cons rfl (Sub.cons rfl (Sub.nil _)))), S0, false, e0, L0, fun r hr => by simpa using hr, fun _ => ⟨rfl, fun r hr => by simp at hr⟩, fun z => (by cases z), rfl, rfl⟩
      · rintro p v ρ σ' hv ⟨S, b, e1, L1, hdr, hb0, hb1, rfl, rfl⟩
        obtain ⟨hp, rfl⟩ := item_tz hv
        have etk := take_snoc hp
        have edr := drop_snoc hp
        have hnd : (S0.getD p []) ∉ S0.drop (p + 1) := by
          have := L0.nd.sublist (List.drop_sublist p S0)
          rw [edr] at this
          exact (List.nodup_cons.mp this).1
        generalize S0.getD p [] = r at etk edr hnd
        have hrS : r ∈ S := hdr r (by rw [edr]; exact List.mem_cons_self)
        have hS1 := L1.len hs
        have R := (rg_all h2 h12 hK2 hK).mp (L1.sub r hrS).1
        have hgl : (goN K S r).length ≤ 12 := by
          have h1 := List.length_filter_le (fun j => decide (mv r K j ∈ S)) (ableN r)
          have h3 := List.length_filter_le (may r) (List.range r.length)
          have := R.len; unfold goN; unfold ableN at h1 ⊢; simp at h3; omega
        dsimp only [upd]
        walk_at "w"
        refine fn_going_on W R (last_at _ _) ?_
        walk_at "w"
        refine Pr.eqL (ys := []) ?_
        walk_at "w"
        refine ifT (fun hz => ?_) fun hz => ?_
        · have hz : goN K S r = [] := by simpa using hz
          refine Exs.cons (Ex.popD rfl ⟨_, _, last_at _ _⟩ ?_)
          walk_at "w"
          refine ⟨r, _, _, rfl, last_at _ _, by rw [sizeLine_eq, Lt_len]; omega, by rw [look_Lt]; exact decide_eq_true hrS, fun n' => ?_⟩
          rw [last_set, cut_Lt]
          walk_at "w"
          have hcl := cut_less hrS
          refine Lp.next ⟨trivial, _, Sub.cons rfl (Sub.cons rfl (Sub.cons rfl (Sub.cons rfl (Sub.nil _)))), _, true, n', L1.cut hz, fun x hx => List.mem_filter.mpr ⟨hdr x (by rw [edr]; exact List.mem_cons_of_mem _ hx), decide_eq_true fun z => hnd (z ▸ hx)⟩, fun z => (by cases z), fun _ => ?_, rfl, rfl⟩
          cases b with
          | false => obtain ⟨rfl, _⟩ := hb0 rfl; exact hcl
          | true => have := hb1 rfl; omega
        · have hz : goN K S r ≠ [] := by simpa using hz
          walk_at "w"
          refine Lp.next ⟨trivial, _, Sub.cons rfl (Sub.cons rfl (Sub.cons rfl (Sub.cons rfl (Sub.nil _)))), S, b, e1, L1, fun x hx => hdr x (by rw [edr]; exact List.mem_cons_of_mem _ hx), fun z => ?_, hb1, rfl, rfl⟩
          obtain ⟨rfl, hq⟩ := hb0 z
          refine ⟨rfl, fun x hx => ?_⟩
          rw [etk] at hx
          rcases List.mem_append.mp hx with y | y
          · exact hq x y
          · rw [List.mem_singleton.mp y]; exact hz
      · rintro ρ ρ' σ' hs' ⟨S, b, e1, L1, hdr, hb0, hb1, rfl, rfl⟩
        have hlen : ((S0.map tz).map AV.dat).length = S0.length := by simp
        rw [hlen, List.take_length] at hb0
        refine Nx.next (Exs.sub hs' ?_)
        walk_at "w"
        refine Lp.next ⟨S.length + (if b = true then 1 else 0), ?_, _, Sub.cons rfl (Sub.cons rfl (Sub.cons rfl (Sub.cons rfl (Sub.nil _)))), S, b, e1, rfl, L1, fun z => ?_, rfl, rfl⟩
        · cases b with
          | false => obtain ⟨rfl, _⟩ := hb0 rfl; simp
          | true => have := hb1 rfl; simp; omega
        · obtain ⟨rfl, hq⟩ := hb0 z; exact hq
end

/-! an order gone -/
noncomputable def atR (K : Int) (xs ord : List Int) : Nat → List Int
  | 0 => xs
  | i + 1 => mv (atR K xs ord i) K (ord.getD i 0).toNat
noncomputable def OkTo (n : Nat) (K : Int) (xs ord : List Int) (i : Nat) : Prop := ∀ j, j < i → 0 ≤ ord.getD j 0 ∧ ord.getD j 0 < n ∧ may (atR K xs ord j) (ord.getD j 0).toNat = true
noncomputable def Bad2 (n : Nat) (ord : List Int) (i : Nat) : Prop := ord.getD i 0 < 0 ∨ (n : Int) ≤ ord.getD i 0
noncomputable def Bad3 (n : Nat) (K : Int) (xs ord : List Int) (i : Nat) : Prop := 0 ≤ ord.getD i 0 ∧ ord.getD i 0 < n ∧ may (atR K xs ord i) (ord.getD i 0).toNat = false
theorem OkTo.ring {n : Nat} {K : Int} {xs ord : List Int} {i : Nat} (R : Rg xs n K) (h : OkTo n K xs ord i) : Rg (atR K xs ord i) n K := by
  induction i with
  | zero => exact R
  | succ i ih => exact (ih fun j hj => h j (by omega)).mv (by have := h i (by omega); omega)
theorem OkTo.zero {n : Nat} {K : Int} {xs ord : List Int} : OkTo n K xs ord 0 := fun j hj => by omega
theorem OkTo.succ {n : Nat} {K : Int} {xs ord : List Int} {i : Nat} (h : OkTo n K xs ord i) (h1 : 0 ≤ ord.getD i 0 ∧ ord.getD i 0 < n ∧ may (atR K xs ord i) (ord.getD i 0).toNat = true) : OkTo n K xs ord (i + 1) := fun j hj => by
  by_cases e : j = i
  · rw [e]; exact h1
  · exact h j (by omega)
theorem OkTo.not2 {n : Nat} {K : Int} {xs ord : List Int} {i j : Nat} (h : OkTo n K xs ord i) (hj : j < i) : ¬ Bad2 n ord j := fun z => by have := h j hj; unfold Bad2 at z; omega
theorem OkTo.not3 {n : Nat} {K : Int} {xs ord : List Int} {i j : Nat} (h : OkTo n K xs ord i) (hj : j < i) : ¬ Bad3 n K xs ord j := fun z => by have := (h j hj).2.2; rw [z.2.2] at this; cases this
noncomputable def goneL (K : Int) (xs ord : List Int) (i : Nat) : List PyData := (List.range (i + 1)).map fun j => .tuple (zs (atR K xs ord j))
theorem goneL_succ (K : Int) (xs ord : List Int) (i : Nat) : goneL K xs ord (i + 1) = goneL K xs ord i ++ [.tuple (zs (atR K xs ord (i + 1)))] := by unfold goneL; rw [List.range_succ, List.map_append]; rfl
theorem goneL_len (K : Int) (xs ord : List Int) (i : Nat) : (goneL K xs ord i).length = i + 1 := by simp [goneL]
theorem goneL_last (K : Int) (xs ord : List Int) (i : Nat) : (goneL K xs ord i)[(goneL K xs ord i).length - 1]? = some (.tuple (zs (atR K xs ord i))) := by rw [goneL_len]; simp [goneL]

section
variable {c : Cx} {k : Nat} {σ : AH} {Q : AV → AH → Prop} {X : Addr → AH → Prop}
/-- an order gone, or an exception -/
theorem fn_goneX (W : Wd c) {xs ord : List Int} {n : Nat} {K : Int} (R : Rg xs n K) (hord : ord.length ≤ 1000) (h1 : ∀ i, i < ord.length → OkTo n K xs ord i → Bad2 n ord i → X a_NoMachine σ) (h2 : ∀ i, i < ord.length → OkTo n K xs ord i → Bad3 n K xs ord i → X a_NotNow σ)
    (h3 : OkTo n K xs ord ord.length → Q (Ls (goneL K xs ord ord.length)) σ) : Cl c true (k + 3) "gone" [T (zs xs), I K, Ls (zs ord)] σ Q X := by
  have hk2 := R.k2
  refine Cl.intro W.toGd W.gone rfl ?_
  dsimp only [d_gone, List.zip_cons_cons, List.zip_nil_right, List.zip_nil_left]
  walk_at "v"
  refine Exs.cons ?_
  walk_at "v"
  refine fn_need_ring W R ?_
  walk_at "v"
  refine Exs.cons (Ex.assignNew (.inl rfl) (EvN.list ?_))
  walk_at "w"
  refine Ex.for (.inl rfl) ?_ (fun _ _ _ _ _ _ H => passes H fun _ _ _ z => z)
  refine EvI.val ?_
  walk_at "w"
  refine ⟨_, _, .list _, trivial, ?_⟩
  refine ForR.zs (fun i ρ σ' => OkTo n K xs ord i ∧ ρ = ([("ring", T (zs xs)), ("many", I K), ("order", Ls (zs ord)), ("found", .obj σ.length)] : Lo) ∧ σ' = σ ++ [.list (goneL K xs ord i)]) ?_ ?_
    ⟨_, Sub.cons rfl (Sub.cons rfl (Sub.cons rfl (Sub.cons rfl (Sub.nil _)))), .zero, rfl, rfl⟩
  · rintro i ρ σ' hi ⟨ok, rfl, rfl⟩
    have R' := ok.ring R
    have hl := R'.len; have hn2 := R'.two; have h12 := R'.top
    have hlast := goneL_last K xs ord i
    have hgl := goneL_len K xs ord i
    have hpos : 0 < (goneL K xs ord i).length := by rw [hgl]; exact Nat.succ_pos i
    have hsz : (goneL K xs ord i).length < sizeLine := by rw [sizeLine_eq, hgl]; omega
    dsimp only [upd]
    walk_at "w"
    refine Pr.itemO (last_at _ _) (idx_neg hpos) hlast (by decide) (by decide) ?_
    walk_at "w"
    refine fn_need_stepX W R' (fun hz => ?_) (fun j e hj hm => ?_) fun j e hj hm => ?_
    · show X _ ((σ ++ _).take σ.length)
      rw [last_take]; exact h1 i hi ok hz
    · show X _ ((σ ++ _).take σ.length)
      rw [last_take]; exact h2 i hi ok ⟨by omega, by omega, by rw [e]; exact hm⟩
    · walk_at "v"
      refine Exs.cons (Ex.append rfl ⟨_, last_at _ _⟩ ?_)
      walk_at "w"
      refine Pr.itemO (last_at _ _) (idx_neg hpos) hlast (by decide) (by decide) ?_
      rw [e]
      walk_at "w"
      refine fn_moved W R'.l2 R'.l1000 R'.k2 (R'.lt hj) ?_
      refine ⟨_, _, rfl, last_at _ _, hsz, ?_⟩
      rw [last_set]
      walk_at "w"
      refine Lp.next ⟨trivial, _, Sub.cons rfl (Sub.cons rfl (Sub.cons rfl (Sub.cons rfl (Sub.nil _)))), ok.succ ⟨by omega, by omega, by rw [e]; exact hm⟩, rfl, ?_⟩
      rw [goneL_succ, atR, e]
      rfl
  · rintro ρ ρ' σ' hs ⟨ok, rfl, rfl⟩
    refine Nx.next (Exs.sub hs ?_)
    walk_at "w"
    refine Hand.obj (Nat.le_refl _) (last_at _ _) ?_
    rw [last_take]
    exact h3 ok
end

/-! an order that never heals -/
noncomputable def hdN (K : Nat) (S : List (List Int)) (r : List Int) : Nat := (goN K S r).headD 0
theorem hdN_mem {K : Nat} {S : List (List Int)} {r : List Int} (h : goN K S r ≠ []) : hdN K S r ∈ goN K S r := by
  unfold hdN
  cases e : goN K S r with
  | nil => exact absurd e h
  | cons a l => exact List.mem_cons_self
theorem goN_hd {K : Nat} {S : List (List Int)} {r : List Int} (h : goN K S r ≠ []) : ∃ l, goN K S r = hdN K S r :: l := by
  unfold hdN
  cases e : goN K S r with
  | nil => exact absurd e h
  | cons a l => exact ⟨l, rfl⟩
theorem goN_le {n K : Nat} {S : List (List Int)} {r : List Int} (R : Rg r n K) : (goN K S r).length ≤ 12 := by
  have h1 := List.length_filter_le (fun j => decide (mv r K j ∈ S)) (ableN r)
  have h3 := List.length_filter_le (may r) (List.range r.length)
  have := R.len; have := R.top; unfold goN; unfold ableN at h1 ⊢; simp at h3; omega
noncomputable def wk (K : Nat) (S : List (List Int)) (b : List Int) : Nat → List Int
  | 0 => b
  | p + 1 => mv (wk K S b p) K (hdN K S (wk K S b p))
noncomputable def wks (K : Nat) (S : List (List Int)) (b : List Int) (t : Nat) : List (List Int) := (List.range t).map (wk K S b)
noncomputable def wos (K : Nat) (S : List (List Int)) (b : List Int) (t : Nat) : List Int := (List.range t).map fun p => (hdN K S (wk K S b p) : Int)
theorem wks_succ (K : Nat) (S : List (List Int)) (b : List Int) (t : Nat) : wks K S b (t + 1) = wks K S b t ++ [wk K S b t] := by unfold wks; rw [List.range_succ, List.map_append]; rfl
theorem wos_succ (K : Nat) (S : List (List Int)) (b : List Int) (t : Nat) : wos K S b (t + 1) = wos K S b t ++ [(hdN K S (wk K S b t) : Int)] := by unfold wos; rw [List.range_succ, List.map_append]; rfl
theorem wks_len (K : Nat) (S : List (List Int)) (b : List Int) (t : Nat) : (wks K S b t).length = t := by simp [wks]
theorem wos_len (K : Nat) (S : List (List Int)) (b : List Int) (t : Nat) : (wos K S b t).length = t := by simp [wos]
theorem wk_in {K : Nat} {S : List (List Int)} {b : List Int} (hg : ∀ r ∈ S, goN K S r ≠ []) (hb : b ∈ S) : ∀ p, wk K S b p ∈ S
  | 0 => hb
  | p + 1 => (goN_mem (hdN_mem (hg _ (wk_in hg hb p)))).2
structure Cyc (K : Nat) (S : List (List Int)) (b o : List Int) : Prop where
  ne : 0 < o.length
  len : o.length ≤ 300
  ab : ∀ p, p < o.length → ∃ j : Nat, o.getD p 0 = j ∧ j ∈ ableN (atR K b o p)
  mem : ∀ p, p ≤ o.length → atR K b o p ∈ S
  back : atR K b o o.length = b
theorem cyc_of {K : Nat} {S : List (List Int)} {b : List Int} {a t : Nat} (hg : ∀ r ∈ S, goN K S r ≠ []) (hb : b ∈ S) (ha : a < t) (ht : t ≤ 300) (e : wk K S b a = wk K S b t) : Cyc K S (wk K S b a) ((wos K S b t).drop a) := by
  have hl : ((wos K S b t).drop a).length = t - a := by rw [List.length_drop, wos_len]
  have hat : ∀ p, p < t - a → ((wos K S b t).drop a).getD p 0 = (hdN K S (wk K S b (a + p)) : Int) := fun p hp => by
    rw [List.getD_eq_getElem?_getD, List.getElem?_drop]
    unfold wos
    rw [List.getElem?_map, List.getElem?_range (by omega)]; rfl
  have hr : ∀ p, p ≤ t - a → atR K (wk K S b a) ((wos K S b t).drop a) p = wk K S b (a + p) := by
    intro p
    induction p with
    | zero => intro _; rfl
    | succ p ih => intro hp; rw [atR, ih (by omega), hat p (by omega), Int.toNat_natCast]; rfl
  refine ⟨by omega, by omega, fun p hp => ?_, fun p hp => ?_, ?_⟩
  · rw [hl] at hp
    rw [hr p (by omega)]
    exact ⟨_, hat p hp, (goN_mem (hdN_mem (hg _ (wk_in hg hb _)))).1⟩
  · rw [hl] at hp
    rw [hr p hp]; exact wk_in hg hb _
  · rw [hl, hr _ (Nat.le_refl _), show a + (t - a) = t by omega, e]
theorem mid_at2 (σ : AH) (a b d : AO) (ex : AH) : (σ ++ a :: b :: d :: ex)[σ.length + 2]? = some d := by simp
theorem mid_set2 (σ : AH) (a b d d' : AO) (ex : AH) : (σ ++ a :: b :: d :: ex).set (σ.length + 2) d' = σ ++ a :: b :: d' :: ex := by
  rw [List.set_append_right _ _ (by omega), Nat.add_sub_cancel_left]; rfl
theorem wks_last (K : Nat) (S : List (List Int)) (b : List Int) (t : Nat) : ((wks K S b (t + 1)).map tz)[((wks K S b (t + 1)).map tz).length - 1]? = some (tz (wk K S b t)) := by
  rw [List.length_map, wks_len]; unfold wks; simp
section
variable {c : Cx} {k : Nat} {σ : AH} {Q : AV → AH → Prop} {X : Addr → AH → Prop}
theorem fn_neverX (W : Wd c) {M N : Int} (h1 : N < 2 ∨ 100 < N → X a_NoNumbers σ) (h2 : 2 ≤ N → N ≤ 100 → (M < 2 ∨ 12 < M) → X a_NoRing σ)
    (h4 : ∀ n : Nat, M = n → 2 ≤ N → N ≤ 100 → 2 ≤ M → M ≤ 12 → 300 < N ^ n → X a_TooGreat σ)
    (h5 : ∀ n K : Nat, M = n → N = K → 2 ≤ n → n ≤ 12 → 2 ≤ K → K ≤ 100 → K ^ n ≤ 300 → Lv n K [] → Q No σ)
    (h6 : ∀ n K : Nat, M = n → N = K → 2 ≤ n → n ≤ 12 → 2 ≤ K → K ≤ 100 → K ^ n ≤ 300 → ∀ S, Lv n K S → ∀ b o, Cyc K S b o → Q (T [tz b, .list (zs o)]) σ) : Cl c true (k + 30) "never" [I M, I N] σ Q X := by
  refine Cl.intro W.toGd W.never rfl ?_
  dsimp only [d_never, List.zip_cons_cons, List.zip_nil_right, List.zip_nil_left]
  walk_at "w"
  refine fn_need_manyX W (fun hz => by simpa using h1 hz) fun hN2 hN => ?_
  walk_at "w"
  refine fn_need_machinesX W (fun hz => by simpa using h2 hN2 hN hz) fun hM2 hM => ?_
  obtain ⟨n, rfl⟩ : ∃ n : Nat, M = n := ⟨M.toNat, by omega⟩
  obtain ⟨K, rfl⟩ : ∃ K : Nat, N = K := ⟨N.toNat, by omega⟩
  have h2n : 2 ≤ n := by omega
  have h12 : n ≤ 12 := by omega
  have hK2 : 2 ≤ K := by omega
  have hK : K ≤ 100 := by omega
  walk_at "w"
  refine fn_need_few W (by omega) hN2 hN (fun hz => by simpa using h4 n rfl hN2 hN hM2 hM hz) fun hs' => ?_
  have hs : K ^ n ≤ 300 := by
    have : ((K ^ n : Nat) : Int) = (K : Int) ^ n := by simp
    omega
  walk_at "v"
  refine Exs.cons (Ex.assignCallD W.toGd (.inl rfl) (W.fns _ (by decide)) rfl ?_)
  walk_at "w"
  refine fn_endless W h2n h12 hK2 hK hs fun S e0 hL hg => ?_
  have hSl := hL.len hs
  walk_at "w"
  refine Pr.lenD (last_at _ _) (by rw [Lt_len]; omega) ?_
  walk_at "w"
  refine ifT (fun hz => ?_) fun hz => ?_
  · rw [Lt_len] at hz
    obtain rfl : S = [] := List.length_eq_zero_iff.mp (by omega)
    walk_at "w"
    simpa using h5 n K rfl rfl h2n h12 hK2 hK hs hL
  rw [Lt_len] at hz
  walk_at "v"
  refine Exs.cons (Ex.assignNew (.inl rfl) (EvN.list ?_))
  walk_at "w"
  refine Pr.minD (last_at _ _) (by rw [Lt_len]; omega) fun b hb _ => ?_
  rw [Lt_keys] at hb
  walk_at "v"
  refine Exs.cons (Ex.assignNew (.inl rfl) (EvN.list ?_))
  walk_at "w"
  refine Ex.while _ (WhR.ind (fun f ρ σ' => ∃ t : Nat, S.length - t = f ∧ t ≤ S.length ∧ (wks K S b t).Nodup ∧ σ' = σ ++ Dc (Lt S) e0 :: .list ((wks K S b (t + 1)).map tz) :: .list (zs (wos K S b t)) :: [] ∧ ρ = ([("machines", I n), ("many", I K), ("left", .obj σ.length), ("rings", .obj (σ.length + 1)), ("order", .obj (σ.length + 2))] : Lo)) ?_ S.length
    ⟨_, Sub.cons rfl (Sub.cons rfl (Sub.cons rfl (Sub.cons (by simp only [List.length_append, List.length_singleton]; rfl) (Sub.cons (by simp only [List.length_append, List.length_singleton]; rfl) (Sub.nil _))))), 0, rfl, Nat.zero_le _, List.nodup_nil, by simp [wks, wos, wk, zs], rfl⟩) (fun _ _ _ _ _ H => passes H fun _ _ _ z => z)
  rintro f ρ σ' ⟨t, rfl, ht, hnd, rfl, rfl⟩
  have hin := wk_in (K := K) hg hb
  have hwl := wks_len K S b (t + 1)
  have hpos : 0 < ((wks K S b (t + 1)).map tz).length := by rw [List.length_map, hwl]; exact Nat.succ_pos t
  have hlast := wks_last K S b t
  have R := (rg_all h2n h12 hK2 hK).mp (hL.sub _ (hin t)).1
  walk_at "w"
  refine Pr.itemO (mid_at1 _ _ _ _) (idx_neg hpos) hlast (by decide) (by decide) ?_
  refine Ev.cutLast ?_
  walk_at "w"
  refine ⟨rfl, _, _, rfl, mid_at1 _ _ _ _, by rw [sizeLine_eq, List.length_map, hwl]; omega, ?_⟩
  have ecut : ((wks K S b (t + 1)).map tz).take (((wks K S b (t + 1)).map tz).length - 1) = (wks K S b t).map tz := by
    rw [List.length_map, hwl, wks_succ, List.map_append, Nat.add_sub_cancel]
    rw [List.take_append_of_le_length (by rw [List.length_map, wks_len]; exact Nat.le_refl _), List.take_of_length_le (by rw [List.length_map, wks_len]; exact Nat.le_refl _)]
  rw [ecut]
  refine Pr.notInT (.list _) ?_
  walk_at "w"
  refine ifN (fun hno => ?_) fun hno => ?_
  · have hno : wk K S b t ∉ wks K S b t := by simpa using hno
    have hnd' : (wks K S b (t + 1)).Nodup := by
      rw [wks_succ]
      exact List.nodup_append.mpr ⟨hnd, by simp, fun x hx y hy e => hno (by rw [List.mem_singleton.mp hy] at e; exact e ▸ hx)⟩
    have hlt : t + 1 ≤ S.length := by
      have := few_in (wks K S b (t + 1)) S hnd' fun x hx => by
        obtain ⟨p, _, rfl⟩ := List.mem_map.mp hx; exact hin p
      rw [hwl] at this; exact this
    obtain ⟨l, el⟩ := goN_hd (hg _ (hin t))
    have hl12 : l.length + 1 ≤ 12 := by have := goN_le (S := S) R; rw [el] at this; simpa using this
    have hgm := goN_mem (hdN_mem (hg _ (hin t)))
    obtain ⟨hjl, _⟩ := mem_able.mp hgm.1
    walk_at "w"
    refine Pr.itemO (mid_at1 _ _ _ _) (idx_neg hpos) hlast (by decide) (by decide) ?_
    walk_at "w"
    refine fn_going_on W R (mid_at _ _ _) ?_
    rw [el]
    walk_at "w"
    refine Pr.listAt (xs := (hdN K S (wk K S b t) :: l).map fun (j : Nat) => (j : Int)) (j := 0) (idx_nat rfl (by simp)) (by simp; omega) ?_
    walk_at "v"
    refine Exs.cons (Ex.append rfl ⟨_, mid_at2 _ _ _ _ _⟩ ?_)
    walk_at "w"
    refine ⟨_, _, rfl, mid_at2 _ _ _ _ _, by rw [sizeLine_eq]; simp [wos_len]; omega, ?_⟩
    rw [mid_set2]
    walk_at "v"
    refine Exs.cons (Ex.append rfl ⟨_, mid_at1 _ _ _ _⟩ ?_)
    walk_at "w"
    refine Pr.itemO (mid_at1 _ _ _ _) (idx_neg hpos) hlast (by decide) (by decide) ?_
    walk_at "w"
    refine fn_moved W R.l2 R.l1000 R.k2 hjl ?_
    refine ⟨_, _, rfl, mid_at1 _ _ _ _, by rw [sizeLine_eq, List.length_map, hwl]; omega, ?_⟩
    rw [mid_set1]
    walk_at "w"
    refine Lp.next ⟨S.length - (t + 1), by omega, _, Sub.cons rfl (Sub.cons rfl (Sub.cons rfl (Sub.cons rfl (Sub.cons rfl (Sub.nil _))))), t + 1, rfl, hlt, hnd', ?_, rfl⟩
    rw [wks_succ K S b (t + 1), wos_succ]
    simp [zs, wk]
  · intro ρ' hs'
    have hyes : wk K S b t ∈ wks K S b t := by simpa using hno
    have hm : wk K S b t ∈ wks K S b (t + 1) := by rw [wks_succ]; exact List.mem_append_left _ hyes
    have hia : (wks K S b (t + 1)).idxOf (wk K S b t) < t := by
      have := List.idxOf_lt_length_of_mem hyes
      rw [wks_len] at this
      rw [wks_succ, List.idxOf_append, if_pos hyes]; exact this
    have hia2 : wk K S b ((wks K S b (t + 1)).idxOf (wk K S b t)) = wk K S b t := by
      have h' := List.getElem_idxOf (x := wk K S b t) (xs := wks K S b (t + 1)) (by rw [hwl]; omega)
      have h'' : ∀ i (h : i < (wks K S b (t + 1)).length), (wks K S b (t + 1))[i] = wk K S b i := fun i h => by simp [wks]
      rw [h''] at h'; exact h'
    refine Nx.next (Exs.sub hs' ?_)
    walk_at "w"
    refine Ev.indexT rfl ⟨_, mid_at1 _ _ _ _⟩ ?_
    walk_at "w"
    refine Pr.itemO (mid_at1 _ _ _ _) (idx_neg hpos) hlast (by decide) (by decide) ?_
    refine ⟨_, wks K S b (t + 1), rfl, mid_at1 _ _ _ _, by rw [hwl]; omega, hm, ?_⟩
    generalize (wks K S b (t + 1)).idxOf (wk K S b t) = a at hia hia2
    have hga : ((wks K S b (t + 1)).map tz)[a]? = some (tz (wk K S b a)) := by
      rw [List.getElem?_map]; unfold wks; rw [List.getElem?_map, List.getElem?_range (by omega)]; rfl
    walk_at "w"
    refine Pr.itemO (j := a) (mid_at1 _ _ _ _) (idx_nat rfl (by rw [List.length_map, hwl]; omega)) hga (by omega) (by omega) ?_
    walk_at "w"
    refine ⟨a, rfl, CutFrom.obj (mid_at2 _ _ _ _ _) (by simp [wos_len]; omega) (by rw [sizeLine_eq]; simp [wos_len]; omega) ?_⟩
    walk_at "w"
    rw [mid_take]
    have := h6 n K rfl rfl h2n h12 hK2 hK hs S hL _ _ (cyc_of hg hb hia (by omega) hia2)
    simpa [zs] using this
end

/-! what the law's reckoning says of the endless rings -/
theorem cyc_not {n K : Nat} {F : Mp} {S : List (List Int)} {b o : List Int} (H : Hts n K F) (hL : Lv n K S) (hC : Cyc K S b o) : look F b = none := by
  cases e : look F b with
  | none => rfl
  | some d =>
    exfalso
    obtain ⟨_, v0, rfl, _⟩ := H.sub b d e
    have key : ∀ p, p ≤ o.length → ∃ v : Nat, look F (atR K b o p) = some (.int v) ∧ v + p ≤ v0 := by
      intro p
      induction p with
      | zero => intro _; exact ⟨v0, e, Nat.le_refl _⟩
      | succ p ih =>
        intro hp
        obtain ⟨v, ev, hv⟩ := ih (by omega)
        obtain ⟨_, v', ev', hV⟩ := H.sub _ _ ev
        injection ev' with ev'
        have h1 := (hL.sub _ (hC.mem p (by omega))).2
        obtain ⟨j, ej, hj⟩ := hC.ab p (by omega)
        rcases hV with ⟨h, _⟩ | ⟨_, hall, _⟩
        · omega
        · obtain ⟨u, eu, hu⟩ := hall j hj
          refine ⟨u, ?_, by omega⟩
          rw [atR, ej, Int.toNat_natCast]; exact eu
    obtain ⟨v, ev, hv⟩ := key o.length (Nat.le_refl _)
    rw [hC.back, e] at ev
    injection ev with ev; injection ev with ev
    have := hC.ne
    omega
theorem Hts.full {n K : Nat} {F : Mp} (H : Hts n K F) (hlen : F.length = (allR K n).length) : ∀ r ∈ allR K n, look F r ≠ none := fun r hr e => by
  have hno : r ∉ F.map (·.1) := fun z => by have := look_mem.mpr z; rw [e] at this; cases this
  have := few_in (r :: F.map (·.1)) (allR K n) (List.nodup_cons.mpr ⟨hno, H.nd⟩) fun k hk => by
    rcases List.mem_cons.mp hk with rfl | hk
    · exact hr
    · obtain ⟨d, hd⟩ := Option.isSome_iff_exists.mp (look_mem.mpr hk); exact (H.sub k d hd).1
  rw [List.length_cons, List.length_map] at this
  omega
theorem Hts.few {n K : Nat} {F : Mp} (H : Hts n K F) : F.length ≤ (allR K n).length := by
  have := few_in (F.map (·.1)) (allR K n) H.nd fun k hk => by
    obtain ⟨d, hd⟩ := Option.isSome_iff_exists.mp (look_mem.mpr hk); exact (H.sub k d hd).1
  rwa [List.length_map] at this
theorem Hts.none {n K : Nat} {F : Mp} (h2 : 2 ≤ n) (h12 : n ≤ 12) (hK2 : 2 ≤ K) (hK : K ≤ 100) (H : Hts n K F) (hL : Lv n K []) : F.length = (allR K n).length := by
  have hall : ∀ r ∈ allR K n, (look F r).isSome = true := fun r hr => by
    cases e : look F r with
    | some d => rfl
    | none =>
      have := hL.mx (fun r => r ∈ allR K n ∧ look F r = Option.none) (fun r ⟨h, e⟩ => by
        obtain ⟨h1, j, hj, e'⟩ := H.rest r h e
        exact ⟨h, h1, j, hj, mv_all h2 h12 hK2 hK h (by have := (mem_able.mp hj).1; rw [(allR_each.mp h).1] at this; exact this), e'⟩) r ⟨hr, e⟩
      cases this
  have h1 := H.few
  have h3 := few_in (allR K n) (F.map (·.1)) (allR_nodup K n) fun k hk => look_mem.mp (hall k hk)
  rw [List.length_map] at h3
  omega
section
variable {c : Cx} {k : Nat} {σ : AH} {Q : AV → AH → Prop} {X : Addr → AH → Prop}
theorem fn_told (W : Wd c) {M N : Int} (h1 : N < 2 ∨ 100 < N → Q (Ls (zs [0])) σ) (h2 : 2 ≤ N → N ≤ 100 → (M < 2 ∨ 12 < M) → Q (Ls (zs [1])) σ)
    (h4 : ∀ n : Nat, M = n → 2 ≤ N → N ≤ 100 → 2 ≤ M → M ≤ 12 → 300 < N ^ n → Q (Ls (zs [5])) σ)
    (h5 : ∀ n K : Nat, M = n → N = K → 2 ≤ n → n ≤ 12 → 2 ≤ K → K ≤ 100 → K ^ n ≤ 300 → Lv n K [] → Q No σ)
    (h6 : ∀ n K : Nat, M = n → N = K → 2 ≤ n → n ≤ 12 → 2 ≤ K → K ≤ 100 → K ^ n ≤ 300 → ∀ S, Lv n K S → ∀ b o, Cyc K S b o → Q (T [tz b, .list (zs o)]) σ) : Cl c true (k + 31) "_law_told" [I M, I N] σ Q X := by
  refine Cl.intro0 W.toGd W.law_told rfl ?_
  dsimp only [d_law_told, List.zip_cons_cons, List.zip_nil_right, List.zip_nil_left]
  refine Exs.cons (Ex.tryRet W.toGd rfl W.at_HealError rfl ?_)
  have hne : NoExc ([("_law_machines", I M), ("_law_many", I N)] : Lo) := .cons trivial (.cons trivial .nil)
  walk_at "w"
  refine fn_neverX W (fun hz => ⟨hne, W.tab.exm _ in_NoNumbers, ?_⟩) (fun hN2 hN hz => ⟨hne, W.tab.exm _ in_NoRing, ?_⟩) (fun n e hN2 hN hM2 hM hz => ⟨hne, W.tab.exm _ in_TooGreat, ?_⟩) (fun n K e1 e2 a1 a2 a3 a4 a5 hL => ?_) fun n K e1 e2 a1 a2 a3 a4 a5 S hL b o hC => ?_
  · dsimp only [upd]
    refine Exs.one (Ex.forH (.inl rfl) OnlyRet.no ?_ (fun _ _ _ _ _ _ _ => noPass _ fun _ _ _ z => z))
    refine EvI.val ?_
    walk_at "w"
    refine ⟨_, _, .list _, trivial, ?_⟩
    show ForR _ _ _ _ _ _ _ _ _ _ [I 0, I 1, I 5] _ _
    show Exs _ _ _ _ _ _ _ _ _ _
    dsimp only [upd]
    walk_at "w"
    refine fn_only W in_NoNumbers (j := 0) (by decide) ?_
    rw [show (a_NoNumbers == clsAt 0) = true from rfl]
    walk_at "w"
    refine OnlyRet.ret ?_
    walk_at "w"
    simpa using h1 hz
  · dsimp only [upd]
    refine Exs.one (Ex.forH (.inl rfl) OnlyRet.no ?_ (fun _ _ _ _ _ _ _ => noPass _ fun _ _ _ z => z))
    refine EvI.val ?_
    walk_at "w"
    refine ⟨_, _, .list _, trivial, ?_⟩
    show ForR _ _ _ _ _ _ _ _ _ _ [I 0, I 1, I 5] _ _
    show Exs _ _ _ _ _ _ _ _ _ _
    dsimp only [upd]
    walk_at "w"
    refine fn_only W in_NoRing (j := 0) (by decide) ?_
    rw [show (a_NoRing == clsAt 0) = false from rfl]
    walk_at "w"
    refine Lp.next ⟨trivial, ?_⟩
    show Exs _ _ _ _ _ _ _ _ _ _
    dsimp only [upd]
    walk_at "w"
    refine fn_only W in_NoRing (j := 1) (by decide) ?_
    rw [show (a_NoRing == clsAt 1) = true from rfl]
    walk_at "w"
    refine OnlyRet.ret ?_
    walk_at "w"
    simpa using h2 hN2 hN hz
  · dsimp only [upd]
    refine Exs.one (Ex.forH (.inl rfl) OnlyRet.no ?_ (fun _ _ _ _ _ _ _ => noPass _ fun _ _ _ z => z))
    refine EvI.val ?_
    walk_at "w"
    refine ⟨_, _, .list _, trivial, ?_⟩
    show ForR _ _ _ _ _ _ _ _ _ _ [I 0, I 1, I 5] _ _
    show Exs _ _ _ _ _ _ _ _ _ _
    dsimp only [upd]
    walk_at "w"
    refine fn_only W in_TooGreat (j := 0) (by decide) ?_
    rw [show (a_TooGreat == clsAt 0) = false from rfl]
    walk_at "w"
    refine Lp.next ⟨trivial, ?_⟩
    show Exs _ _ _ _ _ _ _ _ _ _
    dsimp only [upd]
    walk_at "w"
    refine fn_only W in_TooGreat (j := 1) (by decide) ?_
    rw [show (a_TooGreat == clsAt 1) = false from rfl]
    walk_at "w"
    refine Lp.next ⟨trivial, ?_⟩
    show Exs _ _ _ _ _ _ _ _ _ _
    dsimp only [upd]
    walk_at "w"
    refine fn_only W in_TooGreat (j := 5) (by decide) ?_
    rw [show (a_TooGreat == clsAt 5) = true from rfl]
    walk_at "w"
    refine OnlyRet.ret ?_
    walk_at "w"
    simpa using h4 n e hN2 hN hM2 hM hz
  · walk_at "w"
    simpa using h5 n K e1 e2 a1 a2 a3 a4 a5 hL
  · walk_at "w"
    simpa using h6 n K e1 e2 a1 a2 a3 a4 a5 S hL b o hC
theorem fn_due (W : Wd c) {M N : Int} (h1 : N < 2 ∨ 100 < N → Q (Ls (zs [0])) σ) (h2 : 2 ≤ N → N ≤ 100 → (M < 2 ∨ 12 < M) → Q (Ls (zs [1])) σ)
    (h4 : 2 ≤ N → N ≤ 100 → 2 ≤ M → M ≤ 12 → Q (Ls (zs [5])) σ) : Cl c true (k + 1) "_law_due" [I M, I N] σ Q X := by
  refine Cl.intro0 W.toGd W.law_due rfl ?_
  dsimp only [d_law_due, List.zip_cons_cons, List.zip_nil_right, List.zip_nil_left]
  walk_at "w"
  refine ifT (fun a1 => ?_) fun a1 => ?_
  · walk_at "w"
    simpa using h1 (.inl a1)
  walk_at "w"
  refine ifT (fun a2 => ?_) fun a2 => ?_
  · walk_at "w"
    simpa using h1 (.inr a2)
  walk_at "w"
  refine ifT (fun a3 => ?_) fun a3 => ?_
  · walk_at "w"
    simpa using h2 (by omega) (by omega) (.inl a3)
  walk_at "w"
  refine ifT (fun a4 => ?_) fun a4 => ?_
  · walk_at "w"
    simpa using h2 (by omega) (by omega) (.inr a4)
  · walk_at "w"
    simpa using h4 (by omega) (by omega) (by omega) (by omega)
theorem fn_whole (W : Wd c) {z : Int} (h : Q (B true) σ) : Cl c true (k + 1) "_law_whole" [I z] σ Q X := by
  refine Cl.intro0 W.toGd W.law_whole rfl ?_
  dsimp only [d_law_whole, List.zip_cons_cons, List.zip_nil_right, List.zip_nil_left]
  walk_at "w"
  refine Pr.not (b := false) rfl ?_
  walk_at "w"
  simpa using h
theorem fn_sizes (W : Wd c) {z : Int} (h : ∀ n K : Nat, 2 ≤ n → n ≤ 8 → 2 ≤ K → K ≤ 17 → K ^ n ≤ 300 → Q (T [.int n, .int K]) σ) : Cl c true (k + 1) "_law_sizes" [I z] σ Q X := by
  refine Cl.intro0 W.toGd W.law_sizes rfl ?_
  dsimp only [d_law_sizes, List.zip_cons_cons, List.zip_nil_right, List.zip_nil_left]
  have hb := @fmod_lt z 7 (by decide)
  obtain ⟨p, hp⟩ : ∃ p : Nat, z.fmod 7 = p := ⟨_, (Int.toNat_of_nonneg hb.1).symm⟩
  rw [hp] at hb
  walk_at "w"
  rw [hp]
  refine Pr.listAt (xs := [17, 6, 4, 3, 2, 2, 2]) (j := p) (idx_nat (by omega) (by simp; omega)) (by simp) ?_
  walk_at "w"
  have hp3 : p = 0 ∨ p = 1 ∨ p = 2 ∨ p = 3 ∨ p = 4 ∨ p = 5 ∨ p = 6 := by omega
  rcases hp3 with rfl | rfl | rfl | rfl | rfl | rfl | rfl
  · walk_at "w"
    refine Pr.mod (by decide) ?_
    have hq := @fmod_lt (z.fdiv 7) 16 (by decide)
    obtain ⟨K, hKe⟩ : ∃ K : Nat, 2 + (z.fdiv 7).fmod 16 = K := ⟨(2 + (z.fdiv 7).fmod 16).toNat, by omega⟩
    have := h 2 K (by omega) (by omega) (by omega) (by omega) (by have : K ^ 2 ≤ 17 ^ 2 := Nat.pow_le_pow_left (by omega) 2; omega)
    rw [← hKe] at this
    walk_at "w"
    simpa using this
  · walk_at "w"
    refine Pr.mod (by decide) ?_
    have hq := @fmod_lt (z.fdiv 7) 5 (by decide)
    obtain ⟨K, hKe⟩ : ∃ K : Nat, 2 + (z.fdiv 7).fmod 5 = K := ⟨(2 + (z.fdiv 7).fmod 5).toNat, by omega⟩
    have := h 3 K (by omega) (by omega) (by omega) (by omega) (by have : K ^ 3 ≤ 6 ^ 3 := Nat.pow_le_pow_left (by omega) 3; omega)
    rw [← hKe] at this
    walk_at "w"
    simpa using this
  · walk_at "w"
    refine Pr.mod (by decide) ?_
    have hq := @fmod_lt (z.fdiv 7) 3 (by decide)
    obtain ⟨K, hKe⟩ : ∃ K : Nat, 2 + (z.fdiv 7).fmod 3 = K := ⟨(2 + (z.fdiv 7).fmod 3).toNat, by omega⟩
    have := h 4 K (by omega) (by omega) (by omega) (by omega) (by have : K ^ 4 ≤ 4 ^ 4 := Nat.pow_le_pow_left (by omega) 4; omega)
    rw [← hKe] at this
    walk_at "w"
    simpa using this
  · walk_at "w"
    refine Pr.mod (by decide) ?_
    have hq := @fmod_lt (z.fdiv 7) 2 (by decide)
    obtain ⟨K, hKe⟩ : ∃ K : Nat, 2 + (z.fdiv 7).fmod 2 = K := ⟨(2 + (z.fdiv 7).fmod 2).toNat, by omega⟩
    have := h 5 K (by omega) (by omega) (by omega) (by omega) (by have : K ^ 5 ≤ 3 ^ 5 := Nat.pow_le_pow_left (by omega) 5; omega)
    rw [← hKe] at this
    walk_at "w"
    simpa using this
  · walk_at "w"
    refine Pr.mod (by decide) ?_
    have hq := @fmod_lt (z.fdiv 7) 1 (by decide)
    obtain ⟨K, hKe⟩ : ∃ K : Nat, 2 + (z.fdiv 7).fmod 1 = K := ⟨(2 + (z.fdiv 7).fmod 1).toNat, by omega⟩
    have := h 6 K (by omega) (by omega) (by omega) (by omega) (by have : K ^ 6 ≤ 2 ^ 6 := Nat.pow_le_pow_left (by omega) 6; omega)
    rw [← hKe] at this
    walk_at "w"
    simpa using this
  · walk_at "w"
    refine Pr.mod (by decide) ?_
    have hq := @fmod_lt (z.fdiv 7) 1 (by decide)
    obtain ⟨K, hKe⟩ : ∃ K : Nat, 2 + (z.fdiv 7).fmod 1 = K := ⟨(2 + (z.fdiv 7).fmod 1).toNat, by omega⟩
    have := h 7 K (by omega) (by omega) (by omega) (by omega) (by have : K ^ 7 ≤ 2 ^ 7 := Nat.pow_le_pow_left (by omega) 7; omega)
    rw [← hKe] at this
    walk_at "w"
    simpa using this
  · walk_at "w"
    refine Pr.mod (by decide) ?_
    have hq := @fmod_lt (z.fdiv 7) 1 (by decide)
    obtain ⟨K, hKe⟩ : ∃ K : Nat, 2 + (z.fdiv 7).fmod 1 = K := ⟨(2 + (z.fdiv 7).fmod 1).toNat, by omega⟩
    have := h 8 K (by omega) (by omega) (by omega) (by omega) (by have : K ^ 8 ≤ 2 ^ 8 := Nat.pow_le_pow_left (by omega) 8; omega)
    rw [← hKe] at this
    walk_at "w"
    simpa using this
end
theorem pairs12 (z : Int) {j : Nat} (hj : j < 12) (hz : z.fmod 12 = j) : ∃ M N : Int, ([.tuple [.int 1, .int 5], .tuple [.int 13, .int 20], .tuple [.int 3, .int 101], .tuple [.int 3, .int 1], .tuple [.int 1, .int 1]] ++ [.tuple [.int 12, .int 100], .tuple [.int 9, .int 2], .tuple [.int 4, .int 5], .tuple [.int 2, .int 18], .tuple [.int 13, .int 5], .tuple [.int 3, .int 7], .tuple [.int (-1 - z), .int 3]] : List PyData)[j]? = some (.tuple [.int M, .int N]) ∧
    ∀ n K : Nat, M = n → N = K → 2 ≤ n → n ≤ 12 → 2 ≤ K → K ≤ 100 → K ^ n ≤ 300 → False := by
  have tw : j = 0 ∨ j = 1 ∨ j = 2 ∨ j = 3 ∨ j = 4 ∨ j = 5 ∨ j = 6 ∨ j = 7 ∨ j = 8 ∨ j = 9 ∨ j = 10 ∨ j = 11 := by omega
  rcases tw with rfl | rfl | rfl | rfl | rfl | rfl | rfl | rfl | rfl | rfl | rfl | rfl
  · exact ⟨1, 5, rfl, fun n K e1 e2 a1 a2 a3 a4 a5 => by omega⟩
  · exact ⟨13, 20, rfl, fun n K e1 e2 a1 a2 a3 a4 a5 => by omega⟩
  · exact ⟨3, 101, rfl, fun n K e1 e2 a1 a2 a3 a4 a5 => by omega⟩
  · exact ⟨3, 1, rfl, fun n K e1 e2 a1 a2 a3 a4 a5 => by omega⟩
  · exact ⟨1, 1, rfl, fun n K e1 e2 a1 a2 a3 a4 a5 => by omega⟩
  · refine ⟨12, 100, rfl, fun n K e1 e2 a1 a2 a3 a4 a5 => ?_⟩
    obtain rfl : n = 12 := by omega
    obtain rfl : K = 100 := by omega
    exact absurd a5 (by decide)
  · refine ⟨9, 2, rfl, fun n K e1 e2 a1 a2 a3 a4 a5 => ?_⟩
    obtain rfl : n = 9 := by omega
    obtain rfl : K = 2 := by omega
    exact absurd a5 (by decide)
  · refine ⟨4, 5, rfl, fun n K e1 e2 a1 a2 a3 a4 a5 => ?_⟩
    obtain rfl : n = 4 := by omega
    obtain rfl : K = 5 := by omega
    exact absurd a5 (by decide)
  · refine ⟨2, 18, rfl, fun n K e1 e2 a1 a2 a3 a4 a5 => ?_⟩
    obtain rfl : n = 2 := by omega
    obtain rfl : K = 18 := by omega
    exact absurd a5 (by decide)
  · exact ⟨13, 5, rfl, fun n K e1 e2 a1 a2 a3 a4 a5 => by omega⟩
  · refine ⟨3, 7, rfl, fun n K e1 e2 a1 a2 a3 a4 a5 => ?_⟩
    obtain rfl : n = 3 := by omega
    obtain rfl : K = 7 := by omega
    exact absurd a5 (by decide)
  · refine ⟨-1 - z, 3, rfl, fun n K e1 e2 a1 a2 a3 a4 a5 => ?_⟩
    rw [Int.fmod_eq_emod_of_nonneg _ (by omega)] at hz
    obtain rfl : n = 12 := by omega
    obtain rfl : K = 3 := by omega
    exact absurd a5 (by decide)

section
variable {c : Cx} {k : Nat} {σ : AH} {Q : AV → AH → Prop} {X : Addr → AH → Prop}
theorem law_spec (W : Wd c) {w : List Int} (hw : w.length ≤ 63) : Cl c true 40 "law" [Ls (zs w)] [] (fun v _ => v = B true) NoX := by
  refine Cl.intro0 W.toGd W.law rfl ?_
  dsimp only [d_law, List.zip_cons_cons, List.zip_nil_right, List.zip_nil_left]
  walk_at "w"
  refine fn_cell_at W (j := 0) rfl hw ?_
  generalize cellAt w 0 = z
  walk_at "w"
  refine ifT (fun h1 => ?_) fun h1 => ?_
  · walk_at "w"
    refine Pr.addL (by rw [sizeLine_eq]; simp) ?_
    walk_at "v"
    refine Exs.cons (Ex.unpack2 (.inl rfl) (.inl rfl) ?_)
    walk_at "w"
    have hb := @fmod_lt (z.fdiv 800) 12 (by decide)
    obtain ⟨j, hj⟩ : ∃ j : Nat, (z.fdiv 800).fmod 12 = j := ⟨_, (Int.toNat_of_nonneg hb.1).symm⟩
    rw [hj] at hb ⊢
    obtain ⟨M, N, hpr, hbad⟩ := pairs12 (z.fdiv 800) (j := j) (by omega) hj
    refine Pr.itemL (j := j) (d := .tuple [.int M, .int N]) (idx_nat rfl (by simp; omega)) hpr (by omega) (by omega) ?_
    refine ⟨_, _, rfl, ?_⟩
    walk_at "w"
    refine fn_told W (fun a1 => ?_) (fun a1 a2 a3 => ?_) (fun n e a1 a2 a3 a4 _ => ?_) (fun n K e1 e2 a1 a2 a3 a4 a5 _ => (hbad n K e1 e2 a1 a2 a3 a4 a5).elim) fun n K e1 e2 a1 a2 a3 a4 a5 _ _ _ _ _ => (hbad n K e1 e2 a1 a2 a3 a4 a5).elim
    · walk_at "w"
      refine fn_due W (fun _ => ?_) (fun _ _ _ => by omega) fun _ _ _ _ => by omega
      refine Pr.eqL ?_
      walk_at "w"
      simp
    · walk_at "w"
      refine fn_due W (fun _ => by omega) (fun _ _ _ => ?_) fun _ _ _ _ => by omega
      refine Pr.eqL ?_
      walk_at "w"
      simp
    · walk_at "w"
      refine fn_due W (fun _ => by omega) (fun _ _ _ => by omega) fun _ _ _ _ => ?_
      refine Pr.eqL ?_
      walk_at "w"
      simp
  · walk_at "v"
    refine Exs.cons (Ex.unpack2 (.inl rfl) (.inl rfl) ?_)
    walk_at "w"
    refine fn_sizes W fun n K h2 h8 hK2 hK17 hs => ?_
    refine ⟨_, _, rfl, ?_⟩
    have h12 : n ≤ 12 := by omega
    have hK : K ≤ 100 := by omega
    walk_at "v"
    refine Exs.cons (Ex.assignCallD W.toGd (.inl rfl) (W.fns _ (by decide)) rfl ?_)
    walk_at "w"
    refine fn_heights W h2 h12 hK2 hK hs fun F e0 hF => ?_
    have hal := allR_len K n
    have hFl := hF.few
    walk_at "w"
    refine fn_told W (fun a1 => by omega) (fun a1 a2 a3 => by omega) (fun n' e a1 a2 a3 a4 z => ?_) (fun n' K' e1 e2 a1 a2 a3 a4 a5 hL => ?_) fun n' K' e1 e2 a1 a2 a3 a4 a5 S hL b o hC => ?_
    · exfalso
      obtain rfl : n = n' := by omega
      have : ((K ^ n : Nat) : Int) = (K : Int) ^ n := by simp
      omega
    · obtain rfl : n = n' := by omega
      obtain rfl : K = K' := by omega
      have hlen := hF.none h2 h12 hK2 hK hL
      walk_at "w"
      refine Pr.lenD rfl (by omega) ?_
      walk_at "w"
      refine fn_lall W h12 hK2 hK hs ?_
      walk_at "w"
      refine Pr.lenL (by simp; omega) ?_
      walk_at "w"
      refine ifY (by simp; omega) ?_
      walk_at "w"
      simp
    · obtain rfl : n = n' := by omega
      obtain rfl : K = K' := by omega
      have hba := (hL.sub b (by have := hC.mem 0 (by omega); exact this)).1
      have hno := cyc_not hF hL hC
      have hlen : F.length ≠ (allR K n).length := fun e => hF.full e b hba hno
      have hol := hC.len
      have hR : ∀ p, p ≤ o.length → Rg (atR K b o p) n K := fun p hp => (rg_all h2 h12 hK2 hK).mp (hL.sub _ (hC.mem p hp)).1
      have hok : OkTo n K b o o.length := fun p hp => by
        obtain ⟨j, ej, hj⟩ := hC.ab p hp
        obtain ⟨h3, h4⟩ := mem_able.mp hj
        have := (hR p (by omega)).len
        rw [ej, Int.toNat_natCast]
        exact ⟨by omega, by omega, h4⟩
      walk_at "w"
      refine Pr.lenD rfl (by omega) ?_
      walk_at "w"
      refine fn_lall W h12 hK2 hK hs ?_
      walk_at "w"
      refine Pr.lenL (by simp; omega) ?_
      walk_at "w"
      refine ifF (by simp; omega) ?_
      walk_at "w"
      refine Pr.lenT (by simp) ?_
      walk_at "w"
      refine ifF (by simp) ?_
      walk_at "w"
      refine Pr.itemT (j := 1) rfl rfl (by decide) (by decide) ?_
      walk_at "w"
      refine Pr.itemT (j := 1) rfl rfl (by decide) (by decide) ?_
      walk_at "w"
      refine Pr.eqL (ys := []) ?_
      walk_at "w"
      refine ifF (fun z => by have := hC.ne; rw [z] at this; simp at this) ?_
      walk_at "w"
      refine Pr.itemT (j := 0) rfl rfl (by decide) (by decide) ?_
      walk_at "w"
      refine fn_lall W h12 hK2 hK hs ?_
      refine Pr.notInT (.list _) ?_
      rw [decide_eq_true hba]
      walk_at "w"
      refine EvI.val ?_
      walk_at "w"
      refine Pr.itemT (j := 1) rfl rfl (by decide) (by decide) ?_
      refine ⟨_, _, .list _, trivial, ?_⟩
      refine CompR.filter (fun _ => false) (fun _ => .int 1) (fun v hv => ?_) (fun v hv hq => ?_) (by rw [sizeLine_eq]; simp; omega) trivial ?_
      · obtain ⟨_, hd, rfl⟩ := List.mem_map.mp hv
        obtain ⟨a, ha, rfl⟩ := List.mem_map.mp hd
        try dsimp only [upd]
        walk_at "w"
        refine fn_whole W ?_
        walk_at "w"
        exact ⟨rfl, rfl⟩
      · cases hq
      have e : ([] : List PyData) ++ ((((zs o).map AV.dat).filter fun _ => false).map fun _ => .int 1) = zs [] := by simp [zs]
      rw [e]
      walk_at "w"
      refine Pr.neL (xs := []) (ys := []) ?_
      walk_at "w"
      rw [show decide (([] : List Int) = []) = true from rfl]
      refine ifNT ?_
      walk_at "w"
      refine Pr.itemT (j := 0) rfl rfl (by decide) (by decide) ?_
      walk_at "w"
      refine Ex.for (.inl rfl) ?_ (fun _ _ _ _ _ _ _ => noPass _ fun _ _ _ z => z)
      refine EvI.val ?_
      walk_at "w"
      refine Pr.itemT (j := 1) rfl rfl (by decide) (by decide) ?_
      refine ⟨_, _, .list _, trivial, ?_⟩
      refine ForR.zs (fun p ρ σ' => σ' = [Dc F e0] ∧ ρ = ([("_law_many", I K), ("_law_told_here", T [tz b, .list (zs o)]), ("_law_ring", T (zs (atR K b o p)))] : Lo)) ?_ ?_
        ⟨_, Sub.cons rfl (Sub.cons rfl (Sub.cons rfl (Sub.nil _))), rfl, rfl⟩
      · rintro p ρ σ' hp ⟨rfl, rfl⟩
        have R := hR p (by omega)
        obtain ⟨j, ej, hj⟩ := hC.ab p hp
        obtain ⟨hjl, hjm⟩ := mem_able.mp hj
        have h1a := (hL.sub _ (hC.mem p (by omega))).2
        have hal12 : (ableN (atR K b o p)).length ≤ 12 := by have := List.length_filter_le (may (atR K b o p)) (List.range (atR K b o p).length); have := R.len; unfold ableN; simp at *; omega
        have hnext : atR K b o (p + 1) = mv (atR K b o p) K j := by rw [atR, ej, Int.toNat_natCast]
        have hyes := able_yes hjl hjm
        rw [ej]
        generalize atR K b o p = r at *
        dsimp only [upd]
        walk_at "w"
        refine fn_lable W R.l2 R.l1000 ?_
        refine Pr.notInZ (.list _) ?_
        rw [hyes]
        walk_at "w"
        refine fn_lable W R.l2 R.l1000 ?_
        walk_at "w"
        refine Pr.lenL (by simp [ableL_len]; omega) ?_
        rw [List.length_map, ableL_len]
        walk_at "w"
        refine fn_lstep W R.l2 R.l1000 (by omega) hjl ?_
        walk_at "w"
        refine Lp.next ⟨trivial, _, ?_, rfl, rfl⟩
        rw [hnext]
        exact Sub.cons rfl (Sub.cons rfl (Sub.cons rfl (Sub.nil _)))
      · rintro ρ ρ' σ' hs' ⟨rfl, rfl⟩
        have hpos : 0 < (goneL K b o o.length).length := by rw [goneL_len]; exact Nat.succ_pos _
        have hgl := goneL_last K b o o.length
        rw [hC.back] at hgl
        refine Nx.next (Exs.sub hs' ?_)
        rw [hC.back]
        walk_at "w"
        refine Pr.itemT (j := 0) rfl rfl (by decide) (by decide) ?_
        refine Pr.eqT ?_
        walk_at "w"
        refine ifY rfl ?_
        walk_at "w"
        refine Pr.itemT (j := 0) rfl rfl (by decide) (by decide) ?_
        walk_at "w"
        refine Pr.itemT (j := 1) rfl rfl (by decide) (by decide) ?_
        walk_at "w"
        refine fn_goneX W (hR 0 (by omega)) (by omega) (fun i hi _ hB => (hok.not2 hi hB).elim) (fun i hi _ hB => (hok.not3 hi hB).elim) fun _ => ?_
        walk_at "w"
        refine Pr.itemL (idx_neg hpos) hgl (by decide) (by decide) ?_
        walk_at "w"
        refine Pr.itemT (j := 0) rfl rfl (by decide) (by decide) ?_
        refine Pr.eqT ?_
        walk_at "w"
        simp
end


end Mine
open PySem PySem.W PySem.Calls PyProof.Rows
set_option maxHeartbeats 8000000 in
theorem PySem.Challenge.cw_uf050025_12_holds : PySem.Challenge.rw_uf050025_12.Holds := by
  refine holds_law Mine.said0 fun said => ?_
  refine holds_open (q := Mine.VV) (loose := []) (Xt := Mine.Xt0) (XP := XL Mine.VV []) (Yf := Hook.obs Mine.HK) (Ya := Hook.val Mine.HK) (YP := Hook.says Mine.HK) (N := 4700) Mine.left0 (Hook.of Mine.HK) (Hook.keeps Mine.HK) (fun s e => xl_of s (Bool.and_eq_true_iff.mp e).1) XL.keeps (by rfl) (by rfl) (by rfl) (fun s e => recFacts_of (Bool.and_eq_true_iff.mp e).2) (by rfl) said (by decide +kernel) ⟨rfl, rfl, rfl, rfl, rfl, by decide +kernel⟩ ?hw ?hc
  case hw => w_witness2
  intro w s₀ s₁ mg mb G Y fa o pm cd doc dV kV ho hd hcd hD hmg hg args vals as hpre hlay hrd hwl hlo
  have W := @Mine.Wd.of [] _ _ _ _ _ _ _ PySem.Challenge.rw_uf050025_12.row.prog G (kIn_of Y)
  refine Ground.open G ?_
  intro T B D TE TW
  wrow_args hpre hlay hrd hwl hlo
  refine Mine.law_end hmg (by assumption) hg (K := 40) (by decide) (Mine.law_spec W ?_)
  omega
