import PyProof.Rows.All
import Wide.All
import OpenK.AllK
import Wide.FinOn
import HandS.ForMost
import HandS.Defaults
import HandS.HeadHook2
import HandS.TupAny
import HandS.IsInst
import HandS.Deep
import HandS.TupLe
import HandS.Small
import HandS.Rev
import HandS.Conv
import HandS.SortInts
import HandS.More
import HandS.Sort
import KE.KSortTupAny
import HandS.SetFor
import HandS.MakeKwOnly
import HandS.MakeKw
import HandS.Words
import HandS.NoneIn
import KE.DataMinMax
import KE.SortData
import KE.KStateDown
import HandS.Ends
import HandS.Head0
import HandS.Head1
import HandS.Head2
import HandS.HeadEnd
import PySem.Challenge.RW_howeverheard_k79_whole_watches
set_option Elab.async false
set_option linter.all false
set_option maxRecDepth 100000
set_option maxHeartbeats 2000000
/-! Vd0: data D, a store of cells, how they lie in the abstract heap; readings of expressions over data. -/
namespace Vd
open PySem PySem.Spec PyProof.Rows L2

/-- data: what a value is, the things that change being numbers of cells -/
inductive D where
  | non | bl (b : Bool) | int (i : Int) | str (x : Str) | tup (xs : List D) | kt (xs : List D) | ob (n : Nat) | rng (lo hi : Int) | ty (n : String)

inductive Cell where
  | lst (xs : List D)
  | fro (xs : List D)
  | dK (kvs : List (Key × D))
  | dT (kvs : List (List Key × D))
  | ins (C : Str) (fs : List (Str × D))
abbrev Sto := List Cell
abbrev Env' := List (Option D)

variable (K : PySem.W.Frag)
/-- a tuple of the written part -/
def KT (a : Addr) (xs : List V) : Prop := ∃ (o : Obj) (its : Array Value) (n : Nat), K.lookup a = some o ∧ o.cls = .type "tuple" ∧ o.data = .seq its n ∧ its.size ≤ sizeLine ∧ Vals xs its.toList
mutual
def RepV (am : List Addr) (H : Hp) : D → V → Prop
  | .non, v => v = .non
  | .bl b, v => v = .bl b
  | .int i, v => v = .int i
  | .str x, v => v = .str x
  | .tup ds, v => ∃ a vs, v = .ref a ∧ H a = some (.tup vs) ∧ RepVs am H ds vs
  | .kt ds, v => ∃ a vs, v = .ref a ∧ KT K a vs ∧ RepVs am H ds vs
  | .ob n, v => ∃ a, am[n]? = some a ∧ v = .ref a
  | .rng lo hi, v => ∃ a, v = .ref a ∧ H a = some (.rng lo hi)
  | .ty n, v => v = .ty n
def RepVs (am : List Addr) (H : Hp) : List D → List V → Prop
  | [], vs => vs = []
  | d :: ds, vs => ∃ v r, vs = v :: r ∧ RepV am H d v ∧ RepVs am H ds r
end
/-- a list that is read only (the script) -/
def Fro (H : Hp) (a : Addr) (vs : List V) : Prop := ∃ o, H a = some (.frz o (.lst vs))
def RepC (am : List Addr) (H : Hp) : Cell → Addr → Prop
  | .lst ds, a => ∃ vs, H a = some (.lst vs) ∧ RepVs K am H ds vs
  | .fro ds, a => ∃ vs, Fro H a vs ∧ RepVs K am H ds vs
  | .dK kds, a => ∃ kvs, H a = some (.dK kvs) ∧ kvs.map (·.1) = kds.map (·.1) ∧ RepVs K am H (kds.map (·.2)) (kvs.map (·.2))
  | .dT kds, a => ∃ kvs, H a = some (.dT kvs) ∧ kvs.map (·.1) = kds.map (·.1) ∧ RepVs K am H (kds.map (·.2)) (kvs.map (·.2))
  | .ins C fs, a => ∃ dx fvs, H a = some (.ins (He.ga K C) dx fvs) ∧ fvs.map (·.1) = fs.map (·.1) ∧ RepVs K am H (fs.map (·.2)) (fvs.map (·.2))
structure RepS (am : List Addr) (H : Hp) (st : Sto) : Prop where
  len : am.length = st.length
  nd : am.Nodup
  cell : ∀ (n : Nat) (a : Addr) (c : Cell), am[n]? = some a → st[n]? = some c → RepC K am H c a
structure RepN (am : List Addr) (H : Hp) (env : Env') (σ : L2.St) : Prop where
  len : env.length = σ.length
  at_ : ∀ (i : Nat) (d : D), env[i]? = some (some d) → ∃ v, σ[i]? = some (some v) ∧ RepV K am H d v
/-- what a datum leans on -/
structure Ext0 (am : List Addr) (H : Hp) (am' : List Addr) (H' : Hp) : Prop where
  pre : ∃ l, am' = am ++ l
  tup : ∀ a xs, H a = some (.tup xs) → H' a = some (.tup xs)
  rng : ∀ a lo hi, H a = some (.rng lo hi) → H' a = some (.rng lo hi)
/-- from one state to a later one -/
structure Ext (am : List Addr) (H : Hp) (am' : List Addr) (H' : Hp) : Prop where
  pre : ∃ l, am' = am ++ l
  new : ∀ a ∈ am', a ∈ am ∨ H a = none
  fr : ∀ a o, a ∉ am → H a = some o → H' a = some o
  tup : ∀ a xs, H a = some (.tup xs) → H' a = some (.tup xs)
  frz : ∀ a o u, H a = some (.frz o u) → H' a = some (.frz o u)
  rng : ∀ a lo hi, H a = some (.rng lo hi) → H' a = some (.rng lo hi)
variable {K}
section
variable {am am' am'' : List Addr} {H H' H'' : Hp} {st : Sto} {env : Env'} {σ : L2.St}
theorem Ext.refl : Ext am H am H := ⟨⟨[], by simp⟩, fun _ h => .inl h, fun _ _ _ h => h, fun _ _ h => h, fun _ _ _ h => h, fun _ _ _ h => h⟩
theorem Ext.trans (x : Ext am H am' H') (y : Ext am' H' am'' H'') : Ext am H am'' H'' := by
  obtain ⟨l, e⟩ := x.pre
  obtain ⟨m, e'⟩ := y.pre
  refine ⟨⟨l ++ m, by rw [e', e, List.append_assoc]⟩, fun a ha => ?_, fun a o hn ha => ?_, fun a xs h => y.tup _ _ (x.tup _ _ h), fun a o u h => y.frz _ _ _ (x.frz _ _ _ h), fun a lo hi h => y.rng _ _ _ (x.rng _ _ _ h)⟩
  · rcases y.new a ha with h | h
    · exact x.new a h
    · by_cases hm : a ∈ am
      · exact .inl hm
      · right
        cases q : H a with
        | none => rfl
        | some o => rw [x.fr a o hm q] at h; cases h
  · refine y.fr a o (fun z => ?_) (x.fr a o hn ha)
    rcases x.new a z with h | h
    · exact hn h
    · rw [h] at ha; cases ha
theorem Ext.z (x : Ext am H am' H') : Ext0 am H am' H' := ⟨x.pre, x.tup, x.rng⟩
theorem Ext0.get (x : Ext0 am H am' H') {n : Nat} {a : Addr} (h : am[n]? = some a) : am'[n]? = some a := by
  obtain ⟨l, e⟩ := x.pre
  rw [e, List.getElem?_append_left]
  · exact h
  · exact (List.getElem?_eq_some_iff.mp h).1
theorem Ext.get (x : Ext am H am' H') {n : Nat} {a : Addr} (h : am[n]? = some a) : am'[n]? = some a := by
  obtain ⟨l, e⟩ := x.pre
  rw [e, List.getElem?_append_left]
  · exact h
  · exact (List.getElem?_eq_some_iff.mp h).1
theorem Ext.rdT (x : Ext am H am' H') {a : Addr} {vs : List V} (h : SqT K H a vs) : SqT K H' a vs := by
  rcases h with (h | ⟨o, h⟩) | h
  · exact .inl (.inl (x.tup _ _ h))
  · exact .inl (.inr ⟨o, x.frz _ _ _ h⟩)
  · exact .inr h
theorem tupT {a : Addr} {vs : List V} (h : H a = some (.tup vs)) : SqT K H a vs := .inl (.inl h)
theorem ktT {a : Addr} {vs : List V} (h : KT K a vs) : SqT K H a vs := .inr h
mutual
theorem RepV.ext0 (x : Ext0 am H am' H') : ∀ (d : D) (v : V), RepV K am H d v → RepV K am' H' d v
  | .non, _, h => by simpa [RepV] using h
  | .bl _, _, h => by simpa [RepV] using h
  | .int _, _, h => by simpa [RepV] using h
  | .str _, _, h => by simpa [RepV] using h
  | .ty _, _, h => by simpa [RepV] using h
  | .tup ds, v, h => by
    unfold RepV at h ⊢
    obtain ⟨a, vs, e, h1, h2⟩ := h
    exact ⟨a, vs, e, x.tup _ _ h1, RepVs.ext0 x ds vs h2⟩
  | .kt ds, v, h => by
    unfold RepV at h ⊢
    obtain ⟨a, vs, e, h1, h2⟩ := h
    exact ⟨a, vs, e, h1, RepVs.ext0 x ds vs h2⟩
  | .ob n, v, h => by
    unfold RepV at h ⊢
    obtain ⟨a, e, h⟩ := h
    exact ⟨a, x.get e, h⟩
  | .rng lo hi, v, h => by
    unfold RepV at h ⊢
    obtain ⟨a, e, h⟩ := h
    exact ⟨a, e, x.rng _ _ _ h⟩
theorem RepVs.ext0 (x : Ext0 am H am' H') : ∀ (ds : List D) (vs : List V), RepVs K am H ds vs → RepVs K am' H' ds vs
  | [], _, h => by simpa [RepVs] using h
  | d :: ds, vs, h => by
    unfold RepVs at h ⊢
    obtain ⟨v, r, e, h1, h2⟩ := h
    exact ⟨v, r, e, RepV.ext0 x d v h1, RepVs.ext0 x ds r h2⟩
end
theorem RepV.ext (x : Ext am H am' H') (d : D) (v : V) (h : RepV K am H d v) : RepV K am' H' d v := RepV.ext0 x.z d v h
theorem RepVs.ext (x : Ext am H am' H') (ds : List D) (vs : List V) (h : RepVs K am H ds vs) : RepVs K am' H' ds vs := RepVs.ext0 x.z ds vs h
theorem RepN.ext (x : Ext am H am' H') (h : RepN K am H env σ) : RepN K am' H' env σ := ⟨h.len, fun i d e => by
  obtain ⟨v, e', r⟩ := h.at_ i d e
  exact ⟨v, e', RepV.ext x d v r⟩⟩
theorem RepN.ext0 (x : Ext0 am H am' H') (h : RepN K am H env σ) : RepN K am' H' env σ := ⟨h.len, fun i d e => by
  obtain ⟨v, e', r⟩ := h.at_ i d e
  exact ⟨v, e', RepV.ext0 x d v r⟩⟩
/-- the cell of an object: what is untouched stays -/
theorem RepC.ext (x : Ext0 am H am' H') {c : Cell} {a : Addr} (h : RepC K am H c a) (same : H' a = H a) : RepC K am' H' c a := by
  cases c with
  | lst ds => obtain ⟨vs, e, r⟩ := h; exact ⟨vs, by rw [same]; exact e, RepVs.ext0 x _ _ r⟩
  | fro ds => obtain ⟨vs, ⟨o, e⟩, r⟩ := h; exact ⟨vs, ⟨o, by rw [same]; exact e⟩, RepVs.ext0 x _ _ r⟩
  | dK kds => obtain ⟨vs, e, k, r⟩ := h; exact ⟨vs, by rw [same]; exact e, k, RepVs.ext0 x _ _ r⟩
  | dT kds => obtain ⟨vs, e, k, r⟩ := h; exact ⟨vs, by rw [same]; exact e, k, RepVs.ext0 x _ _ r⟩
  | ins C fs => obtain ⟨dx, vs, e, k, r⟩ := h; exact ⟨dx, vs, by rw [same]; exact e, k, RepVs.ext0 x _ _ r⟩
theorem RepC.some {c : Cell} {a : Addr} (h : RepC K am H c a) : ∃ o, H a = some o ∧ (∀ xs, o ≠ .tup xs) ∧ (∀ lo hi, o ≠ .rng lo hi) ∧ ((∃ b u, o = .frz b u) → ∃ ds, c = .fro ds) := by
  cases c with
  | lst ds => obtain ⟨vs, e, r⟩ := h; exact ⟨_, e, (fun _ h => nomatch h), (fun _ _ h => nomatch h), (fun ⟨_, _, h⟩ => nomatch h)⟩
  | fro ds => obtain ⟨vs, ⟨o, e⟩, r⟩ := h; exact ⟨_, e, (fun _ h => nomatch h), (fun _ _ h => nomatch h), (fun _ => ⟨ds, rfl⟩)⟩
  | dK kds => obtain ⟨vs, e, k, r⟩ := h; exact ⟨_, e, (fun _ h => nomatch h), (fun _ _ h => nomatch h), (fun ⟨_, _, h⟩ => nomatch h)⟩
  | dT kds => obtain ⟨vs, e, k, r⟩ := h; exact ⟨_, e, (fun _ h => nomatch h), (fun _ _ h => nomatch h), (fun ⟨_, _, h⟩ => nomatch h)⟩
  | ins C fs => obtain ⟨dx, vs, e, k, r⟩ := h; exact ⟨_, e, (fun _ h => nomatch h), (fun _ _ h => nomatch h), (fun ⟨_, _, h⟩ => nomatch h)⟩
theorem RepS.at_ (s : RepS K am H st) {n : Nat} {c : Cell} (h : st[n]? = some c) : ∃ a, am[n]? = some a ∧ RepC K am H c a := by
  have hn : n < am.length := by rw [s.len]; exact (List.getElem?_eq_some_iff.mp h).1
  exact ⟨am[n], List.getElem?_eq_getElem hn, s.cell n _ c (List.getElem?_eq_getElem hn) h⟩
theorem RepS.mem (s : RepS K am H st) {a : Addr} (h : a ∈ am) : ∃ (n : Nat) (c : Cell), am[n]? = some a ∧ st[n]? = some c ∧ RepC K am H c a := by
  obtain ⟨n, hn⟩ := List.getElem?_of_mem h
  have : n < st.length := by rw [← s.len]; exact (List.getElem?_eq_some_iff.mp hn).1
  exact ⟨n, st[n], hn, List.getElem?_eq_getElem this, s.cell n a _ hn (List.getElem?_eq_getElem this)⟩
theorem RepS.notNone (s : RepS K am H st) {a : Addr} (h : a ∈ am) : H a ≠ none := by
  obtain ⟨n, c, _, _, r⟩ := s.mem h
  obtain ⟨o, e, _⟩ := r.some
  rw [e]; exact fun z => by cases z
/-- a fresh object that is not told of -/
theorem Ext.fresh {p : Addr} {o : HO} (h : H p = none) : Ext am H am (upd H p o) := by
  have k : ∀ a u, H a = some u → upd H p o a = some u := fun a u e => by rw [upd_ne (ne_of_none e h)]; exact e
  exact ⟨⟨[], by simp⟩, fun _ h => .inl h, fun a u _ e => k a u e, fun a xs e => k a _ e, fun a u v e => k a _ e, fun a lo hi e => k a _ e⟩
/-- a fresh object that is told of -/
theorem Ext.alloc {p : Addr} {o : HO} (h : H p = none) : Ext am H (am ++ [p]) (upd H p o) := by
  have k : ∀ a u, H a = some u → upd H p o a = some u := fun a u e => by rw [upd_ne (ne_of_none e h)]; exact e
  refine ⟨⟨[p], rfl⟩, fun a ha => ?_, fun a u _ e => k a u e, fun a xs e => k a _ e, fun a u v e => k a _ e, fun a lo hi e => k a _ e⟩
  rcases List.mem_append.mp ha with h1 | h1
  · exact .inl h1
  · rw [List.mem_singleton.mp h1]; exact .inr h
/-- a told object is changed -/
theorem Ext.mut {p : Addr} {o u : HO} (hm : p ∈ am) (hu : H p = some u) (h1 : ∀ xs, u ≠ .tup xs) (h2 : ∀ lo hi, u ≠ .rng lo hi) (h3 : ∀ b z, u ≠ .frz b z) : Ext am H am (upd H p o) := by
  have k : ∀ a v, H a = some v → v ≠ u → upd H p o a = some v := fun a v e ne => by
    by_cases ea : a = p
    · subst ea; rw [hu] at e; exact absurd (Option.some.inj e).symm ne
    · rw [upd_ne ea]; exact e
  refine ⟨⟨[], by simp⟩, fun _ h => .inl h, fun a v hn e => ?_, fun a xs e => k a _ e fun z => h1 xs z.symm, fun a b v e => k a _ e fun z => h3 b v z.symm, fun a lo hi e => k a _ e fun z => h2 lo hi z.symm⟩
  by_cases ea : a = p
  · subst ea; exact absurd hm hn
  · rw [upd_ne ea]; exact e
theorem RepS.fresh (s : RepS K am H st) {p : Addr} {o : HO} (h : H p = none) : RepS K am (upd H p o) st :=
  ⟨s.len, s.nd, fun n a c h1 h2 => (s.cell n a c h1 h2).ext (Ext.fresh h).z (upd_ne fun z => by
    obtain ⟨u, e, _⟩ := (s.cell n a c h1 h2).some
    rw [z, h] at e; cases e)⟩
theorem RepS.alloc (s : RepS K am H st) {p : Addr} {o : HO} {c : Cell} (h : H p = none) (hc : RepC K (am ++ [p]) (upd H p o) c p) : RepS K (am ++ [p]) (upd H p o) (st ++ [c]) := by
  have nm : p ∉ am := fun z => s.notNone z h
  refine ⟨by rw [List.length_append, List.length_append, s.len]; rfl, ?_, fun n a c' h1 h2 => ?_⟩
  · rw [List.nodup_append]
    refine ⟨s.nd, List.pairwise_singleton _ _, fun a ha b hb => ?_⟩
    rw [List.mem_singleton.mp hb]
    exact fun z => nm (z ▸ ha)
  · by_cases hn : n < am.length
    · rw [List.getElem?_append_left hn] at h1
      rw [List.getElem?_append_left (by rw [← s.len]; exact hn)] at h2
      refine (s.cell n a c' h1 h2).ext (Ext.alloc h).z (upd_ne fun z => ?_)
      subst z
      exact nm (List.mem_of_getElem? h1)
    · have e : n = am.length := by
        have := (List.getElem?_eq_some_iff.mp h1).1
        rw [List.length_append] at this
        simp at this; omega
      subst e
      rw [List.getElem?_append_right (Nat.le_refl _), Nat.sub_self] at h1
      rw [s.len, List.getElem?_append_right (Nat.le_refl _), Nat.sub_self] at h2
      simp at h1 h2
      subst h1; subst h2
      exact hc
theorem RepS.put (s : RepS K am H st) {n : Nat} {p : Addr} {o u : HO} {c : Cell} (hn : am[n]? = some p) (hu : H p = some u) (h1 : ∀ xs, u ≠ .tup xs) (h2 : ∀ lo hi, u ≠ .rng lo hi) (h3 : ∀ b z, u ≠ .frz b z)
    (hc : RepC K am (upd H p o) c p) : RepS K am (upd H p o) (st.set n c) := by
  have hm : p ∈ am := List.mem_of_getElem? hn
  refine ⟨by rw [List.length_set]; exact s.len, s.nd, fun m a c' e1 e2 => ?_⟩
  by_cases hmn : m = n
  · subst hmn
    rw [hn] at e1; cases e1
    have hl : m < st.length := by rw [← s.len]; exact (List.getElem?_eq_some_iff.mp hn).1
    rw [List.getElem?_set_self hl] at e2
    cases e2
    exact hc
  · rw [List.getElem?_set_ne (Ne.symm hmn)] at e2
    refine (s.cell m a c' e1 e2).ext (Ext.mut hm hu h1 h2 h3).z (upd_ne fun z => ?_)
    subst z
    obtain ⟨l1, q1⟩ := List.getElem?_eq_some_iff.mp e1
    obtain ⟨l2, q2⟩ := List.getElem?_eq_some_iff.mp hn
    exact hmn ((List.getElem_inj s.nd).mp (q1.trans q2.symm))
end

section
variable {am : List Addr} {H : Hp}
theorem RepVs.length : ∀ {ds : List D} {vs : List V}, RepVs K am H ds vs → ds.length = vs.length
  | [], _, h => by unfold RepVs at h; rw [h]; rfl
  | d :: ds, vs, h => by
    unfold RepVs at h
    obtain ⟨v, r, e, _, h⟩ := h
    rw [e, List.length_cons, List.length_cons, RepVs.length h]
theorem RepVs.get : ∀ {ds : List D} {vs : List V} {i : Nat} {d : D}, RepVs K am H ds vs → ds[i]? = some d → ∃ v, vs[i]? = some v ∧ RepV K am H d v
  | [], _, _, _, _, e => by simp at e
  | d :: ds, vs, 0, d', h, e => by
    unfold RepVs at h
    obtain ⟨v, r, ev, h1, _⟩ := h
    simp at e; subst e
    exact ⟨v, by rw [ev]; rfl, h1⟩
  | d :: ds, vs, i + 1, d', h, e => by
    unfold RepVs at h
    obtain ⟨v, r, ev, _, h2⟩ := h
    obtain ⟨w, q, hw⟩ := RepVs.get (i := i) h2 (by simpa using e)
    exact ⟨w, by rw [ev]; simpa using q, hw⟩
theorem RepVs.append : ∀ {ds es : List D} {vs us : List V}, RepVs K am H ds vs → RepVs K am H es us → RepVs K am H (ds ++ es) (vs ++ us)
  | [], _, _, _, h, h' => by unfold RepVs at h; rw [h]; exact h'
  | d :: ds, es, vs, us, h, h' => by
    unfold RepVs at h
    obtain ⟨v, r, ev, h1, h2⟩ := h
    rw [ev, List.cons_append, List.cons_append]
    unfold RepVs
    exact ⟨v, r ++ us, rfl, h1, RepVs.append h2 h'⟩
theorem RepVs.nil : RepVs K am H [] [] := by unfold RepVs; rfl
theorem RepVs.cons {d : D} {ds : List D} {v : V} {vs : List V} (h : RepV K am H d v) (h' : RepVs K am H ds vs) : RepVs K am H (d :: ds) (v :: vs) := by
  unfold RepVs; exact ⟨v, vs, rfl, h, h'⟩
theorem RepVs.take : ∀ {ds : List D} {vs : List V} (n : Nat), RepVs K am H ds vs → RepVs K am H (ds.take n) (vs.take n)
  | [], _, n, h => by unfold RepVs at h; rw [h]; simp [RepVs]
  | d :: ds, vs, 0, h => by simp [RepVs]
  | d :: ds, vs, n + 1, h => by
    unfold RepVs at h
    obtain ⟨v, r, ev, h1, h2⟩ := h
    rw [ev]
    exact .cons h1 (RepVs.take n h2)
theorem RepVs.drop : ∀ {ds : List D} {vs : List V} (n : Nat), RepVs K am H ds vs → RepVs K am H (ds.drop n) (vs.drop n)
  | [], _, n, h => by unfold RepVs at h; rw [h]; simp [RepVs]
  | d :: ds, vs, 0, h => h
  | d :: ds, vs, n + 1, h => by
    unfold RepVs at h
    obtain ⟨v, r, ev, h1, h2⟩ := h
    rw [ev]
    exact RepVs.drop n h2
theorem RepVs.set : ∀ {ds : List D} {vs : List V} {d : D} {v : V} (n : Nat), RepVs K am H ds vs → RepV K am H d v → RepVs K am H (ds.set n d) (vs.set n v)
  | [], _, _, _, n, h, _ => by unfold RepVs at h; rw [h]; simp [RepVs]
  | d :: ds, vs, d', v', 0, h, h' => by
    unfold RepVs at h
    obtain ⟨v, r, ev, h1, h2⟩ := h
    rw [ev]
    exact .cons h' h2
  | d :: ds, vs, d', v', n + 1, h, h' => by
    unfold RepVs at h
    obtain ⟨v, r, ev, h1, h2⟩ := h
    rw [ev]
    exact .cons h1 (RepVs.set n h2 h')
theorem RepVs.reverse : ∀ {ds : List D} {vs : List V}, RepVs K am H ds vs → RepVs K am H ds.reverse vs.reverse
  | [], _, h => by unfold RepVs at h; rw [h]; simp [RepVs]
  | d :: ds, vs, h => by
    unfold RepVs at h
    obtain ⟨v, r, ev, h1, h2⟩ := h
    rw [ev, List.reverse_cons, List.reverse_cons]
    exact (RepVs.reverse h2).append (.cons h1 .nil)
end
section
variable {am am' : List Addr} {H H' : Hp} {st : Sto}
theorem get_more {l : List Addr} {n : Nat} {a : Addr} (h : am[n]? = some a) : (am ++ l)[n]? = some a := by
  rw [List.getElem?_append_left (List.getElem?_eq_some_iff.mp h).1]
  exact h
mutual
theorem RepV.more (l : List Addr) : ∀ (d : D) (v : V), RepV K am H d v → RepV K (am ++ l) H d v
  | .non, _, h => by simpa [RepV] using h
  | .bl _, _, h => by simpa [RepV] using h
  | .int _, _, h => by simpa [RepV] using h
  | .str _, _, h => by simpa [RepV] using h
  | .ty _, _, h => by simpa [RepV] using h
  | .tup ds, v, h => by
    unfold RepV at h ⊢
    obtain ⟨a, vs, e, h1, h2⟩ := h
    exact ⟨a, vs, e, h1, RepVs.more l ds vs h2⟩
  | .kt ds, v, h => by
    unfold RepV at h ⊢
    obtain ⟨a, vs, e, h1, h2⟩ := h
    exact ⟨a, vs, e, h1, RepVs.more l ds vs h2⟩
  | .ob n, v, h => by
    unfold RepV at h ⊢
    obtain ⟨a, e, h⟩ := h
    exact ⟨a, get_more e, h⟩
  | .rng lo hi, v, h => by unfold RepV at h ⊢; exact h
theorem RepVs.more (l : List Addr) : ∀ (ds : List D) (vs : List V), RepVs K am H ds vs → RepVs K (am ++ l) H ds vs
  | [], _, h => by simpa [RepVs] using h
  | d :: ds, vs, h => by
    unfold RepVs at h ⊢
    obtain ⟨v, r, e, h1, h2⟩ := h
    exact ⟨v, r, e, RepV.more l d v h1, RepVs.more l ds r h2⟩
end
theorem RepC.more (l : List Addr) {c : Cell} {a : Addr} (h : RepC K am H c a) : RepC K (am ++ l) H c a := by
  cases c with
  | lst ds => obtain ⟨vs, e, r⟩ := h; exact ⟨vs, e, RepVs.more l _ _ r⟩
  | fro ds => obtain ⟨vs, e, r⟩ := h; exact ⟨vs, e, RepVs.more l _ _ r⟩
  | dK kds => obtain ⟨vs, e, k, r⟩ := h; exact ⟨vs, e, k, RepVs.more l _ _ r⟩
  | dT kds => obtain ⟨vs, e, k, r⟩ := h; exact ⟨vs, e, k, RepVs.more l _ _ r⟩
  | ins C fs => obtain ⟨dx, vs, e, k, r⟩ := h; exact ⟨dx, vs, e, k, RepVs.more l _ _ r⟩
/-- an object that stood untold is told of -/
theorem RepS.tell (s : RepS K am H st) {p : Addr} {c : Cell} (nm : p ∉ am) (hc : RepC K (am ++ [p]) H c p) : RepS K (am ++ [p]) H (st ++ [c]) := by
  refine ⟨by rw [List.length_append, List.length_append, s.len]; rfl, ?_, fun n a c' h1 h2 => ?_⟩
  · rw [List.nodup_append]
    refine ⟨s.nd, List.pairwise_singleton _ _, fun a ha b hb => ?_⟩
    rw [List.mem_singleton.mp hb]
    exact fun z => nm (z ▸ ha)
  · by_cases hn : n < am.length
    · rw [List.getElem?_append_left hn] at h1
      rw [List.getElem?_append_left (by rw [← s.len]; exact hn)] at h2
      exact (s.cell n a c' h1 h2).more [p]
    · have e : n = am.length := by
        have := (List.getElem?_eq_some_iff.mp h1).1
        rw [List.length_append] at this
        simp at this; omega
      subst e
      rw [List.getElem?_append_right (Nat.le_refl _), Nat.sub_self] at h1
      rw [s.len, List.getElem?_append_right (Nat.le_refl _), Nat.sub_self] at h2
      simp at h1 h2
      subst h1; subst h2
      exact hc
theorem Ext.tell (x : Ext am H am' H') {p : Addr} (h0 : H p = none) : Ext am H (am' ++ [p]) H' := by
  obtain ⟨l, e⟩ := x.pre
  refine ⟨⟨l ++ [p], by rw [e, List.append_assoc]⟩, fun a ha => ?_, x.fr, x.tup, x.frz, x.rng⟩
  rcases List.mem_append.mp ha with h1 | h1
  · exact x.new a h1
  · rw [List.mem_singleton.mp h1]; exact .inr h0
theorem rep_ob_new (s : RepS K am H st) {p : Addr} : RepV K (am ++ [p]) H (.ob st.length) (.ref p) := by
  unfold RepV
  refine ⟨p, ?_, rfl⟩
  rw [← s.len, List.getElem?_append_right (Nat.le_refl _), Nat.sub_self]
  rfl
/-- a list that nobody has told of grows -/
theorem Ext0.own {p : Addr} {vs : List V} {o : HO} (h : H p = some (.lst vs)) : Ext0 am H am (upd H p o) := by
  refine ⟨⟨[], by simp⟩, fun a xs e => ?_, fun a lo hi e => ?_⟩
  · rw [upd_ne (fun z => by rw [z, h] at e; cases e)]; exact e
  · rw [upd_ne (fun z => by rw [z, h] at e; cases e)]; exact e
theorem RepS.own (s : RepS K am H st) {p : Addr} {vs : List V} {o : HO} (h : H p = some (.lst vs)) (nm : p ∉ am) : RepS K am (upd H p o) st :=
  ⟨s.len, s.nd, fun n a c h1 h2 => (s.cell n a c h1 h2).ext (Ext0.own h) (upd_ne fun z => nm (z ▸ List.mem_of_getElem? h1))⟩
theorem Ext.own (x : Ext am H am' H') {p : Addr} {o : HO} (h : H p = none) : Ext am H am' (upd H' p o) := by
  have k : ∀ a u, H a = some u → a ≠ p := fun a u e z => by rw [z, h] at e; cases e
  exact ⟨x.pre, x.new, fun a u hn e => by rw [upd_ne (k a u e)]; exact x.fr a u hn e, fun a xs e => by rw [upd_ne (k a _ e)]; exact x.tup a xs e,
    fun a u v e => by rw [upd_ne (k a _ e)]; exact x.frz a u v e, fun a lo hi e => by rw [upd_ne (k a _ e)]; exact x.rng a lo hi e⟩
end
end Vd
set_option Elab.async false
set_option linter.all false
set_option maxRecDepth 100000
set_option maxHeartbeats 2000000
/-! Vd1: expressions over data: names, constants, operators, comparisons, tests, displays, subscripts, slices. -/
namespace Vd
open PySem PySem.Spec PyProof.Rows L2

abbrev WE := Env' → Sto → (D → Sto → Prop) → Prop
abbrev WA := Env' → Sto → (List D → Sto → Prop) → Prop
abbrev WT := Env' → Sto → (Bool → Sto → Prop) → Prop
structure WEnds where
  nx : Env' → Sto → Prop
  rt : D → Sto → Prop
  bk : Env' → Sto → Prop := fun _ _ => False
  ct : Env' → Sto → Prop := fun _ _ => False
abbrev WS := WEnds → Env' → Sto → Prop

section
variable (K : PySem.W.Frag)
def tD (f : WE) : TE := fun σ H Q => ∃ am env st P, RepN K am H env σ ∧ RepS K am H st ∧ f env st P ∧ ∀ am' H' v d st', Ext am H am' H' → RepS K am' H' st' → RepV K am' H' d v → P d st' → Q v H'
def tDb (f : WT) : TT := fun σ H Q => ∃ am env st P, RepN K am H env σ ∧ RepS K am H st ∧ f env st P ∧ ∀ am' H' b st', Ext am H am' H' → RepS K am' H' st' → P b st' → Q b H'
def tDa (f : WA) : TA := fun σ H Q => ∃ am env st P, RepN K am H env σ ∧ RepS K am H st ∧ f env st P ∧ ∀ am' H' vs ds st', Ext am H am' H' → RepS K am' H' st' → RepVs K am' H' ds vs → P ds st' → Q vs H'
/-- a new list that nobody has told of -/
def tDt (f : WA) : TE := fun σ H Q => ∃ am env st P, RepN K am H env σ ∧ RepS K am H st ∧ f env st P ∧ ∀ am' H' p vs ds st', Ext am H am' H' → RepS K am' H' st' → H p = none → H' p = some (.lst vs) → p ∉ am' → RepVs K am' H' ds vs → P ds st' → Q (.ref p) H'
/-- what a list holds -/
def tDl (f : WA) : TE := fun σ H Q => ∃ am env st P, RepN K am H env σ ∧ RepS K am H st ∧ f env st P ∧ ∀ am' H' p vs ds st', Ext am H am' H' → RepS K am' H' st' → SqL K H' p vs → RepVs K am' H' ds vs → P ds st' → Q (.ref p) H'
/-- what a list or a tuple holds -/
def tDq (f : WA) : TE := fun σ H Q => ∃ am env st P, RepN K am H env σ ∧ RepS K am H st ∧ f env st P ∧ ∀ am' H' p vs ds st', Ext am H am' H' → RepS K am' H' st' → SqL K H' p vs ∨ SqT K H' p vs → RepVs K am' H' ds vs → P ds st' → Q (.ref p) H'
end
theorem PE.imp {X : Cx} {e : Expr} {t t' : TE} (h : PE X e t) (i : ∀ σ H Q, t' σ H Q → t σ H Q) : PE X e t' := ⟨fun pins s σ H Q I q => h.run pins s σ H Q I (i σ H Q q)⟩
theorem PT.imp {X : Cx} {e : Expr} {t t' : TT} (h : PT X e t) (i : ∀ σ H Q, t' σ H Q → t σ H Q) : PT X e t' := ⟨fun pins s σ H Q I q => h.run pins s σ H Q I (i σ H Q q)⟩
theorem PA.imp {X : Cx} {e : List Expr} {t t' : TA} (h : PA X e t) (i : ∀ σ H Q, t' σ H Q → t σ H Q) : PA X e t' := ⟨fun pos pins s σ H Q I q => h.run pos pins s σ H Q I (i σ H Q q)⟩

/-! ### the pieces -/
@[simp ↓] def wVar (i : Nat) : WE := fun env st P => match env[i]? with
  | some (some d) => P d st
  | _ => False
@[simp ↓] def wK (d : D) : WE := fun _ st P => P d st
@[simp ↓] def w2 (k : D → D → Sto → (D → Sto → Prop) → Prop) (f g : WE) : WE := fun env st P => f env st fun x s1 => g env s1 fun y s2 => k x y s2 P
@[simp ↓] def w1 (k : D → Sto → (D → Sto → Prop) → Prop) (f : WE) : WE := fun env st P => f env st fun x s1 => k x s1 P
@[simp ↓] def waNil : WA := fun _ st P => P [] st
@[simp ↓] def waCons (f : WE) (g : WA) : WA := fun env st P => f env st fun d s1 => g env s1 fun ds s2 => P (d :: ds) s2
/-- the content of a list at a cell -/
def lstAt (st : Sto) (d : D) (P : List D → Prop) : Prop := match d with
  | .ob n => (match st[n]? with
    | some (.lst xs) => P xs
    | some (.fro xs) => P xs
    | _ => False)
  | _ => False
def seqAt (st : Sto) (d : D) (P : List D → Prop) : Prop := match d with
  | .tup xs => P xs
  | .kt xs => P xs
  | .ob n => (match st[n]? with
    | some (.lst xs) => P xs
    | some (.fro xs) => P xs
    | _ => False)
  | _ => False
@[simp ↓] def wRdL (f : WE) : WA := fun env st P => f env st fun d s1 => lstAt s1 d fun xs => P xs s1
@[simp ↓] def wRdQ (f : WE) : WA := fun env st P => f env st fun d s1 => seqAt s1 d fun xs => P xs s1
@[simp ↓] def wNew (f : WA) : WE := fun env st P => f env st fun ds s1 => P (.ob s1.length) (s1 ++ [.lst ds])

section
variable {X : Cx} {a b c e : Expr} {f g : WE} {h : WT} {pos : Pos} {K : PySem.W.Frag} {am am' : List Addr} {H H' : Hp} {st : Sto} {d : D} {v : V}

theorem lstAt_ok (s : RepS K am H st) (r : RepV K am H d v) {P : List D → Prop} (q : lstAt st d P) : ∃ p vs ds, v = .ref p ∧ SqL K H p vs ∧ RepVs K am H ds vs ∧ P ds := by
  unfold lstAt at q
  cases d with
  | ob n =>
    obtain ⟨p, hp, e⟩ : ∃ a, am[n]? = some a ∧ v = .ref a := by simpa [RepV] using r
    dsimp only at q
    split at q
    · rename_i xs hx
      obtain ⟨vs, hv, rv⟩ := s.cell n p _ hp hx
      exact ⟨p, vs, xs, e, .inl (.inl hv), rv, q⟩
    · rename_i xs hx
      obtain ⟨vs, ⟨o, hv⟩, rv⟩ := s.cell n p _ hp hx
      exact ⟨p, vs, xs, e, .inl (.inr ⟨o, hv⟩), rv, q⟩
    · exact q.elim
  | _ => exact q.elim
theorem seqAt_ok (s : RepS K am H st) (r : RepV K am H d v) {P : List D → Prop} (q : seqAt st d P) : ∃ p vs ds, v = .ref p ∧ (SqL K H p vs ∨ SqT K H p vs) ∧ RepVs K am H ds vs ∧ P ds := by
  cases d with
  | ob n =>
    obtain ⟨p, vs, ds, e, h1, h2, h3⟩ := lstAt_ok (P := P) s r q
    exact ⟨p, vs, ds, e, .inl h1, h2, h3⟩
  | tup xs =>
    obtain ⟨p, vs, e, h1, h2⟩ : ∃ a vs, v = .ref a ∧ H a = some (.tup vs) ∧ RepVs K am H xs vs := by simpa [RepV] using r
    exact ⟨p, vs, xs, e, .inr (tupT h1), h2, q⟩
  | kt xs =>
    obtain ⟨p, vs, e, h1, h2⟩ : ∃ a vs, v = .ref a ∧ KT K a vs ∧ RepVs K am H xs vs := by simpa [RepV] using r
    exact ⟨p, vs, xs, e, .inr (ktT h1), h2, q⟩
  | _ => exact q.elim

/-! ### from one view to another -/
theorem e_rdL (he : PE X e (tD X.K f)) : PE X e (tDl X.K (wRdL f)) := PE.imp he fun σ H Q ⟨am, env, st, P, hn, hs, q, k⟩ => by
  refine ⟨am, env, st, _, hn, hs, q, fun am' H' v d st' x s r z => ?_⟩
  obtain ⟨p, vs, ds, e, h1, h2, h3⟩ := lstAt_ok s r z
  subst e
  exact k am' H' p vs ds st' x s h1 h2 h3
theorem e_rdQ (he : PE X e (tD X.K f)) : PE X e (tDq X.K (wRdQ f)) := PE.imp he fun σ H Q ⟨am, env, st, P, hn, hs, q, k⟩ => by
  refine ⟨am, env, st, _, hn, hs, q, fun am' H' v d st' x s r z => ?_⟩
  obtain ⟨p, vs, ds, e, h1, h2, h3⟩ := seqAt_ok s r z
  subst e
  exact k am' H' p vs ds st' x s h1 h2 h3
theorem e_tl {f : WA} (he : PE X e (tDt X.K f)) : PE X e (tDl X.K f) := PE.imp he fun σ H Q ⟨am, env, st, P, hn, hs, q, k⟩ =>
  ⟨am, env, st, P, hn, hs, q, fun am' H' p vs ds st' x s _ h1 _ r z => k am' H' p vs ds st' x s (.inl (.inl h1)) r z⟩
theorem e_lq {f : WA} (he : PE X e (tDl X.K f)) : PE X e (tDq X.K f) := PE.imp he fun σ H Q ⟨am, env, st, P, hn, hs, q, k⟩ =>
  ⟨am, env, st, P, hn, hs, q, fun am' H' p vs ds st' x s h1 r z => k am' H' p vs ds st' x s (.inl h1) r z⟩
theorem e_new {f : WA} (he : PE X e (tDt X.K f)) : PE X e (tD X.K (wNew f)) := PE.imp he fun σ H Q ⟨am, env, st, P, hn, hs, q, k⟩ => by
  refine ⟨am, env, st, _, hn, hs, q, fun am' H' p vs ds st' x s h0 h1 h2 r z => ?_⟩
  exact k (am' ++ [p]) H' (.ref p) (.ob st'.length) (st' ++ [.lst ds]) (x.tell h0) (s.tell (c := .lst ds) h2 ⟨vs, h1, RepVs.more _ _ _ r⟩) (rep_ob_new s) z

/-! ### names, constants -/
theorem e_var {i : Nat} (he : PE X e (tVar i)) : PE X e (tD X.K (wVar i)) := PE.imp he fun σ H Q ⟨am, env, st, P, hn, hs, q, k⟩ => by
  unfold wVar at q
  split at q
  · rename_i d hd
    obtain ⟨v, ev, r⟩ := hn.at_ i d hd
    exact ⟨v, ev, k am H v d st Ext.refl hs r q⟩
  · exact q.elim
theorem e_k {v : V} (he : PE X e (tC v)) (d : D) (hd : ∀ am H, RepV X.K am H d v) : PE X e (tD X.K (wK d)) := PE.imp he fun σ H Q ⟨am, env, st, P, hn, hs, q, k⟩ => k am H v d st Ext.refl hs (hd am H) q
theorem e_int {i j pos} : PE X (.Constant (.int i) j pos) (tD X.K (wK (.int i))) := e_k pe_int _ fun _ _ => by simp [RepV]
theorem e_bl {i j pos} : PE X (.Constant (.bool i) j pos) (tD X.K (wK (.bl i))) := e_k pe_bl _ fun _ _ => by simp [RepV]
theorem e_non {j pos} : PE X (.Constant .none j pos) (tD X.K (wK .non)) := e_k pe_non _ fun _ _ => by simp [RepV]
theorem e_str {x j pos} : PE X (.Constant (.str x) j pos) (tD X.K (wK (.str x))) := e_k pe_str _ fun _ _ => by simp [RepV]

/-! ### two places -/
def Lk2 (K : PySem.W.Frag) (r : R2) (k : D → D → Sto → (D → Sto → Prop) → Prop) : Prop := ∀ am H st x y vx vy P (Q : VK), RepS K am H st → RepV K am H x vx → RepV K am H y vy → k x y st P →
  (∀ am' H' v d st', Ext am H am' H' → RepS K am' H' st' → RepV K am' H' d v → P d st' → Q v H') → r vx vy H Q
def Lk1 (K : PySem.W.Frag) (r : V → Hp → VK → Prop) (k : D → Sto → (D → Sto → Prop) → Prop) : Prop := ∀ am H st x vx P (Q : VK), RepS K am H st → RepV K am H x vx → k x st P →
  (∀ am' H' v d st', Ext am H am' H' → RepS K am' H' st' → RepV K am' H' d v → P d st' → Q v H') → r vx H Q
theorem to2 {r : R2} {k : D → D → Sto → (D → Sto → Prop) → Prop} (lk : Lk2 K r k) {σ : L2.St} {H : Hp} {Q : VK} (h : tD K (w2 k f g) σ H Q) : tOp r (tD K f) (tD K g) σ H Q := by
  obtain ⟨am, env, st, P, hn, hs, q, kk⟩ := h
  refine ⟨am, env, st, _, hn, hs, q, fun am1 H1 vx x s1 x1 r1 rx q1 => ?_⟩
  refine ⟨am1, env, s1, _, hn.ext x1, r1, q1, fun am2 H2 vy y s2 x2 r2 ry q2 => ?_⟩
  exact lk am2 H2 s2 x y vx vy P Q r2 (RepV.ext x2 _ _ rx) ry q2 fun am3 H3 v d s3 x3 r3 rv p => kk am3 H3 v d s3 ((x1.trans x2).trans x3) r3 rv p
theorem to1 {r : V → Hp → VK → Prop} {k : D → Sto → (D → Sto → Prop) → Prop} (lk : Lk1 K r k) {σ : L2.St} {H : Hp} {Q : VK} (h : tD K (w1 k f) σ H Q) : tUn r (tD K f) σ H Q := by
  obtain ⟨am, env, st, P, hn, hs, q, kk⟩ := h
  refine ⟨am, env, st, _, hn, hs, q, fun am1 H1 vx x s1 x1 r1 rx q1 => ?_⟩
  exact lk am1 H1 s1 x vx P Q r1 rx q1 fun am3 H3 v d s3 x3 r3 rv p => kk am3 H3 v d s3 (x1.trans x3) r3 rv p
theorem e_op {op : Operator} {r : R2} {k : D → D → Sto → (D → Sto → Prop) → Prop} (ho : OpR X (binaryOp op) r) (lk : Lk2 X.K r k) (ha : PE X a (tD X.K f)) (hb : PE X b (tD X.K g)) : PE X (.BinOp a op b pos) (tD X.K (w2 k f g)) :=
  PE.imp (pe_op ho ha hb) fun _ _ _ h => to2 lk h
theorem e_un {op : UnaryOp} {r : V → Hp → VK → Prop} {k : D → Sto → (D → Sto → Prop) → Prop} (ho : UnR X (unaryOp op) r) (lk : Lk1 X.K r k) (ha : PE X a (tD X.K f)) : PE X (.UnaryOp op a pos) (tD X.K (w1 k f)) :=
  PE.imp (pe_un ho ha) fun _ _ _ h => to1 lk h
def rOr (r r' : R2) : R2 := fun x y H Q => r x y H Q ∨ r' x y H Q
def rAddS : R2 := fun x y H Q => ∃ i j, x = .str i ∧ y = .str j ∧ i.length + j.length ≤ sizeLine ∧ Q (.str (i ++ j)) H
theorem OpR.or {F : Value → Value → Sem Value} {r r' : R2} (h : OpR X F r) (h' : OpR X F r') : OpR X F (rOr r r') := fun pins s σ H x y v u Q I rx ry q =>
  q.elim (h pins s σ H x y v u Q I rx ry) (h' pins s σ H x y v u Q I rx ry)
theorem big (n : Nat) (h : n ≤ 100000) : n ≤ sizeLine := Nat.le_trans h (by decide)
theorem bigl (n : Nat) (h : n < 100000) : n < sizeLine := Nat.lt_of_lt_of_le h (by decide)
def kAdd : D → D → Sto → (D → Sto → Prop) → Prop
  | .int i, .int j, st, P => P (.int (i + j)) st
  | .str x, .str y, st, P => x.length + y.length ≤ 100000 ∧ P (.str (x ++ y)) st
  | .tup xs, .tup ys, st, P => xs.length + ys.length ≤ 100000 ∧ P (.tup (xs ++ ys)) st
  | .kt xs, .kt ys, st, P => xs ≠ [] ∧ ys ≠ [] ∧ xs.length + ys.length ≤ 100000 ∧ P (.tup (xs ++ ys)) st
  | .ob n, .ob m, st, P => (match st[n]?, st[m]? with
    | some (.lst xs), some (.lst ys) => xs.length + ys.length ≤ 100000 ∧ P (.ob st.length) (st ++ [.lst (xs ++ ys)])
    | _, _ => False)
  | _, _, _, _ => False
abbrev rAddD (K : PySem.W.Frag) : R2 := rOr (rI0 fun i j => .int (i + j)) (rOr rAddS (rOr (rCatA K) rCat))
theorem op_addD : OpR X (binaryOp .Add) (rAddD X.K) := OpR.or op_add (OpR.or op_add_str (OpR.or op_catA op_cat))
theorem lk_add : Lk2 K (rAddD K) kAdd := fun am H st x y vx vy P Q s rx ry q k => by
  show _ ∨ _ ∨ rCatA K vx vy H Q ∨ _
  unfold kAdd at q
  split at q
  · simp only [RepV] at rx ry
    exact .inl ⟨_, _, rx, ry, k am H _ (.int _) st Ext.refl s (by simp [RepV]) q⟩
  · simp only [RepV] at rx ry
    exact .inr (.inl ⟨_, _, rx, ry, big _ q.1, k am H _ (.str _) st Ext.refl s (by simp [RepV]) q.2⟩)
  · rename_i xs ys
    simp only [RepV] at rx ry
    obtain ⟨a, va, ea, ta, ra⟩ := rx
    obtain ⟨b, vb, eb, tb, rb⟩ := ry
    have la := ra.length
    have lb := rb.length
    refine .inr (.inr (.inl ⟨a, b, va, vb, ea, eb, tupT ta, tupT tb, by rw [← la, ← lb]; exact big _ q.1, fun e => ?_, fun _ e => ?_, fun _ _ p hp => ?_⟩))
    · subst e
      have : xs = [] := List.eq_nil_of_length_eq_zero la
      subst this
      exact k am H _ (.tup ([] ++ ys)) st Ext.refl s (by simp only [RepV]; exact ⟨b, vb, rfl, tb, rb⟩) q.2
    · subst e
      have : ys = [] := List.eq_nil_of_length_eq_zero lb
      subst this
      exact k am H _ (.tup (xs ++ [])) st Ext.refl s (by simp only [RepV, List.append_nil]; exact ⟨a, va, rfl, ta, ra⟩) q.2
    · refine k am (upd H p _) _ (.tup (xs ++ ys)) st (Ext.fresh hp) (s.fresh hp) ?_ q.2
      simp only [RepV]
      exact ⟨p, va ++ vb, rfl, upd_same, RepVs.ext (Ext.fresh hp) _ _ (ra.append rb)⟩
  · rename_i xs ys
    simp only [RepV] at rx ry
    obtain ⟨a, va, ea, ta, ra⟩ := rx
    obtain ⟨b, vb, eb, tb, rb⟩ := ry
    have la := ra.length
    have lb := rb.length
    obtain ⟨q1, q2, q3, q4⟩ := q
    refine .inr (.inr (.inl ⟨a, b, va, vb, ea, eb, ktT ta, ktT tb, by rw [← la, ← lb]; exact big _ q3, fun e => ?_, fun _ e => ?_, fun _ _ p hp => ?_⟩))
    · subst e
      exact absurd (List.eq_nil_of_length_eq_zero la) q1
    · subst e
      exact absurd (List.eq_nil_of_length_eq_zero lb) q2
    · refine k am (upd H p _) _ (.tup (xs ++ ys)) st (Ext.fresh hp) (s.fresh hp) ?_ q4
      simp only [RepV]
      exact ⟨p, va ++ vb, rfl, upd_same, RepVs.ext (Ext.fresh hp) _ _ (ra.append rb)⟩
  · rename_i n m
    simp only [RepV] at rx ry
    obtain ⟨a, ha, ea⟩ := rx
    obtain ⟨b, hb, eb⟩ := ry
    split at q
    · rename_i xs ys hx hy
      obtain ⟨va, h1, ra⟩ := s.cell _ _ _ ha hx
      obtain ⟨vb, h2, rb⟩ := s.cell _ _ _ hb hy
      refine .inr (.inr (.inr ⟨a, b, va, vb, ea, eb, h1, h2, by rw [← ra.length, ← rb.length]; exact big _ q.1, fun p hp => ?_⟩))
      refine k (am ++ [p]) (upd H p _) _ _ _ (Ext.alloc hp) (s.alloc (c := .lst (xs ++ ys)) hp ⟨_, upd_same, ?_⟩) (rep_ob_new (s.fresh hp)) q.2
      exact RepVs.ext (Ext.alloc hp) _ _ (ra.append rb)
    · exact q.elim
  · exact q.elim
/-- two ints -/
def kI (C : Int → Int → Prop) (F : Int → Int → D) : D → D → Sto → (D → Sto → Prop) → Prop := fun x y st P => match x, y with
  | .int i, .int j => C i j ∧ P (F i j) st
  | _, _ => False
theorem lk_I {C : Int → Int → Prop} {F : Int → Int → Int} : Lk2 K (rI C fun i j => .int (F i j)) (kI C fun i j => .int (F i j)) := fun am H st x y vx vy P Q s rx ry q k => by
  unfold kI at q
  split at q
  · simp only [RepV] at rx ry
    exact ⟨_, _, rx, ry, q.1, k am H _ (.int _) st Ext.refl s (by simp [RepV]) q.2⟩
  · exact q.elim
def kI0 (F : Int → Int → D) : D → D → Sto → (D → Sto → Prop) → Prop := fun x y st P => match x, y with
  | .int i, .int j => P (F i j) st
  | _, _ => False
theorem lk_I0 {F : Int → Int → Int} : Lk2 K (rI0 fun i j => .int (F i j)) (kI0 fun i j => .int (F i j)) := fun am H st x y vx vy P Q s rx ry q k => by
  unfold kI0 at q
  split at q
  · simp only [RepV] at rx ry
    exact ⟨_, _, rx, ry, k am H _ (.int _) st Ext.refl s (by simp [RepV]) q⟩
  · exact q.elim
theorem lk_B0 {F : Int → Int → Bool} : Lk2 K (rI0 fun i j => .bl (F i j)) (kI0 fun i j => .bl (F i j)) := fun am H st x y vx vy P Q s rx ry q k => by
  unfold kI0 at q
  split at q
  · simp only [RepV] at rx ry
    exact ⟨_, _, rx, ry, k am H _ (.bl _) st Ext.refl s (by simp [RepV]) q⟩
  · exact q.elim
abbrev kSub := kI0 fun i j => .int (i - j)
abbrev kMod := kI (fun _ j => 0 < j) fun i j => .int (i % j)
abbrev kDiv := kI CDiv fun i j => .int (i / j)
abbrev kPow := kI CPow fun i j => .int (i ^ j.toNat)
abbrev kShl := kI CPow fun i j => .int (i * 2 ^ j.toNat)
abbrev kShr := kI (fun _ j => 0 ≤ j) fun i j => .int (i / 2 ^ j.toNat)
abbrev kXor := kI0 fun i j => .int (Builtin.bitXor i j)
abbrev kAndB := kI0 fun i j => .int (Builtin.bitAnd i j)
def kMul : D → D → Sto → (D → Sto → Prop) → Prop
  | .int i, .int j, st, P => CMul i j ∧ P (.int (i * j)) st
  | .ob n, .int j, st, P => (match st[n]? with
    | some (.lst xs) => j ≤ 100000 ∧ -100000 ≤ j ∧ xs.length * j.toNat ≤ 100000 ∧ P (.ob st.length) (st ++ [.lst (List.replicate j.toNat xs).flatten])
    | _ => False)
  | _, _, _, _ => False
abbrev rMulD : R2 := rOr (rI CMul fun i j => .int (i * j)) rRep
theorem op_mulD : OpR X (binaryOp .Mult) rMulD := OpR.or op_mul op_rep
theorem RepVs.rep {xs : List D} {vs : List V} (r : RepVs K am H xs vs) : ∀ n : Nat, RepVs K am H (List.replicate n xs).flatten (List.replicate n vs).flatten
  | 0 => by simp [RepVs]
  | n + 1 => by
    simp only [List.replicate_succ, List.flatten_cons]
    exact r.append (RepVs.rep r n)
theorem lk_mul : Lk2 K rMulD kMul := fun am H st x y vx vy P Q s rx ry q k => by
  show rI CMul _ vx vy H Q ∨ rRep vx vy H Q
  unfold kMul at q
  split at q
  · simp only [RepV] at rx ry
    exact .inl ⟨_, _, rx, ry, q.1, k am H _ (.int _) st Ext.refl s (by simp [RepV]) q.2⟩
  · rename_i n j
    simp only [RepV] at rx ry
    obtain ⟨a, ha, ea⟩ := rx
    split at q
    · rename_i xs hx
      obtain ⟨q1, q2, q3, q4⟩ := q
      obtain ⟨va, h1, ra⟩ := s.cell _ _ _ ha hx
      refine .inr ⟨a, j, va, ea, ry, h1, by omega, by omega, by rw [← ra.length]; exact big _ q3, fun p hp => ?_⟩
      refine k (am ++ [p]) (upd H p _) _ _ _ (Ext.alloc hp) (s.alloc (c := .lst (List.replicate j.toNat xs).flatten) hp ⟨_, upd_same, ?_⟩) (rep_ob_new (s.fresh hp)) q4
      exact RepVs.ext (Ext.alloc hp) _ _ (RepVs.rep ra _)
    · exact q.elim
  · exact q.elim
theorem e_add (ha : PE X a (tD X.K f)) (hb : PE X b (tD X.K g)) : PE X (.BinOp a .Add b pos) (tD X.K (w2 kAdd f g)) := e_op op_addD lk_add ha hb
theorem e_sub (ha : PE X a (tD X.K f)) (hb : PE X b (tD X.K g)) : PE X (.BinOp a .Sub b pos) (tD X.K (w2 kSub f g)) := e_op op_sub lk_I0 ha hb
theorem e_mul (ha : PE X a (tD X.K f)) (hb : PE X b (tD X.K g)) : PE X (.BinOp a .Mult b pos) (tD X.K (w2 kMul f g)) := e_op op_mulD lk_mul ha hb
theorem e_mod (ha : PE X a (tD X.K f)) (hb : PE X b (tD X.K g)) : PE X (.BinOp a .Mod b pos) (tD X.K (w2 kMod f g)) := e_op op_mod lk_I ha hb
theorem e_div (ha : PE X a (tD X.K f)) (hb : PE X b (tD X.K g)) : PE X (.BinOp a .FloorDiv b pos) (tD X.K (w2 kDiv f g)) := e_op op_fdiv lk_I ha hb
theorem e_pow (ha : PE X a (tD X.K f)) (hb : PE X b (tD X.K g)) : PE X (.BinOp a .Pow b pos) (tD X.K (w2 kPow f g)) := e_op op_pow lk_I ha hb
theorem e_shl (ha : PE X a (tD X.K f)) (hb : PE X b (tD X.K g)) : PE X (.BinOp a .LShift b pos) (tD X.K (w2 kShl f g)) := e_op op_shl lk_I ha hb
theorem e_shr (ha : PE X a (tD X.K f)) (hb : PE X b (tD X.K g)) : PE X (.BinOp a .RShift b pos) (tD X.K (w2 kShr f g)) := e_op op_shr lk_I ha hb
theorem e_xor (ha : PE X a (tD X.K f)) (hb : PE X b (tD X.K g)) : PE X (.BinOp a .BitXor b pos) (tD X.K (w2 kXor f g)) := e_op op_xor lk_I0 ha hb
theorem e_band (ha : PE X a (tD X.K f)) (hb : PE X b (tD X.K g)) : PE X (.BinOp a .BitAnd b pos) (tD X.K (w2 kAndB f g)) := e_op op_and lk_I0 ha hb
end
end Vd
set_option Elab.async false
set_option linter.all false
set_option maxRecDepth 100000
set_option maxHeartbeats 2000000
/-! Vd2: comparisons, tests, displays, subscripts, slices, fields, truth. -/
namespace Vd
open PySem PySem.Spec PyProof.Rows L2
variable {X : Cx} {a b c e : Expr} {f g h : WE} {pos : Pos} {K : PySem.W.Frag} {am am' : List Addr} {H H' : Hp} {st : Sto} {d : D} {v : V}

/-! ### data as the library's data -/
mutual
def toPy : D → Option PyData
  | .non => some .none
  | .bl b => some (.bool b)
  | .int i => some (.int i)
  | .str x => some (.str x)
  | .tup xs => (toPys xs).map .tuple
  | .kt xs => (toPys xs).map .tuple
  | _ => none
def toPys : List D → Option (List PyData)
  | [] => some []
  | d :: ds => (toPy d).bind fun p => (toPys ds).map fun ps => p :: ps
end
/-- .. a list of such, too -/
def toPyS (st : Sto) : D → Option PyData
  | .ob n => (match st[n]? with
    | some (.lst xs) => (toPys xs).map .list
    | some (.fro xs) => (toPys xs).map .list
    | _ => none)
  | d => toPy d
mutual
theorem toPy_ok : ∀ (d : D) (p : PyData) (v : V), toPy d = some p → RepV K am H d v → Dp K H v p
  | .non, p, v, h, r => by
    simp only [toPy, Option.some.injEq] at h; simp only [RepV] at r; subst h; subst r; exact .non
  | .bl b, p, v, h, r => by
    simp only [toPy, Option.some.injEq] at h; simp only [RepV] at r; subst h; subst r; exact .bl b
  | .int i, p, v, h, r => by
    simp only [toPy, Option.some.injEq] at h; simp only [RepV] at r; subst h; subst r; exact .int i
  | .str x, p, v, h, r => by
    simp only [toPy, Option.some.injEq] at h; simp only [RepV] at r; subst h; subst r; exact .str x
  | .tup xs, p, v, h, r => by
    simp only [toPy, Option.map_eq_some_iff] at h
    obtain ⟨ps, hp, e⟩ := h
    subst e
    simp only [RepV] at r
    obtain ⟨q, vs, ev, hs, hr⟩ := r
    subst ev
    exact .tup (tupT hs) (toPys_ok xs ps vs hp hr)
  | .kt xs, p, v, h, r => by
    simp only [toPy, Option.map_eq_some_iff] at h
    obtain ⟨ps, hp, e⟩ := h
    subst e
    simp only [RepV] at r
    obtain ⟨q, vs, ev, hs, hr⟩ := r
    subst ev
    exact .tup (ktT hs) (toPys_ok xs ps vs hp hr)
  | .ob _, _, _, h, _ => by simp [toPy] at h
  | .rng _ _, _, _, h, _ => by simp [toPy] at h
  | .ty _, _, _, h, _ => by simp [toPy] at h
theorem toPys_ok : ∀ (ds : List D) (ps : List PyData) (vs : List V), toPys ds = some ps → RepVs K am H ds vs → DpAll K H vs ps
  | [], ps, vs, h, r => by
    simp only [toPys, Option.some.injEq] at h; simp only [RepVs] at r; subst h; subst r; exact .nil
  | d :: ds, ps, vs, h, r => by
    simp only [toPys, Option.bind_eq_some_iff, Option.map_eq_some_iff] at h
    obtain ⟨p, hp, qs, hq, e⟩ := h
    subst e
    simp only [RepVs] at r
    obtain ⟨v, r', ev, h1, h2⟩ := r
    subst ev
    exact .cons (toPy_ok d p v hp h1) (toPys_ok ds qs r' hq h2)
end
theorem toPyS_ok (s : RepS K am H st) {p : PyData} (h : toPyS st d = some p) (r : RepV K am H d v) : Dp K H v p := by
  unfold toPyS at h
  split at h
  · rename_i n
    simp only [RepV] at r
    obtain ⟨a, ha, e⟩ := r
    subst e
    split at h
    · rename_i xs hx
      obtain ⟨vs, h1, h2⟩ := s.cell _ _ _ ha hx
      obtain ⟨ps, hp, e⟩ := Option.map_eq_some_iff.mp h
      subst e
      exact .lst (.inl (.inl h1)) (toPys_ok _ _ _ hp h2)
    · rename_i xs hx
      obtain ⟨vs, ⟨o, h1⟩, h2⟩ := s.cell _ _ _ ha hx
      obtain ⟨ps, hp, e⟩ := Option.map_eq_some_iff.mp h
      subst e
      exact .lst (.inl (.inr ⟨o, h1⟩)) (toPys_ok _ _ _ hp h2)
    · cases h
  · exact toPy_ok _ _ _ h r

/-! ### comparisons -/
def rOb : R2 := fun x y H Q => False
/-- x == y, told by F of whether they are the same -/
def kEqF (F : Bool → Bool) : D → D → Sto → (D → Sto → Prop) → Prop := fun x y st P => match x, y with
  | .int i, .int j => P (.bl (F (decide (i = j)))) st
  | .str i, .str j => P (.bl (F (decide (i = j)))) st
  | .bl i, .bl j => P (.bl (F (decide (i = j)))) st
  | .non, .non => P (.bl (F true)) st
  | .non, .int _ => P (.bl (F false)) st
  | .int _, .non => P (.bl (F false)) st
  | .non, .str _ => P (.bl (F false)) st
  | .str _, .non => P (.bl (F false)) st
  | x, y => (match toPyS st x, toPyS st y with
    | some p, some q => SeqAt.shaped p = true ∧ SeqAt.shaped q = true ∧ P (.bl (F (PyData.eqv p q))) st
    | _, _ => False)
abbrev kEq := kEqF fun b => b
abbrev kNe := kEqF fun b => !b
theorem hu64 (hu : ∃ k, Room k X.A) : X.A.units + 64 < cLine := by
  obtain ⟨k, r⟩ := hu
  have := r.un
  omega
theorem hu1 (hu : ∃ k, Room k X.A) : X.A.units + 1 < cLine := by
  obtain ⟨k, r⟩ := hu
  have := r.un
  omega
theorem op_eqO (hu : ∃ k, Room k X.A) : OpR X (compareOp .Eq) (rOr rEq (rEqD X.K)) := OpR.or op_eq (op_eqD (hu64 hu))
theorem op_neO (hu : ∃ k, Room k X.A) : OpR X (compareOp .NotEq) (rOr rNe (rNeD X.K)) := OpR.or op_ne (op_neD (hu64 hu))
theorem vi {i j : Int} : decide (V.int i = V.int j) = decide (i = j) := by simp
theorem vs_ {i j : Str} : decide (V.str i = V.str j) = decide (i = j) := by simp
theorem vb {i j : Bool} : decide (V.bl i = V.bl j) = decide (i = j) := by simp
theorem lk_eq : Lk2 K (rOr rEq (rEqD K)) kEq := fun am H st x y vx vy P Q s rx ry q k => by
  unfold kEq kEqF at q
  split at q
  · simp only [RepV] at rx ry; subst rx ry; exact .inl ⟨rfl, by rw [vi]; exact k am H _ (.bl _) st Ext.refl s (by simp only [RepV]) q⟩
  · simp only [RepV] at rx ry; subst rx ry; exact .inl ⟨rfl, by rw [vs_]; exact k am H _ (.bl _) st Ext.refl s (by simp only [RepV]) q⟩
  · simp only [RepV] at rx ry; subst rx ry; exact .inl ⟨rfl, by rw [vb]; exact k am H _ (.bl _) st Ext.refl s (by simp only [RepV]) q⟩
  · simp only [RepV] at rx ry; subst rx ry; exact .inl ⟨rfl, k am H _ (.bl _) st Ext.refl s (by simp only [RepV]; rfl) q⟩
  · simp only [RepV] at rx ry; subst rx ry; exact .inl ⟨rfl, k am H _ (.bl _) st Ext.refl s (by simp only [RepV]; rfl) q⟩
  · simp only [RepV] at rx ry; subst rx ry; exact .inl ⟨rfl, k am H _ (.bl _) st Ext.refl s (by simp only [RepV]; rfl) q⟩
  · simp only [RepV] at rx ry; subst rx ry; exact .inl ⟨rfl, k am H _ (.bl _) st Ext.refl s (by simp only [RepV]; rfl) q⟩
  · simp only [RepV] at rx ry; subst rx ry; exact .inl ⟨rfl, k am H _ (.bl _) st Ext.refl s (by simp only [RepV]; rfl) q⟩
  · split at q
    · rename_i p p' hp hp'
      exact .inr ⟨p, p', toPyS_ok s hp rx, toPyS_ok s hp' ry, q.1, q.2.1, k am H _ (.bl _) st Ext.refl s (by simp only [RepV]) q.2.2⟩
    · exact q.elim
theorem lk_ne : Lk2 K (rOr rNe (rNeD K)) kNe := fun am H st x y vx vy P Q s rx ry q k => by
  unfold kNe kEqF at q
  split at q
  · simp only [RepV] at rx ry; subst rx ry; exact .inl ⟨rfl, by rw [vi]; exact k am H _ (.bl _) st Ext.refl s (by simp only [RepV]) q⟩
  · simp only [RepV] at rx ry; subst rx ry; exact .inl ⟨rfl, by rw [vs_]; exact k am H _ (.bl _) st Ext.refl s (by simp only [RepV]) q⟩
  · simp only [RepV] at rx ry; subst rx ry; exact .inl ⟨rfl, by rw [vb]; exact k am H _ (.bl _) st Ext.refl s (by simp only [RepV]) q⟩
  · simp only [RepV] at rx ry; subst rx ry; exact .inl ⟨rfl, k am H _ (.bl _) st Ext.refl s (by simp only [RepV]; rfl) q⟩
  · simp only [RepV] at rx ry; subst rx ry; exact .inl ⟨rfl, k am H _ (.bl _) st Ext.refl s (by simp only [RepV]; rfl) q⟩
  · simp only [RepV] at rx ry; subst rx ry; exact .inl ⟨rfl, k am H _ (.bl _) st Ext.refl s (by simp only [RepV]; rfl) q⟩
  · simp only [RepV] at rx ry; subst rx ry; exact .inl ⟨rfl, k am H _ (.bl _) st Ext.refl s (by simp only [RepV]; rfl) q⟩
  · simp only [RepV] at rx ry; subst rx ry; exact .inl ⟨rfl, k am H _ (.bl _) st Ext.refl s (by simp only [RepV]; rfl) q⟩
  · split at q
    · rename_i p p' hp hp'
      exact .inr ⟨p, p', toPyS_ok s hp rx, toPyS_ok s hp' ry, q.1, q.2.1, k am H _ (.bl _) st Ext.refl s (by simp only [RepV]) q.2.2⟩
    · exact q.elim
theorem e_cmpR {op : CmpOp} {r : R2} {k : D → D → Sto → (D → Sto → Prop) → Prop} (ho : OpR X (compareOp op) r) (lk : Lk2 X.K r k) (hm : behindInMarks op b = false) (ha : PE X a (tD X.K f)) (hb : PE X b (tD X.K g)) :
    PE X (.Compare a [op] [b] pos) (tD X.K (w2 k f g)) := PE.imp (pe_cmpR ho ha hb hm) fun _ _ _ h => to2 lk h
theorem e_eq (hu : ∃ k, Room k X.A) (ha : PE X a (tD X.K f)) (hb : PE X b (tD X.K g)) : PE X (.Compare a [.Eq] [b] pos) (tD X.K (w2 kEq f g)) := e_cmpR (op_eqO hu) lk_eq (nobehind b (by decide) (by decide)) ha hb
theorem e_ne (hu : ∃ k, Room k X.A) (ha : PE X a (tD X.K f)) (hb : PE X b (tD X.K g)) : PE X (.Compare a [.NotEq] [b] pos) (tD X.K (w2 kNe f g)) := e_cmpR (op_neO hu) lk_ne (nobehind b (by decide) (by decide)) ha hb
abbrev kLt := kI0 fun i j => .bl (decide (i < j))
abbrev kLe := kI0 fun i j => .bl (decide (i ≤ j))
abbrev kGt := kI0 fun i j => .bl (decide (j < i))
abbrev kGe := kI0 fun i j => .bl (decide (j ≤ i))
theorem e_lt (ha : PE X a (tD X.K f)) (hb : PE X b (tD X.K g)) : PE X (.Compare a [.Lt] [b] pos) (tD X.K (w2 kLt f g)) := e_cmpR op_lt lk_B0 (nobehind b (by decide) (by decide)) ha hb
theorem e_le (ha : PE X a (tD X.K f)) (hb : PE X b (tD X.K g)) : PE X (.Compare a [.LtE] [b] pos) (tD X.K (w2 kLe f g)) := e_cmpR op_le lk_B0 (nobehind b (by decide) (by decide)) ha hb
theorem e_gt (ha : PE X a (tD X.K f)) (hb : PE X b (tD X.K g)) : PE X (.Compare a [.Gt] [b] pos) (tD X.K (w2 kGt f g)) := e_cmpR op_gt lk_B0 (nobehind b (by decide) (by decide)) ha hb
theorem e_ge (ha : PE X a (tD X.K f)) (hb : PE X b (tD X.K g)) : PE X (.Compare a [.GtE] [b] pos) (tD X.K (w2 kGe f g)) := e_cmpR op_ge lk_B0 (nobehind b (by decide) (by decide)) ha hb
/-- is, of None and bools -/
def kIsF (F : Bool → Bool) : D → D → Sto → (D → Sto → Prop) → Prop := fun x y st P => match x, y with
  | .non, .non => P (.bl (F true)) st
  | .bl i, .bl j => P (.bl (F (decide (i = j)))) st
  | .int _, .non => P (.bl (F false)) st
  | .str _, .non => P (.bl (F false)) st
  | .tup _, .non => P (.bl (F false)) st
  | .ob _, .non => P (.bl (F false)) st
  | .bl _, .non => P (.bl (F false)) st
  | _, _ => False
abbrev kIs := kIsF fun b => b
abbrev kIsNot := kIsF fun b => !b
def rIsN0 : R2 := fun x y H Q => y = .non ∧ Q (.bl (decide (x = .non))) H
def rIsNN : R2 := fun x y H Q => y = .non ∧ Q (.bl (!decide (x = .non))) H
def rIsBl : R2 := fun x y H Q => ∃ a b, x = .bl a ∧ y = .bl b ∧ Q (.bl (decide (a = b))) H
def rIsBlN : R2 := fun x y H Q => ∃ a b, x = .bl a ∧ y = .bl b ∧ Q (.bl (!decide (a = b))) H
theorem lk_is : Lk2 K (rOr rIsN0 rIsBl) kIs := fun am H st x y vx vy P Q s rx ry q k => by
  unfold kIs kIsF at q
  split at q
  · simp only [RepV] at rx ry; subst rx ry; exact .inl ⟨rfl, k am H _ (.bl _) st Ext.refl s (by simp [RepV]) q⟩
  · simp only [RepV] at rx ry; subst rx ry; exact .inr ⟨_, _, rfl, rfl, k am H _ (.bl _) st Ext.refl s (by simp [RepV]) q⟩
  · simp only [RepV] at rx ry; subst rx ry; exact .inl ⟨rfl, k am H _ (.bl _) st Ext.refl s (by simp [RepV]) q⟩
  · simp only [RepV] at rx ry; subst rx ry; exact .inl ⟨rfl, k am H _ (.bl _) st Ext.refl s (by simp [RepV]) q⟩
  · simp only [RepV] at rx ry; obtain ⟨p, _, rx, _⟩ := rx; subst rx ry; exact .inl ⟨rfl, k am H _ (.bl _) st Ext.refl s (by simp [RepV]) q⟩
  · simp only [RepV] at rx ry; obtain ⟨p, _, rx⟩ := rx; subst rx ry; exact .inl ⟨rfl, k am H _ (.bl _) st Ext.refl s (by simp [RepV]) q⟩
  · simp only [RepV] at rx ry; subst rx ry; exact .inl ⟨rfl, k am H _ (.bl _) st Ext.refl s (by simp [RepV]) q⟩
  · exact q.elim
theorem lk_isNot : Lk2 K (rOr rIsNN rIsBlN) kIsNot := fun am H st x y vx vy P Q s rx ry q k => by
  unfold kIsNot kIsF at q
  split at q
  · simp only [RepV] at rx ry; subst rx ry; exact .inl ⟨rfl, k am H _ (.bl _) st Ext.refl s (by simp [RepV]) q⟩
  · simp only [RepV] at rx ry; subst rx ry; exact .inr ⟨_, _, rfl, rfl, k am H _ (.bl _) st Ext.refl s (by simp [RepV]) q⟩
  · simp only [RepV] at rx ry; subst rx ry; exact .inl ⟨rfl, k am H _ (.bl _) st Ext.refl s (by simp [RepV]) q⟩
  · simp only [RepV] at rx ry; subst rx ry; exact .inl ⟨rfl, k am H _ (.bl _) st Ext.refl s (by simp [RepV]) q⟩
  · simp only [RepV] at rx ry; obtain ⟨p, _, rx, _⟩ := rx; subst rx ry; exact .inl ⟨rfl, k am H _ (.bl _) st Ext.refl s (by simp [RepV]) q⟩
  · simp only [RepV] at rx ry; obtain ⟨p, _, rx⟩ := rx; subst rx ry; exact .inl ⟨rfl, k am H _ (.bl _) st Ext.refl s (by simp [RepV]) q⟩
  · simp only [RepV] at rx ry; subst rx ry; exact .inl ⟨rfl, k am H _ (.bl _) st Ext.refl s (by simp [RepV]) q⟩
  · exact q.elim
theorem op_isO : OpR X (compareOp .Is) (rOr rIsN0 rIsBl) := OpR.or op_isN op_is_bl
theorem op_isNotO : OpR X (compareOp .IsNot) (rOr rIsNN rIsBlN) := OpR.or op_notN op_isnot_bl
theorem e_is (ha : PE X a (tD X.K f)) (hb : PE X b (tD X.K g)) : PE X (.Compare a [.Is] [b] pos) (tD X.K (w2 kIs f g)) := e_cmpR op_isO lk_is (nobehind b (by decide) (by decide)) ha hb
theorem e_isNot (ha : PE X a (tD X.K f)) (hb : PE X b (tD X.K g)) : PE X (.Compare a [.IsNot] [b] pos) (tD X.K (w2 kIsNot f g)) := e_cmpR op_isNotO lk_isNot (nobehind b (by decide) (by decide)) ha hb

/-! ### in -/
/-- a flat value -/
def flatD : D → Option V
  | .non => some .non
  | .bl b => some (.bl b)
  | .int i => some (.int i)
  | .str x => some (.str x)
  | _ => none
theorem flatD_ok {w : V} (h : flatD d = some w) (r : RepV K am H d v) : v = w ∧ flatV v = true := by
  cases d <;> simp only [flatD, Option.some.injEq, reduceCtorEq] at h <;> simp only [RepV] at r <;> subst h <;> subst r <;> exact ⟨rfl, rfl⟩
def flatsD : List D → Option (List V)
  | [] => some []
  | d :: ds => (flatD d).bind fun v => (flatsD ds).map fun vs => v :: vs
theorem flatsD_ok : ∀ {ds : List D} {ws vs : List V}, flatsD ds = some ws → RepVs K am H ds vs → vs = ws ∧ vs.all flatV = true
  | [], ws, vs, h, r => by
    simp only [flatsD, Option.some.injEq] at h; simp only [RepVs] at r; subst h; subst r; exact ⟨rfl, rfl⟩
  | d :: ds, ws, vs, h, r => by
    simp only [flatsD, Option.bind_eq_some_iff, Option.map_eq_some_iff] at h
    obtain ⟨w, hw, us, hu, e⟩ := h
    simp only [RepVs] at r
    obtain ⟨v, r', ev, h1, h2⟩ := r
    obtain ⟨e1, f1⟩ := flatD_ok hw h1
    obtain ⟨e2, f2⟩ := flatsD_ok hu h2
    subst e ev e1 e2
    exact ⟨rfl, by simp only [List.all_cons, f1, f2]; rfl⟩
/-- keys -/
def keyD : D → Option Key
  | .int i => some (.inl i)
  | .str x => some (.inr x)
  | _ => none
def keysD : List D → Option (List Key)
  | [] => some []
  | d :: ds => (keyD d).bind fun k => (keysD ds).map fun ks => k :: ks
theorem keyD_ok {k : Key} (h : keyD d = some k) (r : RepV K am H d v) : v = kV k := by
  cases d <;> simp only [keyD, Option.some.injEq, reduceCtorEq] at h <;> simp only [RepV] at r <;> subst h <;> subst r <;> rfl
theorem keysD_ok : ∀ {ds : List D} {ks : List Key} {vs : List V}, keysD ds = some ks → RepVs K am H ds vs → vs = ks.map kV
  | [], ks, vs, h, r => by
    simp only [keysD, Option.some.injEq] at h; simp only [RepVs] at r; subst h; subst r; rfl
  | d :: ds, ks, vs, h, r => by
    simp only [keysD, Option.bind_eq_some_iff, Option.map_eq_some_iff] at h
    obtain ⟨w, hw, us, hu, e⟩ := h
    simp only [RepVs] at r
    obtain ⟨v, r', ev, h1, h2⟩ := r
    have e1 := keyD_ok hw h1
    have e2 := keysD_ok hu h2
    subst e ev e1 e2
    rfl
/-- what a dict gives for a key -/
def dGet {κ : Type} [DecidableEq κ] (kvs : List (κ × D)) (k : κ) : Option D := (kvs.find? fun p => decide (p.1 = k)).map (·.2)
/-- the cell's answer to a key: none where it is no such dict -/
def lookD (c : Cell) (k : D) : Option (Option D) := match c, k with
  | .dK kvs, k => (keyD k).map fun j => dGet kvs j
  | .dT kvs, .tup ks => (keysD ks).map fun js => dGet kvs js
  | _, _ => none
theorem find_rep {κ : Type} [DecidableEq κ] : ∀ {kds : List (κ × D)} {kvs : List (κ × V)} {k : κ}, kvs.map (·.1) = kds.map (·.1) → RepVs K am H (kds.map (·.2)) (kvs.map (·.2)) →
    (dGet kds k = none ∧ valV kvs k = none) ∨ ∃ d v, dGet kds k = some d ∧ valV kvs k = some v ∧ RepV K am H d v
  | [], kvs, k, h, r => by
    cases kvs with
    | nil => exact .inl ⟨rfl, rfl⟩
    | cons _ _ => simp at h
  | (k1, d) :: kds, [], k, h, r => by simp at h
  | (k1, d) :: kds, (k2, v) :: kvs, k, h, r => by
    simp only [List.map_cons, List.cons.injEq] at h
    obtain ⟨e, h⟩ := h
    subst e
    simp only [List.map_cons, RepVs, List.cons.injEq] at r
    obtain ⟨v', r', ⟨ev, er⟩, h1, h2⟩ := r
    subst ev er
    by_cases q : k2 = k
    · right
      refine ⟨d, v, ?_, ?_, h1⟩
      · unfold dGet; rw [List.find?_cons_of_pos (by simp [q])]; rfl
      · unfold valV; rw [List.find?_cons_of_pos (by simp [q])]; rfl
    · have ih := find_rep (k := k) h h2
      unfold dGet valV at ih ⊢
      rw [List.find?_cons_of_neg (by simp [q]), List.find?_cons_of_neg (by simp [q])]
      exact ih
theorem lookD_ok (s : RepS K am H st) {n : Nat} {p : Addr} {c : Cell} {k : D} {kv : V} {o : Option D} (hp : am[n]? = some p) (hc : st[n]? = some c) (rk : RepV K am H k kv) (hl : lookD c k = some o) :
    ∃ ov, DGet H p kv ov ∧ ((o = none ∧ ov = none) ∨ ∃ d v, o = some d ∧ ov = some v ∧ RepV K am H d v) := by
  cases c with
  | dK kds =>
    obtain ⟨kvs, h1, h2, h3⟩ := s.cell n p _ hp hc
    simp only [lookD, Option.map_eq_some_iff] at hl
    obtain ⟨j, hj, e⟩ := hl
    subst e
    have := keyD_ok hj rk
    subst this
    refine ⟨valV kvs j, .inl ⟨kvs, j, .inl h1, rfl, rfl⟩, ?_⟩
    exact find_rep h2 h3
  | dT kds =>
    obtain ⟨kvs, h1, h2, h3⟩ := s.cell n p _ hp hc
    cases k with
    | tup ks =>
      simp only [lookD, Option.map_eq_some_iff] at hl
      obtain ⟨js, hj, e⟩ := hl
      subst e
      simp only [RepV] at rk
      obtain ⟨b, vs, ev, hb, hr⟩ := rk
      have := keysD_ok hj hr
      subst ev this
      refine ⟨valV kvs js, .inr ⟨kvs, js, b, .inl h1, rfl, hb, rfl⟩, ?_⟩
      exact find_rep h2 h3
    | _ => simp [lookD] at hl
  | lst _ => simp [lookD] at hl
  | fro _ => simp [lookD] at hl
  | ins _ _ => simp [lookD] at hl
end Vd
set_option Elab.async false
set_option linter.all false
set_option maxRecDepth 100000
set_option maxHeartbeats 2000000
/-! Vd3: in, subscripts, slices, fields, truth, tests, displays. -/
namespace Vd
open PySem PySem.Spec PyProof.Rows L2
variable {X : Cx} {a b c e : Expr} {f g h : WE} {pos : Pos} {K : PySem.W.Frag} {am am' : List Addr} {H H' : Hp} {st : Sto} {d : D} {v : V}

/-! ### in -/
def rDIn (F : Bool → Bool) : R2 := fun x y H Q => ∃ p o, y = .ref p ∧ DGet H p x o ∧ Q (.bl (F o.isSome)) H
theorem op_dIn (hu : ∃ k, Room k X.A) : OpR X (compareOp .In) (rDIn fun b => b) := fun pins s σ H x y v u Q I rx ry ⟨p, o, e, g, q⟩ => by
  subst e
  obtain rfl : u = Value.ref p := ry
  exact d_in (hu1 hu) I g rx fun s' I' => ⟨.bl o.isSome, H, I', rfl, q⟩
theorem op_dNotIn (hu : ∃ k, Room k X.A) : OpR X (compareOp .NotIn) (rDIn fun b => !b) := fun pins s σ H x y v u Q I rx ry ⟨p, o, e, g, q⟩ => by
  subst e
  obtain rfl : u = Value.ref p := ry
  exact d_notIn (hu1 hu) I g rx fun s' I' => ⟨.bl (!o.isSome), H, I', rfl, q⟩
def rStrIn (F : Bool → Bool) : R2 := fun x y H Q => ∃ (i j : Str), x = .str i ∧ y = .str j ∧ Q (.bl (F (!(Builtin.Str.occurrences j i 0 j.length 1).isEmpty))) H
/-- x in y: a dict by its keys; a list or tuple of flat things; a list of data; a text -/
def kInF (F : Bool → Bool) : D → D → Sto → (D → Sto → Prop) → Prop := fun x y st P => match y with
  | .str j => (match x with
    | .str i => P (.bl (F (!(Builtin.Str.occurrences j i 0 j.length 1).isEmpty))) st
    | _ => False)
  | .tup ys => (match flatD x, flatsD ys with
    | some u, some us => P (.bl (F (inV u us))) st
    | _, _ => False)
  | .kt ys => (match flatD x, flatsD ys with
    | some u, some us => P (.bl (F (inV u us))) st
    | _, _ => False)
  | .ob n => (match st[n]? with
    | some (.lst ys) => (match flatD x, flatsD ys with
      | some u, some us => P (.bl (F (inV u us))) st
      | _, _ => (match toPy x, toPys ys with
        | some p, some qs => SeqAt.shaped p = true ∧ SeqAt.shaped (.list qs) = true ∧ P (.bl (F (qs.any fun z => PyData.eqv z p))) st
        | _, _ => False))
    | some c => (match lookD c x with
      | some o => P (.bl (F o.isSome)) st
      | none => False)
    | none => False)
  | _ => False
abbrev kIn := kInF fun b => b
abbrev kNotIn := kInF fun b => !b
def rInAll (K : PySem.W.Frag) : R2 := rOr (rStrIn fun b => b) (rOr (rIn K false) (rOr (rInD K) (rDIn fun b => b)))
def rNotInAll (K : PySem.W.Frag) : R2 := rOr (rStrIn fun b => !b) (rOr (rIn K true) (rOr (rNotInD K) (rDIn fun b => !b)))
theorem op_inA (hu : ∃ k, Room k X.A) : OpR X (compareOp .In) (rInAll X.K) := OpR.or op_in_str (OpR.or op_in_seq (OpR.or (op_inD (by obtain ⟨k, r⟩ := hu; have := r.un; omega)) (op_dIn hu)))
theorem op_notInA (hu : ∃ k, Room k X.A) : OpR X (compareOp .NotIn) (rNotInAll X.K) := OpR.or op_notIn_str (OpR.or op_notIn_seq (OpR.or (op_notInD (by obtain ⟨k, r⟩ := hu; have := r.un; omega)) (op_dNotIn hu)))
theorem lk_inF {F : Bool → Bool} {r : R2} (h0 : ∀ x y H Q, rStrIn F x y H Q → r x y H Q)
    (h1 : ∀ x y H Q p xs, y = .ref p → (SqL K H p xs ∨ SqT K H p xs) → flatV x = true → xs.all flatV = true → Q (.bl (F (inV x xs))) H → r x y H Q)
    (h2 : ∀ x y H Q d ds, Dp K H x d → Dp K H y (.list ds) → SeqAt.shaped d = true → SeqAt.shaped (.list ds) = true → Q (.bl (F (ds.any fun z => PyData.eqv z d))) H → r x y H Q)
    (h3 : ∀ x y H Q, rDIn F x y H Q → r x y H Q) : Lk2 K r (kInF F) := fun am H st x y vx vy P Q s rx ry q k => by
  unfold kInF at q
  have fin : ∀ {b : Bool}, P (.bl b) st → Q (.bl b) H := fun {b} p => k am H _ (.bl b) st Ext.refl s (by simp only [RepV]) p
  split at q
  · split at q
    · simp only [RepV] at rx ry
      exact h0 _ _ _ _ ⟨_, _, rx, ry, fin q⟩
    · exact q.elim
  · split at q
    · rename_i hu hus
      simp only [RepV] at ry
      obtain ⟨p, ws, e, ht, hr⟩ := ry
      obtain ⟨e1, f1⟩ := flatD_ok hu rx
      obtain ⟨e2, f2⟩ := flatsD_ok hus hr
      subst e1 e2
      exact h1 _ _ _ _ p _ e (.inr (tupT ht)) f1 f2 (fin q)
    · exact q.elim
  · split at q
    · rename_i hu hus
      simp only [RepV] at ry
      obtain ⟨p, ws, e, ht, hr⟩ := ry
      obtain ⟨e1, f1⟩ := flatD_ok hu rx
      obtain ⟨e2, f2⟩ := flatsD_ok hus hr
      subst e1 e2
      exact h1 _ _ _ _ p _ e (.inr (ktT ht)) f1 f2 (fin q)
    · exact q.elim
  · simp only [RepV] at ry
    obtain ⟨p, hp, e⟩ := ry
    split at q
    · rename_i ys hy
      obtain ⟨ws, ht, hr⟩ := s.cell _ _ _ hp hy
      split at q
      · rename_i hu hus
        obtain ⟨e1, f1⟩ := flatD_ok hu rx
        obtain ⟨e2, f2⟩ := flatsD_ok hus hr
        subst e1 e2
        exact h1 _ _ _ _ p _ e (.inl (.inl (.inl ht))) f1 f2 (fin q)
      · split at q
        · rename_i hu hus
          subst e
          exact h2 _ _ _ _ _ _ (toPy_ok _ _ _ hu rx) (.lst (.inl (.inl ht)) (toPys_ok _ _ _ hus hr)) q.1 q.2.1 (fin q.2.2)
        · exact q.elim
    · rename_i c _ hc
      split at q
      · rename_i o ho
        obtain ⟨ov, g, r'⟩ := lookD_ok s hp hc rx ho
        have eo : ov.isSome = o.isSome := by
          rcases r' with ⟨e1, e2⟩ | ⟨d, v, e1, e2, _⟩ <;> rw [e1, e2] <;> rfl
        exact h3 _ _ _ _ ⟨p, ov, e, g, by rw [eo]; exact fin q⟩
      · exact q.elim
    · exact q.elim
  · exact q.elim
theorem lk_in : Lk2 K (rInAll K) kIn := lk_inF (fun _ _ _ _ h => .inl h) (fun x y H Q p xs e s f1 f2 q => .inr (.inl ⟨p, xs, e, s, f1, f2, q⟩)) (fun x y H Q d ds h1 h2 h3 h4 q => .inr (.inr (.inl ⟨d, ds, h1, h2, h3, h4, q⟩))) (fun _ _ _ _ h => .inr (.inr (.inr h)))
theorem lk_notIn : Lk2 K (rNotInAll K) kNotIn := lk_inF (fun _ _ _ _ h => .inl h) (fun x y H Q p xs e s f1 f2 q => .inr (.inl ⟨p, xs, e, s, f1, f2, q⟩)) (fun x y H Q d ds h1 h2 h3 h4 q => .inr (.inr (.inl ⟨d, ds, h1, h2, h3, h4, q⟩))) (fun _ _ _ _ h => .inr (.inr (.inr h)))
theorem e_in (hu : ∃ k, Room k X.A) (ha : PE X a (tD X.K f)) (hb : PE X b (tD X.K g)) (hm : behindInMarks .In b = false := by rfl) : PE X (.Compare a [.In] [b] pos) (tD X.K (w2 kIn f g)) := e_cmpR (op_inA hu) lk_in hm ha hb
theorem e_notIn (hu : ∃ k, Room k X.A) (ha : PE X a (tD X.K f)) (hb : PE X b (tD X.K g)) (hm : behindInMarks .NotIn b = false := by rfl) : PE X (.Compare a [.NotIn] [b] pos) (tD X.K (w2 kNotIn f g)) := e_cmpR (op_notInA hu) lk_notIn hm ha hb

/-! ### subscripts -/
def atD (xs : List D) (i : Int) : Option D := (ixN xs.length i).bind fun j => xs[j]?
theorem atD_ok {ds : List D} {vs : List V} {i : Int} {x : D} (r : RepVs K am H ds vs) (h : atD ds i = some x) : ∃ w, atI vs i = some w ∧ RepV K am H x w := by
  unfold atD at h
  obtain ⟨j, hj, hx⟩ := Option.bind_eq_some_iff.mp h
  obtain ⟨w, hw, rw'⟩ := r.get hx
  refine ⟨w, ?_, rw'⟩
  unfold atI
  rw [← r.length, hj]
  exact hw
def kIx : D → D → Sto → (D → Sto → Prop) → Prop := fun x y st P => match x with
  | .str z => (match y with
    | .int i => z.length ≤ 100000 ∧ (match atI z.cps.toList i with
      | some c => P (.str ⟨#[c]⟩) st
      | none => False)
    | _ => False)
  | .tup xs => (match y with
    | .int i => (match atD xs i with
      | some x => P x st
      | none => False)
    | _ => False)
  | .kt xs => (match y with
    | .int i => (match atD xs i with
      | some x => P x st
      | none => False)
    | _ => False)
  | .ob n => (match st[n]? with
    | some (.lst xs) => (match y with
      | .int i => (match atD xs i with
        | some x => P x st
        | none => False)
      | _ => False)
    | some (.fro xs) => (match y with
      | .int i => (match atD xs i with
        | some x => P x st
        | none => False)
      | _ => False)
    | some c => (match lookD c y with
      | some (some x) => P x st
      | _ => False)
    | none => False)
  | _ => False
def rIxDict : R2 := fun x y H Q => ∃ p v, x = .ref p ∧ DGet H p y (some v) ∧ Q v H
theorem ix_dict (hu : ∃ k, Room k X.A) : IxR X rIxDict := fun value slice pins s σ H x y v u Q I rx ry ⟨p, w, e, g, q⟩ hs => by
  subst e
  obtain rfl : v = Value.ref p := rx
  refine tail_any (dict_typeIs I g) PySem.F.slot_dict_getitem.lookup (d_getItem (hu1 hu) I g ry fun w' s' I' rw' => ⟨w, H, I', rw', q⟩) hs
def rIxAll (K : PySem.W.Frag) : R2 := rOr (rIx K) rIxDict
theorem ix_all (hu : ∃ k, Room k X.A) : IxR X (rIxAll X.K) := IxR.or ix_seq (ix_dict hu)
theorem lk_ix : Lk2 K (rIxAll K) kIx := fun am H st x y vx vy P Q s rx ry q k => by
  unfold kIx at q
  split at q
  · split at q
    · obtain ⟨q0, q⟩ := q
      split at q
      · rename_i c hc
        simp only [RepV] at rx ry
        exact .inl (.inr (.inr ⟨_, _, c, rx, ry, big _ q0, hc, k am H _ (.str _) st Ext.refl s (by simp only [RepV]) q⟩))
      · exact q.elim
    · exact q.elim
  · split at q
    · split at q
      · rename_i x hx
        simp only [RepV] at rx ry
        obtain ⟨p, vs, e, ht, hr⟩ := rx
        obtain ⟨w, hw, rw'⟩ := atD_ok hr hx
        exact .inl (.inr (.inl ⟨p, vs, _, w, e, ry, tupT ht, hw, k am H w x st Ext.refl s rw' q⟩))
      · exact q.elim
    · exact q.elim
  · split at q
    · split at q
      · rename_i x hx
        simp only [RepV] at rx ry
        obtain ⟨p, vs, e, ht, hr⟩ := rx
        obtain ⟨w, hw, rw'⟩ := atD_ok hr hx
        exact .inl (.inr (.inl ⟨p, vs, _, w, e, ry, ktT ht, hw, k am H w x st Ext.refl s rw' q⟩))
      · exact q.elim
    · exact q.elim
  · simp only [RepV] at rx
    obtain ⟨p, hp, e⟩ := rx
    split at q
    · rename_i xs hxs
      obtain ⟨vs, ht, hr⟩ := s.cell _ _ _ hp hxs
      split at q
      · split at q
        · rename_i x hx
          simp only [RepV] at ry
          obtain ⟨w, hw, rw'⟩ := atD_ok hr hx
          exact .inl (.inl ⟨p, vs, _, w, e, ry, .inl (.inl ht), hw, k am H w x st Ext.refl s rw' q⟩)
        · exact q.elim
      · exact q.elim
    · rename_i xs hxs
      obtain ⟨vs, ⟨o, ht⟩, hr⟩ := s.cell _ _ _ hp hxs
      split at q
      · split at q
        · rename_i x hx
          simp only [RepV] at ry
          obtain ⟨w, hw, rw'⟩ := atD_ok hr hx
          exact .inl (.inl ⟨p, vs, _, w, e, ry, .inl (.inr ⟨o, ht⟩), hw, k am H w x st Ext.refl s rw' q⟩)
        · exact q.elim
      · exact q.elim
    · rename_i c _ _ hc
      split at q
      · rename_i x hx
        obtain ⟨ov, g, r'⟩ := lookD_ok s hp hc ry hx
        rcases r' with ⟨e1, _⟩ | ⟨d, w, e1, e2, rw'⟩
        · cases e1
        · cases e1
          subst e2
          exact .inr ⟨p, w, e, g, k am H w _ st Ext.refl s rw' q⟩
      · exact q.elim
    · exact q.elim
  · exact q.elim
theorem e_ix (hu : ∃ k, Room k X.A) (ha : PE X a (tD X.K f)) (hb : PE X b (tD X.K g)) (hs : PlainIx b := by intro _ _; rfl) : PE X (.Subscript a b pos) (tD X.K (w2 kIx f g)) := PE.imp (pe_ix (ix_all hu) ha hb hs) fun _ _ _ h => to2 lk_ix h

/-! ### slices -/
abbrev WO := Env' → Sto → (Option Int → Sto → Prop) → Prop
def tDo (K : PySem.W.Frag) (f : WO) : TO := fun σ H Q => ∃ am env st P, RepN K am H env σ ∧ RepS K am H st ∧ f env st P ∧ ∀ am' H' o st', Ext am H am' H' → RepS K am' H' st' → P o st' → Q o H'
@[simp ↓] def woNone : WO := fun _ st P => P none st
def woSome (f : WE) : WO := fun env st P => f env st fun d s1 => match d with
  | .int i => P (some i) s1
  | _ => False
theorem o_none : PO X none (tDo X.K woNone) := ⟨fun pins s σ H Q I ⟨am, env, st, P, hn, hs, q, k⟩ => po_none.run pins s σ H Q I (k am H none st Ext.refl hs q)⟩
theorem o_some (he : PE X e (tD X.K f)) : PO X (some e) (tDo X.K (woSome f)) := ⟨fun pins s σ H Q I ⟨am, env, st, P, hn, hs, q, k⟩ => (po_some he).run pins s σ H Q I ⟨am, env, st, _, hn, hs, q, fun am' H' v d st' x s' r z => by
  cases d with
  | int i => simp only [RepV] at r; exact ⟨i, r, k am' H' _ st' x s' z⟩
  | _ => exact z.elim⟩⟩
def cutD (xs : List D) (lo hi : Option Int) : List D := (xs.drop (HT.sIx xs.length 0 lo)).take (HT.sIx xs.length xs.length hi - HT.sIx xs.length 0 lo)
def kSl : D → Option Int → Option Int → Sto → (D → Sto → Prop) → Prop := fun x lo hi st P => match x with
  | .tup xs => P (.tup (cutD xs lo hi)) st
  | .str z => z.length ≤ 100000 ∧ P (.str (cutS z lo hi)) st
  | .ob n => (match st[n]? with
    | some (.lst xs) => P (.ob st.length) (st ++ [.lst (cutD xs lo hi)])
    | _ => False)
  | _ => False
@[simp ↓] def wSl (f : WE) (lo hi : WO) : WE := fun env st P => f env st fun x s1 => lo env s1 fun l s2 => hi env s2 fun u s3 => kSl x l u s3 P
theorem RepVs.cut {ds : List D} {vs : List V} (r : RepVs K am H ds vs) (lo hi : Option Int) : RepVs K am H (cutD ds lo hi) (cutV vs lo hi) := by
  unfold cutD cutV
  rw [r.length]
  exact (r.drop _).take _
theorem cut_all {ds : List D} {lo hi : Option Int} (h : HT.sIx ds.length 0 lo = 0 ∧ HT.sIx ds.length ds.length hi = ds.length) : cutD ds lo hi = ds := by
  unfold cutD
  rw [h.1, h.2]
  simp
theorem sl_any : SlR X (fun x lo hi H Q => rSlA X.K x lo hi H Q ∨ rSlL X.K x lo hi H Q ∨ rSlS x lo hi H Q) := SlR.or sl_tupA (SlR.or sl_list sl_str)
theorem e_sl {lo hi : Option Expr} {fl fh : WO} {p2 : Pos} (ha : PE X a (tD X.K f)) (hl : PO X lo (tDo X.K fl)) (hh : PO X hi (tDo X.K fh)) : PE X (.Subscript a (.Slice lo hi none p2) pos) (tD X.K (wSl f fl fh)) := PE.imp (pe_slice sl_any ha hl hh) fun σ H Q ⟨am, env, st, P, hn, hs, q, kk⟩ => by
  refine ⟨am, env, st, _, hn, hs, q, fun am1 H1 vx x s1 x1 r1 rx q1 => ?_⟩
  refine ⟨am1, env, s1, _, hn.ext x1, r1, q1, fun am2 H2 l s2 x2 r2 q2 => ?_⟩
  refine ⟨am2, env, s2, _, (hn.ext x1).ext x2, r2, q2, fun am3 H3 u s3 x3 r3 q3 => ?_⟩
  have rx3 := RepV.ext (x2.trans x3) _ _ rx
  have xx := (x1.trans x2).trans x3
  unfold kSl at q3
  split at q3
  · rename_i xs
    simp only [RepV] at rx3
    obtain ⟨p, vs, e, ht, hr⟩ := rx3
    have hl := hr.length
    refine .inl ⟨p, vs, e, tupT ht, fun hw => ?_, fun _ p' hp => ?_⟩
    · rw [← hl] at hw
      rw [cut_all hw] at q3
      exact kk am3 H3 _ (.tup xs) s3 xx r3 (by simp only [RepV]; exact ⟨p, vs, rfl, ht, hr⟩) q3
    · refine kk am3 (upd H3 p' _) _ (.tup (cutD xs l u)) s3 (xx.trans (Ext.fresh hp)) (r3.fresh hp) ?_ q3
      simp only [RepV]
      exact ⟨p', _, rfl, upd_same, RepVs.ext (Ext.fresh hp) _ _ (hr.cut l u)⟩
  · simp only [RepV] at rx3
    exact .inr (.inr ⟨_, rx3, big _ q3.1, kk am3 H3 _ (.str _) s3 xx r3 (by simp only [RepV]) q3.2⟩)
  · simp only [RepV] at rx3
    obtain ⟨p, hp, e⟩ := rx3
    split at q3
    · rename_i xs hxs
      obtain ⟨vs, ht, hr⟩ := r3.cell _ _ _ hp hxs
      refine .inr (.inl ⟨p, vs, e, .inl (.inl ht), fun p' hp' => ?_⟩)
      refine kk (am3 ++ [p']) (upd H3 p' _) _ _ _ (xx.trans (Ext.alloc hp')) (r3.alloc (c := .lst (cutD xs l u)) hp' ⟨_, upd_same, RepVs.ext (Ext.alloc hp') _ _ (hr.cut l u)⟩) (rep_ob_new (r3.fresh hp')) q3
    · exact q3.elim
  · exact q3.elim

/-! ### fields -/
def fldAt (st : Sto) (C f : Str) (d : D) (P : D → Prop) : Prop := match d with
  | .ob n => (match st[n]? with
    | some (.ins C' fs) => C' = C ∧ (match fs.lookup f with
      | some x => P x
      | none => False)
    | _ => False)
  | _ => False
@[simp ↓] def wFld (C fl : Str) (f : WE) : WE := fun env st P => f env st fun d s1 => fldAt s1 C fl d fun x => P x s1
theorem lookup_rep : ∀ {fs : List (Str × D)} {fvs : List (Str × V)} {f : Str} {x : D}, fvs.map (·.1) = fs.map (·.1) → RepVs K am H (fs.map (·.2)) (fvs.map (·.2)) → fs.lookup f = some x → ∃ v, fvs.lookup f = some v ∧ RepV K am H x v
  | [], _, _, _, _, _, h => by simp at h
  | (k, d) :: fs, [], f, x, h, r, e => by simp at h
  | (k, d) :: fs, (k2, v) :: fvs, f, x, h, r, e => by
    simp only [List.map_cons, List.cons.injEq] at h
    obtain ⟨e1, h⟩ := h
    subst e1
    simp only [List.map_cons, RepVs, List.cons.injEq] at r
    obtain ⟨v', r', ⟨ev, er⟩, h1, h2⟩ := r
    subst ev er
    rw [List.lookup_cons] at e ⊢
    cases q : f == k2 with
    | true => rw [q] at e; simp only at e ⊢; cases e; exact ⟨v, rfl, h1⟩
    | false => rw [q] at e; simp only at e ⊢; exact lookup_rep h h2 e
theorem fldAt_ok (s : RepS K am H st) (r : RepV K am H d v) {C fl : Str} {P : D → Prop} (q : fldAt st C fl d P) : ∃ p dx fs w x, v = .ref p ∧ H p = some (.ins (He.ga K C) dx fs) ∧ fs.lookup fl = some w ∧ RepV K am H x w ∧ P x := by
  unfold fldAt at q
  split at q
  · simp only [RepV] at r
    obtain ⟨p, hp, e⟩ := r
    split at q
    · rename_i C' fs hc
      obtain ⟨eC, q⟩ := q
      subst eC
      split at q
      · rename_i x hx
        obtain ⟨dx, fvs, h1, h2, h3⟩ := s.cell _ _ _ hp hc
        obtain ⟨w, hw, rw'⟩ := lookup_rep h2 h3 hx
        exact ⟨p, dx, fvs, w, x, e, h1, hw, rw', q⟩
      · exact q.elim
    · exact q.elim
  · exact q.elim
theorem e_fld {C fl : Str} (cl : Cls X.K (He.ga X.K C)) (na : NoAttr X.K (He.ga X.K C) fl) (he : PE X e (tD X.K f)) (hb : attributeBase e fl X.env (eval e X.env) = eval e X.env := by rfl) : PE X (.Attribute e fl pos) (tD X.K (wFld C fl f)) :=
  PE.imp (pe_fld he hb) fun σ H Q ⟨am, env, st, P, hn, hs, q, k⟩ => by
    refine ⟨am, env, st, _, hn, hs, q, fun am' H' v d st' x s r z => ?_⟩
    obtain ⟨p, dx, fs, w, y, e1, e2, e3, rw', q⟩ := fldAt_ok s r z
    exact ⟨p, _, dx, fs, w, e1, e2, cl, na, e3, k am' H' w y st' x s rw' q⟩

/-! ### truth and tests -/
def truD (st : Sto) : D → Option Bool
  | .non => some false
  | .bl b => some b
  | .int i => some (i != 0)
  | .tup xs => some (!xs.isEmpty)
  | .kt xs => some (!xs.isEmpty)
  | .ob n => (match st[n]? with
    | some (.lst xs) => some (!xs.isEmpty)
    | some (.fro xs) => some (!xs.isEmpty)
    | _ => none)
  | _ => none
theorem isEmpty_rep {ds : List D} {vs : List V} (r : RepVs K am H ds vs) : (!ds.isEmpty) = !vs.isEmpty := by
  have := r.length
  cases ds <;> cases vs <;> simp at this ⊢
theorem truD_ok (s : RepS K am H st) (r : RepV K am H d v) {b : Bool} (h : truD st d = some b) : TruV K v H b := by
  cases d with
  | non => simp only [RepV] at r; simp only [truD, Option.some.injEq] at h; subst r h; exact rfl
  | bl x => simp only [RepV] at r; simp only [truD, Option.some.injEq] at h; subst r h; exact rfl
  | int i => simp only [RepV] at r; simp only [truD, Option.some.injEq] at h; subst r h; exact rfl
  | str _ => simp [truD] at h
  | rng _ _ => simp [truD] at h
  | ty _ => simp [truD] at h
  | tup xs =>
    simp only [RepV] at r; simp only [truD, Option.some.injEq] at h
    obtain ⟨p, vs, e, ht, hr⟩ := r
    subst e h
    exact .inr (.inl ⟨vs, tupT ht, isEmpty_rep hr⟩)
  | kt xs =>
    simp only [RepV] at r; simp only [truD, Option.some.injEq] at h
    obtain ⟨p, vs, e, ht, hr⟩ := r
    subst e h
    exact .inr (.inl ⟨vs, ktT ht, isEmpty_rep hr⟩)
  | ob n =>
    simp only [RepV] at r
    obtain ⟨p, hp, e⟩ := r
    subst e
    simp only [truD] at h
    split at h
    · rename_i xs hx
      obtain ⟨vs, h1, h2⟩ := s.cell _ _ _ hp hx
      simp only [Option.some.injEq] at h; subst h
      exact .inl ⟨vs, .inl (.inl h1), isEmpty_rep h2⟩
    · rename_i xs hx
      obtain ⟨vs, ⟨o, h1⟩, h2⟩ := s.cell _ _ _ hp hx
      simp only [Option.some.injEq] at h; subst h
      exact .inl ⟨vs, .inl (.inr ⟨o, h1⟩), isEmpty_rep h2⟩
    · cases h
@[simp ↓] def wTru (f : WE) : WT := fun env st P => f env st fun d s1 => match truD s1 d with
  | some b => P b s1
  | none => False
/-- a value that is a bool, as a test -/
@[simp ↓] def wTst (f : WE) : WT := fun env st P => f env st fun d s1 => match d with
  | .bl b => P b s1
  | _ => False
theorem t_tru (he : PE X e (tD X.K f)) (hp : ∀ whole, isTrue e X.env whole = (do let v ← whole; standAt e.pos; holding [v] (truthy v)) := by intro _; rfl) : PT X e (tDb X.K (wTru f)) := PT.imp (pt_truth he hp) fun σ H Q ⟨am, env, st, P, hn, hs, q, k⟩ => by
  refine ⟨am, env, st, _, hn, hs, q, fun am' H' v d st' x s r z => ?_⟩
  split at z
  · rename_i b hb
    exact ⟨b, truD_ok s r hb, k am' H' b st' x s z⟩
  · exact z.elim
theorem to_tst {σ : L2.St} {H : Hp} {Q : Bool → Hp → Prop} (h : tDb K (wTst f) σ H Q) : tD K f σ H fun v H' => ∃ k, v = .bl k ∧ Q k H' := by
  obtain ⟨am, env, st, P, hn, hs, q, k⟩ := h
  refine ⟨am, env, st, _, hn, hs, q, fun am' H' v d st' x s r z => ?_⟩
  cases d with
  | bl b => simp only [RepV] at r; exact ⟨b, r, k am' H' b st' x s z⟩
  | _ => exact z.elim
/-- a comparison as a test -/
theorem t_cmpR {op : CmpOp} {r : R2} {k : D → D → Sto → (D → Sto → Prop) → Prop} (ho : OpR X (compareOp op) r) (lk : Lk2 X.K r k) (hm : behindInMarks op b = false) (ha : PE X a (tD X.K f)) (hb : PE X b (tD X.K g)) :
    PT X (.Compare a [op] [b] pos) (tDb X.K (wTst (w2 k f g))) := PT.imp (pt_cmpR ho ha hb hm) fun σ H Q h => by
  obtain ⟨am, env, st, P, hn, hs, q, kk⟩ := h
  show tOp r (tD X.K f) (tD X.K g) σ H fun x H' => ∃ k, x = .bl k ∧ Q k H'
  refine to2 lk ⟨am, env, st, _, hn, hs, q, fun am' H' v d st' x s r z => ?_⟩
  cases d with
  | bl b => simp only [RepV] at r; exact ⟨b, r, kk am' H' b st' x s z⟩
  | _ => exact z.elim
theorem t_eq (hu : ∃ k, Room k X.A) (ha : PE X a (tD X.K f)) (hb : PE X b (tD X.K g)) : PT X (.Compare a [.Eq] [b] pos) (tDb X.K (wTst (w2 kEq f g))) := t_cmpR (op_eqO hu) lk_eq (nobehind b (by decide) (by decide)) ha hb
theorem t_ne (hu : ∃ k, Room k X.A) (ha : PE X a (tD X.K f)) (hb : PE X b (tD X.K g)) : PT X (.Compare a [.NotEq] [b] pos) (tDb X.K (wTst (w2 kNe f g))) := t_cmpR (op_neO hu) lk_ne (nobehind b (by decide) (by decide)) ha hb
theorem t_lt (ha : PE X a (tD X.K f)) (hb : PE X b (tD X.K g)) : PT X (.Compare a [.Lt] [b] pos) (tDb X.K (wTst (w2 kLt f g))) := t_cmpR op_lt lk_B0 (nobehind b (by decide) (by decide)) ha hb
theorem t_le (ha : PE X a (tD X.K f)) (hb : PE X b (tD X.K g)) : PT X (.Compare a [.LtE] [b] pos) (tDb X.K (wTst (w2 kLe f g))) := t_cmpR op_le lk_B0 (nobehind b (by decide) (by decide)) ha hb
theorem t_gt (ha : PE X a (tD X.K f)) (hb : PE X b (tD X.K g)) : PT X (.Compare a [.Gt] [b] pos) (tDb X.K (wTst (w2 kGt f g))) := t_cmpR op_gt lk_B0 (nobehind b (by decide) (by decide)) ha hb
theorem t_ge (ha : PE X a (tD X.K f)) (hb : PE X b (tD X.K g)) : PT X (.Compare a [.GtE] [b] pos) (tDb X.K (wTst (w2 kGe f g))) := t_cmpR op_ge lk_B0 (nobehind b (by decide) (by decide)) ha hb
theorem t_is (ha : PE X a (tD X.K f)) (hb : PE X b (tD X.K g)) : PT X (.Compare a [.Is] [b] pos) (tDb X.K (wTst (w2 kIs f g))) := t_cmpR op_isO lk_is (nobehind b (by decide) (by decide)) ha hb
theorem t_isNot (ha : PE X a (tD X.K f)) (hb : PE X b (tD X.K g)) : PT X (.Compare a [.IsNot] [b] pos) (tDb X.K (wTst (w2 kIsNot f g))) := t_cmpR op_isNotO lk_isNot (nobehind b (by decide) (by decide)) ha hb
theorem t_in (hu : ∃ k, Room k X.A) (ha : PE X a (tD X.K f)) (hb : PE X b (tD X.K g)) (hm : behindInMarks .In b = false := by rfl) : PT X (.Compare a [.In] [b] pos) (tDb X.K (wTst (w2 kIn f g))) := t_cmpR (op_inA hu) lk_in hm ha hb
theorem t_notIn (hu : ∃ k, Room k X.A) (ha : PE X a (tD X.K f)) (hb : PE X b (tD X.K g)) (hm : behindInMarks .NotIn b = false := by rfl) : PT X (.Compare a [.NotIn] [b] pos) (tDb X.K (wTst (w2 kNotIn f g))) := t_cmpR (op_notInA hu) lk_notIn hm ha hb
@[simp ↓] def wAnd (f g : WT) : WT := fun env st P => f env st fun b s1 => if b = true then g env s1 P else P false s1
@[simp ↓] def wOr (f g : WT) : WT := fun env st P => f env st fun b s1 => if b = true then P true s1 else g env s1 P
@[simp ↓] def wNot (f : WT) : WT := fun env st P => f env st fun b s1 => P (!b) s1
structure PW' (X : Cx) (e : Expr) (t : TT) : Prop where
  w : PW X e t
theorem PW.imp {X : Cx} {e : Expr} {t t' : TT} (h : PW X e t) (i : ∀ σ H Q, t' σ H Q → t σ H Q) : PW X e t' := ⟨fun wh pins s σ H Q I q => h.run wh pins s σ H Q I (i σ H Q q)⟩
theorem x_and1 {f : WT} (ha : PT X a (tDb X.K f)) : PW X (.BoolOp .And [a] pos) (tDb X.K f) := pw_and1 ha
theorem x_or1 {f : WT} (ha : PT X a (tDb X.K f)) : PW X (.BoolOp .Or [a] pos) (tDb X.K f) := pw_or1 ha
theorem x_and {f g : WT} {rest : List Expr} (ha : PT X a (tDb X.K f)) (hb : PW X (.BoolOp .And (b :: rest) pos) (tDb X.K g)) : PW X (.BoolOp .And (a :: b :: rest) pos) (tDb X.K (wAnd f g)) := PW.imp (pw_and ha hb) fun σ H Q ⟨am, env, st, P, hn, hs, q, k⟩ => by
  refine ⟨am, env, st, _, hn, hs, q, fun am' H' b st' x s z => ?_⟩
  cases b with
  | true =>
    simp only [if_true] at z ⊢
    exact ⟨am', env, st', P, hn.ext x, s, z, fun am2 H2 b2 s2 x2 r2 p => k am2 H2 b2 s2 (x.trans x2) r2 p⟩
  | false =>
    simp only [Bool.false_eq_true, if_false] at z ⊢
    exact k am' H' false st' x s z
theorem x_or {f g : WT} {rest : List Expr} (ha : PT X a (tDb X.K f)) (hb : PW X (.BoolOp .Or (b :: rest) pos) (tDb X.K g)) : PW X (.BoolOp .Or (a :: b :: rest) pos) (tDb X.K (wOr f g)) := PW.imp (pw_or ha hb) fun σ H Q ⟨am, env, st, P, hn, hs, q, k⟩ => by
  refine ⟨am, env, st, _, hn, hs, q, fun am' H' b st' x s z => ?_⟩
  cases b with
  | false =>
    simp only [Bool.false_eq_true, if_false] at z ⊢
    exact ⟨am', env, st', P, hn.ext x, s, z, fun am2 H2 b2 s2 x2 r2 p => k am2 H2 b2 s2 (x.trans x2) r2 p⟩
  | true =>
    simp only [if_true] at z ⊢
    exact k am' H' true st' x s z
theorem t_not {f : WT} (ha : PT X a (tDb X.K f)) : PT X (.UnaryOp .Not a pos) (tDb X.K (wNot f)) := PT.imp (pt_not ha) fun σ H Q ⟨am, env, st, P, hn, hs, q, k⟩ =>
  ⟨am, env, st, _, hn, hs, q, fun am' H' b st' x s z => k am' H' (!b) st' x s z⟩
/-- bools as values -/
@[simp ↓] def wAndV (f g : WE) : WE := fun env st P => f env st fun d s1 => match d with
  | .bl true => g env s1 P
  | .bl false => P (.bl false) s1
  | _ => False
@[simp ↓] def wOrV (f g : WE) : WE := fun env st P => f env st fun d s1 => match d with
  | .bl true => P (.bl true) s1
  | .bl false => g env s1 P
  | _ => False
@[simp ↓] def wNotV (f : WT) : WE := fun env st P => f env st fun b s1 => P (.bl (!b)) s1
theorem e_one {op} (ha : PE X a (tD X.K f)) : PE X (.BoolOp op [a] pos) (tD X.K f) := pe_one ha
theorem e_and {rest : List Expr} (ha : PE X a (tD X.K f)) (hb : PE X (.BoolOp .And (b :: rest) pos) (tD X.K g)) : PE X (.BoolOp .And (a :: b :: rest) pos) (tD X.K (wAndV f g)) := PE.imp (pe_and ha hb) fun σ H Q ⟨am, env, st, P, hn, hs, q, k⟩ => by
  refine ⟨am, env, st, _, hn, hs, q, fun am' H' v d st' x s r z => ?_⟩
  split at z
  · simp only [RepV] at r
    refine ⟨true, r, ?_⟩
    simp only [if_true]
    exact ⟨am', env, st', P, hn.ext x, s, z, fun am2 H2 v2 d2 s2 x2 r2 rr p => k am2 H2 v2 d2 s2 (x.trans x2) r2 rr p⟩
  · simp only [RepV] at r
    refine ⟨false, r, ?_⟩
    simp only [Bool.false_eq_true, if_false]
    exact k am' H' _ (.bl false) st' x s (by simp only [RepV]) z
  · exact z.elim
theorem e_or {rest : List Expr} (ha : PE X a (tD X.K f)) (hb : PE X (.BoolOp .Or (b :: rest) pos) (tD X.K g)) : PE X (.BoolOp .Or (a :: b :: rest) pos) (tD X.K (wOrV f g)) := PE.imp (pe_or ha hb) fun σ H Q ⟨am, env, st, P, hn, hs, q, k⟩ => by
  refine ⟨am, env, st, _, hn, hs, q, fun am' H' v d st' x s r z => ?_⟩
  split at z
  · simp only [RepV] at r
    refine ⟨true, r, ?_⟩
    simp only [if_true]
    exact k am' H' _ (.bl true) st' x s (by simp only [RepV]) z
  · simp only [RepV] at r
    refine ⟨false, r, ?_⟩
    simp only [Bool.false_eq_true, if_false]
    exact ⟨am', env, st', P, hn.ext x, s, z, fun am2 H2 v2 d2 s2 x2 r2 rr p => k am2 H2 v2 d2 s2 (x.trans x2) r2 rr p⟩
  · exact z.elim
theorem e_not (ha : PE X a (tD X.K f)) : PE X (.UnaryOp .Not a pos) (tD X.K (wNotV (wTst f))) := PE.imp (pe_not ha) fun σ H Q ⟨am, env, st, P, hn, hs, q, k⟩ => by
  refine ⟨am, env, st, _, hn, hs, q, fun am' H' v d st' x s r z => ?_⟩
  cases d with
  | bl b => simp only [RepV] at r; exact ⟨b, r, k am' H' _ (.bl (!b)) st' x s (by simp only [RepV]) z⟩
  | _ => exact z.elim
@[simp ↓] def wIf (t : WT) (f g : WE) : WE := fun env st P => t env st fun b s1 => if b = true then f env s1 P else g env s1 P
theorem e_if {t : WT} (hc : PT X c (tDb X.K t)) (ha : PE X a (tD X.K f)) (hb : PE X b (tD X.K g)) : PE X (.IfExp c a b pos) (tD X.K (wIf t f g)) := PE.imp (pe_ifExp hc ha hb) fun σ H Q ⟨am, env, st, P, hn, hs, q, k⟩ => by
  refine ⟨am, env, st, _, hn, hs, q, fun am' H' b st' x s z => ?_⟩
  cases b with
  | true =>
    simp only [if_true] at z ⊢
    exact ⟨am', env, st', P, hn.ext x, s, z, fun am2 H2 v2 d2 s2 x2 r2 rr p => k am2 H2 v2 d2 s2 (x.trans x2) r2 rr p⟩
  | false =>
    simp only [Bool.false_eq_true, if_false] at z ⊢
    exact ⟨am', env, st', P, hn.ext x, s, z, fun am2 H2 v2 d2 s2 x2 r2 rr p => k am2 H2 v2 d2 s2 (x.trans x2) r2 rr p⟩

/-! ### arguments, displays -/
theorem a_nil : PA X [] (tDa X.K waNil) := PA.imp pa_nil fun σ H Q ⟨am, env, st, P, hn, hs, q, k⟩ => k am H [] [] st Ext.refl hs .nil q
theorem a_cons {es : List Expr} {fa : WA} (he : PE X e (tD X.K f)) (ha : PA X es (tDa X.K fa)) (hs : starEach (e :: es) X.env = (false, eval e X.env) :: starEach es X.env := by rfl) : PA X (e :: es) (tDa X.K (waCons f fa)) := PA.imp (pa_cons he ha hs) fun σ H Q ⟨am, env, st, P, hn, hs, q, k⟩ => by
  refine ⟨am, env, st, _, hn, hs, q, fun am1 H1 v d s1 x1 r1 rv z => ?_⟩
  refine ⟨am1, env, s1, _, hn.ext x1, r1, z, fun am2 H2 vs ds s2 x2 r2 rs z2 => ?_⟩
  exact k am2 H2 (v :: vs) (d :: ds) s2 (x1.trans x2) r2 (.cons (RepV.ext x2 _ _ rv) rs) z2
@[simp ↓] def wTup (fa : WA) : WE := fun env st P => fa env st fun ds s1 => ds.length ≤ 1000 ∧ P (.tup ds) s1
@[simp ↓] def wLst (fa : WA) : WA := fun env st P => fa env st fun ds s1 => ds.length ≤ 1000 ∧ P ds s1
theorem e_tup {es : List Expr} {fa : WA} {x1} (ha : PA X es (tDa X.K fa)) : PE X (.Tuple es x1 pos) (tD X.K (wTup fa)) := PE.imp (pe_tup ha) fun σ H Q ⟨am, env, st, P, hn, hs, q, k⟩ => by
  refine ⟨am, env, st, _, hn, hs, q, fun am1 H1 vs ds s1 x1 r1 rv z => ⟨by rw [← rv.length]; exact big _ (by omega), fun p hp => ?_⟩⟩
  refine k am1 (upd H1 p _) _ (.tup ds) s1 (x1.trans (Ext.fresh hp)) (r1.fresh hp) ?_ z.2
  simp only [RepV]
  exact ⟨p, vs, rfl, upd_same, RepVs.ext (Ext.fresh hp) _ _ rv⟩
theorem back_none {st' : Sto} {p : Addr} (x : Ext am H am' H') (s : RepS K am' H' st') (h : H' p = none) : H p = none := by
  cases q : H p with
  | none => rfl
  | some o =>
    by_cases hm : p ∈ am
    · obtain ⟨l, e⟩ := x.pre
      exact absurd h (s.notNone (by rw [e]; exact List.mem_append_left _ hm))
    · rw [x.fr p o hm q] at h; cases h
theorem e_lst {es : List Expr} {fa : WA} (ha : PA X es (tDa X.K fa)) : PE X (.List es pos) (tDt X.K (wLst fa)) := PE.imp (pe_lst ha) fun σ H Q ⟨am, env, st, P, hn, hs, q, k⟩ => by
  refine ⟨am, env, st, _, hn, hs, q, fun am1 H1 vs ds s1 x1 r1 rv z => ⟨by rw [← rv.length]; exact big _ (by omega), fun p hp => ?_⟩⟩
  exact k am1 (upd H1 p _) p vs ds s1 (x1.trans (Ext.fresh hp)) (r1.fresh hp) (back_none x1 r1 hp) upd_same (fun z => r1.notNone z hp) (RepVs.ext (Ext.fresh hp) _ _ rv) z.2
/-- {} : its keys numbers or texts | tuples of these -/
@[simp ↓] def wDk : WE := fun _ st P => P (.ob st.length) (st ++ [.dK []])
@[simp ↓] def wDt : WE := fun _ st P => P (.ob st.length) (st ++ [.dT []])
theorem e_dk : PE X (.Dict [] [] pos) (tD X.K wDk) := PE.imp pe_dnewK fun σ H Q ⟨am, env, st, P, hn, hs, q, k⟩ p hp =>
  k (am ++ [p]) (upd H p _) _ _ _ (Ext.alloc hp) (hs.alloc (c := .dK []) hp ⟨[], upd_same, rfl, .nil⟩) (rep_ob_new (hs.fresh hp)) q
theorem e_dt : PE X (.Dict [] [] pos) (tD X.K wDt) := PE.imp pe_dnewT fun σ H Q ⟨am, env, st, P, hn, hs, q, k⟩ p hp =>
  k (am ++ [p]) (upd H p _) _ _ _ (Ext.alloc hp) (hs.alloc (c := .dT []) hp ⟨[], upd_same, rfl, .nil⟩) (rep_ob_new (hs.fresh hp)) q
end Vd
set_option Elab.async false
set_option linter.all false
set_option maxRecDepth 100000
set_option maxHeartbeats 2000000
/-! Vd4: targets, what is walked, loops, statements, comprehensions. -/
namespace Vd
open PySem PySem.Spec PyProof.Rows L2
variable {Hs : Hp} {X : Cx} {a b c e tg : Expr} {f g h : WE} {pos : Pos} {K : PySem.W.Frag} {am am' : List Addr} {H H' : Hp} {st : Sto} {d : D} {v : V}

/-! ### targets -/
abbrev WG := D → Env' → Sto → (Env' → Sto → Prop) → Prop
abbrev WGs := List D → Env' → Sto → (Env' → Sto → Prop) → Prop
/-- only these slots are changed -/
def Only_ (is : List Nat) (σ σ' : L2.St) : Prop := σ'.length = σ.length ∧ ∀ j, j ∉ is → σ'[j]? = σ[j]?
def tDg (K : PySem.W.Frag) (is : List Nat) (g : WG) : TG := fun v σ H Q => ∃ am env st d P, RepN K am H env σ ∧ RepS K am H st ∧ RepV K am H d v ∧ g d env st P ∧
  ∀ am' H' env' σ' st', Ext am H am' H' → RepN K am' H' env' σ' → RepS K am' H' st' → Only_ is σ σ' → P env' st' → Q σ' H'
def tDgs (K : PySem.W.Frag) (is : List Nat) (g : WGs) : TGs := fun vs σ H Q => ∃ am env st ds P, RepN K am H env σ ∧ RepS K am H st ∧ RepVs K am H ds vs ∧ g ds env st P ∧
  ∀ am' H' env' σ' st', Ext am H am' H' → RepN K am' H' env' σ' → RepS K am' H' st' → Only_ is σ σ' → P env' st' → Q σ' H'
theorem PG.imp {t t' : TG} (h : PG X tg t) (i : ∀ v σ H Q, t' v σ H Q → t v σ H Q) : PG X tg t' := ⟨fun pins s σ H v u Q I r q => h.run pins s σ H v u Q I r (i v σ H Q q)⟩
theorem PGs.imp {ts : List Expr} {t t' : TGs} (h : PGs X ts t) (i : ∀ v σ H Q, t' v σ H Q → t v σ H Q) : PGs X ts t' := ⟨fun pins s σ H vs us Q I r q => h.run pins s σ H vs us Q I r (i vs σ H Q q)⟩
theorem Only_.refl {is : List Nat} {σ : L2.St} : Only_ is σ σ := ⟨rfl, fun _ _ => rfl⟩
theorem Only_.trans {is : List Nat} {σ σ1 σ2 : L2.St} (x : Only_ is σ σ1) (y : Only_ is σ1 σ2) : Only_ is σ σ2 := ⟨y.1.trans x.1, fun j h => (y.2 j h).trans (x.2 j h)⟩
theorem Only_.mono {is js : List Nat} {σ σ1 : L2.St} (x : Only_ is σ σ1) (h : ∀ i ∈ is, i ∈ js) : Only_ js σ σ1 := ⟨x.1, fun j n => x.2 j fun z => n (h j z)⟩
theorem RepN.set {env : Env'} {σ : L2.St} (n : RepN K am H env σ) {i : Nat} (r : RepV K am H d v) : RepN K am H (env.set i (some d)) (σ.set i (some v)) := by
  refine ⟨by rw [List.length_set, List.length_set]; exact n.len, fun j x e => ?_⟩
  by_cases hj : j = i
  · subst hj
    have hl : j < env.length := by
      have := (List.getElem?_eq_some_iff.mp e).1
      rwa [List.length_set] at this
    rw [List.getElem?_set_self hl] at e
    cases e
    exact ⟨v, List.getElem?_set_self (by rw [← n.len]; exact hl), r⟩
  · rw [List.getElem?_set_ne (Ne.symm hj)] at e
    obtain ⟨w, hw, r'⟩ := n.at_ j x e
    exact ⟨w, by rw [List.getElem?_set_ne (Ne.symm hj)]; exact hw, r'⟩
@[simp ↓] def wgName (i : Nat) : WG := fun d env st P => P (env.set i (some d)) st
theorem g_name {i : Nat} (hg : PG X tg (gName i)) : PG X tg (tDg X.K [i] (wgName i)) := PG.imp hg fun v σ H Q ⟨am, env, st, d, P, hn, hs, hr, q, k⟩ =>
  k am H _ _ st Ext.refl (hn.set hr) hs ⟨List.length_set, fun j hj => List.getElem?_set_ne fun z => hj (by rw [z]; simp)⟩ q
@[simp ↓] def wgNil : WGs := fun ds env st P => ds = [] ∧ P env st
@[simp ↓] def wgCons (g : WG) (u : WGs) : WGs := fun ds env st P => match ds with
  | d :: r => g d env st fun env1 st1 => u r env1 st1 P
  | [] => False
theorem g_nil {is : List Nat} : PGs X [] (tDgs X.K is wgNil) := PGs.imp pgs_nil fun vs σ H Q ⟨am, env, st, ds, P, hn, hs, hr, q, k⟩ => by
  obtain ⟨e, q⟩ := q
  subst e
  simp only [RepVs] at hr
  exact ⟨hr, k am H env σ st Ext.refl hn hs Only_.refl q⟩
theorem g_cons {es : List Expr} {is js : List Nat} {g : WG} {u : WGs} (h1 : PG X e (tDg X.K is g)) (h2 : PGs X es (tDgs X.K js u)) (hs : (assignEach (e :: es) X.env).map (·.2) = assign e X.env :: (assignEach es X.env).map (·.2) := by rfl) :
    PGs X (e :: es) (tDgs X.K (is ++ js) (wgCons g u)) := PGs.imp (pgs_cons h1 h2 hs) fun vs σ H Q ⟨am, env, st, ds, P, hn, hs, hr, q, k⟩ => by
  cases ds with
  | nil => exact q.elim
  | cons d r =>
    simp only [RepVs] at hr
    obtain ⟨v, vr, ev, r1, r2⟩ := hr
    refine ⟨v, vr, ev, am, env, st, d, _, hn, hs, r1, q, fun am1 H1 env1 σ1 st1 x1 n1 s1 o1 z => ?_⟩
    refine ⟨am1, env1, st1, r, P, n1, s1, RepVs.ext x1 _ _ r2, z, fun am2 H2 env2 σ2 st2 x2 n2 s2 o2 z2 => ?_⟩
    exact k am2 H2 env2 σ2 st2 (x1.trans x2) n2 s2 ((o1.mono fun i hi => List.mem_append_left _ hi).trans (o2.mono fun i hi => List.mem_append_right _ hi)) z2
def wgTup (n : Nat) (u : WGs) : WG := fun d env st P => match d with
  | .tup xs => xs.length = n ∧ u xs env st P
  | _ => False
theorem g_tup {es : List Expr} {k0 : Nat} {is : List Nat} {u : WGs} {n : Nat} (hc : X.calm = true) (h : PGs X es (tDgs X.K is u)) (hn : (assignEach es X.env).length = n := by rfl) (hst : (assignEach es X.env).findIdx? (·.1) = none := by rfl) :
    PG X (.Tuple es k0 pos) (tDg X.K is (wgTup n u)) := PG.imp (pg_tup hc h hn hst) fun v σ H Q ⟨am, env, st, d, P, hn, hs, hr, q, k⟩ => by
  unfold wgTup at q
  split at q
  · rename_i xs
    simp only [RepV] at hr
    obtain ⟨p, vs, ev, ht, hr⟩ := hr
    exact ⟨p, vs, ev, tupT ht, by rw [← hr.length]; exact q.1, am, env, st, xs, P, hn, hs, hr, q.2, k⟩
  · exact q.elim

/-! ### what is walked -/
/-- as a walk sees it: of what has come since Hs nothing that nobody has told of is changed -/
structure ExtJ (Hs : Hp) (am : List Addr) (H : Hp) (am' : List Addr) (H' : Hp) : Prop extends Ext0 am H am' H' where
  frz : ∀ a o u, H a = some (.frz o u) → H' a = some (.frz o u)
  fr : ∀ a o, a ∉ am → Hs a = none → H a = some o → H' a = some o
theorem Ext.j (x : Ext am H am' H') (Hs : Hp) : ExtJ Hs am H am' H' := ⟨x.z, x.frz, fun a o h _ => x.fr a o h⟩
theorem ExtJ.rdT {Hs : Hp} (x : ExtJ Hs am H am' H') {a : Addr} {vs : List V} (h : SqT K H a vs) : SqT K H' a vs := by
  rcases h with (h | ⟨o, h⟩) | h
  · exact .inl (.inl (x.tup _ _ h))
  · exact .inl (.inr ⟨o, x.frz _ _ _ h⟩)
  · exact .inr h
structure JOk (K : PySem.W.Frag) (Hs : Hp) (am0 : List Addr) (H0 : Hp) (J : It) (ds : List D) (stb : Sto → Prop) : Prop where
  go : ∀ am H st i, ExtJ Hs am0 H0 am H → RepS K am H st → stb st → i < ds.length → J.go i H
  yl : ∀ am H st i x H', ExtJ Hs am0 H0 am H → RepS K am H st → stb st → i < ds.length → J.yld i H x H' → Ext am H am H' ∧ RepS K am H' st ∧ ∃ d, ds[i]? = some d ∧ RepV K am H' d x
  stop : ∀ am H st i, ExtJ Hs am0 H0 am H → RepS K am H st → stb st → ds.length ≤ i → J.stop i H
abbrev WI := Env' → Sto → (List D → (Sto → Prop) → Sto → Prop) → Prop
def tDi (K : PySem.W.Frag) (f : WI) : TI := fun σ H R => ∃ am env st P, RepN K am H env σ ∧ RepS K am H st ∧ f env st P ∧
  ∀ am' H' J ds stb st', Ext am H am' H' → RepS K am' H' st' → JOk K H am' H' J ds stb → P ds stb st' → R J H'
theorem PI.imp {it : Expr} {t t' : TI} (h : PI X tg it t) (i : ∀ σ H R, t' σ H R → t σ H R) : PI X tg it t' := ⟨fun pins s σ H R I q => h.run pins s σ H R I (i σ H R q)⟩

theorem jok_tup {p : Addr} {vs : List V} {ds : List D} (h : SqT K H p vs) (r : RepVs K am H ds vs) : JOk K Hs am H (Itt K p) ds fun _ => True where
  go := fun am1 H1 st i x s _ hi => by
    obtain ⟨w, hw, _⟩ := (RepVs.ext0 x.toExt0 _ _ r).get (List.getElem?_eq_getElem hi)
    exact ⟨vs, w, x.rdT h, hw⟩
  yl := fun am1 H1 st i y H' x s _ hi hy => by
    obtain ⟨w, hw, rw'⟩ := (RepVs.ext0 x.toExt0 _ _ r).get (List.getElem?_eq_getElem hi)
    obtain ⟨e, hy⟩ := hy
    subst e
    have := hy vs (x.rdT h)
    rw [hw] at this
    cases this
    exact ⟨Ext.refl, s, _, List.getElem?_eq_getElem hi, rw'⟩
  stop := fun am1 H1 st i x s _ hi => ⟨vs, x.rdT h, by rw [← r.length]; exact hi⟩
theorem jok_lst {n : Nat} {p : Addr} {ds : List D} (hp : am[n]? = some p) (hc : st[n]? = some (.lst ds)) (s0 : RepS K am H st) : JOk K Hs am H (Itl K p) ds fun s => s[n]? = some (.lst ds) where
  go := fun am1 H1 st1 i x s hs hi => by
    obtain ⟨vs, h1, r⟩ := s.cell n p _ (x.toExt0.get hp) hs
    obtain ⟨w, hw, _⟩ := r.get (List.getElem?_eq_getElem hi)
    exact ⟨vs, w, .inl (.inl h1), hw⟩
  yl := fun am1 H1 st1 i y H' x s hs hi hy => by
    obtain ⟨vs, h1, r⟩ := s.cell n p _ (x.toExt0.get hp) hs
    obtain ⟨w, hw, rw'⟩ := r.get (List.getElem?_eq_getElem hi)
    obtain ⟨e, hy⟩ := hy
    subst e
    have := hy vs (.inl (.inl h1))
    rw [hw] at this
    cases this
    exact ⟨Ext.refl, s, _, List.getElem?_eq_getElem hi, rw'⟩
  stop := fun am1 H1 st1 i x s hs hi => by
    obtain ⟨vs, h1, r⟩ := s.cell n p _ (x.toExt0.get hp) hs
    exact ⟨vs, .inl (.inl h1), by rw [← r.length]; exact hi⟩
theorem jok_fro {n : Nat} {p : Addr} {ds : List D} (hp : am[n]? = some p) (hc : st[n]? = some (.fro ds)) (s0 : RepS K am H st) : JOk K Hs am H (Itl K p) ds fun s => s[n]? = some (.fro ds) where
  go := fun am1 H1 st1 i x s hs hi => by
    obtain ⟨vs, ⟨o, h1⟩, r⟩ := s.cell n p _ (x.toExt0.get hp) hs
    obtain ⟨w, hw, _⟩ := r.get (List.getElem?_eq_getElem hi)
    exact ⟨vs, w, .inl (.inr ⟨o, h1⟩), hw⟩
  yl := fun am1 H1 st1 i y H' x s hs hi hy => by
    obtain ⟨vs, ⟨o, h1⟩, r⟩ := s.cell n p _ (x.toExt0.get hp) hs
    obtain ⟨w, hw, rw'⟩ := r.get (List.getElem?_eq_getElem hi)
    obtain ⟨e, hy⟩ := hy
    subst e
    have := hy vs (.inl (.inr ⟨o, h1⟩))
    rw [hw] at this
    cases this
    exact ⟨Ext.refl, s, _, List.getElem?_eq_getElem hi, rw'⟩
  stop := fun am1 H1 st1 i x s hs hi => by
    obtain ⟨vs, ⟨o, h1⟩, r⟩ := s.cell n p _ (x.toExt0.get hp) hs
    exact ⟨vs, .inl (.inr ⟨o, h1⟩), by rw [← r.length]; exact hi⟩
/-- a list that nobody has told of -/
theorem jok_tmp {p : Addr} {vs : List V} {ds : List D} (hs0 : Hs p = none) (h : H p = some (.lst vs)) (nm : p ∉ am) (r : RepVs K am H ds vs) : JOk K Hs am H (Itl K p) ds fun _ => True where
  go := fun am1 H1 st i x s _ hi => by
    obtain ⟨w, hw, _⟩ := (RepVs.ext0 x.toExt0 _ _ r).get (List.getElem?_eq_getElem hi)
    exact ⟨vs, w, .inl (.inl (x.fr _ _ nm hs0 h)), hw⟩
  yl := fun am1 H1 st i y H' x s _ hi hy => by
    obtain ⟨w, hw, rw'⟩ := (RepVs.ext0 x.toExt0 _ _ r).get (List.getElem?_eq_getElem hi)
    obtain ⟨e, hy⟩ := hy
    subst e
    have := hy vs (.inl (.inl (x.fr _ _ nm hs0 h)))
    rw [hw] at this
    cases this
    exact ⟨Ext.refl, s, _, List.getElem?_eq_getElem hi, rw'⟩
  stop := fun am1 H1 st i x s _ hi => ⟨vs, .inl (.inl (x.fr _ _ nm hs0 h)), by rw [← r.length]; exact hi⟩
def rngD (lo : Int) (n : Nat) : List D := (List.range n).map fun i : Nat => D.int (lo + i)
theorem rngD_len {lo : Int} {n : Nat} : (rngD lo n).length = n := by unfold rngD; simp
theorem rngD_get {lo : Int} {n i : Nat} (h : i < n) : (rngD lo n)[i]? = some (.int (lo + i)) := by
  unfold rngD
  rw [List.getElem?_map, List.getElem?_range h]
  rfl
theorem jok_rng {lo : Int} {n : Nat} : JOk K Hs am H (Itr lo n) (rngD lo n) fun _ => True where
  go := fun am1 H1 st i x s _ hi => by rw [rngD_len] at hi; exact hi
  yl := fun am1 H1 st i y H' x s _ hi hy => by
    rw [rngD_len] at hi
    obtain ⟨e, hy⟩ := hy
    subst e
    subst hy
    exact ⟨Ext.refl, s, _, rngD_get hi, by simp only [RepV]⟩
  stop := fun am1 H1 st i x s _ hi => by rw [rngD_len] at hi; exact hi
theorem it_fresh {pins : List (Addr × Obj)} {σ : L2.St} {s : Shared} {J : It} {R : It → Hp → Prop} {o : Obj} {tk : Nat} {tn : Nat → Heap → Prop} (I : Inv X pins σ H s) (T : Turn X.prog X.w X.K tg J [s.heap.objs.size] s.heap.objs.size tn) (t0 : tn 0 (s.heap.push o)) (q : R J H) :
    PIE X pins σ tg R (.ref s.heap.objs.size) { s with heap := s.heap.push o, toks := tk } := by
  refine ⟨_, _, tn, J, H, rfl, I.kept (t' := tk) (fun b u z => Heap.get?_push_of_some _ z), T, t0, fun b m => ?_, q⟩
  rw [List.mem_singleton.mp m]
  exact I.fpOk (Nat.le_refl _) (I.hok.fresh (Nat.le_refl _))
/-- the walk of a value: a list, a tuple, a range -/
def seqIt (K : PySem.W.Frag) (v : V) (H : Hp) (R : It → Hp → Prop) : Prop := ∃ p, v = .ref p ∧ (((∃ vs, SqL K H p vs) ∧ R (Itl K p) H) ∨ ((∃ vs, SqT K H p vs) ∧ R (Itt K p) H) ∨
  ∃ lo hi, H p = some (.rng lo hi) ∧ -(2 ^ 62) ≤ lo ∧ lo < 2 ^ 62 ∧ -(2 ^ 62) ≤ hi ∧ hi < 2 ^ 62 ∧ R (Itr lo (hi - lo).toNat) H)
theorem pi_seq {l : Expr} {tl : TE} (hl : PE X l tl) : PI X tg l (fun σ H R => tl σ H fun v H1 => seqIt X.K v H1 R) := by
  refine ⟨fun pins s σ H R I q0 => thn (hl.run pins s σ H _ I q0) fun u s1 ⟨x, H1, J1, rx, p, ev, q⟩ => ?_⟩
  subst ev
  obtain rfl : u = Value.ref p := rx
  rcases q with ⟨⟨vs, hq⟩, q⟩ | ⟨⟨vs, hq⟩, q⟩ | ⟨lo, hi, hq, b1, b2, b3, b4, q⟩
  · obtain ⟨its, _, pl, _⟩ := J1.list hq
    exact wpAny_pyIter_list pl.isList (it_fresh J1 (turn_list p _) ⟨_, Heap.get?_push_size _ rfl, rfl, rfl⟩ q)
  · obtain ⟨its, _, pl, _⟩ := J1.tuple hq
    exact wpAny_pyIter_tuple (show s1.heap.IsTuple p its.toArray from pl) (it_fresh J1 (turn_tuple p _) ⟨_, Heap.get?_push_size _ rfl, rfl, rfl⟩ q)
  · obtain ⟨t, w, z, ho⟩ : ∃ t u v, s1.heap.get? p = some { cls := .type "range", data := .fields #[.int lo t, .int hi u, .int 1 v] } := J1.hok p _ hq
    refine wpAny_pyIter_range (show IsRange s1.heap p lo hi 1 t w z from ho) (small_one b1 b2 b3 b4) (it_fresh J1 (turn_range _ lo (hi - lo).toNat) ?_ q)
    have e1 : lo + ((0 : Nat) : Int) * 1 = lo := by omega
    have e2 : (((hi - lo).toNat : Nat) : Int) - ((0 : Nat) : Int) = Builtin.Range.rangeSize lo hi 1 := by
      rw [rangeSize_one]
      split <;> omega
    show IsRangeIter _ _ (lo + ((0 : Nat) : Int) * 1) ((((hi - lo).toNat : Nat) : Int) - ((0 : Nat) : Int)) 1
    rw [e1, e2]
    exact Heap.get?_push_size _ rfl
def wiSeq (f : WE) : WI := fun env st P => f env st fun d s1 => match d with
  | .tup xs => P xs (fun _ => True) s1
  | .kt xs => P xs (fun _ => True) s1
  | .rng lo hi => (-(2 ^ 62) ≤ lo ∧ lo < 2 ^ 62 ∧ -(2 ^ 62) ≤ hi ∧ hi < 2 ^ 62) ∧ P (rngD lo (hi - lo).toNat) (fun _ => True) s1
  | .ob n => (match s1[n]? with
    | some (.lst xs) => P xs (fun s => s[n]? = some (.lst xs)) s1
    | some (.fro xs) => P xs (fun s => s[n]? = some (.fro xs)) s1
    | _ => False)
  | _ => False
theorem i_seq {l : Expr} (hl : PE X l (tD X.K f)) : PI X tg l (tDi X.K (wiSeq f)) := PI.imp (pi_seq hl) fun σ H R ⟨am, env, st, P, hn, hs, q, k⟩ => by
  refine ⟨am, env, st, _, hn, hs, q, fun am1 H1 v d s1 x1 r1 rv z => ?_⟩
  split at z
  · simp only [RepV] at rv
    obtain ⟨p, vs, ev, ht, hr⟩ := rv
    exact ⟨p, ev, .inr (.inl ⟨⟨vs, tupT ht⟩, k am1 H1 _ _ _ s1 x1 r1 (jok_tup (tupT ht) hr) z⟩)⟩
  · simp only [RepV] at rv
    obtain ⟨p, vs, ev, ht, hr⟩ := rv
    exact ⟨p, ev, .inr (.inl ⟨⟨vs, ktT ht⟩, k am1 H1 _ _ _ s1 x1 r1 (jok_tup (ktT ht) hr) z⟩)⟩
  · simp only [RepV] at rv
    obtain ⟨p, ev, ht⟩ := rv
    obtain ⟨⟨b1, b2, b3, b4⟩, z⟩ := z
    exact ⟨p, ev, .inr (.inr ⟨_, _, ht, b1, b2, b3, b4, k am1 H1 _ _ _ s1 x1 r1 jok_rng z⟩)⟩
  · simp only [RepV] at rv
    obtain ⟨p, hp, ev⟩ := rv
    split at z
    · rename_i xs hx
      obtain ⟨vs, h1, r⟩ := r1.cell _ p _ hp hx
      exact ⟨p, ev, .inl ⟨⟨vs, .inl (.inl h1)⟩, k am1 H1 _ _ _ s1 x1 r1 (jok_lst hp hx r1) z⟩⟩
    · rename_i xs hx
      obtain ⟨vs, ⟨o, h1⟩, r⟩ := r1.cell _ p _ hp hx
      exact ⟨p, ev, .inl ⟨⟨vs, .inl (.inr ⟨o, h1⟩)⟩, k am1 H1 _ _ _ s1 x1 r1 (jok_fro hp hx r1) z⟩⟩
    · exact z.elim
  · exact z.elim
@[simp ↓] def wiTmp (f : WA) : WI := fun env st P => f env st fun ds s1 => P ds (fun _ => True) s1
theorem i_tmp {l : Expr} {f : WA} (hl : PE X l (tDt X.K f)) : PI X tg l (tDi X.K (wiTmp f)) := PI.imp (pi_seq hl) fun σ H R ⟨am, env, st, P, hn, hs, q, k⟩ => by
  refine ⟨am, env, st, _, hn, hs, q, fun am1 H1 p vs ds s1 x1 r1 h0 h1 h2 rv z => ?_⟩
  exact ⟨p, rfl, .inl ⟨⟨vs, .inl (.inl h1)⟩, k am1 H1 _ _ _ s1 x1 r1 (jok_tmp h0 h1 h2 rv) z⟩⟩
/-- range(n), range(a, b) -/
def wiRng1 (fa : WA) : WI := fun env st P => fa env st fun ds s1 => match ds with
  | [.int j] => (-(2 ^ 62) ≤ j ∧ j < 2 ^ 62) ∧ P (rngD 0 j.toNat) (fun _ => True) s1
  | _ => False
def wiRng2 (fa : WA) : WI := fun env st P => fa env st fun ds s1 => match ds with
  | [.int i, .int j] => (-(2 ^ 62) ≤ i ∧ i < 2 ^ 62 ∧ -(2 ^ 62) ≤ j ∧ j < 2 ^ 62) ∧ P (rngD i (j - i).toNat) (fun _ => True) s1
  | _ => False
theorem i_rng1 {fa : WA} {p : Pos} (hg : Gl X "range") (hm : X.mg "range" = none) (ha : PA X [a] (tDa X.K fa)) (hs : starEach [a] X.env = [(false, eval a X.env)] := by rfl) : PI X tg (.Call (.Name "range" p) [a] [] pos) (tDi X.K (wiRng1 fa)) := PI.imp (pi_range1 hg hm ha hs) fun σ H R ⟨am, env, st, P, hn, hs, q, k⟩ => by
  refine ⟨am, env, st, _, hn, hs, q, fun am1 H1 vs ds s1 x1 r1 rv z => ?_⟩
  split at z
  · rename_i j
    simp only [RepVs, RepV] at rv
    obtain ⟨v, r, ev, e1, e2⟩ := rv
    subst ev e1 e2
    exact ⟨j, rfl, z.1.1, z.1.2, k am1 H1 _ _ _ s1 x1 r1 jok_rng z.2⟩
  · exact z.elim
theorem i_rng2 {fa : WA} {p : Pos} (hg : Gl X "range") (hm : X.mg "range" = none) (ha : PA X [a, b] (tDa X.K fa)) (hs : starEach [a, b] X.env = [(false, eval a X.env), (false, eval b X.env)] := by rfl) (hs2 : starEach [b] X.env = [(false, eval b X.env)] := by rfl) :
    PI X tg (.Call (.Name "range" p) [a, b] [] pos) (tDi X.K (wiRng2 fa)) := PI.imp (pi_range2 hg hm ha hs hs2) fun σ H R ⟨am, env, st, P, hn, hs, q, k⟩ => by
  refine ⟨am, env, st, _, hn, hs, q, fun am1 H1 vs ds s1 x1 r1 rv z => ?_⟩
  split at z
  · rename_i i j
    simp only [RepVs, RepV] at rv
    obtain ⟨v, r, ev, e1, v2, r2, e2, e3, e4⟩ := rv
    subst ev e1 e2 e3 e4
    exact ⟨i, j, rfl, z.1, k am1 H1 _ _ _ s1 x1 r1 jok_rng z.2⟩
  · exact z.elim
end Vd
set_option Elab.async false
set_option linter.all false
set_option maxRecDepth 100000
set_option maxHeartbeats 2000000
/-! Vd5: more that is walked; loops, statements, comprehensions. -/
namespace Vd
open PySem PySem.Spec PyProof.Rows L2
variable {Hs : Hp} {X : Cx} {a b c e tg : Expr} {f g h : WE} {pos : Pos} {K : PySem.W.Frag} {am am' : List Addr} {H H' : Hp} {st : Sto} {d : D} {v : V}

/-! ### reversed(list), enumerate(list) -/
theorem RepVs.getR {ds : List D} {vs : List V} (r : RepVs K am H ds vs) {i : Nat} (hi : i < ds.length) : ∃ d w, ds.reverse[i]? = some d ∧ vs[ds.length - 1 - i]? = some w ∧ RepV K am H d w := by
  have h2 : ds.length - 1 - i < ds.length := by omega
  obtain ⟨w, hw, rw'⟩ := r.get (List.getElem?_eq_getElem h2)
  refine ⟨ds[ds.length - 1 - i], w, ?_, hw, rw'⟩
  rw [List.getElem?_reverse hi]
  exact List.getElem?_eq_getElem h2
theorem jok_revL {n : Nat} {p : Addr} {ds : List D} (hp : am[n]? = some p) : JOk K Hs am H (Itv K p ds.length) ds.reverse fun s => s[n]? = some (.lst ds) where
  go := fun am1 H1 st1 i x s hs hi => by
    rw [List.length_reverse] at hi
    obtain ⟨vs, h1, r⟩ := s.cell n p _ (x.toExt0.get hp) hs
    obtain ⟨d, w, _, hw, _⟩ := r.getR hi
    exact ⟨hi, vs, w, .inl (.inl h1), hw⟩
  yl := fun am1 H1 st1 i y H' x s hs hi hy => by
    rw [List.length_reverse] at hi
    obtain ⟨vs, h1, r⟩ := s.cell n p _ (x.toExt0.get hp) hs
    obtain ⟨d, w, hd, hw, rw'⟩ := r.getR hi
    obtain ⟨e, hy⟩ := hy
    subst e
    have := hy vs (.inl (.inl h1))
    rw [hw] at this
    cases this
    exact ⟨Ext.refl, s, d, hd, rw'⟩
  stop := fun am1 H1 st1 i x s hs hi => by rw [List.length_reverse] at hi; exact hi
theorem jok_revT {p : Addr} {vs : List V} {ds : List D} (h : SqT K H p vs) (r : RepVs K am H ds vs) : JOk K Hs am H (RT.ItvT K p ds.length) ds.reverse fun _ => True where
  go := fun am1 H1 st1 i x s hs hi => by
    rw [List.length_reverse] at hi
    obtain ⟨d, w, _, hw, _⟩ := (RepVs.ext0 x.toExt0 _ _ r).getR hi
    exact ⟨hi, vs, w, x.rdT h, hw⟩
  yl := fun am1 H1 st1 i y H' x s hs hi hy => by
    rw [List.length_reverse] at hi
    obtain ⟨d, w, hd, hw, rw'⟩ := (RepVs.ext0 x.toExt0 _ _ r).getR hi
    obtain ⟨e, hy⟩ := hy
    subst e
    have := hy vs (x.rdT h)
    rw [hw] at this
    cases this
    exact ⟨Ext.refl, s, d, hd, rw'⟩
  stop := fun am1 H1 st1 i x s hs hi => by rw [List.length_reverse] at hi; exact hi
def wiRev (f : WE) : WI := fun env st P => f env st fun d s1 => match d with
  | .tup xs => P xs.reverse (fun _ => True) s1
  | .ob n => (match s1[n]? with
    | some (.lst xs) => P xs.reverse (fun s => s[n]? = some (.lst xs)) s1
    | _ => False)
  | _ => False
theorem i_rev {p : Pos} (hg : Gl X "reversed") (hm : X.mg "reversed" = none) (he : PE X e (tD X.K f)) (hs : starEach [e] X.env = (false, eval e X.env) :: starEach [] X.env := by rfl) : PI X tg (.Call (.Name "reversed" p) [e] [] pos) (tDi X.K (wiRev f)) := PI.imp (RT.pi_revA hg hm he hs) fun σ H R ⟨am, env, st, P, hn, hs, q, k⟩ => by
  refine ⟨am, env, st, _, hn, hs, q, fun am1 H1 v d s1 x1 r1 rv z => ?_⟩
  split at z
  · simp only [RepV] at rv
    obtain ⟨p, vs, ev, ht, hr⟩ := rv
    refine ⟨p, vs, ev, .inr ⟨tupT ht, ?_⟩⟩
    rw [← hr.length]
    exact k am1 H1 _ _ _ s1 x1 r1 (jok_revT (tupT ht) hr) z
  · simp only [RepV] at rv
    obtain ⟨p, hp, ev⟩ := rv
    split at z
    · rename_i xs hx
      obtain ⟨vs, h1, r⟩ := r1.cell _ p _ hp hx
      refine ⟨p, vs, ev, .inl ⟨.inl (.inl h1), ?_⟩⟩
      rw [← r.length]
      exact k am1 H1 _ _ _ s1 x1 r1 (jok_revL hp) z
    · exact z.elim
  · exact z.elim
def enumD (ds : List D) : List D := ds.zipIdx.map fun p => .tup [.int (p.2 : Nat), p.1]
theorem enumD_len {ds : List D} : (enumD ds).length = ds.length := by unfold enumD; simp
theorem enumD_get {ds : List D} {i : Nat} {d : D} (h : ds[i]? = some d) : (enumD ds)[i]? = some (.tup [.int (i : Nat), d]) := by
  unfold enumD
  rw [List.getElem?_map, List.getElem?_zipIdx, h]
  simp
theorem jok_enumL {n : Nat} {p : Addr} {ds : List D} (hp : am[n]? = some p) : JOk K Hs am H (Ite K p) (enumD ds) fun s => s[n]? = some (.lst ds) where
  go := fun am1 H1 st1 i x s hs hi => by
    rw [enumD_len] at hi
    obtain ⟨vs, h1, r⟩ := s.cell n p _ (x.toExt0.get hp) hs
    obtain ⟨w, hw, _⟩ := r.get (List.getElem?_eq_getElem hi)
    exact ⟨vs, w, .inl (.inl h1), hw⟩
  yl := fun am1 H1 st1 i y H' x s hs hi hy => by
    rw [enumD_len] at hi
    obtain ⟨vs, h1, r⟩ := s.cell n p _ (x.toExt0.get hp) hs
    obtain ⟨w, hw, rw'⟩ := r.get (List.getElem?_eq_getElem hi)
    obtain ⟨T, z, ey, nT, eH, hy⟩ := hy
    have := hy vs (.inl (.inl h1))
    rw [hw] at this
    cases this
    subst eH ey
    refine ⟨Ext.fresh nT, s.fresh nT, _, enumD_get (List.getElem?_eq_getElem hi), ?_⟩
    simp only [RepV]
    exact ⟨T, _, rfl, upd_same, .cons (by simp only [RepV]) (.cons (RepV.ext (Ext.fresh nT) _ _ rw') .nil)⟩
  stop := fun am1 H1 st1 i x s hs hi => by
    rw [enumD_len] at hi
    obtain ⟨vs, h1, r⟩ := s.cell n p _ (x.toExt0.get hp) hs
    exact ⟨vs, .inl (.inl h1), by rw [← r.length]; exact hi⟩
def wiEnum (fa : WA) : WI := fun env st P => fa env st fun ds s1 => match ds with
  | [.ob n] => (match s1[n]? with
    | some (.lst xs) => P (enumD xs) (fun s => s[n]? = some (.lst xs)) s1
    | _ => False)
  | _ => False
theorem i_enum {fa : WA} {p tpos : Pos} {elts : List Expr} {kk : Nat} (hg : Gl X "enumerate") (hm : X.mg "enumerate" = none) (ha : PA X [e] (tDa X.K fa)) (hs : starEach [e] X.env = [(false, eval e X.env)] := by rfl) :
    PI X (.Tuple elts kk tpos) (.Call (.Name "enumerate" p) [e] [] pos) (tDi X.K (wiEnum fa)) := PI.imp (pi_enum hg hm ha hs) fun σ H R ⟨am, env, st, P, hn, hs, q, k⟩ => by
  refine ⟨am, env, st, _, hn, hs, q, fun am1 H1 vs ds s1 x1 r1 rv z => ?_⟩
  split at z
  · simp only [RepVs, RepV] at rv
    obtain ⟨v, r, ev, ⟨p, hp, e1⟩, e2⟩ := rv
    subst ev e1 e2
    split at z
    · rename_i xs hx
      obtain ⟨vs, h1, r⟩ := r1.cell _ p _ hp hx
      exact ⟨p, vs, rfl, .inl (.inl h1), k am1 H1 _ _ _ s1 x1 r1 (jok_enumL hp) z⟩
    · exact z.elim
  · exact z.elim

/-! ### statements -/
structure EndsOk (K : PySem.W.Frag) (am : List Addr) (H : Hp) (W : WEnds) (D : Ends) : Prop where
  nx : ∀ am' H' env' σ' st', Ext am H am' H' → RepN K am' H' env' σ' → RepS K am' H' st' → W.nx env' st' → D.nx σ' H'
  rt : ∀ am' H' v d st', Ext am H am' H' → RepS K am' H' st' → RepV K am' H' d v → W.rt d st' → D.rt v H'
  bk : ∀ am' H' env' σ' st', Ext am H am' H' → RepN K am' H' env' σ' → RepS K am' H' st' → W.bk env' st' → D.bk σ' H'
  ct : ∀ am' H' env' σ' st', Ext am H am' H' → RepN K am' H' env' σ' → RepS K am' H' st' → W.ct env' st' → D.ct σ' H'
theorem EndsOk.ext {W : WEnds} {D : Ends} (x : Ext am H am' H') (e : EndsOk K am H W D) : EndsOk K am' H' W D :=
  ⟨fun a1 h1 e1 s1 t1 y => e.nx a1 h1 e1 s1 t1 (x.trans y), fun a1 h1 v d t1 y => e.rt a1 h1 v d t1 (x.trans y), fun a1 h1 e1 s1 t1 y => e.bk a1 h1 e1 s1 t1 (x.trans y), fun a1 h1 e1 s1 t1 y => e.ct a1 h1 e1 s1 t1 (x.trans y)⟩
def tDs (K : PySem.W.Frag) (f : WS) : TS := fun D σ H => ∃ am env st W, RepN K am H env σ ∧ RepS K am H st ∧ f W env st ∧ EndsOk K am H W D
theorem PS.imp {s : Stmt} {t t' : TS} (h : PS X s t) (i : ∀ D σ H, t' D σ H → t D σ H) : PS X s t' := ⟨fun pins s σ H D I q => h.run pins s σ H D I (i D σ H q)⟩
theorem PSs.imp {s : List Stmt} {t t' : TS} (h : PSs X s t) (i : ∀ D σ H, t' D σ H → t D σ H) : PSs X s t' := ⟨fun pins s σ H D I q => h.run pins s σ H D I (i D σ H q)⟩
@[simp ↓] def wsNext : WS := fun W env st => W.nx env st
@[simp ↓] def wsSeq (f g : WS) : WS := fun W env st => f { nx := g W, rt := W.rt, bk := W.bk, ct := W.ct } env st
theorem b_nil : PSs X [] (tDs X.K wsNext) := PSs.imp pss_nil fun D σ H ⟨am, env, st, W, hn, hs, q, k⟩ => k.nx am H env σ st Ext.refl hn hs q
theorem b_cons {s : Stmt} {ss : List Stmt} {f g : WS} (h1 : PS X s (tDs X.K f)) (h2 : PSs X ss (tDs X.K g)) : PSs X (s :: ss) (tDs X.K (wsSeq f g)) := PSs.imp (pss_cons h1 h2) fun D σ H ⟨am, env, st, W, hn, hs, q, k⟩ =>
  ⟨am, env, st, _, hn, hs, q, ⟨fun am1 H1 env1 σ1 st1 x1 n1 s1 z => ⟨am1, env1, st1, W, n1, s1, z, k.ext x1⟩, k.rt, k.bk, k.ct⟩⟩
theorem b_one {s : Stmt} {f : WS} (h1 : PS X s (tDs X.K f)) : PSs X [s] (tDs X.K f) := pss_one h1
@[simp ↓] def wsBrk : WS := fun W env st => W.bk env st
@[simp ↓] def wsCont : WS := fun W env st => W.ct env st
theorem s_pass : PS X (.Pass pos) (tDs X.K wsNext) := PS.imp ps_pass fun D σ H ⟨am, env, st, W, hn, hs, q, k⟩ => k.nx am H env σ st Ext.refl hn hs q
theorem s_brk : PS X (.Break pos) (tDs X.K wsBrk) := PS.imp ps_break fun D σ H ⟨am, env, st, W, hn, hs, q, k⟩ => k.bk am H env σ st Ext.refl hn hs q
theorem s_cont : PS X (.Continue pos) (tDs X.K wsCont) := PS.imp ps_continue fun D σ H ⟨am, env, st, W, hn, hs, q, k⟩ => k.ct am H env σ st Ext.refl hn hs q
@[simp ↓] def wsExpr (f : WE) : WS := fun W env st => f env st fun _ s1 => W.nx env s1
theorem s_expr (he : PE X e (tD X.K f)) (hs : swapsWith e none pos.line X.env = pure false := by rfl) : PS X (.Expr e pos) (tDs X.K (wsExpr f)) := PS.imp (ps_expr he hs) fun D σ H ⟨am, env, st, W, hn, hs, q, k⟩ =>
  ⟨am, env, st, _, hn, hs, q, fun am1 H1 v d s1 x1 r1 rv z => k.nx am1 H1 env σ s1 x1 (hn.ext x1) r1 z⟩
@[simp ↓] def wsRet (f : WE) : WS := fun W env st => f env st W.rt
theorem s_ret (he : PE X e (tD X.K f)) : PS X (.Return (some e) pos) (tDs X.K (wsRet f)) := PS.imp (ps_ret he) fun D σ H ⟨am, env, st, W, hn, hs, q, k⟩ =>
  ⟨am, env, st, _, hn, hs, q, fun am1 H1 v d s1 x1 r1 rv z => k.rt am1 H1 v d s1 x1 r1 rv z⟩
@[simp ↓] def wsRetN : WS := fun W _ st => W.rt .non st
theorem s_retN : PS X (.Return none pos) (tDs X.K wsRetN) := PS.imp ps_retN fun D σ H ⟨am, env, st, W, hn, hs, q, k⟩ => k.rt am H _ .non st Ext.refl hs (by simp only [RepV]) q
@[simp ↓] def wsIf (t : WT) (f g : WS) : WS := fun W env st => t env st fun b s1 => if b = true then f W env s1 else g W env s1
theorem s_if {t : WT} {x y : List Stmt} {f g : WS} (hc : PT X c (tDb X.K t)) (ha : PSs X x (tDs X.K f)) (hb : PSs X y (tDs X.K g)) : PS X (.If c x y pos) (tDs X.K (wsIf t f g)) := PS.imp (ps_if hc ha hb) fun D σ H ⟨am, env, st, W, hn, hs, q, k⟩ => by
  refine ⟨am, env, st, _, hn, hs, q, fun am1 H1 b s1 x1 r1 z => ?_⟩
  cases b with
  | true =>
    simp only [if_true] at z ⊢
    exact ⟨am1, env, s1, W, hn.ext x1, r1, z, k.ext x1⟩
  | false =>
    simp only [Bool.false_eq_true, if_false] at z ⊢
    exact ⟨am1, env, s1, W, hn.ext x1, r1, z, k.ext x1⟩
/-- target = e -/
@[simp ↓] def wsAsg (f : WE) (g : WG) : WS := fun W env st => f env st fun d s1 => g d env s1 W.nx
theorem s_asg {is : List Nat} {g : WG} (he : PE X e (tD X.K f)) (hg : PG X tg (tDg X.K is g)) (hs : swapsWithSole [tg] e pos.line X.env = pure false := by rfl) (hw : swappedStores [tg] e X.env = pure none := by rfl) (h1 : (assignEach [tg] X.env).map (·.2) = [assign tg X.env] := by rfl) :
    PS X (.Assign [tg] e pos) (tDs X.K (wsAsg f g)) := PS.imp (ps_asg he hg hs hw h1) fun D σ H ⟨am, env, st, W, hn, hs, q, k⟩ =>
  ⟨am, env, st, _, hn, hs, q, fun am1 H1 v d s1 x1 r1 rv z => ⟨am1, env, s1, d, _, hn.ext x1, r1, rv, z, fun am2 H2 env2 σ2 s2 x2 n2 r2 _ z2 => k.nx am2 H2 env2 σ2 s2 (x1.trans x2) n2 r2 z2⟩⟩
/-- name = e -/
@[simp ↓] def wsSet (i : Nat) (f : WE) : WS := fun W env st => f env st fun d s1 => W.nx (env.set i (some d)) s1
theorem s_set {i : Nat} {x : Str} {pos' : Pos} (hN : X.N.Nodup) (hi : X.N[i]? = some x) (hx : Loc X.env.scope x) (he : PE X e (tD X.K f)) (hs : swapsWith e (some (.Name x pos')) pos.line X.env = pure false := by rfl) (hf : X.fn x = true ∨ X.env.scope.names.lookup x = some .local := by first | exact .inl rfl | exact .inr rfl | assumption) :
    PS X (.Assign [.Name x pos'] e pos) (tDs X.K (wsSet i f)) := PS.imp (ps_set hN hi hx he hs hf) fun D σ H ⟨am, env, st, W, hn, hs, q, k⟩ =>
  ⟨am, env, st, _, hn, hs, q, fun am1 H1 v d s1 x1 r1 rv z => k.nx am1 H1 _ _ s1 x1 ((hn.ext x1).set rv) r1 z⟩
/-- name op= e -/
def wsAug (i : Nat) (kk : D → D → Sto → (D → Sto → Prop) → Prop) (f : WE) : WS := fun W env st => match env[i]? with
  | some (some x) => f env st fun y s1 => kk x y s1 fun z s2 => W.nx (env.set i (some z)) s2
  | _ => False
theorem s_aug {i : Nat} {x : Str} {op : Operator} {r : R2} {kk : D → D → Sto → (D → Sto → Prop) → Prop} {pos' : Pos} (hN : X.N.Nodup) (hi : X.N[i]? = some x) (hx : Loc X.env.scope x) (he : PE X e (tD X.K f)) (ho : OpR X (inplaceOp op) r) (lk : Lk2 X.K r kk)
    (hf : X.fn x = true ∨ X.env.scope.names.lookup x = some .local := by first | exact .inl rfl | exact .inr rfl | assumption) : PS X (.AugAssign (.Name x pos') op e pos) (tDs X.K (wsAug i kk f)) :=
  PS.imp (ps_aug (ti := r) hN hi hx he (fun pins s σ H x y v u Q I r1 r2 h => ho pins s σ H x y v u Q I r1 r2 h) hf) fun D σ H ⟨am, env, st, W, hn, hs, q, k⟩ => by
    unfold wsAug at q
    split at q
    · rename_i x hx
      obtain ⟨v, ev, rx⟩ := hn.at_ i x hx
      refine ⟨v, ev, am, env, st, _, hn, hs, q, fun am1 H1 w y s1 x1 r1 ry z => ?_⟩
      exact lk am1 H1 s1 x y v w _ _ r1 (RepV.ext x1 _ _ rx) ry z fun am2 H2 u zz s2 x2 r2 rz p => k.nx am2 H2 _ _ s2 (x1.trans x2) ((hn.ext (x1.trans x2)).set rz) r2 p
    · exact q.elim
theorem s_augAdd {i : Nat} {x : Str} {pos' : Pos} (hN : X.N.Nodup) (hi : X.N[i]? = some x) (hx : Loc X.env.scope x) (he : PE X e (tD X.K f)) (hf : X.fn x = true ∨ X.env.scope.names.lookup x = some .local := by first | exact .inl rfl | exact .inr rfl | assumption) :
    PS X (.AugAssign (.Name x pos') .Add e pos) (tDs X.K (wsAug i (kI0 fun i j => .int (i + j)) f)) := s_aug hN hi hx he iop_add lk_I0 hf
theorem s_augSub {i : Nat} {x : Str} {pos' : Pos} (hN : X.N.Nodup) (hi : X.N[i]? = some x) (hx : Loc X.env.scope x) (he : PE X e (tD X.K f)) (hf : X.fn x = true ∨ X.env.scope.names.lookup x = some .local := by first | exact .inl rfl | exact .inr rfl | assumption) :
    PS X (.AugAssign (.Name x pos') .Sub e pos) (tDs X.K (wsAug i kSub f)) := s_aug hN hi hx he iop_sub lk_I0 hf

/-! ### for -/
def wLoop (g : WG) (body : WS) (stb : Sto → Prop) : List D → WEnds → Env' → Sto → Prop
  | [], W, env, st => stb st ∧ W.nx env st
  | d :: ds, W, env, st => stb st ∧ g d env st fun env2 st2 => body { nx := wLoop g body stb ds W, rt := W.rt, bk := W.nx, ct := wLoop g body stb ds W } env2 st2
@[simp ↓] def wsFor (wi : WI) (g : WG) (body : WS) : WS := fun W env st => wi env st fun ds stb s1 => wLoop g body stb ds W env s1
theorem wLoop_stb {g : WG} {body : WS} {stb : Sto → Prop} {ds : List D} {W : WEnds} {env : Env'} (h : wLoop g body stb ds W env st) : stb st := by
  cases ds with
  | nil => exact h.1
  | cons _ _ => exact h.1
theorem s_for {iter : Expr} {body : List Stmt} {wi : WI} {is : List Nat} {g : WG} {tb : WS} (hp : PassesOwn (model X.prog X.w) X.A X.env X.xe) (hc : X.calm = true) (hi : PI X tg iter (tDi X.K wi)) (hg : PG X tg (tDg X.K is g)) (hb : PSs X body (tDs X.K tb))
    (hs : ∀ x, foldedSetIterable iter X.env x = pure x := by intro _; rfl) : PS X (.For tg iter body [] pos) (tDs X.K (wsFor wi g tb)) := PS.imp (ps_for hp hc hi hg hb hs) fun D σ H ⟨am, env, st, W, hn, hs, q, k⟩ => by
  refine ⟨am, env, st, _, hn, hs, q, fun am1 H1 J ds stb s1 x1 r1 jok z => ?_⟩
  refine ⟨fun i m σ2 H2 => ∃ am2 env2 st2, Ext am1 H1 am2 H2 ∧ RepN X.K am2 H2 env2 σ2 ∧ RepS X.K am2 H2 st2 ∧ wLoop g tb stb (ds.drop i) W env2 st2 ∧ m = ds.length - i, ⟨ds.length, am1, env, s1, Ext.refl, hn.ext x1, r1, z, by omega⟩, fun i m σ2 H2 ⟨am2, env2, st2, x2, n2, r2, z2, em⟩ => ?_⟩
  by_cases hi : i < ds.length
  · right
    rw [List.drop_eq_getElem_cons hi] at z2
    obtain ⟨zs, z2⟩ := z2
    refine ⟨jok.go am2 H2 st2 i (x2.j _) r2 zs hi, fun σ3 H3 => ∃ am3 env3 st3, Ext am1 H1 am3 H3 ∧ RepN X.K am3 H3 env3 σ3 ∧ RepS X.K am3 H3 st3 ∧ wLoop g tb stb (ds.drop (i + 1)) W env3 st3, fun σ3 H3 ⟨am3, env3, st3, x3, n3, r3, z3⟩ => ⟨ds.length - (i + 1), by omega, am3, env3, st3, x3, n3, r3, z3, rfl⟩, fun x H3 hy => ?_⟩
    obtain ⟨x3, r3, d, hd, rd⟩ := jok.yl am2 H2 st2 i x H3 (x2.j _) r2 zs hi hy
    rw [List.getElem?_eq_getElem hi] at hd
    cases hd
    refine ⟨am2, env2, st2, ds[i], _, n2.ext x3, r3, rd, z2, fun am4 H4 env4 σ4 st4 x4 n4 r4 _ z4 => ?_⟩
    have xx := (x2.trans x3).trans x4
    exact ⟨am4, env4, st4, _, n4, r4, z4, ⟨fun am5 H5 env5 σ5 st5 x5 n5 r5 z5 => ⟨am5, env5, st5, xx.trans x5, n5, r5, z5⟩, (k.ext (x1.trans xx)).rt, fun am5 H5 env5 σ5 st5 x5 n5 r5 z5 => k.nx am5 H5 env5 σ5 st5 ((x1.trans xx).trans x5) n5 r5 z5, fun am5 H5 env5 σ5 st5 x5 n5 r5 z5 => ⟨am5, env5, st5, xx.trans x5, n5, r5, z5⟩⟩⟩
  · left
    have e0 : ds.drop i = [] := List.drop_eq_nil_of_le (by omega)
    rw [e0] at z2
    exact ⟨jok.stop am2 H2 st2 i (x2.j _) r2 z2.1 (by omega), k.nx am2 H2 env2 σ2 st2 (x1.trans x2) n2 r2 z2.2⟩

/-! ### while -/
/-- by an invariant and a measure -/
def wsWhile (t : WT) (body : WS) : WS := fun W env st => ∃ V : Nat → Env' → Sto → Prop, (∃ m, V m env st) ∧ ∀ m env st, V m env st →
  t env st fun b s1 => if b = true then body { nx := fun env' st' => ∃ m', m' < m ∧ V m' env' st', ct := fun env' st' => ∃ m', m' < m ∧ V m' env' st', rt := W.rt, bk := W.nx } env s1 else W.nx env s1
theorem s_while {body : List Stmt} {t : WT} {tb : WS} (hp : PassesOwn (model X.prog X.w) X.A X.env X.xe) (hc : PT X c (tDb X.K t)) (hb : PSs X body (tDs X.K tb)) : PS X (.While c body [] pos) (tDs X.K (wsWhile t tb)) := PS.imp (ps_while hp hc hb) fun D σ H ⟨am, env, st, W, hn, hs, q, k⟩ => by
  obtain ⟨V, ⟨m0, v0⟩, turn⟩ := q
  refine ⟨fun m σ2 H2 => ∃ am2 env2 st2, Ext am H am2 H2 ∧ RepN X.K am2 H2 env2 σ2 ∧ RepS X.K am2 H2 st2 ∧ V m env2 st2, ⟨m0, am, env, st, Ext.refl, hn, hs, v0⟩, fun m σ2 H2 ⟨am2, env2, st2, x2, n2, r2, z2⟩ => ?_⟩
  refine ⟨am2, env2, st2, _, n2, r2, turn m env2 st2 z2, fun am3 H3 b st3 x3 r3 z3 => ?_⟩
  cases b with
  | false =>
    simp only [Bool.false_eq_true, if_false] at z3 ⊢
    exact k.nx am3 H3 env2 σ2 st3 (x2.trans x3) (n2.ext x3) r3 z3
  | true =>
    simp only [if_true] at z3 ⊢
    refine ⟨fun σ4 H4 => ∃ m', m' < m ∧ ∃ am4 env4 st4, Ext am H am4 H4 ∧ RepN X.K am4 H4 env4 σ4 ∧ RepS X.K am4 H4 st4 ∧ V m' env4 st4, fun σ4 H4 ⟨m', hm, h⟩ => ⟨m', hm, h⟩, am3, env2, st3, _, n2.ext x3, r3, z3, ?_⟩
    have xx := x2.trans x3
    exact ⟨fun am5 H5 env5 σ5 st5 x5 n5 r5 ⟨m', hm, z5⟩ => ⟨m', hm, am5, env5, st5, xx.trans x5, n5, r5, z5⟩, (k.ext xx).rt, fun am5 H5 env5 σ5 st5 x5 n5 r5 z5 => k.nx am5 H5 env5 σ5 st5 (xx.trans x5) n5 r5 z5, fun am5 H5 env5 σ5 st5 x5 n5 r5 ⟨m', hm, z5⟩ => ⟨m', hm, am5, env5, st5, xx.trans x5, n5, r5, z5⟩⟩

/-! ### stores -/
/-- a key's value is put -/
def putD {κ : Type} [DecidableEq κ] (kvs : List (κ × D)) (k : κ) (v : D) : List (κ × D) :=
  if (kvs.any fun kv => decide (kv.1 = k)) = true then kvs.map (fun kv => if kv.1 = k then (kv.1, v) else kv) else kvs ++ [(k, v)]
theorem put_rep1 {κ : Type} [DecidableEq κ] {k : κ} (r : RepV K am H d v) : ∀ {kds : List (κ × D)} {kvs : List (κ × V)}, kvs.map (·.1) = kds.map (·.1) → RepVs K am H (kds.map (·.2)) (kvs.map (·.2)) →
    (kvs.map (fun kv => if kv.1 = k then (kv.1, v) else kv)).map (·.1) = (kds.map (fun kv => if kv.1 = k then (kv.1, d) else kv)).map (·.1) ∧
    RepVs K am H ((kds.map (fun kv => if kv.1 = k then (kv.1, d) else kv)).map (·.2)) ((kvs.map (fun kv => if kv.1 = k then (kv.1, v) else kv)).map (·.2)) ∧
    (kvs.any fun kv => decide (kv.1 = k)) = kds.any fun kv => decide (kv.1 = k)
  | [], kvs, h, _ => by
    cases kvs with
    | nil => exact ⟨rfl, .nil, rfl⟩
    | cons _ _ => simp at h
  | (k1, d1) :: kds, [], h, _ => by simp at h
  | (k1, d1) :: kds, (k2, v1) :: kvs, h, rr => by
    simp only [List.map_cons, List.cons.injEq] at h
    obtain ⟨e, h⟩ := h
    subst e
    simp only [List.map_cons, RepVs, List.cons.injEq] at rr
    obtain ⟨v', r', ⟨ev, er⟩, h1, h2⟩ := rr
    subst ev er
    obtain ⟨i1, i2, i3⟩ := put_rep1 r h h2
    refine ⟨?_, ?_, ?_⟩
    · simp only [List.map_cons] at i1 ⊢
      rw [i1]
      by_cases q : k2 = k
      · simp only [q, if_true]
      · simp only [q, if_false]
    · simp only [List.map_cons]
      by_cases q : k2 = k
      · simp only [q, if_true]; exact .cons r i2
      · simp only [q, if_false]; exact .cons h1 i2
    · simp only [List.any_cons, i3]
theorem put_rep {κ : Type} [DecidableEq κ] {k : κ} (r : RepV K am H d v) {kds : List (κ × D)} {kvs : List (κ × V)} (h : kvs.map (·.1) = kds.map (·.1)) (rr : RepVs K am H (kds.map (·.2)) (kvs.map (·.2))) :
    (putK kvs k v).map (·.1) = (putD kds k d).map (·.1) ∧ RepVs K am H ((putD kds k d).map (·.2)) ((putK kvs k v).map (·.2)) := by
  obtain ⟨i1, i2, i3⟩ := put_rep1 (k := k) r h rr
  unfold putK putD
  rw [i3]
  by_cases q : (kds.any fun kv => decide (kv.1 = k)) = true
  · rw [if_pos q, if_pos q]
    exact ⟨i1, i2⟩
  · rw [if_neg q, if_neg q]
    simp only [List.map_append, List.map_cons, List.map_nil]
    exact ⟨by rw [h], rr.append (.cons r .nil)⟩
/-- o[i] = v, at cell n -/
def wPut (o i v : D) (st : Sto) (P : Sto → Prop) : Prop := match o with
  | .ob n => (match st[n]? with
    | some (.lst xs) => (match i with
      | .int j => (match ixN xs.length j with
        | some m => P (st.set n (.lst (xs.set m v)))
        | none => False)
      | _ => False)
    | some (.dK kvs) => (match keyD i with
      | some k => kvs.length < 100000 ∧ P (st.set n (.dK (putD kvs k v)))
      | none => False)
    | some (.dT kvs) => (match i with
      | .tup ks => (match keysD ks with
        | some k => kvs.length < 100000 ∧ P (st.set n (.dT (putD kvs k v)))
        | none => False)
      | _ => False)
    | _ => False)
  | _ => False
def rSetA : TSet := fun o i v H Q => rSetL o i v H Q ∨ rSetD o i v H Q
theorem set_any (hu : ∃ k, Room k X.A) : PSet X rSetA := fun pins s σ H o i v ov iv u Q I ro ri rv q => q.elim (set_list pins s σ H o i v ov iv u Q I ro ri rv) (set_dict (hu1 hu) pins s σ H o i v ov iv u Q I ro ri rv)
theorem wPut_ok {o i : D} {vo vi : V} {P : Sto → Prop} {Q : Hp → Prop} (s : RepS K am H st) (ro : RepV K am H o vo) (ri : RepV K am H i vi) (rv : RepV K am H d v) (q : wPut o i d st P)
    (k : ∀ H' st', Ext am H am H' → RepS K am H' st' → P st' → Q H') : rSetA vo vi v H Q := by
  unfold wPut at q
  split at q
  · rename_i n
    simp only [RepV] at ro
    obtain ⟨p, hp, e⟩ := ro
    split at q
    · rename_i xs hx
      split at q
      · rename_i j
        simp only [RepV] at ri
        split at q
        · rename_i m hm
          obtain ⟨vs, h1, r⟩ := s.cell n p _ hp hx
          have x1 : Ext am H am (upd H p (.lst (vs.set m v))) := Ext.mut (List.mem_of_getElem? hp) h1 (fun _ z => nomatch z) (fun _ _ z => nomatch z) (fun _ _ z => nomatch z)
          exact .inl ⟨p, vs, j, m, e, ri, h1, by rw [← r.length]; exact hm, k _ _ x1 (s.put hp h1 (fun _ z => nomatch z) (fun _ _ z => nomatch z) (fun _ _ z => nomatch z) (c := .lst (xs.set m d)) ⟨_, upd_same, RepVs.ext x1 _ _ (r.set m rv)⟩) q⟩
        · exact q.elim
      · exact q.elim
    · rename_i kds hx
      split at q
      · rename_i kk hk
        obtain ⟨kvs, h1, h2, h3⟩ := s.cell n p _ hp hx
        have ek := keyD_ok hk ri
        subst ek
        obtain ⟨p1, p2⟩ := put_rep (k := kk) rv h2 h3
        have x1 : Ext am H am (upd H p (.dK (putK kvs kk v))) := Ext.mut (List.mem_of_getElem? hp) h1 (fun _ z => nomatch z) (fun _ _ z => nomatch z) (fun _ _ z => nomatch z)
        have hl : kvs.length < sizeLine := by
          have := congrArg List.length h2
          rw [List.length_map, List.length_map] at this
          rw [this]; exact bigl _ q.1
        exact .inr ⟨p, _, e, DPut.k h1 hl, k _ _ x1 (s.put hp h1 (fun _ z => nomatch z) (fun _ _ z => nomatch z) (fun _ _ z => nomatch z) (c := .dK (putD kds kk d)) ⟨_, upd_same, p1, RepVs.ext x1 _ _ p2⟩) q.2⟩
      · exact q.elim
    · rename_i kds hx
      split at q
      · rename_i ks
        split at q
        · rename_i kk hk
          obtain ⟨kvs, h1, h2, h3⟩ := s.cell n p _ hp hx
          simp only [RepV] at ri
          obtain ⟨b, ws, eb, hb, hr⟩ := ri
          have ek := keysD_ok hk hr
          subst ek eb
          obtain ⟨p1, p2⟩ := put_rep (k := kk) rv h2 h3
          have x1 : Ext am H am (upd H p (.dT (putK kvs kk v))) := Ext.mut (List.mem_of_getElem? hp) h1 (fun _ z => nomatch z) (fun _ _ z => nomatch z) (fun _ _ z => nomatch z)
          have hl : kvs.length < sizeLine := by
            have := congrArg List.length h2
            rw [List.length_map, List.length_map] at this
            rw [this]; exact bigl _ q.1
          exact .inr ⟨p, _, e, DPut.t h1 hb hl, k _ _ x1 (s.put hp h1 (fun _ z => nomatch z) (fun _ _ z => nomatch z) (fun _ _ z => nomatch z) (c := .dT (putD kds kk d)) ⟨_, upd_same, p1, RepVs.ext x1 _ _ p2⟩) q.2⟩
        · exact q.elim
      · exact q.elim
    · exact q.elim
  · exact q.elim
@[simp ↓] def wgSub (f g : WE) : WG := fun d env st P => f env st fun o s1 => g env s1 fun i s2 => wPut o i d s2 fun s3 => P env s3
theorem g_sub {o i : Expr} {is : List Nat} (hu : ∃ k, Room k X.A) (ho : PE X o (tD X.K f)) (hi : PE X i (tD X.K g))
    (ha : ∀ v, assign (.Subscript o i pos) X.env v = (do
      let ov ← holding [v] (eval o X.env)
      let iv ← holding [v, ov] (eval i X.env)
      standAt pos
      holding [v, ov, iv] (setItem ov iv v)
      release [v, ov, iv] []) := by intro _; rfl) : PG X (.Subscript o i pos) (tDg X.K is (wgSub f g)) := PG.imp (pg_sub ho hi (set_any hu) ha) fun v σ H Q ⟨am, env, st, d, P, hn, hs, hr, q, k⟩ => by
  refine ⟨am, env, st, _, hn, hs, q, fun am1 H1 vo o s1 x1 r1 ro z1 => ⟨am1, env, s1, _, hn.ext x1, r1, z1, fun am2 H2 vi i s2 x2 r2 ri z2 => ?_⟩⟩
  refine wPut_ok r2 (RepV.ext x2 _ _ ro) ri (RepV.ext (x1.trans x2) _ _ hr) z2 fun H3 s3 x3 r3 z3 => ?_
  exact k am2 H3 env σ s3 ((x1.trans x2).trans x3) (hn.ext ((x1.trans x2).trans x3)) r3 Only_.refl z3
/-- o.f = v -/
def putFD (f : Str) (v : D) : List (Str × D) → List (Str × D)
  | [] => [(f, v)]
  | (g, x) :: r => if g = f then (g, v) :: r else (g, x) :: putFD f v r
theorem putF_rep {fl : Str} (r : RepV K am H d v) : ∀ {fs : List (Str × D)} {fvs : List (Str × V)}, fvs.map (·.1) = fs.map (·.1) → RepVs K am H (fs.map (·.2)) (fvs.map (·.2)) →
    (putF fl v fvs).map (·.1) = (putFD fl d fs).map (·.1) ∧ RepVs K am H ((putFD fl d fs).map (·.2)) ((putF fl v fvs).map (·.2))
  | [], fvs, h, _ => by
    cases fvs with
    | nil => exact ⟨rfl, .cons r .nil⟩
    | cons _ _ => simp at h
  | (k1, d1) :: fs, [], h, _ => by simp at h
  | (k1, d1) :: fs, (k2, v1) :: fvs, h, rr => by
    simp only [List.map_cons, List.cons.injEq] at h
    obtain ⟨e, h⟩ := h
    subst e
    simp only [List.map_cons, RepVs, List.cons.injEq] at rr
    obtain ⟨v', r', ⟨ev, er⟩, h1, h2⟩ := rr
    subst ev er
    obtain ⟨i1, i2⟩ := putF_rep (fl := fl) r h h2
    unfold putF putFD
    by_cases q : k2 = fl
    · rw [if_pos q, if_pos q]
      simp only [List.map_cons]
      exact ⟨by rw [h], .cons r h2⟩
    · rw [if_neg q, if_neg q]
      simp only [List.map_cons]
      exact ⟨by rw [i1], .cons h1 i2⟩
def wPutF (C fl : Str) (o v : D) (st : Sto) (P : Sto → Prop) : Prop := match o with
  | .ob n => (match st[n]? with
    | some (.ins C' fs) => C' = C ∧ fs.length < 1000 ∧ P (st.set n (.ins C (putFD fl v fs)))
    | _ => False)
  | _ => False
@[simp ↓] def wsFld (C fl : Str) (fo fv : WE) : WS := fun W env st => fv env st fun d s1 => fo env s1 fun o s2 => wPutF C fl o d s2 fun s3 => W.nx env s3
theorem s_fld {o value : Expr} {C fl : Str} {pos' : Pos} (cl : Cls X.K (He.ga X.K C)) (na : NoAttr X.K (He.ga X.K C) fl) (ho : PE X o (tD X.K f)) (hv : PE X value (tD X.K g)) (hs : swapsWith value (some (.Attribute o fl pos')) pos.line X.env = pure false := by rfl) :
    PS X (.Assign [.Attribute o fl pos'] value pos) (tDs X.K (wsFld C fl f g)) := PS.imp (ps_fld ho hv hs) fun D σ H ⟨am, env, st, W, hn, hs, q, k⟩ => by
  refine ⟨am, env, st, _, hn, hs, q, fun am1 H1 v d s1 x1 r1 rv z1 => ⟨am1, env, s1, _, hn.ext x1, r1, z1, fun am2 H2 vo o s2 x2 r2 ro z2 => ?_⟩⟩
  unfold wPutF at z2
  split at z2
  · simp only [RepV] at ro
    obtain ⟨p, hp, e⟩ := ro
    split at z2
    · rename_i C' fs hc
      obtain ⟨eC, hl, z2⟩ := z2
      subst eC
      obtain ⟨dx, fvs, h1, h2, h3⟩ := r2.cell _ p _ hp hc
      obtain ⟨p1, p2⟩ := putF_rep (fl := fl) (RepV.ext x2 _ _ rv) h2 h3
      have x3 : Ext am2 H2 am2 (upd H2 p (.ins (He.ga X.K C') dx (putF fl v fvs))) := Ext.mut (List.mem_of_getElem? hp) h1 (fun _ z => nomatch z) (fun _ _ z => nomatch z) (fun _ _ z => nomatch z)
      have el : fvs.length = fs.length := by
        have := congrArg List.length h2
        rwa [List.length_map, List.length_map] at this
      have xx := (x1.trans x2).trans x3
      exact ⟨p, _, dx, fvs, e, h1, cl, na, by omega, k.nx am2 _ env σ _ xx (hn.ext xx) (r2.put hp h1 (fun _ z => nomatch z) (fun _ _ z => nomatch z) (fun _ _ z => nomatch z) (c := .ins C' (putFD fl d fs)) ⟨dx, _, upd_same, p1, RepVs.ext x3 _ _ p2⟩) z2⟩
    · exact z2.elim
  · exact z2.elim
end Vd
set_option Elab.async false
set_option linter.all false
set_option maxRecDepth 100000
set_option maxHeartbeats 2000000
/-! Vd6: comprehensions. -/
namespace Vd
open PySem PySem.Spec PyProof.Rows L2
variable {Hs : Hp} {X : Cx} {a b c e tg : Expr} {f g h : WE} {pos : Pos} {K : PySem.W.Frag} {am am' : List Addr} {H H' : Hp} {st : Sto} {d : D} {v : V}

def wipeE (env : Env') : List Nat → Env'
  | [] => env
  | v :: vs => (wipeE env vs).set v none
theorem RepN.unset {env : Env'} {σ : L2.St} (n : RepN K am H env σ) (i : Nat) : RepN K am H (env.set i none) (σ.set i none) := by
  refine ⟨by rw [List.length_set, List.length_set]; exact n.len, fun j x e => ?_⟩
  by_cases hj : j = i
  · subst hj
    have hl : j < env.length := by
      have := (List.getElem?_eq_some_iff.mp e).1
      rwa [List.length_set] at this
    rw [List.getElem?_set_self hl] at e
    cases e
  · rw [List.getElem?_set_ne (Ne.symm hj)] at e
    obtain ⟨w, hw, r'⟩ := n.at_ j x e
    exact ⟨w, by rw [List.getElem?_set_ne (Ne.symm hj)]; exact hw, r'⟩
theorem RepN.wipe {env : Env'} {σ : L2.St} (n : RepN K am H env σ) : ∀ vs : List Nat, RepN K am H (wipeE env vs) (L2.wipe σ vs)
  | [] => n
  | v :: vs => (RepN.wipe n vs).unset v
theorem wipe_in {σ : L2.St} {i : Nat} (hi : i < σ.length) : ∀ {vs : List Nat}, i ∈ vs → (L2.wipe σ vs)[i]? = some none
  | v :: vs, h => by
    unfold L2.wipe
    by_cases e : v = i
    · subst e
      rw [List.getElem?_set_self (by rw [wipe_length]; exact hi)]
    · rw [List.getElem?_set_ne e]
      rcases List.mem_cons.mp h with z | z
      · exact absurd z.symm e
      · exact wipe_in hi z
/-- a store of own names is forgotten -/
theorem wipe_only {is vs : List Nat} {σ σ' : L2.St} (o : Only_ is (L2.wipe σ vs) σ') (h : ∀ i ∈ is, i ∈ vs) : L2.wipe σ' vs = L2.wipe σ vs := by
  have el : σ'.length = σ.length := by rw [o.1, wipe_length]
  refine List.ext_getElem? fun j => ?_
  by_cases hj : j ∈ vs
  · by_cases hl : j < σ.length
    · rw [wipe_in (by rw [el]; exact hl) hj, wipe_in hl hj]
    · rw [List.getElem?_eq_none (by rw [wipe_length, el]; omega), List.getElem?_eq_none (by rw [wipe_length]; omega)]
  · rw [wipe_out hj, o.2 j fun z => hj (h j z)]
@[simp ↓] def wYes : WT := fun _ st P => P true st
theorem ts_nil : PTs X [] (tDb X.K wYes) := ⟨fun pins s σ H Q I ⟨am, env, st, P, hn, hs, q, k⟩ => pts_nil.run pins s σ H Q I (k am H true st Ext.refl hs q)⟩
theorem ts_one {t : WT} (h : PT X c (tDb X.K t)) : PTs X [c] (tDb X.K t) := pts_one h
def wCLoop (g : WG) (tt : WT) (te : WE) (stb : Sto → Prop) (env : Env') : List D → List D → Sto → (List D → Sto → Prop) → Prop
  | [], acc, st, P => stb st ∧ P acc st
  | d :: ds, acc, st, P => stb st ∧ g d env st fun env2 s2 => tt env2 s2 fun b s3 => if b = true then te env2 s3 fun y s4 => acc.length < 100000 ∧ wCLoop g tt te stb env ds (acc ++ [y]) s4 P else wCLoop g tt te stb env ds acc s3 P
@[simp ↓] def wComp (wi : WI) (own : List Nat) (g : WG) (tt : WT) (te : WE) : WA := fun env st P => wi env st fun ds stb s1 => wCLoop g tt te stb (wipeE env own) ds [] s1 P

/-- all but the list at p, of which nobody has told -/
structure ExtP (p : Addr) (am : List Addr) (H : Hp) (am' : List Addr) (H' : Hp) : Prop extends Ext0 am H am' H' where
  new : ∀ a ∈ am', a ∈ am ∨ H a = none
  fr : ∀ a o, a ≠ p → a ∉ am → H a = some o → H' a = some o
  frz : ∀ a o u, H a = some (.frz o u) → H' a = some (.frz o u)
theorem Ext.p (x : Ext am H am' H') (p : Addr) : ExtP p am H am' H' := ⟨x.z, x.new, fun a o _ => x.fr a o, x.frz⟩
theorem ExtP.step {p : Addr} {am2 : List Addr} {H2 : Hp} (x : ExtP p am H am' H') (y : ExtP p am' H' am2 H2) (hp : H' p ≠ none) : ExtP p am H am2 H2 := by
  obtain ⟨l, e⟩ := x.pre
  obtain ⟨m, e'⟩ := y.pre
  refine ⟨⟨⟨l ++ m, by rw [e', e, List.append_assoc]⟩, fun a xs h => y.tup _ _ (x.tup _ _ h), fun a lo hi h => y.rng _ _ _ (x.rng _ _ _ h)⟩, fun a ha => ?_, fun a o np hn ha => ?_, fun a o u h => y.frz _ _ _ (x.frz _ _ _ h)⟩
  · rcases y.new a ha with h | h
    · exact x.new a h
    · by_cases hm : a ∈ am
      · exact .inl hm
      · right
        have np : a ≠ p := fun z => by rw [z] at h; exact hp h
        cases q : H a with
        | none => rfl
        | some o => rw [x.fr a o np hm q] at h; cases h
  · refine y.fr a o np (fun z => ?_) (x.fr a o np hn ha)
    rcases x.new a z with h | h
    · exact hn h
    · rw [h] at ha; cases ha
theorem ExtP.own {p : Addr} {vs : List V} {o : HO} (h : H p = some (.lst vs)) : ExtP p am H am (upd H p o) := by
  have z := Ext0.own (am := am) (o := o) h
  exact ⟨z, fun _ h => .inl h, fun a u np _ e => by rw [upd_ne np]; exact e, fun a u w e => by rw [upd_ne (fun z => by rw [z, h] at e; cases e)]; exact e⟩
theorem ExtP.j {p : Addr} (x : ExtP p am H am' H') (hp : Hs p ≠ none ∨ H p = none) : ExtJ Hs am H am' H' := ⟨x.toExt0, x.frz, fun a o hn h0 ha => x.fr a o (fun z => by
  subst z
  rcases hp with hp | hp
  · exact hp h0
  · rw [hp] at ha; cases ha) hn ha⟩
theorem Ext.untold {p : Addr} {u : HO} (x : Ext am H am' H') (h : H p = some u) (nm : p ∉ am) : H' p = some u ∧ p ∉ am' := ⟨x.fr p u nm h, fun z => by
  rcases x.new p z with q | q
  · exact nm q
  · rw [h] at q; cases q⟩
/-- one loop of a comprehension: from acc, at a list that nobody has told of -/
theorem cloop {is vs : List Nat} {J : It} {am0 : List Addr} {H0 H1 : Hp} {p : Addr} {ds : List D} {stb : Sto → Prop} {g : WG} {tt : WT} {te : WE} {σ : L2.St} {env : Env'} {acc0 : List D} {us0 : List V} {s0 : Sto} {P : List D → Sto → Prop} {Qd : Hp → Prop}
    (hsub : ∀ i ∈ is, i ∈ vs) (jok : JOk K Hs am0 H0 J ds stb) (hp : Hs p ≠ none ∨ H0 p = none) (x01 : ExtP p am0 H0 am0 H1) (n0 : RepN K am0 H0 env σ) (hD : H1 p = some (.lst us0)) (nm : p ∉ am0) (r0 : RepS K am0 H1 s0) (ra : RepVs K am0 H1 acc0 us0)
    (q : wCLoop g tt te stb (wipeE env vs) ds acc0 s0 P)
    (fin : ∀ am H acc us st, ExtP p am0 H0 am H → H p = some (.lst us) → p ∉ am → RepS K am H st → RepVs K am H acc us → P acc st → Qd H) :
    ∃ W : Nat → Nat → Hp → Prop, (∃ m, W 0 m H1) ∧ ∀ i m H, W i m H →
      (J.stop i H ∧ Qd H) ∨ (J.go i H ∧ ∃ Nx : Hp → Prop, (∀ H', Nx H' → ∃ m', m' < m ∧ W (i + 1) m' H') ∧ ∀ x H', J.yld i H x H' → tDg K is g x (L2.wipe σ vs) H' fun σ2 H2 => L2.wipe σ2 vs = L2.wipe σ vs ∧ tDb K tt σ2 H2 fun b H3 =>
        if b = true then tD K te σ2 H3 fun y H4 => ∃ acc, H4 p = some (.lst acc) ∧ acc.length < sizeLine ∧ Nx (upd H4 p (.lst (acc ++ [y]))) else Nx H3) := by
  refine ⟨fun i m H => ∃ am st acc us, ExtP p am0 H0 am H ∧ H p = some (.lst us) ∧ p ∉ am ∧ RepS K am H st ∧ RepVs K am H acc us ∧ wCLoop g tt te stb (wipeE env vs) (ds.drop i) acc st P ∧ m = ds.length - i, ⟨ds.length, am0, s0, acc0, us0, x01, hD, nm, r0, ra, q, by omega⟩,
    fun i m H ⟨am, st, acc, us, x, hd, hn, r, rv, q, em⟩ => ?_⟩
  have xj := x.j hp
  by_cases hi : i < ds.length
  · right
    rw [List.drop_eq_getElem_cons hi] at q
    obtain ⟨q0, q⟩ := q
    refine ⟨jok.go am H st i xj r q0 hi, fun H' => ∃ am' st' acc' us', ExtP p am0 H0 am' H' ∧ H' p = some (.lst us') ∧ p ∉ am' ∧ RepS K am' H' st' ∧ RepVs K am' H' acc' us' ∧ wCLoop g tt te stb (wipeE env vs) (ds.drop (i + 1)) acc' st' P,
      fun H' ⟨am', st', acc', us', h1, h2, h3, h4, h5, h6⟩ => ⟨ds.length - (i + 1), by omega, am', st', acc', us', h1, h2, h3, h4, h5, h6, rfl⟩, fun y H' hy => ?_⟩
    obtain ⟨x2, r2, d, ed, rd⟩ := jok.yl am H st i y H' xj r q0 hi hy
    rw [List.getElem?_eq_getElem hi] at ed
    cases ed
    have ne : H p ≠ none := by rw [hd]; exact fun z => by cases z
    obtain ⟨hd2, hn2⟩ := x2.untold hd hn
    have xx2 := x.step (x2.p p) ne
    refine ⟨am, wipeE env vs, st, ds[i], _, (n0.ext0 xx2.toExt0).wipe vs, r2, rd, q, fun am3 H3 env3 σ3 st3 x3 n3 r3 o3 q3 => ⟨wipe_only o3 hsub, ?_⟩⟩
    obtain ⟨hd3, hn3⟩ := x3.untold hd2 hn2
    refine ⟨am3, env3, st3, _, n3, r3, q3, fun am4 H4 b st4 x4 r4 q4 => ?_⟩
    obtain ⟨hd4, hn4⟩ := x4.untold hd3 hn3
    have xx4 := xx2.step ((x3.trans x4).p p) (by rw [hd2]; exact fun z => by cases z)
    cases b with
    | false =>
      simp only [Bool.false_eq_true, if_false] at q4 ⊢
      exact ⟨am4, st4, acc, us, xx4, hd4, hn4, r4, RepVs.ext ((x2.trans x3).trans x4) _ _ rv, q4⟩
    | true =>
      simp only [if_true] at q4 ⊢
      refine ⟨am4, env3, st4, _, n3.ext x4, r4, q4, fun am5 H5 w y st5 x5 r5 rw5 q5 => ?_⟩
      obtain ⟨hd5, hn5⟩ := x5.untold hd4 hn4
      have xx5 := xx4.step (x5.p p) (by rw [hd4]; exact fun z => by cases z)
      have rv5 := RepVs.ext (((x2.trans x3).trans x4).trans x5) _ _ rv
      refine ⟨us, hd5, by rw [← rv5.length]; exact bigl _ q5.1, am5, st5, acc ++ [y], us ++ [w], xx5.step (ExtP.own hd5) (by rw [hd5]; exact fun z => by cases z), upd_same, hn5, r5.own hd5 hn5, ?_, q5.2⟩
      exact RepVs.ext0 (Ext0.own hd5) _ _ (rv5.append (.cons rw5 .nil))
  · left
    rw [List.drop_eq_nil_of_le (by omega)] at q
    exact ⟨jok.stop am H st i xj r q.1 (by omega), fin am H acc us st x hd hn r rv q.2⟩
/-- from the start of an expression to a comprehension's end -/
theorem Ext.thenP {p : Addr} {am2 : List Addr} {H2 : Hp} (x1 : Ext am H am' H') (x3 : ExtP p am' H' am2 H2) (h0 : H p = none) : Ext am H am2 H2 := by
  obtain ⟨l, e⟩ := x1.pre
  obtain ⟨m, e'⟩ := x3.pre
  refine ⟨⟨l ++ m, by rw [e', e, List.append_assoc]⟩, fun a ha => ?_, fun a o hm ha => ?_, fun a xs ha => x3.tup _ _ (x1.tup _ _ ha), fun a o u ha => x3.frz _ _ _ (x1.frz _ _ _ ha), fun a lo hi ha => x3.rng _ _ _ (x1.rng _ _ _ ha)⟩
  · rcases x3.new a ha with h | h
    · exact x1.new a h
    · by_cases hm : a ∈ am
      · exact .inl hm
      · right
        cases q : H a with
        | none => rfl
        | some o => rw [x1.fr a o hm q] at h; cases h
  · have np : a ≠ p := fun z => by rw [z, h0] at ha; cases ha
    refine x3.fr a o np (fun z => ?_) (x1.fr a o hm ha)
    rcases x1.new a z with h | h
    · exact hm h
    · rw [h] at ha; cases ha
/-- one clause -/
theorem to_lc {wi : WI} {is vs : List Nat} {g : WG} {tt : WT} {te : WE} {σ : L2.St} {Q : VK} (hsub : ∀ i ∈ is, i ∈ vs) (h : tDt K (wComp wi vs g tt te) σ H Q) : tLc (tDi K wi) (tDg K is g) (tDb K tt) (tD K te) vs σ H Q := by
  obtain ⟨am, env, st, P, hn, hs, q, k⟩ := h
  refine ⟨am, env, st, _, hn, hs, q, fun am1 H1 J ds stb s1 x1 r1 jok z p hp => ?_⟩
  have x2 := Ext.fresh (am := am1) (o := .lst []) hp
  refine cloop (H1 := upd H1 p (.lst [])) (us0 := []) hsub jok (.inr hp) (x2.p p) (hn.ext x1) upd_same (fun z => r1.notNone z hp) (r1.fresh hp) .nil z fun am2 H2 acc us st2 x3 hd hn2 r2 rv q2 => ?_
  have h0 := back_none x1 r1 hp
  exact k am2 H2 p us acc st2 (x1.thenP x3 h0) r2 h0 hd hn2 rv q2
abbrev BG (X : Cx) (scope : Scope) (tg : Expr) (t : TG) : Prop := ∀ (s : Shared) (H : Hp) (C : Addr) (cl : List (Str × Addr)) (fp : List Addr), PG (X.blk s H scope (compEnvC scope cl C X.env) fp) tg t
abbrev BT (X : Cx) (scope : Scope) (ifs : List Expr) (t : TT) : Prop := ∀ (s : Shared) (H : Hp) (C : Addr) (cl : List (Str × Addr)) (fp : List Addr), PTs (X.blk s H scope (compEnvC scope cl C X.env) fp) ifs t
abbrev BE (X : Cx) (scope : Scope) (e : Expr) (t : TE) : Prop := ∀ (s : Shared) (H : Hp) (C : Addr) (cl : List (Str × Addr)) (fp : List Addr), PE (X.blk s H scope (compEnvC scope cl C X.env) fp) e t
abbrev BI (X : Cx) (scope : Scope) (tg it : Expr) (t : TI) : Prop := ∀ (s : Shared) (H : Hp) (C : Addr) (cl : List (Str × Addr)) (fp : List Addr), PI (X.blk s H scope (compEnvC scope cl C X.env) fp) tg it t
theorem e_lc {elt iter : Expr} {ifs : List Expr} {scope : Scope} {own : List (Str × Nat)} {wi : WI} {is : List Nat} {g : WG} {tt : WT} {te : WE} (hc : X.calm = true) (hN : X.N.Nodup) (hi : PI X tg iter (tDi X.K wi)) (ok : BlkOk X.N X.env.scope scope own) (hsub : ∀ i ∈ is, i ∈ own.map (·.2))
    (hg : BG X scope tg (tDg X.K is g)) (ht : BT X scope ifs (tDb X.K tt)) (he : BE X scope elt (tD X.K te)) (hs : ∀ x, foldedSetIterable iter X.env x = pure x := by intro _; rfl) :
    PE X (.ListComp elt [⟨tg, iter, ifs, 0⟩] scope pos) (tDt X.K (wComp wi (own.map (·.2)) g tt te)) := PE.imp (pe_lc hc hN hi ok hg ht he hs) fun σ H Q h => to_lc hsub h
/-- a new list to a name -/
theorem to_set {i : Nat} {fa : WA} {t : TE} (h : ∀ σ H Q, tDt K fa σ H Q → t σ H Q) : ∀ D σ H, tDs K (wsSet i (wNew fa)) D σ H → tAsg t (gName i) D σ H := fun D σ H ⟨am, env, st, W, hn, hs, q, k⟩ =>
  h σ H _ ⟨am, env, st, _, hn, hs, q, fun am1 H1 p vs ds s1 x1 r1 h0 h1 h2 rv z => by
    have x2 := x1.tell h0
    exact k.nx (am1 ++ [p]) H1 _ _ _ x2 ((hn.ext x2).set (rep_ob_new r1)) (r1.tell (c := .lst ds) h2 ⟨vs, h1, RepVs.more _ _ _ rv⟩) z⟩
theorem s_setLc {i : Nat} {y : Str} {py spos : Pos} {elt iter : Expr} {ifs : List Expr} {scope : Scope} {own : List (Str × Nat)} {wi : WI} {is : List Nat} {g : WG} {tt : WT} {te : WE} (hc : X.calm = true) (hN : X.N.Nodup) (hy : X.N[i]? = some y) (hyl : X.env.scope.names.lookup y = some .local)
    (hsw : swapsWith (.ListComp elt [⟨tg, iter, ifs, 0⟩] scope pos) (some (.Name y py)) spos.line X.env = pure true) (hi : PI X tg iter (tDi X.K wi)) (ok : BlkOk X.N X.env.scope scope own) (hsub : ∀ i ∈ is, i ∈ own.map (·.2))
    (hg : BG X scope tg (tDg X.K is g)) (ht : BT X scope ifs (tDb X.K tt)) (he : BE X scope elt (tD X.K te)) (hs : ∀ x, foldedSetIterable iter X.env x = pure x := by intro _; rfl) :
    PS X (.Assign [.Name y py] (.ListComp elt [⟨tg, iter, ifs, 0⟩] scope pos) spos) (tDs X.K (wsSet i (wNew (wComp wi (own.map (·.2)) g tt te)))) := PS.imp (ps_setLc hc hN hy hyl hsw hi ok hg ht he hs) (to_set fun _ _ _ h => to_lc hsub h)

/-! ### two clauses -/
def wC2Loop (g : WG) (tt : WT) (wi1 : WI) (own1 : List Nat) (g1 : WG) (tt1 : WT) (te : WE) (stb : Sto → Prop) (env : Env') : List D → List D → Sto → (List D → Sto → Prop) → Prop
  | [], acc, st, P => stb st ∧ P acc st
  | d :: ds, acc, st, P => stb st ∧ g d env st fun env2 s2 => tt env2 s2 fun b s3 => if b = true then wi1 env2 s3 fun ds1 stb1 s4 => wCLoop g1 tt1 te stb1 (wipeE env2 own1) ds1 acc s4 (fun acc' s5 => wC2Loop g tt wi1 own1 g1 tt1 te stb env ds acc' s5 P)
      else wC2Loop g tt wi1 own1 g1 tt1 te stb env ds acc s3 P
@[simp ↓] def wComp2 (wi : WI) (own : List Nat) (g : WG) (tt : WT) (wi1 : WI) (own1 : List Nat) (g1 : WG) (tt1 : WT) (te : WE) : WA := fun env st P => wi env st fun ds stb s1 => wC2Loop g tt wi1 own1 g1 tt1 te stb (wipeE env own) ds [] s1 P
theorem to_lc2 {wi wi1 : WI} {is vs is1 vs1 : List Nat} {g g1 : WG} {tt tt1 : WT} {te : WE} {σ : L2.St} {Q : VK} (hsub : ∀ i ∈ is, i ∈ vs) (hsub1 : ∀ i ∈ is1, i ∈ vs1) (h : tDt K (wComp2 wi vs g tt wi1 vs1 g1 tt1 te) σ H Q) :
    tLc2 (tDi K wi) (tDg K is g) (tDb K tt) (tDi K wi1) (tDg K is1 g1) (tDb K tt1) (tD K te) vs vs1 σ H Q := by
  obtain ⟨am, env, st, P, hn, hs, q, k⟩ := h
  refine ⟨am, env, st, _, hn, hs, q, fun am1 H1 J ds stb s1 x1 r1 jok z p hp => ?_⟩
  have x2 := Ext.fresh (am := am1) (o := .lst []) hp
  have h0 := back_none x1 r1 hp
  have n1 := hn.ext x1
  refine ⟨fun i m H => ∃ am st acc us, ExtP p am1 H1 am H ∧ H p = some (.lst us) ∧ p ∉ am ∧ RepS K am H st ∧ RepVs K am H acc us ∧ wC2Loop g tt wi1 vs1 g1 tt1 te stb (wipeE env vs) (ds.drop i) acc st P ∧ m = ds.length - i, ⟨ds.length, am1, s1, [], [], x2.p p, upd_same, (fun z => r1.notNone z hp), r1.fresh hp, .nil, z, by omega⟩,
    fun i m H ⟨am, st, acc, us, x, hd, hn, r, rv, q, em⟩ => ?_⟩
  have xj := x.j (Hs := H) (.inr hp)
  by_cases hi : i < ds.length
  · right
    rw [List.drop_eq_getElem_cons hi] at q
    obtain ⟨q0, q⟩ := q
    refine ⟨jok.go am H st i (x.j (.inr hp)) r q0 hi, fun H' => ∃ am' st' acc' us', ExtP p am1 H1 am' H' ∧ H' p = some (.lst us') ∧ p ∉ am' ∧ RepS K am' H' st' ∧ RepVs K am' H' acc' us' ∧ wC2Loop g tt wi1 vs1 g1 tt1 te stb (wipeE env vs) (ds.drop (i + 1)) acc' st' P,
      fun H' ⟨am', st', acc', us', h1, h2, h3, h4, h5, h6⟩ => ⟨ds.length - (i + 1), by omega, am', st', acc', us', h1, h2, h3, h4, h5, h6, rfl⟩, fun y H' hy => ?_⟩
    obtain ⟨x2, r2, d, ed, rd⟩ := jok.yl am H st i y H' (x.j (.inr hp)) r q0 hi hy
    rw [List.getElem?_eq_getElem hi] at ed
    cases ed
    have ne : H p ≠ none := by rw [hd]; exact fun z => by cases z
    obtain ⟨hd2, hn2⟩ := x2.untold hd hn
    have xx2 := x.step (x2.p p) ne
    refine ⟨am, wipeE env vs, st, ds[i], _, (n1.ext0 xx2.toExt0).wipe vs, r2, rd, q, fun am3 H3 env3 σ3 st3 x3 n3 r3 o3 q3 => ⟨wipe_only o3 hsub, ?_⟩⟩
    obtain ⟨hd3, hn3⟩ := x3.untold hd2 hn2
    refine ⟨am3, env3, st3, _, n3, r3, q3, fun am4 H4 b st4 x4 r4 q4 => ?_⟩
    obtain ⟨hd4, hn4⟩ := x4.untold hd3 hn3
    have xx4 := xx2.step ((x3.trans x4).p p) (by rw [hd2]; exact fun z => by cases z)
    have rv4 := RepVs.ext ((x2.trans x3).trans x4) _ _ rv
    cases b with
    | false =>
      simp only [Bool.false_eq_true, if_false] at q4 ⊢
      exact ⟨am4, st4, acc, us, xx4, hd4, hn4, r4, rv4, q4⟩
    | true =>
      simp only [if_true] at q4 ⊢
      refine ⟨am4, env3, st4, _, n3.ext x4, r4, q4, fun am5 H5 J5 ds5 stb5 st5 x5 r5 jok5 q5 => ?_⟩
      obtain ⟨hd5, hn5⟩ := x5.untold hd4 hn4
      have ne4 : H4 p ≠ none := by rw [hd4]; exact fun z => by cases z
      refine cloop hsub1 jok5 (.inl ne4) (Ext.refl.p p) ((n3.ext x4).ext x5) hd5 hn5 r5 (RepVs.ext x5 _ _ rv4) q5 fun am6 H6 acc6 us6 st6 x6 hd6 hn6 r6 rv6 q6 => ?_
      exact ⟨am6, st6, acc6, us6, (xx4.step (x5.p p) ne4).step x6 (by rw [hd5]; exact fun z => by cases z), hd6, hn6, r6, rv6, q6⟩
  · left
    rw [List.drop_eq_nil_of_le (by omega)] at q
    exact ⟨jok.stop am H st i (x.j (.inr hp)) r q.1 (by omega), k am H p us acc st (x1.thenP x h0) r h0 hd hn rv q.2⟩
theorem e_lc2 {elt iter tg1 iter1 : Expr} {ifs ifs1 : List Expr} {scope : Scope} {own : List (Str × Nat)} {vs1 : List Nat} {wi wi1 : WI} {is is1 : List Nat} {g g1 : WG} {tt tt1 : WT} {te : WE} (hc : X.calm = true) (hN : X.N.Nodup) (hi : PI X tg iter (tDi X.K wi)) (ok : BlkOk X.N X.env.scope scope own) (hv : ∀ i ∈ vs1, i ∈ own.map (·.2))
    (hsub : ∀ i ∈ is, i ∈ own.map (·.2)) (hsub1 : ∀ i ∈ is1, i ∈ vs1) (hg : BG X scope tg (tDg X.K is g)) (ht : BT X scope ifs (tDb X.K tt)) (hi1 : BI X scope tg1 iter1 (tDi X.K wi1)) (hg1 : BG X scope tg1 (tDg X.K is1 g1)) (ht1 : BT X scope ifs1 (tDb X.K tt1)) (he : BE X scope elt (tD X.K te))
    (hs : ∀ x, foldedSetIterable iter X.env x = pure x := by intro _; rfl) (hs1 : ∀ env x, foldedSetIterable iter1 env x = pure x := by intro _ _; rfl) :
    PE X (.ListComp elt [⟨tg, iter, ifs, 0⟩, ⟨tg1, iter1, ifs1, 0⟩] scope pos) (tDt X.K (wComp2 wi (own.map (·.2)) g tt wi1 vs1 g1 tt1 te)) := PE.imp (pe_lc2 hc hN hi ok hv hg ht hi1 hg1 ht1 he hs hs1) fun σ H Q h => to_lc2 hsub hsub1 h
theorem s_setLc2 {i : Nat} {y : Str} {py spos : Pos} {elt iter tg1 iter1 : Expr} {ifs ifs1 : List Expr} {scope : Scope} {own : List (Str × Nat)} {vs1 : List Nat} {wi wi1 : WI} {is is1 : List Nat} {g g1 : WG} {tt tt1 : WT} {te : WE} (hc : X.calm = true) (hN : X.N.Nodup) (hy : X.N[i]? = some y) (hyl : X.env.scope.names.lookup y = some .local)
    (hsw : swapsWith (.ListComp elt [⟨tg, iter, ifs, 0⟩, ⟨tg1, iter1, ifs1, 0⟩] scope pos) (some (.Name y py)) spos.line X.env = pure true) (hi : PI X tg iter (tDi X.K wi)) (ok : BlkOk X.N X.env.scope scope own) (hv : ∀ i ∈ vs1, i ∈ own.map (·.2))
    (hsub : ∀ i ∈ is, i ∈ own.map (·.2)) (hsub1 : ∀ i ∈ is1, i ∈ vs1) (hg : BG X scope tg (tDg X.K is g)) (ht : BT X scope ifs (tDb X.K tt)) (hi1 : BI X scope tg1 iter1 (tDi X.K wi1)) (hg1 : BG X scope tg1 (tDg X.K is1 g1)) (ht1 : BT X scope ifs1 (tDb X.K tt1)) (he : BE X scope elt (tD X.K te))
    (hs : ∀ x, foldedSetIterable iter X.env x = pure x := by intro _; rfl) (hs1 : ∀ env x, foldedSetIterable iter1 env x = pure x := by intro _ _; rfl) :
    PS X (.Assign [.Name y py] (.ListComp elt [⟨tg, iter, ifs, 0⟩, ⟨tg1, iter1, ifs1, 0⟩] scope pos) spos) (tDs X.K (wsSet i (wNew (wComp2 wi (own.map (·.2)) g tt wi1 vs1 g1 tt1 te)))) :=
  PS.imp (ps_setLc2 hc hN hy hyl hsw hi ok hv hg ht hi1 hg1 ht1 he hs hs1) (to_set fun _ _ _ h => to_lc2 hsub hsub1 h)
end Vd
set_option Elab.async false
set_option linter.all false
set_option maxRecDepth 100000
set_option maxHeartbeats 2000000
/-! Vd7: built-in functions and methods. -/
namespace Vd
open PySem PySem.Spec PyProof.Rows L2
variable {Hs : Hp} {X : Cx} {a b c e tg : Expr} {f g h : WE} {pos p : Pos} {K : PySem.W.Frag} {am am' : List Addr} {H H' : Hp} {st : Sto} {d : D} {v : V} {x : Str} {es : List Expr}

/-! ### built-ins by values -/
abbrev KA := List D → Sto → (D → Sto → Prop) → Prop
def LkA (K : PySem.W.Frag) (r : List V → Hp → VK → Prop) (k : KA) : Prop := ∀ am H st ds vs P (Q : VK), RepS K am H st → RepVs K am H ds vs → k ds st P →
  (∀ am' H' v d st', Ext am H am' H' → RepS K am' H' st' → RepV K am' H' d v → P d st' → Q v H') → r vs H Q
@[simp ↓] def wBlt (k : KA) (fa : WA) : WE := fun env st P => fa env st fun ds s1 => k ds s1 P
theorem toA {r : List V → Hp → VK → Prop} {k : KA} {fa : WA} (lk : LkA K r k) {σ : L2.St} {Q : VK} (q : tD K (wBlt k fa) σ H Q) : tDa K fa σ H fun vs H1 => r vs H1 Q := by
  obtain ⟨am, env, st, P, hn, hs, q, kk⟩ := q
  exact ⟨am, env, st, _, hn, hs, q, fun am1 H1 vs ds s1 x1 r1 rv z => lk am1 H1 s1 ds vs P Q r1 rv z fun am2 H2 w y s2 x2 => kk am2 H2 w y s2 (x1.trans x2)⟩
theorem e_blt {id : String} {r : List V → Hp → VK → Prop} {k : KA} {fa : WA} (hc : CallR X (.builtin id) r) (lk : LkA X.K r k) (hg : Gl X x) (hm : X.mg x = none) (hv : bootBuiltins x = some (.builtin id)) (ha : PA X (e :: es) (tDa X.K fa)) (hn : x ≠ "__name__" := by decide) (hdb : (x == ("__debug__" : Str)) = false := by decide)
    (he : starEach (e :: es) X.env = (false, eval e X.env) :: starEach es X.env := by rfl) (hpl : (backTo pos (starEach es X.env)).any (·.1) = false := by rfl) : PE X (.Call (.Name x p) (e :: es) [] pos) (tD X.K (wBlt k fa)) :=
  PE.imp (pe_callB hc hg hm hv ha hn hdb he hpl) fun _ _ _ q => toA lk q
theorem e_bty {T : String} {r : List V → Hp → VK → Prop} {k : KA} {fa : WA} (hc : CallR X (.type T) r) (lk : LkA X.K r k) (hg : Gl X x) (hm : X.mg x = none) (hv : bootBuiltins x = some (.type T)) (ha : PA X (e :: es) (tDa X.K fa)) (hn : x ≠ "__name__" := by decide) (hdb : (x == ("__debug__" : Str)) = false := by decide)
    (he : starEach (e :: es) X.env = (false, eval e X.env) :: starEach es X.env := by rfl) (hpl : (backTo pos (starEach es X.env)).any (·.1) = false := by rfl) : PE X (.Call (.Name x p) (e :: es) [] pos) (tD X.K (wBlt k fa)) :=
  PE.imp (pe_callTy hc hg hm hv ha hn hdb he hpl) fun _ _ _ q => toA lk q
/-- one argument, a list that is read -/
theorem pa_one {te : TE} (he : PE X e te) (hs : starEach [e] X.env = (false, eval e X.env) :: starEach [] X.env := by rfl) : PA X [e] (fun σ H Q => te σ H fun v H1 => Q [v] H1) := PA.imp (pa_cons he pa_nil hs) fun _ _ _ q => q
theorem rv1 {ds : List D} {vs : List V} (r : RepVs K am H [d] vs) : ∃ v, vs = [v] ∧ RepV K am H d v := by
  simp only [RepVs] at r
  obtain ⟨v, r', e, h1, h2⟩ := r
  subst h2
  exact ⟨v, e, h1⟩
theorem rv2 {d2 : D} {vs : List V} (r : RepVs K am H [d, d2] vs) : ∃ v w, vs = [v, w] ∧ RepV K am H d v ∧ RepV K am H d2 w := by
  simp only [RepVs] at r
  obtain ⟨v, r', e, h1, w, r2, e2, h2, h3⟩ := r
  subst h3 e2
  exact ⟨v, w, e, h1, h2⟩

/-! ### len -/
def lenD (st : Sto) : D → Option Nat
  | .tup xs => some xs.length
  | .kt xs => some xs.length
  | .ob n => (match st[n]? with
    | some (.lst xs) => some xs.length
    | some (.fro xs) => some xs.length
    | some (.dK kvs) => some kvs.length
    | _ => none)
  | .str z => if z.length ≤ 100000 then some z.length else none
  | _ => none
def kLen : KA := fun ds st P => match ds with
  | [d] => (match lenD st d with
    | some n => P (.int (n : Nat)) st
    | none => False)
  | _ => False
def rLenA (K : PySem.W.Frag) : List V → Hp → VK → Prop := fun xs H Q => (∃ p ys, xs = [.ref p] ∧ (SqL K H p ys ∨ SqT K H p ys) ∧ Q (.int ys.length) H) ∨ (∃ z, xs = [.str z] ∧ z.length ≤ sizeLine ∧ Q (.int z.length) H) ∨ ∃ a kvs, xs = [V.ref a] ∧ H a = some (.dK kvs) ∧ Q (.int kvs.length) H
theorem call_lenA : CallR X (.builtin "len") (rLenA X.K) := CallR.or call_len_seq (CallR.or call_len_str call_lenD)
theorem lk_len : LkA K (rLenA K) kLen := fun am H st ds vs P Q s rv q k => by
  unfold kLen at q
  split at q
  · rename_i d
    obtain ⟨v, e, r⟩ := rv1 (ds := []) rv
    subst e
    split at q
    · rename_i n hn
      have fin : Q (.int (n : Nat)) H := k am H _ (.int n) st Ext.refl s (by simp only [RepV]) q
      unfold lenD at hn
      split at hn
      · simp only [RepV] at r
        obtain ⟨a, ws, ev, ht, hr⟩ := r
        cases hn
        rw [hr.length] at fin
        exact .inl ⟨a, ws, by rw [ev], .inr (tupT ht), fin⟩
      · simp only [RepV] at r
        obtain ⟨a, ws, ev, ht, hr⟩ := r
        cases hn
        rw [hr.length] at fin
        exact .inl ⟨a, ws, by rw [ev], .inr (ktT ht), fin⟩
      · simp only [RepV] at r
        obtain ⟨a, ha, ev⟩ := r
        split at hn
        · rename_i xs hx
          obtain ⟨ws, h1, hr⟩ := s.cell _ a _ ha hx
          cases hn
          rw [hr.length] at fin
          exact .inl ⟨a, ws, by rw [ev], .inl (.inl (.inl h1)), fin⟩
        · rename_i xs hx
          obtain ⟨ws, ⟨o, h1⟩, hr⟩ := s.cell _ a _ ha hx
          cases hn
          rw [hr.length] at fin
          exact .inl ⟨a, ws, by rw [ev], .inl (.inl (.inr ⟨o, h1⟩)), fin⟩
        · rename_i kds hx
          obtain ⟨kvs, h1, h2, _⟩ := s.cell _ a _ ha hx
          cases hn
          have el := congrArg List.length h2
          rw [List.length_map, List.length_map] at el
          rw [← el] at fin
          exact .inr (.inr ⟨a, kvs, by rw [ev], h1, fin⟩)
        · cases hn
      · split at hn
        · rename_i hl
          simp only [RepV] at r
          cases hn
          exact .inr (.inl ⟨_, by rw [r], big _ hl, fin⟩)
        · cases hn
      · cases hn
    · exact q.elim
  · exact q.elim
theorem e_len {fa : WA} (hg : Gl X "len") (hm : X.mg "len" = none) (ha : PA X [e] (tDa X.K fa)) (he : starEach [e] X.env = (false, eval e X.env) :: starEach [] X.env := by rfl) : PE X (.Call (.Name "len" p) [e] [] pos) (tD X.K (wBlt kLen fa)) := e_blt call_lenA lk_len hg hm boot_len ha (by decide) (by decide) he
/-- of a list that nobody has told of -/
@[simp ↓] def wLenL (f : WA) : WE := fun env st P => f env st fun ds s1 => P (.int (ds.length : Nat)) s1
theorem e_lenL {f : WA} (hg : Gl X "len") (hm : X.mg "len" = none) (he : PE X e (tDl X.K f)) (hs : starEach [e] X.env = (false, eval e X.env) :: starEach [] X.env := by rfl) : PE X (.Call (.Name "len" p) [e] [] pos) (tD X.K (wLenL f)) :=
  PE.imp (pe_callB call_len_seq hg hm boot_len (pa_one he hs) (by decide) (by decide) hs) fun σ H Q ⟨am, env, st, P, hn, hs, q, k⟩ =>
    ⟨am, env, st, _, hn, hs, q, fun am' H' p vs ds st' x s h1 r z => ⟨p, vs, rfl, .inl h1, by
      rw [← r.length]
      exact k am' H' _ (.int (ds.length : Nat)) st' x s (by simp only [RepV]) z⟩⟩

/-! ### all, any, sum of a list -/
def boolsD : List D → Option (List Bool)
  | [] => some []
  | .bl b :: ds => (boolsD ds).map fun bs => b :: bs
  | _ => none
theorem boolsD_ok : ∀ {ds : List D} {bs : List Bool} {vs : List V}, boolsD ds = some bs → RepVs K am H ds vs → vs = bs.map V.bl
  | [], bs, vs, h, r => by
    simp only [boolsD, Option.some.injEq] at h; simp only [RepVs] at r; subst h; subst r; rfl
  | d :: ds, bs, vs, h, r => by
    cases d with
    | bl b =>
      simp only [boolsD, Option.map_eq_some_iff] at h
      obtain ⟨us, hu, e⟩ := h
      simp only [RepVs, RepV] at r
      obtain ⟨v, r', ev, h1, h2⟩ := r
      have := boolsD_ok hu h2
      subst e ev h1 this
      rfl
    | _ => simp [boolsD] at h
def intsD : List D → Option (List Int)
  | [] => some []
  | .int i :: ds => (intsD ds).map fun is => i :: is
  | _ => none
theorem intsD_ok : ∀ {ds : List D} {is : List Int} {vs : List V}, intsD ds = some is → RepVs K am H ds vs → vs = is.map V.int
  | [], is, vs, h, r => by
    simp only [intsD, Option.some.injEq] at h; simp only [RepVs] at r; subst h; subst r; rfl
  | d :: ds, is, vs, h, r => by
    cases d with
    | int b =>
      simp only [intsD, Option.map_eq_some_iff] at h
      obtain ⟨us, hu, e⟩ := h
      simp only [RepVs, RepV] at r
      obtain ⟨v, r', ev, h1, h2⟩ := r
      have := intsD_ok hu h2
      subst e ev h1 this
      rfl
    | _ => simp [intsD] at h
def strsD : List D → Option (List Str)
  | [] => some []
  | .str i :: ds => (strsD ds).map fun is => i :: is
  | _ => none
theorem strsD_ok : ∀ {ds : List D} {is : List Str} {vs : List V}, strsD ds = some is → RepVs K am H ds vs → vs = is.map V.str
  | [], is, vs, h, r => by
    simp only [strsD, Option.some.injEq] at h; simp only [RepVs] at r; subst h; subst r; rfl
  | d :: ds, is, vs, h, r => by
    cases d with
    | str b =>
      simp only [strsD, Option.map_eq_some_iff] at h
      obtain ⟨us, hu, e⟩ := h
      simp only [RepVs, RepV] at r
      obtain ⟨v, r', ev, h1, h2⟩ := r
      have := strsD_ok hu h2
      subst e ev h1 this
      rfl
    | _ => simp [strsD] at h
def wAll (f : WA) : WE := fun env st P => f env st fun ds s1 => match boolsD ds with
  | some bs => P (.bl (bs.all id)) s1
  | none => False
def wAny (f : WA) : WE := fun env st P => f env st fun ds s1 => match boolsD ds with
  | some bs => P (.bl (bs.any id)) s1
  | none => False
def wSum (f : WA) : WE := fun env st P => f env st fun ds s1 => match intsD ds with
  | some is => P (.int is.sum) s1
  | none => False
theorem e_all {f : WA} (hc : X.calm = true) (hg : Gl X "all") (hm : X.mg "all" = none) (he : PE X e (tDl X.K f)) (hs : starEach [e] X.env = (false, eval e X.env) :: starEach [] X.env := by rfl) : PE X (.Call (.Name "all" p) [e] [] pos) (tD X.K (wAll f)) :=
  PE.imp (pe_callB (cr_all hc) hg hm boot_all (pa_one he hs) (by decide) (by decide) hs) fun σ H Q ⟨am, env, st, P, hn, hs, q, k⟩ =>
    ⟨am, env, st, _, hn, hs, q, fun am' H' p vs ds st' x s h1 r z => by
      split at z
      · rename_i bs hb
        have := boolsD_ok hb r
        subst this
        exact ⟨p, bs, rfl, h1, k am' H' _ (.bl _) st' x s (by simp only [RepV]) z⟩
      · exact z.elim⟩
theorem e_any {f : WA} (hc : X.calm = true) (hg : Gl X "any") (hm : X.mg "any" = none) (he : PE X e (tDl X.K f)) (hs : starEach [e] X.env = (false, eval e X.env) :: starEach [] X.env := by rfl) : PE X (.Call (.Name "any" p) [e] [] pos) (tD X.K (wAny f)) :=
  PE.imp (pe_callB (cr_any hc) hg hm boot_any (pa_one he hs) (by decide) (by decide) hs) fun σ H Q ⟨am, env, st, P, hn, hs, q, k⟩ =>
    ⟨am, env, st, _, hn, hs, q, fun am' H' p vs ds st' x s h1 r z => by
      split at z
      · rename_i bs hb
        have := boolsD_ok hb r
        subst this
        exact ⟨p, bs, rfl, h1, k am' H' _ (.bl _) st' x s (by simp only [RepV]) z⟩
      · exact z.elim⟩
theorem e_sum {f : WA} (hc : X.calm = true) (hg : Gl X "sum") (hm : X.mg "sum" = none) (he : PE X e (tDl X.K f)) (hs : starEach [e] X.env = (false, eval e X.env) :: starEach [] X.env := by rfl) : PE X (.Call (.Name "sum" p) [e] [] pos) (tD X.K (wSum f)) :=
  PE.imp (pe_callB (cr_sum hc) hg hm boot_sum (pa_one he hs) (by decide) (by decide) hs) fun σ H Q ⟨am, env, st, P, hn, hs, q, k⟩ =>
    ⟨am, env, st, _, hn, hs, q, fun am' H' p vs ds st' x s h1 r z => by
      split at z
      · rename_i bs hb
        have := intsD_ok hb r
        subst this
        exact ⟨p, bs, rfl, h1, k am' H' _ (.int _) st' x s (by simp only [RepV]) z⟩
      · exact z.elim⟩

/-! ### tuple(..), list(..) -/
def kTupOf : KA := fun ds st P => match ds with
  | [.tup xs] => P (.tup xs) st
  | [.ob n] => (match st[n]? with
    | some (.lst xs) => P (.tup xs) st
    | some (.fro xs) => P (.tup xs) st
    | _ => False)
  | _ => False
def rTupOf (K : PySem.W.Frag) : List V → Hp → VK → Prop := fun xs H Q => ∃ p ys, xs = [.ref p] ∧ ((SqL K H p ys ∧ ∀ l, H l = none → Q (.ref l) (upd H l (.tup ys))) ∨ (SqT K H p ys ∧ Q (.ref p) H))
theorem lk_tupOf : LkA K (rTupOf K) kTupOf := fun am H st ds vs P Q s rv q k => by
  unfold kTupOf at q
  split at q
  · obtain ⟨v, e, r⟩ := rv1 (ds := []) rv
    subst e
    simp only [RepV] at r
    obtain ⟨a, ws, ev, ht, hr⟩ := r
    exact ⟨a, ws, by rw [ev], .inr ⟨tupT ht, k am H _ (.tup _) st Ext.refl s (by simp only [RepV]; exact ⟨a, ws, rfl, ht, hr⟩) q⟩⟩
  · obtain ⟨v, e, r⟩ := rv1 (ds := []) rv
    subst e
    simp only [RepV] at r
    obtain ⟨a, ha, ev⟩ := r
    split at q
    · rename_i xs hx
      obtain ⟨ws, h1, hr⟩ := s.cell _ a _ ha hx
      refine ⟨a, ws, by rw [ev], .inl ⟨.inl (.inl h1), fun l hl => k am _ _ (.tup _) st (Ext.fresh hl) (s.fresh hl) ?_ q⟩⟩
      simp only [RepV]
      exact ⟨l, ws, rfl, upd_same, RepVs.ext (Ext.fresh hl) _ _ hr⟩
    · rename_i xs hx
      obtain ⟨ws, ⟨o, h1⟩, hr⟩ := s.cell _ a _ ha hx
      refine ⟨a, ws, by rw [ev], .inl ⟨.inl (.inr ⟨o, h1⟩), fun l hl => k am _ _ (.tup _) st (Ext.fresh hl) (s.fresh hl) ?_ q⟩⟩
      simp only [RepV]
      exact ⟨l, ws, rfl, upd_same, RepVs.ext (Ext.fresh hl) _ _ hr⟩
    · exact q.elim
  · exact q.elim
theorem e_tupOf {fa : WA} (hg : Gl X "tuple") (hm : X.mg "tuple" = none) (ha : PA X [e] (tDa X.K fa)) (he : starEach [e] X.env = (false, eval e X.env) :: starEach [] X.env := by rfl) : PE X (.Call (.Name "tuple" p) [e] [] pos) (tD X.K (wBlt kTupOf fa)) := e_bty call_tuple_of lk_tupOf hg hm PyProof.Rows.boot_tuple ha (by decide) (by decide) he
@[simp ↓] def wTupL (f : WA) : WE := fun env st P => f env st fun ds s1 => P (.tup ds) s1
theorem e_tupL {f : WA} (hg : Gl X "tuple") (hm : X.mg "tuple" = none) (he : PE X e (tDl X.K f)) (hs : starEach [e] X.env = (false, eval e X.env) :: starEach [] X.env := by rfl) : PE X (.Call (.Name "tuple" p) [e] [] pos) (tD X.K (wTupL f)) :=
  PE.imp (pe_callTy call_tuple_of hg hm PyProof.Rows.boot_tuple (pa_one he hs) (by decide) (by decide) hs) fun σ H Q ⟨am, env, st, P, hn, hs, q, k⟩ =>
    ⟨am, env, st, _, hn, hs, q, fun am' H' p vs ds st' x s h1 r z => ⟨p, vs, rfl, .inl ⟨h1, fun l hl => by
      refine k am' _ _ (.tup ds) st' (x.trans (Ext.fresh hl)) (s.fresh hl) ?_ z
      simp only [RepV]
      exact ⟨l, vs, rfl, upd_same, RepVs.ext (Ext.fresh hl) _ _ r⟩⟩⟩⟩
theorem e_listQ {f : WA} (hg : Gl X "list") (hm : X.mg "list" = none) (he : PE X e (tDq X.K f)) (hs : starEach [e] X.env = (false, eval e X.env) :: starEach [] X.env := by rfl) : PE X (.Call (.Name "list" p) [e] [] pos) (tDt X.K f) :=
  PE.imp (pe_callTy call_list_of hg hm PyProof.Rows.boot_list (pa_one he hs) (by decide) (by decide) hs) fun σ H Q ⟨am, env, st, P, hn, hs, q, k⟩ =>
    ⟨am, env, st, _, hn, hs, q, fun am' H' p vs ds st' x s h1 r z => ⟨p, vs, rfl, h1, fun l hl =>
      k am' _ l vs ds st' (x.trans (Ext.fresh hl)) (s.fresh hl) (back_none x s hl) upd_same (fun z => s.notNone z hl) (RepVs.ext (Ext.fresh hl) _ _ r) z⟩⟩
def wRg1 (f : WE) : WA := fun env st P => f env st fun d s1 => match d with
  | .int n => n ≤ 100000 ∧ -100000 ≤ n ∧ P (rngD 0 n.toNat) s1
  | _ => False
def wRg2 (f g : WE) : WA := fun env st P => f env st fun d s1 => g env s1 fun d2 s2 => match d, d2 with
  | .int i, .int j => (i ≤ 100000 ∧ -100000 ≤ i ∧ j ≤ 100000 ∧ -100000 ≤ j) ∧ P (rngD i (j - i).toNat) s2
  | _, _ => False
theorem rep_rng {i j : Int} : RepVs K am H (rngD i (j - i).toNat) (rgV i j) := by
  unfold rngD rgV
  generalize List.range (j - i).toNat = l
  induction l with
  | nil => exact .nil
  | cons n l ih => exact .cons (by simp only [RepV]) ih
theorem e_listR1 {p2 pos2 : Pos} (hc : X.calm = true) (hg : Gl X "list") (hm : X.mg "list" = none) (hg2 : Gl X "range") (hm2 : X.mg "range" = none) (he : PE X e (tD X.K f)) (na : starEach [e] X.env = (false, eval e X.env) :: starEach [] X.env := by rfl)
    (nb : starEach [.Call (.Name "range" p2) [e] [] pos2] X.env = (false, eval (.Call (.Name "range" p2) [e] [] pos2) X.env) :: starEach [] X.env := by rfl) : PE X (.Call (.Name "list" p) [.Call (.Name "range" p2) [e] [] pos2] [] pos) (tDt X.K (wRg1 f)) :=
  PE.imp (pe_listRg hc hg hm (prg_1 hg2 hm2 he na) nb) fun σ H Q ⟨am, env, st, P, hn, hs, q, k⟩ =>
    ⟨am, env, st, _, hn, hs, q, fun am' H' v d st' x s r z => by
      split at z
      · rename_i n
        simp only [RepV] at r
        obtain ⟨z1, z2, z3⟩ := z
        refine ⟨n, r, ⟨by omega, by omega, by omega, by omega, by omega⟩, fun l hl => ?_⟩
        have e0 : n.toNat = (n - 0).toNat := by omega
        rw [e0] at z3
        exact k am' _ l _ _ st' (x.trans (Ext.fresh hl)) (s.fresh hl) (back_none x s hl) upd_same (fun z => s.notNone z hl) rep_rng z3
      · exact z.elim⟩
theorem e_listR2 {p2 pos2 : Pos} (hc : X.calm = true) (hg : Gl X "list") (hm : X.mg "list" = none) (hg2 : Gl X "range") (hm2 : X.mg "range" = none) (ha : PE X a (tD X.K f)) (hb : PE X b (tD X.K g)) (na : starEach [a, b] X.env = (false, eval a X.env) :: starEach [b] X.env := by rfl)
    (nb : starEach [b] X.env = (false, eval b X.env) :: starEach [] X.env := by rfl) (hp : (backTo pos2 (starEach [b] X.env)).any (·.1) = false := by rfl) (nc : starEach [.Call (.Name "range" p2) [a, b] [] pos2] X.env = (false, eval (.Call (.Name "range" p2) [a, b] [] pos2) X.env) :: starEach [] X.env := by rfl) :
    PE X (.Call (.Name "list" p) [.Call (.Name "range" p2) [a, b] [] pos2] [] pos) (tDt X.K (wRg2 f g)) :=
  PE.imp (pe_listRg hc hg hm (prg_2 hg2 hm2 ha hb na nb hp) nc) fun σ H Q ⟨am, env, st, P, hn, hs, q, k⟩ =>
    ⟨am, env, st, _, hn, hs, q, fun am1 H1 v d s1 x1 r1 rv z1 => ⟨am1, env, s1, _, hn.ext x1, r1, z1, fun am2 H2 w d2 s2 x2 r2 rw2 z => by
      split at z
      · rename_i i j
        have rv2 := RepV.ext x2 _ _ rv
        simp only [RepV] at rv2 rw2
        obtain ⟨⟨z1, z2, z3, z4⟩, z5⟩ := z
        refine ⟨i, j, rv2, rw2, ⟨by omega, by omega, by omega, by omega, by omega⟩, fun l hl => ?_⟩
        exact k am2 _ l _ _ s2 ((x1.trans x2).trans (Ext.fresh hl)) (r2.fresh hl) (back_none (x1.trans x2) r2 hl) upd_same (fun z => r2.notNone z hl) rep_rng z5
      · exact z.elim⟩⟩
/-- a list that nobody has told of, added to another -/
@[simp ↓] def wCat (f g : WA) : WA := fun env st P => f env st fun xs s1 => g env s1 fun ys s2 => xs.length + ys.length ≤ 100000 ∧ P (xs ++ ys) s2
theorem e_cat {f g : WA} (ha : PE X a (tDt X.K f)) (hb : PE X b (tDt X.K g)) : PE X (.BinOp a .Add b pos) (tDt X.K (wCat f g)) := PE.imp (pe_op op_cat ha hb) fun σ H Q ⟨am, env, st, P, hn, hs, q, k⟩ =>
  ⟨am, env, st, _, hn, hs, q, fun am1 H1 p vs ds s1 x1 r1 h0 h1 h2 rv z1 => ⟨am1, env, s1, _, hn.ext x1, r1, z1, fun am2 H2 p' ws es s2 x2 r2 g0 g1 g2 rw2 z => by
    obtain ⟨k1, k2⟩ := x2.untold h1 h2
    have rv2 := RepVs.ext x2 _ _ rv
    refine ⟨p, p', vs, ws, rfl, rfl, k1, g1, by rw [← rv2.length, ← rw2.length]; exact big _ z.1, fun l hl => ?_⟩
    exact k am2 _ l _ _ s2 ((x1.trans x2).trans (Ext.fresh hl)) (r2.fresh hl) (back_none (x1.trans x2) r2 hl) upd_same (fun z => r2.notNone z hl) (RepVs.ext (Ext.fresh hl) _ _ (rv2.append rw2)) z.2⟩⟩

/-! ### ints -/
def kInt : KA := fun ds st P => match ds with
  | [.int i] => P (.int i) st
  | _ => False
def rInt1 : List V → Hp → VK → Prop := fun xs H Q => (∃ i, xs = [.int i] ∧ Q (.int i) H) ∨ ∃ k, xs = [.bl k] ∧ Q (.int (if k then 1 else 0)) H
theorem lk_int : LkA K rInt1 kInt := fun am H st ds vs P Q s rv q k => by
  unfold kInt at q
  split at q
  · obtain ⟨v, e, r⟩ := rv1 (ds := []) rv
    subst e
    simp only [RepV] at r
    exact .inl ⟨_, by rw [r], k am H _ (.int _) st Ext.refl s (by simp only [RepV]) q⟩
  · exact q.elim
theorem e_int1 {fa : WA} (hg : Gl X "int") (hm : X.mg "int" = none) (ha : PA X [e] (tDa X.K fa)) (he : starEach [e] X.env = (false, eval e X.env) :: starEach [] X.env := by rfl) : PE X (.Call (.Name "int" p) [e] [] pos) (tD X.K (wBlt kInt fa)) := e_bty call_int1 lk_int hg hm PyProof.Rows.boot_int ha (by decide) (by decide) he
def kAbs : KA := fun ds st P => match ds with
  | [.int i] => P (.int (if i < 0 then -i else i)) st
  | _ => False
theorem lk_abs : LkA K (fun xs H Q => ∃ i, xs = [.int i] ∧ Q (.int (if i < 0 then -i else i)) H) kAbs := fun am H st ds vs P Q s rv q k => by
  unfold kAbs at q
  split at q
  · obtain ⟨v, e, r⟩ := rv1 (ds := []) rv
    subst e
    simp only [RepV] at r
    exact ⟨_, by rw [r], k am H _ (.int _) st Ext.refl s (by simp only [RepV]) q⟩
  · exact q.elim
theorem e_abs {fa : WA} (hg : Gl X "abs") (hm : X.mg "abs" = none) (ha : PA X [e] (tDa X.K fa)) (he : starEach [e] X.env = (false, eval e X.env) :: starEach [] X.env := by rfl) : PE X (.Call (.Name "abs" p) [e] [] pos) (tD X.K (wBlt kAbs fa)) := e_blt call_abs lk_abs hg hm boot_abs ha (by decide) (by decide) he
def kMin2 : KA := fun ds st P => match ds with
  | [.int i, .int j] => P (.int (if j < i then j else i)) st
  | _ => False
def kMax2 : KA := fun ds st P => match ds with
  | [.int i, .int j] => P (.int (if j > i then j else i)) st
  | _ => False
theorem lk_min2 : LkA K (fun xs H Q => ∃ i j, xs = [.int i, .int j] ∧ Q (.int (if j < i then j else i)) H) kMin2 := fun am H st ds vs P Q s rv q k => by
  unfold kMin2 at q
  split at q
  · obtain ⟨v, w, e, r, r2⟩ := rv2 rv
    subst e
    simp only [RepV] at r r2
    exact ⟨_, _, by rw [r, r2], k am H _ (.int _) st Ext.refl s (by simp only [RepV]) q⟩
  · exact q.elim
theorem lk_max2 : LkA K (fun xs H Q => ∃ i j, xs = [.int i, .int j] ∧ Q (.int (if j > i then j else i)) H) kMax2 := fun am H st ds vs P Q s rv q k => by
  unfold kMax2 at q
  split at q
  · obtain ⟨v, w, e, r, r2⟩ := rv2 rv
    subst e
    simp only [RepV] at r r2
    exact ⟨_, _, by rw [r, r2], k am H _ (.int _) st Ext.refl s (by simp only [RepV]) q⟩
  · exact q.elim
theorem e_min2 {fa : WA} (hc : X.calm = true) (hg : Gl X "min") (hm : X.mg "min" = none) (ha : PA X [a, b] (tDa X.K fa)) (he : starEach [a, b] X.env = (false, eval a X.env) :: starEach [b] X.env := by rfl) (hpl : (backTo pos (starEach [b] X.env)).any (·.1) = false := by rfl) :
    PE X (.Call (.Name "min" p) [a, b] [] pos) (tD X.K (wBlt kMin2 fa)) := e_blt (call_min2 hc) lk_min2 hg hm boot_min ha (by decide) (by decide) he hpl
theorem e_max2 {fa : WA} (hc : X.calm = true) (hg : Gl X "max") (hm : X.mg "max" = none) (ha : PA X [a, b] (tDa X.K fa)) (he : starEach [a, b] X.env = (false, eval a X.env) :: starEach [b] X.env := by rfl) (hpl : (backTo pos (starEach [b] X.env)).any (·.1) = false := by rfl) :
    PE X (.Call (.Name "max" p) [a, b] [] pos) (tD X.K (wBlt kMax2 fa)) := e_blt (call_max2 hc) lk_max2 hg hm boot_max ha (by decide) (by decide) he hpl
/-- of a list of ints -/
def minI : List Int → Int
  | [] => 0
  | [i] => i
  | i :: r => min i (minI r)
def maxI : List Int → Int
  | [] => 0
  | [i] => i
  | i :: r => max i (maxI r)
theorem minI_le : ∀ {l : List Int} {y : Int}, y ∈ l → minI l ≤ y
  | [i], y, h => by simp only [List.mem_singleton] at h; subst h; exact Int.le_refl _
  | i :: j :: r, y, h => by
    show min i (minI (j :: r)) ≤ y
    rcases List.mem_cons.mp h with e | h
    · subst e; omega
    · have := minI_le h; omega
theorem minI_mem : ∀ {l : List Int}, l ≠ [] → minI l ∈ l
  | [i], _ => by simp [minI]
  | i :: j :: r, _ => by
    show min i (minI (j :: r)) ∈ i :: j :: r
    have := minI_mem (l := j :: r) (by simp)
    by_cases h : i ≤ minI (j :: r)
    · rw [Int.min_eq_left h]; exact List.mem_cons_self
    · rw [Int.min_eq_right (by omega)]; exact List.mem_cons_of_mem _ this
theorem le_maxI : ∀ {l : List Int} {y : Int}, y ∈ l → y ≤ maxI l
  | [i], y, h => by simp only [List.mem_singleton] at h; subst h; exact Int.le_refl _
  | i :: j :: r, y, h => by
    show y ≤ max i (maxI (j :: r))
    rcases List.mem_cons.mp h with e | h
    · subst e; omega
    · have := le_maxI h; omega
theorem maxI_mem : ∀ {l : List Int}, l ≠ [] → maxI l ∈ l
  | [i], _ => by simp [maxI]
  | i :: j :: r, _ => by
    show max i (maxI (j :: r)) ∈ i :: j :: r
    have := maxI_mem (l := j :: r) (by simp)
    by_cases h : i ≤ maxI (j :: r)
    · rw [Int.max_eq_right h]; exact List.mem_cons_of_mem _ this
    · rw [Int.max_eq_left (by omega)]; exact List.mem_cons_self
end Vd
set_option Elab.async false
set_option linter.all false
set_option maxRecDepth 100000
set_option maxHeartbeats 2000000
/-! Vd8: min and max of lists, isinstance, sorted, methods of lists. -/
namespace Vd
open PySem PySem.Spec PyProof.Rows L2
variable {Hs : Hp} {X : Cx} {a b c e o tg : Expr} {f g h : WE} {pos p : Pos} {K : PySem.W.Frag} {am am' : List Addr} {H H' : Hp} {st : Sto} {d : D} {v : V} {x : Str} {es : List Expr}

def wMinL (f : WA) : WE := fun env st P => f env st fun ds s1 => match intsD ds with
  | some (i :: r) => P (.int (minI (i :: r))) s1
  | _ => False
def wMaxL (f : WA) : WE := fun env st P => f env st fun ds s1 => match intsD ds with
  | some (i :: r) => P (.int (maxI (i :: r))) s1
  | _ => False
theorem e_minL {f : WA} (hc : X.calm = true) (hg : Gl X "min") (hm : X.mg "min" = none) (he : PE X e (tDl X.K f)) (hs : starEach [e] X.env = (false, eval e X.env) :: starEach [] X.env := by rfl) : PE X (.Call (.Name "min" p) [e] [] pos) (tD X.K (wMinL f)) :=
  PE.imp (pe_callB (cr_min hc) hg hm boot_min (pa_one he hs) (by decide) (by decide) hs) fun σ H Q ⟨am, env, st, P, hn, hs, q, k⟩ =>
    ⟨am, env, st, _, hn, hs, q, fun am' H' p vs ds st' x s h1 r z => by
      split at z
      · rename_i i l hb
        have := intsD_ok hb r
        subst this
        refine ⟨p, i :: l, rfl, h1, Nat.succ_pos _, fun m hm hle => ?_⟩
        have e1 : m = minI (i :: l) := Int.le_antisymm (hle _ (minI_mem (by simp))) (minI_le hm)
        rw [e1]
        exact k am' H' _ (.int _) st' x s (by simp only [RepV]) z
      · exact z.elim⟩
theorem e_maxL {f : WA} (hc : X.calm = true) (hg : Gl X "max") (hm : X.mg "max" = none) (he : PE X e (tDl X.K f)) (hs : starEach [e] X.env = (false, eval e X.env) :: starEach [] X.env := by rfl) : PE X (.Call (.Name "max" p) [e] [] pos) (tD X.K (wMaxL f)) :=
  PE.imp (pe_callB (cr_max hc) hg hm boot_max (pa_one he hs) (by decide) (by decide) hs) fun σ H Q ⟨am, env, st, P, hn, hs, q, k⟩ =>
    ⟨am, env, st, _, hn, hs, q, fun am' H' p vs ds st' x s h1 r z => by
      split at z
      · rename_i i l hb
        have := intsD_ok hb r
        subst this
        refine ⟨p, i :: l, rfl, h1, Nat.succ_pos _, fun m hm hle => ?_⟩
        have e1 : m = maxI (i :: l) := Int.le_antisymm (le_maxI hm) (hle _ (maxI_mem (by simp)))
        rw [e1]
        exact k am' H' _ (.int _) st' x s (by simp only [RepV]) z
      · exact z.elim⟩

/-! ### isinstance -/
def typD (st : Sto) : D → Option String
  | .non => some "NoneType"
  | .bl _ => some "bool"
  | .int _ => some "int"
  | .str _ => some "str"
  | .tup _ => some "tuple"
  | .ob n => (match st[n]? with
    | some (.lst _) => some "list"
    | some (.dK _) => some "dict"
    | some (.dT _) => some "dict"
    | _ => none)
  | _ => none
theorem typD_ok (s : RepS K am H st) (r : RepV K am H d v) {T : String} (h : typD st d = some T) : TyOf K H v (.type T) := by
  unfold typD at h
  split at h <;> first | (cases h; simp only [RepV] at r; subst r; constructor) | skip
  · cases h
    simp only [RepV] at r
    obtain ⟨a, vs, e, ht, _⟩ := r
    subst e
    exact .tup ht
  · simp only [RepV] at r
    obtain ⟨a, ha, e⟩ := r
    subst e
    split at h
    · rename_i xs hx
      obtain ⟨vs, h1, _⟩ := s.cell _ a _ ha hx
      cases h
      exact .lst h1
    · rename_i xs hx
      obtain ⟨vs, h1, _⟩ := s.cell _ a _ ha hx
      cases h
      exact .dK h1
    · rename_i xs hx
      obtain ⟨vs, h1, _⟩ := s.cell _ a _ ha hx
      cases h
      exact .dT h1
    · cases h
  · cases h
/-- whether a thing of type t is one of T -/
def isTy (t T : String) : Option Bool := match t, T with
  | "NoneType", "str" => some false | "NoneType", "int" => some false | "NoneType", "bool" => some false | "NoneType", "tuple" => some false | "NoneType", "list" => some false
  | "bool", "str" => some false | "bool", "int" => some true | "bool", "bool" => some true | "bool", "tuple" => some false | "bool", "list" => some false
  | "int", "str" => some false | "int", "int" => some true | "int", "bool" => some false | "int", "tuple" => some false | "int", "list" => some false
  | "str", "str" => some true | "str", "int" => some false | "str", "bool" => some false | "str", "tuple" => some false | "str", "list" => some false
  | "tuple", "str" => some false | "tuple", "int" => some false | "tuple", "bool" => some false | "tuple", "tuple" => some true | "tuple", "list" => some false
  | "list", "str" => some false | "list", "int" => some false | "list", "bool" => some false | "list", "tuple" => some false | "list", "list" => some true
  | "dict", "str" => some false | "dict", "int" => some false | "dict", "bool" => some false | "dict", "tuple" => some false | "dict", "list" => some false
  | _, _ => none
theorem isTy_ok {t T : String} {r : Bool} (h : isTy t T = some r) : PySem.W.kitOne K (.type t) (.type T) = some r := by
  unfold isTy at h
  split at h <;> first | (cases h; rfl) | (cases h; with_unfolding_all rfl) | cases h
def kIsi : KA := fun ds st P => match ds with
  | [d, .ty T] => (match typD st d with
    | some t => (match isTy t T with
      | some r => P (.bl r) st
      | none => False)
    | none => False)
  | _ => False
theorem lk_isi : LkA K (rIsi K) kIsi := fun am H st ds vs P Q s rv q k => by
  unfold kIsi at q
  split at q
  · obtain ⟨v, w, e, r, r2⟩ := rv2 rv
    subst e
    split at q
    · rename_i t ht
      split at q
      · rename_i r' hr
        simp only [RepV] at r2
        subst r2
        exact ⟨v, _, _, _, r', rfl, .ty _, .base (typD_ok s r ht), isTy_ok hr, k am H _ (.bl r') st Ext.refl s (by simp only [RepV]) q⟩
      · exact q.elim
    · exact q.elim
  · exact q.elim
theorem e_isi {fa : WA} (hg : Gl X "isinstance") (hm : X.mg "isinstance" = none) (ha : PA X [a, b] (tDa X.K fa)) (he : starEach [a, b] X.env = (false, eval a X.env) :: starEach [b] X.env := by rfl) (hpl : (backTo pos (starEach [b] X.env)).any (·.1) = false := by rfl) :
    PE X (.Call (.Name "isinstance" p) [a, b] [] pos) (tD X.K (wBlt kIsi fa)) := e_blt call_isi lk_isi hg hm boot_isinstance ha (by decide) (by decide) he hpl
theorem e_ty {T : String} (hg : Gl X x) (hm : X.mg x = none) (hv : bootBuiltins x = some (.type T)) (hn : x ≠ "__name__" := by decide) (hd : (x == ("__debug__" : Str)) = false := by decide) : PE X (.Name x pos) (tD X.K (wK (.ty T))) :=
  e_k (pe_bltn hg hm hv (v := .ty T) rfl hn hd) _ fun _ _ => by simp only [RepV]

/-! ### sorted -/
/-- of ints -/
def wSortI (f : WA) : WA := fun env st P => f env st fun ds s1 => match intsD ds with
  | some is => ∀ js : List Int, js.Perm is → js.Pairwise (· ≤ ·) → P (js.map D.int) s1
  | none => False
theorem rep_ints : ∀ is : List Int, RepVs K am H (is.map D.int) (is.map V.int)
  | [] => .nil
  | i :: r => .cons (by simp only [RepV]) (rep_ints r)
theorem rep_strs : ∀ is : List Str, RepVs K am H (is.map D.str) (is.map V.str)
  | [] => .nil
  | i :: r => .cons (by simp only [RepV]) (rep_strs r)
theorem e_sortI {f : WA} (hg : Gl X "sorted") (hm : X.mg "sorted" = none) (he : PE X e (tDl X.K f)) (hs : starEach [e] X.env = (false, eval e X.env) :: starEach [] X.env := by rfl) : PE X (.Call (.Name "sorted" p) [e] [] pos) (tDt X.K (wSortI f)) :=
  PE.imp (pe_callB cr_sortedI hg hm boot_sorted (pa_one he hs) (by decide) (by decide) hs) fun σ H Q ⟨am, env, st, P, hn, hs, q, k⟩ =>
    ⟨am, env, st, _, hn, hs, q, fun am' H' p vs ds st' x s h1 r z => by
      split at z
      · rename_i is hb
        have := intsD_ok hb r
        subst this
        exact ⟨p, is, rfl, h1, fun js l hp hl hl0 => k am' _ l _ _ st' (x.trans (Ext.fresh hl0)) (s.fresh hl0) (back_none x s hl0) upd_same (fun z => s.notNone z hl0) (rep_ints js) (z js hp hl)⟩
      · exact z.elim⟩
/-- tuples of a text and ints behind it -/
def shC : Nat → Bool := fun i => i == 0
def keyC : D → Option (List (Int ⊕ List Nat))
  | .tup (.str z :: r) => (intsD r).map fun is => Sum.inr z.cps.toList :: is.map Sum.inl
  | _ => none
def ltC (d1 d2 : D) : Bool := match keyC d1, keyC d2 with
  | some k1, some k2 => lexLt itemOrd k1 k2
  | _, _ => false
def wSortC (f : WA) : WA := fun env st P => f env st fun ds s1 => (∀ d ∈ ds, (keyC d).isSome = true) ∧ ∀ es : List D, es.Perm ds → es.Pairwise (fun x y => ltC y x = false) → P es s1
theorem tupItems_ints : ∀ (i : Nat) (is : List Int) (us : List Value), 0 < i → Vals (is.map V.int) us → tupItems shC i us = some (is.map Sum.inl)
  | i, [], us, _, r => by cases r; simp [tupItems]
  | i, j :: is, us, hi, r => by
    cases r with
    | cons r1 r2 =>
      obtain ⟨t, rfl⟩ := r1
      have ih := tupItems_ints (i + 1) is _ (by omega) r2
      have h0 : shC i = false := by unfold shC; simp; omega
      simp [tupItems, h0, ih]
/-- the key as the heap shows it -/
theorem keyC_heap {P : Program} {w : World} {h : Heap} {k : List (Int ⊕ List Nat)} {u : Value} (ok : HOk P w H h) (r : RepV K am H d v) (hk : keyC d = some k) (ru : RelV v u) :
    tupKey h shC u = some k ∧ ∃ f, TupOf h shC u f := by
  unfold keyC at hk
  split at hk
  · rename_i z r0
    obtain ⟨is, hi, ek⟩ := Option.map_eq_some_iff.mp hk
    simp only [RepV] at r
    obtain ⟨p, vs, ev, ht, hr⟩ := r
    simp only [RepVs, RepV] at hr
    obtain ⟨v1, vr, evs, e1, hr⟩ := hr
    have e2 := intsD_ok hi hr
    subst ev evs e1 e2
    obtain rfl : u = Value.ref p := ru
    obtain ⟨_, its, rv, ob, ho, hc, n, hd⟩ := ok p _ ht
    cases rv with
    | cons r1 r2 =>
      obtain ⟨t, rfl⟩ := r1
      refine ⟨?_, _, p, ob, _, n, rfl, ho, hc, hd, rfl, (fun z => by cases z), (fun _ => ⟨_, t, rfl⟩)⟩
      have ti := tupItems_ints 1 is _ (by omega) r2
      have h0 : shC 0 = true := rfl
      simp only [tupKey, ho, hd]
      simp [tupItems, h0, ti, ← ek]
  · cases hk
theorem swoC : SrtO.Swo (lexLt itemOrd) where
  asym := fun x y h => by
    cases q : lexLt itemOrd y x with
    | false => rfl
    | true =>
      have := lex_trans x y x h q
      rw [lex_irrefl] at this
      cases this
  tr := fun x y z h1 h2 => by
    cases q : lexLt itemOrd z x with
    | false => rfl
    | true =>
      rcases lex_negTrans z y x q with h | h
      · rw [h2] at h; cases h
      · rw [h1] at h; cases h
theorem paired_perm {α β : Type} {R : α → β → Prop} {us out : List β} (hp : out.Perm us) : ∀ {ds : List α}, Paired R ds us → ∃ es : List α, es.Perm ds ∧ Paired R es out := by
  induction hp with
  | nil => intro ds h; exact ⟨ds, List.Perm.refl _, h⟩
  | cons x _ ih =>
    intro ds h
    cases h with
    | cons r t =>
      obtain ⟨es, h1, h2⟩ := ih t
      exact ⟨_ :: es, h1.cons _, .cons r h2⟩
  | swap x y l =>
    intro ds h
    cases h with
    | cons r t =>
      cases t with
      | cons r2 t2 => exact ⟨_, List.Perm.swap _ _ _, .cons r2 (.cons r t2)⟩
  | trans _ _ ih1 ih2 =>
    intro ds h
    obtain ⟨es, h1, h2⟩ := ih2 h
    obtain ⟨fs, h3, h4⟩ := ih1 h2
    exact ⟨fs, h3.trans h1, h4⟩
theorem paired_mem {α β : Type} {R : α → β → Prop} : ∀ {ds : List α} {us : List β} {u : β}, Paired R ds us → u ∈ us → ∃ d ∈ ds, R d u
  | _, _, u, .cons r t, h => by
    rcases List.mem_cons.mp h with e | h
    · subst e; exact ⟨_, List.mem_cons_self, r⟩
    · obtain ⟨d, hd, r'⟩ := paired_mem t h
      exact ⟨d, List.mem_cons_of_mem _ hd, r'⟩
theorem paired_memL {α β : Type} {R : α → β → Prop} : ∀ {ds : List α} {us : List β} {d : α}, Paired R ds us → d ∈ ds → ∃ u ∈ us, R d u
  | _, _, u, .cons r t, h => by
    rcases List.mem_cons.mp h with e | h
    · subst e; exact ⟨_, List.mem_cons_self, r⟩
    · obtain ⟨d, hd, r'⟩ := paired_memL t h
      exact ⟨d, List.mem_cons_of_mem _ hd, r'⟩
theorem paired_pairwise {α β : Type} {R : α → β → Prop} {S : α → α → Prop} {T : β → β → Prop} (h : ∀ a b x y, R a x → R b y → T x y → S a b) : ∀ {ds : List α} {us : List β}, Paired R ds us → us.Pairwise T → ds.Pairwise S
  | _, _, .nil, _ => List.Pairwise.nil
  | _, _, .cons r t, p => by
    obtain ⟨p1, p2⟩ := List.pairwise_cons.mp p
    refine List.pairwise_cons.mpr ⟨fun b hb => ?_, paired_pairwise h t p2⟩
    obtain ⟨y, hy, ry⟩ := paired_memL t hb
    exact h _ _ _ _ r ry (p1 y hy)
theorem paired_of : ∀ {ds : List D} {vs : List V} {us : List Value}, RepVs K am H ds vs → Vals vs us → Paired (fun d u => ∃ v, RepV K am H d v ∧ RelV v u) ds us
  | [], vs, us, r, r' => by
    simp only [RepVs] at r; subst r; cases r'; exact .nil
  | d :: ds, vs, us, r, r' => by
    simp only [RepVs] at r
    obtain ⟨v, w, e, h1, h2⟩ := r
    subst e
    cases r' with
    | cons q1 q2 => exact .cons ⟨v, h1, q1⟩ (paired_of h2 q2)
theorem of_paired : ∀ {ds : List D} {us : List Value}, Paired (fun d u => ∃ v, RepV K am H d v ∧ RelV v u) ds us → ∃ vs, RepVs K am H ds vs ∧ Vals vs us
  | _, _, .nil => ⟨[], .nil, .nil⟩
  | _, _, .cons ⟨v, h1, h2⟩ t => by
    obtain ⟨vs, h3, h4⟩ := of_paired t
    exact ⟨v :: vs, .cons h1 h3, .cons h2 h4⟩
def keyU (h : Heap) (u : Value) : List (Int ⊕ List Nat) := (tupKey h shC u).getD []
theorem swoU (h : Heap) : SrtO.Swo fun u w => lexLt itemOrd (keyU h u) (keyU h w) := ⟨fun x y => swoC.asym _ _, fun x y z => swoC.tr _ _ _⟩
theorem tupOf_keeps {h h' : Heap} {u f : Value} (t : TupOf h shC u f) (k : ∀ b o, h.get? b = some o → o.cls = .type "tuple" → h'.get? b = some o) : TupOf h' shC u f := by
  obtain ⟨q, ob, xs, n, e, ho, hc, hd, r⟩ := t
  exact ⟨q, ob, xs, n, e, k _ _ ho hc, hc, hd, r⟩
theorem tupKey_keeps {h h' : Heap} {u f : Value} (t : TupOf h shC u f) (k : ∀ b o, h.get? b = some o → o.cls = .type "tuple" → h'.get? b = some o) : tupKey h' shC u = tupKey h shC u := by
  obtain ⟨q, ob, xs, n, e, ho, hc, hd, r⟩ := t
  subst e
  simp only [tupKey, ho, k _ _ ho hc]
theorem tupsOf_all {h : Heap} : ∀ {vs : List Value}, (∀ u ∈ vs, ∃ f, TupOf h shC u f) → ∃ fs, TupsOf h shC vs fs ∧ fs.length = vs.length
  | [], _ => ⟨[], .nil, rfl⟩
  | v :: vs, k => by
    obtain ⟨f, hf⟩ := k v List.mem_cons_self
    obtain ⟨fs, h1, h2⟩ := tupsOf_all fun u hu => k u (List.mem_cons_of_mem _ hu)
    exact ⟨f :: fs, .cons hf h1, by rw [List.length_cons, List.length_cons, h2]⟩
/-- sorted(l), l a list of tuples of a text and ints -/
theorem sorted_tups {prog : Program} {w : World} {A : Around} {E : Value → Shared → Prop} {s : Shared} {l : Addr} {vs : List Value} {Q : Value → Shared → Prop} (hl : s.heap.IsList l vs.toArray) (hz : vs.length ≤ sizeLine)
    (hk : ∀ u ∈ vs, (∃ k, tupKey s.heap shC u = some k) ∧ ∃ f, TupOf s.heap shC u f)
    (h : ∀ (h' : Heap) (d : Addr) (out : List Value), out.Perm vs → out.Pairwise (fun u w => lexLt itemOrd (keyU s.heap w) (keyU s.heap u) = false) → (∀ b o, s.heap.get? b = some o → h'.get? b = some o) → s.heap.objs.size ≤ d → (∃ n, h'.get? d = some (seqObj "list" out.toArray n)) → Q (.ref d) { s with heap := h' }) :
    wpAny (model prog w) A (call (.builtin "sorted") [.ref l]) Q E s := by
  refine SrtO.sorted_ord (swoU s.heap) hl hz (fun h2 h₁ a ha kk => ?_) fun out hs hb => ?_
  · intro h' keep
    have kt : ∀ b o, s.heap.get? b = some o → o.cls = .type "tuple" → h'.get? b = some o := fun b o e c => by
      obtain ⟨nb, e1⟩ := kk b o e
      exact keep b o nb e1
    obtain ⟨fs, hf, hlen⟩ := tupsOf_all fun u hu => by
      obtain ⟨_, f, hf⟩ := hk u hu
      exact ⟨f, tupOf_keeps hf kt⟩
    refine ⟨_, fun Q E hq => tup_kind (by omega) hf hq, fun x y hx hy => ?_⟩
    obtain ⟨⟨k1, e1⟩, f1, t1⟩ := hk _ hx
    obtain ⟨⟨k2, e2⟩, f2, t2⟩ := hk _ hy
    have g1 : tupKey h' shC x.1 = some k1 := by rw [tupKey_keeps t1 kt]; exact e1
    have g2 : tupKey h' shC y.1 = some k2 := by rw [tupKey_keeps t2 kt]; exact e2
    refine tup_ltAt (s := { s with heap := h' }) true A.in1.in1 _ x.1 y.1 k1 k2 g1 g2 ?_
    have u1 : keyU s.heap x.1 = k1 := by unfold keyU; rw [e1]; rfl
    have u2 : keyU s.heap y.1 = k2 := by unfold keyU; rw [e2]; rfl
    show _ ∧ lexLt itemOrd k1 k2 = lexLt itemOrd (keyU s.heap x.1) (keyU s.heap y.1)
    rw [u1, u2]
    exact ⟨rfl, rfl⟩
  · exact h _ _ out hb.perm hs (fun b o e => sortedAll_old e) (Nat.le_succ _) (sortedAll_at s.heap vs out.toArray)
def rSortC (X : Cx) : List V → Hp → VK → Prop := fun vs H Q => ∃ (p : Addr) (xs : List V) (am : List Addr) (ds : List D), vs = [.ref p] ∧ SqL X.K H p xs ∧ RepVs X.K am H ds xs ∧ (∀ d ∈ ds, (keyC d).isSome = true) ∧
  ∀ (es : List D) (ws : List V) (l : Addr), es.Perm ds → es.Pairwise (fun x y => ltC y x = false) → RepVs X.K am H es ws → H l = none → Q (.ref l) (upd H l (.lst ws))
theorem cr_sortC : CallR X (.builtin "sorted") (rSortC X) := by
  intro pins s σ H vs us Q I r ⟨p, xs, am, ds, ev, hq, hr, hk, q⟩
  subst ev
  cases r with
  | cons r1 r2 =>
    cases r2
    obtain rfl := (show _ = Value.ref p from r1)
    obtain ⟨its, rv, pl, hz⟩ := I.list hq
    have pr := paired_of hr rv
    have key : ∀ d u, (∃ v, RepV X.K am H d v ∧ RelV v u) → d ∈ ds → ∃ k, keyC d = some k ∧ tupKey s.heap shC u = some k ∧ ∃ f, TupOf s.heap shC u f := fun d u ⟨v, r1, r2⟩ hd => by
      obtain ⟨k, ek⟩ := Option.isSome_iff_exists.mp (hk d hd)
      obtain ⟨h1, h2⟩ := keyC_heap I.hok r1 ek r2
      exact ⟨k, ek, h1, h2⟩
    refine sorted_tups pl.isList (by rw [← rv.length]; exact hz) (fun u hu => ?_) fun h' d out hp hs kp hd hn => ?_
    · obtain ⟨d, hd, rd⟩ := paired_mem pr hu
      obtain ⟨k, _, h1, h2⟩ := key d u rd hd
      exact ⟨⟨k, h1⟩, h2⟩
    · obtain ⟨es, p1, p2⟩ := paired_perm hp pr
      obtain ⟨ws, w1, w2⟩ := of_paired p2
      obtain ⟨n, hn⟩ := hn
      have pw : es.Pairwise (fun x y => ltC y x = false) := by
        have pp : Paired (fun d u => (∃ v, RepV X.K am H d v ∧ RelV v u) ∧ d ∈ ds) es out := by
          clear w2 hn
          have : ∀ {es : List D} {out : List Value}, Paired (fun d u => ∃ v, RepV X.K am H d v ∧ RelV v u) es out → (∀ d ∈ es, d ∈ ds) → Paired (fun d u => (∃ v, RepV X.K am H d v ∧ RelV v u) ∧ d ∈ ds) es out := by
            intro es out h
            induction h with
            | nil => intro _; exact .nil
            | cons r t ih => intro k; exact .cons ⟨r, k _ List.mem_cons_self⟩ (ih fun d hd => k d (List.mem_cons_of_mem _ hd))
          exact this p2 fun d hd => p1.mem_iff.mp hd
        refine paired_pairwise (fun a b x y ⟨ra, ha⟩ ⟨rb, hb⟩ ht => ?_) pp hs
        obtain ⟨k1, e1, g1, _⟩ := key a x ra ha
        obtain ⟨k2, e2, g2, _⟩ := key b y rb hb
        unfold keyU at ht
        rw [g1, g2] at ht
        unfold ltC
        rw [e1, e2]
        exact ht
      have hlen : ws.length ≤ sizeLine := by
        rw [← w1.length, p1.length_eq, hr.length]; exact hz
      exact ⟨.ref d, upd H d (.lst ws), I.laid (t' := s.toks) kp hd ⟨hlen, out, n, w2, hn⟩, rfl, q es ws d p1 pw w1 (I.hok.fresh hd)⟩
theorem e_sortC {f : WA} (hg : Gl X "sorted") (hm : X.mg "sorted" = none) (he : PE X e (tDl X.K f)) (hs : starEach [e] X.env = (false, eval e X.env) :: starEach [] X.env := by rfl) : PE X (.Call (.Name "sorted" p) [e] [] pos) (tDt X.K (wSortC f)) :=
  PE.imp (pe_callB cr_sortC hg hm boot_sorted (pa_one he hs) (by decide) (by decide) hs) fun σ H Q ⟨am, env, st, P, hn, hs, q, k⟩ =>
    ⟨am, env, st, _, hn, hs, q, fun am' H' p vs ds st' x s h1 r z => ⟨p, vs, am', ds, rfl, h1, r, z.1, fun es ws l hp hpw rw' hl =>
      k am' _ l ws es st' (x.trans (Ext.fresh hl)) (s.fresh hl) (back_none x s hl) upd_same (fun z => s.notNone z hl) (RepVs.ext (Ext.fresh hl) _ _ rw') (z.2 es hp hpw)⟩⟩
end Vd
set_option Elab.async false
set_option linter.all false
set_option maxRecDepth 100000
set_option maxHeartbeats 2000000
/-! Vd9: list methods; calls of defs, methods, classes; what a def keeps. -/
namespace Vd
open PySem PySem.Spec PyProof.Rows L2
variable {Hs : Hp} {X : Cx} {a b c e tg : Expr} {f g h : WE} {pos p : Pos} {K : PySem.W.Frag} {am am' : List Addr} {H H' : Hp} {st : Sto} {d : D} {v : V} {x : Str} {es : List Expr}

/-! ### list methods -/
abbrev KM := D → List D → Sto → (D → Sto → Prop) → Prop
def LkM (K : PySem.W.Frag) (r : V → List V → Hp → VK → Prop) (k : KM) : Prop := ∀ am H st x vx ds vs P (Q : VK), RepS K am H st → RepV K am H x vx → RepVs K am H ds vs → k x ds st P →
  (∀ am' H' v d st', Ext am H am' H' → RepS K am' H' st' → RepV K am' H' d v → P d st' → Q v H') → r vx vs H Q
def isLst (st : Sto) : D → Prop
  | .ob n => ∃ xs, st[n]? = some (.lst xs)
  | _ => False
@[simp ↓] def wLM (k : KM) (fo : WE) (fa : WA) : WE := fun env st P => fo env st fun x s1 => isLst s1 x ∧ fa env s1 fun ds s2 => k x ds s2 P
@[simp ↓] def wLM0 (k : KM) (fo : WE) : WE := fun env st P => fo env st fun x s1 => isLst s1 x ∧ k x [] s1 P
theorem isLst_ty (s : RepS K am H st) (r : RepV K am H d v) (h : isLst st d) : tyV K "list" v H := by
  unfold isLst at h
  split at h
  · obtain ⟨xs, h⟩ := h
    simp only [RepV] at r
    obtain ⟨p, hp, e⟩ := r
    subst e
    obtain ⟨vs, h1, _⟩ := s.cell _ p _ hp h
    exact .inl ⟨rfl, vs, .inl (.inl h1)⟩
  · exact h.elim
theorem e_lm {name : Str} {id : String} {r : V → List V → Hp → VK → Prop} {k : KM} {fa : WA} {apos cpos : Pos} (slot : Slot "list" name id) (hty : typeOf (.builtin id) = pure (.type "method_descriptor")) (hm : MtR X id r) (lk : LkM X.K r k)
    (ho : PE X c (tD X.K f)) (ha : PA X (e :: es) (tDa X.K fa))
    (hbase : attributeBase c name X.env (eval c X.env) = eval c X.env := by rfl)
    (hfew : ((backTo cpos (starEach (e :: es) X.env)).all (fun x => !x.1) && (backToKw cpos (keywordEach [] X.env)).all (fun x => x.1.isSome)
      && decide ((e :: es).length + ([] : List Keyword).length + (if ([] : List Keyword).isEmpty then 0 else 1) < 30)) = true := by rfl)
    (hline : (apos.endLine == cpos.line) = true := by rfl) (hs : starEach (e :: es) X.env = (false, eval e X.env) :: starEach es X.env := by rfl) (hplain : (backTo cpos (starEach es X.env)).any (·.1) = false := by rfl) :
    PE X (.Call (.Attribute c name apos) (e :: es) [] cpos) (tD X.K (wLM k f fa)) :=
  PE.imp (pe_bm PySem.F.plainAttrs_list slot hty hm ho ha hbase hfew hline hs hplain) fun σ H Q ⟨am, env, st, P, hn, hs, q, kk⟩ => by
    refine ⟨am, env, st, _, hn, hs, q, fun am1 H1 vx x s1 x1 r1 rx z => ⟨isLst_ty r1 rx z.1, am1, env, s1, _, hn.ext x1, r1, z.2, fun am2 H2 vs ds s2 x2 r2 rv z2 => ?_⟩⟩
    exact lk am2 H2 s2 x vx ds vs P Q r2 (RepV.ext x2 _ _ rx) rv z2 fun am3 H3 w y s3 x3 => kk am3 H3 w y s3 ((x1.trans x2).trans x3)
theorem e_lm0 {name : Str} {id : String} {r : V → List V → Hp → VK → Prop} {k : KM} {apos cpos : Pos} (slot : Slot "list" name id) (hty : typeOf (.builtin id) = pure (.type "method_descriptor")) (hm : MtR X id r) (lk : LkM X.K r k)
    (ho : PE X c (tD X.K f))
    (hbase : attributeBase c name X.env (eval c X.env) = eval c X.env := by rfl) (hline : (apos.endLine == cpos.line) = true := by rfl) :
    PE X (.Call (.Attribute c name apos) [] [] cpos) (tD X.K (wLM0 k f)) :=
  PE.imp (pe_bm0 PySem.F.plainAttrs_list slot hty hm ho hbase hline) fun σ H Q ⟨am, env, st, P, hn, hs, q, kk⟩ => by
    refine ⟨am, env, st, _, hn, hs, q, fun am1 H1 vx x s1 x1 r1 rx z => ⟨isLst_ty r1 rx z.1, ?_⟩⟩
    exact lk am1 H1 s1 x vx [] [] P Q r1 rx .nil z.2 fun am3 H3 w y s3 x3 => kk am3 H3 w y s3 (x1.trans x3)
/-- the cell of a list is rewritten -/
theorem lst_put (s : RepS K am H st) {n : Nat} {p : Addr} {xs ys : List D} {vs ws : List V} (hp : am[n]? = some p) (h1 : H p = some (.lst vs)) (r : ∀ H', Ext am H am H' → RepVs K am H' ys ws) :
    Ext am H am (upd H p (.lst ws)) ∧ RepS K am (upd H p (.lst ws)) (st.set n (.lst ys)) := by
  have x1 : Ext am H am (upd H p (.lst ws)) := Ext.mut (List.mem_of_getElem? hp) h1 (fun _ z => nomatch z) (fun _ _ z => nomatch z) (fun _ _ z => nomatch z)
  exact ⟨x1, s.put hp h1 (fun _ z => nomatch z) (fun _ _ z => nomatch z) (fun _ _ z => nomatch z) (c := .lst ys) ⟨_, upd_same, r _ x1⟩⟩
def lstOf (st : Sto) : D → (Nat → List D → Prop) → Prop
  | .ob n, P => (match st[n]? with
    | some (.lst xs) => P n xs
    | _ => False)
  | _, _ => False
theorem lstOf_ok (s : RepS K am H st) (r : RepV K am H d v) {P : Nat → List D → Prop} (h : lstOf st d P) : ∃ n p xs vs, v = .ref p ∧ am[n]? = some p ∧ H p = some (.lst vs) ∧ st[n]? = some (.lst xs) ∧ RepVs K am H xs vs ∧ P n xs := by
  unfold lstOf at h
  split at h
  · split at h
    · rename_i n xs hx
      simp only [RepV] at r
      obtain ⟨p, hp, e⟩ := r
      obtain ⟨vs, h1, r1⟩ := s.cell _ p _ hp hx
      exact ⟨_, p, xs, vs, e, hp, h1, hx, r1, h⟩
    · exact h.elim
  · exact h.elim
def kAppend : KM := fun x ds st P => lstOf st x fun n xs => match ds with
  | [d] => xs.length < 100000 ∧ P .non (st.set n (.lst (xs ++ [d])))
  | _ => False
theorem rep_non : RepV K am H .non .non := by simp only [RepV]
theorem lk_append : LkM K rAppend kAppend := fun am H st x vx ds vs P Q s rx rv q k => by
  obtain ⟨n, p, xs, us, ev, hp, h1, hx, r1, q⟩ := lstOf_ok s rx q
  split at q
  · obtain ⟨w, e2, rw'⟩ := rv1 (ds := []) rv
    obtain ⟨x1, s1⟩ := lst_put (ys := xs ++ [_]) (ws := us ++ [w]) s (xs := xs) hp h1 fun H' x => (RepVs.ext x _ _ r1).append (.cons (RepV.ext x _ _ rw') .nil)
    exact ⟨p, us, w, ev, e2, h1, by rw [← r1.length]; exact bigl _ q.1, k am _ _ .non _ x1 s1 rep_non q.2⟩
  · exact q.elim
theorem e_append {fa : WA} {apos cpos : Pos} (ho : PE X c (tD X.K f)) (ha : PA X (e :: es) (tDa X.K fa))
    (hbase : attributeBase c "append" X.env (eval c X.env) = eval c X.env := by rfl)
    (hfew : ((backTo cpos (starEach (e :: es) X.env)).all (fun x => !x.1) && (backToKw cpos (keywordEach [] X.env)).all (fun x => x.1.isSome)
      && decide ((e :: es).length + ([] : List Keyword).length + (if ([] : List Keyword).isEmpty then 0 else 1) < 30)) = true := by rfl)
    (hline : (apos.endLine == cpos.line) = true := by rfl) (hs : starEach (e :: es) X.env = (false, eval e X.env) :: starEach es X.env := by rfl) (hplain : (backTo cpos (starEach es X.env)).any (·.1) = false := by rfl) :
    PE X (.Call (.Attribute c "append" apos) (e :: es) [] cpos) (tD X.K (wLM kAppend f fa)) := e_lm PySem.F.slot_list_append PySem.F.type_list_append mt_append lk_append ho ha hbase hfew hline hs hplain
def kPop : KM := fun x ds st P => lstOf st x fun n xs => match ds with
  | [] => (match xs[xs.length - 1]? with
    | some y => P y (st.set n (.lst xs.dropLast))
    | none => False)
  | [.int i] => xs.length ≤ 100000 ∧ (match seqIndex? i xs.length with
    | some k => (match xs[k]? with
      | some y => P y (st.set n (.lst (xs.eraseIdx k)))
      | none => False)
    | none => False)
  | _ => False
theorem RepVs.dropLast {ds : List D} {vs : List V} (r : RepVs K am H ds vs) : RepVs K am H ds.dropLast vs.dropLast := by
  rw [List.dropLast_eq_take, List.dropLast_eq_take, r.length]
  exact r.take _
theorem RepVs.eraseIdx : ∀ {ds : List D} {vs : List V} (i : Nat), RepVs K am H ds vs → RepVs K am H (ds.eraseIdx i) (vs.eraseIdx i)
  | [], _, i, h => by unfold RepVs at h; rw [h]; simp [RepVs]
  | d :: ds, vs, 0, h => by
    unfold RepVs at h
    obtain ⟨v, r, ev, h1, h2⟩ := h
    rw [ev]; exact h2
  | d :: ds, vs, i + 1, h => by
    unfold RepVs at h
    obtain ⟨v, r, ev, h1, h2⟩ := h
    rw [ev]
    exact .cons h1 (RepVs.eraseIdx i h2)
theorem seqIndex_b {i : Int} {n k : Nat} (h : seqIndex? i n = some k) (hn : n ≤ 100000) : -(2 ^ 63) ≤ i ∧ i < 2 ^ 63 := by
  unfold seqIndex? at h
  simp only [] at h
  have key : ∀ j : Int, (if (decide (0 ≤ j) && decide (j < (n : Int))) = true then some j.toNat else none) = some k → 0 ≤ j ∧ j < n := fun j h => by
    split at h
    · rename_i q
      rw [Bool.and_eq_true, decide_eq_true_eq, decide_eq_true_eq] at q
      exact q
    · cases h
  split at h
  · have := key _ h
    constructor <;> omega
  · have := key _ h
    constructor <;> omega
theorem lk_pop : LkM K (fun x vs H Q => rPop x vs H Q ∨ rPopAt x vs H Q) kPop := fun am H st x vx ds vs P Q s rx rv q k => by
  obtain ⟨n, p, xs, us, ev, hp, h1, hx, r1, q⟩ := lstOf_ok s rx q
  split at q
  · split at q
    · rename_i y hy
      obtain ⟨w, hw, rw'⟩ := r1.get hy
      obtain ⟨x1, s1⟩ := lst_put (ys := xs.dropLast) (ws := us.dropLast) s (xs := xs) hp h1 fun H' x => RepVs.ext x _ _ r1.dropLast
      unfold RepVs at rv
      exact .inl ⟨p, us, w, ev, rv, h1, by rw [← r1.length]; exact hw, k am _ _ y _ x1 s1 (RepV.ext x1 _ _ rw') q⟩
    · exact q.elim
  · rename_i i _
    obtain ⟨hl, q⟩ := q
    split at q
    · rename_i kk hk
      split at q
      · rename_i y hy
        obtain ⟨w, hw, rw'⟩ := r1.get hy
        obtain ⟨x1, s1⟩ := lst_put (ys := xs.eraseIdx kk) (ws := us.eraseIdx kk) s (xs := xs) hp h1 fun H' x => RepVs.ext x _ _ (r1.eraseIdx kk)
        obtain ⟨z, e2, rz⟩ := rv1 (ds := []) rv
        simp only [RepV] at rz
        subst rz
        obtain ⟨b1, b2⟩ := seqIndex_b hk hl
        exact .inr ⟨p, us, i, kk, w, ev, e2, h1, b1, b2, by rw [← r1.length]; exact hk, hw, k am _ _ y _ x1 s1 (RepV.ext x1 _ _ rw') q⟩
      · exact q.elim
    · exact q.elim
  · exact q.elim
theorem mt_popB : MtR X "list.pop" (fun x vs H Q => rPop x vs H Q ∨ rPopAt x vs H Q) := fun pins s σ H x xs v us Q I r1 r2 h => h.elim (mt_pop pins s σ H x xs v us Q I r1 r2) (mt_popAt pins s σ H x xs v us Q I r1 r2)
theorem e_pop0 {apos cpos : Pos} (ho : PE X c (tD X.K f)) (hbase : attributeBase c "pop" X.env (eval c X.env) = eval c X.env := by rfl) (hline : (apos.endLine == cpos.line) = true := by rfl) :
    PE X (.Call (.Attribute c "pop" apos) [] [] cpos) (tD X.K (wLM0 kPop f)) := e_lm0 PySem.F.slot_list_pop PySem.F.type_list_pop mt_popB lk_pop ho hbase hline
theorem e_pop {fa : WA} {apos cpos : Pos} (ho : PE X c (tD X.K f)) (ha : PA X (e :: es) (tDa X.K fa))
    (hbase : attributeBase c "pop" X.env (eval c X.env) = eval c X.env := by rfl)
    (hfew : ((backTo cpos (starEach (e :: es) X.env)).all (fun x => !x.1) && (backToKw cpos (keywordEach [] X.env)).all (fun x => x.1.isSome)
      && decide ((e :: es).length + ([] : List Keyword).length + (if ([] : List Keyword).isEmpty then 0 else 1) < 30)) = true := by rfl)
    (hline : (apos.endLine == cpos.line) = true := by rfl) (hs : starEach (e :: es) X.env = (false, eval e X.env) :: starEach es X.env := by rfl) (hplain : (backTo cpos (starEach es X.env)).any (·.1) = false := by rfl) :
    PE X (.Call (.Attribute c "pop" apos) (e :: es) [] cpos) (tD X.K (wLM kPop f fa)) := e_lm PySem.F.slot_list_pop PySem.F.type_list_pop mt_popB lk_pop ho ha hbase hfew hline hs hplain
def kInsert : KM := fun x ds st P => lstOf st x fun n xs => match ds with
  | [.int i, d] => xs.length < 100000 ∧ 0 ≤ i ∧ i < 2 ^ 62 ∧ P .non (st.set n (.lst (xs.take i.toNat ++ [d] ++ xs.drop i.toNat)))
  | _ => False
def rInsert : V → List V → Hp → VK → Prop := fun x vs H Q => ∃ (l : Addr) (xs : List V) (i : Int) (y : V), x = .ref l ∧ vs = [.int i, y] ∧ H l = some (.lst xs) ∧ xs.length < sizeLine ∧ 0 ≤ i ∧ i < 2 ^ 63 ∧
    Q .non (upd H l (.lst (xs.take i.toNat ++ [y] ++ xs.drop i.toNat)))
theorem lk_insert : LkM K rInsert kInsert := fun am H st x vx ds vs P Q s rx rv q k => by
  obtain ⟨n, p, xs, us, ev, hp, h1, hx, r1, q⟩ := lstOf_ok s rx q
  split at q
  · obtain ⟨w1, w2, e2, ra, rb⟩ := rv2 rv
    simp only [RepV] at ra
    subst ra
    obtain ⟨q1, q2, q3, q⟩ := q
    rename_i i d _
    obtain ⟨x1, s1⟩ := lst_put (ys := xs.take i.toNat ++ [d] ++ xs.drop i.toNat) (ws := us.take i.toNat ++ [w2] ++ us.drop i.toNat) s (xs := xs) hp h1 fun H' x => ((RepVs.ext x _ _ (r1.take _)).append (.cons (RepV.ext x _ _ rb) .nil)).append (RepVs.ext x _ _ (r1.drop _))
    exact ⟨p, us, i, w2, ev, e2, h1, by rw [← r1.length]; exact bigl _ q1, q2, by omega, k am _ _ .non _ x1 s1 rep_non q⟩
  · exact q.elim
theorem e_insert {fa : WA} {apos cpos : Pos} (ho : PE X c (tD X.K f)) (ha : PA X (e :: es) (tDa X.K fa))
    (hbase : attributeBase c "insert" X.env (eval c X.env) = eval c X.env := by rfl)
    (hfew : ((backTo cpos (starEach (e :: es) X.env)).all (fun x => !x.1) && (backToKw cpos (keywordEach [] X.env)).all (fun x => x.1.isSome)
      && decide ((e :: es).length + ([] : List Keyword).length + (if ([] : List Keyword).isEmpty then 0 else 1) < 30)) = true := by rfl)
    (hline : (apos.endLine == cpos.line) = true := by rfl) (hs : starEach (e :: es) X.env = (false, eval e X.env) :: starEach es X.env := by rfl) (hplain : (backTo cpos (starEach es X.env)).any (·.1) = false := by rfl) :
    PE X (.Call (.Attribute c "insert" apos) (e :: es) [] cpos) (tD X.K (wLM kInsert f fa)) := e_lm PySem.F.slot_list_insert PySem.F.type_list_insert (r := rInsert) mt_insert lk_insert ho ha hbase hfew hline hs hplain
/-- l.extend(xs), xs another list that is told of, or a new one -/
@[simp ↓] def wExt (fo : WE) (fa : WA) : WE := fun env st P => fo env st fun x s1 => isLst s1 x ∧ fa env s1 fun ys s2 => lstOf s2 x fun n xs => xs.length + ys.length ≤ 100000 ∧ P .non (s2.set n (.lst (xs ++ ys)))
theorem e_extend {fa : WA} {apos cpos : Pos} (ho : PE X c (tD X.K f)) (ha : PE X e (tDt X.K fa))
    (hbase : attributeBase c "extend" X.env (eval c X.env) = eval c X.env := by rfl)
    (hfew : ((backTo cpos (starEach [e] X.env)).all (fun x => !x.1) && (backToKw cpos (keywordEach [] X.env)).all (fun x => x.1.isSome)
      && decide (([e] : List Expr).length + ([] : List Keyword).length + (if ([] : List Keyword).isEmpty then 0 else 1) < 30)) = true := by rfl)
    (hline : (apos.endLine == cpos.line) = true := by rfl) (hs : starEach [e] X.env = (false, eval e X.env) :: starEach [] X.env := by rfl) (hplain : (backTo cpos (starEach [] X.env)).any (·.1) = false := by rfl) :
    PE X (.Call (.Attribute c "extend" apos) [e] [] cpos) (tD X.K (wExt f fa)) :=
  PE.imp (pe_bm PySem.F.plainAttrs_list PySem.F.slot_list_extend PySem.F.type_list_extend mt_extend ho (pa_one ha hs) hbase hfew hline hs hplain) fun σ H Q ⟨am, env, st, P, hn, hs, q, kk⟩ => by
    refine ⟨am, env, st, _, hn, hs, q, fun am1 H1 vx x s1 x1 r1 rx z => ⟨isLst_ty r1 rx z.1, am1, env, s1, _, hn.ext x1, r1, z.2, fun am2 H2 p ys ds s2 x2 r2 hp0 hp1 nm rv z2 => ?_⟩⟩
    obtain ⟨n, q, xs, us, ev, hq, h1, hx, r3, z3, z4⟩ := lstOf_ok r2 (RepV.ext x2 _ _ rx) z2
    obtain ⟨x3, s3⟩ := lst_put (ys := xs ++ ds) (ws := us ++ ys) r2 (xs := xs) hq h1 fun H' x => (RepVs.ext x _ _ r3).append (RepVs.ext x _ _ rv)
    exact ⟨q, p, us, ys, ev, rfl, h1, hp1, Nat.le_trans (by rw [← r3.length, ← rv.length]; exact z3) (big 100000 (Nat.le_refl _)), kk am2 _ _ .non _ ((x1.trans x2).trans x3) s3 rep_non z4⟩
/-- l.index(y) -/
def kIndex : KM := fun x ds st P => lstOf st x fun n xs => match ds with
  | [d] => (match toPys xs, toPy d with
    | some ps, some q => (SeqAt.shaped (.list ps) = true ∧ SeqAt.shaped q = true) ∧ ∃ j z, ps[j]? = some z ∧ PyData.eqv z q = true ∧ (∀ (m : Nat) (z' : PyData), m < j → ps[m]? = some z' → PyData.eqv z' q = false) ∧ P (.int (j : Nat)) st
    | _, _ => False)
  | _ => False
theorem lk_index : LkM K (rIndexD K) kIndex := fun am H st x vx ds vs P Q s rx rv q k => by
  obtain ⟨n, p, xs, us, ev, hp, h1, hx, r1, q⟩ := lstOf_ok s rx q
  split at q
  · split at q
    · rename_i ps qd e1 e2
      obtain ⟨⟨s1, s2⟩, j, z, hz, hzz, hno, q⟩ := q
      obtain ⟨w, ew, rw'⟩ := rv1 (ds := []) rv
      exact ⟨p, w, qd, ps, j, z, ev, ew, .lst (.inl (.inl h1)) (toPys_ok _ _ _ e1 r1), toPy_ok _ _ _ e2 rw', s1, s2, hz, hzz, hno, k am H _ (.int (j : Nat)) st Ext.refl s (by simp only [RepV]) q⟩
    · exact q.elim
  · exact q.elim
theorem e_index {fa : WA} {apos cpos : Pos} (hu : ∃ k, Room k X.A) (ho : PE X c (tD X.K f)) (ha : PA X (e :: es) (tDa X.K fa))
    (hbase : attributeBase c "index" X.env (eval c X.env) = eval c X.env := by rfl)
    (hfew : ((backTo cpos (starEach (e :: es) X.env)).all (fun x => !x.1) && (backToKw cpos (keywordEach [] X.env)).all (fun x => x.1.isSome)
      && decide ((e :: es).length + ([] : List Keyword).length + (if ([] : List Keyword).isEmpty then 0 else 1) < 30)) = true := by rfl)
    (hline : (apos.endLine == cpos.line) = true := by rfl) (hs : starEach (e :: es) X.env = (false, eval e X.env) :: starEach es X.env := by rfl) (hplain : (backTo cpos (starEach es X.env)).any (·.1) = false := by rfl) :
    PE X (.Call (.Attribute c "index" apos) (e :: es) [] cpos) (tD X.K (wLM kIndex f fa)) := e_lm PySem.F.slot_list_index PySem.F.type_list_index (mt_indexD (by obtain ⟨k, r⟩ := hu; have := r.un; omega)) lk_index ho ha hbase hfew hline hs hplain
end Vd
set_option Elab.async false
set_option linter.all false
set_option maxRecDepth 100000
set_option maxHeartbeats 2000000
/-! Vd10: calls of defs, methods, classes; what a def keeps. -/
namespace Vd
open PySem PySem.Spec PyProof.Rows L2
variable {Hs : Hp} {X : Cx} {a b c e tg : Expr} {f g h : WE} {pos p : Pos} {K : PySem.W.Frag} {am am' : List Addr} {H H' : Hp} {st : Sto} {d : D} {v : V} {x : Str} {es : List Expr}

/-! ### garbage -/
mutual
def ren (ρ : Nat → Option Nat) : D → Option D
  | .non => some .non
  | .bl b => some (.bl b)
  | .int i => some (.int i)
  | .str x => some (.str x)
  | .ty n => some (.ty n)
  | .rng a b => some (.rng a b)
  | .tup ds => (rens ρ ds).map .tup
  | .kt ds => (rens ρ ds).map .kt
  | .ob n => (ρ n).map .ob
def rens (ρ : Nat → Option Nat) : List D → Option (List D)
  | [] => some []
  | d :: ds => (ren ρ d).bind fun e => (rens ρ ds).map fun es => e :: es
end
def renC (ρ : Nat → Option Nat) : Cell → Option Cell
  | .lst ds => (rens ρ ds).map .lst
  | .fro ds => (rens ρ ds).map .fro
  | .dK kds => (rens ρ (kds.map (·.2))).map fun es => .dK ((kds.map (·.1)).zip es)
  | .dT kds => (rens ρ (kds.map (·.2))).map fun es => .dT ((kds.map (·.1)).zip es)
  | .ins C fs => (rens ρ (fs.map (·.2))).map fun es => .ins C ((fs.map (·.1)).zip es)
mutual
theorem ren_ok {ρ : Nat → Option Nat} (h : ∀ n n' a, ρ n = some n' → am[n]? = some a → am'[n']? = some a) : ∀ (d d' : D) (v : V), ren ρ d = some d' → RepV K am H d v → RepV K am' H d' v
  | .non, _, _, e, r => by simp only [ren, Option.some.injEq] at e; subst e; simpa [RepV] using r
  | .bl _, _, _, e, r => by simp only [ren, Option.some.injEq] at e; subst e; simpa [RepV] using r
  | .int _, _, _, e, r => by simp only [ren, Option.some.injEq] at e; subst e; simpa [RepV] using r
  | .str _, _, _, e, r => by simp only [ren, Option.some.injEq] at e; subst e; simpa [RepV] using r
  | .ty _, _, _, e, r => by simp only [ren, Option.some.injEq] at e; subst e; simpa [RepV] using r
  | .rng _ _, _, _, e, r => by simp only [ren, Option.some.injEq] at e; subst e; simpa [RepV] using r
  | .tup ds, _, _, e, r => by
    simp only [ren, Option.map_eq_some_iff] at e
    obtain ⟨es, e1, e2⟩ := e
    subst e2
    simp only [RepV] at r ⊢
    obtain ⟨a, vs, ev, h1, h2⟩ := r
    exact ⟨a, vs, ev, h1, rens_ok h ds es vs e1 h2⟩
  | .kt ds, _, _, e, r => by
    simp only [ren, Option.map_eq_some_iff] at e
    obtain ⟨es, e1, e2⟩ := e
    subst e2
    simp only [RepV] at r ⊢
    obtain ⟨a, vs, ev, h1, h2⟩ := r
    exact ⟨a, vs, ev, h1, rens_ok h ds es vs e1 h2⟩
  | .ob n, _, _, e, r => by
    simp only [ren, Option.map_eq_some_iff] at e
    obtain ⟨m, e1, e2⟩ := e
    subst e2
    simp only [RepV] at r ⊢
    obtain ⟨a, h1, h2⟩ := r
    exact ⟨a, h n m a e1 h1, h2⟩
theorem rens_ok {ρ : Nat → Option Nat} (h : ∀ n n' a, ρ n = some n' → am[n]? = some a → am'[n']? = some a) : ∀ (ds ds' : List D) (vs : List V), rens ρ ds = some ds' → RepVs K am H ds vs → RepVs K am' H ds' vs
  | [], _, _, e, r => by simp only [rens, Option.some.injEq] at e; subst e; simpa [RepVs] using r
  | d :: ds, _, _, e, r => by
    simp only [rens, Option.bind_eq_some_iff, Option.map_eq_some_iff] at e
    obtain ⟨e1, h1, es, h2, e3⟩ := e
    subst e3
    simp only [RepVs] at r ⊢
    obtain ⟨v, vs, ev, r1, r2⟩ := r
    exact ⟨v, vs, ev, ren_ok h d e1 v h1 r1, rens_ok h ds es vs h2 r2⟩
end
theorem rens_len {ρ : Nat → Option Nat} : ∀ {ds ds' : List D}, rens ρ ds = some ds' → ds'.length = ds.length
  | [], _, e => by simp only [rens, Option.some.injEq] at e; subst e; rfl
  | d :: ds, _, e => by
    simp only [rens, Option.bind_eq_some_iff, Option.map_eq_some_iff] at e
    obtain ⟨e1, h1, es, h2, e3⟩ := e
    subst e3
    rw [List.length_cons, List.length_cons, rens_len h2]
theorem zip_fst {α β : Type} : ∀ {xs : List α} {ys : List β}, xs.length = ys.length → (xs.zip ys).map (·.1) = xs
  | [], [], _ => rfl
  | [], _ :: _, h => by simp at h
  | _ :: _, [], h => by simp at h
  | x :: xs, y :: ys, h => by
    rw [List.zip_cons_cons, List.map_cons, zip_fst (by simpa using h)]
theorem zip_snd {α β : Type} : ∀ {xs : List α} {ys : List β}, xs.length = ys.length → (xs.zip ys).map (·.2) = ys
  | [], [], _ => rfl
  | [], _ :: _, h => by simp at h
  | _ :: _, [], h => by simp at h
  | x :: xs, y :: ys, h => by
    rw [List.zip_cons_cons, List.map_cons, zip_snd (by simpa using h)]
theorem renC_ok {ρ : Nat → Option Nat} (h : ∀ n n' a, ρ n = some n' → am[n]? = some a → am'[n']? = some a) {c c' : Cell} {a : Addr} (e : renC ρ c = some c') (r : RepC K am H c a) : RepC K am' H c' a := by
  cases c with
  | lst ds =>
    simp only [renC, Option.map_eq_some_iff] at e
    obtain ⟨es, e1, e2⟩ := e
    subst e2
    obtain ⟨vs, h1, h2⟩ := r
    exact ⟨vs, h1, rens_ok h _ _ _ e1 h2⟩
  | fro ds =>
    simp only [renC, Option.map_eq_some_iff] at e
    obtain ⟨es, e1, e2⟩ := e
    subst e2
    obtain ⟨vs, h1, h2⟩ := r
    exact ⟨vs, h1, rens_ok h _ _ _ e1 h2⟩
  | dK kds =>
    simp only [renC, Option.map_eq_some_iff] at e
    obtain ⟨es, e1, e2⟩ := e
    subst e2
    obtain ⟨kvs, h1, h2, h3⟩ := r
    have hl : (kds.map (·.1)).length = es.length := by rw [rens_len e1, List.length_map, List.length_map]
    exact ⟨kvs, h1, by rw [zip_fst hl]; exact h2, by rw [zip_snd hl]; exact rens_ok h _ _ _ e1 h3⟩
  | dT kds =>
    simp only [renC, Option.map_eq_some_iff] at e
    obtain ⟨es, e1, e2⟩ := e
    subst e2
    obtain ⟨kvs, h1, h2, h3⟩ := r
    have hl : (kds.map (·.1)).length = es.length := by rw [rens_len e1, List.length_map, List.length_map]
    exact ⟨kvs, h1, by rw [zip_fst hl]; exact h2, by rw [zip_snd hl]; exact rens_ok h _ _ _ e1 h3⟩
  | ins C fs =>
    simp only [renC, Option.map_eq_some_iff] at e
    obtain ⟨es, e1, e2⟩ := e
    subst e2
    obtain ⟨dx, kvs, h1, h2, h3⟩ := r
    have hl : (fs.map (·.1)).length = es.length := by rw [rens_len e1, List.length_map, List.length_map]
    exact ⟨dx, kvs, h1, by rw [zip_fst hl]; exact h2, by rw [zip_snd hl]; exact rens_ok h _ _ _ e1 h3⟩
def ixJ (k : Nat) : List Nat → Option Nat
  | [] => none
  | j :: js => if j = k then some 0 else (ixJ k js).map (· + 1)
def rho (n : Nat) (js : List Nat) (k : Nat) : Option Nat := if k < n then some k else (ixJ k js).map (n + ·)
/-- the first n cells and those numbered js are kept, the others are forgotten -/
structure Gc (n : Nat) (js : List Nat) (d : D) (s : Sto) (d' : D) (s' : Sto) : Prop where
  n_le : n ≤ s.length
  ge : ∀ j ∈ js, n ≤ j
  nd : js.Nodup
  d_ : ren (rho n js) d = some d'
  len : s'.length = n + js.length
  lo : ∀ i c, i < n → s[i]? = some c → renC (rho n js) c = s'[i]?
  hi : ∀ i j, js[i]? = some j → ∃ c, s[j]? = some c ∧ renC (rho n js) c = s'[n + i]?
theorem ixJ_get {k : Nat} : ∀ {js : List Nat} {i : Nat}, ixJ k js = some i → js[i]? = some k
  | [], _, h => by simp [ixJ] at h
  | j :: js, i, h => by
    unfold ixJ at h
    split at h
    · rename_i e
      cases h
      rw [e]; rfl
    · simp only [Option.map_eq_some_iff] at h
      obtain ⟨m, h1, h2⟩ := h
      subst h2
      simpa using ixJ_get h1
theorem ixJ_of {k : Nat} : ∀ {js : List Nat} {i : Nat}, js.Nodup → js[i]? = some k → ixJ k js = some i
  | [], _, _, h => by simp at h
  | j :: js, 0, _, h => by
    simp at h
    subst h
    simp [ixJ]
  | j :: js, i + 1, nd, h => by
    have h2 : js[i]? = some k := by simpa using h
    have ne : j ≠ k := by
      rintro rfl
      exact (List.nodup_cons.mp nd).1 (List.mem_of_getElem? h2)
    unfold ixJ
    rw [if_neg ne, ixJ_of (List.nodup_cons.mp nd).2 h2]
    rfl
theorem nodup_map_in {α β : Type} {f : α → β} : ∀ {l : List α}, l.Nodup → (∀ a ∈ l, ∀ b ∈ l, f a = f b → a = b) → (l.map f).Nodup
  | [], _, _ => List.nodup_nil
  | a :: l, nd, h => by
    rw [List.map_cons, List.nodup_cons]
    rw [List.nodup_cons] at nd
    refine ⟨fun hm => ?_, nodup_map_in nd.2 fun x hx y hy => h x (List.mem_cons_of_mem _ hx) y (List.mem_cons_of_mem _ hy)⟩
    obtain ⟨b, hb, e⟩ := List.mem_map.mp hm
    have := h b (List.mem_cons_of_mem _ hb) a List.mem_cons_self e
    subst this
    exact nd.1 hb
theorem Gc.ok {am2 : List Addr} {H2 : Hp} {js : List Nat} {d d' : D} {s s' : Sto} {v : V} {st0 : Sto} (g : Gc am.length js d s d' s') (x : Ext am H am2 H2) (r : RepS K am2 H2 s) (rv : RepV K am2 H2 d v) :
    ∃ am', Ext am H am' H2 ∧ RepS K am' H2 s' ∧ RepV K am' H2 d' v := by
  obtain ⟨l, el⟩ := x.pre
  have hex : ∀ j ∈ js, ∃ a, am2[j]? = some a := fun j hj => by
    obtain ⟨i, hi⟩ := List.getElem?_of_mem hj
    obtain ⟨c, hc, _⟩ := g.hi i j hi
    obtain ⟨a, ha, _⟩ := r.at_ hc
    exact ⟨a, ha⟩
  let F : Nat → Addr := fun j => (am2[j]?).getD 0
  have hF : ∀ j a, am2[j]? = some a → F j = a := fun j a h => by simp only [F]; rw [h]; rfl
  have low : ∀ i, i < am.length → am2[i]? = am[i]? := fun i hi => by rw [el, List.getElem?_append_left hi]
  let am3 := am ++ js.map F
  have h3l : ∀ i, i < am.length → am3[i]? = am[i]? := fun i hi => by simp only [am3]; rw [List.getElem?_append_left hi]
  have h3h : ∀ i, am3[am.length + i]? = (js[i]?).map F := fun i => by
    simp only [am3]
    rw [List.getElem?_append_right (Nat.le_add_right _ _), Nat.add_sub_cancel_left, List.getElem?_map]
  have hρ : ∀ n n' a, rho am.length js n = some n' → am2[n]? = some a → am3[n']? = some a := fun n n' a e ha => by
    unfold rho at e
    split at e
    · rename_i hn
      cases e
      rw [h3l n hn, ← low n hn]; exact ha
    · simp only [Option.map_eq_some_iff] at e
      obtain ⟨i, e1, e2⟩ := e
      subst e2
      rw [h3h, ixJ_get e1, Option.map_some, hF n a ha]
  refine ⟨am3, ⟨⟨_, rfl⟩, fun a ha => ?_, x.fr, x.tup, x.frz, x.rng⟩, ⟨?_, ?_, fun i a c h1 h2 => ?_⟩, ren_ok hρ _ _ _ g.d_ rv⟩
  · rcases List.mem_append.mp ha with h1 | h1
    · exact .inl h1
    · obtain ⟨j, hj, e⟩ := List.mem_map.mp h1
      obtain ⟨b, hb⟩ := hex j hj
      rw [hF j b hb] at e
      subst e
      exact x.new _ (List.mem_of_getElem? hb)
  · simp only [am3]
    rw [List.length_append, List.length_map, g.len]
  · have nd2 := r.nd
    simp only [am3]
    rw [List.nodup_append]
    have nd1 : am.Nodup := by rw [el] at nd2; exact (List.nodup_append.mp nd2).1
    have at2 : ∀ {i j : Nat} {b : Addr}, am2[i]? = some b → am2[j]? = some b → i = j := fun {i j b} hi hj => by
      obtain ⟨l1, q1⟩ := List.getElem?_eq_some_iff.mp hi
      obtain ⟨l2, q2⟩ := List.getElem?_eq_some_iff.mp hj
      exact (List.getElem_inj nd2).mp (q1.trans q2.symm)
    refine ⟨nd1, ?_, fun a ha b hb e => ?_⟩
    · refine nodup_map_in g.nd fun i hi j hj e => ?_
      obtain ⟨a1, ha1⟩ := hex i hi
      obtain ⟨a2, ha2⟩ := hex j hj
      rw [hF _ _ ha1, hF _ _ ha2] at e
      subst e
      exact at2 ha1 ha2
    · subst e
      obtain ⟨j, hj, e⟩ := List.mem_map.mp hb
      obtain ⟨b, hb2⟩ := hex j hj
      rw [hF j b hb2] at e
      subst e
      obtain ⟨i, hi⟩ := List.getElem?_of_mem ha
      have hil : i < am.length := (List.getElem?_eq_some_iff.mp hi).1
      have := at2 (by rw [low i hil]; exact hi) hb2
      have := g.ge j hj
      omega
  · by_cases hi : i < am.length
    · rw [h3l i hi] at h1
      have hs : i < s.length := by have := g.n_le; omega
      have e1 := g.lo i s[i] hi (List.getElem?_eq_getElem hs)
      rw [h2] at e1
      exact renC_ok hρ e1 (r.cell i a _ (by rw [low i hi]; exact h1) (List.getElem?_eq_getElem hs))
    · obtain ⟨k, rfl⟩ : ∃ k, i = am.length + k := ⟨i - am.length, by omega⟩
      rw [h3h, Option.map_eq_some_iff] at h1
      obtain ⟨j, hj, e⟩ := h1
      obtain ⟨cc, hc, e1⟩ := g.hi k j hj
      rw [h2] at e1
      obtain ⟨b, hb, rb⟩ := r.at_ hc
      rw [hF j b hb] at e
      subst e
      exact renC_ok hρ e1 rb
/-! ### data that name only old cells -/
mutual
def okD (n : Nat) : D → Bool
  | .tup ds => okDs n ds
  | .kt ds => okDs n ds
  | .ob k => decide (k < n)
  | _ => true
def okDs (n : Nat) : List D → Bool
  | [] => true
  | d :: ds => okD n d && okDs n ds
end
def okC (n : Nat) : Cell → Bool
  | .lst ds => okDs n ds
  | .fro ds => okDs n ds
  | .dK kds => okDs n (kds.map (·.2))
  | .dT kds => okDs n (kds.map (·.2))
  | .ins _ fs => okDs n (fs.map (·.2))
def okS (n : Nat) (s : Sto) : Prop := ∀ c ∈ s, okC n c = true
def gcP (n : Nat) (P : D → Sto → Prop) : D → Sto → Prop := fun d s => okS s.length s → okD s.length d = true → ∃ js d' s', Gc n js d s d' s' ∧ P d' s'
mutual
theorem okD_of : ∀ (d : D) (v : V), RepV K am H d v → okD am.length d = true
  | .tup ds, _, r => by
    simp only [RepV] at r
    obtain ⟨a, vs, ev, h1, h2⟩ := r
    simpa [okD] using okDs_of ds vs h2
  | .kt ds, _, r => by
    simp only [RepV] at r
    obtain ⟨a, vs, ev, h1, h2⟩ := r
    simpa [okD] using okDs_of ds vs h2
  | .ob k, _, r => by
    simp only [RepV] at r
    obtain ⟨a, h1, h2⟩ := r
    simpa [okD] using (List.getElem?_eq_some_iff.mp h1).1
  | .non, _, _ => by simp [okD]
  | .bl _, _, _ => by simp [okD]
  | .int _, _, _ => by simp [okD]
  | .str _, _, _ => by simp [okD]
  | .rng _ _, _, _ => by simp [okD]
  | .ty _, _, _ => by simp [okD]
theorem okDs_of : ∀ (ds : List D) (vs : List V), RepVs K am H ds vs → okDs am.length ds = true
  | [], _, _ => by simp [okDs]
  | d :: ds, _, r => by
    simp only [RepVs] at r
    obtain ⟨v, vs, ev, r1, r2⟩ := r
    rw [okDs, okD_of d v r1, okDs_of ds vs r2]; rfl
end
theorem okC_of {c : Cell} {a : Addr} (r : RepC K am H c a) : okC am.length c = true := by
  cases c with
  | lst ds => obtain ⟨vs, e, r⟩ := r; exact okDs_of _ _ r
  | fro ds => obtain ⟨vs, e, r⟩ := r; exact okDs_of _ _ r
  | dK ds => obtain ⟨vs, e, _, r⟩ := r; exact okDs_of _ _ r
  | dT ds => obtain ⟨vs, e, _, r⟩ := r; exact okDs_of _ _ r
  | ins C ds => obtain ⟨dx, vs, e, _, r⟩ := r; exact okDs_of _ _ r
theorem RepS.ok (s : RepS K am H st) : okS st.length st := fun c hc => by
  obtain ⟨n, hn⟩ := List.getElem?_of_mem hc
  obtain ⟨a, _, r⟩ := s.at_ hn
  rw [← s.len]
  exact okC_of r
mutual
theorem ren_old {n : Nat} {js : List Nat} : ∀ d : D, okD n d = true → ren (rho n js) d = some d
  | .tup ds, h => by
    simp only [okD] at h
    simp [ren, rens_old ds h]
  | .kt ds, h => by
    simp only [okD] at h
    simp [ren, rens_old ds h]
  | .ob k, h => by
    simp only [okD, decide_eq_true_eq] at h
    simp [ren, rho, h]
  | .non, _ => by simp [ren]
  | .bl _, _ => by simp [ren]
  | .int _, _ => by simp [ren]
  | .str _, _ => by simp [ren]
  | .rng _ _, _ => by simp [ren]
  | .ty _, _ => by simp [ren]
theorem rens_old {n : Nat} {js : List Nat} : ∀ ds : List D, okDs n ds = true → rens (rho n js) ds = some ds
  | [], _ => by simp [rens]
  | d :: ds, h => by
    rw [okDs, Bool.and_eq_true] at h
    simp [rens, ren_old d h.1, rens_old ds h.2]
end
theorem zip_self {α β : Type} (l : List (α × β)) : (l.map (·.1)).zip (l.map (·.2)) = l := by
  induction l with
  | nil => rfl
  | cons a l ih => simp [ih]
theorem renC_old {n : Nat} {js : List Nat} {c : Cell} (h : okC n c = true) : renC (rho n js) c = some c := by
  cases c with
  | lst ds => simp only [okC] at h; simp [renC, rens_old _ h]
  | fro ds => simp only [okC] at h; simp [renC, rens_old _ h]
  | dK ds => simp only [okC] at h; simp [renC, rens_old _ h, zip_self]
  | dT ds => simp only [okC] at h; simp [renC, rens_old _ h, zip_self]
  | ins C ds => simp only [okC] at h; simp [renC, rens_old _ h, zip_self]
/-- all new cells are forgotten -/
theorem gc_drop {P : D → Sto → Prop} {n : Nat} {d : D} {s g : Sto} (hn : s.length = n) (hs : okS n s) (hd : okD n d = true) (h : P d s) : gcP n P d (s ++ g) := by
  subst hn
  intro _ _
  refine ⟨[], d, s, ⟨by rw [List.length_append]; omega, (fun j hj => (by cases hj)), List.nodup_nil, ren_old d hd, rfl, fun i c hi hc => ?_, fun i j h => by simp at h⟩, h⟩
  rw [List.getElem?_append_left hi] at hc
  rw [renC_old (hs c (List.mem_of_getElem? hc)), hc]
theorem gc_same {P : D → Sto → Prop} {n : Nat} {d : D} {s : Sto} (hn : s.length = n) (hs : okS n s) (hd : okD n d = true) (h : P d s) : gcP n P d s := by
  have := gc_drop (g := []) hn hs hd h
  rwa [List.append_nil] at this
/-- all is kept -/
theorem rho_all {n m k : Nat} (h : k < n + m) : rho n (List.range' n m) k = some k := by
  unfold rho
  split
  · rfl
  · rename_i q
    have : (List.range' n m)[k - n]? = some k := by
      rw [List.getElem?_range' (by omega)]
      simp; omega
    rw [ixJ_of List.nodup_range' this, Option.map_some]
    congr 1; omega
mutual
theorem ren_all {n m : Nat} : ∀ d : D, okD (n + m) d = true → ren (rho n (List.range' n m)) d = some d
  | .tup ds, h => by
    simp only [okD] at h
    simp [ren, rens_all ds h]
  | .kt ds, h => by
    simp only [okD] at h
    simp [ren, rens_all ds h]
  | .ob k, h => by
    simp only [okD, decide_eq_true_eq] at h
    simp [ren, rho_all h]
  | .non, _ => by simp [ren]
  | .bl _, _ => by simp [ren]
  | .int _, _ => by simp [ren]
  | .str _, _ => by simp [ren]
  | .rng _ _, _ => by simp [ren]
  | .ty _, _ => by simp [ren]
theorem rens_all {n m : Nat} : ∀ ds : List D, okDs (n + m) ds = true → rens (rho n (List.range' n m)) ds = some ds
  | [], _ => by simp [rens]
  | d :: ds, h => by
    rw [okDs, Bool.and_eq_true] at h
    simp [rens, ren_all d h.1, rens_all ds h.2]
end
theorem renC_all {n m : Nat} {c : Cell} (h : okC (n + m) c = true) : renC (rho n (List.range' n m)) c = some c := by
  cases c with
  | lst ds => simp only [okC] at h; simp [renC, rens_all _ h]
  | fro ds => simp only [okC] at h; simp [renC, rens_all _ h]
  | dK ds => simp only [okC] at h; simp [renC, rens_all _ h, zip_self]
  | dT ds => simp only [okC] at h; simp [renC, rens_all _ h, zip_self]
  | ins C ds => simp only [okC] at h; simp [renC, rens_all _ h, zip_self]
/-- the cells behind s, from k on, are forgotten: s ++ g are kept -/
theorem gc_all {P : D → Sto → Prop} {n : Nat} {d : D} {s : Sto} (hn : n ≤ s.length) (h : P d s) : gcP n P d s := by
  intro hs hd
  obtain ⟨m, hm⟩ : ∃ m, s.length = n + m := ⟨s.length - n, by omega⟩
  rw [hm] at hs hd
  refine ⟨List.range' n m, d, s, ⟨hn, fun j hj => ?_, List.nodup_range', ren_all d hd, by rw [hm, List.length_range'], fun i c hi hc => ?_, fun i j h => ?_⟩, h⟩
  · exact (List.mem_range'_1.mp hj).1
  · rw [renC_all (hs c (List.mem_of_getElem? hc)), hc]
  · have hi : i < m := by
      have := (List.getElem?_eq_some_iff.mp h).1
      rwa [List.length_range'] at this
    rw [List.getElem?_range' hi] at h
    cases h
    refine ⟨s[n + i]'(by omega), by simp, ?_⟩
    rw [renC_all (hs _ (List.getElem_mem _)), List.getElem?_eq_getElem (by omega)]
theorem gc_cut {P : D → Sto → Prop} {n : Nat} {d : D} {s z : Sto} (hn : n ≤ s.length) (hs : okS s.length s) (hd : okD s.length d = true) (h : P d s) : gcP n P d (s ++ z) := by
  obtain ⟨m, hm⟩ : ∃ m, s.length = n + m := ⟨s.length - n, by omega⟩
  rw [hm] at hs hd
  intro _ _
  refine ⟨List.range' n m, d, s, ⟨by rw [List.length_append]; omega, fun j hj => ?_, List.nodup_range', ren_all d hd, by rw [hm, List.length_range'], fun i c hi hc => ?_, fun i j h => ?_⟩, h⟩
  · exact (List.mem_range'_1.mp hj).1
  · rw [List.getElem?_append_left (by omega)] at hc
    rw [renC_all (hs c (List.mem_of_getElem? hc)), hc]
  · have hi : i < m := by
      have := (List.getElem?_eq_some_iff.mp h).1
      rwa [List.length_range'] at this
    rw [List.getElem?_range' hi] at h
    cases h
    refine ⟨s[n + i]'(by omega), by rw [List.getElem?_append_left (by omega)]; simp, ?_⟩
    rw [renC_all (hs _ (List.getElem_mem _)), List.getElem?_eq_getElem (by omega)]

/-! ### what a def promises -/
abbrev DSp := List D → Sto → (D → Sto → Prop) → Prop
def spD (K : PySem.W.Frag) (n : Nat) (f : DSp) : Sp := fun vs H Q _ => vs.length = n ∧ ∃ am st ds P, RepVs K am H ds vs ∧ RepS K am H st ∧ f ds st P ∧ ∀ am' H' v d st', Ext am H am' H' → RepS K am' H' st' → RepV K am' H' d v → P d st' → Q v H'
theorem spD_len {n : Nat} {f : DSp} (vs : List V) (H : Hp) (Q : VK) (E : XK) (h : spD K n f vs H Q E) : vs.length = n := h.1
/-- the slots at the entry -/
def startE (N : Nat) (ds : List D) : Env' := ds.map some ++ List.replicate (N - ds.length) none
theorem start_rep {N : List Str} {vs : List V} {ds : List D} (r : RepVs K am H ds vs) : RepN K am H (startE N.length ds) (L2.start N vs) := by
  have hl := r.length
  refine ⟨by unfold startE L2.start; rw [List.length_append, List.length_append, List.length_map, List.length_map, List.length_replicate, List.length_replicate, hl], fun i d h => ?_⟩
  unfold startE at h
  by_cases hi : i < ds.length
  · rw [List.getElem?_append_left (by rw [List.length_map]; exact hi), List.getElem?_map, Option.map_eq_some_iff] at h
    obtain ⟨d', h1, h2⟩ := h
    cases h2
    obtain ⟨v, hv, rv⟩ := r.get h1
    refine ⟨v, ?_, rv⟩
    unfold L2.start
    rw [List.getElem?_append_left (by rw [List.length_map]; omega), List.getElem?_map, hv]; rfl
  · rw [List.getElem?_append_right (by rw [List.length_map]; omega), List.getElem?_replicate] at h
    split at h <;> cases h
/-- the body keeps the promise -/
def Keeps (n N : Nat) (w : WS) (f : DSp) : Prop := ∀ ds st P, ds.length = n → okDs st.length ds = true → okS st.length st → f ds st P → w { nx := fun _ s => gcP st.length P .non s, rt := gcP st.length P } (startE N ds) st
theorem body_ok {n : Nat} {N : List Str} {w : WS} {f : DSp} (hw : Keeps n N.length w f) {vs : List V} {H : Hp} {Q : VK} {E : XK} (h : spD K n f vs H Q E) : tDs K w { nx := fun _ H' => Q .non H', rt := Q } (L2.start N vs) H := by
  obtain ⟨hl, am, st, ds, P, rv, rs, hf, k⟩ := h
  have fin : ∀ am' H' v d st', Ext am H am' H' → RepS K am' H' st' → RepV K am' H' d v → gcP st.length P d st' → Q v H' := fun am' H' v d st' x r rv gg => by
    obtain ⟨js, d', s', g, p⟩ := gg r.ok (by rw [← r.len]; exact okD_of _ _ rv)
    rw [← rs.len] at g
    obtain ⟨am3, x3, r3, rv3⟩ := g.ok (st0 := st) x r rv
    exact k am3 H' v d' s' x3 r3 rv3 p
  have o1 : okDs st.length ds = true := by rw [← rs.len]; exact okDs_of _ _ rv
  refine ⟨am, startE N.length ds, st, _, start_rep rv, rs, hw ds st P (by rw [rv.length, hl]) o1 rs.ok hf, ⟨fun am' H' env' σ' st' x _ r z => ?_, fun am' H' v d st' x r rv z => fin am' H' v d st' x r rv z, fun _ _ _ _ _ _ _ _ z => z.elim, fun _ _ _ _ _ _ _ _ z => z.elim⟩⟩
  exact fin am' H' .non .non st' x r rep_non z

/-! ### defs that may be called -/
structure DFn (P : Program) (w : World) (K : PySem.W.Frag) (mg : Str → Option Value) (base : Heap) (k : Nat) (f : Addr) (ps : List Str) (sp : DSp) : Prop where
  ex : ∃ fd, FnOk P w K mg base CX0 k f fd ps (spD K ps.length sp) ∧ Binds K fd ps [] ∧ ∀ n, n ≤ ps.length → KBn K fd ps n (ps.drop n) (fun us ws => us ++ ws) (fun vs zs => vs ++ zs)
theorem DFn.mono {P : Program} {w : World} {mg : Str → Option Value} {base : Heap} {j k : Nat} {f : Addr} {ps : List Str} {sp : DSp} (F : DFn P w K mg base j f ps sp) (h : j ≤ k) : DFn P w K mg base k f ps sp := by
  obtain ⟨fd, h1, h2, h3⟩ := F.ex
  exact ⟨fd, h1.mono h, h2, h3⟩
theorem dfn_of {P : Program} {w : World} {mg : Str → Option Value} {base : Heap} {k : Nat} {f : Addr} {fd : FuncData} {name qual : Str} {params : Arguments} {body : List Stmt} {scope : Scope} {N ps : List Str} {sp : DSp} {ww : WS}
    (F : FunD K name qual params body scope [] [] f fd) (S : FnScope N ps scope) (hw : Keeps ps.length N.length ww sp)
    (hb : ∀ (kV doc pm : Value) (an : Option Addr) (cdv ct : Value) (us ws : List Value) (n : Nat), n ≤ ps.length → us.length = n → ws.length = (ps.drop n).length → bindArgs (PySem.W.fnOf name qual params body scope .none kV doc pm an cdv ct) ⟨us, (ps.drop n).zip ws⟩ = pure (ps.zip (us ++ ws)))
    (der : ∀ (cdv : Value) (A : Around) (outer : List Env) (s : Shared) (H : Hp) (E : XK), Room k (A.deeper (envOfC qual scope s.heap.objs.size f cdv)) → PSs (cxOf CX0 P w K mg base N qual scope f cdv A outer s H E).nox body (tDs K ww)) :
    DFn P w K mg base (k + 1) f ps sp := by
  refine ⟨fd, F.ok S (fun vs H Q E h => h.1) (fun cdv A outer s H vs Q E hr h => ⟨tDs K ww, (der cdv A outer s H E hr).nox, body_ok hw h⟩), ?_, fun n hn => ?_⟩
  · refine F.bindsN fun kV doc pm an cdv ct us hl => ?_
    have := hb kV doc pm an cdv ct us [] ps.length (Nat.le_refl _) hl (by rw [List.drop_length]; rfl)
    rw [List.drop_length, List.append_nil] at this
    exact this
  · obtain ⟨oc, od, dV, kV, doc, pm, an, cdv, ct, osl, rfl, lk, hcd, hD, hK⟩ := F.ex
    rcases hD with ⟨_, rfl⟩ | ⟨e, _⟩
    · exact ⟨fun s us ws _ h1 h2 => .of_eq (hb kV doc pm an cdv ct us ws n hn h1 h2), fun r1 r2 => r1.append r2⟩
    · exact absurd rfl e
end Vd
set_option Elab.async false
set_option linter.all false
set_option maxRecDepth 100000
set_option maxHeartbeats 2000000
/-! Vd11: calls of defs, methods, classes, over data. -/
namespace Vd
open PySem PySem.Spec PyProof.Rows L2
variable {Hs : Hp} {X : Cx} {a b c e o tg : Expr} {f g h : WE} {pos p apos : Pos} {K : PySem.W.Frag} {am am' : List Addr} {H H' : Hp} {st : Sto} {d : D} {v : V} {x m : Str} {es : List Expr} {fa fk : WA} {k : Nat} {fn : Addr} {ps : List Str} {sp : DSp}

theorem toSp {am0 : List Addr} {H0 : Hp} {ds : List D} {vs : List V} {P : D → Sto → Prop} {Q : VK} {E : XK} (r : RepVs K am H ds vs) (s : RepS K am H st) (hl : ds.length = k) (q : sp ds st P) (x0 : Ext am0 H0 am H)
    (kk : ∀ am' H' v d st', Ext am0 H0 am' H' → RepS K am' H' st' → RepV K am' H' d v → P d st' → Q v H') : spD K k sp vs H Q E :=
  ⟨by rw [← r.length]; exact hl, am, st, ds, P, r, s, q, fun am' H' v d st' x => kk am' H' v d st' (x0.trans x)⟩

/-! ### f(..) -/
@[simp ↓] def wCall (n : Nat) (sp : DSp) (fa : WA) : WE := fun env st P => fa env st fun ds s1 => ds.length = n ∧ sp ds s1 P
theorem e_call (F : DFn X.prog X.w X.K X.mg X.base k fn ps sp) (hr : Room k X.A) (hg : Gl X x) (hm : X.mg x = some (.ref fn)) (hk : PySem.W.keepIn X.K (.ref fn) = true) (ha : PA X (e :: es) (tDa X.K fa))
    (hdb : (x == ("__debug__" : Str)) = false := by decide) (he : starEach (e :: es) X.env = (false, eval e X.env) :: starEach es X.env := by rfl) (hpl : (backTo pos (starEach es X.env)).any (·.1) = false := by rfl) :
    PE X (.Call (.Name x p) (e :: es) [] pos) (tD X.K (wCall ps.length sp fa)) := by
  obtain ⟨fd, F1, b, _⟩ := F.ex
  refine PE.imp (pe_call (E := E0) F1 hr hg hm hk b .nil pass0 ha hdb he hpl) fun σ H Q ⟨am, env, st, P, hn, hs, q, kk⟩ => ?_
  refine ⟨am, env, st, _, hn, hs, q, fun am1 H1 vs ds s1 x1 r1 rv z => ?_⟩
  show spD X.K ps.length sp (vs ++ []) H1 Q E0
  rw [List.append_nil]
  exact toSp rv r1 z.1 z.2 x1 kk
theorem e_call0 (F : DFn X.prog X.w X.K X.mg X.base k fn ps sp) (hr : Room k X.A) (hg : Gl X x) (hm : X.mg x = some (.ref fn)) (hk : PySem.W.keepIn X.K (.ref fn) = true) (hdb : (x == ("__debug__" : Str)) = false := by decide) :
    PE X (.Call (.Name x p) [] [] pos) (tD X.K (wCall ps.length sp waNil)) := by
  obtain ⟨fd, F1, b, _⟩ := F.ex
  refine PE.imp (pe_call0 (E := E0) F1 hr hg hm hk b .nil pass0 hdb) fun σ H Q ⟨am, env, st, P, hn, hs, q, kk⟩ => ?_
  exact toSp (E := E0) (ds := []) .nil hs q.1 q.2 Ext.refl kk

/-! ### keywords -/
theorem PK.imp {kws : List Keyword} {t t' : TA} (h : PK X kws t) (i : ∀ σ H Q, t' σ H Q → t σ H Q) : PK X kws t' := ⟨fun pos pins s σ H Q I q => h.run pos pins s σ H Q I (i σ H Q q)⟩
theorem k_nil : PK X [] (tDa X.K waNil) := PK.imp pk_nil fun σ H Q ⟨am, env, st, P, hn, hs, q, k⟩ => k am H [] [] st Ext.refl hs .nil q
theorem k_cons {kws : List Keyword} {nm : Option Str} {kpos : Pos} (ha : PE X e (tD X.K f)) (hr : PK X kws (tDa X.K fa)) : PK X (⟨nm, e, kpos⟩ :: kws) (tDa X.K (waCons f fa)) := PK.imp (pk_cons ha hr) fun σ H Q ⟨am, env, st, P, hn, hs, q, k⟩ =>
  ⟨am, env, st, _, hn, hs, q, fun am1 H1 v d s1 x1 r1 rv z => ⟨am1, env, s1, _, hn.ext x1, r1, z, fun am2 H2 vs ds s2 x2 r2 rvs z2 => k am2 H2 (v :: vs) (d :: ds) s2 (x1.trans x2) r2 (.cons (RepV.ext x2 _ _ rv) rvs) z2⟩⟩
/-- n positional, m by keywords -/
@[simp ↓] def wCallK (n m np : Nat) (sp : DSp) (fa fk : WA) : WE := fun env st P => fa env st fun ds s1 => fk env s1 fun zs s2 => ds.length = n ∧ zs.length = m ∧ n + m = np ∧ sp (ds ++ zs) s2 P
theorem e_callK {kws : List Keyword} {ks : List Str} {n : Nat} (F : DFn X.prog X.w X.K X.mg X.base k fn ps sp) (hr : Room k X.A) (hg : Gl X x) (hm : X.mg x = some (.ref fn)) (hk : PySem.W.keepIn X.K (.ref fn) = true) (hn : n ≤ ps.length) (hps : ps.drop n = ks)
    (ha : PA X (e :: es) (tDa X.K fa)) (hkw : PK X kws (tDa X.K fk)) (hall : (backToKw pos (keywordEach kws X.env)).all (·.1.isSome) = true := by rfl) (hks : (backToKw pos (keywordEach kws X.env)).filterMap (·.1) = ks := by rfl)
    (hdb : (x == ("__debug__" : Str)) = false := by decide) (he : starEach (e :: es) X.env = (false, eval e X.env) :: starEach es X.env := by rfl)
    (hpl : ((backTo pos (starEach (e :: es) X.env)).any (·.1) || (backToKw pos (keywordEach kws X.env)).any (·.1.isNone)) = false := by rfl) :
    PE X (.Call (.Name x p) (e :: es) kws pos) (tD X.K (wCallK n ks.length ps.length sp fa fk)) := by
  obtain ⟨fd, F1, _, b⟩ := F.ex
  have b := b n hn
  rw [hps] at b
  refine PE.imp (pe_callN (E := E0) F1 hr hg hm hk b pass0 ha hkw hall hks hdb he hpl) fun σ H Q ⟨am, env, st, P, hn, hs, q, kk⟩ => ?_
  refine ⟨am, env, st, _, hn, hs, q, fun am1 H1 vs ds s1 x1 r1 rv z => ⟨am1, env, s1, _, hn.ext x1, r1, z, fun am2 H2 ws zs s2 x2 r2 rw' z2 => ?_⟩⟩
  obtain ⟨l1, l2, l3, z2⟩ := z2
  exact ⟨by rw [← rv.length]; exact l1, by rw [← rw'.length]; exact l2, toSp ((RepVs.ext x2 _ _ rv).append rw') r2 (by rw [List.length_append, l1, l2, l3]) z2 (x1.trans x2) kk⟩
theorem e_callK0 {kws : List Keyword} (F : DFn X.prog X.w X.K X.mg X.base k fn ps sp) (hr : Room k X.A) (hg : Gl X x) (hm : X.mg x = some (.ref fn)) (hk : PySem.W.keepIn X.K (.ref fn) = true)
    (hkw : PK X kws (tDa X.K fk)) (hall : (backToKw pos (keywordEach kws X.env)).all (·.1.isSome) = true := by rfl) (hks : (backToKw pos (keywordEach kws X.env)).filterMap (·.1) = ps := by rfl)
    (hdb : (x == ("__debug__" : Str)) = false := by decide) (hpl : ((backTo pos (starEach [] X.env)).any (·.1) || (backToKw pos (keywordEach kws X.env)).any (·.1.isNone)) = false := by rfl) :
    PE X (.Call (.Name x p) [] kws pos) (tD X.K (wCallK 0 ps.length ps.length sp waNil fk)) := by
  obtain ⟨fd, F1, _, b⟩ := F.ex
  have b := b 0 (Nat.zero_le _)
  rw [List.drop_zero] at b
  refine ⟨fun pins s σ H Q I ⟨am, env, st, P, hn, hs, q, kk⟩ => ?_⟩
  refine wpAny_Call_Name_kw (ld_glob I hg hm ?_ hdb)
  refine PySem.W.callWith_KW0 (h₀ := X.base) I.ok.mod.kin hk hall ?_ hpl
  refine thn (hkw.run pos pins s σ H (fun ws H2 => ws.length = ps.length ∧ spD X.K ps.length sp ws H2 Q E0) I ⟨am, env, st, _, hn, hs, q, fun am1 H1 vs ds s1 x1 r1 rv z => ⟨by rw [← rv.length]; exact z.2.1, toSp rv r1 z.2.1 z.2.2.2 x1 kk⟩⟩) fun ws s2 ⟨zs, H2, I2, rz, l2, q2⟩ => ⟨I2.kIn, ?_⟩
  rw [hks]
  exact run_fnN (us := []) (vs := []) F1 hr b pass0 I2 .nil rz rfl l2 q2

/-! ### o.m(..) -/
def insOf (st : Sto) (C m : Str) : D → Prop
  | .ob n => ∃ fs, st[n]? = some (.ins C fs) ∧ fs.lookup m = none
  | _ => False
theorem lookup_none {fs : List (Str × D)} {fvs : List (Str × V)} (h : fvs.map (·.1) = fs.map (·.1)) (e : fs.lookup m = none) : fvs.lookup m = none := by
  induction fs generalizing fvs with
  | nil => cases fvs with
    | nil => rfl
    | cons _ _ => simp at h
  | cons q fs ih => cases fvs with
    | nil => simp at h
    | cons r fvs =>
      simp only [List.map_cons, List.cons.injEq] at h
      obtain ⟨h1, h2⟩ := h
      obtain ⟨q1, q2⟩ := q
      obtain ⟨r1, r2⟩ := r
      simp only at h1
      subst h1
      rw [List.lookup_cons] at e ⊢
      cases z : m == r1 with
      | true => rw [z] at e; cases e
      | false =>
        rw [z] at e
        exact ih h2 e
theorem insOf_ok {C : Str} (s : RepS K am H st) (r : RepV K am H d v) (h : insOf st C m d) : ∃ a dx fs, v = .ref a ∧ H a = some (.ins (He.ga K C) dx fs) ∧ fs.lookup m = none := by
  unfold insOf at h
  split at h
  · obtain ⟨fs, h1, h2⟩ := h
    simp only [RepV] at r
    obtain ⟨a, ha, e⟩ := r
    obtain ⟨dx, fvs, h3, h4, _⟩ := s.cell _ a _ ha h1
    exact ⟨a, dx, fvs, e, h3, lookup_none h4 h2⟩
  · exact h.elim
@[simp ↓] def wMeth (C m : Str) (n : Nat) (sp : DSp) (fo : WE) (fa : WA) : WE := fun env st P => fo env st fun x s1 => insOf s1 C m x ∧ fa env s1 fun ds s2 => ds.length + 1 = n ∧ sp (x :: ds) s2 P
theorem e_meth {pl : Sem Bool} {C : Str} (he : PE X o (tD X.K f)) (c : Cls X.K (He.ga X.K C)) (hm : Meth X.K (He.ga X.K C) m fn) (F : DFn X.prog X.w X.K X.mg X.base k fn ps sp) (hr : Room k X.A) (ha : PA X (e :: es) (tDa X.K fa))
    (hst : starEach (e :: es) X.env = (false, eval e X.env) :: starEach es X.env := by rfl) (hpl : (backTo pos (starEach es X.env)).any (·.1) = false := by rfl)
    (ht : eval (.Call (.Attribute o m apos) (e :: es) [] pos) X.env = (do
      let ov ← eval o X.env
      standAt apos.atName
      let (f, first) ← holding [ov] (getMethod ov m pl)
      callWith pos f first (backTo pos (starEach (e :: es) X.env)) (backToKw pos (keywordEach [] X.env))) := by rfl) :
    PE X (.Call (.Attribute o m apos) (e :: es) [] pos) (tD X.K (wMeth C m ps.length sp f fa)) := by
  obtain ⟨fd, F1, b, _⟩ := F.ex
  refine PE.imp (pe_meth (pl := pl) (E := E0) he c hm F1 hr b .nil pass0 ha hst hpl ht) fun σ H Q ⟨am, env, st, P, hn, hs, q, kk⟩ => ?_
  refine ⟨am, env, st, _, hn, hs, q, fun am1 H1 vx x s1 x1 r1 rx z => ?_⟩
  obtain ⟨a, dx, fs, e1, e2, e3⟩ := insOf_ok r1 rx z.1
  refine ⟨a, dx, fs, e1, e2, e3, am1, env, s1, _, hn.ext x1, r1, z.2, fun am2 H2 vs ds s2 x2 r2 rv z2 => ?_⟩
  show spD X.K ps.length sp (vx :: (vs ++ [])) H2 Q E0
  rw [List.append_nil]
  exact toSp (.cons (RepV.ext x2 _ _ rx) rv) r2 z2.1 z2.2 (x1.trans x2) kk
theorem e_meth0 {pl : Sem Bool} {C : Str} (he : PE X o (tD X.K f)) (c : Cls X.K (He.ga X.K C)) (hm : Meth X.K (He.ga X.K C) m fn) (F : DFn X.prog X.w X.K X.mg X.base k fn ps sp) (hr : Room k X.A)
    (ht : eval (.Call (.Attribute o m apos) [] [] pos) X.env = (do
      let ov ← eval o X.env
      standAt apos.atName
      let (f, first) ← holding [ov] (getMethod ov m pl)
      callWith pos f first (backTo pos (starEach [] X.env)) (backToKw pos (keywordEach [] X.env))) := by rfl) :
    PE X (.Call (.Attribute o m apos) [] [] pos) (tD X.K (wMeth C m ps.length sp f waNil)) := by
  obtain ⟨fd, F1, b, _⟩ := F.ex
  refine PE.imp (pe_meth0 (pl := pl) (E := E0) he c hm F1 hr b .nil pass0 ht) fun σ H Q ⟨am, env, st, P, hn, hs, q, kk⟩ => ?_
  refine ⟨am, env, st, _, hn, hs, q, fun am1 H1 vx x s1 x1 r1 rx z => ?_⟩
  obtain ⟨a, dx, fs, e1, e2, e3⟩ := insOf_ok r1 rx z.1
  exact ⟨a, dx, fs, e1, e2, e3, toSp (E := E0) (.cons rx .nil) r1 z.2.1 z.2.2 x1 kk⟩
/-- o.m(k = v, ..) -/
theorem e_methK0 {pl : Sem Bool} {C : Str} {kws : List Keyword} {p0 : Str} {ks : List Str} (he : PE X o (tD X.K f)) (c : Cls X.K (He.ga X.K C)) (hm : Meth X.K (He.ga X.K C) m fn) (F : DFn X.prog X.w X.K X.mg X.base k fn (p0 :: ks) sp) (hr : Room k X.A) (hkw : PK X kws (tDa X.K fk))
    (hall : (backToKw pos (keywordEach kws X.env)).all (·.1.isSome) = true := by rfl) (hks : (backToKw pos (keywordEach kws X.env)).filterMap (·.1) = ks := by rfl)
    (hpl : ((backTo pos (starEach [] X.env)).any (·.1) || (backToKw pos (keywordEach kws X.env)).any (·.1.isNone)) = false := by rfl)
    (ht : eval (.Call (.Attribute o m apos) [] kws pos) X.env = (do
      let ov ← eval o X.env
      standAt apos.atName
      let (f, first) ← holding [ov] (getMethod ov m pl)
      callWith pos f first (backTo pos (starEach [] X.env)) (backToKw pos (keywordEach kws X.env))) := by rfl) :
    PE X (.Call (.Attribute o m apos) [] kws pos) (tD X.K (wMeth C m (ks.length + 1) sp f fk)) := by
  obtain ⟨fd, F1, _, b⟩ := F.ex
  have b := b 1 (Nat.succ_le_succ (Nat.zero_le _))
  refine ⟨fun pins s σ H Q I ⟨am, env, st, P, hn, hs, q, kk⟩ => ?_⟩
  refine PySem.W.methodCall_KW (pl := pl) (thn (he.run pins s σ H (fun vx H1 => ∃ am1 x s1, Ext am H am1 H1 ∧ RepS X.K am1 H1 s1 ∧ RepV X.K am1 H1 x vx ∧ insOf s1 C m x ∧ fk env s1 fun ds s2 => ds.length + 1 = ks.length + 1 ∧ sp (x :: ds) s2 P) I
    ⟨am, env, st, _, hn, hs, q, fun am1 H1 vx x s1 x1 r1 rx z => ⟨am1, x, s1, x1, r1, rx, z.1, z.2⟩⟩) fun u s1 ⟨vx, H1, I1, rv, am1, x, st1, x1, r1, rx, z1, z2⟩ => ?_) ht
  obtain ⟨a, dx, fs, e1, e2, e3⟩ := insOf_ok r1 rx z1
  subst e1
  obtain rfl : u = Value.ref a := rv
  refine getmeth_ok I1 e2 c hm e3 ?_
  refine PySem.W.callWith_KW0 (first := [.ref a]) (h₀ := X.base) I.ok.mod.kin hm.kp hall ?_ hpl
  refine thn (hkw.run pos pins s1 σ H1 (fun ws H2 => ws.length = ks.length ∧ spD X.K (p0 :: ks).length sp (.ref a :: ws) H2 Q E0) I1 ⟨am1, env, st1, _, hn.ext x1, r1, z2, fun am2 H2 vs ds s2 x2 r2 rv z =>
    ⟨by rw [← rv.length]; exact Nat.succ.inj z.1, toSp (.cons (RepV.ext x2 _ _ rx) rv) r2 z.1 z.2 (x1.trans x2) kk⟩⟩) fun ws s2 ⟨zs, H2, I2, rz, l2, q2⟩ => ⟨I2.kIn, ?_⟩
  rw [hks]
  exact run_fnN (us := [.ref a]) (vs := [.ref a]) F1 hr b pass0 I2 (.cons rfl .nil) rz rfl l2 q2

/-! ### C(..) -/
@[simp ↓] def wMake (C : Str) (n : Nat) (sp : DSp) (fa : WA) : WE := fun env st P => fa env st fun ds s1 => ds.length + 1 = n ∧ sp (.ob s1.length :: ds) (s1 ++ [.ins C []]) fun d s2 => d = .non ∧ P (.ob s1.length) s2
theorem toMake {C : Str} {ds : List D} {vs : List V} {am0 : List Addr} {H0 : Hp} {P : D → Sto → Prop} {Q : VK} {E : XK} {n : Nat} (rv : RepVs K am H ds vs) (r : RepS K am H st) (x0 : Ext am0 H0 am H) (hl : ds.length + 1 = n)
    (q : sp (.ob st.length :: ds) (st ++ [.ins C []]) fun d s2 => d = .non ∧ P (.ob st.length) s2) (kk : ∀ am' H' v d st', Ext am0 H0 am' H' → RepS K am' H' st' → RepV K am' H' d v → P d st' → Q v H') (y dx : Addr) (h1 : H y = none) (h2 : H dx = none) (ne : dx ≠ y) :
    spD K n sp (.ref y :: vs) (upd (upd H dx (.own y)) y (.ins (He.ga K C) dx [])) (fun v H2 => v = .non ∧ Q (.ref y) H2) E := by
  have x1 : Ext am H am (upd H dx (.own y)) := Ext.fresh h2
  have r1 : RepS K am (upd H dx (.own y)) st := r.fresh h2
  have h3 : upd H dx (.own y) y = none := by rw [upd_ne (Ne.symm ne)]; exact h1
  have x2 : Ext am (upd H dx (.own y)) (am ++ [y]) (upd (upd H dx (.own y)) y (.ins (He.ga K C) dx [])) := Ext.alloc h3
  have r2 : RepS K (am ++ [y]) (upd (upd H dx (.own y)) y (.ins (He.ga K C) dx [])) (st ++ [.ins C []]) := r1.alloc h3 ⟨dx, [], upd_same, rfl, .nil⟩
  have rn : RepV K (am ++ [y]) (upd (upd H dx (.own y)) y (.ins (He.ga K C) dx [])) (.ob st.length) (.ref y) := by
    have z := rep_ob_new (p := y) r1
    simp only [RepV] at z ⊢
    exact z
  refine toSp (am0 := am ++ [y]) (.cons rn (RepVs.ext (x1.trans x2) _ _ rv)) r2 hl q Ext.refl fun am' H' v d st' x3 r3 rv3 ⟨ed, p⟩ => ?_
  subst ed
  simp only [RepV] at rv3
  exact ⟨rv3, kk am' H' _ _ st' (x0.trans ((x1.trans x2).trans x3)) r3 (RepV.ext x3 _ _ rn) p⟩
theorem e_make {C : Str} (M : Mk X.K (He.ga X.K C) fn) (F : DFn X.prog X.w X.K X.mg X.base k fn ps sp) (hr : Room (k + 1) X.A) (hg : Gl X C) (hm : X.mg C = some (.ref (He.ga X.K C))) (ha : PA X (e :: es) (tDa X.K fa))
    (hdb : (C == ("__debug__" : Str)) = false := by decide) (he : starEach (e :: es) X.env = (false, eval e X.env) :: starEach es X.env := by rfl) (hpl : (backTo pos (starEach es X.env)).any (·.1) = false := by rfl) :
    PE X (.Call (.Name C p) (e :: es) [] pos) (tD X.K (wMake C ps.length sp fa)) := by
  obtain ⟨fd, F1, b, _⟩ := F.ex
  refine PE.imp (pe_make (E := E0) M F1 hr hg hm b .nil pass0 ha hdb he hpl) fun σ H Q ⟨am, env, st, P, hn, hs, q, kk⟩ => ?_
  refine ⟨am, env, st, _, hn, hs, q, fun am1 H1 vs ds s1 x1 r1 rv z y dx h1 h2 ne => ?_⟩
  rw [List.append_nil]
  exact toMake rv r1 x1 z.1 z.2 kk y dx h1 h2 ne
theorem e_makeK0 {C : Str} {kws : List Keyword} {p0 : Str} {ks : List Str} (M : Mk X.K (He.ga X.K C) fn) (F : DFn X.prog X.w X.K X.mg X.base k fn (p0 :: ks) sp) (hr : Room (k + 1) X.A) (hg : Gl X C) (hm : X.mg C = some (.ref (He.ga X.K C))) (hkw : PK X kws (tDa X.K fk))
    (hall : (backToKw pos (keywordEach kws X.env)).all (·.1.isSome) = true := by rfl) (hks : (backToKw pos (keywordEach kws X.env)).filterMap (·.1) = ks := by rfl) (hdb : (C == ("__debug__" : Str)) = false := by decide)
    (hpl : ((backTo pos (starEach [] X.env)).any (·.1) || (backToKw pos (keywordEach kws X.env)).any (·.1.isNone)) = false := by rfl) :
    PE X (.Call (.Name C p) [] kws pos) (tD X.K (wMake C (ks.length + 1) sp fk)) := by
  obtain ⟨fd, F1, _, b⟩ := F.ex
  have b := b 1 (Nat.succ_le_succ (Nat.zero_le _))
  refine PE.imp (pe_makeK0 (E := E0) M F1 hr hg hm b pass0 hkw hall hks hdb hpl) fun σ H Q ⟨am, env, st, P, hn, hs, q, kk⟩ => ?_
  refine ⟨am, env, st, _, hn, hs, q, fun am1 H1 vs ds s1 x1 r1 rv z => ⟨rfl, by rw [← rv.length]; exact Nat.succ.inj z.1, fun y dx h1 h2 ne => ?_⟩⟩
  exact toMake rv r1 x1 z.1 z.2 kk y dx h1 h2 ne
end Vd
set_option Elab.async false
set_option linter.all false
set_option maxRecDepth 100000
set_option maxHeartbeats 2000000
/-! Vd12: unpacking of lists; the least, the sorted of data; the module's constants. -/
namespace Vd
open PySem PySem.Spec PyProof.Rows L2
variable {Hs : Hp} {X : Cx} {a b c e o tg : Expr} {f g h : WE} {pos p apos : Pos} {K : PySem.W.Frag} {am am' : List Addr} {H H' : Hp} {st : Sto} {d : D} {v : V} {x m : Str} {es : List Expr} {fa fk : WA} {k : Nat} {fn : Addr} {ps : List Str} {sp : DSp}

/-! ### a, b, .. = a tuple or a list -/
@[simp ↓] def wgSeq (n : Nat) (u : WGs) : WG := fun d env st P => seqAt st d fun xs => xs.length = n ∧ u xs env st P
theorem PG.or {t t' : TG} (h : PG X tg t) (h' : PG X tg t') : PG X tg (fun v σ H Q => t v σ H Q ∨ t' v σ H Q) := ⟨fun pins s σ H v u Q I r q => q.elim (h.run pins s σ H v u Q I r) (h'.run pins s σ H v u Q I r)⟩
theorem g_seq {es : List Expr} {k0 : Nat} {is : List Nat} {u : WGs} {n : Nat} (hc : X.calm = true) (h : PGs X es (tDgs X.K is u)) (hn : (assignEach es X.env).length = n := by rfl) (hst : (assignEach es X.env).findIdx? (·.1) = none := by rfl) :
    PG X (.Tuple es k0 pos) (tDg X.K is (wgSeq n u)) := PG.imp (PG.or (pg_tup hc h hn hst) (pg_unl hc h hn hst)) fun v σ H Q ⟨am, env, st, d, P, hn, hs, hr, q, k⟩ => by
  obtain ⟨p, vs, ds, ev, hq, rv, hl, z⟩ := seqAt_ok hs hr q
  rcases hq with hq | hq
  · exact .inr ⟨p, vs, ev, hq, by rw [← rv.length]; exact hl, am, env, st, ds, P, hn, hs, rv, z, k⟩
  · exact .inl ⟨p, vs, ev, hq, by rw [← rv.length]; exact hl, am, env, st, ds, P, hn, hs, rv, z, k⟩

/-! ### min of a list of data -/
theorem canLay_mem : ∀ {xs : List PyData} {x : PyData}, PyData.canLayAll0 xs = true → x ∈ xs → x.canLay0 = true
  | y :: ys, x, h, hx => by
    rw [PyData.canLayAll0, Bool.and_eq_true] at h
    rcases List.mem_cons.mp hx with e | e
    · rw [e]; exact h.1
    · exact canLay_mem h.2 e
theorem minD_mem : ∀ (p : PyData) (ps : List PyData), PySem.W.minD p ps ∈ p :: ps
  | p, [] => List.mem_cons_self
  | p, q :: ps => by
    show PySem.W.minD (if PySem.W.dataLt q p then q else p) ps ∈ _
    have := minD_mem (if PySem.W.dataLt q p then q else p) ps
    rcases List.mem_cons.mp this with e | e
    · rw [e]
      split
      · simp
      · simp
    · simp [e]
theorem RepVs.get' : ∀ {ds : List D} {vs : List V} {i : Nat} {v : V}, RepVs K am H ds vs → vs[i]? = some v → ∃ d, ds[i]? = some d ∧ RepV K am H d v
  | [], _, _, _, h, e => by unfold RepVs at h; rw [h] at e; simp at e
  | d :: ds, vs, 0, d', h, e => by
    unfold RepVs at h
    obtain ⟨v, r, ev, h1, _⟩ := h
    rw [ev] at e
    simp at e; subst e
    exact ⟨d, rfl, h1⟩
  | d :: ds, vs, i + 1, d', h, e => by
    unfold RepVs at h
    obtain ⟨v, r, ev, _, h2⟩ := h
    rw [ev] at e
    obtain ⟨w, q, hw⟩ := RepVs.get' (i := i) h2 (by simpa using e)
    exact ⟨w, by simpa using q, hw⟩
theorem toPys_at : ∀ {ds : List D} {ps : List PyData} {i : Nat} {d : D} {p : PyData}, toPys ds = some ps → ds[i]? = some d → ps[i]? = some p → toPy d = some p
  | [], _, _, _, _, _, e, _ => by simp at e
  | d :: ds, ps, i, d', p', h, e1, e2 => by
    simp only [toPys, Option.bind_eq_some_iff, Option.map_eq_some_iff] at h
    obtain ⟨q, h1, qs, h2, h3⟩ := h
    subst h3
    cases i with
    | zero => simp at e1 e2; subst e1 e2; exact h1
    | succ i => exact toPys_at h2 (by simpa using e1) (by simpa using e2)
def MinOk (ps : List PyData) : Prop := PySem.W.AlikeAll ps ∧ PyData.depthAll ps ≤ 32 ∧ PyData.canLayAll0 ps = true
def wMinD (f : WA) : WE := fun env st P => f env st fun ds s1 => ∃ p ps, toPys ds = some (p :: ps) ∧ MinOk (p :: ps) ∧ ∀ d ∈ ds, toPy d = some (PySem.W.minD p ps) → P d s1
def rMinD (X : Cx) : List V → Hp → VK → Prop := fun vs H Q => ∃ (q : Addr) (xs : List V) (p : PyData) (ps : List PyData), vs = [.ref q] ∧ SqL X.K H q xs ∧ DpAll X.K H xs (p :: ps) ∧ MinOk (p :: ps) ∧ ∀ (i : Nat) v, xs[i]? = some v → (p :: ps)[i]? = some (PySem.W.minD p ps) → Q v H
theorem cr_minD (hc : X.calm = true) (hu : ∃ k, Room k X.A) : CallR X (.builtin "min") (rMinD X) := by
  intro pins s σ H vs us Q I r ⟨q, xs, p, ps, ev, hq, hd, ho, k⟩
  subst ev
  obtain ⟨its, rv, hl, hz⟩ := I.list hq
  rw [Vals.ref1 r]
  obtain ⟨as, hr⟩ := Dp.readsAll I (p :: ps) xs its hd rv
  refine PySem.W.min_list_data (I.ok.hd hc) hl.isList (by simpa using hr) ho.1 (by have := hu64 hu; have := ho.2.1; omega) fun i v h' tk bs hv hb hk => ?_
  have hv' : its[i]? = some v := by rw [← Array.getElem?_toList] at hv; simpa using hv
  obtain ⟨xv, hx, rx⟩ : ∃ w, xs[i]? = some w ∧ RelV w v := by
    have hi : i < xs.length := by rw [rv.length]; exact (List.getElem?_eq_some_iff.mp hv').1
    obtain ⟨u, hu', ru⟩ := rv.get (List.getElem?_eq_getElem hi)
    rw [hv'] at hu'
    cases hu'
    exact ⟨_, List.getElem?_eq_getElem hi, ru⟩
  have hlay := ho.2.2
  have lay : ∀ x ∈ p :: ps, x.canLay0 = true := fun _ => canLay_mem hlay
  obtain ⟨bs2, r2, hi, hm, _⟩ := PySem.W.readsAll_at hr i v hv'
  have e1 := PySem.SeqAt.readOf_eq (lay _ hm) (PyProof.Rows.Reads.keeps hk r2)
  have e2 := PySem.SeqAt.readOf_eq (lay _ (minD_mem p ps)) hb
  have e3 : (p :: ps).getD i .none = PySem.W.minD p ps := e1.symm.trans e2
  refine ⟨xv, H, I.kept (t' := tk) hk, rx, k i xv hx ?_⟩
  rw [← e3, List.getD_eq_getElem?_getD, List.getElem?_eq_getElem hi]
  rfl
theorem e_minD {f : WA} (hc : X.calm = true) (hu : ∃ k, Room k X.A) (hg : Gl X "min") (hm : X.mg "min" = none) (he : PE X e (tDl X.K f)) (hs : starEach [e] X.env = (false, eval e X.env) :: starEach [] X.env := by rfl) : PE X (.Call (.Name "min" p) [e] [] pos) (tD X.K (wMinD f)) :=
  PE.imp (pe_callB (cr_minD hc hu) hg hm boot_min (pa_one he hs) (by decide) (by decide) hs) fun σ H Q ⟨am, env, st, P, hn, hs, q, k⟩ => by
    refine ⟨am, env, st, _, hn, hs, q, fun am1 H1 l vs ds s1 x1 r1 hq rv ⟨p, ps, hp, ho, z⟩ => ⟨l, vs, p, ps, rfl, hq, toPys_ok _ _ _ hp rv, ho, fun i v hv hi => ?_⟩⟩
    obtain ⟨d, hd, rd⟩ := rv.get' hv
    exact k am1 H1 v d s1 x1 r1 rd (z d (List.mem_of_getElem? hd) (toPys_at hp hd hi))

/-! ### sorted(xs) of alike data -/
def SortOk (ps : List PyData) : Prop := PySem.W.AllAlike ps ∧ PySem.W.Sortable ps ∧ (∀ p ∈ ps, p.depth ≤ 32) ∧ ps.length ≤ 100000
def toP (d : D) : PyData := (toPy d).getD .none
theorem toPys_map : ∀ {ds : List D} {ps : List PyData}, toPys ds = some ps → ps = ds.map toP ∧ ∀ d ∈ ds, toPy d = some (toP d)
  | [], ps, h => by simp [toPys] at h; subst h; simp
  | d :: ds, ps, h => by
    simp only [toPys, Option.bind_eq_some_iff, Option.map_eq_some_iff] at h
    obtain ⟨q, h1, qs, h2, h3⟩ := h
    subst h3
    obtain ⟨e, i⟩ := toPys_map h2
    have eq : toP d = q := by unfold toP; rw [h1]; rfl
    refine ⟨by rw [List.map_cons, eq, ← e], fun x hx => ?_⟩
    rcases List.mem_cons.mp hx with z | z
    · rw [z, h1, eq]
    · exact i x z
abbrev leP : D → D → Bool := PySem.W.dataLe false toP
def wSortD (f : WA) : WA := fun env st P => f env st fun ds s1 => (∃ ps, toPys ds = some ps ∧ SortOk ps) ∧ P (ds.mergeSort leP) s1
def rSortD (X : Cx) : List V → Hp → VK → Prop := fun vs H Q => ∃ (p : Addr) (xs : List V) (am : List Addr) (ds : List D) (ps : List PyData), vs = [.ref p] ∧ SqL X.K H p xs ∧ RepVs X.K am H ds xs ∧ toPys ds = some ps ∧ SortOk ps ∧
  ∀ (ws : List V) (l : Addr), RepVs X.K am H (ds.mergeSort leP) ws → H l = none → Q (.ref l) (upd H l (.lst ws))
theorem each_of {R : Value → D → Prop} : ∀ {us : List Value} {ds : List D}, Paired (fun d u => R u d) ds us → PySem.W.EachIs R us ds
  | _, _, .nil => .nil
  | _, _, .cons h t => .cons h (each_of t)
theorem of_each {R : Value → D → Prop} : ∀ {us : List Value} {ds : List D}, PySem.W.EachIs R us ds → Paired (fun d u => R u d) ds us
  | _, _, .nil => .nil
  | _, _, .cons h t => .cons h (of_each t)
theorem paired_in {α β : Type} {R : α → β → Prop} {ds : List α} {us : List β} (h : Paired R ds us) : ∀ {es : List α}, (∀ d ∈ ds, d ∈ es) → Paired (fun d u => R d u ∧ d ∈ es) ds us := by
  induction h with
  | nil => intro _ _; exact .nil
  | cons r t ih => intro es k; exact .cons ⟨r, k _ List.mem_cons_self⟩ (ih fun d hd => k d (List.mem_cons_of_mem _ hd))
theorem paired_mono {α β : Type} {R S : α → β → Prop} (i : ∀ a b, R a b → S a b) {ds : List α} {us : List β} (h : Paired R ds us) : Paired S ds us := by
  induction h with
  | nil => exact .nil
  | cons r t ih => exact .cons (i _ _ r) ih
theorem cr_sortD (hu : ∃ k, Room k X.A) : CallR X (.builtin "sorted") (rSortD X) := by
  intro pins s σ H vs us Q I r ⟨p, xs, am, ds, ps, ev, hq, hr, hp, ho, q⟩
  subst ev
  cases r with
  | cons r1 r2 =>
    cases r2
    obtain rfl := (show _ = Value.ref p from r1)
    obtain ⟨its, rv, pl, hz⟩ := I.list hq
    have pr := paired_of hr rv
    obtain ⟨em, ed⟩ := toPys_map hp
    subst em
    have er : Paired (fun d u => ∃ as, Reads s.heap u (toP d) as) ds its := paired_mono (fun d u ⟨⟨v, ra, rb⟩, hd⟩ => Dp.reads I (toP d) v u (toPy_ok d _ v (ed d hd) ra) rb) (paired_in pr fun d hd => hd)
    refine PySem.W.sorted_data (bs := ds) (enc := toP) (R := fun u d => ∃ v, RepV X.K am H d v ∧ RelV v u) pl.isList (each_of pr) (each_of er) ho.1 ho.2.1 (by have := ho.2.2.2; rw [List.length_map] at this; exact big _ this) (fun b hb => ?_) fun out hl he => ?_
    · have h1 := ho.2.2.1 (toP b) (List.mem_map_of_mem hb)
      have := hu64 hu
      omega
    · obtain ⟨ws, w1, w2⟩ := of_paired (of_each he)
      obtain ⟨n, hn⟩ := sortedAll_at s.heap its out.toArray
      have hlen : ws.length ≤ sizeLine := by
        rw [← w1.length, List.length_mergeSort, hr.length]; exact hz
      exact ⟨.ref _, upd H _ (.lst ws), I.laid (t' := s.toks) (fun b o e => sortedAll_old e) (Nat.le_succ _) ⟨hlen, out, n, w2, hn⟩, rfl, q ws _ w1 (I.hok.fresh (Nat.le_succ _))⟩
theorem e_sortD {f : WA} (hu : ∃ k, Room k X.A) (hg : Gl X "sorted") (hm : X.mg "sorted" = none) (he : PE X e (tDl X.K f)) (hs : starEach [e] X.env = (false, eval e X.env) :: starEach [] X.env := by rfl) : PE X (.Call (.Name "sorted" p) [e] [] pos) (tDt X.K (wSortD f)) :=
  PE.imp (pe_callB (cr_sortD hu) hg hm boot_sorted (pa_one he hs) (by decide) (by decide) hs) fun σ H Q ⟨am, env, st, P, hn, hs, q, k⟩ =>
    ⟨am, env, st, _, hn, hs, q, fun am' H' p vs ds st' x s h1 r z => by
      obtain ⟨⟨ps, hp, ho⟩, z⟩ := z
      exact ⟨p, vs, am', ds, ps, rfl, h1, r, hp, ho, fun ws l rw' hl =>
        k am' _ l ws _ st' (x.trans (Ext.fresh hl)) (s.fresh hl) (back_none x s hl) upd_same (fun z => s.notNone z hl) (RepVs.ext (Ext.fresh hl) _ _ rw') z⟩⟩

/-! ### constants of the module -/
def dvD : He.Dv → D
  | .non => .non
  | .bl b => .bl b
  | .int i => .int i
  | .str x => .str x
  | .ty n => .ty n
  | _ => .non
def dvOk : He.Dv → Bool
  | .non => true
  | .bl _ => true
  | .int _ => true
  | .str _ => true
  | .ty _ => true
  | _ => false
theorem dv_rep {q : He.Dv} (h : dvOk q = true) : RepV K am H (dvD q) (q.v K) := by
  cases q with
  | non => simp [dvD, RepV, He.Dv.v]
  | bl b => simp [dvD, RepV, He.Dv.v]
  | int i => simp [dvD, RepV, He.Dv.v]
  | str x => simp [dvD, RepV, He.Dv.v]
  | ty n => simp [dvD, RepV, He.Dv.v]
  | _ => cases h
theorem dvs_rep : ∀ {qs : List He.Dv}, qs.all dvOk = true → RepVs K am H (qs.map dvD) (qs.map (He.Dv.v K))
  | [], _ => .nil
  | q :: qs, h => by
    rw [List.all_cons, Bool.and_eq_true] at h
    exact .cons (dv_rep h.1) (dvs_rep h.2)
theorem kt_of {vs : List He.Dv} (h : He.tupB K x vs = true) : KT K (He.ga K x) (vs.map (He.Dv.v K)) := by
  have := He.tupB_ok h (fun _ => none)
  rcases this with (h1 | ⟨o, h1⟩) | h1
  · cases h1
  · cases h1
  · exact h1
theorem e_gtup {vs : List He.Dv} (hg : Gl X x) (hm : X.mg x = some (.ref (He.ga X.K x))) (ht : He.tupB X.K x vs = true) (hv : vs.all dvOk = true := by rfl) (hd : (x == ("__debug__" : Str)) = false := by decide) : PE X (.Name x pos) (tD X.K (wK (.kt (vs.map dvD)))) :=
  e_k (pe_glob hg hm (x := x) (v := .ref (He.ga X.K x)) rfl hd) _ fun am H => by
    simp only [RepV]
    exact ⟨_, _, rfl, kt_of ht, dvs_rep hv⟩
theorem e_gval {q : V} {u : Value} {d : D} (hg : Gl X x) (hm : X.mg x = some u) (r : RelV q u) (hr : ∀ am H, RepV X.K am H d q) (hd : (x == ("__debug__" : Str)) = false := by decide) : PE X (.Name x pos) (tD X.K (wK d)) :=
  e_k (pe_glob hg hm r hd) _ hr

/-! ### facts of the head, with one Bool more -/
abbrev AlQ : Type := He.AlD × Bool
def obsQ (n : Nat) (fa : List He.Fa) (fn : List He.DefD) (ex : PySem.W.Frag → Bool) (g : Addr → Option Obj) : AlQ := (He.obsD fa fn (He.frG g (He.asD g n)), ex (He.frG g (He.asD g n)))
structure SaysQ (fa : List He.Fa) (fn : List He.DefD) (ex : PySem.W.Frag → Bool) (K : PySem.W.Frag) : Prop where
  d : He.SaysD fa fn K
  ex : ex K = true
def hookQ (n : Nat) (fa : List He.Fa) (fn : List He.DefD) (ex : PySem.W.Frag → Bool) : PySem.W.Hook where
  α := AlQ
  obs := fun s => obsQ n fa fn ex s.heap.get?
  val := fun _ => (He.valD fn, true)
  says := fun _ h => ∃ K : PySem.W.Frag, K.In h ∧ SaysQ fa fn ex K
  of := fun _ _ e => ⟨_, He.frG_in, ⟨congrArg (fun z : AlQ => z.1) e, congrArg (fun z : AlQ => z.2) e⟩⟩
  keeps := fun _ _ _ ⟨K, hK, c⟩ k => ⟨K, PySem.W.Frag.In.keeps hK k, c⟩
theorem obsQ_eq {n : Nat} {fa : List He.Fa} {fn : List He.DefD} {ex : PySem.W.Frag → Bool} {g : Addr → Option Obj} {s : Shared} (h : ∀ a, g a = s.heap.get? a) : obsQ n fa fn ex g = (hookQ n fa fn ex).obs s := by
  have e : g = s.heap.get? := funext h
  rw [e] <;> rfl
/-- what a def's walk leans on -/
structure Fc (fa : List He.Fa) (fn : List He.DefD) (ex : PySem.W.Frag → Bool) (K : PySem.W.Frag) (mg : Str → Option Value) : Prop where
  q : SaysQ fa fn ex K
  mg : ∃ h : Heap, K.In h ∧ h.Ns mainGlobals mg
section
variable {fa : List He.Fa} {fn : List He.DefD} {ex : PySem.W.Frag → Bool} {mg : Str → Option Value}
theorem Fc.glo (F : Fc fa fn ex K mg) (i : Nat) {x : Str} (h : fa[i]? = some (.glo x) := by rfl) : mg x = some (.ref (He.ga K x)) := by
  obtain ⟨hh, X, G⟩ := F.mg
  exact He.glo_ok X G (F.q.d.fact i h)
theorem Fc.free (F : Fc fa fn ex K mg) (i : Nat) {x : Str} (h : fa[i]? = some (.free x) := by rfl) : mg x = none := by
  obtain ⟨hh, X, G⟩ := F.mg
  exact He.free_ok X G (F.q.d.fact i h)
theorem Fc.cls (F : Fc fa fn ex K mg) (i : Nat) {x : Str} (h : fa[i]? = some (.cls x) := by rfl) : Cls K (He.ga K x) := He.cls_ok (F.q.d.fact i h)
theorem Fc.noat (F : Fc fa fn ex K mg) (i : Nat) {x f : Str} (h : fa[i]? = some (.noat x f) := by rfl) : NoAttr K (He.ga K x) f := He.noat_ok (F.q.d.fact i h)
theorem Fc.meth (F : Fc fa fn ex K mg) (i : Nat) {x m : Str} (h : fa[i]? = some (.meth x m) := by rfl) : Meth K (He.ga K x) m (He.ma K (He.ga K x) m) := He.meth_ok (F.q.d.fact i h)
theorem Fc.mkr (F : Fc fa fn ex K mg) (i : Nat) {x : Str} (h : fa[i]? = some (.mkr x) := by rfl) : Mk K (He.ga K x) (He.ma K (He.ga K x) "__init__") := He.mkr_ok (F.q.d.fact i h)
theorem Fc.def_ (F : Fc fa fn ex K mg) (i : Nat) {d : He.DefD} (h : fn[i]? = some d := by rfl) : ∃ fd, FunD K d.name d.qual d.params d.body d.scope (d.dvs K) (d.kws K) (He.fAd K d.at_) fd := F.q.d.def_ i h
theorem Fc.keep (F : Fc fa fn ex K mg) (i : Nat) {d : He.DefD} (h : fn[i]? = some d := by rfl) : PySem.W.keepIn K (.ref (He.fAd K d.at_)) = true := by
  obtain ⟨fd, f⟩ := F.def_ i h
  exact f.kp
end
theorem len0 {α : Type} {l : List α} (h : l.length = 0) : l = [] := List.length_eq_zero_iff.mp h
theorem len1 {α : Type} {l : List α} (h : l.length = 1) : ∃ a0, l = [a0] := by
  cases l with
  | nil => cases h
  | cons x l => exact ⟨x, by rw [len0 (Nat.succ.inj h)]⟩
theorem len2 {α : Type} {l : List α} (h : l.length = 2) : ∃ a0 a1, l = [a0, a1] := by
  cases l with
  | nil => cases h
  | cons x l =>
    obtain ⟨_, e⟩ := len1 (Nat.succ.inj h)
    exact ⟨x, _, by rw [e]⟩
theorem len3 {α : Type} {l : List α} (h : l.length = 3) : ∃ a0 a1 a2, l = [a0, a1, a2] := by
  cases l with
  | nil => cases h
  | cons x l =>
    obtain ⟨_, _, e⟩ := len2 (Nat.succ.inj h)
    exact ⟨x, _, _, by rw [e]⟩
theorem len4 {α : Type} {l : List α} (h : l.length = 4) : ∃ a0 a1 a2 a3, l = [a0, a1, a2, a3] := by
  cases l with
  | nil => cases h
  | cons x l =>
    obtain ⟨_, _, _, e⟩ := len3 (Nat.succ.inj h)
    exact ⟨x, _, _, _, by rw [e]⟩
theorem len5 {α : Type} {l : List α} (h : l.length = 5) : ∃ a0 a1 a2 a3 a4, l = [a0, a1, a2, a3, a4] := by
  cases l with
  | nil => cases h
  | cons x l =>
    obtain ⟨_, _, _, _, e⟩ := len4 (Nat.succ.inj h)
    exact ⟨x, _, _, _, _, by rw [e]⟩
theorem len6 {α : Type} {l : List α} (h : l.length = 6) : ∃ a0 a1 a2 a3 a4 a5, l = [a0, a1, a2, a3, a4, a5] := by
  cases l with
  | nil => cases h
  | cons x l =>
    obtain ⟨_, _, _, _, _, e⟩ := len5 (Nat.succ.inj h)
    exact ⟨x, _, _, _, _, _, by rw [e]⟩
theorem len7 {α : Type} {l : List α} (h : l.length = 7) : ∃ a0 a1 a2 a3 a4 a5 a6, l = [a0, a1, a2, a3, a4, a5, a6] := by
  cases l with
  | nil => cases h
  | cons x l =>
    obtain ⟨_, _, _, _, _, _, e⟩ := len6 (Nat.succ.inj h)
    exact ⟨x, _, _, _, _, _, _, by rw [e]⟩
theorem len8 {α : Type} {l : List α} (h : l.length = 8) : ∃ a0 a1 a2 a3 a4 a5 a6 a7, l = [a0, a1, a2, a3, a4, a5, a6, a7] := by
  cases l with
  | nil => cases h
  | cons x l =>
    obtain ⟨_, _, _, _, _, _, _, e⟩ := len7 (Nat.succ.inj h)
    exact ⟨x, _, _, _, _, _, _, _, by rw [e]⟩
end Vd
set_option Elab.async false
set_option linter.all false
set_option maxRecDepth 100000
set_option maxHeartbeats 2000000
/-! Vd13: ranges as values; comprehensions of three clauses. -/
namespace Vd
open PySem PySem.Spec PyProof.Rows L2
variable {Hs : Hp} {X : Cx} {a b c e o tg : Expr} {f g h : WE} {pos p apos : Pos} {K : PySem.W.Frag} {am am' : List Addr} {H H' : Hp} {st : Sto} {d : D} {v : V} {x m : Str} {es : List Expr} {fa fk : WA} {k : Nat} {fn : Addr} {ps : List Str} {sp : DSp}

/-! ### ranges as values -/
def kRng : KA := fun ds st P => match ds with
  | [.int n] => P (.rng 0 n) st
  | [.int a, .int b] => P (.rng a b) st
  | _ => False
def rRng : List V → Hp → VK → Prop := fun vs H Q => (∃ j, vs = [V.int j] ∧ ∀ p, H p = none → Q (.ref p) (upd H p (.rng 0 j))) ∨ ∃ i j, vs = [V.int i, V.int j] ∧ ∀ p, H p = none → Q (.ref p) (upd H p (.rng i j))
theorem cr_rng : CallR X (.type "range") rRng := by
  intro pins s σ H vs us Q I r h
  rcases h with ⟨j, rfl, q⟩ | h
  · obtain ⟨u1, rfl, ri⟩ := r.one
    obtain ⟨t, rfl⟩ := ri
    refine call_range_1 ⟨.ref s.heap.objs.size, upd H s.heap.objs.size (.rng 0 j), I.laid (t' := s.toks + 1 + 1) (fun b o e => Heap.get?_push_of_some _ e) (Nat.le_refl _) ?_, rfl, q _ (I.hok.fresh (Nat.le_refl _))⟩
    exact ⟨s.toks, t, s.toks + 1, Heap.get?_push_size _ rfl⟩
  · exact cr_range2 pins s σ H vs us Q I r h
theorem lk_rng : LkA K rRng kRng := fun am H st ds vs P Q s rv q k => by
  have fin : ∀ (i j : Int), P (.rng i j) st → ∀ p, H p = none → Q (.ref p) (upd H p (.rng i j)) := fun i j q p hp =>
    k am _ (.ref p) (.rng i j) st (Ext.fresh hp) (s.fresh hp) (by simp only [RepV]; exact ⟨p, rfl, upd_same⟩) q
  unfold kRng at q
  split at q
  · obtain ⟨w, e2, r1⟩ := rv1 (ds := []) rv
    simp only [RepV] at r1
    subst r1
    exact .inl ⟨_, e2, fin _ _ q⟩
  · obtain ⟨w1, w2, e2, r1, r2⟩ := rv2 rv
    simp only [RepV] at r1 r2
    subst r1 r2
    exact .inr ⟨_, _, e2, fin _ _ q⟩
  · exact q.elim
theorem e_rng {fa : WA} (hg : Gl X "range") (hm : X.mg "range" = none) (ha : PA X (e :: es) (tDa X.K fa)) (he : starEach (e :: es) X.env = (false, eval e X.env) :: starEach es X.env := by rfl)
    (hpl : (backTo pos (starEach es X.env)).any (·.1) = false := by rfl) : PE X (.Call (.Name "range" p) (e :: es) [] pos) (tD X.K (wBlt kRng fa)) := e_bty cr_rng lk_rng hg hm PyProof.Rows.boot_range ha (by decide) (by decide) he hpl

/-! ### three clauses -/
/-- what runs behind the tests of a clause: from any state that ch speaks of to one of which Nx -/
def BodyOk (B : Cx) (vs : List Nat) (ch : L2.St → Hp → (Hp → Prop) → Prop) (Body : (Shared → Prop) → (Value → Shared → Prop) → Shared → Prop) : Prop :=
  ∀ (pins : List (Addr × Obj)) (σ : L2.St) (s : Shared) (H : Hp) (Nx : Hp → Prop) (Post : Shared → Prop) (E : Value → Shared → Prop), L2.Inv B pins σ H s → ch σ H Nx →
    (∀ σ' s' H', L2.Inv B pins σ' H' s' → σ'.length = σ.length → (∀ (j : Nat) v, (L2.wipe σ vs)[j]? = some (some v) → σ'[j]? = some (some v)) → Nx H' → Post s') → Body Post E s
def chEnd (D : Addr) (te : TE) : L2.St → Hp → (Hp → Prop) → Prop := fun σ H Nx => te σ H fun y H4 => ∃ acc, H4 D = some (.lst acc) ∧ acc.length < sizeLine ∧ Nx (upd H4 D (.lst (acc ++ [y])))
def chFor (wi : TI) (g : TG) (tt : TT) (vs : List Nat) (ch : L2.St → Hp → (Hp → Prop) → Prop) : L2.St → Hp → (Hp → Prop) → Prop := fun σ H Nx => wi σ H fun J H4 => ∃ W : Nat → Nat → Hp → Prop, (∃ m, W 0 m H4) ∧ ∀ j k H, W j k H →
  (J.stop j H ∧ Nx H) ∨ (J.go j H ∧ ∃ Nx1 : Hp → Prop, (∀ H', Nx1 H' → ∃ k', k' < k ∧ W (j + 1) k' H') ∧ ∀ x H', J.yld j H x H' → g x (L2.wipe σ vs) H' fun σ3 H5 => L2.wipe σ3 vs = L2.wipe σ vs ∧ tt σ3 H5 fun b H6 => if b = true then ch σ3 H6 Nx1 else Nx1 H6)
theorem body_end {B : Cx} {elt : Expr} {te : TE} {D : Addr} {ce : Env} (hce : B.env = ce) (hx : B.xe = fun _ _ => False) (he : PE B elt te) :
    BodyOk B [] (chEnd D te) fun Post E s => wpAny (model B.prog B.w) B.A (eval elt ce) (fun x s₄ => wpAny (model B.prog B.w) B.A (call (.builtin "list.append") [.ref D, x]) (fun _ s₅ => Post s₅) E s₄) E s := by
  subst hce
  intro pins σ s H Nx Post E I h fin
  have r := he.run pins s σ H _ I h
  rw [hx] at r
  refine thnF r fun z s17 ⟨yv, H17, I17, r17, acc, hD17, hz17, nx⟩ => ?_
  exact app_ok I17 hD17 hz17 r17 fun s18 I18 => fin σ s18 _ I18 rfl (fun j v e => e) nx
abbrev testsOf (ifs : List Expr) (ce : Env) : Sem Bool := forIn ifs true fun c r => if r = true then do let ok ← isTrue c ce (eval c ce); pure (ForInStep.yield ok) else pure (ForInStep.yield r)
/-- the loop of clause k -/
def LoopR (P : Program) (w : World) (A : Around) (ce : Env) (C : Expr) (k : Nat) (tg : Expr) (ifs : List Expr) (D : Addr) (Body : (Shared → Prop) → (Value → Shared → Prop) → Shared → Prop) : Prop :=
  ∀ (it : Value) (R : Result → Shared → Prop) (s : Shared) (I : Nat → Shared → Prop),
    (∀ n s, I n s → wpAny (model P w) A (pyNext it) (fun r s₁ => match r with
      | none => R (.ok .next) s₁
      | some v => wpAny (model P w) A (letOwnedTupleGo tg it v) (fun _ s₁' => wpAny (model P w) A (assign tg ce v) (fun _ s₂ =>
          wpAny (model P w) A (testsOf ifs ce) (fun ok s₃ => if ok = true then Body (fun s' => ∃ m, m < n ∧ I m s') (notedBy (model P w) A ce fun e s' => R (.error e) s') s₃
            else ∃ m, m < n ∧ I m s₃) (notedBy (model P w) A ce fun e s' => R (.error e) s') s₂) (notedBy (model P w) A ce fun e s' => R (.error e) s') s₁') (notedBy (model P w) A ce fun e s' => R (.error e) s') s₁) (notedBy (model P w) A ce fun e s' => R (.error e) s') s) →
    ∀ n, I n s → codeAny (model P w) A (.compLoop C k it (.ref D) ce) R s
def StartR (P : Program) (w : World) (A : Around) (ce : Env) (C : Expr) (k : Nat) (D : Addr) : Prop :=
  ∀ (it : Value) (R : Result → Shared → Prop) (s : Shared), codeAny (model P w) A (.compLoop C k it (.ref D) ce) R s →
    wpAny (model P w) A (pyIter it) (fun it' s' => codeAny (model P w) A (.compLoop C k it' (.ref D) ce) R s') (notedBy (model P w) A ce fun x s' => R (.error x) s') s →
    codeAny (model P w) A (.compStart C k it (.ref D) ce) R s
abbrev BodyFor (P : Program) (w : World) (A : Around) (ce : Env) (C : Expr) (k : Nat) (iter : Expr) (D : Addr) : (Shared → Prop) → (Value → Shared → Prop) → Shared → Prop := fun Post E s =>
  wpAny (model P w) A (eval iter ce) (fun x s₄ => wpAny (model P w) A (pyIter x) (fun it1 s₅ => codeAny (model P w) A (.compStart C k it1 (.ref D) ce) (fun r s' => match r with
    | .ok _ => Post s'
    | .error _ => False) s₅) E s₄) E s
theorem body_for {B : Cx} {C iter : Expr} {ifs : List Expr} {k : Nat} {wi : TI} {g : TG} {tt : TT} {vs vs1 : List Nat} {ch : L2.St → Hp → (Hp → Prop) → Prop} {Body : (Shared → Prop) → (Value → Shared → Prop) → Shared → Prop} {D : Addr} {ce : Env} (hce : B.env = ce) (hx : B.xe = fun _ _ => False) (hc : B.calm = true)
    (hi : PI B tg iter wi) (hg : PG B tg g) (ht : PTs B ifs tt) (hb : BodyOk B vs1 ch Body) (hv : ∀ i ∈ vs1, i ∈ vs) (hl : LoopR B.prog B.w B.A ce C k tg ifs D Body) (hs : StartR B.prog B.w B.A ce C k D) :
    BodyOk B vs (chFor wi g tt vs ch) (BodyFor B.prog B.w B.A ce C k iter D) := by
  subst hce
  intro pins σ s H Nx Post E I h fin
  have r := hi.run pins s σ H _ I h
  rw [hx] at r
  refine thnF r fun xv s10 hxv => thnF hxv fun itv s11 h11 => ?_
  obtain ⟨it1, fp1, tn1, J1, H11, e1, I11, T1, st11, f11, W1, ⟨m1, w1⟩, turn1⟩ := h11
  subst e1
  have stat1 : ∀ {H' : Hp}, (∀ b ∈ fp1, H' b = none) → ∀ b ∈ fp1, FpOk B pins H' b := fun hn b hb => ⟨hn b hb, (f11 b hb).2⟩
  have loop1 : codeAny (model B.prog B.w) B.A (.compLoop C k (.ref it1) (.ref D) B.env) (fun r s' => match r with
      | .ok _ => Post s'
      | .error _ => False) s11 := by
    refine hl _ _ _ (fun n s' => ∃ j H', L2.Inv B pins (L2.wipe σ vs) H' s' ∧ tn1 j s'.heap ∧ (∀ b ∈ fp1, H' b = none) ∧ W1 j n H') ?_ m1 ⟨0, H11, I11.weak (wipe_length _ _) (fun j v e => (wipe_some e).1), st11, fun b hb => (f11 b hb).1, w1⟩
    rintro n s12 ⟨j, H12, I12, st12, n12, w12⟩
    rcases turn1 j n H12 w12 with ⟨stop1, nx1⟩ | ⟨go1, Nx1, hNx1, step1⟩
    · refine thnF (T1.done B rfl rfl rfl hc j _ s12 (L2.wipe σ vs) H12 (fun _ _ => False) I12 (stat1 n12) st12 stop1) fun r s13 ⟨hr, I13⟩ => ?_
      subst hr
      exact fin _ _ _ I13 (wipe_length _ _) (fun j v e => e) nx1
    · refine thnF (T1.item B rfl rfl rfl hc j _ s12 (L2.wipe σ vs) H12 (fun _ _ => False) I12 (stat1 n12) st12 go1) fun r s13 ⟨u1, hr, h13⟩ => ?_
      subst hr
      refine thnF h13 fun _ s14 ⟨x1, H14, I14, r14, y14, st14, n14⟩ => ?_
      have I14' := I14.pinned (stat1 n14) (T1.obj _ _ st14)
      have rg := hg.run _ s14 (L2.wipe σ vs) H14 x1 u1 _ I14' r14 (step1 x1 H14 y14)
      rw [hx] at rg
      refine thnF rg fun _ s15 ⟨σ15, H15, I15, hw15, q15⟩ => ?_
      have rt := ht.run _ s15 σ15 H15 _ I15 q15
      rw [hx] at rt
      refine thnF rt fun b1 s16 ⟨H16, I16, q16⟩ => ?_
      have fin1 : ∀ (σ' : L2.St) (s' : Shared) (H' : Hp), L2.Inv B (pins ++ pinsAt fp1 s14.heap) σ' H' s' → σ'.length = σ15.length → (∀ (j : Nat) v, (L2.wipe σ15 vs1)[j]? = some (some v) → σ'[j]? = some (some v)) → Nx1 H' → ∃ m, m < n ∧ ∃ j H', L2.Inv B pins (L2.wipe σ vs) H' s' ∧ tn1 j s'.heap ∧ (∀ b ∈ fp1, H' b = none) ∧ W1 j m H' := fun σ' s' H' I' hlen hk nx => by
        obtain ⟨m', hm, w'⟩ := hNx1 H' nx
        have pin' : ∀ b ∈ fp1, ∀ o, s14.heap.get? b = some o → s'.heap.get? b = some o ∧ H' b = none := fun b hb o e =>
          let z := I'.pin (b, o) (List.mem_append_right _ (List.mem_append_right _ (mem_pinsAt hb e)))
          ⟨z.1, z.2.1⟩
        refine ⟨m', hm, j + 1, H', I'.unpinned.weak (by rw [hlen, ← hw15, wipe_length]) (fun j v e => ?_), T1.keep _ _ _ st14 fun b hb o e => (pin' b hb o e).1, fun b hb => ?_, w'⟩
        · rw [← hw15] at e
          obtain ⟨e1, e2⟩ := wipe_some e
          exact hk j v (by rw [wipe_out fun z => e2 (hv j z)]; exact e1)
        · obtain ⟨o, e, _⟩ := T1.obj _ _ st14 b hb
          exact (pin' b hb o e).2
      cases b1 with
      | false =>
        simp only [Bool.false_eq_true, if_false] at q16 ⊢
        exact fin1 σ15 s16 H16 I16 rfl (fun j v e => (wipe_some e).1) q16
      | true =>
        simp only [if_true] at q16 ⊢
        exact hb _ σ15 s16 H16 Nx1 _ _ I16 q16 fin1
  exact hs _ _ _ loop1 (T1.self B.A 0 _ _ _ st11 loop1)
theorem turn3_0 (elt t0 i0 t1 i1 t2 i2 : Expr) (ifs0 ifs1 ifs2 : List Expr) (scope : Scope) (pos : Pos) (it acc : Value) (env : Env) :
    compTurn (.ListComp elt [⟨t0, i0, ifs0, 0⟩, ⟨t1, i1, ifs1, 0⟩, ⟨t2, i2, ifs2, 0⟩] scope pos) 0 it acc env = (do
      standAt i0.pos
      match ← pyNext it with
      | none => pure (.done .next)
      | some v =>
        letOwnedTupleGo t0 it v
        assign t0 env v
        let mut ok := true
        for c in ifs0 do
          if ok then ok ← isTrue c env (eval c env)
        if ok then
          let x ← eval i1 env
          standAt i1.pos
          let x ← foldedSetIterable i1 env x
          let _ ← runOwn (.compStart (.ListComp elt [⟨t0, i0, ifs0, 0⟩, ⟨t1, i1, ifs1, 0⟩, ⟨t2, i2, ifs2, 0⟩] scope pos) 1 (← holding [x] (pyIter x)) acc env) env
        again (.compLoop (.ListComp elt [⟨t0, i0, ifs0, 0⟩, ⟨t1, i1, ifs1, 0⟩, ⟨t2, i2, ifs2, 0⟩] scope pos) 0 it acc env)) := by rfl
theorem turn3_1 (elt t0 i0 t1 i1 t2 i2 : Expr) (ifs0 ifs1 ifs2 : List Expr) (scope : Scope) (pos : Pos) (it acc : Value) (env : Env) :
    compTurn (.ListComp elt [⟨t0, i0, ifs0, 0⟩, ⟨t1, i1, ifs1, 0⟩, ⟨t2, i2, ifs2, 0⟩] scope pos) 1 it acc env = (do
      standAt i1.pos
      match ← pyNext it with
      | none => pure (.done .next)
      | some v =>
        letOwnedTupleGo t1 it v
        assign t1 env v
        let mut ok := true
        for c in ifs1 do
          if ok then ok ← isTrue c env (eval c env)
        if ok then
          let x ← eval i2 env
          standAt i2.pos
          let x ← foldedSetIterable i2 env x
          let _ ← runOwn (.compStart (.ListComp elt [⟨t0, i0, ifs0, 0⟩, ⟨t1, i1, ifs1, 0⟩, ⟨t2, i2, ifs2, 0⟩] scope pos) 2 (← holding [x] (pyIter x)) acc env) env
        again (.compLoop (.ListComp elt [⟨t0, i0, ifs0, 0⟩, ⟨t1, i1, ifs1, 0⟩, ⟨t2, i2, ifs2, 0⟩] scope pos) 1 it acc env)) := by rfl
theorem turn3_2 (elt t0 i0 t1 i1 t2 i2 : Expr) (ifs0 ifs1 ifs2 : List Expr) (scope : Scope) (pos : Pos) (it acc : Value) (env : Env) :
    compTurn (.ListComp elt [⟨t0, i0, ifs0, 0⟩, ⟨t1, i1, ifs1, 0⟩, ⟨t2, i2, ifs2, 0⟩] scope pos) 2 it acc env = (do
      standAt i2.pos
      match ← pyNext it with
      | none => pure (.done .next)
      | some v =>
        letOwnedTupleGo t2 it v
        assign t2 env v
        let mut ok := true
        for c in ifs2 do
          if ok then ok ← isTrue c env (eval c env)
        if ok then
          (do let _ ← call (.builtin "list.append") [acc, ← eval elt env])
        again (.compLoop (.ListComp elt [⟨t0, i0, ifs0, 0⟩, ⟨t1, i1, ifs1, 0⟩, ⟨t2, i2, ifs2, 0⟩] scope pos) 2 it acc env)) := by rfl
section
variable {prog : Program} {w : World} {A : Around} {elt t0 i0 t1 i1 t2 i2 : Expr} {ifs0 ifs1 ifs2 : List Expr} {scope : Scope} {pos : Pos} {D : Addr} {ce : Env}
theorem loop3_0 (hs : ∀ x, foldedSetIterable i1 ce x = pure x) : LoopR prog w A ce (.ListComp elt [⟨t0, i0, ifs0, 0⟩, ⟨t1, i1, ifs1, 0⟩, ⟨t2, i2, ifs2, 0⟩] scope pos) 0 t0 ifs0 D (BodyFor prog w A ce (.ListComp elt [⟨t0, i0, ifs0, 0⟩, ⟨t1, i1, ifs1, 0⟩, ⟨t2, i2, ifs2, 0⟩] scope pos) 1 i1 D) := by
  intro it R s I turn n h
  refine codeAny_loop rfl I (fun n s hI => ?_) n h
  show wpAny _ A ((compTurn (.ListComp elt [⟨t0, i0, ifs0, 0⟩, ⟨t1, i1, ifs1, 0⟩, ⟨t2, i2, ifs2, 0⟩] scope pos) 0 it (.ref D) ce).onRaise (fun x => do noteFrame x ce; theTreesLotGoes x)) _ _ s
  refine wpAny_noted ?_
  rw [turn3_0]
  refine wpAny_bind (wpAny_standAt (wpAny_bind (wpAny_mono (turn n s hI) (fun r s₁ h₁ => ?_) fun _ _ h' => h')))
  cases r with
  | none => exact wpAny_pure h₁
  | some v =>
    refine wpAny_bind (wpAny_mono h₁ (fun _ s₁' h₁' => ?_) fun _ _ h' => h')
    refine wpAny_bind (wpAny_mono h₁' (fun _ s₂ h₂ => wpAny_bind (wpAny_mono h₂ (fun ok s₃ h₃ => ?_) fun _ _ h' => h')) fun _ _ h' => h')
    cases ok with
    | false => exact wpAny_pure ⟨rfl, h₃⟩
    | true =>
      refine wpAny_bind (wpAny_mono h₃ (fun x s₄ h₄ => ?_) fun _ _ h' => h')
      refine wpAny_bind (wpAny_standAt (wpAny_bind (wpAny_of_eq (hs x) (wpAny_bind (wpAny_holding (wpAny_mono h₄ (fun it1 s₅ h₅ => ?_) fun _ _ h' => h'))))))
      refine wpAny_bind (wpAny_runOwn ?_)
      rw [Around.mark_none]
      refine codeAny_mono h₅ fun r s' hr => ?_
      cases r with
      | ok f =>
        first
          | exact wpAny_pure ⟨rfl, hr⟩
          | exact wpAny_bind (wpAny_pure (wpAny_pure ⟨rfl, hr⟩))
      | error e => exact hr.elim
theorem loop3_1 (hs : ∀ x, foldedSetIterable i2 ce x = pure x) : LoopR prog w A ce (.ListComp elt [⟨t0, i0, ifs0, 0⟩, ⟨t1, i1, ifs1, 0⟩, ⟨t2, i2, ifs2, 0⟩] scope pos) 1 t1 ifs1 D (BodyFor prog w A ce (.ListComp elt [⟨t0, i0, ifs0, 0⟩, ⟨t1, i1, ifs1, 0⟩, ⟨t2, i2, ifs2, 0⟩] scope pos) 2 i2 D) := by
  intro it R s I turn n h
  refine codeAny_loop rfl I (fun n s hI => ?_) n h
  show wpAny _ A ((compTurn (.ListComp elt [⟨t0, i0, ifs0, 0⟩, ⟨t1, i1, ifs1, 0⟩, ⟨t2, i2, ifs2, 0⟩] scope pos) 1 it (.ref D) ce).onRaise (fun x => do noteFrame x ce; theTreesLotGoes x)) _ _ s
  refine wpAny_noted ?_
  rw [turn3_1]
  refine wpAny_bind (wpAny_standAt (wpAny_bind (wpAny_mono (turn n s hI) (fun r s₁ h₁ => ?_) fun _ _ h' => h')))
  cases r with
  | none => exact wpAny_pure h₁
  | some v =>
    refine wpAny_bind (wpAny_mono h₁ (fun _ s₁' h₁' => ?_) fun _ _ h' => h')
    refine wpAny_bind (wpAny_mono h₁' (fun _ s₂ h₂ => wpAny_bind (wpAny_mono h₂ (fun ok s₃ h₃ => ?_) fun _ _ h' => h')) fun _ _ h' => h')
    cases ok with
    | false => exact wpAny_pure ⟨rfl, h₃⟩
    | true =>
      refine wpAny_bind (wpAny_mono h₃ (fun x s₄ h₄ => ?_) fun _ _ h' => h')
      refine wpAny_bind (wpAny_standAt (wpAny_bind (wpAny_of_eq (hs x) (wpAny_bind (wpAny_holding (wpAny_mono h₄ (fun it1 s₅ h₅ => ?_) fun _ _ h' => h'))))))
      refine wpAny_bind (wpAny_runOwn ?_)
      rw [Around.mark_none]
      refine codeAny_mono h₅ fun r s' hr => ?_
      cases r with
      | ok f =>
        first
          | exact wpAny_pure ⟨rfl, hr⟩
          | exact wpAny_bind (wpAny_pure (wpAny_pure ⟨rfl, hr⟩))
      | error e => exact hr.elim
theorem loop3_2 : LoopR prog w A ce (.ListComp elt [⟨t0, i0, ifs0, 0⟩, ⟨t1, i1, ifs1, 0⟩, ⟨t2, i2, ifs2, 0⟩] scope pos) 2 t2 ifs2 D (fun Post E s => wpAny (model prog w) A (eval elt ce) (fun x s₄ => wpAny (model prog w) A (call (.builtin "list.append") [.ref D, x]) (fun _ s₅ => Post s₅) E s₄) E s) := by
  intro it R s I turn n h
  refine codeAny_loop rfl I (fun n s hI => ?_) n h
  show wpAny _ A ((compTurn (.ListComp elt [⟨t0, i0, ifs0, 0⟩, ⟨t1, i1, ifs1, 0⟩, ⟨t2, i2, ifs2, 0⟩] scope pos) 2 it (.ref D) ce).onRaise (fun x => do noteFrame x ce; theTreesLotGoes x)) _ _ s
  refine wpAny_noted ?_
  rw [turn3_2]
  refine wpAny_bind (wpAny_standAt (wpAny_bind (wpAny_mono (turn n s hI) (fun r s₁ h₁ => ?_) fun _ _ h' => h')))
  cases r with
  | none => exact wpAny_pure h₁
  | some v =>
    refine wpAny_bind (wpAny_mono h₁ (fun _ s₁' h₁' => ?_) fun _ _ h' => h')
    refine wpAny_bind (wpAny_mono h₁' (fun _ s₂ h₂ => wpAny_bind (wpAny_mono h₂ (fun ok s₃ h₃ => ?_) fun _ _ h' => h')) fun _ _ h' => h')
    cases ok with
    | false => exact wpAny_pure ⟨rfl, h₃⟩
    | true =>
      exact wpAny_bind (wpAny_bind (wpAny_mono h₃ (fun x s₄ h₄ => wpAny_bind (wpAny_mono h₄ (fun _ s₅ h₅ => wpAny_pure (wpAny_pure ⟨rfl, h₅⟩)) fun _ _ h' => h')) fun _ _ h' => h'))
theorem start3_1 : StartR prog w A ce (.ListComp elt [⟨t0, i0, ifs0, 0⟩, ⟨t1, i1, ifs1, 0⟩, ⟨t2, i2, ifs2, 0⟩] scope pos) 1 D := by
  intro it R s h0 h
  refine codeAny_of_tree ?_
  show wpAny _ _ ((compStart (.ListComp elt [⟨t0, i0, ifs0, 0⟩, ⟨t1, i1, ifs1, 0⟩, ⟨t2, i2, ifs2, 0⟩] scope pos) 1 it (.ref D) ce).onRaise (fun x => do noteFrame x ce; standAt theWindowsPlace)) _ _ s
  refine wpAny_notedAt ?_
  unfold compStart
  show wpAny _ _ (ask >>= _) _ _ s
  refine wpAny_bind (wpAny_askSetting (wpAny_ite ?_))
  split
  · first
      | exact wpAny_bind (wpAny_pure (wpAny_pure (And.intro rfl h0)))
      | exact wpAny_pure (And.intro rfl h0)
  · first
      | exact wpAny_bind (wpAny_rule (wpAny_bind (wpAny_standAt (wpAny_bind (wpAny_mono h (fun it' s' h' => wpAny_pure (And.intro rfl h')) fun _ _ x => x)))))
      | (refine wpAny_bind (wpAny_rule ?_); show wpAny _ _ (standAt i1.pos >>= _) _ _ s; exact wpAny_bind (wpAny_standAt (wpAny_bind (wpAny_mono h (fun it' s' h' => wpAny_pure (And.intro rfl h')) fun _ _ x => x))))
theorem start3_2 : StartR prog w A ce (.ListComp elt [⟨t0, i0, ifs0, 0⟩, ⟨t1, i1, ifs1, 0⟩, ⟨t2, i2, ifs2, 0⟩] scope pos) 2 D := by
  intro it R s h0 h
  refine codeAny_of_tree ?_
  show wpAny _ _ ((compStart (.ListComp elt [⟨t0, i0, ifs0, 0⟩, ⟨t1, i1, ifs1, 0⟩, ⟨t2, i2, ifs2, 0⟩] scope pos) 2 it (.ref D) ce).onRaise (fun x => do noteFrame x ce; standAt theWindowsPlace)) _ _ s
  refine wpAny_notedAt ?_
  unfold compStart
  show wpAny _ _ (ask >>= _) _ _ s
  refine wpAny_bind (wpAny_askSetting (wpAny_ite ?_))
  split
  · first
      | exact wpAny_bind (wpAny_pure (wpAny_pure (And.intro rfl h0)))
      | exact wpAny_pure (And.intro rfl h0)
  · first
      | exact wpAny_bind (wpAny_rule (wpAny_bind (wpAny_standAt (wpAny_bind (wpAny_mono h (fun it' s' h' => wpAny_pure (And.intro rfl h')) fun _ _ x => x)))))
      | (refine wpAny_bind (wpAny_rule ?_); show wpAny _ _ (standAt i2.pos >>= _) _ _ s; exact wpAny_bind (wpAny_standAt (wpAny_bind (wpAny_mono h (fun it' s' h' => wpAny_pure (And.intro rfl h')) fun _ _ x => x))))
end

/-- the first clause, whatever runs behind its tests -/
def tLcN (wi : TI) (g : TG) (tt : TT) (ch : Addr → L2.St → Hp → (Hp → Prop) → Prop) (vs : List Nat) : TE := fun σ H Q => wi σ H fun J H1 => ∀ D, H1 D = none → ∃ W : Nat → Nat → Hp → Prop, (∃ m, W 0 m (upd H1 D (.lst []))) ∧ ∀ i m H, W i m H →
  (J.stop i H ∧ Q (.ref D) H) ∨ (J.go i H ∧ ∃ Nx : Hp → Prop, (∀ H', Nx H' → ∃ m', m' < m ∧ W (i + 1) m' H') ∧ ∀ x H', J.yld i H x H' → g x (L2.wipe σ vs) H' fun σ2 H2 => L2.wipe σ2 vs = L2.wipe σ vs ∧ tt σ2 H2 fun b H3 => if b = true then ch D σ2 H3 Nx else Nx H3)
theorem pe_lcN {elt tg iter : Expr} {ifs : List Expr} {rest : List Comprehension} {scope : Scope} {own : List (Str × Nat)} {vs1 : List Nat} {pos : Pos} {wi : TI} {g : TG} {tt : TT} {ch : Addr → L2.St → Hp → (Hp → Prop) → Prop} {Body : Addr → Env → (Shared → Prop) → (Value → Shared → Prop) → Shared → Prop}
    (hc : X.calm = true) (hN : X.N.Nodup) (hi : PI X tg iter wi) (ok : BlkOk X.N X.env.scope scope own) (hv : ∀ i ∈ vs1, i ∈ own.map (·.2)) (hg : BG X scope tg g) (ht : BT X scope ifs tt) (hs : ∀ x, foldedSetIterable iter X.env x = pure x)
    (hb : ∀ (s : Shared) (H : Hp) (C : Addr) (cl : List (Str × Addr)) (fp : List Addr) (D : Addr), BodyOk (X.blk s H scope (compEnvC scope cl C X.env) fp) vs1 (ch D) (Body D (compEnvC scope cl C X.env)))
    (hl : ∀ (D : Addr) (ce : Env), LoopR X.prog X.w X.A ce (.ListComp elt (⟨tg, iter, ifs, 0⟩ :: rest) scope pos) 0 tg ifs D (Body D ce)) :
    PE X (.ListComp elt (⟨tg, iter, ifs, 0⟩ :: rest) scope pos) (tLcN wi g tt ch (own.map (·.2))) := by
  refine ⟨fun pins s σ H Q I h => ?_⟩
  rw [eval_ListComp]
  have hfree : ∀ y ∈ scope.names, y.2 = .free → ∃ c, X.env.cells.lookup y.1 = some c := fun y hy e => by
    rcases ok.free y hy e with k | k
    · exact I.ok.has _ (.inl k)
    · exact I.ok.has _ (.inr k)
  refine wpAny_comprehension_free (use := none) rfl hs (closure_ok hfree) ok.kind (fun y hy e => by rw [ok.uniq y hy, e])
    (thn (hi.run pins s σ H _ I h) fun xv s1 hx => thn hx fun itv s2 h2 => ?_)
  obtain ⟨it, fp, tn, J, H2, e, I2, T, st2, f2, q⟩ := h2
  subst e
  refine wpAny_newObj_type (newEnv_comp ?_) (by show 0 ≤ sizeLine; decide)
  generalize hD : s2.heap.objs.size = D
  have hDn : H2 D = none := I2.hok.fresh (Nat.le_of_eq hD)
  obtain ⟨W, ⟨m0, w0⟩, turn⟩ := q D hDn
  generalize hs3 : ({ s2 with heap := s2.heap.push { cls := .type "list", data := .seq ([] : List Value).toArray } } : Shared) = s3
  have I3 : L2.Inv X pins σ (upd H2 D (.lst [])) s3 := by
    rw [← hs3]
    refine I2.laid (t' := s2.toks) (fun b o e => Heap.get?_push_of_some _ e) (Nat.le_of_eq hD) ⟨Nat.zero_le _, [], 0, .nil, ?_⟩
    rw [← hD]
    exact Heap.get?_push_size _ rfl
  have h3 : s3.heap = s2.heap.push { cls := .type "list", data := .seq ([] : List Value).toArray } := by rw [← hs3]
  have sz : ∀ b ∈ fp, b < s2.heap.objs.size := fun b hb => by
    obtain ⟨o, e, _⟩ := T.obj _ _ st2 b hb
    exact Heap.lt_size e
  have f3 : ∀ b ∈ fp, FpOk X pins (upd H2 D (.lst [])) b ∧ b < s3.heap.objs.size := fun b hb => by
    have hlt := sz b hb
    refine ⟨⟨?_, (f2 b hb).2⟩, by rw [h3, Heap.size_push]; exact Nat.lt_succ_of_lt hlt⟩
    rw [upd_ne (by rw [← hD]; exact Nat.ne_of_lt hlt)]
    exact (f2 b hb).1
  have st3 : tn 0 s3.heap := T.keep _ _ _ st2 fun b _ o e => by rw [h3]; exact Heap.get?_push_of_some _ e
  have I4 := block_start I3 ok hN f3
  have pg := hg s3 (upd H2 D (.lst [])) s3.heap.objs.size (cellsFrom (s3.heap.objs.size + 1) scope.names (cloFrom X.env.cells scope.names [])) fp
  have pt := ht s3 (upd H2 D (.lst [])) s3.heap.objs.size (cellsFrom (s3.heap.objs.size + 1) scope.names (cloFrom X.env.cells scope.names [])) fp
  have pb := hb s3 (upd H2 D (.lst [])) s3.heap.objs.size (cellsFrom (s3.heap.objs.size + 1) scope.names (cloFrom X.env.cells scope.names [])) fp D
  show codeAny _ _ (.compStart (.ListComp elt (⟨tg, iter, ifs, 0⟩ :: rest) scope pos) 0 (.ref it) (.ref D) (compEnvC scope (cellsFrom (s3.heap.objs.size + 1) scope.names (cloFrom X.env.cells scope.names [])) s3.heap.objs.size X.env)) (compPost (model X.prog X.w) X.A X.xe none (EP X pins σ Q) (.ref D) s3.heap.objs.size) { s3 with heap := pushCells (s3.heap.push { cls := .type "dict", data := .dict #[] }) scope.names }
  have nfp : ∀ b ∈ fp, (upd H2 D (.lst [])) b = none := fun b hb => (f3 b hb).1.1
  generalize hce : compEnvC scope (cellsFrom (s3.heap.objs.size + 1) scope.names (cloFrom X.env.cells scope.names [])) s3.heap.objs.size X.env = ce at I4 pg pt pb ⊢
  have cL : ce.locals = s3.heap.objs.size := by subst hce; rfl
  generalize hH3 : upd H2 D (.lst []) = H3 at I3 I4 pg pt pb w0 nfp f3
  generalize hs4 : ({ s3 with heap := pushCells (s3.heap.push { cls := .type "dict", data := .dict #[] }) scope.names } : Shared) = s4 at I4 ⊢
  have st4 : tn 0 s4.heap := T.keep _ _ _ st3 fun b _ o e => by rw [← hs4]; exact pushCells_keeps _ _ _ _ (Heap.get?_push_of_some _ e)
  have stat : ∀ {σ' : L2.St} {H' : Hp} {s' : Shared}, L2.Inv (X.blk s3 H3 scope ce fp) [] σ' H' s' → (∀ b ∈ fp, H' b = none) → ∀ b ∈ fp, FpOk (X.blk s3 H3 scope ce fp) [] H' b := fun {σ' H' s'} I' hn b hb =>
    ⟨hn b hb, (I'.ok.exf b hb).1, I'.ok.exfs b hb, .inl hb, fun x c e => (I'.ok.exf b hb).2 x c e, fun p hp => absurd (show p ∈ ([] : List (Addr × Obj)) ++ [] from hp) (by simp)⟩
  have loop : codeAny (model X.prog X.w) X.A (.compLoop (.ListComp elt (⟨tg, iter, ifs, 0⟩ :: rest) scope pos) 0 (.ref it) (.ref D) ce) (compPost (model X.prog X.w) X.A X.xe none (EP X pins σ Q) (.ref D) s3.heap.objs.size) s4 := by
    refine hl D ce _ _ _ (fun n s' => ∃ i H', L2.Inv (X.blk s3 H3 scope ce fp) [] (L2.wipe σ (own.map (·.2))) H' s' ∧ tn i s'.heap ∧ (∀ b ∈ fp, H' b = none) ∧ W i n H') ?_ m0 ⟨0, H3, I4, st4, nfp, w0⟩
    rintro n s5 ⟨i, H5, I5, st5, n5, w5⟩
    rcases turn i n H5 w5 with ⟨stop, qq⟩ | ⟨go, Nx, hNx, step⟩
    · have td := T.done (X.blk s3 H3 scope ce fp) rfl rfl rfl hc i [] s5 _ H5 (fun _ _ => False) I5 (stat I5 n5) st5 stop
      refine thnF td fun r s6 ⟨hr, I6⟩ => ?_
      subst hr
      have I7 : L2.Inv X pins σ H5 s6 := I3.call' (ch := fp) I6.os I6.base I6.hok I6.bare fun b hb => ⟨(f3 b hb).1.2.2.2.1, (f3 b hb).1.2.1, (f3 b hb).1.2.2.2.2.1, (f3 b hb).1.2.2.2.2.2⟩
      have nC : H5 s3.heap.objs.size = none := by
        have z : H5 ce.locals = none := I6.free
        rw [cL] at z
        exact z
      obtain ⟨m, hn, _⟩ := I6.loc
      have hn : s6.heap.Ns ce.locals m := hn
      rw [cL] at hn
      refine ⟨m, hn, fun h'' sb => ?_⟩
      obtain ⟨f0, f1, f2, f3, f4, f5⟩ := I3.fpOk (H' := H5) (Nat.le_refl _) nC
      exact ⟨.ref D, H5, I7.turned (t' := s6.toks) (fun b o hb e => (sb.2 b hb).trans e) f0 f1 f3 f4 f5, rfl, qq⟩
    · have ti := T.item (X.blk s3 H3 scope ce fp) rfl rfl rfl hc i [] s5 _ H5 (fun _ _ => False) I5 (stat I5 n5) st5 go
      refine thnF ti fun r s6 ⟨u, hr, h6⟩ => ?_
      subst hr
      refine thnF h6 fun _ s7 ⟨x, H7, I7, r7, y7, st7, n7⟩ => ?_
      have I7' := I7.pinned (stat I7 n7) (T.obj _ _ st7)
      refine thnF (pg.run _ s7 _ H7 x u _ I7' r7 (step x H7 y7)) fun _ s8 ⟨σ8, H8, I8, hw8, q8⟩ => ?_
      refine thnF (pt.run _ s8 σ8 H8 _ I8 q8) fun b s9 ⟨H9, I9, q9⟩ => ?_
      have fin : ∀ (σ9 : L2.St) (s' : Shared) (H' : Hp), L2.Inv (X.blk s3 H3 scope ce fp) ([] ++ pinsAt fp s7.heap) σ9 H' s' → σ9.length = σ8.length → (∀ (j : Nat) v, (L2.wipe σ8 vs1)[j]? = some (some v) → σ9[j]? = some (some v)) → Nx H' →
          ∃ m, m < n ∧ ∃ i H', L2.Inv (X.blk s3 H3 scope ce fp) [] (L2.wipe σ (own.map (·.2))) H' s' ∧ tn i s'.heap ∧ (∀ b ∈ fp, H' b = none) ∧ W i m H' := fun σ9 s' H' I' hlen hk nx => by
        obtain ⟨m', hm, w'⟩ := hNx H' nx
        have pin' : ∀ b ∈ fp, ∀ o, s7.heap.get? b = some o → s'.heap.get? b = some o ∧ H' b = none := fun b hb o e =>
          let z := I'.pin (b, o) (List.mem_append_right _ (List.mem_append_right _ (mem_pinsAt hb e)))
          ⟨z.1, z.2.1⟩
        refine ⟨m', hm, i + 1, H', (I'.unpinned (pins := [])).weak (by rw [hlen, ← hw8, wipe_length]) (fun j v e => ?_), T.keep _ _ _ st7 fun b hb o e => (pin' b hb o e).1, fun b hb => ?_, w'⟩
        · rw [← hw8] at e
          obtain ⟨e1, e2⟩ := wipe_some e
          exact hk j v (by rw [wipe_out fun z => e2 (hv j z)]; exact e1)
        · obtain ⟨o, e, _⟩ := T.obj _ _ st7 b hb
          exact (pin' b hb o e).2
      cases b with
      | false =>
        simp only [Bool.false_eq_true, if_false] at q9 ⊢
        exact fin σ8 s9 H9 I9 rfl (fun j v e => (wipe_some e).1) q9
      | true =>
        simp only [if_true] at q9 ⊢
        exact pb _ σ8 s9 H9 Nx _ _ I9 q9 fin
  exact codeAny_compStart_list loop (T.self X.A 0 _ _ _ st4 loop)
theorem pe_lc3 {elt tg iter tg1 iter1 tg2 iter2 : Expr} {ifs ifs1 ifs2 : List Expr} {scope : Scope} {own : List (Str × Nat)} {vs1 vs2 : List Nat} {pos : Pos} {wi wi1 wi2 : TI} {g g1 g2 : TG} {tt tt1 tt2 : TT} {te : TE}
    (hc : X.calm = true) (hN : X.N.Nodup) (hi : PI X tg iter wi) (ok : BlkOk X.N X.env.scope scope own) (hv1 : ∀ i ∈ vs1, i ∈ own.map (·.2)) (hv2 : ∀ i ∈ vs2, i ∈ vs1) (hg : BG X scope tg g) (ht : BT X scope ifs tt)
    (hi1 : BI X scope tg1 iter1 wi1) (hg1 : BG X scope tg1 g1) (ht1 : BT X scope ifs1 tt1) (hi2 : BI X scope tg2 iter2 wi2) (hg2 : BG X scope tg2 g2) (ht2 : BT X scope ifs2 tt2) (he : BE X scope elt te)
    (hs : ∀ x, foldedSetIterable iter X.env x = pure x := by intro _; rfl) (hs1 : ∀ env x, foldedSetIterable iter1 env x = pure x := by intro _ _; rfl) (hs2 : ∀ env x, foldedSetIterable iter2 env x = pure x := by intro _ _; rfl) :
    PE X (.ListComp elt [⟨tg, iter, ifs, 0⟩, ⟨tg1, iter1, ifs1, 0⟩, ⟨tg2, iter2, ifs2, 0⟩] scope pos) (tLcN wi g tt (fun D => chFor wi1 g1 tt1 vs1 (chFor wi2 g2 tt2 vs2 (chEnd D te))) (own.map (·.2))) :=
  pe_lcN hc hN hi ok hv1 hg ht hs (fun s H C cl fp D => body_for (B := X.blk s H scope (compEnvC scope cl C X.env) fp) rfl rfl hc (hi1 s H C cl fp) (hg1 s H C cl fp) (ht1 s H C cl fp) (body_for (B := X.blk s H scope (compEnvC scope cl C X.env) fp) rfl rfl hc (hi2 s H C cl fp) (hg2 s H C cl fp) (ht2 s H C cl fp) (body_end (B := X.blk s H scope (compEnvC scope cl C X.env) fp) rfl rfl (he s H C cl fp)) (fun i hi => by cases hi) loop3_2 start3_2) hv2 (loop3_1 (hs2 _)) start3_1)
    fun D ce => loop3_0 (hs1 ce)

/-! ### chains of clauses over data -/
abbrev WCh := Env' → List D → Sto → (List D → Sto → Prop) → Prop
@[simp ↓] def wcEnd (te : WE) : WCh := fun env acc st P => te env st fun y s1 => acc.length < 100000 ∧ P (acc ++ [y]) s1
def wcLoop (g : WG) (tt : WT) (ch : WCh) (stb : Sto → Prop) (env : Env') : List D → List D → Sto → (List D → Sto → Prop) → Prop
  | [], acc, st, P => stb st ∧ P acc st
  | d :: ds, acc, st, P => stb st ∧ g d env st fun env2 s2 => tt env2 s2 fun b s3 => if b = true then ch env2 acc s3 fun acc' s4 => wcLoop g tt ch stb env ds acc' s4 P else wcLoop g tt ch stb env ds acc s3 P
@[simp ↓] def wcFor (wi : WI) (vs : List Nat) (g : WG) (tt : WT) (ch : WCh) : WCh := fun env acc st P => wi env st fun ds stb s1 => wcLoop g tt ch stb (wipeE env vs) ds acc s1 P
def ChRep (K : PySem.W.Frag) (p : Addr) (c : WCh) (ch : L2.St → Hp → (Hp → Prop) → Prop) : Prop := ∀ (am : List Addr) (env : Env') (σ : L2.St) (H : Hp) (st : Sto) (acc : List D) (us : List V) (P : List D → Sto → Prop) (Nx : Hp → Prop),
  RepN K am H env σ → RepS K am H st → H p = some (.lst us) → p ∉ am → RepVs K am H acc us → c env acc st P →
  (∀ am' H' acc' us' st', ExtP p am H am' H' → H' p = some (.lst us') → p ∉ am' → RepS K am' H' st' → RepVs K am' H' acc' us' → P acc' st' → Nx H') → ch σ H Nx
theorem ch_end {te : WE} {p : Addr} : ChRep K p (wcEnd te) (chEnd p (tD K te)) := fun am env σ H st acc us P Nx hn hs hd nm rv q fin => by
  refine ⟨am, env, st, _, hn, hs, q, fun am5 H5 w y st5 x5 r5 rw5 q5 => ?_⟩
  obtain ⟨hd5, hn5⟩ := x5.untold hd nm
  have rv5 := RepVs.ext x5 _ _ rv
  refine ⟨us, hd5, by rw [← rv5.length]; exact bigl _ q5.1, fin am5 _ (acc ++ [y]) (us ++ [w]) st5 ((x5.p p).step (ExtP.own hd5) (by rw [hd5]; exact fun z => by cases z)) upd_same hn5 (r5.own hd5 hn5) ?_ q5.2⟩
  exact RepVs.ext0 (Ext0.own hd5) _ _ (rv5.append (.cons rw5 .nil))
theorem cloopN {is vs : List Nat} {J : It} {am0 : List Addr} {H0 H1 : Hp} {p : Addr} {ds : List D} {stb : Sto → Prop} {g : WG} {tt : WT} {c : WCh} {ch : L2.St → Hp → (Hp → Prop) → Prop} {σ : L2.St} {env : Env'} {acc0 : List D} {us0 : List V} {s0 : Sto} {P : List D → Sto → Prop} {Qd : Hp → Prop}
    (hc : ChRep K p c ch) (hsub : ∀ i ∈ is, i ∈ vs) (jok : JOk K Hs am0 H0 J ds stb) (hp : Hs p ≠ none ∨ H0 p = none) (x01 : ExtP p am0 H0 am0 H1) (n0 : RepN K am0 H0 env σ) (hD : H1 p = some (.lst us0)) (nm : p ∉ am0) (r0 : RepS K am0 H1 s0) (ra : RepVs K am0 H1 acc0 us0)
    (q : wcLoop g tt c stb (wipeE env vs) ds acc0 s0 P)
    (fin : ∀ am H acc us st, ExtP p am0 H0 am H → H p = some (.lst us) → p ∉ am → RepS K am H st → RepVs K am H acc us → P acc st → Qd H) :
    ∃ W : Nat → Nat → Hp → Prop, (∃ m, W 0 m H1) ∧ ∀ i m H, W i m H →
      (J.stop i H ∧ Qd H) ∨ (J.go i H ∧ ∃ Nx : Hp → Prop, (∀ H', Nx H' → ∃ m', m' < m ∧ W (i + 1) m' H') ∧ ∀ x H', J.yld i H x H' → tDg K is g x (L2.wipe σ vs) H' fun σ2 H2 => L2.wipe σ2 vs = L2.wipe σ vs ∧ tDb K tt σ2 H2 fun b H3 =>
        if b = true then ch σ2 H3 Nx else Nx H3) := by
  refine ⟨fun i m H => ∃ am st acc us, ExtP p am0 H0 am H ∧ H p = some (.lst us) ∧ p ∉ am ∧ RepS K am H st ∧ RepVs K am H acc us ∧ wcLoop g tt c stb (wipeE env vs) (ds.drop i) acc st P ∧ m = ds.length - i, ⟨ds.length, am0, s0, acc0, us0, x01, hD, nm, r0, ra, q, by omega⟩,
    fun i m H ⟨am, st, acc, us, x, hd, hn, r, rv, q, em⟩ => ?_⟩
  have xj := x.j hp
  by_cases hi : i < ds.length
  · right
    rw [List.drop_eq_getElem_cons hi] at q
    obtain ⟨q0, q⟩ := q
    refine ⟨jok.go am H st i xj r q0 hi, fun H' => ∃ am' st' acc' us', ExtP p am0 H0 am' H' ∧ H' p = some (.lst us') ∧ p ∉ am' ∧ RepS K am' H' st' ∧ RepVs K am' H' acc' us' ∧ wcLoop g tt c stb (wipeE env vs) (ds.drop (i + 1)) acc' st' P,
      fun H' ⟨am', st', acc', us', h1, h2, h3, h4, h5, h6⟩ => ⟨ds.length - (i + 1), by omega, am', st', acc', us', h1, h2, h3, h4, h5, h6, rfl⟩, fun y H' hy => ?_⟩
    obtain ⟨x2, r2, d, ed, rd⟩ := jok.yl am H st i y H' xj r q0 hi hy
    rw [List.getElem?_eq_getElem hi] at ed
    cases ed
    have ne : H p ≠ none := by rw [hd]; exact fun z => by cases z
    obtain ⟨hd2, hn2⟩ := x2.untold hd hn
    have xx2 := x.step (x2.p p) ne
    refine ⟨am, wipeE env vs, st, ds[i], _, (n0.ext0 xx2.toExt0).wipe vs, r2, rd, q, fun am3 H3 env3 σ3 st3 x3 n3 r3 o3 q3 => ⟨wipe_only o3 hsub, ?_⟩⟩
    obtain ⟨hd3, hn3⟩ := x3.untold hd2 hn2
    refine ⟨am3, env3, st3, _, n3, r3, q3, fun am4 H4 b st4 x4 r4 q4 => ?_⟩
    obtain ⟨hd4, hn4⟩ := x4.untold hd3 hn3
    have xx4 := xx2.step ((x3.trans x4).p p) (by rw [hd2]; exact fun z => by cases z)
    have rv4 := RepVs.ext ((x2.trans x3).trans x4) _ _ rv
    cases b with
    | false =>
      simp only [Bool.false_eq_true, if_false] at q4 ⊢
      exact ⟨am4, st4, acc, us, xx4, hd4, hn4, r4, rv4, q4⟩
    | true =>
      simp only [if_true] at q4 ⊢
      refine hc am4 env3 σ3 H4 st4 acc us _ _ (n3.ext x4) r4 hd4 hn4 rv4 q4 fun am5 H5 acc5 us5 st5 x5 hd5 hn5 r5 rv5 q5 => ?_
      exact ⟨am5, st5, acc5, us5, xx4.step x5 (by rw [hd4]; exact fun z => by cases z), hd5, hn5, r5, rv5, q5⟩
  · left
    rw [List.drop_eq_nil_of_le (by omega)] at q
    exact ⟨jok.stop am H st i xj r q.1 (by omega), fin am H acc us st x hd hn r rv q.2⟩
theorem ch_for {wi : WI} {is vs : List Nat} {g : WG} {tt : WT} {c : WCh} {ch : L2.St → Hp → (Hp → Prop) → Prop} {p : Addr} (hc : ChRep K p c ch) (hsub : ∀ i ∈ is, i ∈ vs) : ChRep K p (wcFor wi vs g tt c) (chFor (tDi K wi) (tDg K is g) (tDb K tt) vs ch) :=
  fun am env σ H st acc us P Nx hn hs hd nm rv q fin => by
    refine ⟨am, env, st, _, hn, hs, q, fun am5 H5 J5 ds5 stb5 st5 x5 r5 jok5 q5 => ?_⟩
    obtain ⟨hd5, hn5⟩ := x5.untold hd nm
    have ne : H p ≠ none := by rw [hd]; exact fun z => by cases z
    exact cloopN hc hsub jok5 (.inl ne) (Ext.refl.p p) (hn.ext x5) hd5 hn5 r5 (RepVs.ext x5 _ _ rv) q5 fun am6 H6 acc6 us6 st6 x6 hd6 hn6 r6 rv6 q6 =>
      fin am6 H6 acc6 us6 st6 ((x5.p p).step x6 (by rw [hd5]; exact fun z => by cases z)) hd6 hn6 r6 rv6 q6
@[simp ↓] def wCompN (wi : WI) (own : List Nat) (g : WG) (tt : WT) (c : WCh) : WA := fun env st P => wi env st fun ds stb s1 => wcLoop g tt c stb (wipeE env own) ds [] s1 P
abbrev wComp3 (wi : WI) (own : List Nat) (g : WG) (tt : WT) (wi1 : WI) (vs1 : List Nat) (g1 : WG) (tt1 : WT) (wi2 : WI) (vs2 : List Nat) (g2 : WG) (tt2 : WT) (te : WE) : WA := wCompN wi own g tt (wcFor wi1 vs1 g1 tt1 (wcFor wi2 vs2 g2 tt2 (wcEnd te)))
theorem to_lcN {wi : WI} {is vs : List Nat} {g : WG} {tt : WT} {c : WCh} {ch : Addr → L2.St → Hp → (Hp → Prop) → Prop} {σ : L2.St} {Q : VK} (hc : ∀ p, ChRep K p c (ch p)) (hsub : ∀ i ∈ is, i ∈ vs) (h : tDt K (wCompN wi vs g tt c) σ H Q) : tLcN (tDi K wi) (tDg K is g) (tDb K tt) ch vs σ H Q := by
  obtain ⟨am, env, st, P, hn, hs, q, k⟩ := h
  refine ⟨am, env, st, _, hn, hs, q, fun am1 H1 J ds stb s1 x1 r1 jok z p hp => ?_⟩
  have x2 := Ext.fresh (am := am1) (o := .lst []) hp
  refine cloopN (H1 := upd H1 p (.lst [])) (us0 := []) (hc p) hsub jok (.inr hp) (x2.p p) (hn.ext x1) upd_same (fun z => r1.notNone z hp) (r1.fresh hp) .nil z fun am2 H2 acc us st2 x3 hd hn2 r2 rv q2 => ?_
  have h0 := back_none x1 r1 hp
  exact k am2 H2 p us acc st2 (x1.thenP x3 h0) r2 h0 hd hn2 rv q2
theorem e_lc3 {elt tg iter tg1 iter1 tg2 iter2 : Expr} {ifs ifs1 ifs2 : List Expr} {scope : Scope} {own : List (Str × Nat)} {vs1 vs2 is is1 is2 : List Nat} {pos : Pos} {wi wi1 wi2 : WI} {g g1 g2 : WG} {tt tt1 tt2 : WT} {te : WE}
    (hc : X.calm = true) (hN : X.N.Nodup) (hi : PI X tg iter (tDi X.K wi)) (ok : BlkOk X.N X.env.scope scope own) (hv1 : ∀ i ∈ vs1, i ∈ own.map (·.2)) (hv2 : ∀ i ∈ vs2, i ∈ vs1) (hsub : ∀ i ∈ is, i ∈ own.map (·.2)) (hsub1 : ∀ i ∈ is1, i ∈ vs1) (hsub2 : ∀ i ∈ is2, i ∈ vs2)
    (hg : BG X scope tg (tDg X.K is g)) (ht : BT X scope ifs (tDb X.K tt)) (hi1 : BI X scope tg1 iter1 (tDi X.K wi1)) (hg1 : BG X scope tg1 (tDg X.K is1 g1)) (ht1 : BT X scope ifs1 (tDb X.K tt1)) (hi2 : BI X scope tg2 iter2 (tDi X.K wi2)) (hg2 : BG X scope tg2 (tDg X.K is2 g2)) (ht2 : BT X scope ifs2 (tDb X.K tt2))
    (he : BE X scope elt (tD X.K te)) (hs : ∀ x, foldedSetIterable iter X.env x = pure x := by intro _; rfl) (hs1 : ∀ env x, foldedSetIterable iter1 env x = pure x := by intro _ _; rfl) (hs2 : ∀ env x, foldedSetIterable iter2 env x = pure x := by intro _ _; rfl) :
    PE X (.ListComp elt [⟨tg, iter, ifs, 0⟩, ⟨tg1, iter1, ifs1, 0⟩, ⟨tg2, iter2, ifs2, 0⟩] scope pos) (tDt X.K (wComp3 wi (own.map (·.2)) g tt wi1 vs1 g1 tt1 wi2 vs2 g2 tt2 te)) :=
  PE.imp (pe_lc3 hc hN hi ok hv1 hv2 hg ht hi1 hg1 ht1 hi2 hg2 ht2 he hs hs1 hs2) fun σ H Q h => to_lcN (fun p => ch_for (ch_for ch_end hsub2) hsub1) hsub h
end Vd
set_option Elab.async false
set_option linter.all false
set_option maxRecDepth 100000
set_option maxHeartbeats 2000000
/-! Vs: rules to read the readings: loops, comprehensions, stores. -/
namespace Vd
open PySem PySem.Spec PyProof.Rows L2

@[simp] theorem ofString_eq {s t : String} : (Str.ofString s = Str.ofString t) = (s = t) := by
  apply propext
  constructor
  · intro h
    rw [Str.ofString_eq_toList, Str.ofString_eq_toList, Str.mk.injEq] at h
    have h2 : s.toList.map Char.toNat = t.toList.map Char.toNat := by simpa using h
    have : s.toList = t.toList := by
      clear h
      generalize s.toList = l at h2 ⊢
      generalize t.toList = m at h2 ⊢
      induction l generalizing m with
      | nil => cases m with
        | nil => rfl
        | cons _ _ => simp at h2
      | cons a l ih => cases m with
        | nil => simp at h2
        | cons b m =>
          simp only [List.map_cons, List.cons.injEq] at h2
          rw [ih m h2.2, Char.ext (UInt32.toNat_inj.mp h2.1)]
    exact String.toList_inj.mp this
  · rintro rfl; rfl
@[simp] theorem ofString_beq {s t : String} : (Str.ofString s == Str.ofString t) = decide (s = t) := by
  by_cases h : s = t
  · rw [h]; simp
  · rw [decide_eq_false h]
    rw [beq_eq_false_iff_ne]
    intro e
    rw [ofString_eq] at e
    exact h e
@[simp] theorem lookup_s {α : Type} {s t : String} {x : α} {l : List (Str × α)} : List.lookup (Str.ofString s) ((Str.ofString t, x) :: l) = if s = t then some x else List.lookup (Str.ofString s) l := by
  rw [List.lookup_cons, ofString_beq]
  by_cases h : s = t
  · simp [h]
  · simp [h]
/-! ### loops -/
theorem loop_ind {g : WG} {body : WS} {stb : Sto → Prop} {W : WEnds} (I : List D → Env' → Sto → Prop) (h0 : ∀ env st, I [] env st → stb st ∧ W.nx env st)
    (h1 : ∀ d ds env st, I (d :: ds) env st → (∀ env st, I ds env st → wLoop g body stb ds W env st) → stb st ∧ g d env st fun env2 st2 => body { nx := wLoop g body stb ds W, rt := W.rt, bk := W.nx, ct := wLoop g body stb ds W } env2 st2) :
    ∀ ds env st, I ds env st → wLoop g body stb ds W env st
  | [], env, st, h => h0 env st h
  | d :: ds, env, st, h => h1 d ds env st h (loop_ind I h0 h1 ds)
theorem cloop_ind {g : WG} {tt : WT} {te : WE} {stb : Sto → Prop} {env : Env'} {P : List D → Sto → Prop} (I : List D → List D → Sto → Prop) (h0 : ∀ acc st, I [] acc st → stb st ∧ P acc st)
    (h1 : ∀ d ds acc st, I (d :: ds) acc st → (∀ acc st, I ds acc st → wCLoop g tt te stb env ds acc st P) → stb st ∧ g d env st fun env2 s2 => tt env2 s2 fun b s3 => if b = true then te env2 s3 fun y s4 => acc.length < 100000 ∧ wCLoop g tt te stb env ds (acc ++ [y]) s4 P else wCLoop g tt te stb env ds acc s3 P) :
    ∀ ds acc st, I ds acc st → wCLoop g tt te stb env ds acc st P
  | [], acc, st, h => h0 acc st h
  | d :: ds, acc, st, h => h1 d ds acc st h (cloop_ind I h0 h1 ds)
theorem while_ind {t : WT} {body : WS} {W : WEnds} {env : Env'} {st : Sto} (V : Nat → Env' → Sto → Prop) (h0 : ∃ m, V m env st)
    (h : ∀ m env st, V m env st → ∀ K : Env' → Sto → Prop, (∀ e s m', m' < m → V m' e s → K e s) → t env st fun b s1 => if b = true then body { nx := K, ct := K, rt := W.rt, bk := W.nx } env s1 else W.nx env s1) : wsWhile t body W env st :=
  ⟨V, h0, fun m env st v => h m env st v _ fun e s m' hm hv => ⟨m', hm, hv⟩⟩
/-- a comprehension that leaves the store as it is -/
theorem comp_pure {g : WG} {tt : WT} {te : WE} {stb : Sto → Prop} {env : Env'} {st : Sto} {P : List D → Sto → Prop} (F : D → Option D) (hs : stb st) : ∀ {ds acc : List D}, ds.length + acc.length ≤ 100000 →
    (∀ d ∈ ds, ∀ (X : D → Sto → Prop) (Y : Sto → Prop), (match F d with | some y => X y st | none => Y st) → g d env st fun env2 s2 => tt env2 s2 fun b s3 => if b = true then te env2 s3 X else Y s3) → P (acc ++ ds.filterMap F) st →
    wCLoop g tt te stb env ds acc st P
  | [], acc, _, _, p => ⟨hs, by simpa using p⟩
  | d :: ds, acc, hl, h, p => by
    refine ⟨hs, h d List.mem_cons_self (fun y s4 => acc.length < 100000 ∧ wCLoop g tt te stb env ds (acc ++ [y]) s4 P) (fun s3 => wCLoop g tt te stb env ds acc s3 P) ?_⟩
    rw [List.length_cons] at hl
    cases q : F d with
    | none =>
      rw [List.filterMap_cons, q] at p
      exact comp_pure F hs (by omega) (fun d hd => h d (List.mem_cons_of_mem _ hd)) p
    | some y =>
      rw [List.filterMap_cons, q] at p
      refine ⟨by omega, comp_pure F hs (by rw [List.length_append, List.length_singleton]; omega) (fun d hd => h d (List.mem_cons_of_mem _ hd)) ?_⟩
      simpa using p
/-- .. that maps -/
theorem comp_mapD {g : WG} {tt : WT} {te : WE} {stb : Sto → Prop} {env : Env'} {st : Sto} {P : List D → Sto → Prop} (F : D → D) (hs : stb st) {ds acc : List D} (hl : ds.length + acc.length ≤ 100000)
    (h : ∀ d ∈ ds, ∀ (X : D → Sto → Prop) (Y : Sto → Prop), X (F d) st → g d env st fun env2 s2 => tt env2 s2 fun b s3 => if b = true then te env2 s3 X else Y s3) (p : P (acc ++ ds.map F) st) :
    wCLoop g tt te stb env ds acc st P := comp_pure (fun d => some (F d)) hs hl (fun d hd X Y q => h d hd X Y q) (by simpa using p)
/-- .. that picks -/
theorem comp_filter {g : WG} {tt : WT} {te : WE} {stb : Sto → Prop} {env : Env'} {st : Sto} {P : List D → Sto → Prop} (p : D → Bool) (hs : stb st) {ds acc : List D} (hl : ds.length + acc.length ≤ 100000)
    (h : ∀ d ∈ ds, ∀ (X : D → Sto → Prop) (Y : Sto → Prop), (if p d = true then X d st else Y st) → g d env st fun env2 s2 => tt env2 s2 fun b s3 => if b = true then te env2 s3 X else Y s3) (q : P (acc ++ ds.filter p) st) :
    wCLoop g tt te stb env ds acc st P := comp_pure (fun d => if p d = true then some d else none) hs hl (fun d hd X Y q => h d hd X Y (by
      by_cases c : p d = true
      · rw [if_pos c] at q ⊢; exact q
      · rw [if_neg c] at q ⊢; exact q)) (by
      have e : ds.filterMap (fun d => if p d = true then some d else none) = ds.filter p := by
        clear q h hl
        induction ds with
        | nil => rfl
        | cons d ds ih =>
          rw [List.filterMap_cons, List.filter_cons, ih]
          by_cases c : p d = true
          · simp [c]
          · simp [c]
      rw [e]; exact q)

/-- a statement, the rest unseen -/
theorem seq_step {f g : WS} {W : WEnds} {env : Env'} {st : Sto} (h : ∀ k : Env' → Sto → Prop, (∀ e s, g W e s → k e s) → f { nx := k, rt := W.rt, bk := W.bk, ct := W.ct } env st) : wsSeq f g W env st := h (g W) fun _ _ q => q
/-! ### stores -/
section
variable {st g : Sto} {c : Cell} {k n : Nat} {P : D → Sto → Prop} {Q : Sto → Prop}
theorem get_app (h : st[k]? = some c) : (st ++ g)[k]? = some c := by
  rw [List.getElem?_append_left (List.getElem?_eq_some_iff.mp h).1]; exact h
@[simp] theorem get_new0 : (st ++ g)[st.length]? = g[0]? := by
  rw [List.getElem?_append_right (Nat.le_refl _), Nat.sub_self]
@[simp] theorem get_new : (st ++ g)[st.length + n]? = g[n]? := by
  rw [List.getElem?_append_right (Nat.le_add_right _ _), Nat.add_sub_cancel_left]
@[simp] theorem set_new0 : (st ++ g).set st.length c = st ++ g.set 0 c := by
  rw [List.set_append_right _ _ (Nat.le_refl _), Nat.sub_self]
@[simp] theorem set_new : (st ++ g).set (st.length + n) c = st ++ g.set n c := by
  rw [List.set_append_right _ _ (Nat.le_add_right _ _), Nat.add_sub_cancel_left]
theorem set_old (h : st[k]? = some c) {c' : Cell} : (st ++ g).set k c' = st.set k c' ++ g := by
  rw [List.set_append_left _ _ (List.getElem?_eq_some_iff.mp h).1]
/-! ### the pieces at what they are given -/
@[simp] theorem kAdd_int {i j : Int} : kAdd (.int i) (.int j) st P = P (.int (i + j)) st := rfl
@[simp] theorem kAdd_tup {xs ys : List D} : kAdd (.tup xs) (.tup ys) st P = (xs.length + ys.length ≤ 100000 ∧ P (.tup (xs ++ ys)) st) := rfl
@[simp] theorem kI0_int {F : Int → Int → D} {i j : Int} : kI0 F (.int i) (.int j) st P = P (F i j) st := rfl
@[simp] theorem kI_int {C : Int → Int → Prop} {F : Int → Int → D} {i j : Int} : kI C F (.int i) (.int j) st P = (C i j ∧ P (F i j) st) := rfl
@[simp] theorem kEq_int {F : Bool → Bool} {i j : Int} : kEqF F (.int i) (.int j) st P = P (.bl (F (decide (i = j)))) st := rfl
@[simp] theorem kEq_str {F : Bool → Bool} {i j : Str} : kEqF F (.str i) (.str j) st P = P (.bl (F (decide (i = j)))) st := rfl
@[simp] theorem kEq_bl {F : Bool → Bool} {i j : Bool} : kEqF F (.bl i) (.bl j) st P = P (.bl (F (decide (i = j)))) st := rfl
@[simp] theorem kIs_bl {F : Bool → Bool} {i j : Bool} : kIsF F (.bl i) (.bl j) st P = P (.bl (F (decide (i = j)))) st := rfl
@[simp] theorem kIx_tup {xs : List D} {i : Int} : kIx (.tup xs) (.int i) st P = (match atD xs i with | some x => P x st | none => False) := rfl
@[simp] theorem kIx_kt {xs : List D} {i : Int} : kIx (.kt xs) (.int i) st P = (match atD xs i with | some x => P x st | none => False) := rfl
theorem kIx_lst {xs : List D} {i : Int} (h : st[k]? = some (.lst xs)) : kIx (.ob k) (.int i) st P = (match atD xs i with | some x => P x st | none => False) := by
  simp only [kIx, h] <;> rfl
@[simp] theorem kSl_tup {xs : List D} {lo hi : Option Int} : kSl (.tup xs) lo hi st P = P (.tup (cutD xs lo hi)) st := rfl
@[simp] theorem woSome_int {f : WE} {env : Env'} {R : Option Int → Sto → Prop} : woSome f env st R = f env st fun d s1 => match d with | .int i => R (some i) s1 | _ => False := rfl
@[simp] theorem atD0 {x : D} {xs : List D} : atD (x :: xs) 0 = some x := by simp [atD, ixN]
@[simp] theorem atD1 {x y : D} {xs : List D} : atD (x :: y :: xs) 1 = some y := by
  simp only [atD, ixN, List.length_cons]
  rw [if_pos (by omega), if_pos (by omega)]
  rfl
@[simp] theorem atD2 {x y z : D} {xs : List D} : atD (x :: y :: z :: xs) 2 = some z := by
  simp only [atD, ixN, List.length_cons]
  rw [if_pos (by omega), if_pos (by omega)]
  rfl
theorem atD_nat {x : D} {xs : List D} (h : xs[n]? = some x) : atD xs (n : Int) = some x := by
  have hl := (List.getElem?_eq_some_iff.mp h).1
  simp only [atD, ixN]
  rw [if_pos (by omega), if_pos (by omega)]
  simpa using h
theorem atD_int {x : D} {xs : List D} {i : Int} (h0 : 0 ≤ i) (h : xs[i.toNat]? = some x) : atD xs i = some x := by
  have := atD_nat h
  rwa [Int.toNat_of_nonneg h0] at this
@[simp] theorem keys1 {s : Str} {i : Int} : keysD [.str s, .int i] = some [.inr s, .inl i] := rfl
@[simp] theorem keys2 {s : Str} {i j : Int} : keysD [.str s, .int i, .int j] = some [.inr s, .inl i, .inl j] := rfl
@[simp] theorem keys3 {i j : Int} : keysD [.int i, .int j] = some [.inl i, .inl j] := rfl
end
@[simp] theorem truD_bl {st : Sto} {b : Bool} : truD st (.bl b) = some b := rfl
@[simp] theorem truD_int {st : Sto} {i : Int} : truD st (.int i) = some (i != 0) := rfl
@[simp] theorem truD_tup {st : Sto} {xs : List D} : truD st (.tup xs) = some (!xs.isEmpty) := rfl
theorem truD_lst {st : Sto} {k : Nat} {xs : List D} (h : st[k]? = some (.lst xs)) : truD st (.ob k) = some (!xs.isEmpty) := by simp only [truD, h]
theorem isLst_at {st : Sto} {k : Nat} {xs : List D} (h : st[k]? = some (.lst xs)) : isLst st (.ob k) := ⟨xs, h⟩
theorem lstOf_at {st : Sto} {k : Nat} {xs : List D} {P : Nat → List D → Prop} (h : st[k]? = some (.lst xs)) : lstOf st (.ob k) P = P k xs := by simp only [lstOf, h]
theorem kAppend_at {st : Sto} {k : Nat} {xs : List D} {d : D} {P : D → Sto → Prop} (h : st[k]? = some (.lst xs)) : kAppend (.ob k) [d] st P = (xs.length < 100000 ∧ P .non (st.set k (.lst (xs ++ [d])))) := lstOf_at h
theorem seqIx_nat {i n : Nat} (h : i < n) : seqIndex? (i : Int) n = some i := by
  unfold seqIndex?
  have h1 : ¬ (i : Int) < 0 := by omega
  simp only [if_neg h1]
  have h2 : (decide (0 ≤ (i : Int)) && decide ((i : Int) < (n : Int))) = true := by
    rw [Bool.and_eq_true, decide_eq_true_eq, decide_eq_true_eq]; omega
  rw [if_pos h2]; rfl
theorem kPop_nat {st : Sto} {k i : Nat} {xs : List D} {x : D} {P : D → Sto → Prop} (h : st[k]? = some (.lst xs)) (hx : xs[i]? = some x) (hl : xs.length ≤ 100000) : kPop (.ob k) [.int (i : Nat)] st P = P x (st.set k (.lst (xs.eraseIdx i))) := by
  have hi := (List.getElem?_eq_some_iff.mp hx).1
  unfold kPop
  rw [lstOf_at h]
  simp only [seqIx_nat hi, hx]
  simp [hl]
theorem wPutF_at {C fl : Str} {st : Sto} {n : Nat} {fs : List (Str × D)} {v : D} {P : Sto → Prop} (h : st[n]? = some (.ins C fs)) : wPutF C fl (.ob n) v st P = (fs.length < 1000 ∧ P (st.set n (.ins C (putFD fl v fs)))) := by
  simp only [wPutF, h]
  simp
@[simp] theorem putFD_nil {f : Str} {v : D} : putFD f v [] = [(f, v)] := rfl
@[simp] theorem putFD_cons {f g : String} {v x : D} {r : List (Str × D)} : putFD (Str.ofString f) v ((Str.ofString g, x) :: r) = if g = f then (Str.ofString g, v) :: r else (Str.ofString g, x) :: putFD (Str.ofString f) v r := by
  rw [putFD]
  by_cases h : g = f
  · simp [h]
  · simp [h]
@[simp] theorem isLst_new {st g : Sto} {xs : List D} : isLst (st ++ .lst xs :: g) (.ob st.length) := ⟨xs, by simp⟩
@[simp] theorem isLst_new1 {st g : Sto} {c : Cell} {xs : List D} : isLst (st ++ c :: .lst xs :: g) (.ob (st.length + 1)) := ⟨xs, by simp⟩
@[simp] theorem kAppend_new {st g : Sto} {xs : List D} {d : D} {P : D → Sto → Prop} : kAppend (.ob st.length) [d] (st ++ .lst xs :: g) P = (xs.length < 100000 ∧ P .non (st ++ .lst (xs ++ [d]) :: g)) := by
  rw [kAppend_at (xs := xs) (by simp)]; simp
@[simp] theorem kAppend_new1 {st g : Sto} {c : Cell} {xs : List D} {d : D} {P : D → Sto → Prop} : kAppend (.ob (st.length + 1)) [d] (st ++ c :: .lst xs :: g) P = (xs.length < 100000 ∧ P .non (st ++ c :: .lst (xs ++ [d]) :: g)) := by
  rw [kAppend_at (xs := xs) (by simp)]; simp
@[simp] theorem intsD_map {l : List Int} : intsD (l.map D.int) = some l := by
  induction l with
  | nil => rfl
  | cons a l ih => simp [intsD, ih]
@[simp] theorem boolsD_map {l : List Bool} : boolsD (l.map D.bl) = some l := by
  induction l with
  | nil => rfl
  | cons a l ih => simp [boolsD, ih]
theorem cut_to {xs : List D} {k : Nat} : Vd.cutD xs none (some (k : Int)) = xs.take k := by
  unfold Vd.cutD
  rw [HT.sIx_nat, HT.sIx_none, List.drop_zero, Nat.sub_zero]
  by_cases h : k ≤ xs.length
  · rw [Nat.min_eq_left h]
  · rw [Nat.min_eq_right (by omega), List.take_length, List.take_of_length_le (by omega)]
theorem cut_from {xs : List D} {k : Nat} : Vd.cutD xs (some (k : Int)) none = xs.drop k := by
  unfold Vd.cutD
  rw [HT.sIx_nat, HT.sIx_none]
  by_cases h : k ≤ xs.length
  · rw [Nat.min_eq_left h, List.take_of_length_le (by rw [List.length_drop]; omega)]
  · rw [Nat.min_eq_right (by omega), List.drop_eq_nil_of_le (Nat.le_refl _), List.drop_eq_nil_of_le (by omega : xs.length ≤ k)]
    simp
theorem cut_from1 {xs : List D} {k : Nat} : Vd.cutD xs (some ((k : Int) + 1)) none = xs.drop (k + 1) := cut_from (k := k + 1)
theorem cut_mid {xs : List D} {i j : Nat} (h : i ≤ j) (hj : j ≤ xs.length) : Vd.cutD xs (some (i : Int)) (some (j : Int)) = (xs.drop i).take (j - i) := by
  unfold Vd.cutD
  rw [HT.sIx_nat, HT.sIx_nat, Nat.min_eq_left hj, Nat.min_eq_left (by omega)]
mutual
theorem okD_mono {n m : Nat} (h : n ≤ m) : ∀ d : D, okD n d = true → okD m d = true
  | .tup ds, q => by
    simp only [okD] at q ⊢
    exact okDs_mono h ds q
  | .kt ds, q => by
    simp only [okD] at q ⊢
    exact okDs_mono h ds q
  | .ob k, q => by
    simp only [okD, decide_eq_true_eq] at q ⊢
    omega
  | .non, _ => by simp [okD]
  | .bl _, _ => by simp [okD]
  | .int _, _ => by simp [okD]
  | .str _, _ => by simp [okD]
  | .rng _ _, _ => by simp [okD]
  | .ty _, _ => by simp [okD]
theorem okDs_mono {n m : Nat} (h : n ≤ m) : ∀ ds : List D, okDs n ds = true → okDs m ds = true
  | [], _ => by simp [okDs]
  | d :: ds, q => by
    rw [okDs, Bool.and_eq_true] at q ⊢
    exact ⟨okD_mono h d q.1, okDs_mono h ds q.2⟩
end
theorem okC_mono {n m : Nat} (h : n ≤ m) {c : Cell} (q : okC n c = true) : okC m c = true := by
  cases c <;> simp only [okC] at q ⊢ <;> exact okDs_mono h _ q
/-- one list is kept -/
theorem gc_one {P : D → Sto → Prop} {st g : Sto} {i : Nat} {xs : List D} (hs : okS st.length st) (hg : g[i]? = some (.lst xs)) (hx : okDs st.length xs = true) (p : P (.ob st.length) (st ++ [.lst xs])) : gcP st.length P (.ob (st.length + i)) (st ++ g) := by
  intro _ _
  have hi : (st ++ g)[st.length + i]? = some (.lst xs) := by rw [get_new]; exact hg
  refine ⟨[st.length + i], .ob st.length, st ++ [.lst xs], ⟨by simp, fun j hj => ?_, List.nodup_cons.mpr ⟨by simp, List.nodup_nil⟩, ?_, by simp, fun j c hj hc => ?_, fun j k h => ?_⟩, p⟩
  · rw [List.mem_singleton.mp hj]; omega
  · simp [ren, rho, ixJ]
    omega
  · rw [List.getElem?_append_left hj] at hc
    rw [List.getElem?_append_left hj, renC_old (hs c (List.mem_of_getElem? hc)), hc]
  · cases j with
    | zero =>
      simp at h
      subst h
      exact ⟨_, hi, by simp [renC, rens_old _ hx]⟩
    | succ j => simp at h
def enumK (k : Nat) (ds : List D) : List D := (ds.zipIdx k).map fun p => .tup [.int (p.2 : Nat), p.1]
@[simp] theorem enumK_nil {k : Nat} : enumK k [] = [] := rfl
@[simp] theorem enumK_cons {k : Nat} {d : D} {ds : List D} : enumK k (d :: ds) = .tup [.int (k : Nat), d] :: enumK (k + 1) ds := by simp [enumK]
theorem enumD_K {ds : List D} : enumD ds = enumK 0 ds := rfl
end Vd
set_option Elab.async false
set_option linter.all false
set_option maxRecDepth 100000
set_option maxHeartbeats 0
namespace Hd
open PySem PySem.Spec PyProof.Rows L2 Vd
def top (i : Nat) : Stmt := PySem.Challenge.pw_howeverheard_k79_whole_watches.main.body.getD i (.Pass ⟨0, 0, 0, 0⟩)
def d0 : He.DefD := ⟨("_wall", none), "_wall", "_wall", defArgs (top 0), defBody (top 0), defScope (top 0), [], []⟩
def d1 : He.DefD := ⟨("all_changes", none), "all_changes", "all_changes", defArgs (top 4), defBody (top 4), defScope (top 4), [], []⟩
def d2 : He.DefD := ⟨("without_change", none), "without_change", "without_change", defArgs (top 5), defBody (top 5), defScope (top 5), [], []⟩
def d3 : He.DefD := ⟨("changes_of", none), "changes_of", "changes_of", defArgs (top 6), defBody (top 6), defScope (top 6), [], []⟩
def d4 : He.DefD := ⟨("two_rows", none), "two_rows", "two_rows", defArgs (top 7), defBody (top 7), defScope (top 7), [], []⟩
def d5 : He.DefD := ⟨("Hearing", some "__init__"), "__init__", "Hearing.__init__", defArgs (inClass (top 9) 0), defBody (inClass (top 9) 0), defScope (inClass (top 9) 0), [], []⟩
def d6 : He.DefD := ⟨("Hearing", some "join"), "join", "Hearing.join", defArgs (inClass (top 9) 1), defBody (inClass (top 9) 1), defScope (inClass (top 9) 1), [], []⟩
def d7 : He.DefD := ⟨("Hearing", some "is_idle"), "is_idle", "Hearing.is_idle", defArgs (inClass (top 9) 2), defBody (inClass (top 9) 2), defScope (inClass (top 9) 2), [], []⟩
def d8 : He.DefD := ⟨("Hearing", some "is_held"), "is_held", "Hearing.is_held", defArgs (inClass (top 9) 3), defBody (inClass (top 9) 3), defScope (inClass (top 9) 3), [], []⟩
def d9 : He.DefD := ⟨("Hearing", some "is_loose"), "is_loose", "Hearing.is_loose", defArgs (inClass (top 9) 4), defBody (inClass (top 9) 4), defScope (inClass (top 9) 4), [], []⟩
def d10 : He.DefD := ⟨("Hearing", some "lot"), "lot", "Hearing.lot", defArgs (inClass (top 9) 5), defBody (inClass (top 9) 5), defScope (inClass (top 9) 5), [], []⟩
def d11 : He.DefD := ⟨("is_spared", none), "is_spared", "is_spared", defArgs (top 11), defBody (top 11), defScope (top 11), [], []⟩
def d12 : He.DefD := ⟨("kept_signs", none), "kept_signs", "kept_signs", defArgs (top 12), defBody (top 12), defScope (top 12), [], []⟩
def d13 : He.DefD := ⟨("leading", none), "leading", "leading", defArgs (top 13), defBody (top 13), defScope (top 13), [], []⟩
def d14 : He.DefD := ⟨("first_order", none), "first_order", "first_order", defArgs (top 14), defBody (top 14), defScope (top 14), [], []⟩
def d15 : He.DefD := ⟨("plain_by", none), "plain_by", "plain_by", defArgs (top 15), defBody (top 15), defScope (top 15), [], []⟩
def d16 : He.DefD := ⟨("are_kin", none), "are_kin", "are_kin", defArgs (top 16), defBody (top 16), defScope (top 16), [], []⟩
def d17 : He.DefD := ⟨("Watch", some "__init__"), "__init__", "Watch.__init__", defArgs (inClass (top 18) 0), defBody (inClass (top 18) 0), defScope (inClass (top 18) 0), [], []⟩
def d18 : He.DefD := ⟨("Watch", some "see"), "see", "Watch.see", defArgs (inClass (top 18) 1), defBody (inClass (top 18) 1), defScope (inClass (top 18) 1), [], []⟩
def d19 : He.DefD := ⟨("Watch", some "strange"), "strange", "Watch.strange", defArgs (inClass (top 18) 2), defBody (inClass (top 18) 2), defScope (inClass (top 18) 2), [], []⟩
def d20 : He.DefD := ⟨("Watch", some "explaining"), "explaining", "Watch.explaining", defArgs (inClass (top 18) 3), defBody (inClass (top 18) 3), defScope (inClass (top 18) 3), [], []⟩
def d21 : He.DefD := ⟨("Watch", some "needed"), "needed", "Watch.needed", defArgs (inClass (top 18) 4), defBody (inClass (top 18) 4), defScope (inClass (top 18) 4), [], []⟩
def d22 : He.DefD := ⟨("Watch", some "pairs"), "pairs", "Watch.pairs", defArgs (inClass (top 18) 5), defBody (inClass (top 18) 5), defScope (inClass (top 18) 5), [], []⟩
def d23 : He.DefD := ⟨("joins", none), "joins", "joins", defArgs (top 20), defBody (top 20), defScope (top 20), [], []⟩
def d24 : He.DefD := ⟨("is_spare", none), "is_spare", "is_spare", defArgs (top 21), defBody (top 21), defScope (top 21), [], []⟩
def d25 : He.DefD := ⟨("_law_keg", none), "_law_keg", "_law_keg", defArgs (top 23), defBody (top 23), defScope (top 23), [], []⟩
def d26 : He.DefD := ⟨("_law_pour", none), "_law_pour", "_law_pour", defArgs (top 24), defBody (top 24), defScope (top 24), [], []⟩
def d27 : He.DefD := ⟨("_law_every", none), "_law_every", "_law_every", defArgs (top 25), defBody (top 25), defScope (top 25), [], []⟩
def d28 : He.DefD := ⟨("_law_setting", none), "_law_setting", "_law_setting", defArgs (top 26), defBody (top 26), defScope (top 26), [], []⟩
def d29 : He.DefD := ⟨("_law_lots", none), "_law_lots", "_law_lots", defArgs (top 27), defBody (top 27), defScope (top 27), [], []⟩
def d30 : He.DefD := ⟨("_law_kept", none), "_law_kept", "_law_kept", defArgs (top 28), defBody (top 28), defScope (top 28), [], []⟩
def d31 : He.DefD := ⟨("_law_alike", none), "_law_alike", "_law_alike", defArgs (top 29), defBody (top 29), defScope (top 29), [], []⟩
def d32 : He.DefD := ⟨("_law_same", none), "_law_same", "_law_same", defArgs (top 30), defBody (top 30), defScope (top 30), [], []⟩
def d33 : He.DefD := ⟨("_law_strange", none), "_law_strange", "_law_strange", defArgs (top 31), defBody (top 31), defScope (top 31), [], []⟩
def d34 : He.DefD := ⟨("_law_explaining", none), "_law_explaining", "_law_explaining", defArgs (top 32), defBody (top 32), defScope (top 32), [], []⟩
def d35 : He.DefD := ⟨("_law_needed", none), "_law_needed", "_law_needed", defArgs (top 33), defBody (top 33), defScope (top 33), [], []⟩
def d36 : He.DefD := ⟨("_law_see", none), "_law_see", "_law_see", defArgs (top 34), defBody (top 34), defScope (top 34), [], []⟩
def d37 : He.DefD := ⟨("_law_is", none), "_law_is", "_law_is", defArgs (top 35), defBody (top 35), defScope (top 35), [], []⟩
def d38 : He.DefD := ⟨("_law_whole", none), "_law_whole", "_law_whole", defArgs (top 36), defBody (top 36), defScope (top 36), [], []⟩
def d39 : He.DefD := ⟨("_law_row", none), "_law_row", "_law_row", defArgs (top 37), defBody (top 37), defScope (top 37), [], []⟩
def d40 : He.DefD := ⟨("_law_walked", none), "_law_walked", "_law_walked", defArgs (top 38), defBody (top 38), defScope (top 38), [], []⟩
def d41 : He.DefD := ⟨("_law_pair", none), "_law_pair", "_law_pair", defArgs (top 39), defBody (top 39), defScope (top 39), [], []⟩
def d42 : He.DefD := ⟨("_law_by_hand", none), "_law_by_hand", "_law_by_hand", defArgs (top 40), defBody (top 40), defScope (top 40), [], []⟩
def d43 : He.DefD := ⟨("_law_of_changes", none), "_law_of_changes", "_law_of_changes", defArgs (top 41), defBody (top 41), defScope (top 41), [], []⟩
def d44 : He.DefD := ⟨("law", none), "law", "law", defArgs (top 42), defBody (top 42), defScope (top 42), [], []⟩
def fn0 : List He.DefD := [d0, d1, d2, d3, d4, d5, d6, d7, d8, d9, d10, d11, d12, d13, d14, d15, d16, d17, d18, d19, d20, d21, d22, d23, d24, d25, d26, d27, d28, d29]
def fn1 : List He.DefD := [d30, d31, d32, d33, d34, d35, d36, d37, d38, d39, d40, d41, d42, d43, d44]
def fn : List He.DefD := fn0 ++ fn1
def fa0 : List He.Fa := [.glo "_wall", .glo "ALONE", .glo "PAIRED", .glo "all_changes", .glo "without_change", .glo "changes_of", .glo "two_rows", .glo "Hearing", .cls "Hearing", .mkr "Hearing", .meth "Hearing" "join", .meth "Hearing" "is_idle", .meth "Hearing" "is_held", .meth "Hearing" "is_loose", .meth "Hearing" "lot", .noat "Hearing" "first", .noat "Hearing" "held", .noat "Hearing" "idle", .noat "Hearing" "pairs", .glo "is_spared", .glo "kept_signs", .glo "leading", .glo "first_order", .glo "plain_by", .glo "are_kin", .glo "Watch", .cls "Watch", .mkr "Watch", .meth "Watch" "see", .meth "Watch" "strange"]
def fa1 : List He.Fa := [.meth "Watch" "explaining", .meth "Watch" "needed", .meth "Watch" "pairs", .noat "Watch" "_pairs", .noat "Watch" "_setting", .glo "joins", .glo "is_spare", .glo "_law_keg", .glo "_law_pour", .glo "_law_every", .glo "_law_setting", .glo "_law_lots", .glo "_law_kept", .glo "_law_alike", .glo "_law_same", .glo "_law_strange", .glo "_law_explaining", .glo "_law_needed", .glo "_law_see", .glo "_law_is", .glo "_law_whole", .glo "_law_row", .glo "_law_walked", .glo "_law_pair", .glo "_law_by_hand", .glo "_law_of_changes", .glo "law", .free "abs", .free "all", .free "bool"]
def fa2 : List He.Fa := [.free "enumerate", .free "int", .free "isinstance", .free "len", .free "list", .free "max", .free "min", .free "range", .free "reversed", .free "sorted", .free "str", .free "tuple"]
def fa : List He.Fa := fa0 ++ fa1 ++ fa2
def loose0 : List PySem.Str := ["_wall", "ALONE", "PAIRED", "all_changes", "without_change", "changes_of", "two_rows", "Hearing", "is_spared", "kept_signs", "leading", "first_order", "plain_by", "are_kin", "Watch", "joins", "is_spare", "_law_keg", "_law_pour", "_law_every", "_law_setting", "_law_lots", "_law_kept", "_law_alike", "_law_same", "_law_strange", "_law_explaining", "_law_needed", "_law_see", "_law_is"]
def loose1 : List PySem.Str := ["_law_whole", "_law_row", "_law_walked", "_law_pair", "_law_by_hand", "_law_of_changes"]
def loose : List PySem.Str := loose0 ++ loose1
def nolist (K : PySem.W.Frag) : Bool := K.all fun p => !(p.2.cls == (Value.type "list"))
def ex (K : PySem.W.Frag) : Bool := nolist K && He.tupB K "ALONE" [.str "held", .str "idle"] && He.tupB K "PAIRED" [.str "loose", .str "same"]
end Hd
set_option Elab.async false
set_option linter.all false
set_option maxRecDepth 100000
set_option maxHeartbeats 0
namespace Hd
open PySem PySem.Spec PyProof.Rows L2 Vd
section
variable {K : PySem.W.Frag} {mg : Str → Option Value} {P : Program} {w : World} {base : Heap}
theorem ex0 (F : Fc fa fn ex K mg) : He.tupB K "ALONE" [.str "held", .str "idle"] = true := by
  have h := F.q.ex
  simp only [ex, Bool.and_eq_true] at h
  exact h.1.2
theorem ex1 (F : Fc fa fn ex K mg) : He.tupB K "PAIRED" [.str "loose", .str "same"] = true := by
  have h := F.q.ex
  simp only [ex, Bool.and_eq_true] at h
  exact h.2
theorem ex_nolist (F : Fc fa fn ex K mg) : nolist K = true := by
  have h := F.q.ex
  simp only [ex, Bool.and_eq_true] at h
  exact h.1.1
abbrev N_all_changes : List Str := ["many", "signs", "found", "kind", "sign", "one", "other"]
abbrev P_all_changes : List Str := ["many"]
abbrev N_without_change : List Str := ["setting", "number"]
abbrev P_without_change : List Str := ["setting", "number"]
abbrev N_changes_of : List Str := ["setting", "kind", "change"]
abbrev P_changes_of : List Str := ["setting", "kind"]
abbrev N_two_rows : List Str := ["change", "kind", "sign"]
abbrev P_two_rows : List Str := ["change"]
abbrev N_Hearing_init : List Str := ["self", "setting", "many", "sign", "_", "one", "other", "kind", "rows"]
abbrev P_Hearing_init : List Str := ["self", "setting"]
abbrev N_Hearing_join : List Str := ["self", "one", "other", "low", "high", "place"]
abbrev P_Hearing_join : List Str := ["self", "one", "other"]
abbrev N_Hearing_is_idle : List Str := ["self", "sign"]
abbrev P_Hearing_is_idle : List Str := ["self", "sign"]
abbrev N_Hearing_is_held : List Str := ["self", "sign"]
abbrev P_Hearing_is_held : List Str := ["self", "sign"]
abbrev N_Hearing_is_loose : List Str := ["self", "one", "other"]
abbrev P_Hearing_is_loose : List Str := ["self", "one", "other"]
abbrev N_Hearing_lot : List Str := ["self", "sign", "other", "first"]
abbrev P_Hearing_lot : List Str := ["self", "sign"]
abbrev N_is_spared : List Str := ["hearing", "found", "sign", "other"]
abbrev P_is_spared : List Str := ["hearing", "found", "sign"]
abbrev N_kept_signs : List Str := ["hearing", "row", "found", "sign", "first"]
abbrev P_kept_signs : List Str := ["hearing", "row"]
abbrev N_leading : List Str := ["hearing", "row", "ahead", "found", "at", "sign", "other"]
abbrev P_leading : List Str := ["hearing", "row"]
abbrev N_first_order : List Str := ["hearing", "row", "left", "found", "best", "at"]
abbrev P_first_order : List Str := ["hearing", "row"]
abbrev N_plain_by : List Str := ["hearing", "row"]
abbrev P_plain_by : List Str := ["hearing", "row"]
abbrev N_are_kin : List Str := ["setting", "row", "other", "hearing"]
abbrev P_are_kin : List Str := ["setting", "row", "other"]
abbrev N_Watch_init : List Str := ["self", "setting"]
abbrev P_Watch_init : List Str := ["self", "setting"]
abbrev N_Watch_see : List Str := ["self", "meant", "heard"]
abbrev P_Watch_see : List Str := ["self", "meant", "heard"]
abbrev N_Watch_strange : List Str := ["self", "found", "number", "meant", "heard"]
abbrev P_Watch_strange : List Str := ["self"]
abbrev N_Watch_explaining : List Str := ["self", "signs", "changes", "found", "change", "wider", "meant", "heard"]
abbrev P_Watch_explaining : List Str := ["self"]
abbrev N_Watch_needed : List Str := ["self", "signs", "changes", "explained", "meant", "heard", "found", "number", "less", "kept"]
abbrev P_Watch_needed : List Str := ["self"]
abbrev N_Watch_pairs : List Str := ["self"]
abbrev P_Watch_pairs : List Str := ["self"]
abbrev N_joins : List Str := ["setting", "change", "one", "other"]
abbrev P_joins : List Str := ["setting", "change"]
abbrev N_is_spare : List Str := ["setting", "number"]
abbrev P_is_spare : List Str := ["setting", "number"]
abbrev N__law_keg : List Str := ["script", "tall", "dregs", "cell", "size"]
abbrev P__law_keg : List Str := ["script"]
abbrev N__law_pour : List Str := ["keg", "many", "tall", "at", "size"]
abbrev P__law_pour : List Str := ["keg", "many"]
abbrev N__law_every : List Str := ["many", "told", "s", "kind", "t"]
abbrev P__law_every : List Str := ["many"]
abbrev N__law_setting : List Str := ["keg", "many", "most", "pool", "kinds", "liked", "change", "changes", "k"]
abbrev P__law_setting : List Str := ["keg", "many", "most"]
abbrev N__law_lots : List Str := ["setting", "changes", "many", "lots", "s", "lap", "change", "low", "marks"]
abbrev P__law_lots : List Str := ["setting", "changes"]
abbrev N__law_kept : List Str := ["world", "row", "lots", "marks", "kept", "s", "lot", "at"]
abbrev P__law_kept : List Str := ["world", "row"]
abbrev N__law_alike : List Str := ["world", "row", "other", "left", "mine", "lot", "at", "k"]
abbrev P__law_alike : List Str := ["world", "row", "other"]
abbrev N__law_same : List Str := ["told", "due", "k"]
abbrev P__law_same : List Str := ["told", "due"]
abbrev N__law_strange : List Str := ["setting", "pairs", "world", "k"]
abbrev P__law_strange : List Str := ["setting", "pairs"]
abbrev N__law_explaining : List Str := ["setting", "pairs", "apart", "k", "told", "change", "world", "good", "row", "other"]
abbrev P__law_explaining : List Str := ["setting", "pairs"]
abbrev N__law_needed : List Str := ["setting", "pairs", "world", "heard", "pair", "told", "k"]
abbrev P__law_needed : List Str := ["setting", "pairs"]
abbrev N__law_see : List Str := ["book", "watch", "pair", "named", "setting", "pairs", "world", "kin", "due", "told"]
abbrev P__law_see : List Str := ["book", "watch", "pair", "named"]
abbrev N__law_is : List Str := ["book", "watch", "way", "setting", "pairs"]
abbrev P__law_is : List Str := ["book", "watch", "way"]
abbrev N__law_whole : List Str := ["keg", "book", "watch", "first", "k"]
abbrev P__law_whole : List Str := ["keg", "book", "watch", "first"]
abbrev N__law_row : List Str := ["keg", "many", "length", "few", "shift", "k"]
abbrev P__law_row : List Str := ["keg", "many", "length"]
abbrev N__law_walked : List Str := ["keg", "setting", "row", "laps", "lap", "change", "ends", "two", "turn", "old", "at", "place", "told"]
abbrev P__law_walked : List Str := ["keg", "setting", "row", "laps"]
abbrev N__law_pair : List Str := ["keg", "setting", "longest", "many", "row", "way", "other", "at"]
abbrev P__law_pair : List Str := ["keg", "setting", "longest"]
abbrev N__law_by_hand : List Str := ["keg", "named", "a", "b", "c", "setting", "watch", "book", "told", "due", "more"]
abbrev P__law_by_hand : List Str := ["keg", "named"]
abbrev N__law_of_changes : List Str := ["keg", "setting", "named", "watch", "book", "world", "change", "ends", "needed", "k", "told", "every", "alone", "due"]
abbrev P__law_of_changes : List Str := ["keg", "setting", "named"]
abbrev N_law : List Str := ["script", "keg", "wide", "great", "named", "books", "k", "many", "watches", "lap", "pair", "first"]
abbrev P_law : List Str := ["script"]
theorem sc_all_changes : FnScope N_all_changes P_all_changes (defScope (top 4)) := ⟨rfl, rfl, rfl, by decide +kernel, rfl, by decide +kernel, by decide +kernel⟩
def w_all_changes : WS := (wsSeq (wsSet 1 (wBlt kRng (waCons (wVar 0) waNil)))
  (wsSeq (wsSet 2 (wNew (wComp2 (wiSeq (wK (.kt ([.str "held", .str "idle"].map dvD)))) [3, 4] (wgName 3) wYes (wiSeq (wVar 1)) [4] (wgName 4) wYes (wTup (waCons (wVar 3) (waCons (wVar 4) waNil))))))
  (wsSeq (wsExpr (wExt (wVar 2) (wComp3 (wiSeq (wK (.kt ([.str "loose", .str "same"].map dvD)))) [3, 5, 6] (wgName 3) wYes (wiSeq (wVar 1)) [5, 6] (wgName 5) wYes (wiSeq (wVar 1)) [6] (wgName 6) (wTst (w2 kLt (wVar 5) (wVar 6))) (wTup (waCons (wVar 3) (waCons (wVar 5) (waCons (wVar 6) waNil)))))))
  (wsRet (wTupL (wSortD (wRdL (wVar 2))))))))
theorem der_all_changes (F : Fc fa fn ex K mg) (f : Addr) (cdv : Value) (A : Around) (outer : List Env) (s : Shared) (H : Hp) (E : XK) (hr : Room 0 (A.deeper (envOfC "all_changes" (defScope (top 4)) s.heap.objs.size f cdv))) :
    PSs (cxOf CX0 P w K mg base N_all_changes "all_changes" (defScope (top 4)) f cdv A outer s H E).nox (defBody (top 4)) (tDs K (w_all_changes)) :=
  have nd := sc_all_changes.nd
  (b_cons (s_set (i := 1) nd rfl (Or.inr rfl) (e_rng rfl (F.free 67) (a_cons (e_var (pv 0)) a_nil)))
  (b_cons (s_setLc2 (i := 2) (own := [("kind", 3), ("sign", 4)]) (vs1 := [4]) rfl nd rfl rfl (sw_true rfl rfl rfl (by decide +kernel)) (i_seq (e_gtup rfl (F.glo 1) (ex0 F))) (blkOk_by (N := N_all_changes) (sc := defScope (top 4)) (by decide +kernel)) (by intro i hi; revert hi; revert i; decide) (by intro i hi; revert hi; revert i; decide) (by intro i hi; revert hi; revert i; decide) (fun _ _ _ _ _ => (g_name (pg_name (i := 3) nd rfl (Or.inl rfl)))) (fun _ _ _ _ _ => ts_nil) (fun _ _ _ _ _ => (i_seq (e_var (pv 1)))) (fun _ _ _ _ _ => (g_name (pg_name (i := 4) nd rfl (Or.inl rfl)))) (fun _ _ _ _ _ => ts_nil) (fun _ _ _ _ _ => (e_tup (a_cons (e_var (pv 3)) (a_cons (e_var (pv 4)) a_nil)))))
  (b_cons (s_expr (e_extend (e_var (pv 2)) (e_lc3 (own := [("kind", 3), ("one", 5), ("other", 6)]) (vs1 := [5, 6]) (vs2 := [6]) rfl nd (i_seq (e_gtup rfl (F.glo 2) (ex1 F))) (blkOk_by (N := N_all_changes) (sc := defScope (top 4)) (by decide +kernel)) (by intro i hi; revert hi; revert i; decide) (by intro i hi; revert hi; revert i; decide) (by intro i hi; revert hi; revert i; decide) (by intro i hi; revert hi; revert i; decide) (by intro i hi; revert hi; revert i; decide) (fun _ _ _ _ _ => (g_name (pg_name (i := 3) nd rfl (Or.inl rfl)))) (fun _ _ _ _ _ => ts_nil) (fun _ _ _ _ _ => (i_seq (e_var (pv 1)))) (fun _ _ _ _ _ => (g_name (pg_name (i := 5) nd rfl (Or.inl rfl)))) (fun _ _ _ _ _ => ts_nil) (fun _ _ _ _ _ => (i_seq (e_var (pv 1)))) (fun _ _ _ _ _ => (g_name (pg_name (i := 6) nd rfl (Or.inl rfl)))) (fun _ _ _ _ _ => (ts_one (t_lt (e_var (pv 5)) (e_var (pv 6))))) (fun _ _ _ _ _ => (e_tup (a_cons (e_var (pv 3)) (a_cons (e_var (pv 5)) (a_cons (e_var (pv 6)) a_nil))))))))
  (b_one (s_ret (e_tupL rfl (F.free 71) (e_tl (e_sortD ⟨_, hr⟩ rfl (F.free 69) (e_rdL (e_var (pv 2)))))))))))
theorem ok_all_changes (F : Fc fa fn ex K mg) {sp : DSp} (hw : Keeps 1 7 (w_all_changes) sp) : DFn P w K mg base (0 + 1) (He.ga K "all_changes") P_all_changes sp := by
  obtain ⟨fd, Fd⟩ := F.def_ 1 (d := d1) rfl
  refine dfn_of Fd sc_all_changes hw ?_ (der_all_changes F _)
  exact by
    intro kV doc pm an cdv ct us ws n h1 h2 h3
    subst h2
    rcases us with _ | ⟨a0, _ | ⟨a1, us⟩⟩
    · obtain ⟨_, rfl⟩ := len1 h3; rfl
    · obtain ⟨rfl⟩ := len0 h3; rfl
    · simp at h1
theorem sc_without_change : FnScope N_without_change P_without_change (defScope (top 5)) := ⟨rfl, rfl, rfl, by decide +kernel, rfl, by decide +kernel, by decide +kernel⟩
def w_without_change : WS := (wsRet (wTup (waCons (w2 kIx (wVar 0) (wK (.int 0))) (waCons (w2 kAdd (wSl (w2 kIx (wVar 0) (wK (.int 1))) woNone (woSome (wVar 1))) (wSl (w2 kIx (wVar 0) (wK (.int 1))) (woSome (w2 kAdd (wVar 1) (wK (.int 1)))) woNone)) waNil))))
theorem der_without_change (F : Fc fa fn ex K mg) (f : Addr) (cdv : Value) (A : Around) (outer : List Env) (s : Shared) (H : Hp) (E : XK) (hr : Room 0 (A.deeper (envOfC "without_change" (defScope (top 5)) s.heap.objs.size f cdv))) :
    PSs (cxOf CX0 P w K mg base N_without_change "without_change" (defScope (top 5)) f cdv A outer s H E).nox (defBody (top 5)) (tDs K (w_without_change)) :=
  have nd := sc_without_change.nd
  (b_one (s_ret (e_tup (a_cons (e_ix ⟨_, hr⟩ (e_var (pv 0)) e_int) (a_cons (e_add (e_sl (e_ix ⟨_, hr⟩ (e_var (pv 0)) e_int) o_none (o_some (e_var (pv 1)))) (e_sl (e_ix ⟨_, hr⟩ (e_var (pv 0)) e_int) (o_some (e_add (e_var (pv 1)) e_int)) o_none)) a_nil)))))
theorem ok_without_change (F : Fc fa fn ex K mg) {sp : DSp} (hw : Keeps 2 2 (w_without_change) sp) : DFn P w K mg base (0 + 1) (He.ga K "without_change") P_without_change sp := by
  obtain ⟨fd, Fd⟩ := F.def_ 2 (d := d2) rfl
  refine dfn_of Fd sc_without_change hw ?_ (der_without_change F _)
  exact by
    intro kV doc pm an cdv ct us ws n h1 h2 h3
    subst h2
    rcases us with _ | ⟨a0, _ | ⟨a1, _ | ⟨a2, us⟩⟩⟩
    · obtain ⟨_, _, rfl⟩ := len2 h3; rfl
    · obtain ⟨_, rfl⟩ := len1 h3; rfl
    · obtain ⟨rfl⟩ := len0 h3; rfl
    · simp at h1
theorem sc_changes_of : FnScope N_changes_of P_changes_of (defScope (top 6)) := ⟨rfl, rfl, rfl, by decide +kernel, rfl, by decide +kernel, by decide +kernel⟩
def w_changes_of : WS := (wsRet (wTupL (wComp (wiSeq (w2 kIx (wVar 0) (wK (.int 1)))) [2] (wgName 2) (wTst (w2 kEq (w2 kIx (wVar 2) (wK (.int 0))) (wVar 1))) (wVar 2))))
theorem der_changes_of (F : Fc fa fn ex K mg) (f : Addr) (cdv : Value) (A : Around) (outer : List Env) (s : Shared) (H : Hp) (E : XK) (hr : Room 0 (A.deeper (envOfC "changes_of" (defScope (top 6)) s.heap.objs.size f cdv))) :
    PSs (cxOf CX0 P w K mg base N_changes_of "changes_of" (defScope (top 6)) f cdv A outer s H E).nox (defBody (top 6)) (tDs K (w_changes_of)) :=
  have nd := sc_changes_of.nd
  (b_one (s_ret (e_tupL rfl (F.free 71) (e_tl (e_lc (own := [("change", 2)]) rfl nd (i_seq (e_ix ⟨_, hr⟩ (e_var (pv 0)) e_int)) (blkOk_by (N := N_changes_of) (sc := defScope (top 6)) (by decide +kernel)) (by intro i hi; revert hi; revert i; decide) (fun _ _ _ _ _ => (g_name (pg_name (i := 2) nd rfl (Or.inl rfl)))) (fun _ _ _ _ _ => (ts_one (t_eq ⟨_, hr⟩ (e_ix ⟨_, hr⟩ (e_var (pv 2)) e_int) (e_var (pv 1))))) (fun _ _ _ _ _ => (e_var (pv 2))))))))
theorem ok_changes_of (F : Fc fa fn ex K mg) {sp : DSp} (hw : Keeps 2 3 (w_changes_of) sp) : DFn P w K mg base (0 + 1) (He.ga K "changes_of") P_changes_of sp := by
  obtain ⟨fd, Fd⟩ := F.def_ 3 (d := d3) rfl
  refine dfn_of Fd sc_changes_of hw ?_ (der_changes_of F _)
  exact by
    intro kV doc pm an cdv ct us ws n h1 h2 h3
    subst h2
    rcases us with _ | ⟨a0, _ | ⟨a1, _ | ⟨a2, us⟩⟩⟩
    · obtain ⟨_, _, rfl⟩ := len2 h3; rfl
    · obtain ⟨_, rfl⟩ := len1 h3; rfl
    · obtain ⟨rfl⟩ := len0 h3; rfl
    · simp at h1
theorem sc_two_rows : FnScope N_two_rows P_two_rows (defScope (top 7)) := ⟨rfl, rfl, rfl, by decide +kernel, rfl, by decide +kernel, by decide +kernel⟩
def w_two_rows : WS := (wsSeq (wsAsg (wSl (wVar 0) woNone (woSome (wK (.int 2)))) (wgSeq 2 (wgCons (wgName 1) (wgCons (wgName 2) wgNil))))
  (wsSeq (wsIf (wTst (w2 kEq (wVar 1) (wK (.str "held")))) (wsRet (wTup (waCons (wTup (waCons (wVar 2) waNil)) (waCons (wTup (waCons (wVar 2) (waCons (wVar 2) waNil))) waNil)))) wsNext)
  (wsSeq (wsIf (wTst (w2 kEq (wVar 1) (wK (.str "idle")))) (wsRet (wTup (waCons (wTup waNil) (waCons (wTup (waCons (wVar 2) waNil)) waNil)))) wsNext)
  (wsSeq (wsIf (wTst (w2 kEq (wVar 1) (wK (.str "loose")))) (wsRet (wTup (waCons (wTup (waCons (wVar 2) (waCons (w2 kIx (wVar 0) (wK (.int 2))) waNil))) (waCons (wTup (waCons (w2 kIx (wVar 0) (wK (.int 2))) (waCons (wVar 2) waNil))) waNil)))) wsNext)
  (wsRet (wTup (waCons (wTup (waCons (wVar 2) waNil)) (waCons (wTup (waCons (w2 kIx (wVar 0) (wK (.int 2))) waNil)) waNil))))))))
theorem der_two_rows (F : Fc fa fn ex K mg) (f : Addr) (cdv : Value) (A : Around) (outer : List Env) (s : Shared) (H : Hp) (E : XK) (hr : Room 0 (A.deeper (envOfC "two_rows" (defScope (top 7)) s.heap.objs.size f cdv))) :
    PSs (cxOf CX0 P w K mg base N_two_rows "two_rows" (defScope (top 7)) f cdv A outer s H E).nox (defBody (top 7)) (tDs K (w_two_rows)) :=
  have nd := sc_two_rows.nd
  (b_cons (s_asg (e_sl (e_var (pv 0)) o_none (o_some e_int)) (g_seq rfl (g_cons (g_name (pg_name (i := 1) nd rfl (Or.inl rfl))) (g_cons (g_name (pg_name (i := 2) nd rfl (Or.inl rfl))) (g_nil (is := []))))))
  (b_cons (s_if (t_eq ⟨_, hr⟩ (e_var (pv 1)) e_str) (b_one (s_ret (e_tup (a_cons (e_tup (a_cons (e_var (pv 2)) a_nil)) (a_cons (e_tup (a_cons (e_var (pv 2)) (a_cons (e_var (pv 2)) a_nil))) a_nil))))) b_nil)
  (b_cons (s_if (t_eq ⟨_, hr⟩ (e_var (pv 1)) e_str) (b_one (s_ret (e_tup (a_cons (e_tup a_nil) (a_cons (e_tup (a_cons (e_var (pv 2)) a_nil)) a_nil))))) b_nil)
  (b_cons (s_if (t_eq ⟨_, hr⟩ (e_var (pv 1)) e_str) (b_one (s_ret (e_tup (a_cons (e_tup (a_cons (e_var (pv 2)) (a_cons (e_ix ⟨_, hr⟩ (e_var (pv 0)) e_int) a_nil))) (a_cons (e_tup (a_cons (e_ix ⟨_, hr⟩ (e_var (pv 0)) e_int) (a_cons (e_var (pv 2)) a_nil))) a_nil))))) b_nil)
  (b_one (s_ret (e_tup (a_cons (e_tup (a_cons (e_var (pv 2)) a_nil)) (a_cons (e_tup (a_cons (e_ix ⟨_, hr⟩ (e_var (pv 0)) e_int) a_nil)) a_nil)))))))))
theorem ok_two_rows (F : Fc fa fn ex K mg) {sp : DSp} (hw : Keeps 1 3 (w_two_rows) sp) : DFn P w K mg base (0 + 1) (He.ga K "two_rows") P_two_rows sp := by
  obtain ⟨fd, Fd⟩ := F.def_ 4 (d := d4) rfl
  refine dfn_of Fd sc_two_rows hw ?_ (der_two_rows F _)
  exact by
    intro kV doc pm an cdv ct us ws n h1 h2 h3
    subst h2
    rcases us with _ | ⟨a0, _ | ⟨a1, us⟩⟩
    · obtain ⟨_, rfl⟩ := len1 h3; rfl
    · obtain ⟨rfl⟩ := len0 h3; rfl
    · simp at h1
theorem sc_Hearing_init : FnScope N_Hearing_init P_Hearing_init (defScope (inClass (top 9) 0)) := ⟨rfl, rfl, rfl, by decide +kernel, rfl, by decide +kernel, by decide +kernel⟩
def w_Hearing_init (sp_changes_of : DSp) (sp_Hearing_join : DSp) : WS := (wsSeq (wsSet 2 (wBlt kLen (waCons (w2 kIx (wVar 1) (wK (.int 0))) waNil)))
  (wsSeq (wsFld "Hearing" "first" (wVar 0) (wNew (wComp (wiRng1 (waCons (wVar 2) waNil)) [3] (wgName 3) wYes (wVar 3))))
  (wsSeq (wsFor (wiSeq (wCall 2 sp_changes_of (waCons (wVar 1) (waCons (wK (.str "same")) waNil)))) (wgSeq 3 (wgCons (wgName 4) (wgCons (wgName 5) (wgCons (wgName 6) wgNil)))) (wsExpr (wMeth "Hearing" "join" 3 sp_Hearing_join (wVar 0) (waCons (wVar 5) (waCons (wVar 6) waNil)))))
  (wsSeq (wsFld "Hearing" "idle" (wVar 0) (w2 kMul (wNew (wLst (waCons (wK (.bl false)) waNil))) (wVar 2)))
  (wsSeq (wsFld "Hearing" "held" (wVar 0) (w2 kMul (wNew (wLst (waCons (wK (.bl false)) waNil))) (wVar 2)))
  (wsSeq (wsFor (wiSeq (wTup (waCons (wTup (waCons (wK (.str "idle")) (waCons (wFld "Hearing" "idle" (wVar 0)) waNil))) (waCons (wTup (waCons (wK (.str "held")) (waCons (wFld "Hearing" "held" (wVar 0)) waNil))) waNil)))) (wgSeq 2 (wgCons (wgName 7) (wgCons (wgName 8) wgNil))) (wsFor (wiSeq (wCall 2 sp_changes_of (waCons (wVar 1) (waCons (wVar 7) waNil)))) (wgSeq 2 (wgCons (wgName 4) (wgCons (wgName 3) wgNil))) (wsAsg (wK (.bl true)) (wgSub (wVar 8) (w2 kIx (wFld "Hearing" "first" (wVar 0)) (wVar 3))))))
  (wsSeq (wsFld "Hearing" "pairs" (wVar 0) wDt)
  (wsFor (wiSeq (wCall 2 sp_changes_of (waCons (wVar 1) (waCons (wK (.str "loose")) waNil)))) (wgSeq 3 (wgCons (wgName 4) (wgCons (wgName 5) (wgCons (wgName 6) wgNil)))) (wsSeq (wsAsg (wK (.bl true)) (wgSub (wFld "Hearing" "pairs" (wVar 0)) (wTup (waCons (w2 kIx (wFld "Hearing" "first" (wVar 0)) (wVar 5)) (waCons (w2 kIx (wFld "Hearing" "first" (wVar 0)) (wVar 6)) waNil)))))
      (wsAsg (wK (.bl true)) (wgSub (wFld "Hearing" "pairs" (wVar 0)) (wTup (waCons (w2 kIx (wFld "Hearing" "first" (wVar 0)) (wVar 6)) (waCons (w2 kIx (wFld "Hearing" "first" (wVar 0)) (wVar 5)) waNil))))))))))))))
theorem der_Hearing_init (F : Fc fa fn ex K mg) {sp_changes_of : DSp} {sp_Hearing_join : DSp} (h_changes_of : DFn P w K mg base 1 (He.ga K "changes_of") P_changes_of sp_changes_of) (h_Hearing_join : DFn P w K mg base 1 (He.ma K (He.ga K "Hearing") "join") P_Hearing_join sp_Hearing_join) (f : Addr) (cdv : Value) (A : Around) (outer : List Env) (s : Shared) (H : Hp) (E : XK) (hr : Room 1 (A.deeper (envOfC "Hearing.__init__" (defScope (inClass (top 9) 0)) s.heap.objs.size f cdv))) :
    PSs (cxOf CX0 P w K mg base N_Hearing_init "Hearing.__init__" (defScope (inClass (top 9) 0)) f cdv A outer s H E).nox (defBody (inClass (top 9) 0)) (tDs K (w_Hearing_init sp_changes_of sp_Hearing_join)) :=
  have nd := sc_Hearing_init.nd
  (b_cons (s_set (i := 2) nd rfl (Or.inl rfl) (e_len rfl (F.free 63) (a_cons (e_ix ⟨_, hr⟩ (e_var (pv 1)) e_int) a_nil)))
  (b_cons (s_fld (F.cls 8) (F.noat 15) (e_var (pv 0)) (e_new (e_lc (own := [("sign", 3)]) rfl nd (i_rng1 rfl (F.free 67) (a_cons (e_var (pv 2)) a_nil)) (blkOk_by (N := N_Hearing_init) (sc := defScope (inClass (top 9) 0)) (by decide +kernel)) (by intro i hi; revert hi; revert i; decide) (fun _ _ _ _ _ => (g_name (pg_name (i := 3) nd rfl (Or.inl rfl)))) (fun _ _ _ _ _ => ts_nil) (fun _ _ _ _ _ => (e_var (pv 3))))))
  (b_cons (s_for PassesOwn.never rfl (i_seq (e_call (ps := P_changes_of) (h_changes_of.mono (by decide)) hr rfl (F.glo 5) (F.keep 3 (d := d3)) (a_cons (e_var (pv 1)) (a_cons e_str a_nil)))) (g_seq rfl (g_cons (g_name (pg_name (i := 4) nd rfl (Or.inl rfl))) (g_cons (g_name (pg_name (i := 5) nd rfl (Or.inl rfl))) (g_cons (g_name (pg_name (i := 6) nd rfl (Or.inl rfl))) (g_nil (is := [])))))) (b_one (s_expr (e_meth (ps := P_Hearing_join) (e_var (pv 0)) (F.cls 8) (F.meth 10) (h_Hearing_join.mono (by decide)) hr (a_cons (e_var (pv 5)) (a_cons (e_var (pv 6)) a_nil))))))
  (b_cons (s_fld (F.cls 8) (F.noat 17) (e_var (pv 0)) (e_mul (e_new (e_lst (a_cons e_bl a_nil))) (e_var (pv 2))))
  (b_cons (s_fld (F.cls 8) (F.noat 16) (e_var (pv 0)) (e_mul (e_new (e_lst (a_cons e_bl a_nil))) (e_var (pv 2))))
  (b_cons (s_for PassesOwn.never rfl (i_seq (e_tup (a_cons (e_tup (a_cons e_str (a_cons (e_fld (F.cls 8) (F.noat 17) (e_var (pv 0))) a_nil))) (a_cons (e_tup (a_cons e_str (a_cons (e_fld (F.cls 8) (F.noat 16) (e_var (pv 0))) a_nil))) a_nil)))) (g_seq rfl (g_cons (g_name (pg_name (i := 7) nd rfl (Or.inl rfl))) (g_cons (g_name (pg_name (i := 8) nd rfl (Or.inl rfl))) (g_nil (is := []))))) (b_one (s_for PassesOwn.never rfl (i_seq (e_call (ps := P_changes_of) (h_changes_of.mono (by decide)) hr rfl (F.glo 5) (F.keep 3 (d := d3)) (a_cons (e_var (pv 1)) (a_cons (e_var (pv 7)) a_nil)))) (g_seq rfl (g_cons (g_name (pg_name (i := 4) nd rfl (Or.inl rfl))) (g_cons (g_name (pg_name (i := 3) nd rfl (Or.inl rfl))) (g_nil (is := []))))) (b_one (s_asg e_bl (g_sub (is := []) ⟨_, hr⟩ (e_var (pv 8)) (e_ix ⟨_, hr⟩ (e_fld (F.cls 8) (F.noat 15) (e_var (pv 0))) (e_var (pv 3)))))))))
  (b_cons (s_fld (F.cls 8) (F.noat 18) (e_var (pv 0)) e_dt)
  (b_one (s_for PassesOwn.never rfl (i_seq (e_call (ps := P_changes_of) (h_changes_of.mono (by decide)) hr rfl (F.glo 5) (F.keep 3 (d := d3)) (a_cons (e_var (pv 1)) (a_cons e_str a_nil)))) (g_seq rfl (g_cons (g_name (pg_name (i := 4) nd rfl (Or.inl rfl))) (g_cons (g_name (pg_name (i := 5) nd rfl (Or.inl rfl))) (g_cons (g_name (pg_name (i := 6) nd rfl (Or.inl rfl))) (g_nil (is := [])))))) (b_cons (s_asg e_bl (g_sub (is := []) ⟨_, hr⟩ (e_fld (F.cls 8) (F.noat 18) (e_var (pv 0))) (e_tup (a_cons (e_ix ⟨_, hr⟩ (e_fld (F.cls 8) (F.noat 15) (e_var (pv 0))) (e_var (pv 5))) (a_cons (e_ix ⟨_, hr⟩ (e_fld (F.cls 8) (F.noat 15) (e_var (pv 0))) (e_var (pv 6))) a_nil)))))
      (b_one (s_asg e_bl (g_sub (is := []) ⟨_, hr⟩ (e_fld (F.cls 8) (F.noat 18) (e_var (pv 0))) (e_tup (a_cons (e_ix ⟨_, hr⟩ (e_fld (F.cls 8) (F.noat 15) (e_var (pv 0))) (e_var (pv 6))) (a_cons (e_ix ⟨_, hr⟩ (e_fld (F.cls 8) (F.noat 15) (e_var (pv 0))) (e_var (pv 5))) a_nil))))))))))))))))
theorem ok_Hearing_init (F : Fc fa fn ex K mg) {sp_changes_of : DSp} {sp_Hearing_join : DSp} {sp : DSp} (h_changes_of : DFn P w K mg base 1 (He.ga K "changes_of") P_changes_of sp_changes_of) (h_Hearing_join : DFn P w K mg base 1 (He.ma K (He.ga K "Hearing") "join") P_Hearing_join sp_Hearing_join) (hw : Keeps 2 9 (w_Hearing_init sp_changes_of sp_Hearing_join) sp) : DFn P w K mg base (1 + 1) (He.ma K (He.ga K "Hearing") "__init__") P_Hearing_init sp := by
  obtain ⟨fd, Fd⟩ := F.def_ 5 (d := d5) rfl
  refine dfn_of Fd sc_Hearing_init hw ?_ (der_Hearing_init F h_changes_of h_Hearing_join _)
  exact by
    intro kV doc pm an cdv ct us ws n h1 h2 h3
    subst h2
    rcases us with _ | ⟨a0, _ | ⟨a1, _ | ⟨a2, us⟩⟩⟩
    · obtain ⟨_, _, rfl⟩ := len2 h3; rfl
    · obtain ⟨_, rfl⟩ := len1 h3; rfl
    · obtain ⟨rfl⟩ := len0 h3; rfl
    · simp at h1
theorem sc_Hearing_join : FnScope N_Hearing_join P_Hearing_join (defScope (inClass (top 9) 1)) := ⟨rfl, rfl, rfl, by decide +kernel, rfl, by decide +kernel, by decide +kernel⟩
def w_Hearing_join : WS := (wsSeq (wsAsg (wNew (wSortI (wLst (waCons (w2 kIx (wFld "Hearing" "first" (wVar 0)) (wVar 1)) (waCons (w2 kIx (wFld "Hearing" "first" (wVar 0)) (wVar 2)) waNil))))) (wgSeq 2 (wgCons (wgName 3) (wgCons (wgName 4) wgNil))))
  (wsFld "Hearing" "first" (wVar 0) (wNew (wComp (wiSeq (wFld "Hearing" "first" (wVar 0))) [5] (wgName 5) wYes (wIf (wTst (w2 kEq (wVar 5) (wVar 4))) (wVar 3) (wVar 5))))))
theorem der_Hearing_join (F : Fc fa fn ex K mg) (f : Addr) (cdv : Value) (A : Around) (outer : List Env) (s : Shared) (H : Hp) (E : XK) (hr : Room 0 (A.deeper (envOfC "Hearing.join" (defScope (inClass (top 9) 1)) s.heap.objs.size f cdv))) :
    PSs (cxOf CX0 P w K mg base N_Hearing_join "Hearing.join" (defScope (inClass (top 9) 1)) f cdv A outer s H E).nox (defBody (inClass (top 9) 1)) (tDs K (w_Hearing_join)) :=
  have nd := sc_Hearing_join.nd
  (b_cons (s_asg (e_new (e_sortI rfl (F.free 69) (e_tl (e_lst (a_cons (e_ix ⟨_, hr⟩ (e_fld (F.cls 8) (F.noat 15) (e_var (pv 0))) (e_var (pv 1))) (a_cons (e_ix ⟨_, hr⟩ (e_fld (F.cls 8) (F.noat 15) (e_var (pv 0))) (e_var (pv 2))) a_nil)))))) (g_seq rfl (g_cons (g_name (pg_name (i := 3) nd rfl (Or.inr rfl))) (g_cons (g_name (pg_name (i := 4) nd rfl (Or.inr rfl))) (g_nil (is := []))))))
  (b_one (s_fld (F.cls 8) (F.noat 15) (e_var (pv 0)) (e_new (e_lc (own := [("place", 5)]) rfl nd (i_seq (e_fld (F.cls 8) (F.noat 15) (e_var (pv 0)))) (blkOk_by (N := N_Hearing_join) (sc := defScope (inClass (top 9) 1)) (by decide +kernel)) (by intro i hi; revert hi; revert i; decide) (fun _ _ _ _ _ => (g_name (pg_name (i := 5) nd rfl (Or.inl rfl)))) (fun _ _ _ _ _ => ts_nil) (fun _ _ _ _ _ => (e_if (t_eq ⟨_, hr⟩ (e_var (pv 5)) (e_var (pv 4))) (e_var (pv 3)) (e_var (pv 5)))))))))
theorem ok_Hearing_join (F : Fc fa fn ex K mg) {sp : DSp} (hw : Keeps 3 6 (w_Hearing_join) sp) : DFn P w K mg base (0 + 1) (He.ma K (He.ga K "Hearing") "join") P_Hearing_join sp := by
  obtain ⟨fd, Fd⟩ := F.def_ 6 (d := d6) rfl
  refine dfn_of Fd sc_Hearing_join hw ?_ (der_Hearing_join F _)
  exact by
    intro kV doc pm an cdv ct us ws n h1 h2 h3
    subst h2
    rcases us with _ | ⟨a0, _ | ⟨a1, _ | ⟨a2, _ | ⟨a3, us⟩⟩⟩⟩
    · obtain ⟨_, _, _, rfl⟩ := len3 h3; rfl
    · obtain ⟨_, _, rfl⟩ := len2 h3; rfl
    · obtain ⟨_, rfl⟩ := len1 h3; rfl
    · obtain ⟨rfl⟩ := len0 h3; rfl
    · simp at h1
theorem sc_Hearing_is_loose : FnScope N_Hearing_is_loose P_Hearing_is_loose (defScope (inClass (top 9) 4)) := ⟨rfl, rfl, rfl, by decide +kernel, rfl, by decide +kernel, by decide +kernel⟩
def w_Hearing_is_loose : WS := (wsRet (w2 kIn (wTup (waCons (w2 kIx (wFld "Hearing" "first" (wVar 0)) (wVar 1)) (waCons (w2 kIx (wFld "Hearing" "first" (wVar 0)) (wVar 2)) waNil))) (wFld "Hearing" "pairs" (wVar 0))))
theorem der_Hearing_is_loose (F : Fc fa fn ex K mg) (f : Addr) (cdv : Value) (A : Around) (outer : List Env) (s : Shared) (H : Hp) (E : XK) (hr : Room 0 (A.deeper (envOfC "Hearing.is_loose" (defScope (inClass (top 9) 4)) s.heap.objs.size f cdv))) :
    PSs (cxOf CX0 P w K mg base N_Hearing_is_loose "Hearing.is_loose" (defScope (inClass (top 9) 4)) f cdv A outer s H E).nox (defBody (inClass (top 9) 4)) (tDs K (w_Hearing_is_loose)) :=
  have nd := sc_Hearing_is_loose.nd
  (b_one (s_ret (e_in ⟨_, hr⟩ (e_tup (a_cons (e_ix ⟨_, hr⟩ (e_fld (F.cls 8) (F.noat 15) (e_var (pv 0))) (e_var (pv 1))) (a_cons (e_ix ⟨_, hr⟩ (e_fld (F.cls 8) (F.noat 15) (e_var (pv 0))) (e_var (pv 2))) a_nil))) (e_fld (F.cls 8) (F.noat 18) (e_var (pv 0))))))
theorem ok_Hearing_is_loose (F : Fc fa fn ex K mg) {sp : DSp} (hw : Keeps 3 3 (w_Hearing_is_loose) sp) : DFn P w K mg base (0 + 1) (He.ma K (He.ga K "Hearing") "is_loose") P_Hearing_is_loose sp := by
  obtain ⟨fd, Fd⟩ := F.def_ 9 (d := d9) rfl
  refine dfn_of Fd sc_Hearing_is_loose hw ?_ (der_Hearing_is_loose F _)
  exact by
    intro kV doc pm an cdv ct us ws n h1 h2 h3
    subst h2
    rcases us with _ | ⟨a0, _ | ⟨a1, _ | ⟨a2, _ | ⟨a3, us⟩⟩⟩⟩
    · obtain ⟨_, _, _, rfl⟩ := len3 h3; rfl
    · obtain ⟨_, _, rfl⟩ := len2 h3; rfl
    · obtain ⟨_, rfl⟩ := len1 h3; rfl
    · obtain ⟨rfl⟩ := len0 h3; rfl
    · simp at h1
theorem sc_Hearing_lot : FnScope N_Hearing_lot P_Hearing_lot (defScope (inClass (top 9) 5)) := ⟨rfl, rfl, rfl, by decide +kernel, rfl, by decide +kernel, by decide +kernel⟩
def w_Hearing_lot : WS := (wsRet (wTupL (wComp (wiEnum (waCons (wFld "Hearing" "first" (wVar 0)) waNil)) [2, 3] (wgSeq 2 (wgCons (wgName 2) (wgCons (wgName 3) wgNil))) (wTst (w2 kEq (wVar 3) (w2 kIx (wFld "Hearing" "first" (wVar 0)) (wVar 1)))) (wVar 2))))
theorem der_Hearing_lot (F : Fc fa fn ex K mg) (f : Addr) (cdv : Value) (A : Around) (outer : List Env) (s : Shared) (H : Hp) (E : XK) (hr : Room 0 (A.deeper (envOfC "Hearing.lot" (defScope (inClass (top 9) 5)) s.heap.objs.size f cdv))) :
    PSs (cxOf CX0 P w K mg base N_Hearing_lot "Hearing.lot" (defScope (inClass (top 9) 5)) f cdv A outer s H E).nox (defBody (inClass (top 9) 5)) (tDs K (w_Hearing_lot)) :=
  have nd := sc_Hearing_lot.nd
  (b_one (s_ret (e_tupL rfl (F.free 71) (e_tl (e_lc (own := [("other", 2), ("first", 3)]) rfl nd (i_enum rfl (F.free 60) (a_cons (e_fld (F.cls 8) (F.noat 15) (e_var (pv 0))) a_nil)) (blkOk_by (N := N_Hearing_lot) (sc := defScope (inClass (top 9) 5)) (by decide +kernel)) (by intro i hi; revert hi; revert i; decide) (fun _ _ _ _ _ => (g_seq rfl (g_cons (g_name (pg_name (i := 2) nd rfl (Or.inl rfl))) (g_cons (g_name (pg_name (i := 3) nd rfl (Or.inl rfl))) (g_nil (is := [])))))) (fun _ _ _ _ _ => (ts_one (t_eq ⟨_, hr⟩ (e_var (pv 3)) (e_ix ⟨_, hr⟩ (e_fld (F.cls 8) (F.noat 15) (e_var (pv 0))) (e_var (pv 1)))))) (fun _ _ _ _ _ => (e_var (pv 2))))))))
theorem ok_Hearing_lot (F : Fc fa fn ex K mg) {sp : DSp} (hw : Keeps 2 4 (w_Hearing_lot) sp) : DFn P w K mg base (0 + 1) (He.ma K (He.ga K "Hearing") "lot") P_Hearing_lot sp := by
  obtain ⟨fd, Fd⟩ := F.def_ 10 (d := d10) rfl
  refine dfn_of Fd sc_Hearing_lot hw ?_ (der_Hearing_lot F _)
  exact by
    intro kV doc pm an cdv ct us ws n h1 h2 h3
    subst h2
    rcases us with _ | ⟨a0, _ | ⟨a1, _ | ⟨a2, us⟩⟩⟩
    · obtain ⟨_, _, rfl⟩ := len2 h3; rfl
    · obtain ⟨_, rfl⟩ := len1 h3; rfl
    · obtain ⟨rfl⟩ := len0 h3; rfl
    · simp at h1
theorem sc_is_spared : FnScope N_is_spared P_is_spared (defScope (top 11)) := ⟨rfl, rfl, rfl, by decide +kernel, rfl, by decide +kernel, by decide +kernel⟩
def w_is_spared (sp_Hearing_is_loose : DSp) : WS := (wsSeq (wsFor (wiRev (wVar 1)) (wgName 3) (wsSeq (wsIf (wTst (w2 kEq (wVar 3) (wVar 2))) (wsRet (wK (.bl true))) wsNext)
      (wsIf (wNot (wTru (wMeth "Hearing" "is_loose" 3 sp_Hearing_is_loose (wVar 0) (waCons (wVar 3) (waCons (wVar 2) waNil))))) (wsRet (wK (.bl false))) wsNext)))
  (wsRet (wK (.bl false))))
theorem der_is_spared (F : Fc fa fn ex K mg) {sp_Hearing_is_loose : DSp} (h_Hearing_is_loose : DFn P w K mg base 1 (He.ma K (He.ga K "Hearing") "is_loose") P_Hearing_is_loose sp_Hearing_is_loose) (f : Addr) (cdv : Value) (A : Around) (outer : List Env) (s : Shared) (H : Hp) (E : XK) (hr : Room 1 (A.deeper (envOfC "is_spared" (defScope (top 11)) s.heap.objs.size f cdv))) :
    PSs (cxOf CX0 P w K mg base N_is_spared "is_spared" (defScope (top 11)) f cdv A outer s H E).nox (defBody (top 11)) (tDs K (w_is_spared sp_Hearing_is_loose)) :=
  have nd := sc_is_spared.nd
  (b_cons (s_for PassesOwn.never rfl (i_rev rfl (F.free 68) (e_var (pv 1))) (g_name (pg_name (i := 3) nd rfl (Or.inl rfl))) (b_cons (s_if (t_eq ⟨_, hr⟩ (e_var (pv 3)) (e_var (pv 2))) (b_one (s_ret e_bl)) b_nil)
      (b_one (s_if (t_not (t_tru (e_meth (ps := P_Hearing_is_loose) (e_var (pv 0)) (F.cls 8) (F.meth 13) (h_Hearing_is_loose.mono (by decide)) hr (a_cons (e_var (pv 3)) (a_cons (e_var (pv 2)) a_nil))))) (b_one (s_ret e_bl)) b_nil))))
  (b_one (s_ret e_bl)))
theorem ok_is_spared (F : Fc fa fn ex K mg) {sp_Hearing_is_loose : DSp} {sp : DSp} (h_Hearing_is_loose : DFn P w K mg base 1 (He.ma K (He.ga K "Hearing") "is_loose") P_Hearing_is_loose sp_Hearing_is_loose) (hw : Keeps 3 4 (w_is_spared sp_Hearing_is_loose) sp) : DFn P w K mg base (1 + 1) (He.ga K "is_spared") P_is_spared sp := by
  obtain ⟨fd, Fd⟩ := F.def_ 11 (d := d11) rfl
  refine dfn_of Fd sc_is_spared hw ?_ (der_is_spared F h_Hearing_is_loose _)
  exact by
    intro kV doc pm an cdv ct us ws n h1 h2 h3
    subst h2
    rcases us with _ | ⟨a0, _ | ⟨a1, _ | ⟨a2, _ | ⟨a3, us⟩⟩⟩⟩
    · obtain ⟨_, _, _, rfl⟩ := len3 h3; rfl
    · obtain ⟨_, _, rfl⟩ := len2 h3; rfl
    · obtain ⟨_, rfl⟩ := len1 h3; rfl
    · obtain ⟨rfl⟩ := len0 h3; rfl
    · simp at h1
theorem sc_kept_signs : FnScope N_kept_signs P_kept_signs (defScope (top 12)) := ⟨rfl, rfl, rfl, by decide +kernel, rfl, by decide +kernel, by decide +kernel⟩
def w_kept_signs (sp_is_spared : DSp) : WS := (wsSeq (wsSet 2 (wNew (wLst waNil)))
  (wsSeq (wsFor (wiSeq (wVar 1)) (wgName 3) (wsSeq (wsSet 4 (w2 kIx (wFld "Hearing" "first" (wVar 0)) (wVar 3)))
      (wsSeq (wsIf (wOr (wTru (w2 kIx (wFld "Hearing" "idle" (wVar 0)) (wVar 4))) (wAnd (wTru (w2 kIx (wFld "Hearing" "held" (wVar 0)) (wVar 4))) (wTru (wCall 3 sp_is_spared (waCons (wVar 0) (waCons (wVar 2) (waCons (wVar 4) waNil))))))) wsCont wsNext)
      (wsExpr (wLM kAppend (wVar 2) (waCons (wVar 4) waNil))))))
  (wsRet (wVar 2))))
theorem der_kept_signs (F : Fc fa fn ex K mg) {sp_is_spared : DSp} (h_is_spared : DFn P w K mg base 2 (He.ga K "is_spared") P_is_spared sp_is_spared) (f : Addr) (cdv : Value) (A : Around) (outer : List Env) (s : Shared) (H : Hp) (E : XK) (hr : Room 2 (A.deeper (envOfC "kept_signs" (defScope (top 12)) s.heap.objs.size f cdv))) :
    PSs (cxOf CX0 P w K mg base N_kept_signs "kept_signs" (defScope (top 12)) f cdv A outer s H E).nox (defBody (top 12)) (tDs K (w_kept_signs sp_is_spared)) :=
  have nd := sc_kept_signs.nd
  (b_cons (s_set (i := 2) nd rfl (Or.inl rfl) (e_new (e_lst a_nil)))
  (b_cons (s_for PassesOwn.never rfl (i_seq (e_var (pv 1))) (g_name (pg_name (i := 3) nd rfl (Or.inl rfl))) (b_cons (s_set (i := 4) nd rfl (Or.inl rfl) (e_ix ⟨_, hr⟩ (e_fld (F.cls 8) (F.noat 15) (e_var (pv 0))) (e_var (pv 3))))
      (b_cons (s_if (PW.pt (x_or (t_tru (e_ix ⟨_, hr⟩ (e_fld (F.cls 8) (F.noat 17) (e_var (pv 0))) (e_var (pv 4)))) (x_or1 (PW.pt (x_and (t_tru (e_ix ⟨_, hr⟩ (e_fld (F.cls 8) (F.noat 16) (e_var (pv 0))) (e_var (pv 4)))) (x_and1 (t_tru (e_call (ps := P_is_spared) (h_is_spared.mono (by decide)) hr rfl (F.glo 19) (F.keep 11 (d := d11)) (a_cons (e_var (pv 0)) (a_cons (e_var (pv 2)) (a_cons (e_var (pv 4)) a_nil))))))))))) (b_one s_cont) b_nil)
      (b_one (s_expr (e_append (e_var (pv 2)) (a_cons (e_var (pv 4)) a_nil)))))))
  (b_one (s_ret (e_var (pv 2))))))
theorem ok_kept_signs (F : Fc fa fn ex K mg) {sp_is_spared : DSp} {sp : DSp} (h_is_spared : DFn P w K mg base 2 (He.ga K "is_spared") P_is_spared sp_is_spared) (hw : Keeps 2 5 (w_kept_signs sp_is_spared) sp) : DFn P w K mg base (2 + 1) (He.ga K "kept_signs") P_kept_signs sp := by
  obtain ⟨fd, Fd⟩ := F.def_ 12 (d := d12) rfl
  refine dfn_of Fd sc_kept_signs hw ?_ (der_kept_signs F h_is_spared _)
  exact by
    intro kV doc pm an cdv ct us ws n h1 h2 h3
    subst h2
    rcases us with _ | ⟨a0, _ | ⟨a1, _ | ⟨a2, us⟩⟩⟩
    · obtain ⟨_, _, rfl⟩ := len2 h3; rfl
    · obtain ⟨_, rfl⟩ := len1 h3; rfl
    · obtain ⟨rfl⟩ := len0 h3; rfl
    · simp at h1
theorem sc_leading : FnScope N_leading P_leading (defScope (top 13)) := ⟨rfl, rfl, rfl, by decide +kernel, rfl, by decide +kernel, by decide +kernel⟩
def w_leading (sp_Hearing_is_loose : DSp) : WS := (wsSeq (wsSet 2 (wNew (wLst waNil)))
  (wsSeq (wsSet 3 (wNew (wLst waNil)))
  (wsSeq (wsFor (wiEnum (waCons (wVar 1) waNil)) (wgSeq 2 (wgCons (wgName 4) (wgCons (wgName 5) wgNil))) (wsSeq (wsIf (wTru (wAll (wComp (wiSeq (wVar 2)) [6] (wgName 6) wYes (wMeth "Hearing" "is_loose" 3 sp_Hearing_is_loose (wVar 0) (waCons (wVar 6) (waCons (wVar 5) waNil)))))) (wsExpr (wLM kAppend (wVar 3) (waCons (wVar 4) waNil))) wsNext)
      (wsIf (wTst (w2 kNotIn (wVar 5) (wVar 2))) (wsExpr (wLM kAppend (wVar 2) (waCons (wVar 5) waNil))) wsNext)))
  (wsRet (wVar 3)))))
theorem der_leading (F : Fc fa fn ex K mg) {sp_Hearing_is_loose : DSp} (h_Hearing_is_loose : DFn P w K mg base 1 (He.ma K (He.ga K "Hearing") "is_loose") P_Hearing_is_loose sp_Hearing_is_loose) (f : Addr) (cdv : Value) (A : Around) (outer : List Env) (s : Shared) (H : Hp) (E : XK) (hr : Room 1 (A.deeper (envOfC "leading" (defScope (top 13)) s.heap.objs.size f cdv))) :
    PSs (cxOf CX0 P w K mg base N_leading "leading" (defScope (top 13)) f cdv A outer s H E).nox (defBody (top 13)) (tDs K (w_leading sp_Hearing_is_loose)) :=
  have nd := sc_leading.nd
  (b_cons (s_set (i := 2) nd rfl (Or.inl rfl) (e_new (e_lst a_nil)))
  (b_cons (s_set (i := 3) nd rfl (Or.inl rfl) (e_new (e_lst a_nil)))
  (b_cons (s_for PassesOwn.never rfl (i_enum rfl (F.free 60) (a_cons (e_var (pv 1)) a_nil)) (g_seq rfl (g_cons (g_name (pg_name (i := 4) nd rfl (Or.inl rfl))) (g_cons (g_name (pg_name (i := 5) nd rfl (Or.inr rfl))) (g_nil (is := []))))) (b_cons (s_if (t_tru (e_all rfl rfl (F.free 58) (e_tl (e_lc (own := [("other", 6)]) rfl nd (i_seq (e_var (pv 2))) (blkOk_by (N := N_leading) (sc := defScope (top 13)) (by decide +kernel)) (by intro i hi; revert hi; revert i; decide) (fun _ _ _ _ _ => (g_name (pg_name (i := 6) nd rfl (Or.inl rfl)))) (fun _ _ _ _ _ => ts_nil) (fun _ _ _ _ _ => (e_meth (ps := P_Hearing_is_loose) (e_var (pv 0)) (F.cls 8) (F.meth 13) (h_Hearing_is_loose.mono (by decide)) hr (a_cons (e_var (pv 6)) (a_cons (e_var (pv 5)) a_nil)))))))) (b_one (s_expr (e_append (e_var (pv 3)) (a_cons (e_var (pv 4)) a_nil)))) b_nil)
      (b_one (s_if (t_notIn ⟨_, hr⟩ (e_var (pv 5)) (e_var (pv 2))) (b_one (s_expr (e_append (e_var (pv 2)) (a_cons (e_var (pv 5)) a_nil)))) b_nil))))
  (b_one (s_ret (e_var (pv 3)))))))
theorem ok_leading (F : Fc fa fn ex K mg) {sp_Hearing_is_loose : DSp} {sp : DSp} (h_Hearing_is_loose : DFn P w K mg base 1 (He.ma K (He.ga K "Hearing") "is_loose") P_Hearing_is_loose sp_Hearing_is_loose) (hw : Keeps 2 7 (w_leading sp_Hearing_is_loose) sp) : DFn P w K mg base (1 + 1) (He.ga K "leading") P_leading sp := by
  obtain ⟨fd, Fd⟩ := F.def_ 13 (d := d13) rfl
  refine dfn_of Fd sc_leading hw ?_ (der_leading F h_Hearing_is_loose _)
  exact by
    intro kV doc pm an cdv ct us ws n h1 h2 h3
    subst h2
    rcases us with _ | ⟨a0, _ | ⟨a1, _ | ⟨a2, us⟩⟩⟩
    · obtain ⟨_, _, rfl⟩ := len2 h3; rfl
    · obtain ⟨_, rfl⟩ := len1 h3; rfl
    · obtain ⟨rfl⟩ := len0 h3; rfl
    · simp at h1
theorem sc_first_order : FnScope N_first_order P_first_order (defScope (top 14)) := ⟨rfl, rfl, rfl, by decide +kernel, rfl, by decide +kernel, by decide +kernel⟩
def w_first_order (sp_leading : DSp) : WS := (wsSeq (wsSet 2 (wNew (wRdQ (wVar 1))))
  (wsSeq (wsSet 3 (wNew (wLst waNil)))
  (wsSeq (wsWhile (wTru (wVar 2)) (wsSeq (wsSet 4 (w2 kIx (wMinD (wComp (wiSeq (wCall 2 sp_leading (waCons (wVar 0) (waCons (wVar 2) waNil)))) [5] (wgName 5) wYes (wTup (waCons (w2 kIx (wVar 2) (wVar 5)) (waCons (wVar 5) waNil))))) (wK (.int 1))))
      (wsExpr (wLM kAppend (wVar 3) (waCons (wLM kPop (wVar 2) (waCons (wVar 4) waNil)) waNil)))))
  (wsRet (wBlt kTupOf (waCons (wVar 3) waNil))))))
theorem der_first_order (F : Fc fa fn ex K mg) {sp_leading : DSp} (h_leading : DFn P w K mg base 2 (He.ga K "leading") P_leading sp_leading) (f : Addr) (cdv : Value) (A : Around) (outer : List Env) (s : Shared) (H : Hp) (E : XK) (hr : Room 2 (A.deeper (envOfC "first_order" (defScope (top 14)) s.heap.objs.size f cdv))) :
    PSs (cxOf CX0 P w K mg base N_first_order "first_order" (defScope (top 14)) f cdv A outer s H E).nox (defBody (top 14)) (tDs K (w_first_order sp_leading)) :=
  have nd := sc_first_order.nd
  (b_cons (s_set (i := 2) nd rfl (Or.inr rfl) (e_new (e_listQ rfl (F.free 64) (e_rdQ (e_var (pv 1))))))
  (b_cons (s_set (i := 3) nd rfl (Or.inl rfl) (e_new (e_lst a_nil)))
  (b_cons (s_while PassesOwn.never (t_tru (e_var (pv 2))) (b_cons (s_set (i := 4) nd rfl (Or.inl rfl) (e_ix ⟨_, hr⟩ (e_minD rfl ⟨_, hr⟩ rfl (F.free 66) (e_tl (e_lc (own := [("at", 5)]) rfl nd (i_seq (e_call (ps := P_leading) (h_leading.mono (by decide)) hr rfl (F.glo 21) (F.keep 13 (d := d13)) (a_cons (e_var (pv 0)) (a_cons (e_var (pv 2)) a_nil)))) (blkOk_by (N := N_first_order) (sc := defScope (top 14)) (by decide +kernel)) (by intro i hi; revert hi; revert i; decide) (fun _ _ _ _ _ => (g_name (pg_name (i := 5) nd rfl (Or.inl rfl)))) (fun _ _ _ _ _ => ts_nil) (fun _ _ _ _ _ => (e_tup (a_cons (e_ix ⟨_, hr⟩ (e_var (pv 2)) (e_var (pv 5))) (a_cons (e_var (pv 5)) a_nil))))))) e_int))
      (b_one (s_expr (e_append (e_var (pv 3)) (a_cons (e_pop (e_var (pv 2)) (a_cons (e_var (pv 4)) a_nil)) a_nil))))))
  (b_one (s_ret (e_tupOf rfl (F.free 71) (a_cons (e_var (pv 3)) a_nil)))))))
theorem ok_first_order (F : Fc fa fn ex K mg) {sp_leading : DSp} {sp : DSp} (h_leading : DFn P w K mg base 2 (He.ga K "leading") P_leading sp_leading) (hw : Keeps 2 6 (w_first_order sp_leading) sp) : DFn P w K mg base (2 + 1) (He.ga K "first_order") P_first_order sp := by
  obtain ⟨fd, Fd⟩ := F.def_ 14 (d := d14) rfl
  refine dfn_of Fd sc_first_order hw ?_ (der_first_order F h_leading _)
  exact by
    intro kV doc pm an cdv ct us ws n h1 h2 h3
    subst h2
    rcases us with _ | ⟨a0, _ | ⟨a1, _ | ⟨a2, us⟩⟩⟩
    · obtain ⟨_, _, rfl⟩ := len2 h3; rfl
    · obtain ⟨_, rfl⟩ := len1 h3; rfl
    · obtain ⟨rfl⟩ := len0 h3; rfl
    · simp at h1
theorem sc_plain_by : FnScope N_plain_by P_plain_by (defScope (top 15)) := ⟨rfl, rfl, rfl, by decide +kernel, rfl, by decide +kernel, by decide +kernel⟩
def w_plain_by (sp_kept_signs : DSp) (sp_first_order : DSp) : WS := (wsRet (wCall 2 sp_first_order (waCons (wVar 0) (waCons (wCall 2 sp_kept_signs (waCons (wVar 0) (waCons (wVar 1) waNil))) waNil))))
theorem der_plain_by (F : Fc fa fn ex K mg) {sp_kept_signs : DSp} {sp_first_order : DSp} (h_kept_signs : DFn P w K mg base 3 (He.ga K "kept_signs") P_kept_signs sp_kept_signs) (h_first_order : DFn P w K mg base 3 (He.ga K "first_order") P_first_order sp_first_order) (f : Addr) (cdv : Value) (A : Around) (outer : List Env) (s : Shared) (H : Hp) (E : XK) (hr : Room 3 (A.deeper (envOfC "plain_by" (defScope (top 15)) s.heap.objs.size f cdv))) :
    PSs (cxOf CX0 P w K mg base N_plain_by "plain_by" (defScope (top 15)) f cdv A outer s H E).nox (defBody (top 15)) (tDs K (w_plain_by sp_kept_signs sp_first_order)) :=
  have nd := sc_plain_by.nd
  (b_one (s_ret (e_call (ps := P_first_order) (h_first_order.mono (by decide)) hr rfl (F.glo 22) (F.keep 14 (d := d14)) (a_cons (e_var (pv 0)) (a_cons (e_call (ps := P_kept_signs) (h_kept_signs.mono (by decide)) hr rfl (F.glo 20) (F.keep 12 (d := d12)) (a_cons (e_var (pv 0)) (a_cons (e_var (pv 1)) a_nil))) a_nil)))))
theorem ok_plain_by (F : Fc fa fn ex K mg) {sp_kept_signs : DSp} {sp_first_order : DSp} {sp : DSp} (h_kept_signs : DFn P w K mg base 3 (He.ga K "kept_signs") P_kept_signs sp_kept_signs) (h_first_order : DFn P w K mg base 3 (He.ga K "first_order") P_first_order sp_first_order) (hw : Keeps 2 2 (w_plain_by sp_kept_signs sp_first_order) sp) : DFn P w K mg base (3 + 1) (He.ga K "plain_by") P_plain_by sp := by
  obtain ⟨fd, Fd⟩ := F.def_ 15 (d := d15) rfl
  refine dfn_of Fd sc_plain_by hw ?_ (der_plain_by F h_kept_signs h_first_order _)
  exact by
    intro kV doc pm an cdv ct us ws n h1 h2 h3
    subst h2
    rcases us with _ | ⟨a0, _ | ⟨a1, _ | ⟨a2, us⟩⟩⟩
    · obtain ⟨_, _, rfl⟩ := len2 h3; rfl
    · obtain ⟨_, rfl⟩ := len1 h3; rfl
    · obtain ⟨rfl⟩ := len0 h3; rfl
    · simp at h1
theorem sc_are_kin : FnScope N_are_kin P_are_kin (defScope (top 16)) := ⟨rfl, rfl, rfl, by decide +kernel, rfl, by decide +kernel, by decide +kernel⟩
def w_are_kin (sp_Hearing_init : DSp) (sp_plain_by : DSp) : WS := (wsSeq (wsSet 3 (wMake "Hearing" 2 sp_Hearing_init (waCons (wVar 0) waNil)))
  (wsRet (w2 kEq (wCall 2 sp_plain_by (waCons (wVar 3) (waCons (wVar 1) waNil))) (wCall 2 sp_plain_by (waCons (wVar 3) (waCons (wVar 2) waNil))))))
theorem der_are_kin (F : Fc fa fn ex K mg) {sp_Hearing_init : DSp} {sp_plain_by : DSp} (h_Hearing_init : DFn P w K mg base 2 (He.ma K (He.ga K "Hearing") "__init__") P_Hearing_init sp_Hearing_init) (h_plain_by : DFn P w K mg base 4 (He.ga K "plain_by") P_plain_by sp_plain_by) (f : Addr) (cdv : Value) (A : Around) (outer : List Env) (s : Shared) (H : Hp) (E : XK) (hr : Room 4 (A.deeper (envOfC "are_kin" (defScope (top 16)) s.heap.objs.size f cdv))) :
    PSs (cxOf CX0 P w K mg base N_are_kin "are_kin" (defScope (top 16)) f cdv A outer s H E).nox (defBody (top 16)) (tDs K (w_are_kin sp_Hearing_init sp_plain_by)) :=
  have nd := sc_are_kin.nd
  (b_cons (s_set (i := 3) nd rfl (Or.inl rfl) (e_make (ps := P_Hearing_init) (F.mkr 9) h_Hearing_init (hr.mono (by decide)) rfl (F.glo 7) (a_cons (e_var (pv 0)) a_nil)))
  (b_one (s_ret (e_eq ⟨_, hr⟩ (e_call (ps := P_plain_by) (h_plain_by.mono (by decide)) hr rfl (F.glo 23) (F.keep 15 (d := d15)) (a_cons (e_var (pv 3)) (a_cons (e_var (pv 1)) a_nil))) (e_call (ps := P_plain_by) (h_plain_by.mono (by decide)) hr rfl (F.glo 23) (F.keep 15 (d := d15)) (a_cons (e_var (pv 3)) (a_cons (e_var (pv 2)) a_nil)))))))
theorem ok_are_kin (F : Fc fa fn ex K mg) {sp_Hearing_init : DSp} {sp_plain_by : DSp} {sp : DSp} (h_Hearing_init : DFn P w K mg base 2 (He.ma K (He.ga K "Hearing") "__init__") P_Hearing_init sp_Hearing_init) (h_plain_by : DFn P w K mg base 4 (He.ga K "plain_by") P_plain_by sp_plain_by) (hw : Keeps 3 4 (w_are_kin sp_Hearing_init sp_plain_by) sp) : DFn P w K mg base (4 + 1) (He.ga K "are_kin") P_are_kin sp := by
  obtain ⟨fd, Fd⟩ := F.def_ 16 (d := d16) rfl
  refine dfn_of Fd sc_are_kin hw ?_ (der_are_kin F h_Hearing_init h_plain_by _)
  exact by
    intro kV doc pm an cdv ct us ws n h1 h2 h3
    subst h2
    rcases us with _ | ⟨a0, _ | ⟨a1, _ | ⟨a2, _ | ⟨a3, us⟩⟩⟩⟩
    · obtain ⟨_, _, _, rfl⟩ := len3 h3; rfl
    · obtain ⟨_, _, rfl⟩ := len2 h3; rfl
    · obtain ⟨_, rfl⟩ := len1 h3; rfl
    · obtain ⟨rfl⟩ := len0 h3; rfl
    · simp at h1
theorem sc_Watch_init : FnScope N_Watch_init P_Watch_init (defScope (inClass (top 18) 0)) := ⟨rfl, rfl, rfl, by decide +kernel, rfl, by decide +kernel, by decide +kernel⟩
def w_Watch_init : WS := (wsSeq (wsFld "Watch" "_setting" (wVar 0) (wVar 1))
  (wsFld "Watch" "_pairs" (wVar 0) (wNew (wLst waNil))))
theorem der_Watch_init (F : Fc fa fn ex K mg) (f : Addr) (cdv : Value) (A : Around) (outer : List Env) (s : Shared) (H : Hp) (E : XK) (hr : Room 0 (A.deeper (envOfC "Watch.__init__" (defScope (inClass (top 18) 0)) s.heap.objs.size f cdv))) :
    PSs (cxOf CX0 P w K mg base N_Watch_init "Watch.__init__" (defScope (inClass (top 18) 0)) f cdv A outer s H E).nox (defBody (inClass (top 18) 0)) (tDs K (w_Watch_init)) :=
  have nd := sc_Watch_init.nd
  (b_cons (s_fld (F.cls 26) (F.noat 34) (e_var (pv 0)) (e_var (pv 1)))
  (b_one (s_fld (F.cls 26) (F.noat 33) (e_var (pv 0)) (e_new (e_lst a_nil)))))
theorem ok_Watch_init (F : Fc fa fn ex K mg) {sp : DSp} (hw : Keeps 2 2 (w_Watch_init) sp) : DFn P w K mg base (0 + 1) (He.ma K (He.ga K "Watch") "__init__") P_Watch_init sp := by
  obtain ⟨fd, Fd⟩ := F.def_ 17 (d := d17) rfl
  refine dfn_of Fd sc_Watch_init hw ?_ (der_Watch_init F _)
  exact by
    intro kV doc pm an cdv ct us ws n h1 h2 h3
    subst h2
    rcases us with _ | ⟨a0, _ | ⟨a1, _ | ⟨a2, us⟩⟩⟩
    · obtain ⟨_, _, rfl⟩ := len2 h3; rfl
    · obtain ⟨_, rfl⟩ := len1 h3; rfl
    · obtain ⟨rfl⟩ := len0 h3; rfl
    · simp at h1
theorem sc_Watch_see : FnScope N_Watch_see P_Watch_see (defScope (inClass (top 18) 1)) := ⟨rfl, rfl, rfl, by decide +kernel, rfl, by decide +kernel, by decide +kernel⟩
def w_Watch_see (sp_are_kin : DSp) : WS := (wsSeq (wsExpr (wLM kAppend (wFld "Watch" "_pairs" (wVar 0)) (waCons (wTup (waCons (wVar 1) (waCons (wVar 2) waNil))) waNil)))
  (wsSeq (wsIf (wTst (w2 kEq (wVar 1) (wVar 2))) (wsRet (wK (.str "plain"))) wsNext)
  (wsRet (wIf (wTru (wCall 3 sp_are_kin (waCons (wFld "Watch" "_setting" (wVar 0)) (waCons (wVar 1) (waCons (wVar 2) waNil))))) (wK (.str "heard")) (wK (.str "strange"))))))
theorem der_Watch_see (F : Fc fa fn ex K mg) {sp_are_kin : DSp} (h_are_kin : DFn P w K mg base 5 (He.ga K "are_kin") P_are_kin sp_are_kin) (f : Addr) (cdv : Value) (A : Around) (outer : List Env) (s : Shared) (H : Hp) (E : XK) (hr : Room 5 (A.deeper (envOfC "Watch.see" (defScope (inClass (top 18) 1)) s.heap.objs.size f cdv))) :
    PSs (cxOf CX0 P w K mg base N_Watch_see "Watch.see" (defScope (inClass (top 18) 1)) f cdv A outer s H E).nox (defBody (inClass (top 18) 1)) (tDs K (w_Watch_see sp_are_kin)) :=
  have nd := sc_Watch_see.nd
  (b_cons (s_expr (e_append (e_fld (F.cls 26) (F.noat 33) (e_var (pv 0))) (a_cons (e_tup (a_cons (e_var (pv 1)) (a_cons (e_var (pv 2)) a_nil))) a_nil)))
  (b_cons (s_if (t_eq ⟨_, hr⟩ (e_var (pv 1)) (e_var (pv 2))) (b_one (s_ret e_str)) b_nil)
  (b_one (s_ret (e_if (t_tru (e_call (ps := P_are_kin) (h_are_kin.mono (by decide)) hr rfl (F.glo 24) (F.keep 16 (d := d16)) (a_cons (e_fld (F.cls 26) (F.noat 34) (e_var (pv 0))) (a_cons (e_var (pv 1)) (a_cons (e_var (pv 2)) a_nil))))) e_str e_str)))))
theorem ok_Watch_see (F : Fc fa fn ex K mg) {sp_are_kin : DSp} {sp : DSp} (h_are_kin : DFn P w K mg base 5 (He.ga K "are_kin") P_are_kin sp_are_kin) (hw : Keeps 3 3 (w_Watch_see sp_are_kin) sp) : DFn P w K mg base (5 + 1) (He.ma K (He.ga K "Watch") "see") P_Watch_see sp := by
  obtain ⟨fd, Fd⟩ := F.def_ 18 (d := d18) rfl
  refine dfn_of Fd sc_Watch_see hw ?_ (der_Watch_see F h_are_kin _)
  exact by
    intro kV doc pm an cdv ct us ws n h1 h2 h3
    subst h2
    rcases us with _ | ⟨a0, _ | ⟨a1, _ | ⟨a2, _ | ⟨a3, us⟩⟩⟩⟩
    · obtain ⟨_, _, _, rfl⟩ := len3 h3; rfl
    · obtain ⟨_, _, rfl⟩ := len2 h3; rfl
    · obtain ⟨_, rfl⟩ := len1 h3; rfl
    · obtain ⟨rfl⟩ := len0 h3; rfl
    · simp at h1
theorem sc_Watch_strange : FnScope N_Watch_strange P_Watch_strange (defScope (inClass (top 18) 2)) := ⟨rfl, rfl, rfl, by decide +kernel, rfl, by decide +kernel, by decide +kernel⟩
def w_Watch_strange (sp_are_kin : DSp) : WS := (wsSeq (wsSet 1 (wNew (wLst waNil)))
  (wsSeq (wsFor (wiEnum (waCons (wFld "Watch" "_pairs" (wVar 0)) waNil)) (wgSeq 2 (wgCons (wgName 2) (wgCons (wgSeq 2 (wgCons (wgName 3) (wgCons (wgName 4) wgNil))) wgNil))) (wsIf (wNot (wTru (wCall 3 sp_are_kin (waCons (wFld "Watch" "_setting" (wVar 0)) (waCons (wVar 3) (waCons (wVar 4) waNil)))))) (wsExpr (wLM kAppend (wVar 1) (waCons (wVar 2) waNil))) wsNext))
  (wsRet (wBlt kTupOf (waCons (wVar 1) waNil)))))
theorem der_Watch_strange (F : Fc fa fn ex K mg) {sp_are_kin : DSp} (h_are_kin : DFn P w K mg base 5 (He.ga K "are_kin") P_are_kin sp_are_kin) (f : Addr) (cdv : Value) (A : Around) (outer : List Env) (s : Shared) (H : Hp) (E : XK) (hr : Room 5 (A.deeper (envOfC "Watch.strange" (defScope (inClass (top 18) 2)) s.heap.objs.size f cdv))) :
    PSs (cxOf CX0 P w K mg base N_Watch_strange "Watch.strange" (defScope (inClass (top 18) 2)) f cdv A outer s H E).nox (defBody (inClass (top 18) 2)) (tDs K (w_Watch_strange sp_are_kin)) :=
  have nd := sc_Watch_strange.nd
  (b_cons (s_set (i := 1) nd rfl (Or.inl rfl) (e_new (e_lst a_nil)))
  (b_cons (s_for PassesOwn.never rfl (i_enum rfl (F.free 60) (a_cons (e_fld (F.cls 26) (F.noat 33) (e_var (pv 0))) a_nil)) (g_seq rfl (g_cons (g_name (pg_name (i := 2) nd rfl (Or.inl rfl))) (g_cons (g_seq rfl (g_cons (g_name (pg_name (i := 3) nd rfl (Or.inl rfl))) (g_cons (g_name (pg_name (i := 4) nd rfl (Or.inl rfl))) (g_nil (is := []))))) (g_nil (is := []))))) (b_one (s_if (t_not (t_tru (e_call (ps := P_are_kin) (h_are_kin.mono (by decide)) hr rfl (F.glo 24) (F.keep 16 (d := d16)) (a_cons (e_fld (F.cls 26) (F.noat 34) (e_var (pv 0))) (a_cons (e_var (pv 3)) (a_cons (e_var (pv 4)) a_nil)))))) (b_one (s_expr (e_append (e_var (pv 1)) (a_cons (e_var (pv 2)) a_nil)))) b_nil)))
  (b_one (s_ret (e_tupOf rfl (F.free 71) (a_cons (e_var (pv 1)) a_nil))))))
theorem ok_Watch_strange (F : Fc fa fn ex K mg) {sp_are_kin : DSp} {sp : DSp} (h_are_kin : DFn P w K mg base 5 (He.ga K "are_kin") P_are_kin sp_are_kin) (hw : Keeps 1 5 (w_Watch_strange sp_are_kin) sp) : DFn P w K mg base (5 + 1) (He.ma K (He.ga K "Watch") "strange") P_Watch_strange sp := by
  obtain ⟨fd, Fd⟩ := F.def_ 19 (d := d19) rfl
  refine dfn_of Fd sc_Watch_strange hw ?_ (der_Watch_strange F h_are_kin _)
  exact by
    intro kV doc pm an cdv ct us ws n h1 h2 h3
    subst h2
    rcases us with _ | ⟨a0, _ | ⟨a1, us⟩⟩
    · obtain ⟨_, rfl⟩ := len1 h3; rfl
    · obtain ⟨rfl⟩ := len0 h3; rfl
    · simp at h1
theorem sc_Watch_explaining : FnScope N_Watch_explaining P_Watch_explaining (defScope (inClass (top 18) 3)) := ⟨rfl, rfl, rfl, by decide +kernel, rfl, by decide +kernel, by decide +kernel⟩
def w_Watch_explaining (sp_all_changes : DSp) (sp_are_kin : DSp) : WS := (wsSeq (wsAsg (wFld "Watch" "_setting" (wVar 0)) (wgSeq 2 (wgCons (wgName 1) (wgCons (wgName 2) wgNil))))
  (wsSeq (wsSet 3 (wNew (wLst waNil)))
  (wsSeq (wsFor (wiSeq (wCall 1 sp_all_changes (waCons (wBlt kLen (waCons (wVar 1) waNil)) waNil))) (wgName 4) (wsSeq (wsSet 5 (wTup (waCons (wVar 1) (waCons (w2 kAdd (wVar 2) (wTup (waCons (wVar 4) waNil))) waNil))))
      (wsIf (wTru (wAll (wComp (wiSeq (wFld "Watch" "_pairs" (wVar 0))) [6, 7] (wgSeq 2 (wgCons (wgName 6) (wgCons (wgName 7) wgNil))) wYes (wCall 3 sp_are_kin (waCons (wVar 5) (waCons (wVar 6) (waCons (wVar 7) waNil))))))) (wsExpr (wLM kAppend (wVar 3) (waCons (wVar 4) waNil))) wsNext)))
  (wsRet (wBlt kTupOf (waCons (wVar 3) waNil))))))
theorem der_Watch_explaining (F : Fc fa fn ex K mg) {sp_all_changes : DSp} {sp_are_kin : DSp} (h_all_changes : DFn P w K mg base 1 (He.ga K "all_changes") P_all_changes sp_all_changes) (h_are_kin : DFn P w K mg base 5 (He.ga K "are_kin") P_are_kin sp_are_kin) (f : Addr) (cdv : Value) (A : Around) (outer : List Env) (s : Shared) (H : Hp) (E : XK) (hr : Room 5 (A.deeper (envOfC "Watch.explaining" (defScope (inClass (top 18) 3)) s.heap.objs.size f cdv))) :
    PSs (cxOf CX0 P w K mg base N_Watch_explaining "Watch.explaining" (defScope (inClass (top 18) 3)) f cdv A outer s H E).nox (defBody (inClass (top 18) 3)) (tDs K (w_Watch_explaining sp_all_changes sp_are_kin)) :=
  have nd := sc_Watch_explaining.nd
  (b_cons (s_asg (e_fld (F.cls 26) (F.noat 34) (e_var (pv 0))) (g_seq rfl (g_cons (g_name (pg_name (i := 1) nd rfl (Or.inl rfl))) (g_cons (g_name (pg_name (i := 2) nd rfl (Or.inl rfl))) (g_nil (is := []))))))
  (b_cons (s_set (i := 3) nd rfl (Or.inl rfl) (e_new (e_lst a_nil)))
  (b_cons (s_for PassesOwn.never rfl (i_seq (e_call (ps := P_all_changes) (h_all_changes.mono (by decide)) hr rfl (F.glo 3) (F.keep 1 (d := d1)) (a_cons (e_len rfl (F.free 63) (a_cons (e_var (pv 1)) a_nil)) a_nil))) (g_name (pg_name (i := 4) nd rfl (Or.inl rfl))) (b_cons (s_set (i := 5) nd rfl (Or.inr rfl) (e_tup (a_cons (e_var (pv 1)) (a_cons (e_add (e_var (pv 2)) (e_tup (a_cons (e_var (pv 4)) a_nil))) a_nil))))
      (b_one (s_if (t_tru (e_all rfl rfl (F.free 58) (e_tl (e_lc (own := [("meant", 6), ("heard", 7)]) rfl nd (i_seq (e_fld (F.cls 26) (F.noat 33) (e_var (pv 0)))) (blkOk_by (N := N_Watch_explaining) (sc := defScope (inClass (top 18) 3)) (by decide +kernel)) (by intro i hi; revert hi; revert i; decide) (fun _ _ _ _ _ => (g_seq rfl (g_cons (g_name (pg_name (i := 6) nd rfl (Or.inl rfl))) (g_cons (g_name (pg_name (i := 7) nd rfl (Or.inl rfl))) (g_nil (is := [])))))) (fun _ _ _ _ _ => ts_nil) (fun _ _ _ _ _ => (e_call (ps := P_are_kin) (h_are_kin.mono (by decide)) hr rfl (F.glo 24) (F.keep 16 (d := d16)) (a_cons (e_var (pv 5)) (a_cons (e_var (pv 6)) (a_cons (e_var (pv 7)) a_nil))))))))) (b_one (s_expr (e_append (e_var (pv 3)) (a_cons (e_var (pv 4)) a_nil)))) b_nil))))
  (b_one (s_ret (e_tupOf rfl (F.free 71) (a_cons (e_var (pv 3)) a_nil)))))))
theorem ok_Watch_explaining (F : Fc fa fn ex K mg) {sp_all_changes : DSp} {sp_are_kin : DSp} {sp : DSp} (h_all_changes : DFn P w K mg base 1 (He.ga K "all_changes") P_all_changes sp_all_changes) (h_are_kin : DFn P w K mg base 5 (He.ga K "are_kin") P_are_kin sp_are_kin) (hw : Keeps 1 8 (w_Watch_explaining sp_all_changes sp_are_kin) sp) : DFn P w K mg base (5 + 1) (He.ma K (He.ga K "Watch") "explaining") P_Watch_explaining sp := by
  obtain ⟨fd, Fd⟩ := F.def_ 20 (d := d20) rfl
  refine dfn_of Fd sc_Watch_explaining hw ?_ (der_Watch_explaining F h_all_changes h_are_kin _)
  exact by
    intro kV doc pm an cdv ct us ws n h1 h2 h3
    subst h2
    rcases us with _ | ⟨a0, _ | ⟨a1, us⟩⟩
    · obtain ⟨_, rfl⟩ := len1 h3; rfl
    · obtain ⟨rfl⟩ := len0 h3; rfl
    · simp at h1
theorem sc_Watch_needed : FnScope N_Watch_needed P_Watch_needed (defScope (inClass (top 18) 4)) := ⟨rfl, rfl, rfl, by decide +kernel, rfl, by decide +kernel, by decide +kernel⟩
def w_Watch_needed (sp_are_kin : DSp) : WS := (wsSeq (wsAsg (wFld "Watch" "_setting" (wVar 0)) (wgSeq 2 (wgCons (wgName 1) (wgCons (wgName 2) wgNil))))
  (wsSeq (wsSet 3 (wNew (wComp (wiSeq (wFld "Watch" "_pairs" (wVar 0))) [4, 5] (wgSeq 2 (wgCons (wgName 4) (wgCons (wgName 5) wgNil))) wYes (wCall 3 sp_are_kin (waCons (wFld "Watch" "_setting" (wVar 0)) (waCons (wVar 4) (waCons (wVar 5) waNil)))))))
  (wsSeq (wsSet 6 (wNew (wLst waNil)))
  (wsSeq (wsFor (wiRng1 (waCons (wBlt kLen (waCons (wVar 2) waNil)) waNil)) (wgName 7) (wsSeq (wsSet 8 (wTup (waCons (wVar 1) (waCons (w2 kAdd (wSl (wVar 2) woNone (woSome (wVar 7))) (wSl (wVar 2) (woSome (w2 kAdd (wVar 7) (wK (.int 1)))) woNone)) waNil))))
      (wsSeq (wsSet 9 (wNew (wComp (wiSeq (wFld "Watch" "_pairs" (wVar 0))) [4, 5] (wgSeq 2 (wgCons (wgName 4) (wgCons (wgName 5) wgNil))) wYes (wCall 3 sp_are_kin (waCons (wVar 8) (waCons (wVar 4) (waCons (wVar 5) waNil)))))))
      (wsIf (wTst (w2 kNe (wVar 3) (wVar 9))) (wsExpr (wLM kAppend (wVar 6) (waCons (wVar 7) waNil))) wsNext))))
  (wsRet (wBlt kTupOf (waCons (wVar 6) waNil)))))))
theorem der_Watch_needed (F : Fc fa fn ex K mg) {sp_are_kin : DSp} (h_are_kin : DFn P w K mg base 5 (He.ga K "are_kin") P_are_kin sp_are_kin) (f : Addr) (cdv : Value) (A : Around) (outer : List Env) (s : Shared) (H : Hp) (E : XK) (hr : Room 5 (A.deeper (envOfC "Watch.needed" (defScope (inClass (top 18) 4)) s.heap.objs.size f cdv))) :
    PSs (cxOf CX0 P w K mg base N_Watch_needed "Watch.needed" (defScope (inClass (top 18) 4)) f cdv A outer s H E).nox (defBody (inClass (top 18) 4)) (tDs K (w_Watch_needed sp_are_kin)) :=
  have nd := sc_Watch_needed.nd
  (b_cons (s_asg (e_fld (F.cls 26) (F.noat 34) (e_var (pv 0))) (g_seq rfl (g_cons (g_name (pg_name (i := 1) nd rfl (Or.inl rfl))) (g_cons (g_name (pg_name (i := 2) nd rfl (Or.inl rfl))) (g_nil (is := []))))))
  (b_cons (s_setLc (i := 3) (own := [("meant", 4), ("heard", 5)]) rfl nd rfl rfl (sw_true rfl rfl rfl (by decide +kernel)) (i_seq (e_fld (F.cls 26) (F.noat 33) (e_var (pv 0)))) (blkOk_by (N := N_Watch_needed) (sc := defScope (inClass (top 18) 4)) (by decide +kernel)) (by intro i hi; revert hi; revert i; decide) (fun _ _ _ _ _ => (g_seq rfl (g_cons (g_name (pg_name (i := 4) nd rfl (Or.inl rfl))) (g_cons (g_name (pg_name (i := 5) nd rfl (Or.inl rfl))) (g_nil (is := [])))))) (fun _ _ _ _ _ => ts_nil) (fun _ _ _ _ _ => (e_call (ps := P_are_kin) (h_are_kin.mono (by decide)) hr rfl (F.glo 24) (F.keep 16 (d := d16)) (a_cons (e_fld (F.cls 26) (F.noat 34) (e_var (pv 0))) (a_cons (e_var (pv 4)) (a_cons (e_var (pv 5)) a_nil))))))
  (b_cons (s_set (i := 6) nd rfl (Or.inl rfl) (e_new (e_lst a_nil)))
  (b_cons (s_for PassesOwn.never rfl (i_rng1 rfl (F.free 67) (a_cons (e_len rfl (F.free 63) (a_cons (e_var (pv 2)) a_nil)) a_nil)) (g_name (pg_name (i := 7) nd rfl (Or.inl rfl))) (b_cons (s_set (i := 8) nd rfl (Or.inr rfl) (e_tup (a_cons (e_var (pv 1)) (a_cons (e_add (e_sl (e_var (pv 2)) o_none (o_some (e_var (pv 7)))) (e_sl (e_var (pv 2)) (o_some (e_add (e_var (pv 7)) e_int)) o_none)) a_nil))))
      (b_cons (s_setLc (i := 9) (own := [("meant", 4), ("heard", 5)]) rfl nd rfl rfl (sw_true rfl rfl rfl (by decide +kernel)) (i_seq (e_fld (F.cls 26) (F.noat 33) (e_var (pv 0)))) (blkOk_by (N := N_Watch_needed) (sc := defScope (inClass (top 18) 4)) (by decide +kernel)) (by intro i hi; revert hi; revert i; decide) (fun _ _ _ _ _ => (g_seq rfl (g_cons (g_name (pg_name (i := 4) nd rfl (Or.inl rfl))) (g_cons (g_name (pg_name (i := 5) nd rfl (Or.inl rfl))) (g_nil (is := [])))))) (fun _ _ _ _ _ => ts_nil) (fun _ _ _ _ _ => (e_call (ps := P_are_kin) (h_are_kin.mono (by decide)) hr rfl (F.glo 24) (F.keep 16 (d := d16)) (a_cons (e_var (pv 8)) (a_cons (e_var (pv 4)) (a_cons (e_var (pv 5)) a_nil))))))
      (b_one (s_if (t_ne ⟨_, hr⟩ (e_var (pv 3)) (e_var (pv 9))) (b_one (s_expr (e_append (e_var (pv 6)) (a_cons (e_var (pv 7)) a_nil)))) b_nil)))))
  (b_one (s_ret (e_tupOf rfl (F.free 71) (a_cons (e_var (pv 6)) a_nil))))))))
theorem ok_Watch_needed (F : Fc fa fn ex K mg) {sp_are_kin : DSp} {sp : DSp} (h_are_kin : DFn P w K mg base 5 (He.ga K "are_kin") P_are_kin sp_are_kin) (hw : Keeps 1 10 (w_Watch_needed sp_are_kin) sp) : DFn P w K mg base (5 + 1) (He.ma K (He.ga K "Watch") "needed") P_Watch_needed sp := by
  obtain ⟨fd, Fd⟩ := F.def_ 21 (d := d21) rfl
  refine dfn_of Fd sc_Watch_needed hw ?_ (der_Watch_needed F h_are_kin _)
  exact by
    intro kV doc pm an cdv ct us ws n h1 h2 h3
    subst h2
    rcases us with _ | ⟨a0, _ | ⟨a1, us⟩⟩
    · obtain ⟨_, rfl⟩ := len1 h3; rfl
    · obtain ⟨rfl⟩ := len0 h3; rfl
    · simp at h1
theorem sc_Watch_pairs : FnScope N_Watch_pairs P_Watch_pairs (defScope (inClass (top 18) 5)) := ⟨rfl, rfl, rfl, by decide +kernel, rfl, by decide +kernel, by decide +kernel⟩
def w_Watch_pairs : WS := (wsRet (wBlt kTupOf (waCons (wFld "Watch" "_pairs" (wVar 0)) waNil)))
theorem der_Watch_pairs (F : Fc fa fn ex K mg) (f : Addr) (cdv : Value) (A : Around) (outer : List Env) (s : Shared) (H : Hp) (E : XK) (hr : Room 0 (A.deeper (envOfC "Watch.pairs" (defScope (inClass (top 18) 5)) s.heap.objs.size f cdv))) :
    PSs (cxOf CX0 P w K mg base N_Watch_pairs "Watch.pairs" (defScope (inClass (top 18) 5)) f cdv A outer s H E).nox (defBody (inClass (top 18) 5)) (tDs K (w_Watch_pairs)) :=
  have nd := sc_Watch_pairs.nd
  (b_one (s_ret (e_tupOf rfl (F.free 71) (a_cons (e_fld (F.cls 26) (F.noat 33) (e_var (pv 0))) a_nil))))
theorem ok_Watch_pairs (F : Fc fa fn ex K mg) {sp : DSp} (hw : Keeps 1 1 (w_Watch_pairs) sp) : DFn P w K mg base (0 + 1) (He.ma K (He.ga K "Watch") "pairs") P_Watch_pairs sp := by
  obtain ⟨fd, Fd⟩ := F.def_ 22 (d := d22) rfl
  refine dfn_of Fd sc_Watch_pairs hw ?_ (der_Watch_pairs F _)
  exact by
    intro kV doc pm an cdv ct us ws n h1 h2 h3
    subst h2
    rcases us with _ | ⟨a0, _ | ⟨a1, us⟩⟩
    · obtain ⟨_, rfl⟩ := len1 h3; rfl
    · obtain ⟨rfl⟩ := len0 h3; rfl
    · simp at h1
theorem sc_joins : FnScope N_joins P_joins (defScope (top 20)) := ⟨rfl, rfl, rfl, by decide +kernel, rfl, by decide +kernel, by decide +kernel⟩
def w_joins (sp_two_rows : DSp) (sp_are_kin : DSp) : WS := (wsSeq (wsAsg (wCall 1 sp_two_rows (waCons (wVar 1) waNil)) (wgSeq 2 (wgCons (wgName 2) (wgCons (wgName 3) wgNil))))
  (wsRet (wCall 3 sp_are_kin (waCons (wVar 0) (waCons (wVar 2) (waCons (wVar 3) waNil))))))
theorem der_joins (F : Fc fa fn ex K mg) {sp_two_rows : DSp} {sp_are_kin : DSp} (h_two_rows : DFn P w K mg base 1 (He.ga K "two_rows") P_two_rows sp_two_rows) (h_are_kin : DFn P w K mg base 5 (He.ga K "are_kin") P_are_kin sp_are_kin) (f : Addr) (cdv : Value) (A : Around) (outer : List Env) (s : Shared) (H : Hp) (E : XK) (hr : Room 5 (A.deeper (envOfC "joins" (defScope (top 20)) s.heap.objs.size f cdv))) :
    PSs (cxOf CX0 P w K mg base N_joins "joins" (defScope (top 20)) f cdv A outer s H E).nox (defBody (top 20)) (tDs K (w_joins sp_two_rows sp_are_kin)) :=
  have nd := sc_joins.nd
  (b_cons (s_asg (e_call (ps := P_two_rows) (h_two_rows.mono (by decide)) hr rfl (F.glo 6) (F.keep 4 (d := d4)) (a_cons (e_var (pv 1)) a_nil)) (g_seq rfl (g_cons (g_name (pg_name (i := 2) nd rfl (Or.inl rfl))) (g_cons (g_name (pg_name (i := 3) nd rfl (Or.inl rfl))) (g_nil (is := []))))))
  (b_one (s_ret (e_call (ps := P_are_kin) (h_are_kin.mono (by decide)) hr rfl (F.glo 24) (F.keep 16 (d := d16)) (a_cons (e_var (pv 0)) (a_cons (e_var (pv 2)) (a_cons (e_var (pv 3)) a_nil)))))))
theorem ok_joins (F : Fc fa fn ex K mg) {sp_two_rows : DSp} {sp_are_kin : DSp} {sp : DSp} (h_two_rows : DFn P w K mg base 1 (He.ga K "two_rows") P_two_rows sp_two_rows) (h_are_kin : DFn P w K mg base 5 (He.ga K "are_kin") P_are_kin sp_are_kin) (hw : Keeps 2 4 (w_joins sp_two_rows sp_are_kin) sp) : DFn P w K mg base (5 + 1) (He.ga K "joins") P_joins sp := by
  obtain ⟨fd, Fd⟩ := F.def_ 23 (d := d23) rfl
  refine dfn_of Fd sc_joins hw ?_ (der_joins F h_two_rows h_are_kin _)
  exact by
    intro kV doc pm an cdv ct us ws n h1 h2 h3
    subst h2
    rcases us with _ | ⟨a0, _ | ⟨a1, _ | ⟨a2, us⟩⟩⟩
    · obtain ⟨_, _, rfl⟩ := len2 h3; rfl
    · obtain ⟨_, rfl⟩ := len1 h3; rfl
    · obtain ⟨rfl⟩ := len0 h3; rfl
    · simp at h1
theorem sc_is_spare : FnScope N_is_spare P_is_spare (defScope (top 21)) := ⟨rfl, rfl, rfl, by decide +kernel, rfl, by decide +kernel, by decide +kernel⟩
def w_is_spare (sp_without_change : DSp) (sp_joins : DSp) : WS := (wsRet (wCall 2 sp_joins (waCons (wCall 2 sp_without_change (waCons (wVar 0) (waCons (wVar 1) waNil))) (waCons (w2 kIx (w2 kIx (wVar 0) (wK (.int 1))) (wVar 1)) waNil))))
theorem der_is_spare (F : Fc fa fn ex K mg) {sp_without_change : DSp} {sp_joins : DSp} (h_without_change : DFn P w K mg base 1 (He.ga K "without_change") P_without_change sp_without_change) (h_joins : DFn P w K mg base 6 (He.ga K "joins") P_joins sp_joins) (f : Addr) (cdv : Value) (A : Around) (outer : List Env) (s : Shared) (H : Hp) (E : XK) (hr : Room 6 (A.deeper (envOfC "is_spare" (defScope (top 21)) s.heap.objs.size f cdv))) :
    PSs (cxOf CX0 P w K mg base N_is_spare "is_spare" (defScope (top 21)) f cdv A outer s H E).nox (defBody (top 21)) (tDs K (w_is_spare sp_without_change sp_joins)) :=
  have nd := sc_is_spare.nd
  (b_one (s_ret (e_call (ps := P_joins) (h_joins.mono (by decide)) hr rfl (F.glo 35) (F.keep 23 (d := d23)) (a_cons (e_call (ps := P_without_change) (h_without_change.mono (by decide)) hr rfl (F.glo 4) (F.keep 2 (d := d2)) (a_cons (e_var (pv 0)) (a_cons (e_var (pv 1)) a_nil))) (a_cons (e_ix ⟨_, hr⟩ (e_ix ⟨_, hr⟩ (e_var (pv 0)) e_int) (e_var (pv 1))) a_nil)))))
theorem ok_is_spare (F : Fc fa fn ex K mg) {sp_without_change : DSp} {sp_joins : DSp} {sp : DSp} (h_without_change : DFn P w K mg base 1 (He.ga K "without_change") P_without_change sp_without_change) (h_joins : DFn P w K mg base 6 (He.ga K "joins") P_joins sp_joins) (hw : Keeps 2 2 (w_is_spare sp_without_change sp_joins) sp) : DFn P w K mg base (6 + 1) (He.ga K "is_spare") P_is_spare sp := by
  obtain ⟨fd, Fd⟩ := F.def_ 24 (d := d24) rfl
  refine dfn_of Fd sc_is_spare hw ?_ (der_is_spare F h_without_change h_joins _)
  exact by
    intro kV doc pm an cdv ct us ws n h1 h2 h3
    subst h2
    rcases us with _ | ⟨a0, _ | ⟨a1, _ | ⟨a2, us⟩⟩⟩
    · obtain ⟨_, _, rfl⟩ := len2 h3; rfl
    · obtain ⟨_, rfl⟩ := len1 h3; rfl
    · obtain ⟨rfl⟩ := len0 h3; rfl
    · simp at h1
theorem sc__law_keg : FnScope N__law_keg P__law_keg (defScope (top 23)) := ⟨rfl, rfl, rfl, by decide +kernel, rfl, by decide +kernel, by decide +kernel⟩
def w__law_keg : WS := (wsSeq (wsSet 1 (wNew (wLst waNil)))
  (wsSeq (wsSet 2 (wK (.int 790)))
  (wsSeq (wsFor (wiSeq (wVar 0)) (wgName 3) (wsSeq (wsSet 4 (w2 kMod (wBlt kAbs (waCons (wBlt kInt (waCons (wVar 3) waNil)) waNil)) (w2 kShl (wK (.int 1)) (wK (.int 2000)))))
      (wsSeq (wsSet 2 (w2 kMod (wBlt kInt (waCons (w2 kAdd (w2 kAdd (w2 kAdd (w2 kMul (wVar 2) (wK (.int 8121))) (w2 kMod (wVar 4) (wK (.int 134456)))) (w2 kMod (w2 kDiv (wVar 4) (wK (.int 134456))) (wK (.int 130003)))) (wK (.int 28411))) waNil)) (wK (.int 2147483423))))
      (wsIf (wTst (w2 kGe (wVar 4) (w2 kPow (wK (.int 10)) (wK (.int 18))))) (wsExpr (wLM kInsert (wVar 1) (waCons (wK (.int 0)) (waCons (wVar 4) waNil)))) wsNext))))
  (wsRet (wNew (wLst (waCons (wVar 1) (waCons (wVar 2) (waCons (w2 kAdd (wBlt kLen (waCons (wVar 0) waNil)) (wK (.int 1))) waNil)))))))))
theorem der__law_keg (F : Fc fa fn ex K mg) (f : Addr) (cdv : Value) (A : Around) (outer : List Env) (s : Shared) (H : Hp) (E : XK) (hr : Room 0 (A.deeper (envOfC "_law_keg" (defScope (top 23)) s.heap.objs.size f cdv))) :
    PSs (cxOf CX0 P w K mg base N__law_keg "_law_keg" (defScope (top 23)) f cdv A outer s H E).nox (defBody (top 23)) (tDs K (w__law_keg)) :=
  have nd := sc__law_keg.nd
  (b_cons (s_set (i := 1) nd rfl (Or.inl rfl) (e_new (e_lst a_nil)))
  (b_cons (s_set (i := 2) nd rfl (Or.inl rfl) e_int)
  (b_cons (s_for PassesOwn.never rfl (i_seq (e_var (pv 0))) (g_name (pg_name (i := 3) nd rfl (Or.inl rfl))) (b_cons (s_set (i := 4) nd rfl (Or.inl rfl) (e_mod (e_abs rfl (F.free 57) (a_cons (e_int1 rfl (F.free 61) (a_cons (e_var (pv 3)) a_nil)) a_nil)) (e_shl e_int e_int)))
      (b_cons (s_set (i := 2) nd rfl (Or.inl rfl) (e_mod (e_int1 rfl (F.free 61) (a_cons (e_add (e_add (e_add (e_mul (e_var (pv 2)) e_int) (e_mod (e_var (pv 4)) e_int)) (e_mod (e_div (e_var (pv 4)) e_int) e_int)) e_int) a_nil)) e_int))
      (b_one (s_if (t_ge (e_var (pv 4)) (e_pow e_int e_int)) (b_one (s_expr (e_insert (e_var (pv 1)) (a_cons e_int (a_cons (e_var (pv 4)) a_nil))))) b_nil)))))
  (b_one (s_ret (e_new (e_lst (a_cons (e_var (pv 1)) (a_cons (e_var (pv 2)) (a_cons (e_add (e_len rfl (F.free 63) (a_cons (e_var (pv 0)) a_nil)) e_int) a_nil))))))))))
theorem ok__law_keg (F : Fc fa fn ex K mg) {sp : DSp} (hw : Keeps 1 5 (w__law_keg) sp) : DFn P w K mg base (0 + 1) (He.ga K "_law_keg") P__law_keg sp := by
  obtain ⟨fd, Fd⟩ := F.def_ 25 (d := d25) rfl
  refine dfn_of Fd sc__law_keg hw ?_ (der__law_keg F _)
  exact by
    intro kV doc pm an cdv ct us ws n h1 h2 h3
    subst h2
    rcases us with _ | ⟨a0, _ | ⟨a1, us⟩⟩
    · obtain ⟨_, rfl⟩ := len1 h3; rfl
    · obtain ⟨rfl⟩ := len0 h3; rfl
    · simp at h1
theorem sc__law_pour : FnScope N__law_pour P__law_pour (defScope (top 24)) := ⟨rfl, rfl, rfl, by decide +kernel, rfl, by decide +kernel, by decide +kernel⟩
def w__law_pour : WS := (wsSeq (wsSet 2 (w2 kIx (wVar 0) (wK (.int 0))))
  (wsSeq (wsAsg (w2 kAdd (w2 kIx (wVar 0) (wK (.int 2))) (wK (.int 1))) (wgSub (wVar 0) (wK (.int 2))))
  (wsSeq (wsIf (wTst (w2 kGt (wBlt kLen (waCons (wVar 2) waNil)) (wK (.int 0)))) (wsSeq (wsSet 3 (w2 kMod (wBlt kInt (waCons (w2 kIx (wVar 0) (wK (.int 2))) waNil)) (wBlt kLen (waCons (wVar 2) waNil))))
      (wsSeq (wsSet 4 (wBlt kInt (waCons (w2 kIx (wVar 2) (wVar 3)) waNil)))
      (wsSeq (wsIf (wTst (w2 kEq (w2 kDiv (wVar 4) (wVar 1)) (wK (.int 0)))) (wsExpr (wLM kPop (wVar 2) (waCons (wVar 3) waNil))) (wsAsg (w2 kDiv (wVar 4) (wVar 1)) (wgSub (wVar 2) (wVar 3))))
      (wsRet (w2 kMod (wVar 4) (wVar 1)))))) wsNext)
  (wsSeq (wsAsg (w2 kMod (wBlt kInt (waCons (w2 kAdd (w2 kAdd (w2 kMul (w2 kIx (wVar 0) (wK (.int 1))) (wK (.int 397204094))) (w2 kMul (w2 kIx (wVar 0) (wK (.int 2))) (wK (.int 16807)))) (wK (.int 9))) waNil)) (wK (.int 2147483647))) (wgSub (wVar 0) (wK (.int 1))))
  (wsRet (w2 kMod (wBlt kInt (waCons (w2 kDiv (w2 kIx (wVar 0) (wK (.int 1))) (wK (.int 31))) waNil)) (wVar 1)))))))
theorem der__law_pour (F : Fc fa fn ex K mg) (f : Addr) (cdv : Value) (A : Around) (outer : List Env) (s : Shared) (H : Hp) (E : XK) (hr : Room 0 (A.deeper (envOfC "_law_pour" (defScope (top 24)) s.heap.objs.size f cdv))) :
    PSs (cxOf CX0 P w K mg base N__law_pour "_law_pour" (defScope (top 24)) f cdv A outer s H E).nox (defBody (top 24)) (tDs K (w__law_pour)) :=
  have nd := sc__law_pour.nd
  (b_cons (s_set (i := 2) nd rfl (Or.inl rfl) (e_ix ⟨_, hr⟩ (e_var (pv 0)) e_int))
  (b_cons (s_asg (e_add (e_ix ⟨_, hr⟩ (e_var (pv 0)) e_int) e_int) (g_sub (is := []) ⟨_, hr⟩ (e_var (pv 0)) e_int))
  (b_cons (s_if (t_gt (e_len rfl (F.free 63) (a_cons (e_var (pv 2)) a_nil)) e_int) (b_cons (s_set (i := 3) nd rfl (Or.inl rfl) (e_mod (e_int1 rfl (F.free 61) (a_cons (e_ix ⟨_, hr⟩ (e_var (pv 0)) e_int) a_nil)) (e_len rfl (F.free 63) (a_cons (e_var (pv 2)) a_nil))))
      (b_cons (s_set (i := 4) nd rfl (Or.inl rfl) (e_int1 rfl (F.free 61) (a_cons (e_ix ⟨_, hr⟩ (e_var (pv 2)) (e_var (pv 3))) a_nil)))
      (b_cons (s_if (t_eq ⟨_, hr⟩ (e_div (e_var (pv 4)) (e_var (pv 1))) e_int) (b_one (s_expr (e_pop (e_var (pv 2)) (a_cons (e_var (pv 3)) a_nil)))) (b_one (s_asg (e_div (e_var (pv 4)) (e_var (pv 1))) (g_sub (is := []) ⟨_, hr⟩ (e_var (pv 2)) (e_var (pv 3))))))
      (b_one (s_ret (e_mod (e_var (pv 4)) (e_var (pv 1)))))))) b_nil)
  (b_cons (s_asg (e_mod (e_int1 rfl (F.free 61) (a_cons (e_add (e_add (e_mul (e_ix ⟨_, hr⟩ (e_var (pv 0)) e_int) e_int) (e_mul (e_ix ⟨_, hr⟩ (e_var (pv 0)) e_int) e_int)) e_int) a_nil)) e_int) (g_sub (is := []) ⟨_, hr⟩ (e_var (pv 0)) e_int))
  (b_one (s_ret (e_mod (e_int1 rfl (F.free 61) (a_cons (e_div (e_ix ⟨_, hr⟩ (e_var (pv 0)) e_int) e_int) a_nil)) (e_var (pv 1)))))))))
theorem ok__law_pour (F : Fc fa fn ex K mg) {sp : DSp} (hw : Keeps 2 5 (w__law_pour) sp) : DFn P w K mg base (0 + 1) (He.ga K "_law_pour") P__law_pour sp := by
  obtain ⟨fd, Fd⟩ := F.def_ 26 (d := d26) rfl
  refine dfn_of Fd sc__law_pour hw ?_ (der__law_pour F _)
  exact by
    intro kV doc pm an cdv ct us ws n h1 h2 h3
    subst h2
    rcases us with _ | ⟨a0, _ | ⟨a1, _ | ⟨a2, us⟩⟩⟩
    · obtain ⟨_, _, rfl⟩ := len2 h3; rfl
    · obtain ⟨_, rfl⟩ := len1 h3; rfl
    · obtain ⟨rfl⟩ := len0 h3; rfl
    · simp at h1
theorem sc__law_every : FnScope N__law_every P__law_every (defScope (top 25)) := ⟨rfl, rfl, rfl, by decide +kernel, rfl, by decide +kernel, by decide +kernel⟩
def w__law_every : WS := (wsSeq (wsSet 1 (wNew (wCat (wComp (wiRng1 (waCons (wVar 0) waNil)) [2] (wgName 2) wYes (wTup (waCons (wK (.str "held")) (waCons (wVar 2) waNil)))) (wComp (wiRng1 (waCons (wVar 0) waNil)) [2] (wgName 2) wYes (wTup (waCons (wK (.str "idle")) (waCons (wVar 2) waNil)))))))
  (wsSeq (wsFor (wiTmp (wLst (waCons (wK (.str "loose")) (waCons (wK (.str "same")) waNil)))) (wgName 3) (wsFor (wiRng1 (waCons (wVar 0) waNil)) (wgName 2) (wsSet 1 (w2 kAdd (wVar 1) (wNew (wComp (wiRng2 (waCons (w2 kAdd (wVar 2) (wK (.int 1))) (waCons (wVar 0) waNil))) [4] (wgName 4) wYes (wTup (waCons (wVar 3) (waCons (wVar 2) (waCons (wVar 4) waNil))))))))))
  (wsRet (wVar 1))))
theorem der__law_every (F : Fc fa fn ex K mg) (f : Addr) (cdv : Value) (A : Around) (outer : List Env) (s : Shared) (H : Hp) (E : XK) (hr : Room 0 (A.deeper (envOfC "_law_every" (defScope (top 25)) s.heap.objs.size f cdv))) :
    PSs (cxOf CX0 P w K mg base N__law_every "_law_every" (defScope (top 25)) f cdv A outer s H E).nox (defBody (top 25)) (tDs K (w__law_every)) :=
  have nd := sc__law_every.nd
  (b_cons (s_set (i := 1) nd rfl (Or.inl rfl) (e_new (e_cat (e_lc (own := [("s", 2)]) rfl nd (i_rng1 rfl (F.free 67) (a_cons (e_var (pv 0)) a_nil)) (blkOk_by (N := N__law_every) (sc := defScope (top 25)) (by decide +kernel)) (by intro i hi; revert hi; revert i; decide) (fun _ _ _ _ _ => (g_name (pg_name (i := 2) nd rfl (Or.inl rfl)))) (fun _ _ _ _ _ => ts_nil) (fun _ _ _ _ _ => (e_tup (a_cons e_str (a_cons (e_var (pv 2)) a_nil))))) (e_lc (own := [("s", 2)]) rfl nd (i_rng1 rfl (F.free 67) (a_cons (e_var (pv 0)) a_nil)) (blkOk_by (N := N__law_every) (sc := defScope (top 25)) (by decide +kernel)) (by intro i hi; revert hi; revert i; decide) (fun _ _ _ _ _ => (g_name (pg_name (i := 2) nd rfl (Or.inl rfl)))) (fun _ _ _ _ _ => ts_nil) (fun _ _ _ _ _ => (e_tup (a_cons e_str (a_cons (e_var (pv 2)) a_nil))))))))
  (b_cons (s_for PassesOwn.never rfl (i_tmp (e_lst (a_cons e_str (a_cons e_str a_nil)))) (g_name (pg_name (i := 3) nd rfl (Or.inr rfl))) (b_one (s_for PassesOwn.never rfl (i_rng1 rfl (F.free 67) (a_cons (e_var (pv 0)) a_nil)) (g_name (pg_name (i := 2) nd rfl (Or.inr rfl))) (b_one (s_set (i := 1) nd rfl (Or.inl rfl) (e_add (e_var (pv 1)) (e_new (e_lc (own := [("t", 4)]) rfl nd (i_rng2 rfl (F.free 67) (a_cons (e_add (e_var (pv 2)) e_int) (a_cons (e_var (pv 0)) a_nil))) (blkOk_by (N := N__law_every) (sc := defScope (top 25)) (by decide +kernel)) (by intro i hi; revert hi; revert i; decide) (fun _ _ _ _ _ => (g_name (pg_name (i := 4) nd rfl (Or.inl rfl)))) (fun _ _ _ _ _ => ts_nil) (fun _ _ _ _ _ => (e_tup (a_cons (e_var (pv 3)) (a_cons (e_var (pv 2)) (a_cons (e_var (pv 4)) a_nil)))))))))))))
  (b_one (s_ret (e_var (pv 1))))))
theorem ok__law_every (F : Fc fa fn ex K mg) {sp : DSp} (hw : Keeps 1 5 (w__law_every) sp) : DFn P w K mg base (0 + 1) (He.ga K "_law_every") P__law_every sp := by
  obtain ⟨fd, Fd⟩ := F.def_ 27 (d := d27) rfl
  refine dfn_of Fd sc__law_every hw ?_ (der__law_every F _)
  exact by
    intro kV doc pm an cdv ct us ws n h1 h2 h3
    subst h2
    rcases us with _ | ⟨a0, _ | ⟨a1, us⟩⟩
    · obtain ⟨_, rfl⟩ := len1 h3; rfl
    · obtain ⟨rfl⟩ := len0 h3; rfl
    · simp at h1
theorem sc__law_setting : FnScope N__law_setting P__law_setting (defScope (top 26)) := ⟨rfl, rfl, rfl, by decide +kernel, rfl, by decide +kernel, by decide +kernel⟩
def w__law_setting (sp__law_pour : DSp) (sp__law_every : DSp) : WS := (wsSeq (wsSet 3 (wCall 1 sp__law_every (waCons (wVar 1) waNil)))
  (wsSeq (wsSet 4 (wNew (wLst (waCons (wNew (wLst (waCons (wK (.str "held")) (waCons (wK (.str "idle")) (waCons (wK (.str "loose")) (waCons (wK (.str "same")) waNil)))))) (waCons (wNew (wLst (waCons (wK (.str "loose")) (waCons (wK (.str "held")) waNil)))) (waCons (wNew (wLst (waCons (wK (.str "loose")) (waCons (wK (.str "idle")) (waCons (wK (.str "held")) waNil))))) (waCons (wNew (wLst (waCons (wK (.str "same")) (waCons (wK (.str "held")) (waCons (wK (.str "loose")) waNil))))) waNil)))))))
  (wsSeq (wsSet 5 (w2 kIx (wVar 4) (wCall 2 sp__law_pour (waCons (wVar 0) (waCons (wK (.int 4)) waNil)))))
  (wsSeq (wsSet 3 (wNew (wComp (wiSeq (wVar 3)) [6] (wgName 6) (wTst (w2 kIn (w2 kIx (wVar 6) (wK (.int 0))) (wVar 5))) (wVar 6))))
  (wsSeq (wsSet 7 (wNew (wLst waNil)))
  (wsSeq (wsFor (wiRng1 (waCons (wBlt kMin2 (waCons (wBlt kLen (waCons (wVar 3) waNil)) (waCons (wVar 2) waNil))) waNil)) (wgName 8) (wsExpr (wLM kAppend (wVar 7) (waCons (wLM kPop (wVar 3) (waCons (wCall 2 sp__law_pour (waCons (wVar 0) (waCons (wBlt kLen (waCons (wVar 3) waNil)) waNil))) waNil)) waNil))))
  (wsRet (wTup (waCons (wBlt kTupOf (waCons (wSl (wNew (wLst (waCons (wK (.str "o")) (waCons (wK (.str "pp")) (waCons (wK (.str "q2")) (waCons (wK (.str "ra")) (waCons (wK (.str "x")) waNil))))))) woNone (woSome (wVar 1))) waNil)) (waCons (wBlt kTupOf (waCons (wVar 7) waNil)) waNil))))))))))
theorem der__law_setting (F : Fc fa fn ex K mg) {sp__law_pour : DSp} {sp__law_every : DSp} (h__law_pour : DFn P w K mg base 1 (He.ga K "_law_pour") P__law_pour sp__law_pour) (h__law_every : DFn P w K mg base 1 (He.ga K "_law_every") P__law_every sp__law_every) (f : Addr) (cdv : Value) (A : Around) (outer : List Env) (s : Shared) (H : Hp) (E : XK) (hr : Room 1 (A.deeper (envOfC "_law_setting" (defScope (top 26)) s.heap.objs.size f cdv))) :
    PSs (cxOf CX0 P w K mg base N__law_setting "_law_setting" (defScope (top 26)) f cdv A outer s H E).nox (defBody (top 26)) (tDs K (w__law_setting sp__law_pour sp__law_every)) :=
  have nd := sc__law_setting.nd
  (b_cons (s_set (i := 3) nd rfl (Or.inl rfl) (e_call (ps := P__law_every) (h__law_every.mono (by decide)) hr rfl (F.glo 39) (F.keep 27 (d := d27)) (a_cons (e_var (pv 1)) a_nil)))
  (b_cons (s_set (i := 4) nd rfl (Or.inl rfl) (e_new (e_lst (a_cons (e_new (e_lst (a_cons e_str (a_cons e_str (a_cons e_str (a_cons e_str a_nil)))))) (a_cons (e_new (e_lst (a_cons e_str (a_cons e_str a_nil)))) (a_cons (e_new (e_lst (a_cons e_str (a_cons e_str (a_cons e_str a_nil))))) (a_cons (e_new (e_lst (a_cons e_str (a_cons e_str (a_cons e_str a_nil))))) a_nil)))))))
  (b_cons (s_set (i := 5) nd rfl (Or.inr rfl) (e_ix ⟨_, hr⟩ (e_var (pv 4)) (e_call (ps := P__law_pour) (h__law_pour.mono (by decide)) hr rfl (F.glo 38) (F.keep 26 (d := d26)) (a_cons (e_var (pv 0)) (a_cons e_int a_nil)))))
  (b_cons (s_setLc (i := 3) (own := [("change", 6)]) rfl nd rfl rfl (sw_true rfl rfl rfl (by decide +kernel)) (i_seq (e_var (pv 3))) (blkOk_by (N := N__law_setting) (sc := defScope (top 26)) (by decide +kernel)) (by intro i hi; revert hi; revert i; decide) (fun _ _ _ _ _ => (g_name (pg_name (i := 6) nd rfl (Or.inl rfl)))) (fun _ _ _ _ _ => (ts_one (t_in ⟨_, hr⟩ (e_ix ⟨_, hr⟩ (e_var (pv 6)) e_int) (e_var (pv 5))))) (fun _ _ _ _ _ => (e_var (pv 6))))
  (b_cons (s_set (i := 7) nd rfl (Or.inl rfl) (e_new (e_lst a_nil)))
  (b_cons (s_for PassesOwn.never rfl (i_rng1 rfl (F.free 67) (a_cons (e_min2 rfl rfl (F.free 66) (a_cons (e_len rfl (F.free 63) (a_cons (e_var (pv 3)) a_nil)) (a_cons (e_var (pv 2)) a_nil))) a_nil)) (g_name (pg_name (i := 8) nd rfl (Or.inl rfl))) (b_one (s_expr (e_append (e_var (pv 7)) (a_cons (e_pop (e_var (pv 3)) (a_cons (e_call (ps := P__law_pour) (h__law_pour.mono (by decide)) hr rfl (F.glo 38) (F.keep 26 (d := d26)) (a_cons (e_var (pv 0)) (a_cons (e_len rfl (F.free 63) (a_cons (e_var (pv 3)) a_nil)) a_nil))) a_nil)) a_nil)))))
  (b_one (s_ret (e_tup (a_cons (e_tupOf rfl (F.free 71) (a_cons (e_sl (e_new (e_lst (a_cons e_str (a_cons e_str (a_cons e_str (a_cons e_str (a_cons e_str a_nil))))))) o_none (o_some (e_var (pv 1)))) a_nil)) (a_cons (e_tupOf rfl (F.free 71) (a_cons (e_var (pv 7)) a_nil)) a_nil)))))))))))
theorem ok__law_setting (F : Fc fa fn ex K mg) {sp__law_pour : DSp} {sp__law_every : DSp} {sp : DSp} (h__law_pour : DFn P w K mg base 1 (He.ga K "_law_pour") P__law_pour sp__law_pour) (h__law_every : DFn P w K mg base 1 (He.ga K "_law_every") P__law_every sp__law_every) (hw : Keeps 3 9 (w__law_setting sp__law_pour sp__law_every) sp) : DFn P w K mg base (1 + 1) (He.ga K "_law_setting") P__law_setting sp := by
  obtain ⟨fd, Fd⟩ := F.def_ 28 (d := d28) rfl
  refine dfn_of Fd sc__law_setting hw ?_ (der__law_setting F h__law_pour h__law_every _)
  exact by
    intro kV doc pm an cdv ct us ws n h1 h2 h3
    subst h2
    rcases us with _ | ⟨a0, _ | ⟨a1, _ | ⟨a2, _ | ⟨a3, us⟩⟩⟩⟩
    · obtain ⟨_, _, _, rfl⟩ := len3 h3; rfl
    · obtain ⟨_, _, rfl⟩ := len2 h3; rfl
    · obtain ⟨_, rfl⟩ := len1 h3; rfl
    · obtain ⟨rfl⟩ := len0 h3; rfl
    · simp at h1
theorem sc__law_lots : FnScope N__law_lots P__law_lots (defScope (top 27)) := ⟨rfl, rfl, rfl, by decide +kernel, rfl, by decide +kernel, by decide +kernel⟩
def w__law_lots : WS := (wsSeq (wsSet 2 (wBlt kLen (waCons (w2 kIx (wVar 0) (wK (.int 0))) waNil)))
  (wsSeq (wsSet 3 (wNew (wComp (wiRng1 (waCons (wVar 2) waNil)) [4] (wgName 4) wYes (wVar 4))))
  (wsSeq (wsFor (wiRng1 (waCons (wVar 2) waNil)) (wgName 5) (wsFor (wiSeq (wVar 1)) (wgName 6) (wsIf (wAnd (wTst (w2 kEq (w2 kIx (wVar 6) (wK (.int 0))) (wK (.str "same")))) (wTst (w2 kNe (w2 kIx (wVar 3) (w2 kIx (wVar 6) (wK (.int 1)))) (w2 kIx (wVar 3) (w2 kIx (wVar 6) (wK (.int 2))))))) (wsSeq (wsSet 7 (wBlt kMin2 (waCons (w2 kIx (wVar 3) (w2 kIx (wVar 6) (wK (.int 1)))) (waCons (w2 kIx (wVar 3) (w2 kIx (wVar 6) (wK (.int 2)))) waNil))))
              (wsSeq (wsAsg (wVar 7) (wgSub (wVar 3) (w2 kIx (wVar 6) (wK (.int 1)))))
              (wsAsg (wVar 7) (wgSub (wVar 3) (w2 kIx (wVar 6) (wK (.int 2))))))) wsNext)))
  (wsSeq (wsSet 8 wDt)
  (wsSeq (wsFor (wiSeq (wVar 1)) (wgName 6) (wsSeq (wsIf (wTst (w2 kEq (w2 kIx (wVar 6) (wK (.int 0))) (wK (.str "loose")))) (wsSeq (wsAsg (wK (.bl true)) (wgSub (wVar 8) (wTup (waCons (wK (.str "loose")) (waCons (w2 kIx (wVar 3) (w2 kIx (wVar 6) (wK (.int 1)))) (waCons (w2 kIx (wVar 3) (w2 kIx (wVar 6) (wK (.int 2)))) waNil))))))
          (wsAsg (wK (.bl true)) (wgSub (wVar 8) (wTup (waCons (wK (.str "loose")) (waCons (w2 kIx (wVar 3) (w2 kIx (wVar 6) (wK (.int 2)))) (waCons (w2 kIx (wVar 3) (w2 kIx (wVar 6) (wK (.int 1)))) waNil))))))) wsNext)
      (wsIf (wTst (w2 kNe (w2 kIx (wVar 6) (wK (.int 0))) (wK (.str "loose")))) (wsAsg (wK (.bl true)) (wgSub (wVar 8) (wTup (waCons (w2 kIx (wVar 6) (wK (.int 0))) (waCons (w2 kIx (wVar 3) (w2 kIx (wVar 6) (wK (.int 1)))) waNil))))) wsNext)))
  (wsRet (wTup (waCons (wVar 3) (waCons (wVar 8) waNil)))))))))
theorem der__law_lots (F : Fc fa fn ex K mg) (f : Addr) (cdv : Value) (A : Around) (outer : List Env) (s : Shared) (H : Hp) (E : XK) (hr : Room 0 (A.deeper (envOfC "_law_lots" (defScope (top 27)) s.heap.objs.size f cdv))) :
    PSs (cxOf CX0 P w K mg base N__law_lots "_law_lots" (defScope (top 27)) f cdv A outer s H E).nox (defBody (top 27)) (tDs K (w__law_lots)) :=
  have nd := sc__law_lots.nd
  (b_cons (s_set (i := 2) nd rfl (Or.inl rfl) (e_len rfl (F.free 63) (a_cons (e_ix ⟨_, hr⟩ (e_var (pv 0)) e_int) a_nil)))
  (b_cons (s_setLc (i := 3) (own := [("s", 4)]) rfl nd rfl rfl (sw_true rfl rfl rfl (by decide +kernel)) (i_rng1 rfl (F.free 67) (a_cons (e_var (pv 2)) a_nil)) (blkOk_by (N := N__law_lots) (sc := defScope (top 27)) (by decide +kernel)) (by intro i hi; revert hi; revert i; decide) (fun _ _ _ _ _ => (g_name (pg_name (i := 4) nd rfl (Or.inl rfl)))) (fun _ _ _ _ _ => ts_nil) (fun _ _ _ _ _ => (e_var (pv 4))))
  (b_cons (s_for PassesOwn.never rfl (i_rng1 rfl (F.free 67) (a_cons (e_var (pv 2)) a_nil)) (g_name (pg_name (i := 5) nd rfl (Or.inl rfl))) (b_one (s_for PassesOwn.never rfl (i_seq (e_var (pv 1))) (g_name (pg_name (i := 6) nd rfl (Or.inl rfl))) (b_one (s_if (PW.pt (x_and (t_eq ⟨_, hr⟩ (e_ix ⟨_, hr⟩ (e_var (pv 6)) e_int) e_str) (x_and1 (t_ne ⟨_, hr⟩ (e_ix ⟨_, hr⟩ (e_var (pv 3)) (e_ix ⟨_, hr⟩ (e_var (pv 6)) e_int)) (e_ix ⟨_, hr⟩ (e_var (pv 3)) (e_ix ⟨_, hr⟩ (e_var (pv 6)) e_int)))))) (b_cons (s_set (i := 7) nd rfl (Or.inl rfl) (e_min2 rfl rfl (F.free 66) (a_cons (e_ix ⟨_, hr⟩ (e_var (pv 3)) (e_ix ⟨_, hr⟩ (e_var (pv 6)) e_int)) (a_cons (e_ix ⟨_, hr⟩ (e_var (pv 3)) (e_ix ⟨_, hr⟩ (e_var (pv 6)) e_int)) a_nil))))
              (b_cons (s_asg (e_var (pv 7)) (g_sub (is := []) ⟨_, hr⟩ (e_var (pv 3)) (e_ix ⟨_, hr⟩ (e_var (pv 6)) e_int)))
              (b_one (s_asg (e_var (pv 7)) (g_sub (is := []) ⟨_, hr⟩ (e_var (pv 3)) (e_ix ⟨_, hr⟩ (e_var (pv 6)) e_int)))))) b_nil)))))
  (b_cons (s_set (i := 8) nd rfl (Or.inl rfl) e_dt)
  (b_cons (s_for PassesOwn.never rfl (i_seq (e_var (pv 1))) (g_name (pg_name (i := 6) nd rfl (Or.inl rfl))) (b_cons (s_if (t_eq ⟨_, hr⟩ (e_ix ⟨_, hr⟩ (e_var (pv 6)) e_int) e_str) (b_cons (s_asg e_bl (g_sub (is := []) ⟨_, hr⟩ (e_var (pv 8)) (e_tup (a_cons e_str (a_cons (e_ix ⟨_, hr⟩ (e_var (pv 3)) (e_ix ⟨_, hr⟩ (e_var (pv 6)) e_int)) (a_cons (e_ix ⟨_, hr⟩ (e_var (pv 3)) (e_ix ⟨_, hr⟩ (e_var (pv 6)) e_int)) a_nil))))))
          (b_one (s_asg e_bl (g_sub (is := []) ⟨_, hr⟩ (e_var (pv 8)) (e_tup (a_cons e_str (a_cons (e_ix ⟨_, hr⟩ (e_var (pv 3)) (e_ix ⟨_, hr⟩ (e_var (pv 6)) e_int)) (a_cons (e_ix ⟨_, hr⟩ (e_var (pv 3)) (e_ix ⟨_, hr⟩ (e_var (pv 6)) e_int)) a_nil)))))))) b_nil)
      (b_one (s_if (t_ne ⟨_, hr⟩ (e_ix ⟨_, hr⟩ (e_var (pv 6)) e_int) e_str) (b_one (s_asg e_bl (g_sub (is := []) ⟨_, hr⟩ (e_var (pv 8)) (e_tup (a_cons (e_ix ⟨_, hr⟩ (e_var (pv 6)) e_int) (a_cons (e_ix ⟨_, hr⟩ (e_var (pv 3)) (e_ix ⟨_, hr⟩ (e_var (pv 6)) e_int)) a_nil)))))) b_nil))))
  (b_one (s_ret (e_tup (a_cons (e_var (pv 3)) (a_cons (e_var (pv 8)) a_nil))))))))))
theorem ok__law_lots (F : Fc fa fn ex K mg) {sp : DSp} (hw : Keeps 2 9 (w__law_lots) sp) : DFn P w K mg base (0 + 1) (He.ga K "_law_lots") P__law_lots sp := by
  obtain ⟨fd, Fd⟩ := F.def_ 29 (d := d29) rfl
  refine dfn_of Fd sc__law_lots hw ?_ (der__law_lots F _)
  exact by
    intro kV doc pm an cdv ct us ws n h1 h2 h3
    subst h2
    rcases us with _ | ⟨a0, _ | ⟨a1, _ | ⟨a2, us⟩⟩⟩
    · obtain ⟨_, _, rfl⟩ := len2 h3; rfl
    · obtain ⟨_, rfl⟩ := len1 h3; rfl
    · obtain ⟨rfl⟩ := len0 h3; rfl
    · simp at h1
theorem sc__law_kept : FnScope N__law_kept P__law_kept (defScope (top 28)) := ⟨rfl, rfl, rfl, by decide +kernel, rfl, by decide +kernel, by decide +kernel⟩
def w__law_kept : WS := (wsSeq (wsAsg (wVar 0) (wgSeq 2 (wgCons (wgName 2) (wgCons (wgName 3) wgNil))))
  (wsSeq (wsSet 4 (wNew (wLst waNil)))
  (wsSeq (wsFor (wiSeq (wVar 1)) (wgName 5) (wsSeq (wsSet 6 (w2 kIx (wVar 2) (wVar 5)))
      (wsSeq (wsSet 7 (wBlt kLen (waCons (wVar 4) waNil)))
      (wsSeq (wsIf (wTst (w2 kIn (wTup (waCons (wK (.str "idle")) (waCons (wVar 6) waNil))) (wVar 3))) wsCont wsNext)
      (wsSeq (wsWhile (wAnd (wTst (w2 kGt (wVar 7) (wK (.int 0)))) (wAnd (wTst (w2 kNe (w2 kIx (wVar 4) (w2 kSub (wVar 7) (wK (.int 1)))) (wVar 6))) (wTst (w2 kIn (wTup (waCons (wK (.str "loose")) (waCons (w2 kIx (wVar 4) (w2 kSub (wVar 7) (wK (.int 1)))) (waCons (wVar 6) waNil)))) (wVar 3))))) (wsSet 7 (w2 kSub (wVar 7) (wK (.int 1)))))
      (wsIf (wOr (wTst (w2 kEq (wVar 7) (wK (.int 0)))) (wOr (wTst (w2 kNe (w2 kIx (wVar 4) (w2 kSub (wVar 7) (wK (.int 1)))) (wVar 6))) (wTst (w2 kNotIn (wTup (waCons (wK (.str "held")) (waCons (wVar 6) waNil))) (wVar 3))))) (wsExpr (wLM kAppend (wVar 4) (waCons (wVar 6) waNil))) wsNext))))))
  (wsRet (wVar 4)))))
theorem der__law_kept (F : Fc fa fn ex K mg) (f : Addr) (cdv : Value) (A : Around) (outer : List Env) (s : Shared) (H : Hp) (E : XK) (hr : Room 0 (A.deeper (envOfC "_law_kept" (defScope (top 28)) s.heap.objs.size f cdv))) :
    PSs (cxOf CX0 P w K mg base N__law_kept "_law_kept" (defScope (top 28)) f cdv A outer s H E).nox (defBody (top 28)) (tDs K (w__law_kept)) :=
  have nd := sc__law_kept.nd
  (b_cons (s_asg (e_var (pv 0)) (g_seq rfl (g_cons (g_name (pg_name (i := 2) nd rfl (Or.inl rfl))) (g_cons (g_name (pg_name (i := 3) nd rfl (Or.inl rfl))) (g_nil (is := []))))))
  (b_cons (s_set (i := 4) nd rfl (Or.inl rfl) (e_new (e_lst a_nil)))
  (b_cons (s_for PassesOwn.never rfl (i_seq (e_var (pv 1))) (g_name (pg_name (i := 5) nd rfl (Or.inl rfl))) (b_cons (s_set (i := 6) nd rfl (Or.inl rfl) (e_ix ⟨_, hr⟩ (e_var (pv 2)) (e_var (pv 5))))
      (b_cons (s_set (i := 7) nd rfl (Or.inl rfl) (e_len rfl (F.free 63) (a_cons (e_var (pv 4)) a_nil)))
      (b_cons (s_if (t_in ⟨_, hr⟩ (e_tup (a_cons e_str (a_cons (e_var (pv 6)) a_nil))) (e_var (pv 3))) (b_one s_cont) b_nil)
      (b_cons (s_while PassesOwn.never (PW.pt (x_and (t_gt (e_var (pv 7)) e_int) (x_and (t_ne ⟨_, hr⟩ (e_ix ⟨_, hr⟩ (e_var (pv 4)) (e_sub (e_var (pv 7)) e_int)) (e_var (pv 6))) (x_and1 (t_in ⟨_, hr⟩ (e_tup (a_cons e_str (a_cons (e_ix ⟨_, hr⟩ (e_var (pv 4)) (e_sub (e_var (pv 7)) e_int)) (a_cons (e_var (pv 6)) a_nil)))) (e_var (pv 3))))))) (b_one (s_set (i := 7) nd rfl (Or.inl rfl) (e_sub (e_var (pv 7)) e_int))))
      (b_one (s_if (PW.pt (x_or (t_eq ⟨_, hr⟩ (e_var (pv 7)) e_int) (x_or (t_ne ⟨_, hr⟩ (e_ix ⟨_, hr⟩ (e_var (pv 4)) (e_sub (e_var (pv 7)) e_int)) (e_var (pv 6))) (x_or1 (t_notIn ⟨_, hr⟩ (e_tup (a_cons e_str (a_cons (e_var (pv 6)) a_nil))) (e_var (pv 3))))))) (b_one (s_expr (e_append (e_var (pv 4)) (a_cons (e_var (pv 6)) a_nil)))) b_nil)))))))
  (b_one (s_ret (e_var (pv 4)))))))
theorem ok__law_kept (F : Fc fa fn ex K mg) {sp : DSp} (hw : Keeps 2 8 (w__law_kept) sp) : DFn P w K mg base (0 + 1) (He.ga K "_law_kept") P__law_kept sp := by
  obtain ⟨fd, Fd⟩ := F.def_ 30 (d := d30) rfl
  refine dfn_of Fd sc__law_kept hw ?_ (der__law_kept F _)
  exact by
    intro kV doc pm an cdv ct us ws n h1 h2 h3
    subst h2
    rcases us with _ | ⟨a0, _ | ⟨a1, _ | ⟨a2, us⟩⟩⟩
    · obtain ⟨_, _, rfl⟩ := len2 h3; rfl
    · obtain ⟨_, rfl⟩ := len1 h3; rfl
    · obtain ⟨rfl⟩ := len0 h3; rfl
    · simp at h1
theorem sc__law_alike : FnScope N__law_alike P__law_alike (defScope (top 29)) := ⟨rfl, rfl, rfl, by decide +kernel, rfl, by decide +kernel, by decide +kernel⟩
def w__law_alike (sp__law_kept : DSp) : WS := (wsSeq (wsSet 3 (wCall 2 sp__law_kept (waCons (wVar 0) (waCons (wVar 2) waNil))))
  (wsSeq (wsSet 4 (wCall 2 sp__law_kept (waCons (wVar 0) (waCons (wVar 1) waNil))))
  (wsSeq (wsIf (wTst (w2 kNe (wBlt kLen (waCons (wVar 4) waNil)) (wBlt kLen (waCons (wVar 3) waNil)))) (wsRet (wK (.bl false))) wsNext)
  (wsSeq (wsFor (wiSeq (wVar 4)) (wgName 5) (wsSeq (wsIf (wTst (w2 kNotIn (wVar 5) (wVar 3))) (wsRet (wK (.bl false))) wsNext)
      (wsSeq (wsSet 6 (wLM kIndex (wVar 3) (waCons (wVar 5) waNil)))
      (wsSeq (wsFor (wiRng1 (waCons (wVar 6) waNil)) (wgName 7) (wsIf (wTst (w2 kNotIn (wTup (waCons (wK (.str "loose")) (waCons (w2 kIx (wVar 3) (wVar 7)) (waCons (wVar 5) waNil)))) (w2 kIx (wVar 0) (wK (.int 1))))) (wsRet (wK (.bl false))) wsNext))
      (wsExpr (wLM kPop (wVar 3) (waCons (wVar 6) waNil)))))))
  (wsRet (wK (.bl true)))))))
theorem der__law_alike (F : Fc fa fn ex K mg) {sp__law_kept : DSp} (h__law_kept : DFn P w K mg base 1 (He.ga K "_law_kept") P__law_kept sp__law_kept) (f : Addr) (cdv : Value) (A : Around) (outer : List Env) (s : Shared) (H : Hp) (E : XK) (hr : Room 1 (A.deeper (envOfC "_law_alike" (defScope (top 29)) s.heap.objs.size f cdv))) :
    PSs (cxOf CX0 P w K mg base N__law_alike "_law_alike" (defScope (top 29)) f cdv A outer s H E).nox (defBody (top 29)) (tDs K (w__law_alike sp__law_kept)) :=
  have nd := sc__law_alike.nd
  (b_cons (s_set (i := 3) nd rfl (Or.inl rfl) (e_call (ps := P__law_kept) (h__law_kept.mono (by decide)) hr rfl (F.glo 42) (F.keep 30 (d := d30)) (a_cons (e_var (pv 0)) (a_cons (e_var (pv 2)) a_nil))))
  (b_cons (s_set (i := 4) nd rfl (Or.inl rfl) (e_call (ps := P__law_kept) (h__law_kept.mono (by decide)) hr rfl (F.glo 42) (F.keep 30 (d := d30)) (a_cons (e_var (pv 0)) (a_cons (e_var (pv 1)) a_nil))))
  (b_cons (s_if (t_ne ⟨_, hr⟩ (e_len rfl (F.free 63) (a_cons (e_var (pv 4)) a_nil)) (e_len rfl (F.free 63) (a_cons (e_var (pv 3)) a_nil))) (b_one (s_ret e_bl)) b_nil)
  (b_cons (s_for PassesOwn.never rfl (i_seq (e_var (pv 4))) (g_name (pg_name (i := 5) nd rfl (Or.inl rfl))) (b_cons (s_if (t_notIn ⟨_, hr⟩ (e_var (pv 5)) (e_var (pv 3))) (b_one (s_ret e_bl)) b_nil)
      (b_cons (s_set (i := 6) nd rfl (Or.inl rfl) (e_index ⟨_, hr⟩ (e_var (pv 3)) (a_cons (e_var (pv 5)) a_nil)))
      (b_cons (s_for PassesOwn.never rfl (i_rng1 rfl (F.free 67) (a_cons (e_var (pv 6)) a_nil)) (g_name (pg_name (i := 7) nd rfl (Or.inl rfl))) (b_one (s_if (t_notIn ⟨_, hr⟩ (e_tup (a_cons e_str (a_cons (e_ix ⟨_, hr⟩ (e_var (pv 3)) (e_var (pv 7))) (a_cons (e_var (pv 5)) a_nil)))) (e_ix ⟨_, hr⟩ (e_var (pv 0)) e_int)) (b_one (s_ret e_bl)) b_nil)))
      (b_one (s_expr (e_pop (e_var (pv 3)) (a_cons (e_var (pv 6)) a_nil))))))))
  (b_one (s_ret e_bl))))))
theorem ok__law_alike (F : Fc fa fn ex K mg) {sp__law_kept : DSp} {sp : DSp} (h__law_kept : DFn P w K mg base 1 (He.ga K "_law_kept") P__law_kept sp__law_kept) (hw : Keeps 3 8 (w__law_alike sp__law_kept) sp) : DFn P w K mg base (1 + 1) (He.ga K "_law_alike") P__law_alike sp := by
  obtain ⟨fd, Fd⟩ := F.def_ 31 (d := d31) rfl
  refine dfn_of Fd sc__law_alike hw ?_ (der__law_alike F h__law_kept _)
  exact by
    intro kV doc pm an cdv ct us ws n h1 h2 h3
    subst h2
    rcases us with _ | ⟨a0, _ | ⟨a1, _ | ⟨a2, _ | ⟨a3, us⟩⟩⟩⟩
    · obtain ⟨_, _, _, rfl⟩ := len3 h3; rfl
    · obtain ⟨_, _, rfl⟩ := len2 h3; rfl
    · obtain ⟨_, rfl⟩ := len1 h3; rfl
    · obtain ⟨rfl⟩ := len0 h3; rfl
    · simp at h1
theorem sc__law_same : FnScope N__law_same P__law_same (defScope (top 30)) := ⟨rfl, rfl, rfl, by decide +kernel, rfl, by decide +kernel, by decide +kernel⟩
def w__law_same (sp__law_same : DSp) : WS := (wsSeq (wsIf (wTru (wBlt kIsi (waCons (wVar 1) (waCons (wK (.ty "str")) waNil)))) (wsRet (wAndV (wBlt kIsi (waCons (wVar 0) (waCons (wK (.ty "str")) waNil))) (w2 kEq (wVar 0) (wVar 1)))) wsNext)
  (wsSeq (wsIf (wTru (wBlt kIsi (waCons (wVar 1) (waCons (wK (.ty "int")) waNil)))) (wsRet (wAndV (wBlt kIsi (waCons (wVar 0) (waCons (wK (.ty "int")) waNil))) (wAndV (wNotV (wTst (wBlt kIsi (waCons (wVar 0) (waCons (wK (.ty "bool")) waNil))))) (w2 kEq (wVar 0) (wVar 1))))) wsNext)
  (wsSeq (wsIf (wOr (wNot (wTru (wBlt kIsi (waCons (wVar 0) (waCons (wK (.ty "tuple")) waNil))))) (wTst (w2 kNe (wBlt kLen (waCons (wVar 0) waNil)) (wBlt kLen (waCons (wVar 1) waNil))))) (wsRet (wK (.bl false))) wsNext)
  (wsSeq (wsFor (wiRng1 (waCons (wBlt kLen (waCons (wVar 1) waNil)) waNil)) (wgName 2) (wsIf (wNot (wTru (wCall 2 sp__law_same (waCons (w2 kIx (wVar 0) (wVar 2)) (waCons (w2 kIx (wVar 1) (wVar 2)) waNil))))) (wsRet (wK (.bl false))) wsNext))
  (wsRet (wK (.bl true)))))))
theorem der__law_same {k : Nat} (F : Fc fa fn ex K mg) {sp__law_same : DSp} (h__law_same : DFn P w K mg base k (He.ga K "_law_same") P__law_same sp__law_same) (f : Addr) (cdv : Value) (A : Around) (outer : List Env) (s : Shared) (H : Hp) (E : XK) (hr : Room k (A.deeper (envOfC "_law_same" (defScope (top 30)) s.heap.objs.size f cdv))) :
    PSs (cxOf CX0 P w K mg base N__law_same "_law_same" (defScope (top 30)) f cdv A outer s H E).nox (defBody (top 30)) (tDs K (w__law_same sp__law_same)) :=
  have nd := sc__law_same.nd
  (b_cons (s_if (t_tru (e_isi rfl (F.free 62) (a_cons (e_var (pv 1)) (a_cons (e_ty rfl (F.free 70) (by decide +kernel)) a_nil)))) (b_one (s_ret (e_and (e_isi rfl (F.free 62) (a_cons (e_var (pv 0)) (a_cons (e_ty rfl (F.free 70) (by decide +kernel)) a_nil))) (e_one (e_eq ⟨_, hr⟩ (e_var (pv 0)) (e_var (pv 1))))))) b_nil)
  (b_cons (s_if (t_tru (e_isi rfl (F.free 62) (a_cons (e_var (pv 1)) (a_cons (e_ty rfl (F.free 61) (by decide +kernel)) a_nil)))) (b_one (s_ret (e_and (e_isi rfl (F.free 62) (a_cons (e_var (pv 0)) (a_cons (e_ty rfl (F.free 61) (by decide +kernel)) a_nil))) (e_and (e_not (e_isi rfl (F.free 62) (a_cons (e_var (pv 0)) (a_cons (e_ty rfl (F.free 59) (by decide +kernel)) a_nil)))) (e_one (e_eq ⟨_, hr⟩ (e_var (pv 0)) (e_var (pv 1)))))))) b_nil)
  (b_cons (s_if (PW.pt (x_or (t_not (t_tru (e_isi rfl (F.free 62) (a_cons (e_var (pv 0)) (a_cons (e_ty rfl (F.free 71) (by decide +kernel)) a_nil))))) (x_or1 (t_ne ⟨_, hr⟩ (e_len rfl (F.free 63) (a_cons (e_var (pv 0)) a_nil)) (e_len rfl (F.free 63) (a_cons (e_var (pv 1)) a_nil)))))) (b_one (s_ret e_bl)) b_nil)
  (b_cons (s_for PassesOwn.never rfl (i_rng1 rfl (F.free 67) (a_cons (e_len rfl (F.free 63) (a_cons (e_var (pv 1)) a_nil)) a_nil)) (g_name (pg_name (i := 2) nd rfl (Or.inl rfl))) (b_one (s_if (t_not (t_tru (e_call (ps := P__law_same) h__law_same hr rfl (F.glo 44) (F.keep 32 (d := d32)) (a_cons (e_ix ⟨_, hr⟩ (e_var (pv 0)) (e_var (pv 2))) (a_cons (e_ix ⟨_, hr⟩ (e_var (pv 1)) (e_var (pv 2))) a_nil))))) (b_one (s_ret e_bl)) b_nil)))
  (b_one (s_ret e_bl))))))
theorem ok__law_same {k : Nat} (F : Fc fa fn ex K mg) {sp__law_same : DSp} {sp : DSp} (h__law_same : DFn P w K mg base k (He.ga K "_law_same") P__law_same sp__law_same) (hw : Keeps 2 3 (w__law_same sp__law_same) sp) : DFn P w K mg base (k + 1) (He.ga K "_law_same") P__law_same sp := by
  obtain ⟨fd, Fd⟩ := F.def_ 32 (d := d32) rfl
  refine dfn_of Fd sc__law_same hw ?_ (der__law_same F h__law_same _)
  exact by
    intro kV doc pm an cdv ct us ws n h1 h2 h3
    subst h2
    rcases us with _ | ⟨a0, _ | ⟨a1, _ | ⟨a2, us⟩⟩⟩
    · obtain ⟨_, _, rfl⟩ := len2 h3; rfl
    · obtain ⟨_, rfl⟩ := len1 h3; rfl
    · obtain ⟨rfl⟩ := len0 h3; rfl
    · simp at h1
theorem sc__law_strange : FnScope N__law_strange P__law_strange (defScope (top 31)) := ⟨rfl, rfl, rfl, by decide +kernel, rfl, by decide +kernel, by decide +kernel⟩
def w__law_strange (sp__law_lots : DSp) (sp__law_alike : DSp) : WS := (wsSeq (wsSet 2 (wCall 2 sp__law_lots (waCons (wVar 0) (waCons (w2 kIx (wVar 0) (wK (.int 1))) waNil))))
  (wsRet (wNew (wComp (wiRng1 (waCons (wBlt kLen (waCons (wVar 1) waNil)) waNil)) [3] (wgName 3) (wNot (wTru (wCall 3 sp__law_alike (waCons (wVar 2) (waCons (w2 kIx (w2 kIx (wVar 1) (wVar 3)) (wK (.int 0))) (waCons (w2 kIx (w2 kIx (wVar 1) (wVar 3)) (wK (.int 1))) waNil)))))) (wVar 3)))))
theorem der__law_strange (F : Fc fa fn ex K mg) {sp__law_lots : DSp} {sp__law_alike : DSp} (h__law_lots : DFn P w K mg base 1 (He.ga K "_law_lots") P__law_lots sp__law_lots) (h__law_alike : DFn P w K mg base 2 (He.ga K "_law_alike") P__law_alike sp__law_alike) (f : Addr) (cdv : Value) (A : Around) (outer : List Env) (s : Shared) (H : Hp) (E : XK) (hr : Room 2 (A.deeper (envOfC "_law_strange" (defScope (top 31)) s.heap.objs.size f cdv))) :
    PSs (cxOf CX0 P w K mg base N__law_strange "_law_strange" (defScope (top 31)) f cdv A outer s H E).nox (defBody (top 31)) (tDs K (w__law_strange sp__law_lots sp__law_alike)) :=
  have nd := sc__law_strange.nd
  (b_cons (s_set (i := 2) nd rfl (Or.inr rfl) (e_call (ps := P__law_lots) (h__law_lots.mono (by decide)) hr rfl (F.glo 41) (F.keep 29 (d := d29)) (a_cons (e_var (pv 0)) (a_cons (e_ix ⟨_, hr⟩ (e_var (pv 0)) e_int) a_nil))))
  (b_one (s_ret (e_new (e_lc (own := [("k", 3)]) rfl nd (i_rng1 rfl (F.free 67) (a_cons (e_len rfl (F.free 63) (a_cons (e_var (pv 1)) a_nil)) a_nil)) (blkOk_by (N := N__law_strange) (sc := defScope (top 31)) (by decide +kernel)) (by intro i hi; revert hi; revert i; decide) (fun _ _ _ _ _ => (g_name (pg_name (i := 3) nd rfl (Or.inl rfl)))) (fun _ _ _ _ _ => (ts_one (t_not (t_tru (e_call (ps := P__law_alike) (h__law_alike.mono (by decide)) hr rfl (F.glo 43) (F.keep 31 (d := d31)) (a_cons (e_var (pv 2)) (a_cons (e_ix ⟨_, hr⟩ (e_ix ⟨_, hr⟩ (e_var (pv 1)) (e_var (pv 3))) e_int) (a_cons (e_ix ⟨_, hr⟩ (e_ix ⟨_, hr⟩ (e_var (pv 1)) (e_var (pv 3))) e_int) a_nil)))))))) (fun _ _ _ _ _ => (e_var (pv 3))))))))
theorem ok__law_strange (F : Fc fa fn ex K mg) {sp__law_lots : DSp} {sp__law_alike : DSp} {sp : DSp} (h__law_lots : DFn P w K mg base 1 (He.ga K "_law_lots") P__law_lots sp__law_lots) (h__law_alike : DFn P w K mg base 2 (He.ga K "_law_alike") P__law_alike sp__law_alike) (hw : Keeps 2 4 (w__law_strange sp__law_lots sp__law_alike) sp) : DFn P w K mg base (2 + 1) (He.ga K "_law_strange") P__law_strange sp := by
  obtain ⟨fd, Fd⟩ := F.def_ 33 (d := d33) rfl
  refine dfn_of Fd sc__law_strange hw ?_ (der__law_strange F h__law_lots h__law_alike _)
  exact by
    intro kV doc pm an cdv ct us ws n h1 h2 h3
    subst h2
    rcases us with _ | ⟨a0, _ | ⟨a1, _ | ⟨a2, us⟩⟩⟩
    · obtain ⟨_, _, rfl⟩ := len2 h3; rfl
    · obtain ⟨_, rfl⟩ := len1 h3; rfl
    · obtain ⟨rfl⟩ := len0 h3; rfl
    · simp at h1
theorem sc__law_explaining : FnScope N__law_explaining P__law_explaining (defScope (top 32)) := ⟨rfl, rfl, rfl, by decide +kernel, rfl, by decide +kernel, by decide +kernel⟩
def w__law_explaining (sp__law_every : DSp) (sp__law_lots : DSp) (sp__law_alike : DSp) (sp__law_strange : DSp) : WS := (wsSeq (wsSet 2 (wNew (wComp (wiSeq (wCall 2 sp__law_strange (waCons (wVar 0) (waCons (wVar 1) waNil)))) [3] (wgName 3) wYes (w2 kIx (wVar 1) (wVar 3)))))
  (wsSeq (wsSet 4 (wNew (wLst waNil)))
  (wsSeq (wsFor (wiSeq (wCall 1 sp__law_every (waCons (wBlt kLen (waCons (w2 kIx (wVar 0) (wK (.int 0))) waNil)) waNil))) (wgName 5) (wsSeq (wsSet 6 (wCall 2 sp__law_lots (waCons (wVar 0) (waCons (w2 kAdd (w2 kIx (wVar 0) (wK (.int 1))) (wTup (waCons (wVar 5) waNil))) waNil))))
      (wsSeq (wsSet 7 (wK (.bl true)))
      (wsSeq (wsFor (wiSeq (wVar 2)) (wgSeq 2 (wgCons (wgName 8) (wgCons (wgName 9) wgNil))) (wsSet 7 (wAndV (wVar 7) (wCall 3 sp__law_alike (waCons (wVar 6) (waCons (wVar 8) (waCons (wVar 9) waNil)))))))
      (wsIf (wTru (wVar 7)) (wsExpr (wLM kAppend (wVar 4) (waCons (wVar 5) waNil))) wsNext)))))
  (wsRet (wVar 4)))))
theorem der__law_explaining (F : Fc fa fn ex K mg) {sp__law_every : DSp} {sp__law_lots : DSp} {sp__law_alike : DSp} {sp__law_strange : DSp} (h__law_every : DFn P w K mg base 1 (He.ga K "_law_every") P__law_every sp__law_every) (h__law_lots : DFn P w K mg base 1 (He.ga K "_law_lots") P__law_lots sp__law_lots) (h__law_alike : DFn P w K mg base 2 (He.ga K "_law_alike") P__law_alike sp__law_alike) (h__law_strange : DFn P w K mg base 3 (He.ga K "_law_strange") P__law_strange sp__law_strange) (f : Addr) (cdv : Value) (A : Around) (outer : List Env) (s : Shared) (H : Hp) (E : XK) (hr : Room 3 (A.deeper (envOfC "_law_explaining" (defScope (top 32)) s.heap.objs.size f cdv))) :
    PSs (cxOf CX0 P w K mg base N__law_explaining "_law_explaining" (defScope (top 32)) f cdv A outer s H E).nox (defBody (top 32)) (tDs K (w__law_explaining sp__law_every sp__law_lots sp__law_alike sp__law_strange)) :=
  have nd := sc__law_explaining.nd
  (b_cons (s_setLc (i := 2) (own := [("k", 3)]) rfl nd rfl rfl (sw_true rfl rfl rfl (by decide +kernel)) (i_seq (e_call (ps := P__law_strange) (h__law_strange.mono (by decide)) hr rfl (F.glo 45) (F.keep 33 (d := d33)) (a_cons (e_var (pv 0)) (a_cons (e_var (pv 1)) a_nil)))) (blkOk_by (N := N__law_explaining) (sc := defScope (top 32)) (by decide +kernel)) (by intro i hi; revert hi; revert i; decide) (fun _ _ _ _ _ => (g_name (pg_name (i := 3) nd rfl (Or.inl rfl)))) (fun _ _ _ _ _ => ts_nil) (fun _ _ _ _ _ => (e_ix ⟨_, hr⟩ (e_var (pv 1)) (e_var (pv 3)))))
  (b_cons (s_set (i := 4) nd rfl (Or.inl rfl) (e_new (e_lst a_nil)))
  (b_cons (s_for PassesOwn.never rfl (i_seq (e_call (ps := P__law_every) (h__law_every.mono (by decide)) hr rfl (F.glo 39) (F.keep 27 (d := d27)) (a_cons (e_len rfl (F.free 63) (a_cons (e_ix ⟨_, hr⟩ (e_var (pv 0)) e_int) a_nil)) a_nil))) (g_name (pg_name (i := 5) nd rfl (Or.inl rfl))) (b_cons (s_set (i := 6) nd rfl (Or.inl rfl) (e_call (ps := P__law_lots) (h__law_lots.mono (by decide)) hr rfl (F.glo 41) (F.keep 29 (d := d29)) (a_cons (e_var (pv 0)) (a_cons (e_add (e_ix ⟨_, hr⟩ (e_var (pv 0)) e_int) (e_tup (a_cons (e_var (pv 5)) a_nil))) a_nil))))
      (b_cons (s_set (i := 7) nd rfl (Or.inl rfl) e_bl)
      (b_cons (s_for PassesOwn.never rfl (i_seq (e_var (pv 2))) (g_seq rfl (g_cons (g_name (pg_name (i := 8) nd rfl (Or.inl rfl))) (g_cons (g_name (pg_name (i := 9) nd rfl (Or.inl rfl))) (g_nil (is := []))))) (b_one (s_set (i := 7) nd rfl (Or.inl rfl) (e_and (e_var (pv 7)) (e_one (e_call (ps := P__law_alike) (h__law_alike.mono (by decide)) hr rfl (F.glo 43) (F.keep 31 (d := d31)) (a_cons (e_var (pv 6)) (a_cons (e_var (pv 8)) (a_cons (e_var (pv 9)) a_nil)))))))))
      (b_one (s_if (t_tru (e_var (pv 7))) (b_one (s_expr (e_append (e_var (pv 4)) (a_cons (e_var (pv 5)) a_nil)))) b_nil))))))
  (b_one (s_ret (e_var (pv 4)))))))
theorem ok__law_explaining (F : Fc fa fn ex K mg) {sp__law_every : DSp} {sp__law_lots : DSp} {sp__law_alike : DSp} {sp__law_strange : DSp} {sp : DSp} (h__law_every : DFn P w K mg base 1 (He.ga K "_law_every") P__law_every sp__law_every) (h__law_lots : DFn P w K mg base 1 (He.ga K "_law_lots") P__law_lots sp__law_lots) (h__law_alike : DFn P w K mg base 2 (He.ga K "_law_alike") P__law_alike sp__law_alike) (h__law_strange : DFn P w K mg base 3 (He.ga K "_law_strange") P__law_strange sp__law_strange) (hw : Keeps 2 10 (w__law_explaining sp__law_every sp__law_lots sp__law_alike sp__law_strange) sp) : DFn P w K mg base (3 + 1) (He.ga K "_law_explaining") P__law_explaining sp := by
  obtain ⟨fd, Fd⟩ := F.def_ 34 (d := d34) rfl
  refine dfn_of Fd sc__law_explaining hw ?_ (der__law_explaining F h__law_every h__law_lots h__law_alike h__law_strange _)
  exact by
    intro kV doc pm an cdv ct us ws n h1 h2 h3
    subst h2
    rcases us with _ | ⟨a0, _ | ⟨a1, _ | ⟨a2, us⟩⟩⟩
    · obtain ⟨_, _, rfl⟩ := len2 h3; rfl
    · obtain ⟨_, rfl⟩ := len1 h3; rfl
    · obtain ⟨rfl⟩ := len0 h3; rfl
    · simp at h1
theorem sc__law_needed : FnScope N__law_needed P__law_needed (defScope (top 33)) := ⟨rfl, rfl, rfl, by decide +kernel, rfl, by decide +kernel, by decide +kernel⟩
def w__law_needed (sp__law_lots : DSp) (sp__law_alike : DSp) : WS := (wsSeq (wsSet 2 (wCall 2 sp__law_lots (waCons (wVar 0) (waCons (w2 kIx (wVar 0) (wK (.int 1))) waNil))))
  (wsSeq (wsSet 3 (wNew (wComp (wiSeq (wVar 1)) [4] (wgName 4) (wAnd (wTst (w2 kNe (w2 kIx (wVar 4) (wK (.int 0))) (w2 kIx (wVar 4) (wK (.int 1))))) (wTru (wCall 3 sp__law_alike (waCons (wVar 2) (waCons (w2 kIx (wVar 4) (wK (.int 0))) (waCons (w2 kIx (wVar 4) (wK (.int 1))) waNil)))))) (wVar 4))))
  (wsSeq (wsSet 5 (wNew (wLst waNil)))
  (wsSeq (wsFor (wiRng1 (waCons (wBlt kLen (waCons (w2 kIx (wVar 0) (wK (.int 1))) waNil)) waNil)) (wgName 6) (wsSeq (wsSet 2 (wCall 2 sp__law_lots (waCons (wVar 0) (waCons (w2 kAdd (wSl (w2 kIx (wVar 0) (wK (.int 1))) woNone (woSome (wVar 6))) (wSl (w2 kIx (wVar 0) (wK (.int 1))) (woSome (w2 kAdd (wVar 6) (wK (.int 1)))) woNone)) waNil))))
      (wsIf (wTst (w2 kGt (wLenL (wComp (wiSeq (wVar 3)) [4] (wgName 4) (wNot (wTru (wCall 3 sp__law_alike (waCons (wVar 2) (waCons (w2 kIx (wVar 4) (wK (.int 0))) (waCons (w2 kIx (wVar 4) (wK (.int 1))) waNil)))))) (wVar 4))) (wK (.int 0)))) (wsExpr (wLM kAppend (wVar 5) (waCons (wVar 6) waNil))) wsNext)))
  (wsRet (wVar 5))))))
theorem der__law_needed (F : Fc fa fn ex K mg) {sp__law_lots : DSp} {sp__law_alike : DSp} (h__law_lots : DFn P w K mg base 1 (He.ga K "_law_lots") P__law_lots sp__law_lots) (h__law_alike : DFn P w K mg base 2 (He.ga K "_law_alike") P__law_alike sp__law_alike) (f : Addr) (cdv : Value) (A : Around) (outer : List Env) (s : Shared) (H : Hp) (E : XK) (hr : Room 2 (A.deeper (envOfC "_law_needed" (defScope (top 33)) s.heap.objs.size f cdv))) :
    PSs (cxOf CX0 P w K mg base N__law_needed "_law_needed" (defScope (top 33)) f cdv A outer s H E).nox (defBody (top 33)) (tDs K (w__law_needed sp__law_lots sp__law_alike)) :=
  have nd := sc__law_needed.nd
  (b_cons (s_set (i := 2) nd rfl (Or.inr rfl) (e_call (ps := P__law_lots) (h__law_lots.mono (by decide)) hr rfl (F.glo 41) (F.keep 29 (d := d29)) (a_cons (e_var (pv 0)) (a_cons (e_ix ⟨_, hr⟩ (e_var (pv 0)) e_int) a_nil))))
  (b_cons (s_setLc (i := 3) (own := [("pair", 4)]) rfl nd rfl rfl (sw_true rfl rfl rfl (by decide +kernel)) (i_seq (e_var (pv 1))) (blkOk_by (N := N__law_needed) (sc := defScope (top 33)) (by decide +kernel)) (by intro i hi; revert hi; revert i; decide) (fun _ _ _ _ _ => (g_name (pg_name (i := 4) nd rfl (Or.inl rfl)))) (fun _ _ _ _ _ => (ts_one (PW.pt (x_and (t_ne ⟨_, hr⟩ (e_ix ⟨_, hr⟩ (e_var (pv 4)) e_int) (e_ix ⟨_, hr⟩ (e_var (pv 4)) e_int)) (x_and1 (t_tru (e_call (ps := P__law_alike) (h__law_alike.mono (by decide)) hr rfl (F.glo 43) (F.keep 31 (d := d31)) (a_cons (e_var (pv 2)) (a_cons (e_ix ⟨_, hr⟩ (e_var (pv 4)) e_int) (a_cons (e_ix ⟨_, hr⟩ (e_var (pv 4)) e_int) a_nil)))))))))) (fun _ _ _ _ _ => (e_var (pv 4))))
  (b_cons (s_set (i := 5) nd rfl (Or.inl rfl) (e_new (e_lst a_nil)))
  (b_cons (s_for PassesOwn.never rfl (i_rng1 rfl (F.free 67) (a_cons (e_len rfl (F.free 63) (a_cons (e_ix ⟨_, hr⟩ (e_var (pv 0)) e_int) a_nil)) a_nil)) (g_name (pg_name (i := 6) nd rfl (Or.inl rfl))) (b_cons (s_set (i := 2) nd rfl (Or.inr rfl) (e_call (ps := P__law_lots) (h__law_lots.mono (by decide)) hr rfl (F.glo 41) (F.keep 29 (d := d29)) (a_cons (e_var (pv 0)) (a_cons (e_add (e_sl (e_ix ⟨_, hr⟩ (e_var (pv 0)) e_int) o_none (o_some (e_var (pv 6)))) (e_sl (e_ix ⟨_, hr⟩ (e_var (pv 0)) e_int) (o_some (e_add (e_var (pv 6)) e_int)) o_none)) a_nil))))
      (b_one (s_if (t_gt (e_lenL rfl (F.free 63) (e_tl (e_lc (own := [("pair", 4)]) rfl nd (i_seq (e_var (pv 3))) (blkOk_by (N := N__law_needed) (sc := defScope (top 33)) (by decide +kernel)) (by intro i hi; revert hi; revert i; decide) (fun _ _ _ _ _ => (g_name (pg_name (i := 4) nd rfl (Or.inl rfl)))) (fun _ _ _ _ _ => (ts_one (t_not (t_tru (e_call (ps := P__law_alike) (h__law_alike.mono (by decide)) hr rfl (F.glo 43) (F.keep 31 (d := d31)) (a_cons (e_var (pv 2)) (a_cons (e_ix ⟨_, hr⟩ (e_var (pv 4)) e_int) (a_cons (e_ix ⟨_, hr⟩ (e_var (pv 4)) e_int) a_nil)))))))) (fun _ _ _ _ _ => (e_var (pv 4)))))) e_int) (b_one (s_expr (e_append (e_var (pv 5)) (a_cons (e_var (pv 6)) a_nil)))) b_nil))))
  (b_one (s_ret (e_var (pv 5))))))))
theorem ok__law_needed (F : Fc fa fn ex K mg) {sp__law_lots : DSp} {sp__law_alike : DSp} {sp : DSp} (h__law_lots : DFn P w K mg base 1 (He.ga K "_law_lots") P__law_lots sp__law_lots) (h__law_alike : DFn P w K mg base 2 (He.ga K "_law_alike") P__law_alike sp__law_alike) (hw : Keeps 2 7 (w__law_needed sp__law_lots sp__law_alike) sp) : DFn P w K mg base (2 + 1) (He.ga K "_law_needed") P__law_needed sp := by
  obtain ⟨fd, Fd⟩ := F.def_ 35 (d := d35) rfl
  refine dfn_of Fd sc__law_needed hw ?_ (der__law_needed F h__law_lots h__law_alike _)
  exact by
    intro kV doc pm an cdv ct us ws n h1 h2 h3
    subst h2
    rcases us with _ | ⟨a0, _ | ⟨a1, _ | ⟨a2, us⟩⟩⟩
    · obtain ⟨_, _, rfl⟩ := len2 h3; rfl
    · obtain ⟨_, rfl⟩ := len1 h3; rfl
    · obtain ⟨rfl⟩ := len0 h3; rfl
    · simp at h1
theorem sc__law_see : FnScope N__law_see P__law_see (defScope (top 34)) := ⟨rfl, rfl, rfl, by decide +kernel, rfl, by decide +kernel, by decide +kernel⟩
def w__law_see (sp_are_kin : DSp) (sp_Watch_see : DSp) (sp__law_lots : DSp) (sp__law_alike : DSp) (sp__law_same : DSp) : WS := (wsSeq (wsAsg (wVar 0) (wgSeq 2 (wgCons (wgName 4) (wgCons (wgName 5) wgNil))))
  (wsSeq (wsSet 6 (wCall 2 sp__law_lots (waCons (wVar 4) (waCons (w2 kIx (wVar 4) (wK (.int 1))) waNil))))
  (wsSeq (wsSet 7 (wCall 3 sp__law_alike (waCons (wVar 6) (waCons (w2 kIx (wVar 2) (wK (.int 0))) (waCons (w2 kIx (wVar 2) (wK (.int 1))) waNil)))))
  (wsSeq (wsSet 8 (wIf (wTst (w2 kEq (w2 kIx (wVar 2) (wK (.int 0))) (w2 kIx (wVar 2) (wK (.int 1))))) (wK (.str "plain")) (wIf (wTru (wVar 7)) (wK (.str "heard")) (wK (.str "strange")))))
  (wsSeq (wsSet 9 (wIf (wTru (wVar 3)) (wMeth "Watch" "see" 3 sp_Watch_see (wVar 1) (waCons (w2 kIx (wVar 2) (wK (.int 0))) (waCons (w2 kIx (wVar 2) (wK (.int 1))) waNil))) (wMeth "Watch" "see" 3 sp_Watch_see (wVar 1) (waCons (w2 kIx (wVar 2) (wK (.int 0))) (waCons (w2 kIx (wVar 2) (wK (.int 1))) waNil)))))
  (wsSeq (wsExpr (wLM kAppend (wVar 5) (waCons (wVar 2) waNil)))
  (wsSeq (wsIf (wNot (wTru (wCall 2 sp__law_same (waCons (wVar 9) (waCons (wVar 8) waNil))))) (wsRet (wK (.bl false))) wsNext)
  (wsSeq (wsSet 9 (wCall 3 sp_are_kin (waCons (wVar 4) (waCons (w2 kIx (wVar 2) (wK (.int 0))) (waCons (w2 kIx (wVar 2) (wK (.int 1))) waNil)))))
  (wsRet (wIf (wTru (wVar 7)) (w2 kIs (wVar 9) (wK (.bl true))) (w2 kIs (wVar 9) (wK (.bl false)))))))))))))
theorem der__law_see (F : Fc fa fn ex K mg) {sp_are_kin : DSp} {sp_Watch_see : DSp} {sp__law_lots : DSp} {sp__law_alike : DSp} {sp__law_same : DSp} (h_are_kin : DFn P w K mg base 5 (He.ga K "are_kin") P_are_kin sp_are_kin) (h_Watch_see : DFn P w K mg base 6 (He.ma K (He.ga K "Watch") "see") P_Watch_see sp_Watch_see) (h__law_lots : DFn P w K mg base 1 (He.ga K "_law_lots") P__law_lots sp__law_lots) (h__law_alike : DFn P w K mg base 2 (He.ga K "_law_alike") P__law_alike sp__law_alike) (h__law_same : DFn P w K mg base 9 (He.ga K "_law_same") P__law_same sp__law_same) (f : Addr) (cdv : Value) (A : Around) (outer : List Env) (s : Shared) (H : Hp) (E : XK) (hr : Room 9 (A.deeper (envOfC "_law_see" (defScope (top 34)) s.heap.objs.size f cdv))) :
    PSs (cxOf CX0 P w K mg base N__law_see "_law_see" (defScope (top 34)) f cdv A outer s H E).nox (defBody (top 34)) (tDs K (w__law_see sp_are_kin sp_Watch_see sp__law_lots sp__law_alike sp__law_same)) :=
  have nd := sc__law_see.nd
  (b_cons (s_asg (e_var (pv 0)) (g_seq rfl (g_cons (g_name (pg_name (i := 4) nd rfl (Or.inl rfl))) (g_cons (g_name (pg_name (i := 5) nd rfl (Or.inl rfl))) (g_nil (is := []))))))
  (b_cons (s_set (i := 6) nd rfl (Or.inl rfl) (e_call (ps := P__law_lots) (h__law_lots.mono (by decide)) hr rfl (F.glo 41) (F.keep 29 (d := d29)) (a_cons (e_var (pv 4)) (a_cons (e_ix ⟨_, hr⟩ (e_var (pv 4)) e_int) a_nil))))
  (b_cons (s_set (i := 7) nd rfl (Or.inl rfl) (e_call (ps := P__law_alike) (h__law_alike.mono (by decide)) hr rfl (F.glo 43) (F.keep 31 (d := d31)) (a_cons (e_var (pv 6)) (a_cons (e_ix ⟨_, hr⟩ (e_var (pv 2)) e_int) (a_cons (e_ix ⟨_, hr⟩ (e_var (pv 2)) e_int) a_nil)))))
  (b_cons (s_set (i := 8) nd rfl (Or.inl rfl) (e_if (t_eq ⟨_, hr⟩ (e_ix ⟨_, hr⟩ (e_var (pv 2)) e_int) (e_ix ⟨_, hr⟩ (e_var (pv 2)) e_int)) e_str (e_if (t_tru (e_var (pv 7))) e_str e_str)))
  (b_cons (s_set (i := 9) nd rfl (Or.inl rfl) (e_if (t_tru (e_var (pv 3))) (e_methK0 (p0 := "self") (ks := ["meant", "heard"]) (e_var (pv 1)) (F.cls 26) (F.meth 28) (h_Watch_see.mono (by decide)) hr (k_cons (e_ix ⟨_, hr⟩ (e_var (pv 2)) e_int) (k_cons (e_ix ⟨_, hr⟩ (e_var (pv 2)) e_int) k_nil))) (e_meth (ps := P_Watch_see) (e_var (pv 1)) (F.cls 26) (F.meth 28) (h_Watch_see.mono (by decide)) hr (a_cons (e_ix ⟨_, hr⟩ (e_var (pv 2)) e_int) (a_cons (e_ix ⟨_, hr⟩ (e_var (pv 2)) e_int) a_nil)))))
  (b_cons (s_expr (e_append (e_var (pv 5)) (a_cons (e_var (pv 2)) a_nil)))
  (b_cons (s_if (t_not (t_tru (e_call (ps := P__law_same) (h__law_same.mono (by decide)) hr rfl (F.glo 44) (F.keep 32 (d := d32)) (a_cons (e_var (pv 9)) (a_cons (e_var (pv 8)) a_nil))))) (b_one (s_ret e_bl)) b_nil)
  (b_cons (s_set (i := 9) nd rfl (Or.inl rfl) (e_call (ps := P_are_kin) (h_are_kin.mono (by decide)) hr rfl (F.glo 24) (F.keep 16 (d := d16)) (a_cons (e_var (pv 4)) (a_cons (e_ix ⟨_, hr⟩ (e_var (pv 2)) e_int) (a_cons (e_ix ⟨_, hr⟩ (e_var (pv 2)) e_int) a_nil)))))
  (b_one (s_ret (e_if (t_tru (e_var (pv 7))) (e_is (e_var (pv 9)) e_bl) (e_is (e_var (pv 9)) e_bl))))))))))))
theorem ok__law_see (F : Fc fa fn ex K mg) {sp_are_kin : DSp} {sp_Watch_see : DSp} {sp__law_lots : DSp} {sp__law_alike : DSp} {sp__law_same : DSp} {sp : DSp} (h_are_kin : DFn P w K mg base 5 (He.ga K "are_kin") P_are_kin sp_are_kin) (h_Watch_see : DFn P w K mg base 6 (He.ma K (He.ga K "Watch") "see") P_Watch_see sp_Watch_see) (h__law_lots : DFn P w K mg base 1 (He.ga K "_law_lots") P__law_lots sp__law_lots) (h__law_alike : DFn P w K mg base 2 (He.ga K "_law_alike") P__law_alike sp__law_alike) (h__law_same : DFn P w K mg base 9 (He.ga K "_law_same") P__law_same sp__law_same) (hw : Keeps 4 10 (w__law_see sp_are_kin sp_Watch_see sp__law_lots sp__law_alike sp__law_same) sp) : DFn P w K mg base (9 + 1) (He.ga K "_law_see") P__law_see sp := by
  obtain ⟨fd, Fd⟩ := F.def_ 36 (d := d36) rfl
  refine dfn_of Fd sc__law_see hw ?_ (der__law_see F h_are_kin h_Watch_see h__law_lots h__law_alike h__law_same _)
  exact by
    intro kV doc pm an cdv ct us ws n h1 h2 h3
    subst h2
    rcases us with _ | ⟨a0, _ | ⟨a1, _ | ⟨a2, _ | ⟨a3, _ | ⟨a4, us⟩⟩⟩⟩⟩
    · obtain ⟨_, _, _, _, rfl⟩ := len4 h3; rfl
    · obtain ⟨_, _, _, rfl⟩ := len3 h3; rfl
    · obtain ⟨_, _, rfl⟩ := len2 h3; rfl
    · obtain ⟨_, rfl⟩ := len1 h3; rfl
    · obtain ⟨rfl⟩ := len0 h3; rfl
    · simp at h1
theorem sc__law_is : FnScope N__law_is P__law_is (defScope (top 35)) := ⟨rfl, rfl, rfl, by decide +kernel, rfl, by decide +kernel, by decide +kernel⟩
def w__law_is (sp_Watch_strange : DSp) (sp_Watch_explaining : DSp) (sp_Watch_needed : DSp) (sp_Watch_pairs : DSp) (sp__law_same : DSp) (sp__law_strange : DSp) (sp__law_explaining : DSp) (sp__law_needed : DSp) : WS := (wsSeq (wsAsg (wVar 0) (wgSeq 2 (wgCons (wgName 3) (wgCons (wgName 4) wgNil))))
  (wsSeq (wsIf (wTst (w2 kEq (wVar 2) (wK (.int 0)))) (wsRet (wCall 2 sp__law_same (waCons (wMeth "Watch" "strange" 1 sp_Watch_strange (wVar 1) waNil) (waCons (wCall 2 sp__law_strange (waCons (wVar 3) (waCons (wVar 4) waNil))) waNil)))) wsNext)
  (wsSeq (wsIf (wTst (w2 kEq (wVar 2) (wK (.int 1)))) (wsRet (wCall 2 sp__law_same (waCons (wMeth "Watch" "pairs" 1 sp_Watch_pairs (wVar 1) waNil) (waCons (wVar 4) waNil)))) wsNext)
  (wsSeq (wsIf (wTst (w2 kEq (wVar 2) (wK (.int 2)))) (wsRet (wCall 2 sp__law_same (waCons (wMeth "Watch" "needed" 1 sp_Watch_needed (wVar 1) waNil) (waCons (wCall 2 sp__law_needed (waCons (wVar 3) (waCons (wVar 4) waNil))) waNil)))) wsNext)
  (wsRet (wCall 2 sp__law_same (waCons (wMeth "Watch" "explaining" 1 sp_Watch_explaining (wVar 1) waNil) (waCons (wCall 2 sp__law_explaining (waCons (wVar 3) (waCons (wVar 4) waNil))) waNil))))))))
theorem der__law_is (F : Fc fa fn ex K mg) {sp_Watch_strange : DSp} {sp_Watch_explaining : DSp} {sp_Watch_needed : DSp} {sp_Watch_pairs : DSp} {sp__law_same : DSp} {sp__law_strange : DSp} {sp__law_explaining : DSp} {sp__law_needed : DSp} (h_Watch_strange : DFn P w K mg base 6 (He.ma K (He.ga K "Watch") "strange") P_Watch_strange sp_Watch_strange) (h_Watch_explaining : DFn P w K mg base 6 (He.ma K (He.ga K "Watch") "explaining") P_Watch_explaining sp_Watch_explaining) (h_Watch_needed : DFn P w K mg base 6 (He.ma K (He.ga K "Watch") "needed") P_Watch_needed sp_Watch_needed) (h_Watch_pairs : DFn P w K mg base 1 (He.ma K (He.ga K "Watch") "pairs") P_Watch_pairs sp_Watch_pairs) (h__law_same : DFn P w K mg base 9 (He.ga K "_law_same") P__law_same sp__law_same) (h__law_strange : DFn P w K mg base 3 (He.ga K "_law_strange") P__law_strange sp__law_strange) (h__law_explaining : DFn P w K mg base 4 (He.ga K "_law_explaining") P__law_explaining sp__law_explaining) (h__law_needed : DFn P w K mg base 3 (He.ga K "_law_needed") P__law_needed sp__law_needed) (f : Addr) (cdv : Value) (A : Around) (outer : List Env) (s : Shared) (H : Hp) (E : XK) (hr : Room 9 (A.deeper (envOfC "_law_is" (defScope (top 35)) s.heap.objs.size f cdv))) :
    PSs (cxOf CX0 P w K mg base N__law_is "_law_is" (defScope (top 35)) f cdv A outer s H E).nox (defBody (top 35)) (tDs K (w__law_is sp_Watch_strange sp_Watch_explaining sp_Watch_needed sp_Watch_pairs sp__law_same sp__law_strange sp__law_explaining sp__law_needed)) :=
  have nd := sc__law_is.nd
  (b_cons (s_asg (e_var (pv 0)) (g_seq rfl (g_cons (g_name (pg_name (i := 3) nd rfl (Or.inl rfl))) (g_cons (g_name (pg_name (i := 4) nd rfl (Or.inl rfl))) (g_nil (is := []))))))
  (b_cons (s_if (t_eq ⟨_, hr⟩ (e_var (pv 2)) e_int) (b_one (s_ret (e_call (ps := P__law_same) (h__law_same.mono (by decide)) hr rfl (F.glo 44) (F.keep 32 (d := d32)) (a_cons (e_meth0 (ps := P_Watch_strange) (e_var (pv 1)) (F.cls 26) (F.meth 29) (h_Watch_strange.mono (by decide)) hr) (a_cons (e_call (ps := P__law_strange) (h__law_strange.mono (by decide)) hr rfl (F.glo 45) (F.keep 33 (d := d33)) (a_cons (e_var (pv 3)) (a_cons (e_var (pv 4)) a_nil))) a_nil))))) b_nil)
  (b_cons (s_if (t_eq ⟨_, hr⟩ (e_var (pv 2)) e_int) (b_one (s_ret (e_call (ps := P__law_same) (h__law_same.mono (by decide)) hr rfl (F.glo 44) (F.keep 32 (d := d32)) (a_cons (e_meth0 (ps := P_Watch_pairs) (e_var (pv 1)) (F.cls 26) (F.meth 32) (h_Watch_pairs.mono (by decide)) hr) (a_cons (e_var (pv 4)) a_nil))))) b_nil)
  (b_cons (s_if (t_eq ⟨_, hr⟩ (e_var (pv 2)) e_int) (b_one (s_ret (e_call (ps := P__law_same) (h__law_same.mono (by decide)) hr rfl (F.glo 44) (F.keep 32 (d := d32)) (a_cons (e_meth0 (ps := P_Watch_needed) (e_var (pv 1)) (F.cls 26) (F.meth 31) (h_Watch_needed.mono (by decide)) hr) (a_cons (e_call (ps := P__law_needed) (h__law_needed.mono (by decide)) hr rfl (F.glo 47) (F.keep 35 (d := d35)) (a_cons (e_var (pv 3)) (a_cons (e_var (pv 4)) a_nil))) a_nil))))) b_nil)
  (b_one (s_ret (e_call (ps := P__law_same) (h__law_same.mono (by decide)) hr rfl (F.glo 44) (F.keep 32 (d := d32)) (a_cons (e_meth0 (ps := P_Watch_explaining) (e_var (pv 1)) (F.cls 26) (F.meth 30) (h_Watch_explaining.mono (by decide)) hr) (a_cons (e_call (ps := P__law_explaining) (h__law_explaining.mono (by decide)) hr rfl (F.glo 46) (F.keep 34 (d := d34)) (a_cons (e_var (pv 3)) (a_cons (e_var (pv 4)) a_nil))) a_nil)))))))))
theorem ok__law_is (F : Fc fa fn ex K mg) {sp_Watch_strange : DSp} {sp_Watch_explaining : DSp} {sp_Watch_needed : DSp} {sp_Watch_pairs : DSp} {sp__law_same : DSp} {sp__law_strange : DSp} {sp__law_explaining : DSp} {sp__law_needed : DSp} {sp : DSp} (h_Watch_strange : DFn P w K mg base 6 (He.ma K (He.ga K "Watch") "strange") P_Watch_strange sp_Watch_strange) (h_Watch_explaining : DFn P w K mg base 6 (He.ma K (He.ga K "Watch") "explaining") P_Watch_explaining sp_Watch_explaining) (h_Watch_needed : DFn P w K mg base 6 (He.ma K (He.ga K "Watch") "needed") P_Watch_needed sp_Watch_needed) (h_Watch_pairs : DFn P w K mg base 1 (He.ma K (He.ga K "Watch") "pairs") P_Watch_pairs sp_Watch_pairs) (h__law_same : DFn P w K mg base 9 (He.ga K "_law_same") P__law_same sp__law_same) (h__law_strange : DFn P w K mg base 3 (He.ga K "_law_strange") P__law_strange sp__law_strange) (h__law_explaining : DFn P w K mg base 4 (He.ga K "_law_explaining") P__law_explaining sp__law_explaining) (h__law_needed : DFn P w K mg base 3 (He.ga K "_law_needed") P__law_needed sp__law_needed) (hw : Keeps 3 5 (w__law_is sp_Watch_strange sp_Watch_explaining sp_Watch_needed sp_Watch_pairs sp__law_same sp__law_strange sp__law_explaining sp__law_needed) sp) : DFn P w K mg base (9 + 1) (He.ga K "_law_is") P__law_is sp := by
  obtain ⟨fd, Fd⟩ := F.def_ 37 (d := d37) rfl
  refine dfn_of Fd sc__law_is hw ?_ (der__law_is F h_Watch_strange h_Watch_explaining h_Watch_needed h_Watch_pairs h__law_same h__law_strange h__law_explaining h__law_needed _)
  exact by
    intro kV doc pm an cdv ct us ws n h1 h2 h3
    subst h2
    rcases us with _ | ⟨a0, _ | ⟨a1, _ | ⟨a2, _ | ⟨a3, us⟩⟩⟩⟩
    · obtain ⟨_, _, _, rfl⟩ := len3 h3; rfl
    · obtain ⟨_, _, rfl⟩ := len2 h3; rfl
    · obtain ⟨_, rfl⟩ := len1 h3; rfl
    · obtain ⟨rfl⟩ := len0 h3; rfl
    · simp at h1
theorem sc__law_whole : FnScope N__law_whole P__law_whole (defScope (top 36)) := ⟨rfl, rfl, rfl, by decide +kernel, rfl, by decide +kernel, by decide +kernel⟩
def w__law_whole (sp__law_is : DSp) : WS := (wsSeq (wsFor (wiRng1 (waCons (wK (.int 4)) waNil)) (wgName 4) (wsIf (wNot (wTru (wCall 3 sp__law_is (waCons (wVar 1) (waCons (wVar 2) (waCons (w2 kMod (wBlt kInt (waCons (w2 kAdd (wVar 3) (wVar 4)) waNil)) (wK (.int 4))) waNil)))))) (wsRet (wK (.bl false))) wsNext))
  (wsRet (wCall 3 sp__law_is (waCons (wVar 1) (waCons (wVar 2) (waCons (wK (.int 0)) waNil))))))
theorem der__law_whole (F : Fc fa fn ex K mg) {sp__law_is : DSp} (h__law_is : DFn P w K mg base 10 (He.ga K "_law_is") P__law_is sp__law_is) (f : Addr) (cdv : Value) (A : Around) (outer : List Env) (s : Shared) (H : Hp) (E : XK) (hr : Room 10 (A.deeper (envOfC "_law_whole" (defScope (top 36)) s.heap.objs.size f cdv))) :
    PSs (cxOf CX0 P w K mg base N__law_whole "_law_whole" (defScope (top 36)) f cdv A outer s H E).nox (defBody (top 36)) (tDs K (w__law_whole sp__law_is)) :=
  have nd := sc__law_whole.nd
  (b_cons (s_for PassesOwn.never rfl (i_rng1 rfl (F.free 67) (a_cons e_int a_nil)) (g_name (pg_name (i := 4) nd rfl (Or.inl rfl))) (b_one (s_if (t_not (t_tru (e_call (ps := P__law_is) (h__law_is.mono (by decide)) hr rfl (F.glo 49) (F.keep 37 (d := d37)) (a_cons (e_var (pv 1)) (a_cons (e_var (pv 2)) (a_cons (e_mod (e_int1 rfl (F.free 61) (a_cons (e_add (e_var (pv 3)) (e_var (pv 4))) a_nil)) e_int) a_nil)))))) (b_one (s_ret e_bl)) b_nil)))
  (b_one (s_ret (e_call (ps := P__law_is) (h__law_is.mono (by decide)) hr rfl (F.glo 49) (F.keep 37 (d := d37)) (a_cons (e_var (pv 1)) (a_cons (e_var (pv 2)) (a_cons e_int a_nil)))))))
theorem ok__law_whole (F : Fc fa fn ex K mg) {sp__law_is : DSp} {sp : DSp} (h__law_is : DFn P w K mg base 10 (He.ga K "_law_is") P__law_is sp__law_is) (hw : Keeps 4 5 (w__law_whole sp__law_is) sp) : DFn P w K mg base (10 + 1) (He.ga K "_law_whole") P__law_whole sp := by
  obtain ⟨fd, Fd⟩ := F.def_ 38 (d := d38) rfl
  refine dfn_of Fd sc__law_whole hw ?_ (der__law_whole F h__law_is _)
  exact by
    intro kV doc pm an cdv ct us ws n h1 h2 h3
    subst h2
    rcases us with _ | ⟨a0, _ | ⟨a1, _ | ⟨a2, _ | ⟨a3, _ | ⟨a4, us⟩⟩⟩⟩⟩
    · obtain ⟨_, _, _, _, rfl⟩ := len4 h3; rfl
    · obtain ⟨_, _, _, rfl⟩ := len3 h3; rfl
    · obtain ⟨_, _, rfl⟩ := len2 h3; rfl
    · obtain ⟨_, rfl⟩ := len1 h3; rfl
    · obtain ⟨rfl⟩ := len0 h3; rfl
    · simp at h1
theorem sc__law_row : FnScope N__law_row P__law_row (defScope (top 37)) := ⟨rfl, rfl, rfl, by decide +kernel, rfl, by decide +kernel, by decide +kernel⟩
def w__law_row (sp__law_pour : DSp) : WS := (wsSeq (wsSet 3 (w2 kAdd (wK (.int 1)) (wCall 2 sp__law_pour (waCons (wVar 0) (waCons (wVar 1) waNil)))))
  (wsSeq (wsSet 4 (wCall 2 sp__law_pour (waCons (wVar 0) (waCons (wVar 1) waNil))))
  (wsRet (wTupL (wComp (wiRng1 (waCons (wVar 2) waNil)) [5] (wgName 5) wYes (w2 kMod (wBlt kInt (waCons (w2 kAdd (wVar 4) (wCall 2 sp__law_pour (waCons (wVar 0) (waCons (wVar 3) waNil)))) waNil)) (wVar 1)))))))
theorem der__law_row (F : Fc fa fn ex K mg) {sp__law_pour : DSp} (h__law_pour : DFn P w K mg base 1 (He.ga K "_law_pour") P__law_pour sp__law_pour) (f : Addr) (cdv : Value) (A : Around) (outer : List Env) (s : Shared) (H : Hp) (E : XK) (hr : Room 1 (A.deeper (envOfC "_law_row" (defScope (top 37)) s.heap.objs.size f cdv))) :
    PSs (cxOf CX0 P w K mg base N__law_row "_law_row" (defScope (top 37)) f cdv A outer s H E).nox (defBody (top 37)) (tDs K (w__law_row sp__law_pour)) :=
  have nd := sc__law_row.nd
  (b_cons (s_set (i := 3) nd rfl (Or.inr rfl) (e_add e_int (e_call (ps := P__law_pour) (h__law_pour.mono (by decide)) hr rfl (F.glo 38) (F.keep 26 (d := d26)) (a_cons (e_var (pv 0)) (a_cons (e_var (pv 1)) a_nil)))))
  (b_cons (s_set (i := 4) nd rfl (Or.inr rfl) (e_call (ps := P__law_pour) (h__law_pour.mono (by decide)) hr rfl (F.glo 38) (F.keep 26 (d := d26)) (a_cons (e_var (pv 0)) (a_cons (e_var (pv 1)) a_nil))))
  (b_one (s_ret (e_tupL rfl (F.free 71) (e_tl (e_lc (own := [("k", 5)]) rfl nd (i_rng1 rfl (F.free 67) (a_cons (e_var (pv 2)) a_nil)) (blkOk_by (N := N__law_row) (sc := defScope (top 37)) (by decide +kernel)) (by intro i hi; revert hi; revert i; decide) (fun _ _ _ _ _ => (g_name (pg_name (i := 5) nd rfl (Or.inl rfl)))) (fun _ _ _ _ _ => ts_nil) (fun _ _ _ _ _ => (e_mod (e_int1 rfl (F.free 61) (a_cons (e_add (e_var (pv 4)) (e_call (ps := P__law_pour) (h__law_pour.mono (by decide)) hr rfl (F.glo 38) (F.keep 26 (d := d26)) (a_cons (e_var (pv 0)) (a_cons (e_var (pv 3)) a_nil)))) a_nil)) (e_var (pv 1)))))))))))
theorem ok__law_row (F : Fc fa fn ex K mg) {sp__law_pour : DSp} {sp : DSp} (h__law_pour : DFn P w K mg base 1 (He.ga K "_law_pour") P__law_pour sp__law_pour) (hw : Keeps 3 6 (w__law_row sp__law_pour) sp) : DFn P w K mg base (1 + 1) (He.ga K "_law_row") P__law_row sp := by
  obtain ⟨fd, Fd⟩ := F.def_ 39 (d := d39) rfl
  refine dfn_of Fd sc__law_row hw ?_ (der__law_row F h__law_pour _)
  exact by
    intro kV doc pm an cdv ct us ws n h1 h2 h3
    subst h2
    rcases us with _ | ⟨a0, _ | ⟨a1, _ | ⟨a2, _ | ⟨a3, us⟩⟩⟩⟩
    · obtain ⟨_, _, _, rfl⟩ := len3 h3; rfl
    · obtain ⟨_, _, rfl⟩ := len2 h3; rfl
    · obtain ⟨_, rfl⟩ := len1 h3; rfl
    · obtain ⟨rfl⟩ := len0 h3; rfl
    · simp at h1
theorem sc__law_walked : FnScope N__law_walked P__law_walked (defScope (top 38)) := ⟨rfl, rfl, rfl, by decide +kernel, rfl, by decide +kernel, by decide +kernel⟩
def w__law_walked (sp__law_pour : DSp) : WS := (wsSeq (wsFor (wiRng1 (waCons (wVar 3) waNil)) (wgName 4) (wsSeq (wsIf (wTst (w2 kEq (wBlt kLen (waCons (w2 kIx (wVar 1) (wK (.int 1))) waNil)) (wK (.int 0)))) wsBrk wsNext)
      (wsSeq (wsSet 5 (w2 kIx (w2 kIx (wVar 1) (wK (.int 1))) (wCall 2 sp__law_pour (waCons (wVar 0) (waCons (wBlt kLen (waCons (w2 kIx (wVar 1) (wK (.int 1))) waNil)) waNil)))))
      (wsSeq (wsSet 6 (wNew (wLst (waCons (wNew (wLst (waCons (wTup (waCons (w2 kIx (wVar 5) (wK (.int 1))) waNil)) (waCons (wTup (waCons (w2 kIx (wVar 5) (wK (.int 1))) (waCons (w2 kIx (wVar 5) (wK (.int 1))) waNil))) waNil)))) (waCons (wNew (wLst (waCons (wTup waNil) (waCons (wTup (waCons (w2 kIx (wVar 5) (wK (.int 1))) waNil)) waNil)))) (waCons (wNew (wLst (waCons (wTup (waCons (w2 kIx (wVar 5) (wK (.int 1))) waNil)) (waCons (wTup (waCons (w2 kIx (wVar 5) (w2 kSub (wBlt kLen (waCons (wVar 5) waNil)) (wK (.int 1)))) waNil)) waNil)))) waNil))))))
      (wsSeq (wsIf (wTst (w2 kEq (w2 kIx (wVar 5) (wK (.int 0))) (wK (.str "loose")))) (wsExpr (wLM kAppend (wVar 6) (waCons (wNew (wLst (waCons (wTup (waCons (w2 kIx (wVar 5) (wK (.int 1))) (waCons (w2 kIx (wVar 5) (wK (.int 2))) waNil))) (waCons (wTup (waCons (w2 kIx (wVar 5) (wK (.int 2))) (waCons (w2 kIx (wVar 5) (wK (.int 1))) waNil))) waNil)))) waNil))) wsNext)
      (wsSeq (wsSet 7 (w2 kIx (wVar 6) (wLM kIndex (wNew (wLst (waCons (wK (.str "held")) (waCons (wK (.str "idle")) (waCons (wK (.str "same")) (waCons (wK (.str "loose")) waNil)))))) (waCons (w2 kIx (wVar 5) (wK (.int 0))) waNil))))
      (wsSeq (wsSet 8 (wCall 2 sp__law_pour (waCons (wVar 0) (waCons (wK (.int 2)) waNil))))
      (wsSeq (wsSet 9 (w2 kIx (wVar 7) (wVar 8)))
      (wsSeq (wsSet 10 (wCall 2 sp__law_pour (waCons (wVar 0) (waCons (w2 kAdd (wBlt kLen (waCons (wVar 2) waNil)) (wK (.int 1))) waNil))))
      (wsFor (wiTmp (wCat (wRg2 (wVar 10) (w2 kAdd (wBlt kLen (waCons (wVar 2) waNil)) (wK (.int 1)))) (wRg1 (wVar 10)))) (wgName 11) (wsSeq (wsSet 12 (w2 kAdd (w2 kAdd (wSl (wVar 2) woNone (woSome (wVar 11))) (w2 kIx (wVar 7) (w2 kSub (wK (.int 1)) (wVar 8)))) (wSl (wVar 2) (woSome (w2 kAdd (wVar 11) (wBlt kLen (waCons (wVar 9) waNil)))) woNone)))
          (wsIf (wAnd (wTst (w2 kEq (wSl (wVar 2) (woSome (wVar 11)) (woSome (w2 kAdd (wVar 11) (wBlt kLen (waCons (wVar 9) waNil))))) (wVar 9))) (wTst (w2 kLe (wBlt kLen (waCons (wVar 12) waNil)) (wK (.int 12))))) (wsSeq (wsSet 2 (wVar 12))
              wsBrk) wsNext))))))))))))
  (wsRet (wVar 2)))
theorem der__law_walked (F : Fc fa fn ex K mg) {sp__law_pour : DSp} (h__law_pour : DFn P w K mg base 1 (He.ga K "_law_pour") P__law_pour sp__law_pour) (f : Addr) (cdv : Value) (A : Around) (outer : List Env) (s : Shared) (H : Hp) (E : XK) (hr : Room 1 (A.deeper (envOfC "_law_walked" (defScope (top 38)) s.heap.objs.size f cdv))) :
    PSs (cxOf CX0 P w K mg base N__law_walked "_law_walked" (defScope (top 38)) f cdv A outer s H E).nox (defBody (top 38)) (tDs K (w__law_walked sp__law_pour)) :=
  have nd := sc__law_walked.nd
  (b_cons (s_for PassesOwn.never rfl (i_rng1 rfl (F.free 67) (a_cons (e_var (pv 3)) a_nil)) (g_name (pg_name (i := 4) nd rfl (Or.inl rfl))) (b_cons (s_if (t_eq ⟨_, hr⟩ (e_len rfl (F.free 63) (a_cons (e_ix ⟨_, hr⟩ (e_var (pv 1)) e_int) a_nil)) e_int) (b_one s_brk) b_nil)
      (b_cons (s_set (i := 5) nd rfl (Or.inl rfl) (e_ix ⟨_, hr⟩ (e_ix ⟨_, hr⟩ (e_var (pv 1)) e_int) (e_call (ps := P__law_pour) (h__law_pour.mono (by decide)) hr rfl (F.glo 38) (F.keep 26 (d := d26)) (a_cons (e_var (pv 0)) (a_cons (e_len rfl (F.free 63) (a_cons (e_ix ⟨_, hr⟩ (e_var (pv 1)) e_int) a_nil)) a_nil)))))
      (b_cons (s_set (i := 6) nd rfl (Or.inl rfl) (e_new (e_lst (a_cons (e_new (e_lst (a_cons (e_tup (a_cons (e_ix ⟨_, hr⟩ (e_var (pv 5)) e_int) a_nil)) (a_cons (e_tup (a_cons (e_ix ⟨_, hr⟩ (e_var (pv 5)) e_int) (a_cons (e_ix ⟨_, hr⟩ (e_var (pv 5)) e_int) a_nil))) a_nil)))) (a_cons (e_new (e_lst (a_cons (e_tup a_nil) (a_cons (e_tup (a_cons (e_ix ⟨_, hr⟩ (e_var (pv 5)) e_int) a_nil)) a_nil)))) (a_cons (e_new (e_lst (a_cons (e_tup (a_cons (e_ix ⟨_, hr⟩ (e_var (pv 5)) e_int) a_nil)) (a_cons (e_tup (a_cons (e_ix ⟨_, hr⟩ (e_var (pv 5)) (e_sub (e_len rfl (F.free 63) (a_cons (e_var (pv 5)) a_nil)) e_int)) a_nil)) a_nil)))) a_nil))))))
      (b_cons (s_if (t_eq ⟨_, hr⟩ (e_ix ⟨_, hr⟩ (e_var (pv 5)) e_int) e_str) (b_one (s_expr (e_append (e_var (pv 6)) (a_cons (e_new (e_lst (a_cons (e_tup (a_cons (e_ix ⟨_, hr⟩ (e_var (pv 5)) e_int) (a_cons (e_ix ⟨_, hr⟩ (e_var (pv 5)) e_int) a_nil))) (a_cons (e_tup (a_cons (e_ix ⟨_, hr⟩ (e_var (pv 5)) e_int) (a_cons (e_ix ⟨_, hr⟩ (e_var (pv 5)) e_int) a_nil))) a_nil)))) a_nil)))) b_nil)
      (b_cons (s_set (i := 7) nd rfl (Or.inl rfl) (e_ix ⟨_, hr⟩ (e_var (pv 6)) (e_index ⟨_, hr⟩ (e_new (e_lst (a_cons e_str (a_cons e_str (a_cons e_str (a_cons e_str a_nil)))))) (a_cons (e_ix ⟨_, hr⟩ (e_var (pv 5)) e_int) a_nil))))
      (b_cons (s_set (i := 8) nd rfl (Or.inl rfl) (e_call (ps := P__law_pour) (h__law_pour.mono (by decide)) hr rfl (F.glo 38) (F.keep 26 (d := d26)) (a_cons (e_var (pv 0)) (a_cons e_int a_nil))))
      (b_cons (s_set (i := 9) nd rfl (Or.inl rfl) (e_ix ⟨_, hr⟩ (e_var (pv 7)) (e_var (pv 8))))
      (b_cons (s_set (i := 10) nd rfl (Or.inl rfl) (e_call (ps := P__law_pour) (h__law_pour.mono (by decide)) hr rfl (F.glo 38) (F.keep 26 (d := d26)) (a_cons (e_var (pv 0)) (a_cons (e_add (e_len rfl (F.free 63) (a_cons (e_var (pv 2)) a_nil)) e_int) a_nil))))
      (b_one (s_for PassesOwn.never rfl (i_tmp (e_cat (e_listR2 rfl rfl (F.free 64) rfl (F.free 67) (e_var (pv 10)) (e_add (e_len rfl (F.free 63) (a_cons (e_var (pv 2)) a_nil)) e_int)) (e_listR1 rfl rfl (F.free 64) rfl (F.free 67) (e_var (pv 10))))) (g_name (pg_name (i := 11) nd rfl (Or.inl rfl))) (b_cons (s_set (i := 12) nd rfl (Or.inl rfl) (e_add (e_add (e_sl (e_var (pv 2)) o_none (o_some (e_var (pv 11)))) (e_ix ⟨_, hr⟩ (e_var (pv 7)) (e_sub e_int (e_var (pv 8))))) (e_sl (e_var (pv 2)) (o_some (e_add (e_var (pv 11)) (e_len rfl (F.free 63) (a_cons (e_var (pv 9)) a_nil)))) o_none)))
          (b_one (s_if (PW.pt (x_and (t_eq ⟨_, hr⟩ (e_sl (e_var (pv 2)) (o_some (e_var (pv 11))) (o_some (e_add (e_var (pv 11)) (e_len rfl (F.free 63) (a_cons (e_var (pv 9)) a_nil))))) (e_var (pv 9))) (x_and1 (t_le (e_len rfl (F.free 63) (a_cons (e_var (pv 12)) a_nil)) e_int)))) (b_cons (s_set (i := 2) nd rfl (Or.inl rfl) (e_var (pv 12)))
              (b_one s_brk)) b_nil))))))))))))))
  (b_one (s_ret (e_var (pv 2)))))
theorem ok__law_walked (F : Fc fa fn ex K mg) {sp__law_pour : DSp} {sp : DSp} (h__law_pour : DFn P w K mg base 1 (He.ga K "_law_pour") P__law_pour sp__law_pour) (hw : Keeps 4 13 (w__law_walked sp__law_pour) sp) : DFn P w K mg base (1 + 1) (He.ga K "_law_walked") P__law_walked sp := by
  obtain ⟨fd, Fd⟩ := F.def_ 40 (d := d40) rfl
  refine dfn_of Fd sc__law_walked hw ?_ (der__law_walked F h__law_pour _)
  exact by
    intro kV doc pm an cdv ct us ws n h1 h2 h3
    subst h2
    rcases us with _ | ⟨a0, _ | ⟨a1, _ | ⟨a2, _ | ⟨a3, _ | ⟨a4, us⟩⟩⟩⟩⟩
    · obtain ⟨_, _, _, _, rfl⟩ := len4 h3; rfl
    · obtain ⟨_, _, _, rfl⟩ := len3 h3; rfl
    · obtain ⟨_, _, rfl⟩ := len2 h3; rfl
    · obtain ⟨_, rfl⟩ := len1 h3; rfl
    · obtain ⟨rfl⟩ := len0 h3; rfl
    · simp at h1
theorem sc__law_pair : FnScope N__law_pair P__law_pair (defScope (top 39)) := ⟨rfl, rfl, rfl, by decide +kernel, rfl, by decide +kernel, by decide +kernel⟩
def w__law_pair (sp__law_pour : DSp) (sp__law_row : DSp) (sp__law_walked : DSp) : WS := (wsSeq (wsSet 3 (wBlt kLen (waCons (w2 kIx (wVar 1) (wK (.int 0))) waNil)))
  (wsSeq (wsSet 4 (wCall 3 sp__law_row (waCons (wVar 0) (waCons (wVar 3) (waCons (wCall 2 sp__law_pour (waCons (wVar 0) (waCons (w2 kAdd (wVar 2) (wK (.int 1))) waNil))) waNil)))))
  (wsSeq (wsSet 5 (wCall 2 sp__law_pour (waCons (wVar 0) (waCons (wK (.int 6)) waNil))))
  (wsSeq (wsIf (wTst (w2 kEq (wVar 5) (wK (.int 0)))) (wsRet (wTup (waCons (wVar 4) (waCons (wVar 4) waNil)))) wsNext)
  (wsSeq (wsIf (wTst (w2 kEq (wVar 5) (wK (.int 1)))) (wsRet (wTup (waCons (wVar 4) (waCons (wCall 3 sp__law_row (waCons (wVar 0) (waCons (wVar 3) (waCons (wCall 2 sp__law_pour (waCons (wVar 0) (waCons (w2 kAdd (wVar 2) (wK (.int 1))) waNil))) waNil)))) waNil)))) wsNext)
  (wsSeq (wsSet 6 (wCall 4 sp__law_walked (waCons (wVar 0) (waCons (wVar 1) (waCons (wVar 4) (waCons (w2 kAdd (wK (.int 1)) (wCall 2 sp__law_pour (waCons (wVar 0) (waCons (wK (.int 9)) waNil)))) waNil))))))
  (wsSeq (wsSet 7 (wCall 2 sp__law_pour (waCons (wVar 0) (waCons (w2 kAdd (wBlt kLen (waCons (wVar 6) waNil)) (wK (.int 1))) waNil))))
  (wsSeq (wsIf (wTst (w2 kEq (wVar 5) (wK (.int 2)))) (wsSet 6 (w2 kAdd (wSl (wVar 6) woNone (woSome (wVar 7))) (wSl (wVar 6) (woSome (w2 kAdd (wVar 7) (wK (.int 1)))) woNone))) wsNext)
  (wsSeq (wsIf (wAnd (wTst (w2 kEq (wVar 5) (wK (.int 3)))) (wTst (w2 kLt (wBlt kLen (waCons (wVar 6) waNil)) (wK (.int 12))))) (wsSet 6 (w2 kAdd (w2 kAdd (wSl (wVar 6) woNone (woSome (wVar 7))) (wTup (waCons (wCall 2 sp__law_pour (waCons (wVar 0) (waCons (wVar 3) waNil))) waNil))) (wSl (wVar 6) (woSome (wVar 7)) woNone))) wsNext)
  (wsSeq (wsIf (wAnd (wTst (w2 kEq (wVar 5) (wK (.int 3)))) (wTst (w2 kEq (wCall 2 sp__law_pour (waCons (wVar 0) (waCons (wK (.int 2)) waNil))) (wK (.int 1))))) (wsRet (wTup (waCons (wVar 6) (waCons (wVar 4) waNil)))) wsNext)
  (wsRet (wTup (waCons (wVar 4) (waCons (wVar 6) waNil))))))))))))))
theorem der__law_pair (F : Fc fa fn ex K mg) {sp__law_pour : DSp} {sp__law_row : DSp} {sp__law_walked : DSp} (h__law_pour : DFn P w K mg base 1 (He.ga K "_law_pour") P__law_pour sp__law_pour) (h__law_row : DFn P w K mg base 2 (He.ga K "_law_row") P__law_row sp__law_row) (h__law_walked : DFn P w K mg base 2 (He.ga K "_law_walked") P__law_walked sp__law_walked) (f : Addr) (cdv : Value) (A : Around) (outer : List Env) (s : Shared) (H : Hp) (E : XK) (hr : Room 2 (A.deeper (envOfC "_law_pair" (defScope (top 39)) s.heap.objs.size f cdv))) :
    PSs (cxOf CX0 P w K mg base N__law_pair "_law_pair" (defScope (top 39)) f cdv A outer s H E).nox (defBody (top 39)) (tDs K (w__law_pair sp__law_pour sp__law_row sp__law_walked)) :=
  have nd := sc__law_pair.nd
  (b_cons (s_set (i := 3) nd rfl (Or.inl rfl) (e_len rfl (F.free 63) (a_cons (e_ix ⟨_, hr⟩ (e_var (pv 1)) e_int) a_nil)))
  (b_cons (s_set (i := 4) nd rfl (Or.inl rfl) (e_call (ps := P__law_row) (h__law_row.mono (by decide)) hr rfl (F.glo 51) (F.keep 39 (d := d39)) (a_cons (e_var (pv 0)) (a_cons (e_var (pv 3)) (a_cons (e_call (ps := P__law_pour) (h__law_pour.mono (by decide)) hr rfl (F.glo 38) (F.keep 26 (d := d26)) (a_cons (e_var (pv 0)) (a_cons (e_add (e_var (pv 2)) e_int) a_nil))) a_nil)))))
  (b_cons (s_set (i := 5) nd rfl (Or.inl rfl) (e_call (ps := P__law_pour) (h__law_pour.mono (by decide)) hr rfl (F.glo 38) (F.keep 26 (d := d26)) (a_cons (e_var (pv 0)) (a_cons e_int a_nil))))
  (b_cons (s_if (t_eq ⟨_, hr⟩ (e_var (pv 5)) e_int) (b_one (s_ret (e_tup (a_cons (e_var (pv 4)) (a_cons (e_var (pv 4)) a_nil))))) b_nil)
  (b_cons (s_if (t_eq ⟨_, hr⟩ (e_var (pv 5)) e_int) (b_one (s_ret (e_tup (a_cons (e_var (pv 4)) (a_cons (e_call (ps := P__law_row) (h__law_row.mono (by decide)) hr rfl (F.glo 51) (F.keep 39 (d := d39)) (a_cons (e_var (pv 0)) (a_cons (e_var (pv 3)) (a_cons (e_call (ps := P__law_pour) (h__law_pour.mono (by decide)) hr rfl (F.glo 38) (F.keep 26 (d := d26)) (a_cons (e_var (pv 0)) (a_cons (e_add (e_var (pv 2)) e_int) a_nil))) a_nil)))) a_nil))))) b_nil)
  (b_cons (s_set (i := 6) nd rfl (Or.inl rfl) (e_call (ps := P__law_walked) (h__law_walked.mono (by decide)) hr rfl (F.glo 52) (F.keep 40 (d := d40)) (a_cons (e_var (pv 0)) (a_cons (e_var (pv 1)) (a_cons (e_var (pv 4)) (a_cons (e_add e_int (e_call (ps := P__law_pour) (h__law_pour.mono (by decide)) hr rfl (F.glo 38) (F.keep 26 (d := d26)) (a_cons (e_var (pv 0)) (a_cons e_int a_nil)))) a_nil))))))
  (b_cons (s_set (i := 7) nd rfl (Or.inl rfl) (e_call (ps := P__law_pour) (h__law_pour.mono (by decide)) hr rfl (F.glo 38) (F.keep 26 (d := d26)) (a_cons (e_var (pv 0)) (a_cons (e_add (e_len rfl (F.free 63) (a_cons (e_var (pv 6)) a_nil)) e_int) a_nil))))
  (b_cons (s_if (t_eq ⟨_, hr⟩ (e_var (pv 5)) e_int) (b_one (s_set (i := 6) nd rfl (Or.inl rfl) (e_add (e_sl (e_var (pv 6)) o_none (o_some (e_var (pv 7)))) (e_sl (e_var (pv 6)) (o_some (e_add (e_var (pv 7)) e_int)) o_none)))) b_nil)
  (b_cons (s_if (PW.pt (x_and (t_eq ⟨_, hr⟩ (e_var (pv 5)) e_int) (x_and1 (t_lt (e_len rfl (F.free 63) (a_cons (e_var (pv 6)) a_nil)) e_int)))) (b_one (s_set (i := 6) nd rfl (Or.inl rfl) (e_add (e_add (e_sl (e_var (pv 6)) o_none (o_some (e_var (pv 7)))) (e_tup (a_cons (e_call (ps := P__law_pour) (h__law_pour.mono (by decide)) hr rfl (F.glo 38) (F.keep 26 (d := d26)) (a_cons (e_var (pv 0)) (a_cons (e_var (pv 3)) a_nil))) a_nil))) (e_sl (e_var (pv 6)) (o_some (e_var (pv 7))) o_none)))) b_nil)
  (b_cons (s_if (PW.pt (x_and (t_eq ⟨_, hr⟩ (e_var (pv 5)) e_int) (x_and1 (t_eq ⟨_, hr⟩ (e_call (ps := P__law_pour) (h__law_pour.mono (by decide)) hr rfl (F.glo 38) (F.keep 26 (d := d26)) (a_cons (e_var (pv 0)) (a_cons e_int a_nil))) e_int)))) (b_one (s_ret (e_tup (a_cons (e_var (pv 6)) (a_cons (e_var (pv 4)) a_nil))))) b_nil)
  (b_one (s_ret (e_tup (a_cons (e_var (pv 4)) (a_cons (e_var (pv 6)) a_nil)))))))))))))))
theorem ok__law_pair (F : Fc fa fn ex K mg) {sp__law_pour : DSp} {sp__law_row : DSp} {sp__law_walked : DSp} {sp : DSp} (h__law_pour : DFn P w K mg base 1 (He.ga K "_law_pour") P__law_pour sp__law_pour) (h__law_row : DFn P w K mg base 2 (He.ga K "_law_row") P__law_row sp__law_row) (h__law_walked : DFn P w K mg base 2 (He.ga K "_law_walked") P__law_walked sp__law_walked) (hw : Keeps 3 8 (w__law_pair sp__law_pour sp__law_row sp__law_walked) sp) : DFn P w K mg base (2 + 1) (He.ga K "_law_pair") P__law_pair sp := by
  obtain ⟨fd, Fd⟩ := F.def_ 41 (d := d41) rfl
  refine dfn_of Fd sc__law_pair hw ?_ (der__law_pair F h__law_pour h__law_row h__law_walked _)
  exact by
    intro kV doc pm an cdv ct us ws n h1 h2 h3
    subst h2
    rcases us with _ | ⟨a0, _ | ⟨a1, _ | ⟨a2, _ | ⟨a3, us⟩⟩⟩⟩
    · obtain ⟨_, _, _, rfl⟩ := len3 h3; rfl
    · obtain ⟨_, _, rfl⟩ := len2 h3; rfl
    · obtain ⟨_, rfl⟩ := len1 h3; rfl
    · obtain ⟨rfl⟩ := len0 h3; rfl
    · simp at h1
theorem sc__law_by_hand : FnScope N__law_by_hand P__law_by_hand (defScope (top 40)) := ⟨rfl, rfl, rfl, by decide +kernel, rfl, by decide +kernel, by decide +kernel⟩
def w__law_by_hand (sp_Watch_init : DSp) (sp_Watch_see : DSp) (sp_Watch_strange : DSp) (sp_Watch_explaining : DSp) (sp_Watch_needed : DSp) (sp_Watch_pairs : DSp) (sp_joins : DSp) (sp_is_spare : DSp) (sp__law_pour : DSp) (sp__law_every : DSp) (sp__law_same : DSp) : WS := (wsSeq (wsAsg (w2 kIx (wNew (wLst (waCons (wTup (waCons (wK (.int 0)) (waCons (wK (.int 1)) (waCons (wK (.int 2)) waNil)))) (waCons (wTup (waCons (wK (.int 0)) (waCons (wK (.int 2)) (waCons (wK (.int 1)) waNil)))) (waCons (wTup (waCons (wK (.int 1)) (waCons (wK (.int 0)) (waCons (wK (.int 2)) waNil)))) (waCons (wTup (waCons (wK (.int 1)) (waCons (wK (.int 2)) (waCons (wK (.int 0)) waNil)))) (waCons (wTup (waCons (wK (.int 2)) (waCons (wK (.int 0)) (waCons (wK (.int 1)) waNil)))) (waCons (wTup (waCons (wK (.int 2)) (waCons (wK (.int 1)) (waCons (wK (.int 0)) waNil)))) waNil)))))))) (wCall 2 sp__law_pour (waCons (wVar 0) (waCons (wK (.int 6)) waNil)))) (wgSeq 3 (wgCons (wgName 2) (wgCons (wgName 3) (wgCons (wgName 4) wgNil)))))
  (wsSeq (wsSet 5 (wTup (waCons (wTup (waCons (wK (.str "o")) (waCons (wK (.str "pp")) (waCons (wK (.str "q2")) waNil)))) (waCons (wTup (waCons (wTup (waCons (wK (.str "held")) (waCons (wVar 2) waNil))) (waCons (wTup (waCons (wK (.str "idle")) (waCons (wVar 4) waNil))) waNil))) waNil))))
  (wsSeq (wsSet 6 (wIf (wTru (wVar 1)) (wMake "Watch" 2 sp_Watch_init (waCons (wVar 5) waNil)) (wMake "Watch" 2 sp_Watch_init (waCons (wVar 5) waNil))))
  (wsSeq (wsSet 7 (wNew (wLst (waCons (wVar 5) (waCons (wNew (wLst waNil)) waNil)))))
  (wsSeq (wsIf (wOr (wNot (wTru (wCall 2 sp__law_same (waCons (wMeth "Watch" "explaining" 1 sp_Watch_explaining (wVar 6) waNil) (waCons (wCall 1 sp__law_every (waCons (wK (.int 3)) waNil)) waNil))))) (wOr (wNot (wTru (wCall 2 sp__law_same (waCons (wMeth "Watch" "needed" 1 sp_Watch_needed (wVar 6) waNil) (waCons (wTup waNil) waNil))))) (wNot (wTru (wCall 2 sp__law_same (waCons (wMeth "Watch" "pairs" 1 sp_Watch_pairs (wVar 6) waNil) (waCons (wTup waNil) waNil))))))) (wsRet (wK (.bl false))) wsNext)
  (wsSeq (wsSet 8 (wTup (waCons (wMeth "Watch" "see" 3 sp_Watch_see (wVar 6) (waCons (wTup (waCons (wVar 2) (waCons (wVar 3) waNil))) (waCons (wTup (waCons (wVar 2) (waCons (wVar 2) (waCons (wVar 3) waNil)))) waNil))) (waCons (wMeth "Watch" "see" 3 sp_Watch_see (wVar 6) (waCons (wTup (waCons (wVar 3) waNil)) (waCons (wTup (waCons (wVar 3) waNil)) waNil))) (waCons (wMeth "Watch" "see" 3 sp_Watch_see (wVar 6) (waCons (wTup (waCons (wVar 2) (waCons (wVar 3) waNil))) (waCons (wTup (waCons (wVar 3) (waCons (wVar 4) (waCons (wVar 2) waNil)))) waNil))) (waCons (wMeth "Watch" "see" 3 sp_Watch_see (wVar 6) (waCons (wTup waNil) (waCons (wTup (waCons (wVar 4) (waCons (wVar 4) waNil))) waNil))) waNil))))))
  (wsSeq (wsIf (wOr (wNot (wTru (wCall 2 sp__law_same (waCons (wVar 8) (waCons (wTup (waCons (wK (.str "heard")) (waCons (wK (.str "plain")) (waCons (wK (.str "strange")) (waCons (wK (.str "heard")) waNil))))) waNil))))) (wNot (wTru (wCall 2 sp__law_same (waCons (wMeth "Watch" "strange" 1 sp_Watch_strange (wVar 6) waNil) (waCons (wTup (waCons (wK (.int 2)) waNil)) waNil)))))) (wsRet (wK (.bl false))) wsNext)
  (wsSeq (wsSet 9 (wNew (wLst (waCons (wTup (waCons (wK (.str "idle")) (waCons (wVar 2) waNil))) (waCons (wTup (waCons (wK (.str "idle")) (waCons (wVar 3) waNil))) (waCons (wTup (waCons (wK (.str "loose")) (waCons (wBlt kMin2 (waCons (wVar 2) (waCons (wVar 3) waNil))) (waCons (wBlt kMax2 (waCons (wVar 2) (waCons (wVar 3) waNil))) waNil)))) (waCons (wTup (waCons (wK (.str "same")) (waCons (wK (.int 0)) (waCons (wK (.int 1)) waNil)))) (waCons (wTup (waCons (wK (.str "same")) (waCons (wK (.int 0)) (waCons (wK (.int 2)) waNil)))) (waCons (wTup (waCons (wK (.str "same")) (waCons (wK (.int 1)) (waCons (wK (.int 2)) waNil)))) waNil)))))))))
  (wsSeq (wsIf (wOr (wNot (wTru (wCall 2 sp__law_same (waCons (wMeth "Watch" "explaining" 1 sp_Watch_explaining (wVar 6) waNil) (waCons (wNew (wSortD (wRdL (wVar 9)))) waNil))))) (wNot (wTru (wCall 2 sp__law_same (waCons (wMeth "Watch" "needed" 1 sp_Watch_needed (wVar 6) waNil) (waCons (wTup (waCons (wK (.int 0)) (waCons (wK (.int 1)) waNil))) waNil)))))) (wsRet (wK (.bl false))) wsNext)
  (wsSeq (wsIf (wOr (wNot (wTru (wCall 2 sp__law_same (waCons (wMeth "Watch" "see" 3 sp_Watch_see (wVar 6) (waCons (wTup (waCons (wVar 3) (waCons (wVar 3) waNil))) (waCons (wTup (waCons (wVar 3) waNil)) waNil))) (waCons (wK (.str "strange")) waNil))))) (wNot (wTru (wCall 2 sp__law_same (waCons (wMeth "Watch" "strange" 1 sp_Watch_strange (wVar 6) waNil) (waCons (wTup (waCons (wK (.int 2)) (waCons (wK (.int 4)) waNil))) waNil)))))) (wsRet (wK (.bl false))) wsNext)
  (wsSeq (wsSet 10 (wTup (waCons (w2 kIx (wVar 5) (wK (.int 0))) (waCons (w2 kAdd (w2 kAdd (wTup (waCons (wTup (waCons (wK (.str "held")) (waCons (wVar 4) waNil))) waNil)) (w2 kIx (wVar 5) (wK (.int 1)))) (wTup (waCons (wTup (waCons (wK (.str "same")) (waCons (wBlt kMin2 (waCons (wVar 2) (waCons (wVar 3) waNil))) (waCons (wBlt kMax2 (waCons (wVar 2) (waCons (wVar 3) waNil))) waNil)))) waNil))) waNil))))
  (wsSeq (wsIf (wOr (wTst (w2 kIsNot (wCall 2 sp_is_spare (waCons (wVar 10) (waCons (wK (.int 0)) waNil))) (wK (.bl true)))) (wOr (wTst (w2 kIsNot (wCall 2 sp_is_spare (waCons (wVar 10) (waCons (wK (.int 1)) waNil))) (wK (.bl false)))) (wTst (w2 kIsNot (wCall 2 sp_is_spare (waCons (wVar 10) (waCons (wK (.int 2)) waNil))) (wK (.bl false)))))) (wsRet (wK (.bl false))) wsNext)
  (wsSeq (wsIf (wOr (wTst (w2 kIsNot (wCall 2 sp_joins (waCons (wVar 5) (waCons (wTup (waCons (wK (.str "loose")) (waCons (wBlt kMin2 (waCons (wVar 2) (waCons (wVar 4) waNil))) (waCons (wBlt kMax2 (waCons (wVar 2) (waCons (wVar 4) waNil))) waNil)))) waNil))) (wK (.bl true)))) (wTst (w2 kIsNot (wCall 2 sp_joins (waCons (wVar 5) (waCons (wTup (waCons (wK (.str "held")) (waCons (wVar 3) waNil))) waNil))) (wK (.bl false))))) (wsRet (wK (.bl false))) wsNext)
  (wsSeq (wsIf (wOr (wTst (w2 kIsNot (wCall 2 sp_joins (waCons (wVar 10) (waCons (wTup (waCons (wK (.str "held")) (waCons (wVar 3) waNil))) waNil))) (wK (.bl true)))) (wOr (wTst (w2 kIsNot (wCall 2 sp_joins (waCons (wVar 10) (waCons (wTup (waCons (wK (.str "idle")) (waCons (wVar 2) waNil))) waNil))) (wK (.bl false)))) (wTst (w2 kIsNot (wCall 2 sp_is_spare (waCons (wVar 10) (waCons (wK (.int 3)) waNil))) (wK (.bl false)))))) (wsRet (wK (.bl false))) wsNext)
  (wsRet (wCall 2 sp__law_same (waCons (wMeth "Watch" "explaining" 1 sp_Watch_explaining (wVar 6) waNil) (waCons (wNew (wSortD (wLst (waCons (wTup (waCons (wK (.str "idle")) (waCons (wVar 3) waNil))) (waCons (wTup (waCons (wK (.str "same")) (waCons (wBlt kMin2 (waCons (wVar 2) (waCons (wVar 3) waNil))) (waCons (wBlt kMax2 (waCons (wVar 2) (waCons (wVar 3) waNil))) waNil)))) (waCons (wTup (waCons (wK (.str "same")) (waCons (wBlt kMin2 (waCons (wVar 3) (waCons (wVar 4) waNil))) (waCons (wBlt kMax2 (waCons (wVar 3) (waCons (wVar 4) waNil))) waNil)))) waNil)))))) waNil))))))))))))))))))
theorem der__law_by_hand (F : Fc fa fn ex K mg) {sp_Watch_init : DSp} {sp_Watch_see : DSp} {sp_Watch_strange : DSp} {sp_Watch_explaining : DSp} {sp_Watch_needed : DSp} {sp_Watch_pairs : DSp} {sp_joins : DSp} {sp_is_spare : DSp} {sp__law_pour : DSp} {sp__law_every : DSp} {sp__law_same : DSp} (h_Watch_init : DFn P w K mg base 1 (He.ma K (He.ga K "Watch") "__init__") P_Watch_init sp_Watch_init) (h_Watch_see : DFn P w K mg base 6 (He.ma K (He.ga K "Watch") "see") P_Watch_see sp_Watch_see) (h_Watch_strange : DFn P w K mg base 6 (He.ma K (He.ga K "Watch") "strange") P_Watch_strange sp_Watch_strange) (h_Watch_explaining : DFn P w K mg base 6 (He.ma K (He.ga K "Watch") "explaining") P_Watch_explaining sp_Watch_explaining) (h_Watch_needed : DFn P w K mg base 6 (He.ma K (He.ga K "Watch") "needed") P_Watch_needed sp_Watch_needed) (h_Watch_pairs : DFn P w K mg base 1 (He.ma K (He.ga K "Watch") "pairs") P_Watch_pairs sp_Watch_pairs) (h_joins : DFn P w K mg base 6 (He.ga K "joins") P_joins sp_joins) (h_is_spare : DFn P w K mg base 7 (He.ga K "is_spare") P_is_spare sp_is_spare) (h__law_pour : DFn P w K mg base 1 (He.ga K "_law_pour") P__law_pour sp__law_pour) (h__law_every : DFn P w K mg base 1 (He.ga K "_law_every") P__law_every sp__law_every) (h__law_same : DFn P w K mg base 9 (He.ga K "_law_same") P__law_same sp__law_same) (f : Addr) (cdv : Value) (A : Around) (outer : List Env) (s : Shared) (H : Hp) (E : XK) (hr : Room 9 (A.deeper (envOfC "_law_by_hand" (defScope (top 40)) s.heap.objs.size f cdv))) :
    PSs (cxOf CX0 P w K mg base N__law_by_hand "_law_by_hand" (defScope (top 40)) f cdv A outer s H E).nox (defBody (top 40)) (tDs K (w__law_by_hand sp_Watch_init sp_Watch_see sp_Watch_strange sp_Watch_explaining sp_Watch_needed sp_Watch_pairs sp_joins sp_is_spare sp__law_pour sp__law_every sp__law_same)) :=
  have nd := sc__law_by_hand.nd
  (b_cons (s_asg (e_ix ⟨_, hr⟩ (e_new (e_lst (a_cons (e_tup (a_cons e_int (a_cons e_int (a_cons e_int a_nil)))) (a_cons (e_tup (a_cons e_int (a_cons e_int (a_cons e_int a_nil)))) (a_cons (e_tup (a_cons e_int (a_cons e_int (a_cons e_int a_nil)))) (a_cons (e_tup (a_cons e_int (a_cons e_int (a_cons e_int a_nil)))) (a_cons (e_tup (a_cons e_int (a_cons e_int (a_cons e_int a_nil)))) (a_cons (e_tup (a_cons e_int (a_cons e_int (a_cons e_int a_nil)))) a_nil)))))))) (e_call (ps := P__law_pour) (h__law_pour.mono (by decide)) hr rfl (F.glo 38) (F.keep 26 (d := d26)) (a_cons (e_var (pv 0)) (a_cons e_int a_nil)))) (g_seq rfl (g_cons (g_name (pg_name (i := 2) nd rfl (Or.inl rfl))) (g_cons (g_name (pg_name (i := 3) nd rfl (Or.inl rfl))) (g_cons (g_name (pg_name (i := 4) nd rfl (Or.inl rfl))) (g_nil (is := [])))))))
  (b_cons (s_set (i := 5) nd rfl (Or.inl rfl) (e_tup (a_cons (e_tup (a_cons e_str (a_cons e_str (a_cons e_str a_nil)))) (a_cons (e_tup (a_cons (e_tup (a_cons e_str (a_cons (e_var (pv 2)) a_nil))) (a_cons (e_tup (a_cons e_str (a_cons (e_var (pv 4)) a_nil))) a_nil))) a_nil))))
  (b_cons (s_set (i := 6) nd rfl (Or.inl rfl) (e_if (t_tru (e_var (pv 1))) (e_makeK0 (p0 := "self") (ks := ["setting"]) (F.mkr 27) h_Watch_init (hr.mono (by decide)) rfl (F.glo 25) (k_cons (e_var (pv 5)) k_nil)) (e_make (ps := P_Watch_init) (F.mkr 27) h_Watch_init (hr.mono (by decide)) rfl (F.glo 25) (a_cons (e_var (pv 5)) a_nil))))
  (b_cons (s_set (i := 7) nd rfl (Or.inl rfl) (e_new (e_lst (a_cons (e_var (pv 5)) (a_cons (e_new (e_lst a_nil)) a_nil)))))
  (b_cons (s_if (PW.pt (x_or (t_not (t_tru (e_call (ps := P__law_same) (h__law_same.mono (by decide)) hr rfl (F.glo 44) (F.keep 32 (d := d32)) (a_cons (e_meth0 (ps := P_Watch_explaining) (e_var (pv 6)) (F.cls 26) (F.meth 30) (h_Watch_explaining.mono (by decide)) hr) (a_cons (e_call (ps := P__law_every) (h__law_every.mono (by decide)) hr rfl (F.glo 39) (F.keep 27 (d := d27)) (a_cons e_int a_nil)) a_nil))))) (x_or (t_not (t_tru (e_call (ps := P__law_same) (h__law_same.mono (by decide)) hr rfl (F.glo 44) (F.keep 32 (d := d32)) (a_cons (e_meth0 (ps := P_Watch_needed) (e_var (pv 6)) (F.cls 26) (F.meth 31) (h_Watch_needed.mono (by decide)) hr) (a_cons (e_tup a_nil) a_nil))))) (x_or1 (t_not (t_tru (e_call (ps := P__law_same) (h__law_same.mono (by decide)) hr rfl (F.glo 44) (F.keep 32 (d := d32)) (a_cons (e_meth0 (ps := P_Watch_pairs) (e_var (pv 6)) (F.cls 26) (F.meth 32) (h_Watch_pairs.mono (by decide)) hr) (a_cons (e_tup a_nil) a_nil))))))))) (b_one (s_ret e_bl)) b_nil)
  (b_cons (s_set (i := 8) nd rfl (Or.inl rfl) (e_tup (a_cons (e_meth (ps := P_Watch_see) (e_var (pv 6)) (F.cls 26) (F.meth 28) (h_Watch_see.mono (by decide)) hr (a_cons (e_tup (a_cons (e_var (pv 2)) (a_cons (e_var (pv 3)) a_nil))) (a_cons (e_tup (a_cons (e_var (pv 2)) (a_cons (e_var (pv 2)) (a_cons (e_var (pv 3)) a_nil)))) a_nil))) (a_cons (e_meth (ps := P_Watch_see) (e_var (pv 6)) (F.cls 26) (F.meth 28) (h_Watch_see.mono (by decide)) hr (a_cons (e_tup (a_cons (e_var (pv 3)) a_nil)) (a_cons (e_tup (a_cons (e_var (pv 3)) a_nil)) a_nil))) (a_cons (e_meth (ps := P_Watch_see) (e_var (pv 6)) (F.cls 26) (F.meth 28) (h_Watch_see.mono (by decide)) hr (a_cons (e_tup (a_cons (e_var (pv 2)) (a_cons (e_var (pv 3)) a_nil))) (a_cons (e_tup (a_cons (e_var (pv 3)) (a_cons (e_var (pv 4)) (a_cons (e_var (pv 2)) a_nil)))) a_nil))) (a_cons (e_meth (ps := P_Watch_see) (e_var (pv 6)) (F.cls 26) (F.meth 28) (h_Watch_see.mono (by decide)) hr (a_cons (e_tup a_nil) (a_cons (e_tup (a_cons (e_var (pv 4)) (a_cons (e_var (pv 4)) a_nil))) a_nil))) a_nil))))))
  (b_cons (s_if (PW.pt (x_or (t_not (t_tru (e_call (ps := P__law_same) (h__law_same.mono (by decide)) hr rfl (F.glo 44) (F.keep 32 (d := d32)) (a_cons (e_var (pv 8)) (a_cons (e_tup (a_cons e_str (a_cons e_str (a_cons e_str (a_cons e_str a_nil))))) a_nil))))) (x_or1 (t_not (t_tru (e_call (ps := P__law_same) (h__law_same.mono (by decide)) hr rfl (F.glo 44) (F.keep 32 (d := d32)) (a_cons (e_meth0 (ps := P_Watch_strange) (e_var (pv 6)) (F.cls 26) (F.meth 29) (h_Watch_strange.mono (by decide)) hr) (a_cons (e_tup (a_cons e_int a_nil)) a_nil)))))))) (b_one (s_ret e_bl)) b_nil)
  (b_cons (s_set (i := 9) nd rfl (Or.inl rfl) (e_new (e_lst (a_cons (e_tup (a_cons e_str (a_cons (e_var (pv 2)) a_nil))) (a_cons (e_tup (a_cons e_str (a_cons (e_var (pv 3)) a_nil))) (a_cons (e_tup (a_cons e_str (a_cons (e_min2 rfl rfl (F.free 66) (a_cons (e_var (pv 2)) (a_cons (e_var (pv 3)) a_nil))) (a_cons (e_max2 rfl rfl (F.free 65) (a_cons (e_var (pv 2)) (a_cons (e_var (pv 3)) a_nil))) a_nil)))) (a_cons (e_tup (a_cons e_str (a_cons e_int (a_cons e_int a_nil)))) (a_cons (e_tup (a_cons e_str (a_cons e_int (a_cons e_int a_nil)))) (a_cons (e_tup (a_cons e_str (a_cons e_int (a_cons e_int a_nil)))) a_nil)))))))))
  (b_cons (s_if (PW.pt (x_or (t_not (t_tru (e_call (ps := P__law_same) (h__law_same.mono (by decide)) hr rfl (F.glo 44) (F.keep 32 (d := d32)) (a_cons (e_meth0 (ps := P_Watch_explaining) (e_var (pv 6)) (F.cls 26) (F.meth 30) (h_Watch_explaining.mono (by decide)) hr) (a_cons (e_new (e_sortD ⟨_, hr⟩ rfl (F.free 69) (e_rdL (e_var (pv 9))))) a_nil))))) (x_or1 (t_not (t_tru (e_call (ps := P__law_same) (h__law_same.mono (by decide)) hr rfl (F.glo 44) (F.keep 32 (d := d32)) (a_cons (e_meth0 (ps := P_Watch_needed) (e_var (pv 6)) (F.cls 26) (F.meth 31) (h_Watch_needed.mono (by decide)) hr) (a_cons (e_tup (a_cons e_int (a_cons e_int a_nil))) a_nil)))))))) (b_one (s_ret e_bl)) b_nil)
  (b_cons (s_if (PW.pt (x_or (t_not (t_tru (e_call (ps := P__law_same) (h__law_same.mono (by decide)) hr rfl (F.glo 44) (F.keep 32 (d := d32)) (a_cons (e_meth (ps := P_Watch_see) (e_var (pv 6)) (F.cls 26) (F.meth 28) (h_Watch_see.mono (by decide)) hr (a_cons (e_tup (a_cons (e_var (pv 3)) (a_cons (e_var (pv 3)) a_nil))) (a_cons (e_tup (a_cons (e_var (pv 3)) a_nil)) a_nil))) (a_cons e_str a_nil))))) (x_or1 (t_not (t_tru (e_call (ps := P__law_same) (h__law_same.mono (by decide)) hr rfl (F.glo 44) (F.keep 32 (d := d32)) (a_cons (e_meth0 (ps := P_Watch_strange) (e_var (pv 6)) (F.cls 26) (F.meth 29) (h_Watch_strange.mono (by decide)) hr) (a_cons (e_tup (a_cons e_int (a_cons e_int a_nil))) a_nil)))))))) (b_one (s_ret e_bl)) b_nil)
  (b_cons (s_set (i := 10) nd rfl (Or.inl rfl) (e_tup (a_cons (e_ix ⟨_, hr⟩ (e_var (pv 5)) e_int) (a_cons (e_add (e_add (e_tup (a_cons (e_tup (a_cons e_str (a_cons (e_var (pv 4)) a_nil))) a_nil)) (e_ix ⟨_, hr⟩ (e_var (pv 5)) e_int)) (e_tup (a_cons (e_tup (a_cons e_str (a_cons (e_min2 rfl rfl (F.free 66) (a_cons (e_var (pv 2)) (a_cons (e_var (pv 3)) a_nil))) (a_cons (e_max2 rfl rfl (F.free 65) (a_cons (e_var (pv 2)) (a_cons (e_var (pv 3)) a_nil))) a_nil)))) a_nil))) a_nil))))
  (b_cons (s_if (PW.pt (x_or (t_isNot (e_call (ps := P_is_spare) (h_is_spare.mono (by decide)) hr rfl (F.glo 36) (F.keep 24 (d := d24)) (a_cons (e_var (pv 10)) (a_cons e_int a_nil))) e_bl) (x_or (t_isNot (e_call (ps := P_is_spare) (h_is_spare.mono (by decide)) hr rfl (F.glo 36) (F.keep 24 (d := d24)) (a_cons (e_var (pv 10)) (a_cons e_int a_nil))) e_bl) (x_or1 (t_isNot (e_call (ps := P_is_spare) (h_is_spare.mono (by decide)) hr rfl (F.glo 36) (F.keep 24 (d := d24)) (a_cons (e_var (pv 10)) (a_cons e_int a_nil))) e_bl))))) (b_one (s_ret e_bl)) b_nil)
  (b_cons (s_if (PW.pt (x_or (t_isNot (e_call (ps := P_joins) (h_joins.mono (by decide)) hr rfl (F.glo 35) (F.keep 23 (d := d23)) (a_cons (e_var (pv 5)) (a_cons (e_tup (a_cons e_str (a_cons (e_min2 rfl rfl (F.free 66) (a_cons (e_var (pv 2)) (a_cons (e_var (pv 4)) a_nil))) (a_cons (e_max2 rfl rfl (F.free 65) (a_cons (e_var (pv 2)) (a_cons (e_var (pv 4)) a_nil))) a_nil)))) a_nil))) e_bl) (x_or1 (t_isNot (e_call (ps := P_joins) (h_joins.mono (by decide)) hr rfl (F.glo 35) (F.keep 23 (d := d23)) (a_cons (e_var (pv 5)) (a_cons (e_tup (a_cons e_str (a_cons (e_var (pv 3)) a_nil))) a_nil))) e_bl)))) (b_one (s_ret e_bl)) b_nil)
  (b_cons (s_if (PW.pt (x_or (t_isNot (e_call (ps := P_joins) (h_joins.mono (by decide)) hr rfl (F.glo 35) (F.keep 23 (d := d23)) (a_cons (e_var (pv 10)) (a_cons (e_tup (a_cons e_str (a_cons (e_var (pv 3)) a_nil))) a_nil))) e_bl) (x_or (t_isNot (e_call (ps := P_joins) (h_joins.mono (by decide)) hr rfl (F.glo 35) (F.keep 23 (d := d23)) (a_cons (e_var (pv 10)) (a_cons (e_tup (a_cons e_str (a_cons (e_var (pv 2)) a_nil))) a_nil))) e_bl) (x_or1 (t_isNot (e_call (ps := P_is_spare) (h_is_spare.mono (by decide)) hr rfl (F.glo 36) (F.keep 24 (d := d24)) (a_cons (e_var (pv 10)) (a_cons e_int a_nil))) e_bl))))) (b_one (s_ret e_bl)) b_nil)
  (b_one (s_ret (e_call (ps := P__law_same) (h__law_same.mono (by decide)) hr rfl (F.glo 44) (F.keep 32 (d := d32)) (a_cons (e_meth0 (ps := P_Watch_explaining) (e_var (pv 6)) (F.cls 26) (F.meth 30) (h_Watch_explaining.mono (by decide)) hr) (a_cons (e_new (e_sortD ⟨_, hr⟩ rfl (F.free 69) (e_tl (e_lst (a_cons (e_tup (a_cons e_str (a_cons (e_var (pv 3)) a_nil))) (a_cons (e_tup (a_cons e_str (a_cons (e_min2 rfl rfl (F.free 66) (a_cons (e_var (pv 2)) (a_cons (e_var (pv 3)) a_nil))) (a_cons (e_max2 rfl rfl (F.free 65) (a_cons (e_var (pv 2)) (a_cons (e_var (pv 3)) a_nil))) a_nil)))) (a_cons (e_tup (a_cons e_str (a_cons (e_min2 rfl rfl (F.free 66) (a_cons (e_var (pv 3)) (a_cons (e_var (pv 4)) a_nil))) (a_cons (e_max2 rfl rfl (F.free 65) (a_cons (e_var (pv 3)) (a_cons (e_var (pv 4)) a_nil))) a_nil)))) a_nil))))))) a_nil)))))))))))))))))))
theorem ok__law_by_hand (F : Fc fa fn ex K mg) {sp_Watch_init : DSp} {sp_Watch_see : DSp} {sp_Watch_strange : DSp} {sp_Watch_explaining : DSp} {sp_Watch_needed : DSp} {sp_Watch_pairs : DSp} {sp_joins : DSp} {sp_is_spare : DSp} {sp__law_pour : DSp} {sp__law_every : DSp} {sp__law_same : DSp} {sp : DSp} (h_Watch_init : DFn P w K mg base 1 (He.ma K (He.ga K "Watch") "__init__") P_Watch_init sp_Watch_init) (h_Watch_see : DFn P w K mg base 6 (He.ma K (He.ga K "Watch") "see") P_Watch_see sp_Watch_see) (h_Watch_strange : DFn P w K mg base 6 (He.ma K (He.ga K "Watch") "strange") P_Watch_strange sp_Watch_strange) (h_Watch_explaining : DFn P w K mg base 6 (He.ma K (He.ga K "Watch") "explaining") P_Watch_explaining sp_Watch_explaining) (h_Watch_needed : DFn P w K mg base 6 (He.ma K (He.ga K "Watch") "needed") P_Watch_needed sp_Watch_needed) (h_Watch_pairs : DFn P w K mg base 1 (He.ma K (He.ga K "Watch") "pairs") P_Watch_pairs sp_Watch_pairs) (h_joins : DFn P w K mg base 6 (He.ga K "joins") P_joins sp_joins) (h_is_spare : DFn P w K mg base 7 (He.ga K "is_spare") P_is_spare sp_is_spare) (h__law_pour : DFn P w K mg base 1 (He.ga K "_law_pour") P__law_pour sp__law_pour) (h__law_every : DFn P w K mg base 1 (He.ga K "_law_every") P__law_every sp__law_every) (h__law_same : DFn P w K mg base 9 (He.ga K "_law_same") P__law_same sp__law_same) (hw : Keeps 2 11 (w__law_by_hand sp_Watch_init sp_Watch_see sp_Watch_strange sp_Watch_explaining sp_Watch_needed sp_Watch_pairs sp_joins sp_is_spare sp__law_pour sp__law_every sp__law_same) sp) : DFn P w K mg base (9 + 1) (He.ga K "_law_by_hand") P__law_by_hand sp := by
  obtain ⟨fd, Fd⟩ := F.def_ 42 (d := d42) rfl
  refine dfn_of Fd sc__law_by_hand hw ?_ (der__law_by_hand F h_Watch_init h_Watch_see h_Watch_strange h_Watch_explaining h_Watch_needed h_Watch_pairs h_joins h_is_spare h__law_pour h__law_every h__law_same _)
  exact by
    intro kV doc pm an cdv ct us ws n h1 h2 h3
    subst h2
    rcases us with _ | ⟨a0, _ | ⟨a1, _ | ⟨a2, us⟩⟩⟩
    · obtain ⟨_, _, rfl⟩ := len2 h3; rfl
    · obtain ⟨_, rfl⟩ := len1 h3; rfl
    · obtain ⟨rfl⟩ := len0 h3; rfl
    · simp at h1
theorem sc__law_of_changes : FnScope N__law_of_changes P__law_of_changes (defScope (top 41)) := ⟨rfl, rfl, rfl, by decide +kernel, rfl, by decide +kernel, by decide +kernel⟩
def w__law_of_changes (sp_two_rows : DSp) (sp_Watch_init : DSp) (sp_Watch_see : DSp) (sp_Watch_strange : DSp) (sp_Watch_explaining : DSp) (sp_Watch_needed : DSp) (sp_joins : DSp) (sp_is_spare : DSp) (sp__law_pour : DSp) (sp__law_every : DSp) (sp__law_lots : DSp) (sp__law_alike : DSp) (sp__law_same : DSp) (sp__law_explaining : DSp) (sp__law_needed : DSp) (sp__law_see : DSp) : WS := (wsSeq (wsSet 3 (wMake "Watch" 2 sp_Watch_init (waCons (wVar 1) waNil)))
  (wsSeq (wsSet 4 (wNew (wLst (waCons (wVar 1) (waCons (wNew (wLst waNil)) waNil)))))
  (wsSeq (wsSet 5 (wCall 2 sp__law_lots (waCons (wVar 1) (waCons (w2 kIx (wVar 1) (wK (.int 1))) waNil))))
  (wsSeq (wsFor (wiSeq (w2 kIx (wVar 1) (wK (.int 1)))) (wgName 6) (wsSeq (wsSet 7 (wNew (wLst (waCons (wTup (waCons (w2 kIx (wVar 6) (wK (.int 1))) waNil)) (waCons (wTup (waCons (w2 kIx (wVar 6) (w2 kSub (wBlt kLen (waCons (wVar 6) waNil)) (wK (.int 1)))) waNil)) waNil)))))
      (wsSeq (wsIf (wTst (w2 kEq (w2 kIx (wVar 6) (wK (.int 0))) (wK (.str "held")))) (wsSet 7 (wNew (wLst (waCons (wTup (waCons (w2 kIx (wVar 6) (wK (.int 1))) waNil)) (waCons (wTup (waCons (w2 kIx (wVar 6) (wK (.int 1))) (waCons (w2 kIx (wVar 6) (wK (.int 1))) waNil))) waNil))))) wsNext)
      (wsSeq (wsIf (wTst (w2 kEq (w2 kIx (wVar 6) (wK (.int 0))) (wK (.str "idle")))) (wsSet 7 (wNew (wLst (waCons (wTup waNil) (waCons (wTup (waCons (w2 kIx (wVar 6) (wK (.int 1))) waNil)) waNil))))) wsNext)
      (wsSeq (wsIf (wTst (w2 kEq (w2 kIx (wVar 6) (wK (.int 0))) (wK (.str "loose")))) (wsSet 7 (wNew (wLst (waCons (wTup (waCons (w2 kIx (wVar 6) (wK (.int 1))) (waCons (w2 kIx (wVar 6) (wK (.int 2))) waNil))) (waCons (wTup (waCons (w2 kIx (wVar 6) (wK (.int 2))) (waCons (w2 kIx (wVar 6) (wK (.int 1))) waNil))) waNil))))) wsNext)
      (wsIf (wOr (wNot (wTru (wCall 2 sp__law_same (waCons (wCall 1 sp_two_rows (waCons (wVar 6) waNil)) (waCons (wBlt kTupOf (waCons (wVar 7) waNil)) waNil))))) (wNot (wTru (wCall 4 sp__law_see (waCons (wVar 4) (waCons (wVar 3) (waCons (wBlt kTupOf (waCons (wVar 7) waNil)) (waCons (wVar 2) waNil)))))))) (wsRet (wK (.bl false))) wsNext))))))
  (wsSeq (wsIf (wOr (wNot (wTru (wCall 2 sp__law_same (waCons (wMeth "Watch" "strange" 1 sp_Watch_strange (wVar 3) waNil) (waCons (wTup waNil) waNil))))) (wNot (wTru (wCall 2 sp__law_same (waCons (wMeth "Watch" "explaining" 1 sp_Watch_explaining (wVar 3) waNil) (waCons (wCall 1 sp__law_every (waCons (wBlt kLen (waCons (w2 kIx (wVar 1) (wK (.int 0))) waNil)) waNil)) waNil)))))) (wsRet (wK (.bl false))) wsNext)
  (wsSeq (wsSet 8 (wCall 2 sp__law_needed (waCons (wVar 1) (waCons (w2 kIx (wVar 4) (wK (.int 1))) waNil))))
  (wsSeq (wsFor (wiRng1 (waCons (wBlt kLen (waCons (w2 kIx (wVar 1) (wK (.int 1))) waNil)) waNil)) (wgName 9) (wsSeq (wsSet 10 (wIf (wTru (wVar 2)) (wCallK 0 2 2 sp_is_spare waNil (waCons (wVar 1) (waCons (wVar 9) waNil))) (wCall 2 sp_is_spare (waCons (wVar 1) (waCons (wVar 9) waNil)))))
      (wsIf (wOr (wAnd (wTst (w2 kIn (wVar 9) (wVar 8))) (wTst (w2 kIsNot (wVar 10) (wK (.bl false))))) (wAnd (wTst (w2 kNotIn (wVar 9) (wVar 8))) (wTst (w2 kIsNot (wVar 10) (wK (.bl true)))))) (wsRet (wK (.bl false))) wsNext)))
  (wsSeq (wsIf (wNot (wTru (wCall 2 sp__law_same (waCons (wMeth "Watch" "needed" 1 sp_Watch_needed (wVar 3) waNil) (waCons (wVar 8) waNil))))) (wsRet (wK (.bl false))) wsNext)
  (wsSeq (wsSet 11 (wCall 1 sp__law_every (waCons (wBlt kLen (waCons (w2 kIx (wVar 1) (wK (.int 0))) waNil)) waNil)))
  (wsSeq (wsFor (wiRng1 (waCons (wK (.int 3)) waNil)) (wgName 9) (wsSeq (wsSet 6 (w2 kIx (wVar 11) (wCall 2 sp__law_pour (waCons (wVar 0) (waCons (wBlt kLen (waCons (wVar 11) waNil)) waNil)))))
      (wsSeq (wsSet 7 (wIf (wTst (w2 kEq (w2 kIx (wVar 6) (wK (.int 0))) (wK (.str "held")))) (wTup (waCons (wTup (waCons (w2 kIx (wVar 6) (wK (.int 1))) waNil)) (waCons (wTup (waCons (w2 kIx (wVar 6) (wK (.int 1))) (waCons (w2 kIx (wVar 6) (wK (.int 1))) waNil))) waNil))) (wTup (waCons (wTup waNil) (waCons (wTup (waCons (w2 kIx (wVar 6) (wK (.int 1))) waNil)) waNil)))))
      (wsSeq (wsIf (wTst (w2 kEq (w2 kIx (wVar 6) (wK (.int 0))) (wK (.str "same")))) (wsSet 7 (wTup (waCons (wTup (waCons (w2 kIx (wVar 6) (wK (.int 1))) waNil)) (waCons (wTup (waCons (w2 kIx (wVar 6) (wK (.int 2))) waNil)) waNil)))) wsNext)
      (wsSeq (wsIf (wTst (w2 kEq (w2 kIx (wVar 6) (wK (.int 0))) (wK (.str "loose")))) (wsSet 7 (wTup (waCons (wTup (waCons (w2 kIx (wVar 6) (wK (.int 1))) (waCons (w2 kIx (wVar 6) (wK (.int 2))) waNil))) (waCons (wTup (waCons (w2 kIx (wVar 6) (wK (.int 2))) (waCons (w2 kIx (wVar 6) (wK (.int 1))) waNil))) waNil)))) wsNext)
      (wsSeq (wsSet 12 (wMake "Watch" 2 sp_Watch_init (waCons (wVar 1) waNil)))
      (wsSeq (wsSet 13 (wCall 3 sp__law_alike (waCons (wVar 5) (waCons (w2 kIx (wVar 7) (wK (.int 0))) (waCons (w2 kIx (wVar 7) (wK (.int 1))) waNil)))))
      (wsSeq (wsSet 10 (wIf (wTru (wVar 2)) (wCallK 0 2 2 sp_joins waNil (waCons (wVar 1) (waCons (wVar 6) waNil))) (wCall 2 sp_joins (waCons (wVar 1) (waCons (wVar 6) waNil)))))
      (wsSeq (wsIf (wOr (wAnd (wTru (wVar 13)) (wTst (w2 kIsNot (wVar 10) (wK (.bl true))))) (wAnd (wNot (wTru (wVar 13))) (wTst (w2 kIsNot (wVar 10) (wK (.bl false)))))) (wsRet (wK (.bl false))) wsNext)
      (wsSeq (wsIf (wNot (wTru (wCall 2 sp__law_same (waCons (wMeth "Watch" "see" 3 sp_Watch_see (wVar 12) (waCons (w2 kIx (wVar 7) (wK (.int 0))) (waCons (w2 kIx (wVar 7) (wK (.int 1))) waNil))) (waCons (wIf (wTru (wVar 13)) (wK (.str "heard")) (wK (.str "strange"))) waNil))))) (wsRet (wK (.bl false))) wsNext)
      (wsSeq (wsIf (wOr (wNot (wTru (wCall 2 sp__law_same (waCons (wMeth "Watch" "strange" 1 sp_Watch_strange (wVar 12) waNil) (waCons (wIf (wTru (wVar 13)) (wTup waNil) (wTup (waCons (wK (.int 0)) waNil))) waNil))))) (wTst (w2 kNotIn (wVar 6) (wCall 2 sp__law_explaining (waCons (wVar 1) (waCons (wNew (wLst (waCons (wVar 7) waNil))) waNil)))))) (wsRet (wK (.bl false))) wsNext)
      (wsIf (wNot (wTru (wCall 2 sp__law_same (waCons (wMeth "Watch" "explaining" 1 sp_Watch_explaining (wVar 12) waNil) (waCons (wCall 2 sp__law_explaining (waCons (wVar 1) (waCons (wNew (wLst (waCons (wVar 7) waNil))) waNil))) waNil))))) (wsRet (wK (.bl false))) wsNext))))))))))))
  (wsRet (wCall 2 sp__law_same (waCons (wMeth "Watch" "needed" 1 sp_Watch_needed (wVar 3) waNil) (waCons (wVar 8) waNil))))))))))))))
theorem der__law_of_changes (F : Fc fa fn ex K mg) {sp_two_rows : DSp} {sp_Watch_init : DSp} {sp_Watch_see : DSp} {sp_Watch_strange : DSp} {sp_Watch_explaining : DSp} {sp_Watch_needed : DSp} {sp_joins : DSp} {sp_is_spare : DSp} {sp__law_pour : DSp} {sp__law_every : DSp} {sp__law_lots : DSp} {sp__law_alike : DSp} {sp__law_same : DSp} {sp__law_explaining : DSp} {sp__law_needed : DSp} {sp__law_see : DSp} (h_two_rows : DFn P w K mg base 1 (He.ga K "two_rows") P_two_rows sp_two_rows) (h_Watch_init : DFn P w K mg base 1 (He.ma K (He.ga K "Watch") "__init__") P_Watch_init sp_Watch_init) (h_Watch_see : DFn P w K mg base 6 (He.ma K (He.ga K "Watch") "see") P_Watch_see sp_Watch_see) (h_Watch_strange : DFn P w K mg base 6 (He.ma K (He.ga K "Watch") "strange") P_Watch_strange sp_Watch_strange) (h_Watch_explaining : DFn P w K mg base 6 (He.ma K (He.ga K "Watch") "explaining") P_Watch_explaining sp_Watch_explaining) (h_Watch_needed : DFn P w K mg base 6 (He.ma K (He.ga K "Watch") "needed") P_Watch_needed sp_Watch_needed) (h_joins : DFn P w K mg base 6 (He.ga K "joins") P_joins sp_joins) (h_is_spare : DFn P w K mg base 7 (He.ga K "is_spare") P_is_spare sp_is_spare) (h__law_pour : DFn P w K mg base 1 (He.ga K "_law_pour") P__law_pour sp__law_pour) (h__law_every : DFn P w K mg base 1 (He.ga K "_law_every") P__law_every sp__law_every) (h__law_lots : DFn P w K mg base 1 (He.ga K "_law_lots") P__law_lots sp__law_lots) (h__law_alike : DFn P w K mg base 2 (He.ga K "_law_alike") P__law_alike sp__law_alike) (h__law_same : DFn P w K mg base 9 (He.ga K "_law_same") P__law_same sp__law_same) (h__law_explaining : DFn P w K mg base 4 (He.ga K "_law_explaining") P__law_explaining sp__law_explaining) (h__law_needed : DFn P w K mg base 3 (He.ga K "_law_needed") P__law_needed sp__law_needed) (h__law_see : DFn P w K mg base 10 (He.ga K "_law_see") P__law_see sp__law_see) (f : Addr) (cdv : Value) (A : Around) (outer : List Env) (s : Shared) (H : Hp) (E : XK) (hr : Room 10 (A.deeper (envOfC "_law_of_changes" (defScope (top 41)) s.heap.objs.size f cdv))) :
    PSs (cxOf CX0 P w K mg base N__law_of_changes "_law_of_changes" (defScope (top 41)) f cdv A outer s H E).nox (defBody (top 41)) (tDs K (w__law_of_changes sp_two_rows sp_Watch_init sp_Watch_see sp_Watch_strange sp_Watch_explaining sp_Watch_needed sp_joins sp_is_spare sp__law_pour sp__law_every sp__law_lots sp__law_alike sp__law_same sp__law_explaining sp__law_needed sp__law_see)) :=
  have nd := sc__law_of_changes.nd
  (b_cons (s_set (i := 3) nd rfl (Or.inl rfl) (e_make (ps := P_Watch_init) (F.mkr 27) h_Watch_init (hr.mono (by decide)) rfl (F.glo 25) (a_cons (e_var (pv 1)) a_nil)))
  (b_cons (s_set (i := 4) nd rfl (Or.inl rfl) (e_new (e_lst (a_cons (e_var (pv 1)) (a_cons (e_new (e_lst a_nil)) a_nil)))))
  (b_cons (s_set (i := 5) nd rfl (Or.inl rfl) (e_call (ps := P__law_lots) (h__law_lots.mono (by decide)) hr rfl (F.glo 41) (F.keep 29 (d := d29)) (a_cons (e_var (pv 1)) (a_cons (e_ix ⟨_, hr⟩ (e_var (pv 1)) e_int) a_nil))))
  (b_cons (s_for PassesOwn.never rfl (i_seq (e_ix ⟨_, hr⟩ (e_var (pv 1)) e_int)) (g_name (pg_name (i := 6) nd rfl (Or.inl rfl))) (b_cons (s_set (i := 7) nd rfl (Or.inl rfl) (e_new (e_lst (a_cons (e_tup (a_cons (e_ix ⟨_, hr⟩ (e_var (pv 6)) e_int) a_nil)) (a_cons (e_tup (a_cons (e_ix ⟨_, hr⟩ (e_var (pv 6)) (e_sub (e_len rfl (F.free 63) (a_cons (e_var (pv 6)) a_nil)) e_int)) a_nil)) a_nil)))))
      (b_cons (s_if (t_eq ⟨_, hr⟩ (e_ix ⟨_, hr⟩ (e_var (pv 6)) e_int) e_str) (b_one (s_set (i := 7) nd rfl (Or.inl rfl) (e_new (e_lst (a_cons (e_tup (a_cons (e_ix ⟨_, hr⟩ (e_var (pv 6)) e_int) a_nil)) (a_cons (e_tup (a_cons (e_ix ⟨_, hr⟩ (e_var (pv 6)) e_int) (a_cons (e_ix ⟨_, hr⟩ (e_var (pv 6)) e_int) a_nil))) a_nil)))))) b_nil)
      (b_cons (s_if (t_eq ⟨_, hr⟩ (e_ix ⟨_, hr⟩ (e_var (pv 6)) e_int) e_str) (b_one (s_set (i := 7) nd rfl (Or.inl rfl) (e_new (e_lst (a_cons (e_tup a_nil) (a_cons (e_tup (a_cons (e_ix ⟨_, hr⟩ (e_var (pv 6)) e_int) a_nil)) a_nil)))))) b_nil)
      (b_cons (s_if (t_eq ⟨_, hr⟩ (e_ix ⟨_, hr⟩ (e_var (pv 6)) e_int) e_str) (b_one (s_set (i := 7) nd rfl (Or.inl rfl) (e_new (e_lst (a_cons (e_tup (a_cons (e_ix ⟨_, hr⟩ (e_var (pv 6)) e_int) (a_cons (e_ix ⟨_, hr⟩ (e_var (pv 6)) e_int) a_nil))) (a_cons (e_tup (a_cons (e_ix ⟨_, hr⟩ (e_var (pv 6)) e_int) (a_cons (e_ix ⟨_, hr⟩ (e_var (pv 6)) e_int) a_nil))) a_nil)))))) b_nil)
      (b_one (s_if (PW.pt (x_or (t_not (t_tru (e_call (ps := P__law_same) (h__law_same.mono (by decide)) hr rfl (F.glo 44) (F.keep 32 (d := d32)) (a_cons (e_call (ps := P_two_rows) (h_two_rows.mono (by decide)) hr rfl (F.glo 6) (F.keep 4 (d := d4)) (a_cons (e_var (pv 6)) a_nil)) (a_cons (e_tupOf rfl (F.free 71) (a_cons (e_var (pv 7)) a_nil)) a_nil))))) (x_or1 (t_not (t_tru (e_call (ps := P__law_see) (h__law_see.mono (by decide)) hr rfl (F.glo 48) (F.keep 36 (d := d36)) (a_cons (e_var (pv 4)) (a_cons (e_var (pv 3)) (a_cons (e_tupOf rfl (F.free 71) (a_cons (e_var (pv 7)) a_nil)) (a_cons (e_var (pv 2)) a_nil)))))))))) (b_one (s_ret e_bl)) b_nil)))))))
  (b_cons (s_if (PW.pt (x_or (t_not (t_tru (e_call (ps := P__law_same) (h__law_same.mono (by decide)) hr rfl (F.glo 44) (F.keep 32 (d := d32)) (a_cons (e_meth0 (ps := P_Watch_strange) (e_var (pv 3)) (F.cls 26) (F.meth 29) (h_Watch_strange.mono (by decide)) hr) (a_cons (e_tup a_nil) a_nil))))) (x_or1 (t_not (t_tru (e_call (ps := P__law_same) (h__law_same.mono (by decide)) hr rfl (F.glo 44) (F.keep 32 (d := d32)) (a_cons (e_meth0 (ps := P_Watch_explaining) (e_var (pv 3)) (F.cls 26) (F.meth 30) (h_Watch_explaining.mono (by decide)) hr) (a_cons (e_call (ps := P__law_every) (h__law_every.mono (by decide)) hr rfl (F.glo 39) (F.keep 27 (d := d27)) (a_cons (e_len rfl (F.free 63) (a_cons (e_ix ⟨_, hr⟩ (e_var (pv 1)) e_int) a_nil)) a_nil)) a_nil)))))))) (b_one (s_ret e_bl)) b_nil)
  (b_cons (s_set (i := 8) nd rfl (Or.inl rfl) (e_call (ps := P__law_needed) (h__law_needed.mono (by decide)) hr rfl (F.glo 47) (F.keep 35 (d := d35)) (a_cons (e_var (pv 1)) (a_cons (e_ix ⟨_, hr⟩ (e_var (pv 4)) e_int) a_nil))))
  (b_cons (s_for PassesOwn.never rfl (i_rng1 rfl (F.free 67) (a_cons (e_len rfl (F.free 63) (a_cons (e_ix ⟨_, hr⟩ (e_var (pv 1)) e_int) a_nil)) a_nil)) (g_name (pg_name (i := 9) nd rfl (Or.inl rfl))) (b_cons (s_set (i := 10) nd rfl (Or.inl rfl) (e_if (t_tru (e_var (pv 2))) (e_callK0 (ps := P_is_spare) (h_is_spare.mono (by decide)) hr rfl (F.glo 36) (F.keep 24 (d := d24)) (k_cons (e_var (pv 1)) (k_cons (e_var (pv 9)) k_nil))) (e_call (ps := P_is_spare) (h_is_spare.mono (by decide)) hr rfl (F.glo 36) (F.keep 24 (d := d24)) (a_cons (e_var (pv 1)) (a_cons (e_var (pv 9)) a_nil)))))
      (b_one (s_if (PW.pt (x_or (PW.pt (x_and (t_in ⟨_, hr⟩ (e_var (pv 9)) (e_var (pv 8))) (x_and1 (t_isNot (e_var (pv 10)) e_bl)))) (x_or1 (PW.pt (x_and (t_notIn ⟨_, hr⟩ (e_var (pv 9)) (e_var (pv 8))) (x_and1 (t_isNot (e_var (pv 10)) e_bl))))))) (b_one (s_ret e_bl)) b_nil))))
  (b_cons (s_if (t_not (t_tru (e_call (ps := P__law_same) (h__law_same.mono (by decide)) hr rfl (F.glo 44) (F.keep 32 (d := d32)) (a_cons (e_meth0 (ps := P_Watch_needed) (e_var (pv 3)) (F.cls 26) (F.meth 31) (h_Watch_needed.mono (by decide)) hr) (a_cons (e_var (pv 8)) a_nil))))) (b_one (s_ret e_bl)) b_nil)
  (b_cons (s_set (i := 11) nd rfl (Or.inl rfl) (e_call (ps := P__law_every) (h__law_every.mono (by decide)) hr rfl (F.glo 39) (F.keep 27 (d := d27)) (a_cons (e_len rfl (F.free 63) (a_cons (e_ix ⟨_, hr⟩ (e_var (pv 1)) e_int) a_nil)) a_nil)))
  (b_cons (s_for PassesOwn.never rfl (i_rng1 rfl (F.free 67) (a_cons e_int a_nil)) (g_name (pg_name (i := 9) nd rfl (Or.inl rfl))) (b_cons (s_set (i := 6) nd rfl (Or.inl rfl) (e_ix ⟨_, hr⟩ (e_var (pv 11)) (e_call (ps := P__law_pour) (h__law_pour.mono (by decide)) hr rfl (F.glo 38) (F.keep 26 (d := d26)) (a_cons (e_var (pv 0)) (a_cons (e_len rfl (F.free 63) (a_cons (e_var (pv 11)) a_nil)) a_nil)))))
      (b_cons (s_set (i := 7) nd rfl (Or.inl rfl) (e_if (t_eq ⟨_, hr⟩ (e_ix ⟨_, hr⟩ (e_var (pv 6)) e_int) e_str) (e_tup (a_cons (e_tup (a_cons (e_ix ⟨_, hr⟩ (e_var (pv 6)) e_int) a_nil)) (a_cons (e_tup (a_cons (e_ix ⟨_, hr⟩ (e_var (pv 6)) e_int) (a_cons (e_ix ⟨_, hr⟩ (e_var (pv 6)) e_int) a_nil))) a_nil))) (e_tup (a_cons (e_tup a_nil) (a_cons (e_tup (a_cons (e_ix ⟨_, hr⟩ (e_var (pv 6)) e_int) a_nil)) a_nil)))))
      (b_cons (s_if (t_eq ⟨_, hr⟩ (e_ix ⟨_, hr⟩ (e_var (pv 6)) e_int) e_str) (b_one (s_set (i := 7) nd rfl (Or.inl rfl) (e_tup (a_cons (e_tup (a_cons (e_ix ⟨_, hr⟩ (e_var (pv 6)) e_int) a_nil)) (a_cons (e_tup (a_cons (e_ix ⟨_, hr⟩ (e_var (pv 6)) e_int) a_nil)) a_nil))))) b_nil)
      (b_cons (s_if (t_eq ⟨_, hr⟩ (e_ix ⟨_, hr⟩ (e_var (pv 6)) e_int) e_str) (b_one (s_set (i := 7) nd rfl (Or.inl rfl) (e_tup (a_cons (e_tup (a_cons (e_ix ⟨_, hr⟩ (e_var (pv 6)) e_int) (a_cons (e_ix ⟨_, hr⟩ (e_var (pv 6)) e_int) a_nil))) (a_cons (e_tup (a_cons (e_ix ⟨_, hr⟩ (e_var (pv 6)) e_int) (a_cons (e_ix ⟨_, hr⟩ (e_var (pv 6)) e_int) a_nil))) a_nil))))) b_nil)
      (b_cons (s_set (i := 12) nd rfl (Or.inl rfl) (e_make (ps := P_Watch_init) (F.mkr 27) h_Watch_init (hr.mono (by decide)) rfl (F.glo 25) (a_cons (e_var (pv 1)) a_nil)))
      (b_cons (s_set (i := 13) nd rfl (Or.inl rfl) (e_call (ps := P__law_alike) (h__law_alike.mono (by decide)) hr rfl (F.glo 43) (F.keep 31 (d := d31)) (a_cons (e_var (pv 5)) (a_cons (e_ix ⟨_, hr⟩ (e_var (pv 7)) e_int) (a_cons (e_ix ⟨_, hr⟩ (e_var (pv 7)) e_int) a_nil)))))
      (b_cons (s_set (i := 10) nd rfl (Or.inl rfl) (e_if (t_tru (e_var (pv 2))) (e_callK0 (ps := P_joins) (h_joins.mono (by decide)) hr rfl (F.glo 35) (F.keep 23 (d := d23)) (k_cons (e_var (pv 1)) (k_cons (e_var (pv 6)) k_nil))) (e_call (ps := P_joins) (h_joins.mono (by decide)) hr rfl (F.glo 35) (F.keep 23 (d := d23)) (a_cons (e_var (pv 1)) (a_cons (e_var (pv 6)) a_nil)))))
      (b_cons (s_if (PW.pt (x_or (PW.pt (x_and (t_tru (e_var (pv 13))) (x_and1 (t_isNot (e_var (pv 10)) e_bl)))) (x_or1 (PW.pt (x_and (t_not (t_tru (e_var (pv 13)))) (x_and1 (t_isNot (e_var (pv 10)) e_bl))))))) (b_one (s_ret e_bl)) b_nil)
      (b_cons (s_if (t_not (t_tru (e_call (ps := P__law_same) (h__law_same.mono (by decide)) hr rfl (F.glo 44) (F.keep 32 (d := d32)) (a_cons (e_meth (ps := P_Watch_see) (e_var (pv 12)) (F.cls 26) (F.meth 28) (h_Watch_see.mono (by decide)) hr (a_cons (e_ix ⟨_, hr⟩ (e_var (pv 7)) e_int) (a_cons (e_ix ⟨_, hr⟩ (e_var (pv 7)) e_int) a_nil))) (a_cons (e_if (t_tru (e_var (pv 13))) e_str e_str) a_nil))))) (b_one (s_ret e_bl)) b_nil)
      (b_cons (s_if (PW.pt (x_or (t_not (t_tru (e_call (ps := P__law_same) (h__law_same.mono (by decide)) hr rfl (F.glo 44) (F.keep 32 (d := d32)) (a_cons (e_meth0 (ps := P_Watch_strange) (e_var (pv 12)) (F.cls 26) (F.meth 29) (h_Watch_strange.mono (by decide)) hr) (a_cons (e_if (t_tru (e_var (pv 13))) (e_tup a_nil) (e_tup (a_cons e_int a_nil))) a_nil))))) (x_or1 (t_notIn ⟨_, hr⟩ (e_var (pv 6)) (e_call (ps := P__law_explaining) (h__law_explaining.mono (by decide)) hr rfl (F.glo 46) (F.keep 34 (d := d34)) (a_cons (e_var (pv 1)) (a_cons (e_new (e_lst (a_cons (e_var (pv 7)) a_nil))) a_nil))))))) (b_one (s_ret e_bl)) b_nil)
      (b_one (s_if (t_not (t_tru (e_call (ps := P__law_same) (h__law_same.mono (by decide)) hr rfl (F.glo 44) (F.keep 32 (d := d32)) (a_cons (e_meth0 (ps := P_Watch_explaining) (e_var (pv 12)) (F.cls 26) (F.meth 30) (h_Watch_explaining.mono (by decide)) hr) (a_cons (e_call (ps := P__law_explaining) (h__law_explaining.mono (by decide)) hr rfl (F.glo 46) (F.keep 34 (d := d34)) (a_cons (e_var (pv 1)) (a_cons (e_new (e_lst (a_cons (e_var (pv 7)) a_nil))) a_nil))) a_nil))))) (b_one (s_ret e_bl)) b_nil)))))))))))))
  (b_one (s_ret (e_call (ps := P__law_same) (h__law_same.mono (by decide)) hr rfl (F.glo 44) (F.keep 32 (d := d32)) (a_cons (e_meth0 (ps := P_Watch_needed) (e_var (pv 3)) (F.cls 26) (F.meth 31) (h_Watch_needed.mono (by decide)) hr) (a_cons (e_var (pv 8)) a_nil)))))))))))))))
theorem ok__law_of_changes (F : Fc fa fn ex K mg) {sp_two_rows : DSp} {sp_Watch_init : DSp} {sp_Watch_see : DSp} {sp_Watch_strange : DSp} {sp_Watch_explaining : DSp} {sp_Watch_needed : DSp} {sp_joins : DSp} {sp_is_spare : DSp} {sp__law_pour : DSp} {sp__law_every : DSp} {sp__law_lots : DSp} {sp__law_alike : DSp} {sp__law_same : DSp} {sp__law_explaining : DSp} {sp__law_needed : DSp} {sp__law_see : DSp} {sp : DSp} (h_two_rows : DFn P w K mg base 1 (He.ga K "two_rows") P_two_rows sp_two_rows) (h_Watch_init : DFn P w K mg base 1 (He.ma K (He.ga K "Watch") "__init__") P_Watch_init sp_Watch_init) (h_Watch_see : DFn P w K mg base 6 (He.ma K (He.ga K "Watch") "see") P_Watch_see sp_Watch_see) (h_Watch_strange : DFn P w K mg base 6 (He.ma K (He.ga K "Watch") "strange") P_Watch_strange sp_Watch_strange) (h_Watch_explaining : DFn P w K mg base 6 (He.ma K (He.ga K "Watch") "explaining") P_Watch_explaining sp_Watch_explaining) (h_Watch_needed : DFn P w K mg base 6 (He.ma K (He.ga K "Watch") "needed") P_Watch_needed sp_Watch_needed) (h_joins : DFn P w K mg base 6 (He.ga K "joins") P_joins sp_joins) (h_is_spare : DFn P w K mg base 7 (He.ga K "is_spare") P_is_spare sp_is_spare) (h__law_pour : DFn P w K mg base 1 (He.ga K "_law_pour") P__law_pour sp__law_pour) (h__law_every : DFn P w K mg base 1 (He.ga K "_law_every") P__law_every sp__law_every) (h__law_lots : DFn P w K mg base 1 (He.ga K "_law_lots") P__law_lots sp__law_lots) (h__law_alike : DFn P w K mg base 2 (He.ga K "_law_alike") P__law_alike sp__law_alike) (h__law_same : DFn P w K mg base 9 (He.ga K "_law_same") P__law_same sp__law_same) (h__law_explaining : DFn P w K mg base 4 (He.ga K "_law_explaining") P__law_explaining sp__law_explaining) (h__law_needed : DFn P w K mg base 3 (He.ga K "_law_needed") P__law_needed sp__law_needed) (h__law_see : DFn P w K mg base 10 (He.ga K "_law_see") P__law_see sp__law_see) (hw : Keeps 3 14 (w__law_of_changes sp_two_rows sp_Watch_init sp_Watch_see sp_Watch_strange sp_Watch_explaining sp_Watch_needed sp_joins sp_is_spare sp__law_pour sp__law_every sp__law_lots sp__law_alike sp__law_same sp__law_explaining sp__law_needed sp__law_see) sp) : DFn P w K mg base (10 + 1) (He.ga K "_law_of_changes") P__law_of_changes sp := by
  obtain ⟨fd, Fd⟩ := F.def_ 43 (d := d43) rfl
  refine dfn_of Fd sc__law_of_changes hw ?_ (der__law_of_changes F h_two_rows h_Watch_init h_Watch_see h_Watch_strange h_Watch_explaining h_Watch_needed h_joins h_is_spare h__law_pour h__law_every h__law_lots h__law_alike h__law_same h__law_explaining h__law_needed h__law_see _)
  exact by
    intro kV doc pm an cdv ct us ws n h1 h2 h3
    subst h2
    rcases us with _ | ⟨a0, _ | ⟨a1, _ | ⟨a2, _ | ⟨a3, us⟩⟩⟩⟩
    · obtain ⟨_, _, _, rfl⟩ := len3 h3; rfl
    · obtain ⟨_, _, rfl⟩ := len2 h3; rfl
    · obtain ⟨_, rfl⟩ := len1 h3; rfl
    · obtain ⟨rfl⟩ := len0 h3; rfl
    · simp at h1
theorem sc_law : FnScope N_law P_law (defScope (top 42)) := ⟨rfl, rfl, rfl, by decide +kernel, rfl, by decide +kernel, by decide +kernel⟩
def w_law (sp_Watch_init : DSp) (sp__law_keg : DSp) (sp__law_pour : DSp) (sp__law_setting : DSp) (sp__law_see : DSp) (sp__law_is : DSp) (sp__law_whole : DSp) (sp__law_pair : DSp) (sp__law_by_hand : DSp) (sp__law_of_changes : DSp) : WS := (wsSeq (wsSet 1 (wCall 1 sp__law_keg (waCons (wVar 0) waNil)))
  (wsSeq (wsSet 2 (w2 kEq (wCall 2 sp__law_pour (waCons (wVar 1) (waCons (wK (.int 7)) waNil))) (wK (.int 4))))
  (wsSeq (wsSet 3 (w2 kEq (wCall 2 sp__law_pour (waCons (wVar 1) (waCons (wK (.int 7)) waNil))) (wK (.int 5))))
  (wsSeq (wsSet 4 (w2 kEq (wCall 2 sp__law_pour (waCons (wVar 1) (waCons (wK (.int 2)) waNil))) (wK (.int 1))))
  (wsSeq (wsIf (wNot (wTru (wCall 2 sp__law_by_hand (waCons (wVar 1) (waCons (wVar 4) waNil))))) (wsRet (wK (.bl false))) wsNext)
  (wsSeq (wsSet 5 (wNew (wLst waNil)))
  (wsSeq (wsFor (wiRng1 (waCons (wK (.int 2)) waNil)) (wgName 6) (wsSeq (wsSet 7 (wIf (wAnd (wTru (wVar 2)) (wTst (w2 kEq (wVar 6) (wK (.int 0))))) (wK (.int 5)) (w2 kAdd (wK (.int 2)) (wCall 2 sp__law_pour (waCons (wVar 1) (waCons (wIf (wAnd (wTru (wVar 3)) (wTst (w2 kEq (wVar 6) (wK (.int 1))))) (wK (.int 2)) (wK (.int 3))) waNil))))))
      (wsExpr (wLM kAppend (wVar 5) (waCons (wNew (wLst (waCons (wCall 3 sp__law_setting (waCons (wVar 1) (waCons (wVar 7) (waCons (w2 kIx (wNew (wLst (waCons (wK (.int 1)) (waCons (wK (.int 3)) (waCons (wK (.int 6)) (waCons (wK (.int 12)) waNil)))))) (wIf (wAnd (wTru (wVar 2)) (wTst (w2 kEq (wVar 6) (wK (.int 0))))) (wK (.int 3)) (wCall 2 sp__law_pour (waCons (wVar 1) (waCons (wK (.int 4)) waNil))))) waNil)))) (waCons (wNew (wLst waNil)) waNil)))) waNil)))))
  (wsSeq (wsSet 8 (wNew (wLst (waCons (wMake "Watch" 2 sp_Watch_init (waCons (w2 kIx (w2 kIx (wVar 5) (wK (.int 0))) (wK (.int 0))) waNil)) (waCons (wMake "Watch" 2 sp_Watch_init (waCons (w2 kIx (w2 kIx (wVar 5) (wK (.int 1))) (wK (.int 0))) waNil)) waNil)))))
  (wsSeq (wsFor (wiRng1 (waCons (w2 kAdd (wK (.int 3)) (wCall 2 sp__law_pour (waCons (wVar 1) (waCons (wK (.int 6)) waNil)))) waNil)) (wgName 9) (wsSeq (wsSet 6 (wCall 2 sp__law_pour (waCons (wVar 1) (waCons (wK (.int 2)) waNil))))
      (wsSeq (wsSet 10 (wCall 3 sp__law_pair (waCons (wVar 1) (waCons (w2 kIx (w2 kIx (wVar 5) (wVar 6)) (wK (.int 0))) (waCons (wIf (wAnd (wTru (wVar 2)) (wTst (w2 kLt (wVar 9) (wK (.int 2))))) (wK (.int 12)) (wK (.int 5))) waNil)))))
      (wsSeq (wsIf (wNot (wTru (wCall 4 sp__law_see (waCons (w2 kIx (wVar 5) (wVar 6)) (waCons (w2 kIx (wVar 8) (wVar 6)) (waCons (wVar 10) (waCons (wVar 4) waNil))))))) (wsRet (wK (.bl false))) wsNext)
      (wsIf (wAnd (wTst (w2 kEq (wCall 2 sp__law_pour (waCons (wVar 1) (waCons (wK (.int 3)) waNil))) (wK (.int 0)))) (wNot (wTru (wCall 3 sp__law_is (waCons (w2 kIx (wVar 5) (w2 kSub (wK (.int 1)) (wVar 6))) (waCons (w2 kIx (wVar 8) (w2 kSub (wK (.int 1)) (wVar 6))) (waCons (wCall 2 sp__law_pour (waCons (wVar 1) (waCons (wK (.int 3)) waNil))) waNil))))))) (wsRet (wK (.bl false))) wsNext)))))
  (wsSeq (wsSet 11 (wCall 2 sp__law_pour (waCons (wVar 1) (waCons (wK (.int 4)) waNil))))
  (wsSeq (wsIf (wOr (wNot (wTru (wCall 4 sp__law_whole (waCons (wVar 1) (waCons (w2 kIx (wVar 5) (wK (.int 0))) (waCons (w2 kIx (wVar 8) (wK (.int 0))) (waCons (wVar 11) waNil))))))) (wNot (wTru (wCall 4 sp__law_whole (waCons (wVar 1) (waCons (w2 kIx (wVar 5) (wK (.int 1))) (waCons (w2 kIx (wVar 8) (wK (.int 1))) (waCons (w2 kAdd (wVar 11) (wK (.int 1))) waNil)))))))) (wsRet (wK (.bl false))) wsNext)
  (wsSeq (wsIf (wTru (wVar 3)) (wsSeq (wsFor (wiRng1 (waCons (w2 kSub (wK (.int 30)) (wBlt kLen (waCons (w2 kIx (w2 kIx (wVar 5) (wK (.int 1))) (wK (.int 1))) waNil))) waNil)) (wgName 9) (wsIf (wNot (wTru (wCall 4 sp__law_see (waCons (w2 kIx (wVar 5) (wK (.int 1))) (waCons (w2 kIx (wVar 8) (wK (.int 1))) (waCons (wCall 3 sp__law_pair (waCons (wVar 1) (waCons (w2 kIx (w2 kIx (wVar 5) (wK (.int 1))) (wK (.int 0))) (waCons (wK (.int 3)) waNil)))) (waCons (wVar 4) waNil))))))) (wsRet (wK (.bl false))) wsNext))
      (wsIf (wNot (wTru (wCall 4 sp__law_whole (waCons (wVar 1) (waCons (w2 kIx (wVar 5) (wK (.int 1))) (waCons (w2 kIx (wVar 8) (wK (.int 1))) (waCons (wVar 11) waNil))))))) (wsRet (wK (.bl false))) wsNext)) wsNext)
  (wsSeq (wsSet 10 (wCall 3 sp__law_pair (waCons (wVar 1) (waCons (w2 kIx (w2 kIx (wVar 5) (wK (.int 0))) (wK (.int 0))) (waCons (wK (.int 4)) waNil)))))
  (wsSeq (wsIf (wOr (wNot (wTru (wCall 4 sp__law_see (waCons (w2 kIx (wVar 5) (wK (.int 0))) (waCons (w2 kIx (wVar 8) (wK (.int 0))) (waCons (wVar 10) (waCons (wNotV (wTst (wVar 4))) waNil))))))) (wNot (wTru (wCall 4 sp__law_see (waCons (w2 kIx (wVar 5) (wK (.int 0))) (waCons (w2 kIx (wVar 8) (wK (.int 0))) (waCons (w2 kIx (w2 kIx (w2 kIx (wVar 5) (wK (.int 0))) (wK (.int 1))) (wK (.int 0))) (waCons (wVar 4) waNil)))))))) (wsRet (wK (.bl false))) wsNext)
  (wsSeq (wsIf (wNot (wTru (wCall 3 sp__law_is (waCons (w2 kIx (wVar 5) (wK (.int 0))) (waCons (w2 kIx (wVar 8) (wK (.int 0))) (waCons (wK (.int 2)) waNil)))))) (wsRet (wK (.bl false))) wsNext)
  (wsSeq (wsIf (wOr (wNot (wTru (wCall 3 sp__law_is (waCons (w2 kIx (wVar 5) (wK (.int 0))) (waCons (w2 kIx (wVar 8) (wK (.int 0))) (waCons (wK (.int 0)) waNil)))))) (wOr (wNot (wTru (wCall 3 sp__law_is (waCons (w2 kIx (wVar 5) (wK (.int 1))) (waCons (w2 kIx (wVar 8) (wK (.int 1))) (waCons (wK (.int 1)) waNil)))))) (wNot (wTru (wCall 3 sp__law_is (waCons (w2 kIx (wVar 5) (wK (.int 0))) (waCons (w2 kIx (wVar 8) (wK (.int 0))) (waCons (wK (.int 1)) waNil)))))))) (wsRet (wK (.bl false))) wsNext)
  (wsRet (wAndV (wCall 3 sp__law_of_changes (waCons (wVar 1) (waCons (w2 kIx (w2 kIx (wVar 5) (wK (.int 1))) (wK (.int 0))) (waCons (wVar 4) waNil)))) (wCall 3 sp__law_is (waCons (w2 kIx (wVar 5) (wK (.int 0))) (waCons (w2 kIx (wVar 8) (wK (.int 0))) (waCons (wK (.int 3)) waNil))))))))))))))))))))))
theorem der_law (F : Fc fa fn ex K mg) {sp_Watch_init : DSp} {sp__law_keg : DSp} {sp__law_pour : DSp} {sp__law_setting : DSp} {sp__law_see : DSp} {sp__law_is : DSp} {sp__law_whole : DSp} {sp__law_pair : DSp} {sp__law_by_hand : DSp} {sp__law_of_changes : DSp} (h_Watch_init : DFn P w K mg base 1 (He.ma K (He.ga K "Watch") "__init__") P_Watch_init sp_Watch_init) (h__law_keg : DFn P w K mg base 1 (He.ga K "_law_keg") P__law_keg sp__law_keg) (h__law_pour : DFn P w K mg base 1 (He.ga K "_law_pour") P__law_pour sp__law_pour) (h__law_setting : DFn P w K mg base 2 (He.ga K "_law_setting") P__law_setting sp__law_setting) (h__law_see : DFn P w K mg base 10 (He.ga K "_law_see") P__law_see sp__law_see) (h__law_is : DFn P w K mg base 10 (He.ga K "_law_is") P__law_is sp__law_is) (h__law_whole : DFn P w K mg base 11 (He.ga K "_law_whole") P__law_whole sp__law_whole) (h__law_pair : DFn P w K mg base 3 (He.ga K "_law_pair") P__law_pair sp__law_pair) (h__law_by_hand : DFn P w K mg base 10 (He.ga K "_law_by_hand") P__law_by_hand sp__law_by_hand) (h__law_of_changes : DFn P w K mg base 11 (He.ga K "_law_of_changes") P__law_of_changes sp__law_of_changes) (f : Addr) (cdv : Value) (A : Around) (outer : List Env) (s : Shared) (H : Hp) (E : XK) (hr : Room 11 (A.deeper (envOfC "law" (defScope (top 42)) s.heap.objs.size f cdv))) :
    PSs (cxOf CX0 P w K mg base N_law "law" (defScope (top 42)) f cdv A outer s H E).nox (defBody (top 42)) (tDs K (w_law sp_Watch_init sp__law_keg sp__law_pour sp__law_setting sp__law_see sp__law_is sp__law_whole sp__law_pair sp__law_by_hand sp__law_of_changes)) :=
  have nd := sc_law.nd
  (b_cons (s_set (i := 1) nd rfl (Or.inl rfl) (e_call (ps := P__law_keg) (h__law_keg.mono (by decide)) hr rfl (F.glo 37) (F.keep 25 (d := d25)) (a_cons (e_var (pv 0)) a_nil)))
  (b_cons (s_set (i := 2) nd rfl (Or.inl rfl) (e_eq ⟨_, hr⟩ (e_call (ps := P__law_pour) (h__law_pour.mono (by decide)) hr rfl (F.glo 38) (F.keep 26 (d := d26)) (a_cons (e_var (pv 1)) (a_cons e_int a_nil))) e_int))
  (b_cons (s_set (i := 3) nd rfl (Or.inl rfl) (e_eq ⟨_, hr⟩ (e_call (ps := P__law_pour) (h__law_pour.mono (by decide)) hr rfl (F.glo 38) (F.keep 26 (d := d26)) (a_cons (e_var (pv 1)) (a_cons e_int a_nil))) e_int))
  (b_cons (s_set (i := 4) nd rfl (Or.inl rfl) (e_eq ⟨_, hr⟩ (e_call (ps := P__law_pour) (h__law_pour.mono (by decide)) hr rfl (F.glo 38) (F.keep 26 (d := d26)) (a_cons (e_var (pv 1)) (a_cons e_int a_nil))) e_int))
  (b_cons (s_if (t_not (t_tru (e_call (ps := P__law_by_hand) (h__law_by_hand.mono (by decide)) hr rfl (F.glo 54) (F.keep 42 (d := d42)) (a_cons (e_var (pv 1)) (a_cons (e_var (pv 4)) a_nil))))) (b_one (s_ret e_bl)) b_nil)
  (b_cons (s_set (i := 5) nd rfl (Or.inl rfl) (e_new (e_lst a_nil)))
  (b_cons (s_for PassesOwn.never rfl (i_rng1 rfl (F.free 67) (a_cons e_int a_nil)) (g_name (pg_name (i := 6) nd rfl (Or.inl rfl))) (b_cons (s_set (i := 7) nd rfl (Or.inl rfl) (e_if (PW.pt (x_and (t_tru (e_var (pv 2))) (x_and1 (t_eq ⟨_, hr⟩ (e_var (pv 6)) e_int)))) e_int (e_add e_int (e_call (ps := P__law_pour) (h__law_pour.mono (by decide)) hr rfl (F.glo 38) (F.keep 26 (d := d26)) (a_cons (e_var (pv 1)) (a_cons (e_if (PW.pt (x_and (t_tru (e_var (pv 3))) (x_and1 (t_eq ⟨_, hr⟩ (e_var (pv 6)) e_int)))) e_int e_int) a_nil))))))
      (b_one (s_expr (e_append (e_var (pv 5)) (a_cons (e_new (e_lst (a_cons (e_call (ps := P__law_setting) (h__law_setting.mono (by decide)) hr rfl (F.glo 40) (F.keep 28 (d := d28)) (a_cons (e_var (pv 1)) (a_cons (e_var (pv 7)) (a_cons (e_ix ⟨_, hr⟩ (e_new (e_lst (a_cons e_int (a_cons e_int (a_cons e_int (a_cons e_int a_nil)))))) (e_if (PW.pt (x_and (t_tru (e_var (pv 2))) (x_and1 (t_eq ⟨_, hr⟩ (e_var (pv 6)) e_int)))) e_int (e_call (ps := P__law_pour) (h__law_pour.mono (by decide)) hr rfl (F.glo 38) (F.keep 26 (d := d26)) (a_cons (e_var (pv 1)) (a_cons e_int a_nil))))) a_nil)))) (a_cons (e_new (e_lst a_nil)) a_nil)))) a_nil))))))
  (b_cons (s_set (i := 8) nd rfl (Or.inl rfl) (e_new (e_lst (a_cons (e_make (ps := P_Watch_init) (F.mkr 27) h_Watch_init (hr.mono (by decide)) rfl (F.glo 25) (a_cons (e_ix ⟨_, hr⟩ (e_ix ⟨_, hr⟩ (e_var (pv 5)) e_int) e_int) a_nil)) (a_cons (e_makeK0 (p0 := "self") (ks := ["setting"]) (F.mkr 27) h_Watch_init (hr.mono (by decide)) rfl (F.glo 25) (k_cons (e_ix ⟨_, hr⟩ (e_ix ⟨_, hr⟩ (e_var (pv 5)) e_int) e_int) k_nil)) a_nil)))))
  (b_cons (s_for PassesOwn.never rfl (i_rng1 rfl (F.free 67) (a_cons (e_add e_int (e_call (ps := P__law_pour) (h__law_pour.mono (by decide)) hr rfl (F.glo 38) (F.keep 26 (d := d26)) (a_cons (e_var (pv 1)) (a_cons e_int a_nil)))) a_nil)) (g_name (pg_name (i := 9) nd rfl (Or.inl rfl))) (b_cons (s_set (i := 6) nd rfl (Or.inl rfl) (e_call (ps := P__law_pour) (h__law_pour.mono (by decide)) hr rfl (F.glo 38) (F.keep 26 (d := d26)) (a_cons (e_var (pv 1)) (a_cons e_int a_nil))))
      (b_cons (s_set (i := 10) nd rfl (Or.inl rfl) (e_call (ps := P__law_pair) (h__law_pair.mono (by decide)) hr rfl (F.glo 53) (F.keep 41 (d := d41)) (a_cons (e_var (pv 1)) (a_cons (e_ix ⟨_, hr⟩ (e_ix ⟨_, hr⟩ (e_var (pv 5)) (e_var (pv 6))) e_int) (a_cons (e_if (PW.pt (x_and (t_tru (e_var (pv 2))) (x_and1 (t_lt (e_var (pv 9)) e_int)))) e_int e_int) a_nil)))))
      (b_cons (s_if (t_not (t_tru (e_call (ps := P__law_see) (h__law_see.mono (by decide)) hr rfl (F.glo 48) (F.keep 36 (d := d36)) (a_cons (e_ix ⟨_, hr⟩ (e_var (pv 5)) (e_var (pv 6))) (a_cons (e_ix ⟨_, hr⟩ (e_var (pv 8)) (e_var (pv 6))) (a_cons (e_var (pv 10)) (a_cons (e_var (pv 4)) a_nil))))))) (b_one (s_ret e_bl)) b_nil)
      (b_one (s_if (PW.pt (x_and (t_eq ⟨_, hr⟩ (e_call (ps := P__law_pour) (h__law_pour.mono (by decide)) hr rfl (F.glo 38) (F.keep 26 (d := d26)) (a_cons (e_var (pv 1)) (a_cons e_int a_nil))) e_int) (x_and1 (t_not (t_tru (e_call (ps := P__law_is) (h__law_is.mono (by decide)) hr rfl (F.glo 49) (F.keep 37 (d := d37)) (a_cons (e_ix ⟨_, hr⟩ (e_var (pv 5)) (e_sub e_int (e_var (pv 6)))) (a_cons (e_ix ⟨_, hr⟩ (e_var (pv 8)) (e_sub e_int (e_var (pv 6)))) (a_cons (e_call (ps := P__law_pour) (h__law_pour.mono (by decide)) hr rfl (F.glo 38) (F.keep 26 (d := d26)) (a_cons (e_var (pv 1)) (a_cons e_int a_nil))) a_nil))))))))) (b_one (s_ret e_bl)) b_nil))))))
  (b_cons (s_set (i := 11) nd rfl (Or.inl rfl) (e_call (ps := P__law_pour) (h__law_pour.mono (by decide)) hr rfl (F.glo 38) (F.keep 26 (d := d26)) (a_cons (e_var (pv 1)) (a_cons e_int a_nil))))
  (b_cons (s_if (PW.pt (x_or (t_not (t_tru (e_call (ps := P__law_whole) (h__law_whole.mono (by decide)) hr rfl (F.glo 50) (F.keep 38 (d := d38)) (a_cons (e_var (pv 1)) (a_cons (e_ix ⟨_, hr⟩ (e_var (pv 5)) e_int) (a_cons (e_ix ⟨_, hr⟩ (e_var (pv 8)) e_int) (a_cons (e_var (pv 11)) a_nil))))))) (x_or1 (t_not (t_tru (e_call (ps := P__law_whole) (h__law_whole.mono (by decide)) hr rfl (F.glo 50) (F.keep 38 (d := d38)) (a_cons (e_var (pv 1)) (a_cons (e_ix ⟨_, hr⟩ (e_var (pv 5)) e_int) (a_cons (e_ix ⟨_, hr⟩ (e_var (pv 8)) e_int) (a_cons (e_add (e_var (pv 11)) e_int) a_nil)))))))))) (b_one (s_ret e_bl)) b_nil)
  (b_cons (s_if (t_tru (e_var (pv 3))) (b_cons (s_for PassesOwn.never rfl (i_rng1 rfl (F.free 67) (a_cons (e_sub e_int (e_len rfl (F.free 63) (a_cons (e_ix ⟨_, hr⟩ (e_ix ⟨_, hr⟩ (e_var (pv 5)) e_int) e_int) a_nil))) a_nil)) (g_name (pg_name (i := 9) nd rfl (Or.inl rfl))) (b_one (s_if (t_not (t_tru (e_call (ps := P__law_see) (h__law_see.mono (by decide)) hr rfl (F.glo 48) (F.keep 36 (d := d36)) (a_cons (e_ix ⟨_, hr⟩ (e_var (pv 5)) e_int) (a_cons (e_ix ⟨_, hr⟩ (e_var (pv 8)) e_int) (a_cons (e_call (ps := P__law_pair) (h__law_pair.mono (by decide)) hr rfl (F.glo 53) (F.keep 41 (d := d41)) (a_cons (e_var (pv 1)) (a_cons (e_ix ⟨_, hr⟩ (e_ix ⟨_, hr⟩ (e_var (pv 5)) e_int) e_int) (a_cons e_int a_nil)))) (a_cons (e_var (pv 4)) a_nil))))))) (b_one (s_ret e_bl)) b_nil)))
      (b_one (s_if (t_not (t_tru (e_call (ps := P__law_whole) (h__law_whole.mono (by decide)) hr rfl (F.glo 50) (F.keep 38 (d := d38)) (a_cons (e_var (pv 1)) (a_cons (e_ix ⟨_, hr⟩ (e_var (pv 5)) e_int) (a_cons (e_ix ⟨_, hr⟩ (e_var (pv 8)) e_int) (a_cons (e_var (pv 11)) a_nil))))))) (b_one (s_ret e_bl)) b_nil))) b_nil)
  (b_cons (s_set (i := 10) nd rfl (Or.inl rfl) (e_call (ps := P__law_pair) (h__law_pair.mono (by decide)) hr rfl (F.glo 53) (F.keep 41 (d := d41)) (a_cons (e_var (pv 1)) (a_cons (e_ix ⟨_, hr⟩ (e_ix ⟨_, hr⟩ (e_var (pv 5)) e_int) e_int) (a_cons e_int a_nil)))))
  (b_cons (s_if (PW.pt (x_or (t_not (t_tru (e_call (ps := P__law_see) (h__law_see.mono (by decide)) hr rfl (F.glo 48) (F.keep 36 (d := d36)) (a_cons (e_ix ⟨_, hr⟩ (e_var (pv 5)) e_int) (a_cons (e_ix ⟨_, hr⟩ (e_var (pv 8)) e_int) (a_cons (e_var (pv 10)) (a_cons (e_not (e_var (pv 4))) a_nil))))))) (x_or1 (t_not (t_tru (e_call (ps := P__law_see) (h__law_see.mono (by decide)) hr rfl (F.glo 48) (F.keep 36 (d := d36)) (a_cons (e_ix ⟨_, hr⟩ (e_var (pv 5)) e_int) (a_cons (e_ix ⟨_, hr⟩ (e_var (pv 8)) e_int) (a_cons (e_ix ⟨_, hr⟩ (e_ix ⟨_, hr⟩ (e_ix ⟨_, hr⟩ (e_var (pv 5)) e_int) e_int) e_int) (a_cons (e_var (pv 4)) a_nil)))))))))) (b_one (s_ret e_bl)) b_nil)
  (b_cons (s_if (t_not (t_tru (e_call (ps := P__law_is) (h__law_is.mono (by decide)) hr rfl (F.glo 49) (F.keep 37 (d := d37)) (a_cons (e_ix ⟨_, hr⟩ (e_var (pv 5)) e_int) (a_cons (e_ix ⟨_, hr⟩ (e_var (pv 8)) e_int) (a_cons e_int a_nil)))))) (b_one (s_ret e_bl)) b_nil)
  (b_cons (s_if (PW.pt (x_or (t_not (t_tru (e_call (ps := P__law_is) (h__law_is.mono (by decide)) hr rfl (F.glo 49) (F.keep 37 (d := d37)) (a_cons (e_ix ⟨_, hr⟩ (e_var (pv 5)) e_int) (a_cons (e_ix ⟨_, hr⟩ (e_var (pv 8)) e_int) (a_cons e_int a_nil)))))) (x_or (t_not (t_tru (e_call (ps := P__law_is) (h__law_is.mono (by decide)) hr rfl (F.glo 49) (F.keep 37 (d := d37)) (a_cons (e_ix ⟨_, hr⟩ (e_var (pv 5)) e_int) (a_cons (e_ix ⟨_, hr⟩ (e_var (pv 8)) e_int) (a_cons e_int a_nil)))))) (x_or1 (t_not (t_tru (e_call (ps := P__law_is) (h__law_is.mono (by decide)) hr rfl (F.glo 49) (F.keep 37 (d := d37)) (a_cons (e_ix ⟨_, hr⟩ (e_var (pv 5)) e_int) (a_cons (e_ix ⟨_, hr⟩ (e_var (pv 8)) e_int) (a_cons e_int a_nil)))))))))) (b_one (s_ret e_bl)) b_nil)
  (b_one (s_ret (e_and (e_call (ps := P__law_of_changes) (h__law_of_changes.mono (by decide)) hr rfl (F.glo 55) (F.keep 43 (d := d43)) (a_cons (e_var (pv 1)) (a_cons (e_ix ⟨_, hr⟩ (e_ix ⟨_, hr⟩ (e_var (pv 5)) e_int) e_int) (a_cons (e_var (pv 4)) a_nil)))) (e_one (e_call (ps := P__law_is) (h__law_is.mono (by decide)) hr rfl (F.glo 49) (F.keep 37 (d := d37)) (a_cons (e_ix ⟨_, hr⟩ (e_var (pv 5)) e_int) (a_cons (e_ix ⟨_, hr⟩ (e_var (pv 8)) e_int) (a_cons e_int a_nil))))))))))))))))))))))))
theorem ok_law (F : Fc fa fn ex K mg) {sp_Watch_init : DSp} {sp__law_keg : DSp} {sp__law_pour : DSp} {sp__law_setting : DSp} {sp__law_see : DSp} {sp__law_is : DSp} {sp__law_whole : DSp} {sp__law_pair : DSp} {sp__law_by_hand : DSp} {sp__law_of_changes : DSp} {sp : DSp} (h_Watch_init : DFn P w K mg base 1 (He.ma K (He.ga K "Watch") "__init__") P_Watch_init sp_Watch_init) (h__law_keg : DFn P w K mg base 1 (He.ga K "_law_keg") P__law_keg sp__law_keg) (h__law_pour : DFn P w K mg base 1 (He.ga K "_law_pour") P__law_pour sp__law_pour) (h__law_setting : DFn P w K mg base 2 (He.ga K "_law_setting") P__law_setting sp__law_setting) (h__law_see : DFn P w K mg base 10 (He.ga K "_law_see") P__law_see sp__law_see) (h__law_is : DFn P w K mg base 10 (He.ga K "_law_is") P__law_is sp__law_is) (h__law_whole : DFn P w K mg base 11 (He.ga K "_law_whole") P__law_whole sp__law_whole) (h__law_pair : DFn P w K mg base 3 (He.ga K "_law_pair") P__law_pair sp__law_pair) (h__law_by_hand : DFn P w K mg base 10 (He.ga K "_law_by_hand") P__law_by_hand sp__law_by_hand) (h__law_of_changes : DFn P w K mg base 11 (He.ga K "_law_of_changes") P__law_of_changes sp__law_of_changes) (hw : Keeps 1 12 (w_law sp_Watch_init sp__law_keg sp__law_pour sp__law_setting sp__law_see sp__law_is sp__law_whole sp__law_pair sp__law_by_hand sp__law_of_changes) sp) : DFn P w K mg base (11 + 1) (He.ga K "law") P_law sp := by
  obtain ⟨fd, Fd⟩ := F.def_ 44 (d := d44) rfl
  refine dfn_of Fd sc_law hw ?_ (der_law F h_Watch_init h__law_keg h__law_pour h__law_setting h__law_see h__law_is h__law_whole h__law_pair h__law_by_hand h__law_of_changes _)
  exact by
    intro kV doc pm an cdv ct us ws n h1 h2 h3
    subst h2
    rcases us with _ | ⟨a0, _ | ⟨a1, us⟩⟩
    · obtain ⟨_, rfl⟩ := len1 h3; rfl
    · obtain ⟨rfl⟩ := len0 h3; rfl
    · simp at h1
end
end Hd
set_option Elab.async false
set_option linter.all false
set_option maxRecDepth 100000
set_option maxHeartbeats 2000000
/-! K1: settings, changes, the hearing. -/
namespace Hd
open PySem PySem.Spec PyProof.Rows L2 Vd

theorem okDs_iff {n : Nat} : ∀ {ds : List D}, okDs n ds = true ↔ ∀ d ∈ ds, okD n d = true
  | [] => by simp [okDs]
  | d :: ds => by
    rw [okDs, Bool.and_eq_true, okDs_iff]
    simp
@[simp] theorem cut2 {xs : List D} : Vd.cutD xs none (some 2) = xs.take 2 := cut_to (k := 2)
/-- the four kinds of change -/
inductive Ch where
  | held (s : Nat) | idle (s : Nat) | loose (s t : Nat) | same (s t : Nat)
  deriving DecidableEq
def Ch.kind : Ch → Str
  | .held _ => "held"
  | .idle _ => "idle"
  | .loose _ _ => "loose"
  | .same _ _ => "same"
def Ch.d : Ch → D
  | .held s => .tup [.str "held", .int s]
  | .idle s => .tup [.str "idle", .int s]
  | .loose s t => .tup [.str "loose", .int s, .int t]
  | .same s t => .tup [.str "same", .int s, .int t]
def dInts (r : List Nat) : List D := r.map fun (n : Nat) => .int n
def dRow (r : List Nat) : D := .tup (dInts r)
def dChs (cs : List Ch) : D := .tup (cs.map Ch.d)
def dSet (ns : List Str) (cs : List Ch) : D := .tup [.tup (ns.map .str), dChs cs]
@[simp] theorem ok_ch {n : Nat} {c : Ch} : okD n c.d = true := by cases c <;> simp [Ch.d, okD, okDs]
@[simp] theorem ok_ints {n : Nat} {r : List Nat} : okDs n (dInts r) = true := by
  rw [okDs_iff]; intro d hd
  obtain ⟨x, _, rfl⟩ := List.mem_map.mp hd
  simp [okD]
@[simp] theorem ok_row {n : Nat} {r : List Nat} : okD n (dRow r) = true := by simp [dRow, okD]
@[simp] theorem ok_chs' {n : Nat} {cs : List Ch} : okDs n (cs.map Ch.d) = true := by
  rw [okDs_iff]; intro d hd
  obtain ⟨x, _, rfl⟩ := List.mem_map.mp hd
  simp
@[simp] theorem ok_chs {n : Nat} {cs : List Ch} : okD n (dChs cs) = true := by simp [dChs, okD]
@[simp] theorem ok_set {n : Nat} {ns : List Str} {cs : List Ch} : okD n (dSet ns cs) = true := by
  have h : okDs n (ns.map D.str) = true := by
    rw [okDs_iff]; intro d hd
    obtain ⟨x, _, rfl⟩ := List.mem_map.mp hd
    simp [okD]
  simp [dSet, okD, okDs, h]
@[simp] theorem okD_int {n : Nat} {i : Int} : okD n (.int i) = true := by simp [okD]
@[simp] theorem okD_str {n : Nat} {i : Str} : okD n (.str i) = true := by simp [okD]
@[simp] theorem okD_bl {n : Nat} {i : Bool} : okD n (.bl i) = true := by simp [okD]
@[simp] theorem okD_non {n : Nat} : okD n .non = true := by simp [okD]
@[simp] theorem okD_ob {n k : Nat} : okD n (.ob k) = decide (k < n) := by simp [okD]
@[simp] theorem okD_tup {n : Nat} {ds : List D} : okD n (.tup ds) = okDs n ds := by simp [okD]

def spChangesOf : DSp := fun ds st P => ∃ ns cs kind, ds = [dSet ns cs, .str kind] ∧ cs.length ≤ 1000 ∧ P (.tup ((cs.filter fun c => decide (c.kind = kind)).map Ch.d)) st
theorem keeps_changesOf : Keeps 2 3 w_changes_of spChangesOf := by
  intro ds st P hl h1 h2 ⟨ns, cs, kind, e, hn, p⟩
  subst e
  simp [w_changes_of, startE, dSet, dChs, wiSeq, wipeE]
  refine comp_filter (fun d => match d with | .tup (.str k :: _) => decide (k = kind) | _ => false) trivial (by simp; omega) (fun d hd X Y q => ?_) ?_
  · obtain ⟨c, hc, rfl⟩ := List.mem_map.mp hd
    cases c <;> simpa [Ch.d] using q
  · have e : (cs.map Ch.d).filter (fun d => match d with | .tup (.str k :: _) => decide (k = kind) | _ => false) = (cs.filter fun c => decide (c.kind = kind)).map Ch.d := by
      rw [List.filter_map]
      congr 1
      congr 1
      funext c
      cases c <;> rfl
    rw [e]
    exact gc_same rfl h2 (by simp) p
def Ch.rows : Ch → List Nat × List Nat
  | .held s => ([s], [s, s])
  | .idle s => ([], [s])
  | .loose s t => ([s, t], [t, s])
  | .same s t => ([s], [t])
def spTwoRows : DSp := fun ds st P => ∃ c : Ch, ds = [c.d] ∧ P (.tup [dRow c.rows.1, dRow c.rows.2]) st
theorem keeps_twoRows : Keeps 1 3 w_two_rows spTwoRows := by
  intro ds st P hl h1 h2 ⟨c, e, p⟩
  subst e
  cases c <;> simp [w_two_rows, startE, Ch.d, cut2, seqAt] <;> exact gc_same rfl h2 (by simp [okDs]) p
def spWithout : DSp := fun ds st P => ∃ ns cs, ∃ k : Nat, ds = [dSet ns cs, .int k] ∧ k < cs.length ∧ cs.length ≤ 1000 ∧ P (dSet ns (cs.eraseIdx k)) st
theorem keeps_without : Keeps 2 2 w_without_change spWithout := by
  intro ds st P hl h1 h2 ⟨ns, cs, k, e, hk, hc, p⟩
  subst e
  simp [w_without_change, startE, dSet, dChs, cut_to, cut_from1]
  refine ⟨by omega, ?_⟩
  have e : D.tup [.tup (ns.map D.str), .tup (List.take k (cs.map Ch.d) ++ List.drop (k + 1) (cs.map Ch.d))] = dSet ns (cs.eraseIdx k) := by
    rw [List.eraseIdx_eq_take_drop_succ]
    simp [dSet, dChs]
  rw [e]
  exact gc_same rfl h2 (by simp) p

/-! ### the hearing -/
structure Hear where
  first : List Nat
  idl : List Bool
  hld : List Bool
  prs : List (List Key × D)
def Hear.lo (W : Hear) (a b : Nat) : Bool := (dGet W.prs [.inl (a : Int), .inl (b : Int)]).isSome
def HearAt (st : Sto) (h : Nat) (W : Hear) : Prop := ∃ i j k l, st[h]? = some (.ins "Hearing" [("first", .ob i), ("idle", .ob j), ("held", .ob k), ("pairs", .ob l)]) ∧ st[i]? = some (.lst (dInts W.first)) ∧ st[j]? = some (.lst (W.idl.map .bl)) ∧ st[k]? = some (.lst (W.hld.map .bl)) ∧ st[l]? = some (.dT W.prs)
theorem HearAt.app {st g : Sto} {h : Nat} {W : Hear} (a : HearAt st h W) : HearAt (st ++ g) h W := by
  obtain ⟨i, j, k, l, h0, h1, h2, h3, h4⟩ := a
  exact ⟨i, j, k, l, get_app h0, get_app h1, get_app h2, get_app h3, get_app h4⟩
theorem at_ints {r : List Nat} {k x : Nat} (h : r[k]? = some x) : atD (dInts r) (k : Int) = some (.int x) := atD_nat (by simp [dInts, h])
theorem HearAt.ins {st : Sto} {h : Nat} {W : Hear} (a : HearAt st h W) : insOf st "Hearing" "is_loose" (.ob h) := by
  obtain ⟨i, j, k, l, h0, _⟩ := a
  exact ⟨_, h0, by simp [-List.lookup_eq_none_iff]⟩
def spIsLoose : DSp := fun ds st P => ∃ (h a b fa fb : Nat) (W : Hear), ds = [.ob h, .int a, .int b] ∧ HearAt st h W ∧ W.first[a]? = some fa ∧ W.first[b]? = some fb ∧ P (.bl (W.lo fa fb)) st
theorem keeps_isLoose : Keeps 3 3 w_Hearing_is_loose spIsLoose := by
  intro ds st P hl h1 h2 ⟨h, a, b, fa, fb, W, e, ⟨i, j, k, l, h0, h3, h4, h5, h6⟩, ha, hb, p⟩
  subst e
  simp [w_Hearing_is_loose, startE, fldAt, h0, kIx_lst h3, at_ints ha, at_ints hb, kInF, h6, lookD]
  exact gc_same rfl h2 (by simp) p

/-! ### what is heard -/
def scan (W : Hear) (s : Nat) : List Nat → Bool
  | [] => false
  | o :: r => if o = s then true else if W.lo o s = true then scan W s r else false
/-- all of l are lots -/
def Lots (W : Hear) (l : List Nat) : Prop := ∀ x ∈ l, W.first[x]? = some x
def spIsSpared : DSp := fun ds st P => ∃ (h k s : Nat) (W : Hear) (l : List Nat), ds = [.ob h, .ob k, .int s] ∧ HearAt st h W ∧ st[k]? = some (.lst (dInts l)) ∧ Lots W l ∧ W.first[s]? = some s ∧ P (.bl (scan W s l.reverse)) st
theorem keeps_isSpared : Keeps 3 4 (w_is_spared spIsLoose) spIsSpared := by
  intro ds st P hl h1 h2 ⟨h, k, s, W, l, e, hh, hk, hls, hs, p⟩
  subst e
  simp [w_is_spared, startE, wiRev, hk]
  have hrev : (dInts l).reverse = dInts l.reverse := by simp [dInts]
  rw [hrev]
  have hls' : Lots W l.reverse := fun x hx => hls x (List.mem_reverse.mp hx)
  generalize l.reverse = r at p hls'
  refine loop_ind (fun ds env st' => st' = st ∧ (∃ o, env = [some (.ob h), some (.ob k), some (.int s), o]) ∧ ∃ r : List Nat, ds = dInts r ∧ Lots W r ∧ P (.bl (scan W s r)) st) (fun env st' ⟨e1, ⟨o, e2⟩, r, e3, _, p⟩ => ?_) (fun d ds env st' ⟨e1, ⟨o, e2⟩, r, e3, hr, p⟩ ih => ?_) _ _ _ ⟨rfl, ⟨_, rfl⟩, r, rfl, hls', p⟩
  · subst e1 e2
    cases r with
    | nil =>
      simp [hk]
      exact gc_same rfl h2 (by simp) p
    | cons _ _ => simp [dInts] at e3
  · subst e1 e2
    cases r with
    | nil => simp [dInts] at e3
    | cons x r =>
      simp only [dInts, List.map_cons, List.cons.injEq] at e3
      obtain ⟨e4, e5⟩ := e3
      subst e4
      have hx := hr x List.mem_cons_self
      have hr' : Lots W r := fun y hy => hr y (List.mem_cons_of_mem _ hy)
      obtain ⟨i, j, kk, ll, h0, h3, h4, h5, h6⟩ := id hh
      simp [hk]
      unfold scan at p
      split
      · rename_i c
        rw [if_pos (by omega)] at p
        exact gc_same rfl h2 (by simp) p
      · rename_i c
        rw [if_neg (by omega)] at p
        refine ⟨hh.ins, h, x, s, x, s, W, rfl, hh, hx, hs, ?_⟩
        cases q : W.lo x s with
        | true =>
          rw [q, if_pos rfl] at p
          simp [truD]
          exact ih _ _ ⟨rfl, ⟨_, rfl⟩, r, e5, hr', p⟩
        | false =>
          rw [q, if_neg (by simp)] at p
          simp [truD]
          exact gc_same rfl h2 (by simp) p
end Hd
set_option Elab.async false
set_option linter.all false
set_option maxRecDepth 100000
set_option maxHeartbeats 2000000
/-! K2: plain rows. -/
namespace Hd
open PySem PySem.Spec PyProof.Rows L2 Vd

structure Hear.Wf (W : Hear) (m : Nat) : Prop where
  l1 : W.first.length = m
  l2 : W.idl.length = m
  l3 : W.hld.length = m
  lt : ∀ s, s < m → ∃ f, W.first[s]? = some f ∧ f < m ∧ W.first[f]? = some f
def Hear.f (W : Hear) (s : Nat) : Nat := W.first.getD s 0
def Hear.i (W : Hear) (s : Nat) : Bool := W.idl.getD s false
def Hear.hd (W : Hear) (s : Nat) : Bool := W.hld.getD s false
theorem getD_of {α : Type} {l : List α} {k : Nat} {x d : α} (h : l[k]? = some x) : l.getD k d = x := by
  rw [List.getD_eq_getElem?_getD, h]; rfl
theorem Hear.Wf.at {W : Hear} {m s : Nat} (w : W.Wf m) (h : s < m) : W.first[s]? = some (W.f s) ∧ W.f s < m ∧ W.first[W.f s]? = some (W.f s) ∧ W.idl[W.f s]? = some (W.i (W.f s)) ∧ W.hld[W.f s]? = some (W.hd (W.f s)) := by
  obtain ⟨f, h1, h2, h3⟩ := w.lt s h
  have e : W.f s = f := getD_of h1
  rw [e]
  refine ⟨h1, h2, h3, ?_, ?_⟩
  · have : f < W.idl.length := by rw [w.l2]; exact h2
    rw [List.getElem?_eq_getElem this]
    congr 1
    exact (getD_of (List.getElem?_eq_getElem this)).symm
  · have : f < W.hld.length := by rw [w.l3]; exact h2
    rw [List.getElem?_eq_getElem this]
    congr 1
    exact (getD_of (List.getElem?_eq_getElem this)).symm
def step (W : Hear) (found : List Nat) (s : Nat) : List Nat := if (W.i (W.f s) || (W.hd (W.f s) && scan W (W.f s) found.reverse)) = true then found else found ++ [W.f s]
def kept (W : Hear) (row : List Nat) : List Nat := row.foldl (step W) []
theorem at_bls {r : List Bool} {k : Nat} {x : Bool} (h : r[k]? = some x) : atD (r.map D.bl) (k : Int) = some (.bl x) := atD_nat (by simp [h])
def Below (m : Nat) (row : List Nat) : Prop := ∀ s ∈ row, s < m
def spKept : DSp := fun ds st P => ∃ (h m : Nat) (W : Hear) (row : List Nat), ds = [.ob h, dRow row] ∧ HearAt st h W ∧ W.Wf m ∧ Below m row ∧ row.length ≤ 1000 ∧ P (.ob st.length) (st ++ [.lst (dInts (kept W row))])
theorem step_len {W : Hear} {found : List Nat} {s : Nat} : (step W found s).length ≤ found.length + 1 := by
  unfold step; split <;> simp
theorem okS_app {n : Nat} {st g : Sto} (h : okS st.length st) (hn : st.length ≤ n) (hg : ∀ c ∈ g, okC n c = true) : okS n (st ++ g) := by
  intro c hc
  rcases List.mem_append.mp hc with q | q
  · exact okC_mono hn (h c q)
  · exact hg c q
theorem keeps_kept : Keeps 2 5 (w_kept_signs spIsSpared) spKept := by
  intro ds st P hl h1 h2 ⟨h, m, W, row, e, hh, wf, hb, hlen, p⟩
  subst e
  simp [w_kept_signs, startE, wiSeq, dRow]
  refine loop_ind (fun ds env st' => ∃ (found r : List Nat), ds = dInts r ∧ st' = st ++ [.lst (dInts found)] ∧ (∃ o3 o4, env = [some (.ob h), some (.tup (dInts row)), some (.ob st.length), o3, o4]) ∧ Below m r ∧ Lots W found ∧ found.length + r.length ≤ 1000 ∧
    P (.ob st.length) (st ++ [.lst (dInts (r.foldl (step W) found))])) (fun env st' ⟨found, r, e3, e1, ⟨o3, o4, e2⟩, hb, hlt, hfl, p⟩ => ?_) (fun d ds env st' ⟨found, r, e3, e1, ⟨o3, o4, e2⟩, hb, hlt, hfl, p⟩ ih => ?_) _ _ _ ⟨[], row, rfl, rfl, ⟨_, _, rfl⟩, hb, (fun x hx => (by cases hx)), (by simpa using hlen), p⟩
  · subst e1 e2
    cases r with
    | nil =>
      simp
      have := gc_cut (z := []) (n := st.length) (s := st ++ [.lst (dInts found)]) (by simp) (okS_app h2 (by simp) (by simp [okC])) (by simp) p
      simpa using this
    | cons _ _ => simp [dInts] at e3
  · subst e1 e2
    cases r with
    | nil => simp [dInts] at e3
    | cons x r =>
      simp only [dInts, List.map_cons, List.cons.injEq] at e3
      obtain ⟨e4, e5⟩ := e3
      subst e4
      obtain ⟨hx1, hx2, hx3, hx4, hx5⟩ := wf.at (hb x List.mem_cons_self)
      have hb' : Below m r := fun y hy => hb y (List.mem_cons_of_mem _ hy)
      have hh' : HearAt (st ++ [.lst (dInts found)]) h W := hh.app
      obtain ⟨i, j, kk, ll, h0, h3, h4, h5, h6⟩ := id hh'
      simp only [List.foldl_cons] at p
      have app : step W found x = found ++ [W.f x] → P (.ob st.length) (st ++ [.lst (dInts (r.foldl (step W) (step W found x)))]) → ∃ (found' r' : List Nat), ds = dInts r' ∧ st ++ [.lst (dInts found ++ [.int (W.f x)])] = st ++ [.lst (dInts found')] ∧
          Below m r' ∧ Lots W found' ∧ found'.length + r'.length ≤ 1000 ∧ P (.ob st.length) (st ++ [.lst (dInts (r'.foldl (step W) found'))]) := fun es p => by
        rw [es] at p
        refine ⟨found ++ [W.f x], r, e5, by simp [dInts], hb', fun y hy => ?_, by simp at hfl ⊢; omega, p⟩
        rcases List.mem_append.mp hy with q | q
        · exact hlt y q
        · rw [List.mem_singleton.mp q]; exact hx3
      have hfl' : found.length < 100000 := by simp at hfl; omega
      simp [fldAt, h0, kIx_lst h3, at_ints hx1, kIx_lst h4, at_bls hx4, kIx_lst h5, at_bls hx5]
      cases qi : W.i (W.f x) with
      | true =>
        have es : step W found x = found := by simp [step, qi]
        rw [es] at p
        simp
        exact ih _ _ ⟨found, r, e5, rfl, ⟨_, _, rfl⟩, hb', hlt, by simp at hfl; omega, p⟩
      | false =>
        cases qh : W.hd (W.f x) with
        | true =>
          simp
          refine ⟨h, st.length, W.f x, W, found, rfl, hh', by simp, hlt, hx3, ?_⟩
          cases qs : scan W (W.f x) found.reverse with
          | true =>
            have es : step W found x = found := by simp [step, qi, qh, qs]
            rw [es] at p
            simp
            exact ih _ _ ⟨found, r, e5, rfl, ⟨_, _, rfl⟩, hb', hlt, by simp at hfl; omega, p⟩
          | false =>
            obtain ⟨f', r', g1, g2, g3, g4, g5, g6⟩ := app (by simp [step, qi, qh, qs]) p
            simp
            exact ⟨by simpa [dInts] using hfl', ih _ _ ⟨f', r', g1, g2, ⟨_, _, rfl⟩, g3, g4, g5, g6⟩⟩
        | false =>
          obtain ⟨f', r', g1, g2, g3, g4, g5, g6⟩ := app (by simp [step, qi, qh]) p
          simp
          exact ⟨by simpa [dInts] using hfl', ih _ _ ⟨f', r', g1, g2, ⟨_, _, rfl⟩, g3, g4, g5, g6⟩⟩

theorem ints_flat {l : List Nat} : flatsD (dInts l) = some (l.map fun (n : Nat) => V.int n) := by
  induction l with
  | nil => rfl
  | cons a l ih =>
    simp only [dInts, List.map_cons] at ih ⊢
    simp [flatsD, flatD, ih]
theorem kIn_ints {F : Bool → Bool} {st : Sto} {k x : Nat} {l : List Nat} {P : D → Sto → Prop} (h : st[k]? = some (.lst (dInts l))) : kInF F (.int (x : Nat)) (.ob k) st P = P (.bl (F (decide (x ∈ l)))) st := by
  simp only [kInF, h, ints_flat, flatD]
  congr 3
  rw [inV, List.any_map]
  apply Bool.eq_iff_iff.mpr
  simp only [List.any_eq_true, Function.comp, eqV, beq_iff_eq, decide_eq_true_eq]
  exact ⟨fun ⟨y, hy, e⟩ => by rw [show x = y by omega]; exact hy, fun hx => ⟨x, hx, rfl⟩⟩
def lead (W : Hear) (k : Nat) (ahead : List Nat) : List Nat → List Nat
  | [] => []
  | s :: r => (if (ahead.all fun o => W.lo o s) = true then [k] else []) ++ lead W (k + 1) (if s ∈ ahead then ahead else ahead ++ [s]) r
def spLeading : DSp := fun ds st P => ∃ (h k : Nat) (W : Hear) (row : List Nat), ds = [.ob h, .ob k] ∧ HearAt st h W ∧ st[k]? = some (.lst (dInts row)) ∧ Lots W row ∧ row.length ≤ 1000 ∧ P (.ob st.length) (st ++ [.lst (dInts (lead W 0 [] row))])
theorem keeps_leading : Keeps 2 7 (w_leading spIsLoose) spLeading := by
  intro ds st P hl h1 h2 ⟨h, kf, W, row, e, hh, hk, hlt, hlen, p⟩
  subst e
  have hk2 : (st ++ [.lst [], .lst []])[kf]? = some (.lst (dInts row)) := get_app hk
  simp [w_leading, startE, wiEnum, hk2, enumD_K]
  refine loop_ind (fun ds env st' => ∃ (k : Nat) (ahead found r : List Nat), ds = enumK k (dInts r) ∧ st' = st ++ [.lst (dInts ahead), .lst (dInts found)] ∧ (∃ o4 o5 o6, env = [some (.ob h), some (.ob kf), some (.ob st.length), some (.ob (st.length + 1)), o4, o5, o6]) ∧ Lots W r ∧ Lots W ahead ∧ ahead.length + r.length ≤ 1000 ∧ found.length + r.length ≤ 1000 ∧
    P (.ob st.length) (st ++ [.lst (dInts (found ++ lead W k ahead r))])) (fun env st' ⟨k, ahead, found, r, e3, e1, ⟨o4, o5, o6, e2⟩, hlr, hla, hn1, hn2, p⟩ => ?_) (fun d ds env st' ⟨k, ahead, found, r, e3, e1, ⟨o4, o5, o6, e2⟩, hlr, hla, hn1, hn2, p⟩ ih => ?_) _ _ _
    ⟨0, [], [], row, rfl, rfl, ⟨_, _, _, rfl⟩, hlt, (fun x hx => (by cases hx)), (by simpa using hlen), (by simpa using hlen), by simpa using p⟩
  · subst e1 e2
    cases r with
    | nil =>
      simp [get_app hk]
      exact gc_one h2 rfl ok_ints (by simpa [lead] using p)
    | cons _ _ => simp [dInts] at e3
  · subst e1 e2
    cases r with
    | nil => simp [dInts] at e3
    | cons x r =>
      simp only [dInts, List.map_cons, enumK_cons, List.cons.injEq] at e3
      obtain ⟨e4, e5⟩ := e3
      subst e4
      have hx := hlr x List.mem_cons_self
      have hlr' : Lots W r := fun y hy => hlr y (List.mem_cons_of_mem _ hy)
      simp only [List.length_cons] at hn1 hn2
      have hh' : HearAt (st ++ [.lst (dInts ahead), .lst (dInts found)]) h W := hh.app
      simp [-wsSeq, get_app hk, seqAt]
      have hda : (dInts ahead).length < 100000 := by simp [dInts]; omega
      have hdf : (dInts found).length < 100000 := by simp [dInts]; omega
      refine seq_step fun kk hkk => ?_
      have go : ∀ found', found'.length + r.length ≤ 1000 → P (.ob st.length) (st ++ [.lst (dInts (found' ++ lead W (k + 1) (if x ∈ ahead then ahead else ahead ++ [x]) r))]) → kk [some (.ob h), some (.ob kf), some (.ob st.length), some (.ob (st.length + 1)), some (.int (k : Nat)), some (.int (x : Nat)), o6] (st ++ [.lst (dInts ahead), .lst (dInts found')]) := fun found' hf p => by
        refine hkk _ _ ?_
        have hin : (st ++ [.lst (dInts ahead), .lst (dInts found')])[st.length]? = some (.lst (dInts ahead)) := by simp
        simp [kIn_ints hin]
        by_cases hx' : x ∈ ahead
        · rw [if_pos hx'] at p ⊢
          exact ih _ _ ⟨k + 1, ahead, found', r, e5, rfl, ⟨_, _, _, rfl⟩, hlr', hla, by omega, hf, p⟩
        · rw [if_neg hx'] at p ⊢
          refine ⟨hda, ih _ _ ⟨k + 1, ahead ++ [x], found', r, e5, by simp [dInts], ⟨_, _, _, rfl⟩, hlr', fun y hy => ?_, by simp; omega, hf, p⟩⟩
          rcases List.mem_append.mp hy with q | q
          · exact hla y q
          · rw [List.mem_singleton.mp q]; exact hx
      simp [wiSeq, wipeE, wAll]
      refine comp_mapD (fun d => match d with | .int o => .bl (W.lo o.toNat x) | _ => .bl false) (by simp) (by simp [dInts]; omega) (fun d hd X Y q => ?_) ?_
      · obtain ⟨o, ho, rfl⟩ := List.mem_map.mp hd
        simp
        exact ⟨hh'.ins, h, o, x, o, x, W, rfl, hh', hla o ho, hx, by simpa using q⟩
      · have eb : ([] : List D) ++ (dInts ahead).map (fun d => match d with | .int o => .bl (W.lo o.toNat x) | _ => .bl false) = (ahead.map fun o => W.lo o x).map D.bl := by simp [dInts, Function.comp]
        rw [eb, boolsD_map]
        unfold lead at p
        by_cases c : (ahead.all fun o => W.lo o x) = true
        · rw [if_pos c] at p
          have c' : ¬ false ∈ ahead.map (fun o => W.lo o x) := by simpa using c
          simp only [truD_bl]
          rw [if_neg c']
          have := go (found ++ [k]) (by simp; omega) (by simpa using p)
          have e : dInts (found ++ [k]) = dInts found ++ [.int (k : Nat)] := by simp [dInts]
          rw [e] at this
          simp only [isLst_new1, kAppend_new1, true_and]
          exact ⟨hdf, this⟩
        · rw [if_neg c] at p
          have c' : false ∈ ahead.map (fun o => W.lo o x) := by simpa using c
          simp only [truD_bl]
          rw [if_pos c']
          exact go found (by omega) (by simpa using p)
end Hd
set_option Elab.async false
set_option linter.all false
set_option maxRecDepth 100000
set_option maxHeartbeats 2000000
/-! K3: the first order of a row. -/
namespace Hd
open PySem PySem.Spec PyProof.Rows L2 Vd

def ltP (x y : Nat × Nat) : Bool := decide (x.1 < y.1 ∨ (x.1 = y.1 ∧ x.2 < y.2))
def encP (p : Nat × Nat) : PyData := .tuple [.int (p.1 : Nat), .int (p.2 : Nat)]
def pairD (p : Nat × Nat) : D := .tup [.int (p.1 : Nat), .int (p.2 : Nat)]
theorem lt_enc (x y : Nat × Nat) : PySem.W.dataLt (encP x) (encP y) = ltP x y := by
  unfold encP
  rw [PySem.W.dataLt_pair (by simp [PySem.W.alike]) (by simp [PySem.W.alike]), PySem.W.dataLt_int, PySem.W.dataLt_int]
  unfold ltP
  have e1 : ∀ a b : Nat, PyData.eqv (.int (a : Int)) (.int (b : Int)) = decide (a = b) := fun a b => by
    rw [PyData.eqv]
    by_cases h : a = b
    · simp [h]
    · simp [h]; omega
  rw [e1, e1]
  by_cases h : x.1 = y.1
  · by_cases h2 : x.2 = y.2
    · simp [h, h2]
    · simp [h, h2]
  · simp [h]
def minP (p : Nat × Nat) (ps : List (Nat × Nat)) : Nat × Nat := ps.foldl (fun a y => if ltP y a = true then y else a) p
theorem min_enc : ∀ (p : Nat × Nat) (ps : List (Nat × Nat)), PySem.W.minD (encP p) (ps.map encP) = encP (minP p ps)
  | p, [] => rfl
  | p, q :: ps => by
    show PySem.W.minD (if PySem.W.dataLt (encP q) (encP p) then encP q else encP p) (ps.map encP) = encP (minP (if ltP q p = true then q else p) ps)
    rw [lt_enc]
    by_cases h : ltP q p = true
    · rw [if_pos h, if_pos h]; exact min_enc q ps
    · rw [if_neg h, if_neg h]; exact min_enc p ps
theorem minP_mem : ∀ (p : Nat × Nat) (ps : List (Nat × Nat)), minP p ps ∈ p :: ps
  | p, [] => List.mem_cons_self
  | p, q :: ps => by
    show minP (if ltP q p = true then q else p) ps ∈ _
    have := minP_mem (if ltP q p = true then q else p) ps
    rcases List.mem_cons.mp this with e | e
    · rw [e]; split <;> simp
    · simp [e]
theorem ltP_tr {x y z : Nat × Nat} (h : ltP x y = false) (h2 : ltP y z = false) : ltP x z = false := by
  unfold ltP at *
  simp only [decide_eq_false_iff_not] at *
  omega
theorem minP_le : ∀ (p : Nat × Nat) (ps : List (Nat × Nat)), ∀ y ∈ p :: ps, ltP y (minP p ps) = false
  | p, [], y, h => by
    rw [List.mem_singleton.mp h]
    simp [minP, ltP]
  | p, q :: ps, y, h => by
    show ltP y (minP (if ltP q p = true then q else p) ps) = false
    have ih := minP_le (if ltP q p = true then q else p) ps
    have h0 := ih _ List.mem_cons_self
    have hp : ltP p (if ltP q p = true then q else p) = false := by
      by_cases c : ltP q p = true
      · rw [if_pos c]
        unfold ltP at *
        simp only [decide_eq_true_eq, decide_eq_false_iff_not] at *
        omega
      · rw [if_neg c]; simp [ltP]
    have hq : ltP q (if ltP q p = true then q else p) = false := by
      by_cases c : ltP q p = true
      · rw [if_pos c]; simp [ltP]
      · rw [if_neg c]; simpa using c
    rcases List.mem_cons.mp h with e | e
    · rw [e]; exact ltP_tr hp h0
    · rcases List.mem_cons.mp e with e | e
      · rw [e]; exact ltP_tr hq h0
      · exact ih y (List.mem_cons_of_mem _ e)
theorem toPy_pair (p : Nat × Nat) : toPy (pairD p) = some (encP p) := by simp [pairD, encP, toPy, toPys]
theorem toPys_pairs : ∀ ps : List (Nat × Nat), toPys (ps.map pairD) = some (ps.map encP)
  | [] => by simp [toPys]
  | p :: ps => by simp [toPys, toPy_pair, toPys_pairs ps]
theorem encP_inj {p q : Nat × Nat} (h : encP p = encP q) : p = q := by
  simp only [encP, PyData.tuple.injEq, List.cons.injEq, PyData.int.injEq, and_true] at h
  obtain ⟨a, b⟩ := p
  obtain ⟨c, d⟩ := q
  simp only at h
  rw [show a = c by omega, show b = d by omega]
theorem minOk_pairs (ps : List (Nat × Nat)) : MinOk (ps.map encP) := by
  refine ⟨⟨fun x hx y hy => ?_, fun x hx => ?_⟩, ?_, ?_⟩
  · obtain ⟨p, _, rfl⟩ := List.mem_map.mp hx
    obtain ⟨q, _, rfl⟩ := List.mem_map.mp hy
    simp [encP, PySem.W.alike, PySem.W.alikeAll]
  · obtain ⟨p, _, rfl⟩ := List.mem_map.mp hx
    simp [encP]
  · have : PyData.depthAll (ps.map encP) ≤ 1 := by
      induction ps with
      | nil => simp [PyData.depthAll]
      | cons p ps ih =>
        simp only [List.map_cons, PyData.depthAll]
        simp only [encP, PyData.depth, PyData.depthAll] at ih ⊢
        omega
    omega
  · induction ps with
    | nil => simp [PyData.canLayAll0]
    | cons p ps ih => simp [PyData.canLayAll0, encP, PyData.canLay0] at ih ⊢; exact ih
/-- the place of the first letter to be taken -/
def heads (W : Hear) (left : List Nat) : List (Nat × Nat) := (lead W 0 [] left).map fun k => (left.getD k 0, k)
def best (W : Hear) (left : List Nat) : Nat := match heads W left with
  | [] => 0
  | p :: ps => (minP p ps).2
def nf (W : Hear) : Nat → List Nat → List Nat
  | 0, _ => []
  | n + 1, left => match left with
    | [] => []
    | _ => left.getD (best W left) 0 :: nf W n (left.eraseIdx (best W left))
def NF (W : Hear) (left : List Nat) : List Nat := nf W left.length left
theorem lead_lt {W : Hear} : ∀ {k : Nat} {ahead r : List Nat} {j : Nat}, j ∈ lead W k ahead r → k ≤ j ∧ j < k + r.length
  | k, ahead, [], j, h => by simp [lead] at h
  | k, ahead, s :: r, j, h => by
    unfold lead at h
    rcases List.mem_append.mp h with q | q
    · split at q
      · rw [List.mem_singleton.mp q]; simp
      · cases q
    · have := lead_lt q
      simp; omega
theorem lead_len {W : Hear} : ∀ {k : Nat} {ahead r : List Nat}, (lead W k ahead r).length ≤ r.length
  | k, ahead, [] => by simp [lead]
  | k, ahead, s :: r => by
    unfold lead
    rw [List.length_append, List.length_cons]
    have := lead_len (W := W) (k := k + 1) (ahead := if s ∈ ahead then ahead else ahead ++ [s]) (r := r)
    split <;> simp <;> omega
theorem lead_ne {W : Hear} {s : Nat} {r : List Nat} : ∃ t, lead W 0 [] (s :: r) = 0 :: t := ⟨_, by simp [lead]; rfl⟩
theorem best_lt {W : Hear} {left : List Nat} (h : left ≠ []) : best W left < left.length ∧ best W left ∈ lead W 0 [] left := by
  unfold best
  cases left with
  | nil => exact absurd rfl h
  | cons s r =>
    obtain ⟨t, e⟩ := lead_ne (W := W) (s := s) (r := r)
    have hh : heads W (s :: r) = ((s :: r).getD 0 0, 0) :: t.map fun k => ((s :: r).getD k 0, k) := by simp [heads, e]
    rw [hh]
    simp only
    have := minP_mem ((s :: r).getD 0 0, 0) (t.map fun k => ((s :: r).getD k 0, k))
    rw [← hh] at this
    obtain ⟨k, hk, ek⟩ := List.mem_map.mp this
    rw [← ek]
    exact ⟨by have := (lead_lt hk).2; omega, hk⟩

theorem nf_cons {W : Hear} {left : List Nat} (h : left ≠ []) : NF W left = left.getD (best W left) 0 :: NF W (left.eraseIdx (best W left)) := by
  obtain ⟨h1, _⟩ := best_lt (W := W) h
  unfold NF
  rw [List.length_eraseIdx, if_pos h1]
  obtain ⟨n, hn⟩ : ∃ n, left.length = n + 1 := ⟨left.length - 1, by cases left with | nil => exact absurd rfl h | cons _ _ => simp⟩
  rw [hn, Nat.add_sub_cancel]
  cases left with
  | nil => exact absurd rfl h
  | cons a l => rfl
theorem at_get {l : List Nat} {k : Nat} (h : k < l.length) : (dInts l)[k]? = some (.int ((l.getD k 0 : Nat) : Int)) := by
  simp [dInts, h]
theorem erase_ints : ∀ (l : List Nat) (k : Nat), (dInts l).eraseIdx k = dInts (l.eraseIdx k)
  | [], k => by simp [dInts]
  | a :: l, 0 => by simp [dInts]
  | a :: l, k + 1 => by
    have := erase_ints l k
    simp only [dInts, List.map_cons, List.eraseIdx_cons_succ] at this ⊢
    rw [this]
def spFirst : DSp := fun ds st P => ∃ (h k : Nat) (W : Hear) (row : List Nat), ds = [.ob h, .ob k] ∧ HearAt st h W ∧ st[k]? = some (.lst (dInts row)) ∧ Lots W row ∧ row.length ≤ 1000 ∧ P (dRow (NF W row)) st
theorem mem_erase {α : Type} {l : List α} {k : Nat} {x : α} (h : x ∈ l.eraseIdx k) : x ∈ l := List.mem_of_mem_eraseIdx h
theorem keeps_first : Keeps 2 6 (w_first_order spLeading) spFirst := by
  intro ds st P hl h1 h2 ⟨h, kf, W, row, e, hh, hk, hlt, hlen, p⟩
  subst e
  simp [-wsSeq, w_first_order, startE]
  refine seq_step fun k1 hk1 => ?_
  simp [seqAt, hk]
  refine hk1 _ _ ?_
  refine seq_step fun k2 hk2 => ?_
  simp
  refine hk2 _ _ ?_
  refine seq_step fun k3 hk3 => ?_
  refine while_ind (fun m env st' => ∃ (left found : List Nat) (g : Sto), st' = st ++ [.lst (dInts left), .lst (dInts found)] ++ g ∧ (∃ o4 o5, env = [some (.ob h), some (.ob kf), some (.ob st.length), some (.ob (st.length + 1)), o4, o5]) ∧ Lots W left ∧ left.length = m ∧ found.length + left.length ≤ 1000 ∧
    P (dRow (found ++ NF W left)) st) ⟨row.length, row, [], [], by simp [dInts], ⟨none, none, by simp [startE]⟩, hlt, rfl, by simpa using hlen, by simpa using p⟩ fun m env st' ⟨left, found, g, e1, ⟨o4, o5, e2⟩, hlt, hm, hn, p⟩ K hK => ?_
  subst e1 e2
  have hleft : (st ++ [.lst (dInts left), .lst (dInts found)] ++ g)[st.length]? = some (.lst (dInts left)) := by simp
  have hfound : (st ++ [.lst (dInts left), .lst (dInts found)] ++ g)[st.length + 1]? = some (.lst (dInts found)) := by simp
  have hh' : HearAt (st ++ [.lst (dInts left), .lst (dInts found)] ++ g) h W := hh.app.app
  simp only [wTru, wVar, List.getElem?_cons_succ, List.getElem?_cons_zero, truD_lst hleft]
  by_cases hne : left = []
  · subst hne
    simp [dInts]
    refine hk3 _ _ ?_
    simp [kTupOf]
    have := gc_drop (g := [.lst (dInts []), .lst (dInts found)] ++ g) rfl h2 (d := dRow found) (by simp) (by simpa [NF, nf] using p)
    simpa [dRow, dInts] using this
  · have hemp : (!(dInts left).isEmpty) = true := by
      cases left with
      | nil => exact absurd rfl hne
      | cons _ _ => rfl
    obtain ⟨b1, b2⟩ := best_lt (W := W) hne
    rw [hemp]
    simp only [if_true]
    refine seq_step fun k4 hk4 => ?_
    clear hk1 hk2 hk3
    simp [wMinD, wiSeq, wipeE]
    refine ⟨h, st.length, W, left, rfl, by simpa using hh', by simp, hlt, by omega, ?_⟩
    generalize hS : st ++ [.lst (dInts left), .lst (dInts found)] ++ g = S at *
    have hS' : st ++ .lst (dInts left) :: .lst (dInts found) :: g = S := by rw [← hS]; simp
    rw [hS']
    simp
    have hl2 : (S ++ [.lst (dInts (lead W 0 [] left))])[st.length]? = some (.lst (dInts left)) := get_app hleft
    have hf2 : (S ++ [.lst (dInts (lead W 0 [] left))])[st.length + 1]? = some (.lst (dInts found)) := get_app hfound
    refine comp_mapD (fun d => match d with | .int k => pairD (left.getD k.toNat 0, k.toNat) | _ => .non) (by simp) (by have := lead_len (W := W) (k := 0) (ahead := []) (r := left); simp [dInts]; omega) (fun d hd X Y q => ?_) ?_
    · obtain ⟨k, hk, rfl⟩ := List.mem_map.mp hd
      have hkl : k < left.length := by have := (lead_lt hk).2; omega
      simp [kIx_lst hl2, atD_nat (at_get hkl)]
      simpa [pairD] using q
    · have eb : ([] : List D) ++ (dInts (lead W 0 [] left)).map (fun d => match d with | .int k => pairD (left.getD k.toNat 0, k.toNat) | _ => .non) = (heads W left).map pairD := by simp [dInts, heads, Function.comp]
      rw [eb]
      obtain ⟨p0, ps, hps⟩ : ∃ p0 ps, heads W left = p0 :: ps := by
        cases left with
        | nil => exact absurd rfl hne
        | cons s r =>
          obtain ⟨t, e⟩ := lead_ne (W := W) (s := s) (r := r)
          exact ⟨_, _, by rw [heads, e, List.map_cons]⟩
      have hb : best W left = (minP p0 ps).2 := by unfold best; rw [hps]
      have tp := toPys_pairs (heads W left)
      have mo := minOk_pairs (heads W left)
      rw [hps, List.map_cons] at tp mo
      rw [hps, List.map_cons]
      refine ⟨_, _, tp, mo, fun d hd ht => ?_⟩
      rw [← List.map_cons] at hd
      obtain ⟨q0, _, rfl⟩ := List.mem_map.mp hd
      rw [toPy_pair, min_enc] at ht
      have := encP_inj (Option.some.inj ht)
      subst this
      simp only [pairD, kIx_tup, atD1]
      rw [← hb]
      refine hk4 _ _ ?_
      have hdl : (dInts left).length ≤ 100000 := by simp [dInts]; omega
      have hdf : (dInts found).length < 100000 := by simp [dInts]; omega
      simp [isLst_at hl2, isLst_at hf2, kPop_nat hl2 (at_get b1) hdl]
      have hf3 : ((S ++ [Cell.lst (dInts (lead W 0 [] left))]).set st.length (Cell.lst ((dInts left).eraseIdx (best W left))))[st.length + 1]? = some (.lst (dInts found)) := by
        rw [List.getElem?_set_ne (by omega)]; exact hf2
      rw [kAppend_at hf3]
      refine ⟨hdf, hK _ _ (left.length - 1) (by have := List.length_pos_iff.mpr hne; omega) ⟨left.eraseIdx (best W left), found ++ [left.getD (best W left) 0], g ++ [Cell.lst (dInts (lead W 0 [] left))], ?_, ⟨_, _, rfl⟩, fun y hy => hlt y (mem_erase hy), by rw [List.length_eraseIdx, if_pos b1], ?_, ?_⟩⟩
      · have e1 : (dInts left).eraseIdx (best W left) = dInts (left.eraseIdx (best W left)) := erase_ints _ _
        rw [← hS, e1]
        simp [dInts]
      · rw [List.length_eraseIdx, if_pos b1, List.length_append, List.length_singleton]
        have := List.length_pos_iff.mpr hne
        omega
      · rw [nf_cons hne] at p
        simpa using p
def spPlain : DSp := fun ds st P => ∃ (h m : Nat) (W : Hear) (row : List Nat), ds = [.ob h, dRow row] ∧ HearAt st h W ∧ W.Wf m ∧ Below m row ∧ row.length ≤ 1000 ∧ P (dRow (NF W (kept W row))) st
theorem kept_ok {W : Hear} {m : Nat} (wf : W.Wf m) : ∀ {row found : List Nat}, Below m row → Lots W found → Lots W (row.foldl (step W) found) ∧ (row.foldl (step W) found).length ≤ found.length + row.length
  | [], found, _, h => ⟨h, by simp⟩
  | s :: row, found, hb, h => by
    have h1 : Lots W (step W found s) := by
      unfold step
      split
      · exact h
      · intro y hy
        rcases List.mem_append.mp hy with q | q
        · exact h y q
        · rw [List.mem_singleton.mp q]; exact (wf.at (hb s List.mem_cons_self)).2.2.1
    obtain ⟨i1, i2⟩ := kept_ok wf (row := row) (fun y hy => hb y (List.mem_cons_of_mem _ hy)) h1
    refine ⟨i1, ?_⟩
    have := step_len (W := W) (found := found) (s := s)
    simp only [List.foldl_cons, List.length_cons]
    omega
theorem keeps_plain : Keeps 2 2 (w_plain_by spKept spFirst) spPlain := by
  intro ds st P hl h1 h2 ⟨h, m, W, row, e, hh, wf, hb, hlen, p⟩
  subst e
  simp [w_plain_by, startE]
  refine ⟨h, m, W, row, rfl, hh, wf, hb, hlen, ?_⟩
  simp
  obtain ⟨i1, i2⟩ := kept_ok wf (row := row) (found := []) hb (fun x hx => (by cases hx))
  refine ⟨h, st.length, W, kept W row, rfl, hh.app, by simp, i1, by unfold kept; simp at i2; omega, ?_⟩
  exact gc_drop rfl h2 (by simp) p
end Hd
set_option Elab.async false
set_option linter.all false
set_option maxRecDepth 100000
set_option maxHeartbeats 2000000
/-! K4: how a hearing is made; kin. -/
namespace Hd
open PySem PySem.Spec PyProof.Rows L2 Vd

/-- the old cells but those of ex stay -/
def Keep (st st' : Sto) (ex : List Nat) : Prop := st.length ≤ st'.length ∧ ∀ k, k < st.length → k ∉ ex → st'[k]? = st[k]?
theorem Keep.refl {st : Sto} {ex : List Nat} : Keep st st ex := ⟨Nat.le_refl _, fun _ _ _ => rfl⟩
theorem Keep.trans {st s2 s3 : Sto} {ex : List Nat} (a : Keep st s2 ex) (b : Keep s2 s3 ex) : Keep st s3 ex := ⟨Nat.le_trans a.1 b.1, fun k hk hn => (b.2 k (Nat.lt_of_lt_of_le hk a.1) hn).trans (a.2 k hk hn)⟩
theorem Keep.app {st g : Sto} {ex : List Nat} : Keep st (st ++ g) ex := ⟨by simp, fun k hk _ => List.getElem?_append_left hk⟩
theorem Keep.set {st : Sto} {h : Nat} {c : Cell} : Keep st (st.set h c) [h] := ⟨by simp, fun k hk hn => List.getElem?_set_ne fun e => hn (by rw [e]; simp)⟩
theorem Keep.get {st st' : Sto} {ex : List Nat} {k : Nat} {c : Cell} (a : Keep st st' ex) (h : st[k]? = some c) (hn : k ∉ ex) : st'[k]? = some c := by
  rw [a.2 k (List.getElem?_eq_some_iff.mp h).1 hn]; exact h
theorem Keep.of_app {st g st' : Sto} {h : Nat} (a : Keep (st ++ g) st' [h]) (hh : st.length ≤ h) : ∃ g', st' = st ++ g' := by
  refine ⟨st'.drop st.length, ?_⟩
  have hl : st.length ≤ st'.length := by have := a.1; simp at this; omega
  have e : st'.take st.length = st := by
    refine List.ext_getElem? fun k => ?_
    by_cases hk : k < st.length
    · rw [List.getElem?_take_of_lt hk, a.2 k (by simp; omega) (by simp; omega), List.getElem?_append_left hk]
    · rw [List.getElem?_eq_none (by simp; omega), List.getElem?_eq_none (by omega)]
  have e2 : st ++ st'.drop st.length = st'.take st.length ++ st'.drop st.length := by rw [e]
  rw [e2, List.take_append_drop]
def gN (l : List Nat) (k : Nat) : Nat := l.getD k 0
theorem gN_of {l : List Nat} {k x : Nat} (h : l[k]? = some x) : gN l k = x := getD_of h
/-- the lots while they are put together -/
def WfF (m : Nat) (f : List Nat) : Prop := f.length = m ∧ ∀ s, s < m → ∃ x, f[s]? = some x ∧ x < m ∧ f[x]? = some x
def joinL (f : List Nat) (s t : Nat) : List Nat := f.map fun p => if p = max (gN f s) (gN f t) then min (gN f s) (gN f t) else p
theorem WfF.at {m s : Nat} {f : List Nat} (w : WfF m f) (h : s < m) : f[s]? = some (gN f s) ∧ gN f s < m ∧ f[gN f s]? = some (gN f s) := by
  obtain ⟨x, h1, h2, h3⟩ := w.2 s h
  rw [gN_of h1]
  exact ⟨h1, h2, h3⟩
theorem WfF.join {m s t : Nat} {f : List Nat} (w : WfF m f) (hs : s < m) (ht : t < m) : WfF m (joinL f s t) := by
  obtain ⟨a1, a2, a3⟩ := w.at hs
  obtain ⟨b1, b2, b3⟩ := w.at ht
  unfold joinL
  generalize gN f s = a at *
  generalize gN f t = b at *
  refine ⟨by rw [List.length_map]; exact w.1, fun k hk => ?_⟩
  obtain ⟨x, h1, h2, h3⟩ := w.2 k hk
  rw [List.getElem?_map, h1]
  by_cases c : x = max a b
  · refine ⟨min a b, by simp [c], by omega, ?_⟩
    rw [List.getElem?_map]
    rcases Nat.le_total a b with q | q
    · rw [Nat.min_eq_left q, a3, Nat.max_eq_right q]
      simp <;> (intro e; omega)
    · rw [Nat.min_eq_right q, b3, Nat.max_eq_left q]
      simp <;> (intro e; omega)
  · refine ⟨x, by simp [c], h2, ?_⟩
    rw [List.getElem?_map, h3]
    simp [c]
theorem WfF.range (m : Nat) : WfF m (List.range m) := ⟨by simp, fun s hs => ⟨s, by simp [hs], hs, by simp [hs]⟩⟩
def spJoin : DSp := fun ds st P => ∃ (h s t i m : Nat) (f : List Nat), ds = [.ob h, .int s, .int t] ∧ st[h]? = some (.ins "Hearing" [("first", .ob i)]) ∧ st[i]? = some (.lst (dInts f)) ∧ WfF m f ∧ m ≤ 1000 ∧ s < m ∧ t < m ∧
  ∀ st' j, Keep st st' [h] → st'[h]? = some (.ins "Hearing" [("first", .ob j)]) → st'[j]? = some (.lst (dInts (joinL f s t))) → P .non st'
theorem okS_get {n : Nat} {st : Sto} {k : Nat} {c : Cell} (h : okS n st) (e : st[k]? = some c) : okC n c = true := h c (List.mem_of_getElem? e)
theorem okS_set {n : Nat} {st : Sto} {k : Nat} {c : Cell} (h : okS n st) (hc : okC n c = true) : okS n (st.set k c) := fun x hx => by
  rcases List.mem_or_eq_of_mem_set hx with q | q
  · exact h x q
  · rw [q]; exact hc
theorem okS_mono {n m : Nat} {st : Sto} (h : okS n st) (hn : n ≤ m) : okS m st := fun c hc => okC_mono hn (h c hc)
theorem keeps_join : Keeps 3 6 w_Hearing_join spJoin := by
  intro ds st P hl h1 h2 ⟨h, s, t, i, m, f, e, h0, h3, wf, hm, hs, ht, p⟩
  subst e
  obtain ⟨a1, a2, a3⟩ := wf.at hs
  obtain ⟨b1, b2, b3⟩ := wf.at ht
  simp [w_Hearing_join, startE, fldAt, h0, kIx_lst h3, at_ints a1, at_ints b1, wSortI, intsD]
  intro js hp hpw
  have hjs : js = [((min (gN f s) (gN f t) : Nat) : Int), ((max (gN f s) (gN f t) : Nat) : Int)] := by
    generalize gN f s = a at *
    generalize gN f t = b at *
    obtain ⟨x, y, e⟩ : ∃ x y, js = [x, y] := by
      have := hp.length_eq
      obtain ⟨x, y, e⟩ := len2 this
      exact ⟨x, y, e⟩
    subst e
    simp only [List.pairwise_cons, List.mem_singleton, forall_eq] at hpw
    have m1 : x ∈ [(a : Int), (b : Int)] := hp.mem_iff.mp (by simp)
    have m2 : y ∈ [(a : Int), (b : Int)] := hp.mem_iff.mp (by simp)
    have m3 : (a : Int) ∈ [x, y] := hp.mem_iff.mpr (by simp)
    have m4 : (b : Int) ∈ [x, y] := hp.mem_iff.mpr (by simp)
    simp at m1 m2 m3 m4
    have h3 := hpw.1
    simp only [List.cons.injEq, and_true]
    omega
  subst hjs
  simp only [List.map_cons, List.map_nil]
  have h3' : (st ++ [.lst [.int ((min (gN f s) (gN f t) : Nat) : Int), .int ((max (gN f s) (gN f t) : Nat) : Int)]])[i]? = some (.lst (dInts f)) := get_app h3
  have h0' : (st ++ [.lst [.int ((min (gN f s) (gN f t) : Nat) : Int), .int ((max (gN f s) (gN f t) : Nat) : Int)]])[h]? = some (.ins "Hearing" [("first", .ob i)]) := get_app h0
  generalize hS : st ++ [Cell.lst [.int ((min (gN f s) (gN f t) : Nat) : Int), .int ((max (gN f s) (gN f t) : Nat) : Int)]] = S at *
  have hN : S[st.length]? = some (.lst [.int ((min (gN f s) (gN f t) : Nat) : Int), .int ((max (gN f s) (gN f t) : Nat) : Int)]) := by rw [← hS]; simp
  have hSl : S.length = st.length + 1 := by rw [← hS]; simp
  simp only [wgSeq, wgCons, wgNil, wgName, wsFld, wNew, wComp, wiSeq, wFld, wVar, fldAt, seqAt, hN, h0', h3', List.set_cons_zero, List.set_cons_succ, List.length_cons, List.length_nil, wipeE]
  simp [wiSeq, h3', h0', fldAt, wipeE]
  refine comp_mapD (fun d => match d with | .int p => .int (if p = ((max (gN f s) (gN f t) : Nat) : Int) then ((min (gN f s) (gN f t) : Nat) : Int) else p) | _ => .non) (by simpa using h3') (by simp [dInts, wf.1]; omega) (fun d hd X Y q => ?_) ?_
  · obtain ⟨x, hx, rfl⟩ := List.mem_map.mp hd
    simp at q ⊢
    split
    · rename_i c
      rw [if_pos c] at q; exact q
    · rename_i c
      rw [if_neg c] at q; exact q
  · have e1 : ([] : List D) ++ (dInts f).map (fun d => match d with | .int p => .int (if p = ((max (gN f s) (gN f t) : Nat) : Int) then ((min (gN f s) (gN f t) : Nat) : Int) else p) | _ => .non) = dInts (joinL f s t) := by
      simp only [List.nil_append, dInts, joinL, List.map_map]
      refine List.map_congr_left fun x _ => ?_
      simp only [Function.comp]
      by_cases c : x = max (gN f s) (gN f t)
      · rw [if_pos c, if_pos (by omega)]
      · rw [if_neg c, if_neg (by omega)]
    rw [e1]
    have h0'' : (S ++ [.lst (dInts (joinL f s t))])[h]? = some (.ins "Hearing" [("first", .ob i)]) := get_app h0'
    rw [wPutF_at h0'']
    refine ⟨by simp, ?_⟩
    simp
    have hh : h < st.length := (List.getElem?_eq_some_iff.mp h0).1
    have hst : ((S ++ [Cell.lst (dInts (joinL f s t))]).set h (Cell.ins "Hearing" [("first", .ob S.length)])).length = st.length + 2 := by simp [hSl]
    refine gc_all (by rw [hst]; omega) (p _ S.length ?_ ?_ ?_)
    · refine Keep.trans (s2 := S ++ [Cell.lst (dInts (joinL f s t))]) ?_ Keep.set
      rw [← hS, List.append_assoc]
      exact Keep.app
    · rw [List.getElem?_set_self (by simp [hSl]; omega)]
    · rw [List.getElem?_set_ne (by omega)]
      simp
end Hd
set_option Elab.async false
set_option linter.all false
set_option maxRecDepth 100000
set_option maxHeartbeats 2000000
/-! K5: the making of a hearing. -/
namespace Hd
open PySem PySem.Spec PyProof.Rows L2 Vd

def Ch.ok (m : Nat) : Ch → Prop
  | .held s => s < m
  | .idle s => s < m
  | .loose s t => s < m ∧ t < m
  | .same s t => s < m ∧ t < m
def jn (f : List Nat) : Ch → List Nat
  | .same s t => joinL f s t
  | _ => f
def ofKind (k : Str) (cs : List Ch) : List Ch := cs.filter fun c => decide (c.kind = k)
def hFirst (m : Nat) (cs : List Ch) : List Nat := (ofKind "same" cs).foldl jn (List.range m)
def mk (f : List Nat) (r : List Bool) : Ch → List Bool
  | .idle s => r.set (gN f s) true
  | .held s => r.set (gN f s) true
  | _ => r
def hMarks (k : Str) (m : Nat) (f : List Nat) (cs : List Ch) : List Bool := (ofKind k cs).foldl (mk f) (List.replicate m false)
def pr (f : List Nat) (p : List (List Key × D)) : Ch → List (List Key × D)
  | .loose s t => putD (putD p [.inl (gN f s : Int), .inl (gN f t : Int)] (.bl true)) [.inl (gN f t : Int), .inl (gN f s : Int)] (.bl true)
  | _ => p
def hPrs (f : List Nat) (cs : List Ch) : List (List Key × D) := (ofKind "loose" cs).foldl (pr f) []
def hearOf (m : Nat) (cs : List Ch) : Hear := ⟨hFirst m cs, hMarks "idle" m (hFirst m cs) cs, hMarks "held" m (hFirst m cs) cs, hPrs (hFirst m cs) cs⟩
theorem ofKind_mem {k : Str} {cs : List Ch} {c : Ch} (h : c ∈ ofKind k cs) : c ∈ cs ∧ c.kind = k := by
  unfold ofKind at h
  rw [List.mem_filter, decide_eq_true_eq] at h
  exact h
theorem wf_fold {m : Nat} : ∀ {cs : List Ch} {f : List Nat}, (∀ c ∈ cs, c.ok m) → WfF m f → WfF m (cs.foldl jn f)
  | [], f, _, w => w
  | c :: cs, f, h, w => by
    refine wf_fold (cs := cs) (fun x hx => h x (List.mem_cons_of_mem _ hx)) ?_
    have hc := h c List.mem_cons_self
    cases c with
    | same s t => exact w.join hc.1 hc.2
    | _ => exact w
theorem wf_first {m : Nat} {cs : List Ch} (h : ∀ c ∈ cs, c.ok m) : WfF m (hFirst m cs) := wf_fold (fun c hc => h c (ofKind_mem hc).1) (WfF.range m)
theorem mk_len {f : List Nat} {r : List Bool} {c : Ch} : (mk f r c).length = r.length := by cases c <;> simp [mk]
theorem marks_len {m : Nat} {f : List Nat} : ∀ {cs : List Ch} {r : List Bool}, r.length = m → (cs.foldl (mk f) r).length = m
  | [], _, h => h
  | c :: cs, r, h => marks_len (cs := cs) (by rw [mk_len]; exact h)
theorem hear_wf {m : Nat} {cs : List Ch} (h : ∀ c ∈ cs, c.ok m) : (hearOf m cs).Wf m :=
  ⟨(wf_first h).1, marks_len (by simp), marks_len (by simp), (wf_first h).2⟩
def spInit : DSp := fun ds st P => ∃ (h : Nat) (ns : List Str) (cs : List Ch), ds = [.ob h, dSet ns cs] ∧ st[h]? = some (.ins "Hearing" []) ∧ ns.length ≤ 1000 ∧ cs.length ≤ 1000 ∧ (∀ c ∈ cs, c.ok ns.length) ∧
  ∀ st', Keep st st' [h] → HearAt st' h (hearOf ns.length cs) → P .non st'
theorem Keep.set' {st st' : Sto} {j : Nat} {c : Cell} {ex : List Nat} (k : Keep st st' ex) (hj : st.length ≤ j) : Keep st (st'.set j c) ex := ⟨by rw [List.length_set]; exact k.1, fun i hi hn => by rw [List.getElem?_set_ne (by omega)]; exact k.2 i hi hn⟩
theorem Keep.add {st st' g : Sto} {ex : List Nat} (k : Keep st st' ex) : Keep st (st' ++ g) ex := k.trans Keep.app
theorem rng_ints (m : Nat) : rngD 0 m = dInts (List.range m) := by
  refine List.ext_getElem? fun i => ?_
  by_cases hi : i < m
  · simp [rngD, dInts, hi]
  · simp [rngD, dInts, hi]
theorem kMul_lst {st : Sto} {n m : Nat} {xs : List D} {P : D → Sto → Prop} (h : st[n]? = some (.lst xs)) (hm : xs.length * m ≤ 100000) (h2 : m ≤ 1000) : kMul (.ob n) (.int (m : Nat)) st P = P (.ob st.length) (st ++ [.lst (List.replicate m xs).flatten]) := by
  simp only [kMul, h, Int.toNat_natCast]
  apply propext
  constructor
  · intro q; exact q.2.2.2
  · intro q; exact ⟨by omega, by omega, hm, q⟩
theorem flat_rep {α : Type} {x : α} : ∀ m : Nat, (List.replicate m [x]).flatten = List.replicate m x
  | 0 => rfl
  | m + 1 => by rw [List.replicate_succ, List.flatten_cons, flat_rep m]; rfl
/-- the object while it is filled -/
abbrev C1 (i : Nat) : Cell := .ins "Hearing" [("first", .ob i)]
abbrev C2 (i j : Nat) : Cell := .ins "Hearing" [("first", .ob i), ("idle", .ob j)]
abbrev C3 (i j k : Nat) : Cell := .ins "Hearing" [("first", .ob i), ("idle", .ob j), ("held", .ob k)]
abbrev C4 (i j k l : Nat) : Cell := .ins "Hearing" [("first", .ob i), ("idle", .ob j), ("held", .ob k), ("pairs", .ob l)]
abbrev cInts (f : List Nat) : Cell := .lst (dInts f)
abbrev cBls (f : List Bool) : Cell := .lst (f.map D.bl)
def R1 (st : Sto) (h : Nat) (f : List Nat) (st' : Sto) : Prop := Keep st st' [h] ∧ ∃ i, st'[h]? = some (C1 i) ∧ st'[i]? = some (cInts f) ∧ i ≠ h
def R3 (st : Sto) (h i j k : Nat) (f : List Nat) (a b : List Bool) (st' : Sto) : Prop := Keep st st' [h] ∧ st'[h]? = some (C3 i j k) ∧ st'[i]? = some (cInts f) ∧ st'[j]? = some (cBls a) ∧ st'[k]? = some (cBls b) ∧ st.length ≤ j ∧ st.length ≤ k ∧ i ≠ j ∧ i ≠ k ∧ j ≠ k ∧ h ≠ i ∧ h ≠ j ∧ h ≠ k
def R4 (st : Sto) (h i j k l : Nat) (f : List Nat) (a b : List Bool) (p : List (List Key × D)) (st' : Sto) : Prop := Keep st st' [h] ∧ st'[h]? = some (C4 i j k l) ∧ st'[i]? = some (cInts f) ∧ st'[j]? = some (cBls a) ∧ st'[k]? = some (cBls b) ∧ st'[l]? = some (.dT p) ∧ st.length ≤ l ∧ i ≠ l ∧ j ≠ l ∧ k ≠ l ∧ h ≠ l
theorem get_lt {st : Sto} {k : Nat} {c : Cell} (h : st[k]? = some c) : k < st.length := (List.getElem?_eq_some_iff.mp h).1
/-- the lots are put together -/
theorem phase3 {st : Sto} {h m : Nat} {E1 : D} {F : List Nat} {W : WEnds} {stb : Sto → Prop} (hst : ∀ s, stb s) (hm : m ≤ 1000) (fin : ∀ o3 o4 o5 o6 o7 o8 st', R1 st h F st' → W.nx [some (.ob h), some E1, some (.int (m : Nat)), o3, o4, o5, o6, o7, o8] st') :
    ∀ ds env st', (∃ (rest : List Ch) (f : List Nat) (o3 o4 o5 o6 o7 o8 : Option D), ds = rest.map Ch.d ∧ env = [some (.ob h), some E1, some (.int (m : Nat)), o3, o4, o5, o6, o7, o8] ∧ (∀ c ∈ rest, c.kind = "same" ∧ c.ok m) ∧ R1 st h f st' ∧ WfF m f ∧ rest.foldl jn f = F) →
      wLoop (wgSeq 3 (wgCons (wgName 4) (wgCons (wgName 5) (wgCons (wgName 6) wgNil)))) (wsExpr (wMeth "Hearing" "join" 3 spJoin (wVar 0) (waCons (wVar 5) (waCons (wVar 6) waNil)))) stb ds W env st' := by
  intro ds env st'
  refine loop_ind (fun ds env st' => ∃ (rest : List Ch) (f : List Nat) (o3 o4 o5 o6 o7 o8 : Option D), ds = rest.map Ch.d ∧ env = [some (.ob h), some E1, some (.int (m : Nat)), o3, o4, o5, o6, o7, o8] ∧ (∀ c ∈ rest, c.kind = "same" ∧ c.ok m) ∧ R1 st h f st' ∧ WfF m f ∧ rest.foldl jn f = F) (fun env st' ⟨rest, f, o3, o4, o5, o6, o7, o8, e1, e2, hr, r, w, hf⟩ => ?_) (fun d ds env st' ⟨rest, f, o3, o4, o5, o6, o7, o8, e1, e2, hr, r, w, hf⟩ ih => ?_) ds env st'
  · subst e2
    cases rest with
    | nil => exact ⟨hst _, fin _ _ _ _ _ _ _ (by rw [← hf]; exact r)⟩
    | cons _ _ => simp at e1
  · subst e2
    cases rest with
    | nil => simp at e1
    | cons c rest =>
      simp only [List.map_cons, List.cons.injEq] at e1
      obtain ⟨e3, e4⟩ := e1
      subst e3
      obtain ⟨hk, hok⟩ := hr c List.mem_cons_self
      refine ⟨hst _, ?_⟩
      obtain ⟨kp, i, g1, g2, g3⟩ := id r
      cases c with
      | same s t =>
        simp [Ch.d, seqAt]
        refine ⟨⟨_, g1, by simp [-List.lookup_eq_none_iff]⟩, h, s, t, i, m, f, rfl, g1, g2, w, hm, hok.1, hok.2, fun s2 j q1 q2 q3 => ih _ _ ⟨rest, joinL f s t, _, _, _, _, _, _, e4, rfl, fun x hx => hr x (List.mem_cons_of_mem _ hx), ⟨kp.trans q1, j, q2, q3, ?_⟩, w.join hok.1 hok.2, hf⟩⟩
        rintro rfl
        rw [q2] at q3
        cases q3
      | held s => simp [Ch.kind] at hk
      | idle s => simp [Ch.kind] at hk
      | loose s t => simp [Ch.kind] at hk
theorem ixN_nat {n i : Nat} (h : i < n) : ixN n (i : Int) = some i := by
  unfold ixN
  rw [if_pos (by omega), if_pos (by omega)]
  simp
theorem wPut_lst {st : Sto} {n i : Nat} {xs : List D} {v : D} {P : Sto → Prop} (h : st[n]? = some (.lst xs)) (hi : i < xs.length) : wPut (.ob n) (.int (i : Nat)) v st P = P (st.set n (.lst (xs.set i v))) := by
  simp only [wPut, h, ixN_nat hi]
/-- marks of a kind -/
theorem phase6 {st0 : Sto} {h i j k r m : Nat} {E1 E7 : D} {f : List Nat} {y : List Bool} {W : WEnds} (h0 : st0[h]? = some (C3 i j k)) (hi : st0[i]? = some (cInts f)) (w : WfF m f) (hr : r < st0.length) (rh : r ≠ h) (ri : r ≠ i)
    (o5 o6 : Option D)
    (fin : ∀ o3 o4, W.nx [some (.ob h), some E1, some (.int (m : Nat)), o3, o4, o5, o6, some E7, some (.ob r)] (st0.set r (cBls y))) :
    ∀ ds env st', (∃ (rest : List Ch) (x : List Bool) (o3 o4 : Option D), ds = rest.map Ch.d ∧ env = [some (.ob h), some E1, some (.int (m : Nat)), o3, o4, o5, o6, some E7, some (.ob r)] ∧ st' = st0.set r (cBls x) ∧ x.length = m ∧ (∀ c ∈ rest, (c.kind = "idle" ∨ c.kind = "held") ∧ c.ok m) ∧ rest.foldl (mk f) x = y) →
      wLoop (wgSeq 2 (wgCons (wgName 4) (wgCons (wgName 3) wgNil))) (wsAsg (wK (.bl true)) (wgSub (wVar 8) (w2 kIx (wFld "Hearing" "first" (wVar 0)) (wVar 3)))) (fun _ => True) ds W env st' := by
  intro ds env st'
  refine loop_ind (fun ds env st' => ∃ (rest : List Ch) (x : List Bool) (o3 o4 : Option D), ds = rest.map Ch.d ∧ env = [some (.ob h), some E1, some (.int (m : Nat)), o3, o4, o5, o6, some E7, some (.ob r)] ∧ st' = st0.set r (cBls x) ∧ x.length = m ∧ (∀ c ∈ rest, (c.kind = "idle" ∨ c.kind = "held") ∧ c.ok m) ∧ rest.foldl (mk f) x = y) (fun env st' ⟨rest, x, o3, o4, e1, e2, e3, hx, hc, hf⟩ => ?_) (fun d ds env st' ⟨rest, x, o3, o4, e1, e2, e3, hx, hc, hf⟩ ih => ?_) ds env st'
  · subst e2 e3
    cases rest with
    | nil => exact ⟨trivial, by have := fin o3 o4; rw [← hf] at this; exact this⟩
    | cons _ _ => simp at e1
  · subst e2 e3
    cases rest with
    | nil => simp at e1
    | cons c rest =>
      simp only [List.map_cons, List.cons.injEq] at e1
      obtain ⟨e3, e4⟩ := e1
      subst e3
      obtain ⟨hk, hok⟩ := hc c List.mem_cons_self
      refine ⟨trivial, ?_⟩
      have g0 : (st0.set r (cBls x))[h]? = some (C3 i j k) := by rw [List.getElem?_set_ne rh]; exact h0
      have gi : (st0.set r (cBls x))[i]? = some (cInts f) := by rw [List.getElem?_set_ne ri]; exact hi
      have gr : (st0.set r (cBls x))[r]? = some (cBls x) := List.getElem?_set_self hr
      have main : ∀ s : Nat, s < m → mk f x c = x.set (gN f s) true → wPut (.ob r) (.int (gN f s : Nat)) (.bl true) (st0.set r (cBls x)) (fun s3 => wLoop (wgSeq 2 (wgCons (wgName 4) (wgCons (wgName 3) wgNil))) (wsAsg (wK (.bl true)) (wgSub (wVar 8) (w2 kIx (wFld "Hearing" "first" (wVar 0)) (wVar 3)))) (fun _ => True) ds W
          [some (.ob h), some E1, some (.int (m : Nat)), some (.int (s : Nat)), some (.str c.kind), o5, o6, some E7, some (.ob r)] s3) := fun s hs hm => by
        obtain ⟨a1, a2, a3⟩ := w.at hs
        rw [wPut_lst gr (by simp [hx]; exact a2)]
        refine ih _ _ ⟨rest, mk f x c, _, _, e4, rfl, ?_, by rw [mk_len]; exact hx, fun z hz => hc z (List.mem_cons_of_mem _ hz), hf⟩
        rw [hm, List.set_set]
        simp only [cBls, List.map_set]
      cases c with
      | idle s =>
        obtain ⟨a1, a2, a3⟩ := w.at (show s < m from hok)
        have := main s hok rfl
        simp [Ch.d, seqAt, fldAt, g0, kIx_lst gi, at_ints a1]
        exact this
      | held s =>
        obtain ⟨a1, a2, a3⟩ := w.at (show s < m from hok)
        have := main s hok rfl
        simp [Ch.d, seqAt, fldAt, g0, kIx_lst gi, at_ints a1]
        exact this
      | same s t => simp [Ch.kind] at hk
      | loose s t => simp [Ch.kind] at hk
/-- loose pairs -/
theorem phase8 {st0 : Sto} {h i j k l m : Nat} {E1 : D} {f : List Nat} {y : List (List Key × D)} {W : WEnds} {o7 o8 : Option D} (h0 : st0[h]? = some (C4 i j k l)) (hi : st0[i]? = some (cInts f)) (w : WfF m f) (hl : l < st0.length) (lh : l ≠ h) (li : l ≠ i)
    (fin : ∀ o3 o4 o5 o6, W.nx [some (.ob h), some E1, some (.int (m : Nat)), o3, o4, o5, o6, o7, o8] (st0.set l (.dT y))) :
    ∀ ds env st', (∃ (rest : List Ch) (x : List (List Key × D)) (o3 o4 o5 o6 : Option D), ds = rest.map Ch.d ∧ env = [some (.ob h), some E1, some (.int (m : Nat)), o3, o4, o5, o6, o7, o8] ∧ st' = st0.set l (.dT x) ∧ x.length + 2 * rest.length ≤ 50000 ∧ (∀ c ∈ rest, c.kind = "loose" ∧ c.ok m) ∧ rest.foldl (pr f) x = y) →
      wLoop (wgSeq 3 (wgCons (wgName 4) (wgCons (wgName 5) (wgCons (wgName 6) wgNil)))) (wsSeq (wsAsg (wK (.bl true)) (wgSub (wFld "Hearing" "pairs" (wVar 0)) (wTup (waCons (w2 kIx (wFld "Hearing" "first" (wVar 0)) (wVar 5)) (waCons (w2 kIx (wFld "Hearing" "first" (wVar 0)) (wVar 6)) waNil)))))
      (wsAsg (wK (.bl true)) (wgSub (wFld "Hearing" "pairs" (wVar 0)) (wTup (waCons (w2 kIx (wFld "Hearing" "first" (wVar 0)) (wVar 6)) (waCons (w2 kIx (wFld "Hearing" "first" (wVar 0)) (wVar 5)) waNil)))))) (fun _ => True) ds W env st' := by
  intro ds env st'
  refine loop_ind (fun ds env st' => ∃ (rest : List Ch) (x : List (List Key × D)) (o3 o4 o5 o6 : Option D), ds = rest.map Ch.d ∧ env = [some (.ob h), some E1, some (.int (m : Nat)), o3, o4, o5, o6, o7, o8] ∧ st' = st0.set l (.dT x) ∧ x.length + 2 * rest.length ≤ 50000 ∧ (∀ c ∈ rest, c.kind = "loose" ∧ c.ok m) ∧ rest.foldl (pr f) x = y) (fun env st' ⟨rest, x, o3, o4, o5, o6, e1, e2, e3, hx, hc, hf⟩ => ?_) (fun d ds env st' ⟨rest, x, o3, o4, o5, o6, e1, e2, e3, hx, hc, hf⟩ ih => ?_) ds env st'
  · subst e2 e3
    cases rest with
    | nil => exact ⟨trivial, by have := fin o3 o4 o5 o6; rw [← hf] at this; exact this⟩
    | cons _ _ => simp at e1
  · subst e2 e3
    cases rest with
    | nil => simp at e1
    | cons c rest =>
      simp only [List.map_cons, List.cons.injEq] at e1
      obtain ⟨e3, e4⟩ := e1
      subst e3
      obtain ⟨hk, hok⟩ := hc c List.mem_cons_self
      refine ⟨trivial, ?_⟩
      have g0 : ∀ z, (st0.set l (.dT z))[h]? = some (C4 i j k l) := fun z => by rw [List.getElem?_set_ne lh]; exact h0
      have gi : ∀ z, (st0.set l (.dT z))[i]? = some (cInts f) := fun z => by rw [List.getElem?_set_ne li]; exact hi
      have gl : ∀ z, (st0.set l (.dT z))[l]? = some (.dT z) := fun z => List.getElem?_set_self hl
      cases c with
      | loose s t =>
        obtain ⟨a1, a2, a3⟩ := w.at (show s < m from hok.1)
        obtain ⟨b1, b2, b3⟩ := w.at (show t < m from hok.2)
        have p1 : ∀ (q : List (List Key × D)) k v, (putD q k v).length ≤ q.length + 1 := fun q k v => by
          unfold putD; split <;> simp
        have hl2 := p1 x [.inl (gN f s : Int), .inl (gN f t : Int)] (.bl true)
        simp only [List.length_cons] at hx
        simp [Ch.d, seqAt, fldAt, g0, kIx_lst (gi x), at_ints a1, at_ints b1, wPut, gl]
        refine ⟨by omega, ?_⟩
        simp [List.set_set, g0, kIx_lst (gi _), at_ints a1, at_ints b1, gl]
        refine ⟨by omega, ih _ _ ⟨rest, pr f x (.loose s t), _, _, _, _, e4, rfl, rfl, ?_, fun z hz => hc z (List.mem_cons_of_mem _ hz), hf⟩⟩
        have hl3 := p1 (putD x [.inl (gN f s : Int), .inl (gN f t : Int)] (.bl true)) [.inl (gN f t : Int), .inl (gN f s : Int)] (.bl true)
        simp only [pr]
        omega
      | same s t => simp [Ch.kind] at hk
      | idle s => simp [Ch.kind] at hk
      | held s => simp [Ch.kind] at hk
theorem set_same {st : Sto} {k : Nat} {c : Cell} (h : st[k]? = some c) : st.set k c = st := by
  refine List.ext_getElem? fun j => ?_
  by_cases e : j = k
  · subst e; rw [List.getElem?_set_self (get_lt h), h]
  · rw [List.getElem?_set_ne (Ne.symm e)]
theorem cBls_rep {m : Nat} : Cell.lst (List.replicate m (D.bl false)) = cBls (List.replicate m false) := by simp [cBls]
theorem keeps_init : Keeps 2 9 (w_Hearing_init spChangesOf spJoin) spInit := by
  intro ds st P hl h1 h2 ⟨h, ns, cs, e, h0, hn, hc, hok, p⟩
  subst e
  have hh : h < st.length := get_lt h0
  simp only [w_Hearing_init, startE]
  refine seq_step fun k1 hk1 => ?_
  simp [dSet, kLen, lenD]
  refine hk1 _ _ ?_
  clear hk1 k1
  refine seq_step fun k2 hk2 => ?_
  simp [wiRng1, wipeE]
  refine ⟨by omega, ?_⟩
  refine comp_mapD (fun d => d) trivial (by rw [rng_ints]; simp [dInts]; omega) (fun d hd X Y q => by simpa using q) ?_
  rw [rng_ints]
  simp only [List.map_id', List.nil_append]
  rw [wPutF_at (get_app h0)]
  refine ⟨by simp, hk2 _ _ ?_⟩
  clear hk2 k2
  have r1 : R1 st h (List.range ns.length) ((st ++ [cInts (List.range ns.length)]).set h (C1 st.length)) := by
    refine ⟨Keep.app.trans Keep.set, st.length, ?_, ?_, by omega⟩
    · rw [List.getElem?_set_self (by simp; omega)]
    · rw [List.getElem?_set_ne (by omega)]; simp
  simp only [putFD_nil]
  generalize (st ++ [Cell.lst (dInts (List.range ns.length))]).set h (C1 st.length) = S1 at r1 ⊢
  refine seq_step fun k3 hk3 => ?_
  simp [wiSeq]
  refine ⟨ns, cs, "same", rfl, hc, ?_⟩
  simp
  refine phase3 (m := ns.length) (F := hFirst ns.length cs) (fun _ => trivial) (by omega) (fun o3 o4 o5 o6 o7 o8 st' r => hk3 _ _ ?_) _ _ _ ⟨ofKind "same" cs, List.range ns.length, none, none, none, none, none, none, rfl, rfl, fun c hc' => ⟨(ofKind_mem hc').2, hok c (ofKind_mem hc').1⟩, r1, WfF.range _, rfl⟩
  clear hk3 k3 r1 S1
  have wf := wf_first (m := ns.length) hok
  generalize hF : hFirst ns.length cs = F at r wf
  obtain ⟨kp, i, g1, g2, g3⟩ := r
  have hs' : h < st'.length := get_lt g1
  have is' : i < st'.length := get_lt g2
  have ls' : st.length ≤ st'.length := kp.1
  refine seq_step fun k4 hk4 => ?_
  simp
  rw [kMul_lst (n := st'.length) (xs := [.bl false]) (by simp) (by simp; omega) (by omega)]
  rw [flat_rep, cBls_rep]
  simp
  rw [wPutF_at (get_app g1)]
  refine ⟨by simp, hk4 _ _ ?_⟩
  clear hk4 k4
  have e4 : Cell.ins "Hearing" (putFD "idle" (.ob (st'.length + 1)) [("first", .ob i)]) = C2 i (st'.length + 1) := by simp
  rw [e4]
  have q4 : ∃ S4, S4 = (st' ++ [Cell.lst [D.bl false], cBls (List.replicate ns.length false)]).set h (C2 i (st'.length + 1)) := ⟨_, rfl⟩
  obtain ⟨S4, hS4⟩ := q4
  rw [← hS4]
  have k4 : Keep st S4 [h] := by rw [hS4]; exact (kp.add).trans Keep.set
  have l4 : S4.length = st'.length + 2 := by rw [hS4]; simp
  have a4 : S4[h]? = some (C2 i (st'.length + 1)) := by rw [hS4, List.getElem?_set_self (by simp; omega)]
  have b4 : S4[i]? = some (cInts F) := by rw [hS4, List.getElem?_set_ne (Ne.symm g3)]; exact get_app g2
  have c4 : S4[st'.length + 1]? = some (cBls (List.replicate ns.length false)) := by rw [hS4, List.getElem?_set_ne (by omega)]; simp
  clear hS4 e4
  refine seq_step fun k5 hk5 => ?_
  simp
  rw [kMul_lst (n := S4.length) (xs := [.bl false]) (by simp) (by simp; omega) (by omega)]
  rw [flat_rep, cBls_rep]
  simp
  rw [wPutF_at (get_app a4)]
  refine ⟨by simp, hk5 _ _ ?_⟩
  clear hk5 k5
  have e5 : Cell.ins "Hearing" (putFD "held" (.ob (S4.length + 1)) [("first", .ob i), ("idle", .ob (st'.length + 1))]) = C3 i (st'.length + 1) (S4.length + 1) := by simp
  rw [e5]
  obtain ⟨S5, hS5⟩ : ∃ S5, S5 = (S4 ++ [Cell.lst [D.bl false], cBls (List.replicate ns.length false)]).set h (C3 i (st'.length + 1) (S4.length + 1)) := ⟨_, rfl⟩
  rw [← hS5]
  have k5 : Keep st S5 [h] := by rw [hS5]; exact (k4.add).trans Keep.set
  have l5 : S5.length = S4.length + 2 := by rw [hS5]; simp
  have a5 : S5[h]? = some (C3 i (st'.length + 1) (S4.length + 1)) := by rw [hS5, List.getElem?_set_self (by simp; omega)]
  have b5 : S5[i]? = some (cInts F) := by rw [hS5, List.getElem?_set_ne (Ne.symm g3)]; exact get_app b4
  have c5 : S5[st'.length + 1]? = some (cBls (List.replicate ns.length false)) := by rw [hS5, List.getElem?_set_ne (by omega)]; exact get_app c4
  have d5 : S5[S4.length + 1]? = some (cBls (List.replicate ns.length false)) := by rw [hS5, List.getElem?_set_ne (by omega)]; simp
  clear hS5 e5
  refine seq_step fun k6 hk6 => ?_
  simp [wiSeq, fldAt, a5]
  rw [show ∀ g body stb W d1 d2 env st, wLoop g body stb [d1, d2] W env st = (stb st ∧ g d1 env st fun env2 st2 => body { nx := wLoop g body stb [d2] W, rt := W.rt, bk := W.nx, ct := wLoop g body stb [d2] W } env2 st2) from fun _ _ _ _ _ _ _ _ => rfl]
  refine ⟨trivial, ?_⟩
  simp [seqAt, wiSeq]
  refine ⟨ns, cs, "idle", rfl, hc, ?_⟩
  simp
  have W1 : ∀ g body stb W d1 ds env st, wLoop g body stb (d1 :: ds) W env st = (stb st ∧ g d1 env st fun env2 st2 => body { nx := wLoop g body stb ds W, rt := W.rt, bk := W.nx, ct := wLoop g body stb ds W } env2 st2) := fun _ _ _ _ _ _ _ _ => rfl
  have W0 : ∀ g body stb W env st, wLoop g body stb [] W env st = (stb st ∧ W.nx env st) := fun _ _ _ _ _ _ => rfl
  have set0 : S5.set (st'.length + 1) (cBls (List.replicate ns.length false)) = S5 := by
    exact set_same c5
  refine phase6 (st0 := S5) (h := h) (i := i) (j := st'.length + 1) (k := S4.length + 1) (r := st'.length + 1) (m := ns.length) (f := F) (y := hMarks "idle" ns.length F cs) a5 b5 wf (by omega) (by omega) (by omega) _ _ (fun o3' o4' => ?_) _ _ _
    ⟨ofKind "idle" cs, List.replicate ns.length false, _, _, rfl, rfl, set0.symm, by simp, fun c hc' => ⟨.inl (ofKind_mem hc').2, hok c (ofKind_mem hc').1⟩, rfl⟩
  obtain ⟨S6, hS6⟩ : ∃ S6, S6 = S5.set (st'.length + 1) (cBls (hMarks "idle" ns.length F cs)) := ⟨_, rfl⟩
  rw [← hS6]
  have k6' : Keep st S6 [h] := by rw [hS6]; exact k5.set' (by omega)
  have l6 : S6.length = S5.length := by rw [hS6]; simp
  have a6 : S6[h]? = some (C3 i (st'.length + 1) (S4.length + 1)) := by rw [hS6, List.getElem?_set_ne (by omega)]; exact a5
  have b6 : S6[i]? = some (cInts F) := by rw [hS6, List.getElem?_set_ne (by omega)]; exact b5
  have c6 : S6[st'.length + 1]? = some (cBls (hMarks "idle" ns.length F cs)) := by rw [hS6, List.getElem?_set_self (by omega)]
  have d6 : S6[S4.length + 1]? = some (cBls (List.replicate ns.length false)) := by rw [hS6, List.getElem?_set_ne (by omega)]; exact d5
  clear hS6 set0
  simp only [W1]
  refine ⟨trivial, ?_⟩
  simp [seqAt, wiSeq]
  refine ⟨ns, cs, "held", rfl, hc, ?_⟩
  simp
  have set1 : S6.set (S4.length + 1) (cBls (List.replicate ns.length false)) = S6 := by
    exact set_same d6
  refine phase6 (st0 := S6) (h := h) (i := i) (j := st'.length + 1) (k := S4.length + 1) (r := S4.length + 1) (m := ns.length) (f := F) (y := hMarks "held" ns.length F cs) a6 b6 wf (by omega) (by omega) (by omega) _ _ (fun o3'' o4'' => ?_) _ _ _
    ⟨ofKind "held" cs, List.replicate ns.length false, _, _, rfl, rfl, set1.symm, by simp, fun c hc' => ⟨.inr (ofKind_mem hc').2, hok c (ofKind_mem hc').1⟩, rfl⟩
  obtain ⟨S7, hS7⟩ : ∃ S7, S7 = S6.set (S4.length + 1) (cBls (hMarks "held" ns.length F cs)) := ⟨_, rfl⟩
  rw [← hS7]
  have k7' : Keep st S7 [h] := by rw [hS7]; exact k6'.set' (by omega)
  have l7 : S7.length = S6.length := by rw [hS7]; simp
  have a7 : S7[h]? = some (C3 i (st'.length + 1) (S4.length + 1)) := by rw [hS7, List.getElem?_set_ne (by omega)]; exact a6
  have b7 : S7[i]? = some (cInts F) := by rw [hS7, List.getElem?_set_ne (by omega)]; exact b6
  have c7 : S7[st'.length + 1]? = some (cBls (hMarks "idle" ns.length F cs)) := by rw [hS7, List.getElem?_set_ne (by omega)]; exact c6
  have d7 : S7[S4.length + 1]? = some (cBls (hMarks "held" ns.length F cs)) := by rw [hS7, List.getElem?_set_self (by omega)]
  clear hS7 set1
  simp only [W0]
  refine ⟨trivial, hk6 _ _ ?_⟩
  clear hk6 k6
  refine seq_step fun k8 hk8 => ?_
  simp
  rw [wPutF_at (get_app a7)]
  refine ⟨by simp, hk8 _ _ ?_⟩
  clear hk8 k8
  have e8 : Cell.ins "Hearing" (putFD "pairs" (.ob S7.length) [("first", .ob i), ("idle", .ob (st'.length + 1)), ("held", .ob (S4.length + 1))]) = C4 i (st'.length + 1) (S4.length + 1) S7.length := by simp
  rw [e8]
  obtain ⟨S8, hS8⟩ : ∃ S8, S8 = (S7 ++ [Cell.dT []]).set h (C4 i (st'.length + 1) (S4.length + 1) S7.length) := ⟨_, rfl⟩
  rw [← hS8]
  have k8 : Keep st S8 [h] := by rw [hS8]; exact (k7'.add).trans Keep.set
  have l8 : S8.length = S7.length + 1 := by rw [hS8]; simp
  have a8 : S8[h]? = some (C4 i (st'.length + 1) (S4.length + 1) S7.length) := by rw [hS8, List.getElem?_set_self (by simp; omega)]
  have b8 : S8[i]? = some (cInts F) := by rw [hS8, List.getElem?_set_ne (by omega)]; exact get_app b7
  have c8 : S8[st'.length + 1]? = some (cBls (hMarks "idle" ns.length F cs)) := by rw [hS8, List.getElem?_set_ne (by omega)]; exact get_app c7
  have d8 : S8[S4.length + 1]? = some (cBls (hMarks "held" ns.length F cs)) := by rw [hS8, List.getElem?_set_ne (by omega)]; exact get_app d7
  have f8 : S8[S7.length]? = some (.dT []) := by rw [hS8, List.getElem?_set_ne (by omega)]; simp
  clear hS8 e8
  simp [wiSeq]
  refine ⟨ns, cs, "loose", rfl, hc, ?_⟩
  simp
  have set2 : S8.set S7.length (.dT []) = S8 := by
    exact set_same f8
  refine phase8 (st0 := S8) (h := h) (i := i) (j := st'.length + 1) (k := S4.length + 1) (l := S7.length) (m := ns.length) (f := F) (y := hPrs F cs) a8 b8 wf (by omega) (by omega) (by omega) (fun o3 o4 o5 o6 => ?_) _ _ _
    ⟨ofKind "loose" cs, [], _, _, _, _, rfl, rfl, set2.symm, ?_, fun c hc' => ⟨(ofKind_mem hc').2, hok c (ofKind_mem hc').1⟩, rfl⟩
  · refine gc_all (by simp; omega) (p _ (k8.set' (by omega)) ⟨i, st'.length + 1, S4.length + 1, S7.length, ?_, ?_, ?_, ?_, ?_⟩)
    · rw [List.getElem?_set_ne (by omega)]; exact a8
    · rw [List.getElem?_set_ne (by omega), b8, ← hF]; rfl
    · rw [List.getElem?_set_ne (by omega), c8, ← hF]; rfl
    · rw [List.getElem?_set_ne (by omega), d8, ← hF]; rfl
    · rw [List.getElem?_set_self (by omega), ← hF]; rfl
  · have : (ofKind "loose" cs).length ≤ cs.length := List.length_filter_le _ _
    simp; omega
end Hd
set_option Elab.async false
set_option linter.all false
set_option maxRecDepth 100000
set_option maxHeartbeats 2000000
/-! K6: kin; watches. -/
namespace Hd
open PySem PySem.Spec PyProof.Rows L2 Vd

def pInts (r : List Nat) : List PyData := r.map fun (n : Nat) => .int n
theorem toPys_ints : ∀ r : List Nat, toPys (dInts r) = some (pInts r)
  | [] => by simp [dInts, pInts, toPys]
  | a :: r => by
    have := toPys_ints r
    simp only [dInts, List.map_cons, pInts] at this ⊢
    simp [toPys, toPy, this]
theorem toPy_row (r : List Nat) : toPy (dRow r) = some (.tuple (pInts r)) := by simp [dRow, toPy, toPys_ints]
theorem eqv_ints : ∀ a b : List Nat, PyData.eqvAll (pInts a) (pInts b) = decide (a = b)
  | [], [] => by simp [pInts, PyData.eqvAll]
  | [], _ :: _ => by simp [pInts, PyData.eqvAll]
  | _ :: _, [] => by simp [pInts, PyData.eqvAll]
  | x :: a, y :: b => by
    have := eqv_ints a b
    simp only [pInts, List.map_cons] at this ⊢
    rw [PyData.eqvAll, this, PyData.eqv]
    apply Bool.eq_iff_iff.mpr
    simp
    intro _
    omega
theorem lay_ints : ∀ a : List Nat, PyData.canLayAll0 (pInts a) = true
  | [] => by simp [pInts, PyData.canLayAll0]
  | x :: a => by
    have := lay_ints a
    simp only [pInts, List.map_cons] at this ⊢
    simp [PyData.canLayAll0, PyData.canLay0, this]
theorem depth_pInts : ∀ a : List Nat, PyData.depthAll (pInts a) = 0
  | [] => by simp [pInts, PyData.depthAll]
  | x :: a => by
    have := depth_pInts a
    simp only [pInts, List.map_cons] at this ⊢
    simp [PyData.depthAll, PyData.depth, this]
theorem shaped_row (a : List Nat) : SeqAt.shaped (.tuple (pInts a)) = true := by
  simp [SeqAt.shaped, PyData.canLay0, lay_ints, PyData.depth, depth_pInts]
theorem kEq_row {F : Bool → Bool} {a b : List Nat} {st : Sto} {P : D → Sto → Prop} : kEqF F (dRow a) (dRow b) st P = P (.bl (F (decide (a = b)))) st := by
  have h1 : toPyS st (dRow a) = some (.tuple (pInts a)) := toPy_row a
  have h2 : toPyS st (dRow b) = some (.tuple (pInts b)) := toPy_row b
  show (match toPyS st (dRow a), toPyS st (dRow b) with
    | some p, some q => SeqAt.shaped p = true ∧ SeqAt.shaped q = true ∧ P (.bl (F (PyData.eqv p q))) st
    | _, _ => False) = _
  rw [h1, h2]
  simp only [shaped_row, true_and, PyData.eqv, eqv_ints]
/-- are two rows one as heard -/
def kinB (m : Nat) (cs : List Ch) (a b : List Nat) : Bool := decide (NF (hearOf m cs) (kept (hearOf m cs) a) = NF (hearOf m cs) (kept (hearOf m cs) b))
structure Good (ns : List Str) (cs : List Ch) : Prop where
  n : ns.length ≤ 1000
  c : cs.length ≤ 1000
  ok : ∀ c ∈ cs, c.ok ns.length
structure GoodR (ns : List Str) (r : List Nat) : Prop where
  b : Below ns.length r
  l : r.length ≤ 1000
def spKin : DSp := fun ds st P => ∃ (ns : List Str) (cs : List Ch) (a b : List Nat), ds = [dSet ns cs, dRow a, dRow b] ∧ Good ns cs ∧ GoodR ns a ∧ GoodR ns b ∧ P (.bl (kinB ns.length cs a b)) st
theorem keeps_kin : Keeps 3 4 (w_are_kin spInit spPlain) spKin := by
  intro ds st P hl h1 h2 ⟨ns, cs, a, b, e, gs, ga, gb, p⟩
  subst e
  simp [w_are_kin, startE]
  refine ⟨st.length, ns, cs, rfl, by simp, gs.n, gs.c, gs.ok, fun st' kp hh => ⟨rfl, ?_⟩⟩
  obtain ⟨g, rfl⟩ := Keep.of_app kp (Nat.le_refl _)
  have wf := hear_wf gs.ok
  refine ⟨st.length, ns.length, _, a, rfl, hh, wf, ga.b, ga.l, ?_⟩
  refine ⟨st.length, ns.length, _, b, rfl, hh, wf, gb.b, gb.l, ?_⟩
  have e := kEq_row (F := fun b => b) (a := NF (hearOf ns.length cs) (kept (hearOf ns.length cs) a)) (b := NF (hearOf ns.length cs) (kept (hearOf ns.length cs) b)) (st := st ++ g) (P := gcP st.length P)
  show kEqF _ _ _ _ _
  rw [e]
  exact gc_drop rfl h2 (by simp) p
end Hd
set_option Elab.async false
set_option linter.all false
set_option maxRecDepth 100000
set_option maxHeartbeats 2000000
/-! K7: watches. -/
namespace Hd
open PySem PySem.Spec PyProof.Rows L2 Vd

abbrev Pr := List Nat × List Nat
def dPair (p : Pr) : D := .tup [dRow p.1, dRow p.2]
abbrev cWatch (ns : List Str) (cs : List Ch) (q : Nat) : Cell := .ins "Watch" [("_setting", dSet ns cs), ("_pairs", .ob q)]
abbrev cPairs (ps : List Pr) : Cell := .lst (ps.map dPair)
def WatchAt (st : Sto) (w q : Nat) (ns : List Str) (cs : List Ch) (ps : List Pr) : Prop := st[w]? = some (cWatch ns cs q) ∧ st[q]? = some (cPairs ps)
structure GoodP (ns : List Str) (ps : List Pr) : Prop where
  r : ∀ p ∈ ps, GoodR ns p.1 ∧ GoodR ns p.2
  l : ps.length ≤ 1000
@[simp] theorem ok_pair {n : Nat} {p : Pr} : okD n (dPair p) = true := by simp [dPair, okDs]
@[simp] theorem ok_pairs {n : Nat} {ps : List Pr} : okDs n (ps.map dPair) = true := by
  rw [okDs_iff]; intro d hd
  obtain ⟨x, _, rfl⟩ := List.mem_map.mp hd
  simp
def spWInit : DSp := fun ds st P => ∃ (w : Nat) (ns : List Str) (cs : List Ch), ds = [.ob w, dSet ns cs] ∧ st[w]? = some (.ins "Watch" []) ∧ ∀ st' q, Keep st st' [w] → st.length ≤ q → WatchAt st' w q ns cs [] → P .non st'
theorem keeps_wInit : Keeps 2 2 w_Watch_init spWInit := by
  intro ds st P hl h1 h2 ⟨w, ns, cs, e, h0, p⟩
  subst e
  have hw := get_lt h0
  simp [w_Watch_init, startE]
  rw [wPutF_at h0]
  refine ⟨by simp, ?_⟩
  simp
  have e1 : (st.set w (.ins "Watch" [("_setting", dSet ns cs)]) ++ [Cell.lst []])[w]? = some (.ins "Watch" [("_setting", dSet ns cs)]) := get_app (List.getElem?_set_self hw)
  rw [wPutF_at e1]
  refine ⟨by simp, gc_all (by simp) (p _ st.length ?_ (Nat.le_refl _) ⟨?_, ?_⟩)⟩
  · exact Keep.trans (Keep.set.add) Keep.set
  · rw [List.getElem?_set_self (by simp; omega)]; simp [cWatch]
  · rw [List.getElem?_set_ne (by omega)]
    have : st.length = (st.set w (.ins "Watch" [("_setting", dSet ns cs)])).length := by simp
    rw [this, get_new0]; rfl
def seeS (m : Nat) (cs : List Ch) (a b : List Nat) : Str := if a = b then "plain" else if kinB m cs a b = true then "heard" else "strange"
def spSee : DSp := fun ds st P => ∃ (w q : Nat) (ns : List Str) (cs : List Ch) (ps : List Pr) (a b : List Nat), ds = [.ob w, dRow a, dRow b] ∧ WatchAt st w q ns cs ps ∧ Good ns cs ∧ GoodP ns ps ∧ GoodR ns a ∧ GoodR ns b ∧ P (.str (seeS ns.length cs a b)) (st.set q (cPairs (ps ++ [(a, b)])))
theorem keeps_see : Keeps 3 3 (w_Watch_see spKin) spSee := by
  intro ds st P hl h1 h2 ⟨w, q, ns, cs, ps, a, b, e, ⟨g1, g2⟩, gs, gp, ga, gb, p⟩
  subst e
  have hne : q ≠ w := by rintro rfl; rw [g1] at g2; cases g2
  simp [w_Watch_see, startE, fldAt, g1, isLst_at g2, okDs]
  rw [kAppend_at g2]
  refine ⟨by simp; have := gp.l; omega, ?_⟩
  have e1 : st.set q (.lst (ps.map dPair ++ [.tup [dRow a, dRow b]])) = st.set q (cPairs (ps ++ [(a, b)])) := by simp [cPairs, dPair]
  rw [e1]
  have g1' : (st.set q (cPairs (ps ++ [(a, b)])))[w]? = some (cWatch ns cs q) := by rw [List.getElem?_set_ne hne]; exact g1
  have fin : ∀ s : Str, seeS ns.length cs a b = s → gcP st.length P (.str s) (st.set q (cPairs (ps ++ [(a, b)]))) := fun s hs => gc_all (by simp) (by rw [← hs]; exact p)
  show kEqF _ _ _ _ _
  rw [kEq_row]
  simp
  split
  · rename_i c
    exact fin _ (by simp [seeS, c])
  · rename_i c
    simp [g1']
    refine ⟨ns, cs, a, b, rfl, gs, ga, gb, ?_⟩
    cases k : kinB ns.length cs a b with
    | true => simp; exact fin _ (by simp [seeS, c, k])
    | false => simp; exact fin _ (by simp [seeS, c, k])
def strangeL (m : Nat) (cs : List Ch) (k : Nat) : List Pr → List Nat
  | [] => []
  | p :: ps => (if kinB m cs p.1 p.2 = true then [] else [k]) ++ strangeL m cs (k + 1) ps
def spStrange : DSp := fun ds st P => ∃ (w q : Nat) (ns : List Str) (cs : List Ch) (ps : List Pr), ds = [.ob w] ∧ WatchAt st w q ns cs ps ∧ Good ns cs ∧ GoodP ns ps ∧ P (dRow (strangeL ns.length cs 0 ps)) st
theorem keeps_strange : Keeps 1 5 (w_Watch_strange spKin) spStrange := by
  intro ds st P hl h1 h2 ⟨w, q, ns, cs, ps, e, ⟨g1, g2⟩, gs, gp, p⟩
  subst e
  have a1 : ∀ x : Cell, (st ++ [x])[w]? = some (cWatch ns cs q) := fun x => get_app g1
  have a2 : ∀ x : Cell, (st ++ [x])[q]? = some (cPairs ps) := fun x => get_app g2
  simp [w_Watch_strange, startE, fldAt, a1, a2, wiEnum, enumD_K]
  refine loop_ind (fun ds env st' => ∃ (k : Nat) (r : List Pr) (found : List Nat), ds = enumK k (r.map dPair) ∧ st' = st ++ [.lst (dInts found)] ∧ (∃ o2 o3 o4, env = [some (.ob w), some (.ob st.length), o2, o3, o4]) ∧ GoodP ns r ∧ found.length + r.length ≤ 1000 ∧ P (dRow (found ++ strangeL ns.length cs k r)) st)
    (fun env st' ⟨k, r, found, e1, e2, ⟨o2, o3, o4, e3⟩, gr, hn, p⟩ => ?_) (fun d ds env st' ⟨k, r, found, e1, e2, ⟨o2, o3, o4, e3⟩, gr, hn, p⟩ ih => ?_) _ _ _ ⟨0, ps, [], rfl, rfl, ⟨_, _, _, rfl⟩, gp, by simpa using gp.l, by simpa using p⟩
  · subst e2 e3
    cases r with
    | nil =>
      simp [a2, kTupOf]
      exact gc_drop rfl h2 (by simp) (by simpa [strangeL, dRow] using p)
    | cons _ _ => simp at e1
  · subst e2 e3
    cases r with
    | nil => simp at e1
    | cons x r =>
      simp only [List.map_cons, enumK_cons, List.cons.injEq] at e1
      obtain ⟨e4, e5⟩ := e1
      subst e4
      have gx := gr.r x List.mem_cons_self
      have gr' : GoodP ns r := ⟨fun y hy => gr.r y (List.mem_cons_of_mem _ hy), by have := gr.l; simp at this; omega⟩
      simp only [List.length_cons] at hn
      simp [a1, a2, dPair, seqAt, fldAt]
      refine ⟨ns, cs, x.1, x.2, rfl, gs, gx.1, gx.2, ?_⟩
      unfold strangeL at p
      cases c : kinB ns.length cs x.1 x.2 with
      | true =>
        rw [c] at p
        simp
        exact ih _ _ ⟨k + 1, r, found, e5, rfl, ⟨_, _, _, rfl⟩, gr', by omega, by simpa using p⟩
      | false =>
        rw [c] at p
        simp
        exact ⟨by simp [dInts]; omega, ih _ _ ⟨k + 1, r, found ++ [k], e5, by simp [dInts], ⟨_, _, _, rfl⟩, gr', by simp; omega, by simpa using p⟩⟩
def spPairs : DSp := fun ds st P => ∃ (w q : Nat) (ns : List Str) (cs : List Ch) (ps : List Pr), ds = [.ob w] ∧ WatchAt st w q ns cs ps ∧ P (.tup (ps.map dPair)) st
theorem keeps_pairs : Keeps 1 1 w_Watch_pairs spPairs := by
  intro ds st P hl h1 h2 ⟨w, q, ns, cs, ps, e, ⟨g1, g2⟩, p⟩
  subst e
  simp [w_Watch_pairs, startE, fldAt, g1, g2, kTupOf]
  exact gc_same rfl h2 (by simp) p
theorem rows_good {ns : List Str} {c : Ch} (h : c.ok ns.length) : GoodR ns c.rows.1 ∧ GoodR ns c.rows.2 := by
  cases c <;> simp only [Ch.rows, Ch.ok] at h ⊢ <;> refine ⟨⟨fun x hx => ?_, by simp⟩, ⟨fun x hx => ?_, by simp⟩⟩ <;> simp at hx <;> omega
def spJoins : DSp := fun ds st P => ∃ (ns : List Str) (cs : List Ch) (c : Ch), ds = [dSet ns cs, c.d] ∧ Good ns cs ∧ c.ok ns.length ∧ P (.bl (kinB ns.length cs c.rows.1 c.rows.2)) st
theorem keeps_joins : Keeps 2 4 (w_joins spTwoRows spKin) spJoins := by
  intro ds st P hl h1 h2 ⟨ns, cs, c, e, gs, gc, p⟩
  subst e
  simp [w_joins, startE]
  refine ⟨c, rfl, ?_⟩
  simp [seqAt]
  exact ⟨ns, cs, _, _, rfl, gs, (rows_good gc).1, (rows_good gc).2, gc_same rfl h2 (by simp) p⟩
theorem Good.erase {ns : List Str} {cs : List Ch} (g : Good ns cs) (k : Nat) : Good ns (cs.eraseIdx k) := ⟨g.n, Nat.le_trans (len_erase _ _) g.c, fun c hc => g.ok c (mem_erase hc)⟩
def spIsSpare : DSp := fun ds st P => ∃ (ns : List Str) (cs : List Ch) (k : Nat) (c : Ch), ds = [dSet ns cs, .int k] ∧ Good ns cs ∧ cs[k]? = some c ∧ P (.bl (kinB ns.length (cs.eraseIdx k) c.rows.1 c.rows.2)) st
theorem keeps_isSpare : Keeps 2 2 (w_is_spare spWithout spJoins) spIsSpare := by
  intro ds st P hl h1 h2 ⟨ns, cs, k, c, e, gs, hk, p⟩
  subst e
  simp [w_is_spare, startE]
  refine ⟨ns, cs, k, rfl, (List.getElem?_eq_some_iff.mp hk).1, gs.c, ?_⟩
  have hc : atD (cs.map Ch.d) (k : Int) = some c.d := atD_nat (by simp [hk])
  simp [dSet, dChs, hc]
  exact ⟨ns, cs.eraseIdx k, c, rfl, gs.erase k, gs.ok c (List.mem_of_getElem? hk), gc_same rfl h2 (by simp) p⟩
end Hd
set_option Elab.async false
set_option linter.all false
set_option maxRecDepth 100000
set_option maxHeartbeats 2000000
/-! K8: all changes. -/
namespace Vd
open PySem PySem.Spec PyProof.Rows L2
theorem comp2_pure {g g1 : WG} {tt tt1 : WT} {wi1 : WI} {own1 : List Nat} {te : WE} {stb : Sto → Prop} {env : Env'} {st : Sto} {P : List D → Sto → Prop} (L : D → List D) (hs : stb st) : ∀ {ds acc : List D}, acc.length + (ds.flatMap L).length ≤ 100000 →
    (∀ d ∈ ds, ∀ (acc : List D) (Q : List D → Sto → Prop), acc.length + (L d).length ≤ 100000 → Q (acc ++ L d) st → g d env st fun env2 s2 => tt env2 s2 fun b s3 => if b = true then wi1 env2 s3 fun ds1 stb1 s4 => wCLoop g1 tt1 te stb1 (wipeE env2 own1) ds1 acc s4 Q else Q acc s3) →
    P (acc ++ ds.flatMap L) st → wC2Loop g tt wi1 own1 g1 tt1 te stb env ds acc st P
  | [], acc, _, _, p => ⟨hs, by simpa using p⟩
  | d :: ds, acc, hl, h, p => by
    rw [List.flatMap_cons, List.length_append] at hl
    refine ⟨hs, h d List.mem_cons_self acc (fun acc' s5 => wC2Loop g tt wi1 own1 g1 tt1 te stb env ds acc' s5 P) (by omega) ?_⟩
    exact comp2_pure L hs (by rw [List.length_append]; omega) (fun d hd => h d (List.mem_cons_of_mem _ hd)) (by rw [List.append_assoc, ← List.flatMap_cons]; exact p)
theorem chain_pure {g : WG} {tt : WT} {ch : WCh} {stb : Sto → Prop} {env : Env'} {st : Sto} {P : List D → Sto → Prop} (L : D → List D) (hs : stb st) : ∀ {ds acc : List D}, acc.length + (ds.flatMap L).length ≤ 100000 →
    (∀ d ∈ ds, ∀ (acc : List D) (Q : List D → Sto → Prop), acc.length + (L d).length ≤ 100000 → Q (acc ++ L d) st → g d env st fun env2 s2 => tt env2 s2 fun b s3 => if b = true then ch env2 acc s3 Q else Q acc s3) →
    P (acc ++ ds.flatMap L) st → wcLoop g tt ch stb env ds acc st P
  | [], acc, _, _, p => ⟨hs, by simpa using p⟩
  | d :: ds, acc, hl, h, p => by
    rw [List.flatMap_cons, List.length_append] at hl
    refine ⟨hs, h d List.mem_cons_self acc (fun acc' s5 => wcLoop g tt ch stb env ds acc' s5 P) (by omega) ?_⟩
    exact chain_pure L hs (by rw [List.length_append]; omega) (fun d hd => h d (List.mem_cons_of_mem _ hd)) (by rw [List.append_assoc, ← List.flatMap_cons]; exact p)
end Vd
namespace Hd
open PySem PySem.Spec PyProof.Rows L2 Vd
def prs (m : Nat) : List (Nat × Nat) := (List.range m).flatMap fun s => ((List.range m).filter fun t => decide (s < t)).map fun t => (s, t)
def every (m : Nat) : List Ch := (List.range m).map .held ++ (List.range m).map .idle ++ (prs m).map (fun p => .loose p.1 p.2) ++ (prs m).map (fun p => .same p.1 p.2)
theorem sorted_every {m : Nat} (h : m ≤ 5) : ((every m).map Ch.d).Pairwise (fun a b => leP a b = true) := by
  rcases m with _ | _ | _ | _ | _ | _ | m
  · decide +kernel
  · decide +kernel
  · decide +kernel
  · decide +kernel
  · decide +kernel
  · decide +kernel
  · omega
theorem every_len {m : Nat} (h : m ≤ 5) : (every m).length ≤ 30 := by
  rcases m with _ | _ | _ | _ | _ | _ | m
  · decide +kernel
  · decide +kernel
  · decide +kernel
  · decide +kernel
  · decide +kernel
  · decide +kernel
  · omega
theorem every_ok {m : Nat} (h : m ≤ 5) : ∀ c ∈ every m, c.ok m := by
  intro c hc
  simp only [every, prs, List.mem_append, List.mem_map, List.mem_range, List.mem_flatMap, List.mem_filter, decide_eq_true_eq, Prod.exists] at hc
  rcases hc with ((⟨s, hs, rfl⟩ | ⟨s, hs, rfl⟩) | ⟨s, t, ⟨s', h1, t', h2, e⟩, rfl⟩) | ⟨s, t, ⟨s', h1, t', h2, e⟩, rfl⟩
  · exact hs
  · exact hs
  · cases e; exact ⟨h1, h2.1⟩
  · cases e; exact ⟨h1, h2.1⟩
def pCh : Ch → PyData
  | .held s => .tuple [.str "held", .int s]
  | .idle s => .tuple [.str "idle", .int s]
  | .loose s t => .tuple [.str "loose", .int s, .int t]
  | .same s t => .tuple [.str "same", .int s, .int t]
theorem toPy_ch (c : Ch) : toPy c.d = some (pCh c) := by cases c <;> simp [Ch.d, pCh, toPy, toPys]
theorem toPys_chs : ∀ cs : List Ch, toPys (cs.map Ch.d) = some (cs.map pCh)
  | [] => by simp [toPys]
  | c :: cs => by simp [toPys, toPy_ch, toPys_chs cs]
theorem sortOk_chs {cs : List Ch} (h : cs.length ≤ 1000) : SortOk (cs.map pCh) := by
  refine ⟨fun d hd d' hd' => ?_, .inl fun d hd => ?_, fun d hd => ?_, by simp; omega⟩
  · obtain ⟨c, _, rfl⟩ := List.mem_map.mp hd
    obtain ⟨c', _, rfl⟩ := List.mem_map.mp hd'
    cases c <;> cases c' <;> simp [pCh, PySem.W.alike, PySem.W.alikeAll]
  · obtain ⟨c, _, rfl⟩ := List.mem_map.mp hd
    cases c <;> exact ⟨_, _, rfl⟩
  · obtain ⟨c, _, rfl⟩ := List.mem_map.mp hd
    cases c <;> simp [pCh, PyData.depth, PyData.depthAll]
def spAll : DSp := fun ds st P => ∃ m : Nat, ds = [.int m] ∧ m ≤ 5 ∧ P (dChs (every m)) st
theorem keeps_all : Keeps 1 7 w_all_changes spAll := by
  intro ds st P hl h1 h2 ⟨m, e, hm, p⟩
  subst e
  have hrl : (dInts (List.range m)).length = m := by simp [dInts]
  simp only [w_all_changes, startE]
  refine seq_step fun k1 hk1 => ?_
  simp [kRng]
  refine hk1 _ _ ?_
  clear hk1 k1
  refine seq_step fun k2 hk2 => ?_
  simp [wiSeq, wipeE, dvD]
  refine comp2_pure (fun d => (dInts (List.range m)).map fun i => .tup [d, i]) trivial (by simp [dInts]; omega) (fun d hd acc Q ha q => ?_) ?_
  · simp [wiSeq]
    refine ⟨by omega, ?_⟩
    simp [rng_ints, wipeE]
    refine comp_mapD (fun i => .tup [d, i]) trivial (by rw [List.length_map] at ha; omega) (fun i hi X Y q => by simpa using q) q
  simp
  refine hk2 _ _ ?_
  clear hk2 k2
  refine seq_step fun k3 hk3 => ?_
  simp [wiSeq, wipeE, dvD, lstOf_at]
  have hr5 : (List.range m).length ≤ 5 := by simpa using hm
  have lin2 : ∀ (d : D) (s : Nat) (l : List Nat), ((dInts l).flatMap fun t => match t with | .int j => if (s : Int) < j then [D.tup [d, .int (s : Nat), t]] else [] | _ => []) = (l.filter fun t => decide (s < t)).map fun t => D.tup [d, .int (s : Nat), .int (t : Nat)] := fun d s l => by
    induction l with
    | nil => rfl
    | cons a l ih =>
      simp only [dInts, List.map_cons, List.flatMap_cons] at ih ⊢
      rw [ih]
      by_cases c : s < a
      · rw [if_pos (by omega), List.filter_cons_of_pos (by simpa using c)]; rfl
      · rw [if_neg (by omega), List.filter_cons_of_neg (by simpa using c)]; rfl
  have lin1 : ∀ (d : D), ((dInts (List.range m)).flatMap fun i => match i with | .int s => ((List.range m).filter fun t => decide (s.toNat < t)).map fun t => D.tup [d, .int (s.toNat : Nat), .int (t : Nat)] | _ => []) = (prs m).map fun p => D.tup [d, .int (p.1 : Nat), .int (p.2 : Nat)] := fun d => by
    simp only [dInts, prs, List.flatMap_map, List.map_flatMap, List.map_map, Int.toNat_natCast]
    rfl
  have lp : (prs m).length ≤ 10 := by
    rcases m with _ | _ | _ | _ | _ | _ | m
    · decide +kernel
    · decide +kernel
    · decide +kernel
    · decide +kernel
    · decide +kernel
    · decide +kernel
    · omega
  refine chain_pure (fun d => (prs m).map fun p => D.tup [d, .int (p.1 : Nat), .int (p.2 : Nat)]) trivial (by simp; omega) (fun d hd acc Q ha q => ?_) ?_
  · simp [wiSeq]
    refine ⟨by omega, ?_⟩
    rw [rng_ints]
    simp only [wipeE, List.set_cons_succ, List.set_cons_zero]
    refine chain_pure (fun i => match i with | .int s => ((List.range m).filter fun t => decide (s.toNat < t)).map fun t => D.tup [d, .int (s.toNat : Nat), .int (t : Nat)] | _ => []) trivial (by rw [lin1]; exact ha) (fun i hi acc2 Q2 ha2 q2 => ?_) (by rw [lin1]; exact q)
    obtain ⟨s, hs, rfl⟩ := List.mem_map.mp hi
    simp [wiSeq]
    refine ⟨by omega, ?_⟩
    rw [rng_ints]
    simp only [wipeE, List.set_cons_succ, List.set_cons_zero]
    refine chain_pure (fun t => match t with | .int j => if (s : Int) < j then [D.tup [d, .int (s : Nat), t]] else [] | _ => []) trivial (by rw [lin2]; simpa using ha2) (fun t ht acc3 Q3 ha3 q3 => ?_) (by rw [lin2]; simpa using q2)
    obtain ⟨j, hj, rfl⟩ := List.mem_map.mp ht
    simp at q3 ha3 ⊢
    by_cases c : s < j
    · rw [if_pos c] at q3 ha3 ⊢
      exact ⟨by simp at ha3; omega, q3⟩
    · rw [if_neg c] at q3 ⊢
      simpa using q3
  · rw [lstOf_at get_new0]
    refine ⟨by simp [dInts]; omega, hk3 _ _ ?_⟩
    clear hk3 k3
    simp [wSortD, lstAt]
    have ee : (List.map (fun i => D.tup [.str "held", i]) (dInts (List.range m)) ++ (List.map (fun i => D.tup [.str "idle", i]) (dInts (List.range m)) ++ (List.map (fun p => D.tup [.str "loose", .int (p.1 : Nat), .int (p.2 : Nat)]) (prs m) ++ List.map (fun p => D.tup [.str "same", .int (p.1 : Nat), .int (p.2 : Nat)]) (prs m)))) = (every m).map Ch.d := by
      simp only [every, dInts, List.map_append, List.map_map, List.append_assoc]
      rfl
    rw [ee]
    refine ⟨⟨_, toPys_chs _, sortOk_chs (by have := every_len hm; omega)⟩, ?_⟩
    rw [List.mergeSort_of_pairwise (sorted_every hm)]
    exact gc_drop rfl h2 (by simp) p

/-! ### explaining, needed -/
def natsOf : List D → List Nat
  | [] => []
  | .int i :: r => i.toNat :: natsOf r
  | _ :: r => natsOf r
theorem natsOf_ints : ∀ l : List Nat, natsOf (dInts l) = l
  | [] => rfl
  | a :: l => by
    have := natsOf_ints l
    simp only [dInts, List.map_cons] at this ⊢
    simp [natsOf, this]
def explL (m : Nat) (cs : List Ch) (ps : List Pr) : List Ch → List Ch := List.filter fun c => ps.all fun p => kinB m (cs ++ [c]) p.1 p.2
def spExpl : DSp := fun ds st P => ∃ (w q : Nat) (ns : List Str) (cs : List Ch) (ps : List Pr), ds = [.ob w] ∧ WatchAt st w q ns cs ps ∧ ns.length ≤ 5 ∧ cs.length ≤ 100 ∧ Good ns cs ∧ GoodP ns ps ∧ P (dChs (explL ns.length cs ps (every ns.length))) st
theorem keeps_expl : Keeps 1 8 (w_Watch_explaining spAll spKin) spExpl := by
  intro ds st P hl h1 h2 ⟨w, q, ns, cs, ps, e, ⟨g1, g2⟩, hn5, hc100, gs, gp, p⟩
  subst e
  have a1 : ∀ x : Cell, (st ++ [x])[w]? = some (cWatch ns cs q) := fun x => get_app g1
  have a2 : ∀ x : Cell, (st ++ [x])[q]? = some (cPairs ps) := fun x => get_app g2
  simp only [w_Watch_explaining, startE]
  refine seq_step fun k1 hk1 => ?_
  simp [fldAt, g1, dSet, seqAt]
  refine hk1 _ _ ?_
  clear hk1 k1
  refine seq_step fun k2 hk2 => ?_
  simp
  refine hk2 _ _ ?_
  clear hk2 k2
  refine seq_step fun k3 hk3 => ?_
  simp [wiSeq, kLen, lenD]
  refine ⟨ns.length, rfl, hn5, ?_⟩
  simp [dChs]
  refine loop_ind (fun ds env st' => ∃ (r found : List Ch), ds = r.map Ch.d ∧ st' = st ++ [.lst (found.map Ch.d)] ∧ (∃ o4 o5 o6 o7, env = [some (.ob w), some (.tup (ns.map .str)), some (dChs cs), some (.ob st.length), o4, o5, o6, o7]) ∧ (∀ c ∈ r, c.ok ns.length) ∧ found.length + r.length ≤ 30 ∧ P (dChs (found ++ explL ns.length cs ps r)) st)
    (fun env st' ⟨r, found, e1, e2, ⟨o4, o5, o6, o7, e3⟩, hr, hn, p⟩ => ?_) (fun d ds env st' ⟨r, found, e1, e2, ⟨o4, o5, o6, o7, e3⟩, hr, hn, p⟩ ih => ?_) _ _ _ ⟨every ns.length, [], rfl, rfl, ⟨_, _, _, _, rfl⟩, every_ok hn5, by simpa using every_len hn5, by simpa using p⟩
  · subst e2 e3
    cases r with
    | nil =>
      refine ⟨trivial, hk3 _ _ ?_⟩
      simp [kTupOf]
      exact gc_drop rfl h2 (by simp) (by simpa [explL, dChs] using p)
    | cons _ _ => simp at e1
  · subst e2 e3
    cases r with
    | nil => simp at e1
    | cons x r =>
      simp only [List.map_cons, List.cons.injEq] at e1
      obtain ⟨e4, e5⟩ := e1
      subst e4
      have hx := hr x List.mem_cons_self
      have hr' : ∀ c ∈ r, c.ok ns.length := fun c hc => hr c (List.mem_cons_of_mem _ hc)
      simp only [List.length_cons] at hn
      refine ⟨trivial, ?_⟩
      simp only [wgName, List.set_cons_succ, List.set_cons_zero]
      refine seq_step fun k4 hk4 => ?_
      simp [dChs]
      refine ⟨by omega, hk4 _ _ ?_⟩
      clear hk4 k4
      have gw : Good ns (cs ++ [x]) := ⟨gs.n, by simp; omega, fun c hc => by
        rcases List.mem_append.mp hc with z | z
        · exact gs.ok c z
        · rw [List.mem_singleton.mp z]; exact hx⟩
      have es : D.tup [.tup (ns.map D.str), .tup (cs.map Ch.d ++ [x.d])] = dSet ns (cs ++ [x]) := by simp [dSet, dChs]
      rw [es]
      simp [wAll, wiSeq, fldAt, a1, a2, wipeE]
      refine comp_mapD (fun d => match d with | .tup [.tup a, .tup b] => .bl (kinB ns.length (cs ++ [x]) (natsOf a) (natsOf b)) | _ => .bl false) (a2 _) (by simp; have := gp.l; omega) (fun d hd X Y q' => ?_) ?_
      · obtain ⟨pp, hpp, rfl⟩ := List.mem_map.mp hd
        have gx := gp.r pp hpp
        simp [dPair, seqAt]
        exact ⟨ns, cs ++ [x], pp.1, pp.2, rfl, gw, gx.1, gx.2, by simpa [dPair, dRow, natsOf_ints] using q'⟩
      · have eb : ([] : List D) ++ (ps.map dPair).map (fun d => match d with | .tup [.tup a, .tup b] => .bl (kinB ns.length (cs ++ [x]) (natsOf a) (natsOf b)) | _ => .bl false) = (ps.map fun p => kinB ns.length (cs ++ [x]) p.1 p.2).map D.bl := by
          simp only [List.nil_append, List.map_map]
          refine List.map_congr_left fun pp _ => ?_
          simp [dPair, dRow, natsOf_ints]
        rw [eb, boolsD_map]
        simp only [truD_bl]
        have ex : explL ns.length cs ps (x :: r) = (if (ps.all fun p => kinB ns.length (cs ++ [x]) p.1 p.2) = true then [x] else []) ++ explL ns.length cs ps r := by
          unfold explL
          rw [List.filter_cons]
          split <;> rfl
        rw [ex] at p
        by_cases c : (ps.all fun p => kinB ns.length (cs ++ [x]) p.1 p.2) = true
        · rw [if_pos c] at p
          have c' : ¬ false ∈ ps.map fun p => kinB ns.length (cs ++ [x]) p.1 p.2 := by
            simp only [List.all_eq_true] at c
            intro hm
            obtain ⟨pp, h3, h4⟩ := List.mem_map.mp hm
            rw [c pp h3] at h4; cases h4
          rw [if_neg c']
          simp only [isLst_new, kAppend_new, true_and]
          exact ⟨by simp; omega, ih _ _ ⟨r, found ++ [x], e5, by simp, ⟨_, _, _, _, rfl⟩, hr', by simp; omega, by simpa using p⟩⟩
        · rw [if_neg c] at p
          have c' : false ∈ ps.map fun p => kinB ns.length (cs ++ [x]) p.1 p.2 := by
            simpa using c
          rw [if_pos c']
          exact ih _ _ ⟨r, found, e5, rfl, ⟨_, _, _, _, rfl⟩, hr', by omega, by simpa using p⟩
end Hd
set_option Elab.async false
set_option linter.all false
set_option maxRecDepth 100000
set_option maxHeartbeats 2000000
/-! K9: needed. -/
namespace Hd
open PySem PySem.Spec PyProof.Rows L2 Vd
def pBls (r : List Bool) : List PyData := r.map .bool
theorem toPys_bls : ∀ r : List Bool, toPys (r.map D.bl) = some (pBls r)
  | [] => by simp [pBls, toPys]
  | a :: r => by
    have := toPys_bls r
    simp only [pBls, List.map_cons] at this ⊢
    simp [toPys, toPy, this]
theorem eqv_bls : ∀ a b : List Bool, PyData.eqvAll (pBls a) (pBls b) = decide (a = b)
  | [], [] => by simp [pBls, PyData.eqvAll]
  | [], _ :: _ => by simp [pBls, PyData.eqvAll]
  | _ :: _, [] => by simp [pBls, PyData.eqvAll]
  | x :: a, y :: b => by
    have := eqv_bls a b
    simp only [pBls, List.map_cons] at this ⊢
    rw [PyData.eqvAll, this, PyData.eqv]
    apply Bool.eq_iff_iff.mpr
    simp
theorem lay_bls : ∀ a : List Bool, PyData.canLayAll0 (pBls a) = true
  | [] => by simp [pBls, PyData.canLayAll0]
  | x :: a => by
    have := lay_bls a
    simp only [pBls, List.map_cons] at this ⊢
    simp [PyData.canLayAll0, PyData.canLay0, this]
theorem depth_bls : ∀ a : List Bool, PyData.depthAll (pBls a) = 0
  | [] => by simp [pBls, PyData.depthAll]
  | x :: a => by
    have := depth_bls a
    simp only [pBls, List.map_cons] at this ⊢
    simp [PyData.depthAll, PyData.depth, this]
theorem shaped_bls (a : List Bool) : SeqAt.shaped (.list (pBls a)) = true := by
  simp [SeqAt.shaped, PyData.canLay0, lay_bls, PyData.depth, depth_bls]
theorem kEq_bls {F : Bool → Bool} {a b : List Bool} {x y : Nat} {st : Sto} {P : D → Sto → Prop} (hx : st[x]? = some (cBls a)) (hy : st[y]? = some (cBls b)) : kEqF F (.ob x) (.ob y) st P = P (.bl (F (decide (a = b)))) st := by
  have h1 : toPyS st (.ob x) = some (.list (pBls a)) := by simp [toPyS, hx, toPys_bls]
  have h2 : toPyS st (.ob y) = some (.list (pBls b)) := by simp [toPyS, hy, toPys_bls]
  show (match toPyS st (.ob x), toPyS st (.ob y) with
    | some p, some q => SeqAt.shaped p = true ∧ SeqAt.shaped q = true ∧ P (.bl (F (PyData.eqv p q))) st
    | _, _ => False) = _
  rw [h1, h2]
  simp only [shaped_bls, true_and, PyData.eqv, eqv_bls]
def kins (m : Nat) (cs : List Ch) (ps : List Pr) : List Bool := ps.map fun p => kinB m cs p.1 p.2
def needL (m : Nat) (cs : List Ch) (ps : List Pr) : List Nat → List Nat := List.filter fun k => decide (kins m cs ps ≠ kins m (cs.eraseIdx k) ps)
def spNeed : DSp := fun ds st P => ∃ (w q : Nat) (ns : List Str) (cs : List Ch) (ps : List Pr), ds = [.ob w] ∧ WatchAt st w q ns cs ps ∧ cs.length ≤ 100 ∧ Good ns cs ∧ GoodP ns ps ∧ P (dRow (needL ns.length cs ps (List.range cs.length))) st
/-- the comprehension over the pairs -/
theorem comp_kins {st0 : Sto} {w q : Nat} {ns : List Str} {cs : List Ch} {ps : List Pr} {env : Env'} {i j : Nat} {te : WE} {P : List D → Sto → Prop} (g2 : st0[q]? = some (cPairs ps)) (gp : GoodP ns ps) (gs : Good ns cs)
    (ht : ∀ pp ∈ ps, ∀ X : D → Sto → Prop, X (.bl (kinB ns.length cs pp.1 pp.2)) st0 → te ((env.set i (some (dRow pp.1))).set j (some (dRow pp.2))) st0 X) (p : P ((kins ns.length cs ps).map D.bl) st0) :
    wCLoop (wgSeq 2 (wgCons (wgName i) (wgCons (wgName j) wgNil))) wYes te (fun s => s[q]? = some (cPairs ps)) env (ps.map dPair) [] st0 P := by
  refine comp_mapD (fun d => match d with | .tup [.tup a, .tup b] => .bl (kinB ns.length cs (natsOf a) (natsOf b)) | _ => .bl false) g2 (by simp; have := gp.l; omega) (fun d hd X Y q' => ?_) ?_
  · obtain ⟨pp, hpp, rfl⟩ := List.mem_map.mp hd
    simp [dPair, seqAt]
    exact ht pp hpp X (by simpa [dPair, dRow, natsOf_ints] using q')
  · have eb : ([] : List D) ++ (ps.map dPair).map (fun d => match d with | .tup [.tup a, .tup b] => .bl (kinB ns.length cs (natsOf a) (natsOf b)) | _ => .bl false) = (kins ns.length cs ps).map D.bl := by
      simp only [List.nil_append, List.map_map, kins]
      refine List.map_congr_left fun pp _ => ?_
      simp [dPair, dRow, natsOf_ints]
    rw [eb]; exact p
theorem keeps_need : Keeps 1 10 (w_Watch_needed spKin) spNeed := by
  intro ds st P hl h1 h2 ⟨w, q, ns, cs, ps, e, ⟨g1, g2⟩, hc100, gs, gp, p⟩
  subst e
  simp only [w_Watch_needed, startE]
  refine seq_step fun k1 hk1 => ?_
  simp [fldAt, g1, dSet, seqAt]
  refine hk1 _ _ ?_
  clear hk1 k1
  refine seq_step fun k2 hk2 => ?_
  simp [wiSeq, fldAt, g1, g2, wipeE]
  refine comp_kins (w := w) (cs := cs) g2 gp gs (fun pp hpp X q' => ?_) ?_
  · have gx := gp.r pp hpp
    simp [fldAt, g1]
    exact ⟨ns, cs, pp.1, pp.2, rfl, gs, gx.1, gx.2, q'⟩
  refine hk2 _ _ ?_
  clear hk2 k2
  refine seq_step fun k3 hk3 => ?_
  simp
  refine hk3 _ _ ?_
  clear hk3 k3
  refine seq_step fun k4 hk4 => ?_
  simp [wiRng1, kLen, lenD, dChs]
  refine ⟨by omega, ?_⟩
  rw [rng_ints]
  refine loop_ind (fun ds env st' => ∃ (r found : List Nat) (g : Sto), ds = dInts r ∧ st' = st ++ [cBls (kins ns.length cs ps), cInts found] ++ g ∧ (∃ o4 o5 o7 o8 o9, env = [some (.ob w), some (.tup (ns.map .str)), some (dChs cs), some (.ob st.length), o4, o5, some (.ob (st.length + 1)), o7, o8, o9]) ∧ (∀ k ∈ r, k < cs.length) ∧ found.length + r.length ≤ 100 ∧ P (dRow (found ++ needL ns.length cs ps r)) st)
    (fun env st' ⟨r, found, g, e1, e2, ⟨o4, o5, o7, o8, o9, e3⟩, hr, hn, p⟩ => ?_) (fun d ds env st' ⟨r, found, g, e1, e2, ⟨o4, o5, o7, o8, o9, e3⟩, hr, hn, p⟩ ih => ?_) _ _ _ ⟨List.range cs.length, [], [], rfl, by simp [cInts, dInts], ⟨_, _, _, _, _, rfl⟩, fun k hk => List.mem_range.mp hk, by simpa using hc100, by simpa using p⟩
  · subst e2 e3
    cases r with
    | nil =>
      refine ⟨trivial, hk4 _ _ ?_⟩
      simp [kTupOf]
      exact gc_drop rfl h2 (by simp) (by simpa [needL, dRow] using p)
    | cons _ _ => simp [dInts] at e1
  · subst e2 e3
    cases r with
    | nil => simp [dInts] at e1
    | cons x r =>
      simp only [dInts, List.map_cons, List.cons.injEq] at e1
      obtain ⟨e4, e5⟩ := e1
      subst e4
      have hx := hr x List.mem_cons_self
      have hr' : ∀ c ∈ r, c < cs.length := fun c hc => hr c (List.mem_cons_of_mem _ hc)
      simp only [List.length_cons] at hn
      have hs0 : (st ++ [cBls (kins ns.length cs ps), cInts found] ++ g)[st.length]? = some (cBls (kins ns.length cs ps)) := by simp
      have hs1 : (st ++ [cBls (kins ns.length cs ps), cInts found] ++ g)[st.length + 1]? = some (cInts found) := by simp
      have gw : (st ++ [cBls (kins ns.length cs ps), cInts found] ++ g)[w]? = some (cWatch ns cs q) := get_app (get_app g1)
      have gq : (st ++ [cBls (kins ns.length cs ps), cInts found] ++ g)[q]? = some (cPairs ps) := get_app (get_app g2)
      have hsl : (st ++ [cBls (kins ns.length cs ps), cInts found] ++ g).length = st.length + 2 + g.length := by simp; omega
      have hap : ∀ z : Cell, st ++ [cBls (kins ns.length cs ps), cInts found] ++ g ++ [z] = st ++ [cBls (kins ns.length cs ps), cInts found] ++ (g ++ [z]) := fun z => by simp
      have hset : ∀ z : Cell, (st ++ [cBls (kins ns.length cs ps), cInts found] ++ (g ++ [z])).set (st.length + 1) (cInts (found ++ [x])) = st ++ [cBls (kins ns.length cs ps), cInts (found ++ [x])] ++ (g ++ [z]) := fun z => by simp
      generalize hS : st ++ [cBls (kins ns.length cs ps), cInts found] ++ g = S at *
      refine ⟨trivial, ?_⟩
      simp only [wgName, List.set_cons_succ, List.set_cons_zero]
      refine seq_step fun k5 hk5 => ?_
      simp [dChs, cut_to, cut_from1]
      refine ⟨by omega, hk5 _ _ ?_⟩
      clear hk5 k5
      have es : D.tup [.tup (ns.map D.str), .tup (List.take x (cs.map Ch.d) ++ List.drop (x + 1) (cs.map Ch.d))] = dSet ns (cs.eraseIdx x) := by
        rw [List.eraseIdx_eq_take_drop_succ]
        simp [dSet, dChs]
      rw [es]
      refine seq_step fun k6 hk6 => ?_
      simp [wiSeq, fldAt, gw, gq, wipeE]
      refine comp_kins (w := w) (cs := cs.eraseIdx x) gq gp (gs.erase x) (fun pp hpp X q' => ?_) ?_
      · have gx := gp.r pp hpp
        simp
        exact ⟨ns, cs.eraseIdx x, pp.1, pp.2, rfl, gs.erase x, gx.1, gx.2, q'⟩
      refine hk6 _ _ ?_
      clear hk6 k6
      have e6 : needL ns.length cs ps (x :: r) = (if kins ns.length cs ps = kins ns.length (cs.eraseIdx x) ps then [] else [x]) ++ needL ns.length cs ps r := by
        unfold needL
        rw [List.filter_cons]
        by_cases c : kins ns.length cs ps = kins ns.length (cs.eraseIdx x) ps
        · rw [if_pos c, if_neg (by simpa using c)]; rfl
        · rw [if_neg c, if_pos (by simpa using c)]; rfl
      rw [e6] at p
      simp only [wsIf, wTst, w2, wVar, List.getElem?_cons_succ, List.getElem?_cons_zero, List.set_cons_succ, List.set_cons_zero]
      have hk1 : (S ++ [Cell.lst ((kins ns.length (cs.eraseIdx x) ps).map D.bl)])[st.length]? = some (cBls (kins ns.length cs ps)) := get_app hs0
      have hk2 : (S ++ [Cell.lst ((kins ns.length (cs.eraseIdx x) ps).map D.bl)])[S.length]? = some (cBls (kins ns.length (cs.eraseIdx x) ps)) := by simp
      have hk3 : (S ++ [Cell.lst ((kins ns.length (cs.eraseIdx x) ps).map D.bl)])[st.length + 1]? = some (cInts found) := get_app hs1
      show kEqF _ _ _ _ _
      rw [kEq_bls hk1 hk2]
      by_cases c : kins ns.length cs ps = kins ns.length (cs.eraseIdx x) ps
      · rw [if_pos c] at p
        simp only [c, decide_true, Bool.not_true, Bool.false_eq_true, if_false, wsNext]
        exact ih _ _ ⟨r, found, _, e5, hap _, ⟨_, _, _, _, _, rfl⟩, hr', by omega, by simpa using p⟩
      · rw [if_neg c] at p
        simp only [c, decide_false, Bool.not_false, if_true]
        simp [isLst_at hk3]
        rw [kAppend_at hk3]
        refine ⟨by simp [dInts]; omega, ih _ _ ⟨r, found ++ [x], g ++ [Cell.lst ((kins ns.length (cs.eraseIdx x) ps).map D.bl)], e5, ?_, ⟨_, _, _, _, _, rfl⟩, hr', by simp; omega, by simpa using p⟩⟩
        rw [hap, ← hset]
        simp [cInts, dInts]
end Hd
set_option Elab.async false
set_option linter.all false
set_option maxRecDepth 100000
set_option maxHeartbeats 2000000
/-! L1: the keg. -/
namespace Hd
open PySem PySem.Spec PyProof.Rows L2 Vd
def KegAt (st : Sto) (g t : Nat) : Prop := ∃ (tl : List Int) (d n : Int), st[g]? = some (.lst [.ob t, .int d, .int n]) ∧ st[t]? = some (.lst (tl.map .int)) ∧ tl.length ≤ 63
def KP (st st' : Sto) (g t : Nat) : Prop := Keep st st' [g, t] ∧ KegAt st' g t
theorem KegAt.ne {st : Sto} {g t : Nat} (k : KegAt st g t) : g ≠ t := by
  obtain ⟨tl, d, n, h1, h2, _⟩ := k
  rintro rfl
  rw [h1] at h2
  cases tl with
  | nil => simp at h2
  | cons a l => simp at h2
theorem KP.refl {st : Sto} {g t : Nat} (k : KegAt st g t) : KP st st g t := ⟨Keep.refl, k⟩
theorem KP.trans {a b c : Sto} {g t : Nat} (x : KP a b g t) (y : KP b c g t) : KP a c g t := ⟨x.1.trans y.1, y.2⟩
theorem KegAt.app {st x : Sto} {g t : Nat} (k : KegAt st g t) : KegAt (st ++ x) g t := by
  obtain ⟨tl, d, n, h1, h2, h3⟩ := k
  exact ⟨tl, d, n, get_app h1, get_app h2, h3⟩
theorem KP.app {st st' x : Sto} {g t : Nat} (k : KP st st' g t) : KP st (st' ++ x) g t := ⟨k.1.add, k.2.app⟩
/-- what came behind is forgotten -/
theorem kp_cut {st st' : Sto} {g t : Nat} {P : D → Sto → Prop} {d : D} (k : KP st st' g t) (h0 : KegAt st g t) (hs : okS st.length st) (hd : okD st.length d = true) (p : ∀ s2, s2.length = st.length → KP st s2 g t → P d s2) : gcP st.length P d st' := by
  obtain ⟨kp, kg⟩ := k
  have hl := kp.1
  have hg : g < st.length := by obtain ⟨_, _, _, h1, _⟩ := h0; exact get_lt h1
  have ht : t < st.length := by obtain ⟨_, _, _, _, h1, _⟩ := h0; exact get_lt h1
  have hlen : (st'.take st.length).length = st.length := by simp; omega
  have tk : ∀ j, j < st.length → (st'.take st.length)[j]? = st'[j]? := fun j hj => List.getElem?_take_of_lt hj
  have kg2 : KegAt (st'.take st.length) g t := by
    obtain ⟨tl, d, n, h1, h2, h3⟩ := kg
    exact ⟨tl, d, n, by rw [tk g hg]; exact h1, by rw [tk t ht]; exact h2, h3⟩
  have kp2 : Keep st (st'.take st.length) [g, t] := ⟨by rw [hlen]; exact Nat.le_refl _, fun j hj hn => by rw [tk j hj]; exact kp.2 j hj hn⟩
  have e : st' = st'.take st.length ++ st'.drop st.length := (List.take_append_drop _ _).symm
  rw [e]
  refine gc_drop hlen ?_ hd (p _ hlen ⟨kp2, kg2⟩)
  intro c hc
  obtain ⟨j, hj⟩ := List.getElem?_of_mem hc
  have hjl : j < st.length := by have := get_lt hj; omega
  obtain ⟨tl, d, n, h1, h2, h3⟩ := kg2
  by_cases j1 : j = g
  · subst j1
    rw [h1] at hj; cases hj
    simp [okC, okDs, ht]
  · by_cases j2 : j = t
    · subst j2
      rw [h2] at hj; cases hj
      simp only [okC]
      rw [okDs_iff]; intro x hx
      obtain ⟨y, _, rfl⟩ := List.mem_map.mp hx
      simp
    · rw [kp2.2 j hjl (by simp [j1, j2])] at hj
      exact hs c (List.mem_of_getElem? hj)
theorem eraseIdx_map' {α β : Type} {f : α → β} : ∀ (l : List α) (k : Nat), (l.map f).eraseIdx k = (l.eraseIdx k).map f
  | [], k => by simp
  | a :: l, 0 => by simp
  | a :: l, k + 1 => by simp [eraseIdx_map' l k]
def spPour : DSp := fun ds st P => ∃ (g t m : Nat), ds = [.ob g, .int m] ∧ KegAt st g t ∧ 0 < m ∧ m ≤ 1000 ∧ ∀ (r : Nat) s2, r < m → s2.length = st.length → KP st s2 g t → P (.int r) s2
theorem Keep.set2 {st st' : Sto} {j : Nat} {c : Cell} {ex : List Nat} (k : Keep st st' ex) (hj : j ∈ ex) : Keep st (st'.set j c) ex := ⟨by rw [List.length_set]; exact k.1, fun i hi hn => by rw [List.getElem?_set_ne (fun e => hn (by rw [← e]; exact hj))]; exact k.2 i hi hn⟩
theorem mod_nat {i : Int} {m : Nat} (h : 0 < m) : ∃ r : Nat, i % (m : Int) = (r : Int) ∧ r < m := by
  have h1 := Int.emod_nonneg i (show (m : Int) ≠ 0 by omega)
  have h2 := Int.emod_lt_of_pos i (show (0 : Int) < m by omega)
  exact ⟨(i % (m : Int)).toNat, by omega, by omega⟩
theorem wPut_nat {st : Sto} {n : Nat} {xs : List D} {i : Nat} {v : D} {P : Sto → Prop} (h : st[n]? = some (.lst xs)) (hi : i < xs.length) : wPut (.ob n) (.int (i : Nat)) v st P = P (st.set n (.lst (xs.set i v))) := wPut_lst h hi
theorem wPut3_2 {st : Sto} {n : Nat} {a b c v : D} {P : Sto → Prop} (h : st[n]? = some (.lst [a, b, c])) : wPut (.ob n) (.int 2) v st P = P (st.set n (.lst [a, b, v])) := wPut_lst (i := 2) h (by simp)
theorem wPut3_1 {st : Sto} {n : Nat} {a b c v : D} {P : Sto → Prop} (h : st[n]? = some (.lst [a, b, c])) : wPut (.ob n) (.int 1) v st P = P (st.set n (.lst [a, v, c])) := wPut_lst (i := 1) h (by simp)
theorem keeps_pour : Keeps 2 5 w__law_pour spPour := by
  intro ds st P hl h1 h2 ⟨g, t, m, e, kg, hm, hm2, p⟩
  subst e
  obtain ⟨tl, d, n, g1, g2, g3⟩ := id kg
  have hne := kg.ne
  simp only [w__law_pour, startE]
  refine seq_step fun k1 hk1 => ?_
  simp [kIx_lst g1]
  refine hk1 _ _ ?_
  clear hk1 k1
  refine seq_step fun k2 hk2 => ?_
  simp [kIx_lst g1]
  rw [wPut3_2 g1]
  refine hk2 _ _ ?_
  clear hk2 k2
  have hgl := get_lt g1
  have q1 : (st.set g (.lst [.ob t, .int d, .int (n + 1)]))[g]? = some (.lst [.ob t, .int d, .int (n + 1)]) := List.getElem?_set_self hgl
  have q2 : (st.set g (.lst [.ob t, .int d, .int (n + 1)]))[t]? = some (.lst (tl.map .int)) := by rw [List.getElem?_set_ne hne]; exact g2
  have kk : Keep st (st.set g (.lst [.ob t, .int d, .int (n + 1)])) [g, t] := Keep.refl.set2 (by simp)
  generalize hS : st.set g (.lst [.ob t, .int d, .int (n + 1)]) = S at *
  have hSl : S.length = st.length := by rw [← hS]; simp
  refine seq_step fun k3 hk3 => ?_
  simp [-wsSeq, kLen, lenD, q2]
  have fin : ∀ (r : Nat) (S2 : Sto), r < m → S2.length = st.length → Keep st S2 [g, t] → KegAt S2 g t → gcP st.length P (.int (r : Nat)) S2 := fun r S2 hr hl2 k2 kg2 => gc_all (by omega) (p r S2 hr hl2 ⟨k2, kg2⟩)
  have cdiv : CDiv 0 (m : Int) = True := by simp only [CDiv, eq_iff_iff, iff_true]; omega
  by_cases he : tl = []
  · subst he
    simp [-wsSeq]
    refine hk3 _ _ ?_
    clear hk3 k3
    refine seq_step fun k4 hk4 => ?_
    simp [kIx_lst q1, kMul, kInt, CMul]
    rw [wPut3_1 q1]
    refine hk4 _ _ ?_
    clear hk4 k4
    have q3 : ∀ x : Cell, (S.set g x)[g]? = some x := fun x => List.getElem?_set_self (by omega)
    simp [kIx_lst (q3 _), kInt, CDiv]
    refine ⟨by omega, ?_⟩
    obtain ⟨r, hr, hrm⟩ := mod_nat (i := (d * 397204094 + (n + 1) * 16807 + 9) % 2147483647 / 31) hm
    rw [hr]
    exact fin r _ hrm (by simp [hSl]) (kk.set2 (by simp)) ⟨[], _, _, q3 _, by rw [List.getElem?_set_ne hne]; exact q2, by simp⟩
  · have hpos : 0 < tl.length := List.length_pos_iff.mpr he
    simp [-wsSeq, hpos]
    refine seq_step fun k4 hk4 => ?_
    simp [kIx_lst q1, kInt, kLen, lenD, q2, hpos]
    obtain ⟨r, hr, hrm⟩ := mod_nat (i := n + 1) hpos
    rw [hr]
    refine hk4 _ _ ?_
    clear hk4 k4
    refine seq_step fun k5 hk5 => ?_
    have hat : atD (tl.map D.int) (r : Int) = some (.int (tl.getD r 0)) := atD_nat (by simp [hrm])
    simp only [wsSet, wBlt, waCons, waNil, w2, wVar, List.getElem?_cons_succ, List.getElem?_cons_zero, List.set_cons_succ, List.set_cons_zero, kIx_lst q2, hat, kInt]
    generalize tl.getD r 0 = z
    refine hk5 _ _ ?_
    clear hk5 k5
    have tlen : t < S.length := get_lt q2
    obtain ⟨r2, hr2, hrm2⟩ := mod_nat (i := z) hm
    have last : ∀ S2 : Sto, S2.length = st.length → Keep st S2 [g, t] → KegAt S2 g t → (wsRet (w2 kMod (wVar 4) (wVar 1)) { nx := k3, rt := gcP st.length P }) [some (.ob g), some (.int (m : Nat)), some (.ob t), some (.int (r : Nat)), some (.int z)] S2 := fun S2 a b c => by
      simp only [wsRet, w2, wVar, List.getElem?_cons_succ, List.getElem?_cons_zero, kMod, kI_int, hr2]
      exact ⟨by omega, fin r2 S2 hrm2 a b c⟩
    refine seq_step fun k6 hk6 => ?_
    simp only [wsIf, wTst, w2, wVar, wK, List.getElem?_cons_succ, List.getElem?_cons_zero, kDiv, kI_int, kEq, kEq_int]
    refine ⟨⟨by omega, by omega⟩, ?_⟩
    split
    · simp [isLst_at q2]
      rw [kPop_nat (x := .int (tl.getD r 0)) q2 (by simp [hrm]) (by simp; omega)]
      refine hk6 _ _ (last _ (by simp [hSl]) (kk.set2 (by simp)) ⟨tl.eraseIdx r, d, n + 1, ?_, ?_, ?_⟩)
      · rw [List.getElem?_set_ne (Ne.symm hne)]; exact q1
      · rw [List.getElem?_set_self tlen, eraseIdx_map']
      · have := len_erase tl r; omega
    · simp
      refine ⟨⟨by omega, by omega⟩, ?_⟩
      rw [wPut_lst q2 (by simpa using hrm)]
      refine hk6 _ _ (last _ (by simp [hSl]) (kk.set2 (by simp)) ⟨tl.set r (z / m), d, n + 1, ?_, ?_, by simpa using g3⟩)
      · rw [List.getElem?_set_ne (Ne.symm hne)]; exact q1
      · rw [List.getElem?_set_self tlen]; simp
def spKeg : DSp := fun ds st P => ∃ (s : Nat) (is : List Int), ds = [.ob s] ∧ st[s]? = some (.fro (is.map .int)) ∧ is.length ≤ 63 ∧ ∀ (tl : List Int) (d n : Int), tl.length ≤ 63 → P (.ob (st.length + 1)) (st ++ [.lst (tl.map .int), .lst [.ob st.length, .int d, .int n]])
theorem pow_pos' : ∀ k : Nat, (0 : Int) < 1 * 2 ^ k
  | 0 => by decide
  | k + 1 => by have := pow_pos' k; rw [Int.pow_succ]; omega
theorem kInsert_new {st g : Sto} {xs : List D} {d : D} {P : D → Sto → Prop} : kInsert (.ob st.length) [.int 0, d] (st ++ .lst xs :: g) P = (xs.length < 100000 ∧ P .non (st ++ .lst (d :: xs) :: g)) := by
  unfold kInsert
  rw [lstOf_at (xs := xs) (by simp)]
  simp
theorem keeps_keg : Keeps 1 5 w__law_keg spKeg := by
  intro ds st P hl h1 h2 ⟨s, is, e, g1, hn, p⟩
  subst e
  simp only [w__law_keg, startE]
  refine seq_step fun k1 hk1 => ?_
  simp
  refine hk1 _ _ ?_
  clear hk1 k1
  refine seq_step fun k2 hk2 => ?_
  simp
  refine hk2 _ _ ?_
  clear hk2 k2
  refine seq_step fun k3 hk3 => ?_
  have g1' : ∀ x : Cell, (st ++ [x])[s]? = some (.fro (is.map .int)) := fun x => get_app g1
  simp [-wsSeq, wiSeq, g1']
  refine loop_ind (fun ds env st' => ∃ (r tl : List Int) (d : Int), ds = r.map .int ∧ st' = st ++ [.lst (tl.map .int)] ∧ (∃ o3 o4, env = [some (.ob s), some (.ob st.length), some (.int d), o3, o4]) ∧ tl.length + r.length ≤ 63)
    (fun env st' ⟨r, tl, d, e1, e2, ⟨o3, o4, e3⟩, hn⟩ => ?_) (fun d ds env st' ⟨r, tl, d, e1, e2, ⟨o3, o4, e3⟩, hn⟩ ih => ?_) _ _ _ ⟨is, [], 790, rfl, rfl, ⟨_, _, rfl⟩, by simpa using hn⟩
  · subst e2 e3
    cases r with
    | nil =>
      refine ⟨g1' _, hk3 _ _ ?_⟩
      simp [g1', kLen, lenD]
      have := p tl d (is.length + 1) (by simpa using hn)
      have gg := gc_all (n := st.length) (s := st ++ [.lst (tl.map .int), .lst [.ob st.length, .int d, .int (is.length + 1)]]) (by simp) this
      simpa using gg
    | cons _ _ => simp at e1
  · subst e2 e3
    cases r with
    | nil => simp at e1
    | cons x r =>
      simp only [List.map_cons, List.cons.injEq] at e1
      obtain ⟨e4, e5⟩ := e1
      subst e4
      simp only [List.length_cons] at hn
      refine ⟨g1' _, ?_⟩
      simp only [wgName, List.set_cons_succ, List.set_cons_zero]
      refine seq_step fun k4 hk4 => ?_
      simp only [wsSet, w2, wBlt, waCons, waNil, wVar, wK, List.getElem?_cons_succ, List.getElem?_cons_zero, kInt, kAbs, kShl, kMod, kI_int, List.set_cons_succ, List.set_cons_zero]
      refine ⟨by simp [CPow], pow_pos' _, ?_⟩
      generalize (if x < 0 then -x else x) % (1 * 2 ^ Int.toNat 2000) = z
      refine hk4 _ _ ?_
      clear hk4 k4
      refine seq_step fun k5 hk5 => ?_
      simp [kMul, CMul, CDiv, kInt]
      generalize (d * 8121 + z % 134456 + z / 134456 % 130003 + 28411) % 2147483423 = d2
      refine hk5 _ _ ?_
      clear hk5 k5
      simp [CPow]
      split
      · simp [kInsert_new]
        exact ⟨by omega, ih _ _ ⟨r, z :: tl, d2, e5, by simp, ⟨_, _, rfl⟩, by simp; omega⟩⟩
      · exact ih _ _ ⟨r, tl, d2, e5, rfl, ⟨_, _, rfl⟩, by omega⟩
end Hd
set_option Elab.async false
set_option linter.all false
set_option maxRecDepth 100000
set_option maxHeartbeats 2000000
/-! L2: the law's every change. -/
namespace Hd
open PySem PySem.Spec PyProof.Rows L2 Vd
theorem rng_from {m s : Nat} (hm : m ≤ 5) (hs : s < m) : rngD ((s : Int) + 1) ((m : Int) - ((s : Int) + 1)).toNat = dInts ((List.range m).filter fun t => decide (s < t)) := by
  have e : ((m : Int) - ((s : Int) + 1)).toNat = m - (s + 1) := by omega
  rw [e]
  rcases m with _ | _ | _ | _ | _ | _ | m
  · omega
  · rcases s with _ | s
    · rfl
    · omega
  · rcases s with _ | _ | s
    · rfl
    · rfl
    · omega
  · rcases s with _ | _ | _ | s
    · rfl
    · rfl
    · rfl
    · omega
  · rcases s with _ | _ | _ | _ | s
    · rfl
    · rfl
    · rfl
    · rfl
    · omega
  · rcases s with _ | _ | _ | _ | _ | s
    · rfl
    · rfl
    · rfl
    · rfl
    · rfl
    · omega
  · omega
def rest (m : Nat) (C : Nat → Nat → Ch) (s : Nat) : List Ch := ((List.range m).filter fun t => decide (s < t)).map (C s)
theorem prs_map {m : Nat} {C : Nat → Nat → Ch} : (List.range m).flatMap (rest m C) = (prs m).map fun p => C p.1 p.2 := by
  simp only [prs, List.map_flatMap, List.map_map]
  rfl
def TAt (st : Sto) (m : Nat) (κ : Str) (cur : List Ch) (env : Env') (st' : Sto) : Prop := ∃ (g : Sto) (i : Nat) (o2 o4 : Option D), st' = st ++ g ∧ g[i]? = some (.lst (cur.map Ch.d)) ∧ env = [some (.int (m : Nat)), some (.ob (st.length + i)), o2, some (.str κ), o4]
theorem every_inner {st : Sto} {m : Nat} {κ : Str} {C : Nat → Nat → Ch} {F : List Ch} {W : WEnds} (hm : m ≤ 5) (hC : ∀ s t, (C s t).d = .tup [.str κ, .int (s : Nat), .int (t : Nat)]) (hF : F.length ≤ 100)
    (fin : ∀ env st', TAt st m κ F env st' → W.nx env st') : ∀ ds env st', (∃ (r : List Nat) (cur : List Ch), ds = dInts r ∧ (∀ s ∈ r, s < m) ∧ TAt st m κ cur env st' ∧ cur ++ r.flatMap (rest m C) = F) →
      wLoop (wgName 2) (wsSet 1 (w2 kAdd (wVar 1) (wNew (wComp (wiRng2 (waCons (w2 kAdd (wVar 2) (wK (.int 1))) (waCons (wVar 0) waNil))) [4] (wgName 4) wYes (wTup (waCons (wVar 3) (waCons (wVar 2) (waCons (wVar 4) waNil)))))))) (fun _ => True) ds W env st' := by
  intro ds env st'
  refine loop_ind (fun ds env st' => ∃ (r : List Nat) (cur : List Ch), ds = dInts r ∧ (∀ s ∈ r, s < m) ∧ TAt st m κ cur env st' ∧ cur ++ r.flatMap (rest m C) = F) (fun env st' ⟨r, cur, e1, hr, ht, hf⟩ => ?_) (fun d ds env st' ⟨r, cur, e1, hr, ht, hf⟩ ih => ?_) ds env st'
  · cases r with
    | nil =>
      simp at hf
      subst hf
      exact ⟨trivial, fin _ _ ht⟩
    | cons _ _ => simp [dInts] at e1
  · cases r with
    | nil => simp [dInts] at e1
    | cons x r =>
      simp only [dInts, List.map_cons, List.cons.injEq] at e1
      obtain ⟨e4, e5⟩ := e1
      subst e4
      have hx := hr x List.mem_cons_self
      obtain ⟨g, i, o2, o4, e2, hg, e3⟩ := ht
      subst e2 e3
      have hcur : (st ++ g)[st.length + i]? = some (.lst (cur.map Ch.d)) := by rw [get_new]; exact hg
      have hlen : cur.length + (rest m C x).length ≤ 100 := by
        rw [← hf, List.flatMap_cons] at hF
        simp at hF
        omega
      refine ⟨trivial, ?_⟩
      simp [wiRng2, wipeE]
      refine ⟨by omega, ?_⟩
      rw [rng_from hm hx]
      refine comp_mapD (fun d => match d with | .int t => .tup [.str κ, .int (x : Nat), .int t] | _ => .non) trivial ?_ (fun d hd X Y q => ?_) ?_
      · have : ((List.range m).filter fun t => decide (x < t)).length ≤ m := by have := List.length_filter_le (fun t => decide (x < t)) (List.range m); simpa using this
        simp [dInts] at this ⊢; omega
      · obtain ⟨t, ht, rfl⟩ := List.mem_map.mp hd
        simpa using q
      · have eb : ([] : List D) ++ (dInts ((List.range m).filter fun t => decide (x < t))).map (fun d => match d with | .int t => .tup [.str κ, .int (x : Nat), .int t] | _ => .non) = (rest m C x).map Ch.d := by
          simp only [List.nil_append, dInts, List.map_map, rest]
          refine List.map_congr_left fun t _ => ?_
          simp [hC]
        rw [eb]
        have h3 : (st ++ g ++ [.lst ((rest m C x).map Ch.d)])[st.length + i]? = some (.lst (cur.map Ch.d)) := get_app hcur
        have h4 : (st ++ g ++ [.lst ((rest m C x).map Ch.d)])[(st ++ g).length]? = some (.lst ((rest m C x).map Ch.d)) := by rw [get_new0]; rfl
        simp only [kAdd, h3, h4]
        refine ⟨by simp; omega, ih _ _ ⟨r, cur ++ rest m C x, e5, fun s hs => hr s (List.mem_cons_of_mem _ hs), ⟨g ++ [.lst ((rest m C x).map Ch.d), .lst ((cur ++ rest m C x).map Ch.d)], g.length + 1, some (.int (x : Nat)), o4, by simp, by simp, ?_⟩, by rw [← hf, List.flatMap_cons, List.append_assoc]⟩⟩
        simp [Nat.add_assoc]
def spEvery : DSp := fun ds st P => ∃ m : Nat, ds = [.int m] ∧ m ≤ 5 ∧ P (.ob st.length) (st ++ [.lst ((every m).map Ch.d)])
theorem keeps_every : Keeps 1 5 w__law_every spEvery := by
  intro ds st P hl h1 h2 ⟨m, e, hm, p⟩
  subst e
  simp only [w__law_every, startE]
  refine seq_step fun k1 hk1 => ?_
  simp [wiRng1, wipeE]
  refine ⟨by omega, ?_⟩
  rw [rng_ints]
  refine comp_mapD (fun d => .tup [.str "held", d]) trivial (by simp [dInts]; omega) (fun d hd X Y q => by simpa using q) ?_
  refine ⟨by omega, ?_⟩
  refine comp_mapD (fun d => .tup [.str "idle", d]) trivial (by simp [dInts]; omega) (fun d hd X Y q => by simpa using q) ?_
  refine ⟨by simp [dInts]; omega, hk1 _ _ ?_⟩
  clear hk1 k1
  have e0 : ([] : List D) ++ (dInts (List.range m)).map (fun d => .tup [.str "held", d]) ++ ([] ++ (dInts (List.range m)).map (fun d => .tup [.str "idle", d])) = ((List.range m).map Ch.held ++ (List.range m).map Ch.idle).map Ch.d := by
    simp only [List.nil_append, dInts, List.map_map, List.map_append]
    rfl
  rw [e0]
  have W1 : ∀ g body stb W d1 ds env st, wLoop g body stb (d1 :: ds) W env st = (stb st ∧ g d1 env st fun env2 st2 => body { nx := wLoop g body stb ds W, rt := W.rt, bk := W.nx, ct := wLoop g body stb ds W } env2 st2) := fun _ _ _ _ _ _ _ _ => rfl
  have W0 : ∀ g body stb W env st, wLoop g body stb [] W env st = (stb st ∧ W.nx env st) := fun _ _ _ _ _ _ => rfl
  have hl := every_len hm
  have he : every m = ((List.range m).map Ch.held ++ (List.range m).map Ch.idle) ++ (List.range m).flatMap (rest m Ch.loose) ++ (List.range m).flatMap (rest m Ch.same) := by
    rw [prs_map, prs_map]; rfl
  refine seq_step fun k2 hk2 => ?_
  simp only [wsFor, wiTmp, wLst, waCons, waNil, wK]
  refine ⟨by simp, ?_⟩
  simp only [W1]
  refine ⟨trivial, ?_⟩
  simp [wiRng1]
  refine ⟨by omega, ?_⟩
  rw [rng_ints]
  refine every_inner (st := st) (C := Ch.loose) (F := ((List.range m).map Ch.held ++ (List.range m).map Ch.idle) ++ (List.range m).flatMap (rest m Ch.loose)) hm (fun s t => rfl) (by rw [he] at hl; simp only [List.length_append] at hl ⊢; omega) (fun env st' ⟨g, i, o2, o4, e2, hg, e3⟩ => ?_) _ _ _ ⟨List.range m, _, rfl, fun s hs => List.mem_range.mp hs, ⟨[_], 0, none, none, rfl, by simp, rfl⟩, rfl⟩
  subst e2 e3
  simp only [W1]
  refine ⟨trivial, ?_⟩
  simp [wiRng1]
  refine ⟨by omega, ?_⟩
  rw [rng_ints]
  refine every_inner (st := st) (C := Ch.same) (F := every m) hm (fun s t => rfl) (by omega) (fun env st' ⟨g, i, o2, o4, e2, hg, e3⟩ => ?_) _ _ _ ⟨List.range m, _, rfl, fun s hs => List.mem_range.mp hs, ⟨g, i, o2, o4, rfl, hg, rfl⟩, he.symm⟩
  subst e2 e3
  simp only [W0]
  refine ⟨trivial, hk2 _ _ ?_⟩
  simp
  exact gc_one h2 hg (by simp) p
end Hd
set_option Elab.async false
set_option linter.all false
set_option maxRecDepth 100000
set_option maxHeartbeats 2000000
/-! L3: the law's lots and marks. -/
namespace Hd
open PySem PySem.Spec PyProof.Rows L2 Vd
def relax (l : List Nat) : Ch → List Nat
  | .same s t => if gN l s = gN l t then l else (l.set s (min (gN l s) (gN l t))).set t (min (gN l s) (gN l t))
  | _ => l
def lap (cs : List Ch) (l : List Nat) : List Nat := cs.foldl relax l
def laps (cs : List Ch) : Nat → List Nat → List Nat
  | 0, l => l
  | n + 1, l => laps cs n (lap cs l)
def lawLots (m : Nat) (cs : List Ch) : List Nat := laps cs m (List.range m)
def mark (l : List Nat) (d : List (List Key × D)) : Ch → List (List Key × D)
  | .loose s t => putD (putD d [.inr "loose", .inl (gN l s : Int), .inl (gN l t : Int)] (.bl true)) [.inr "loose", .inl (gN l t : Int), .inl (gN l s : Int)] (.bl true)
  | .held s => putD d [.inr "held", .inl (gN l s : Int)] (.bl true)
  | .idle s => putD d [.inr "idle", .inl (gN l s : Int)] (.bl true)
  | .same s t => putD d [.inr "same", .inl (gN l s : Int)] (.bl true)
def lawMarks (l : List Nat) (cs : List Ch) : List (List Key × D) := cs.foldl (mark l) []
theorem relax_len {l : List Nat} {c : Ch} : (relax l c).length = l.length := by
  cases c <;> simp [relax]
  split <;> simp
theorem lap_len : ∀ {cs : List Ch} {l : List Nat}, (cs.foldl relax l).length = l.length
  | [], l => rfl
  | c :: cs, l => by rw [List.foldl_cons, lap_len (cs := cs), relax_len]
theorem laps_len {cs : List Ch} : ∀ {n : Nat} {l : List Nat}, (laps cs n l).length = l.length
  | 0, l => rfl
  | n + 1, l => by rw [laps, laps_len (n := n)]; exact lap_len
theorem gN_at {l : List Nat} {k : Nat} (h : k < l.length) : l[k]? = some (gN l k) := by
  rw [List.getElem?_eq_getElem h]
  exact congrArg some (gN_of (List.getElem?_eq_getElem h)).symm
theorem at_gN {l : List Nat} {k : Nat} (h : k < l.length) : atD (dInts l) (k : Int) = some (.int (gN l k : Nat)) := at_ints (gN_at h)
theorem set_ints {l : List Nat} {k x : Nat} : (dInts l).set k (.int (x : Nat)) = dInts (l.set k x) := by simp [dInts, List.map_set]
theorem lots_inner {st : Sto} {m : Nat} {E0 E1 : D} {o4 o8 : Option D} {o5 : Option D} {F : List Nat} {W : WEnds} (fin : ∀ o6 o7, W.nx [some E0, some E1, some (.int (m : Nat)), some (.ob st.length), o4, o5, o6, o7, o8] (st ++ [cInts F])) :
    ∀ ds env st', (∃ (r : List Ch) (l : List Nat) (o6 o7 : Option D), ds = r.map Ch.d ∧ env = [some E0, some E1, some (.int (m : Nat)), some (.ob st.length), o4, o5, o6, o7, o8] ∧ st' = st ++ [cInts l] ∧ l.length = m ∧ (∀ c ∈ r, c.ok m) ∧ r.foldl relax l = F) →
      wLoop (wgName 6) (wsIf (wAnd (wTst (w2 kEq (w2 kIx (wVar 6) (wK (.int 0))) (wK (.str "same")))) (wTst (w2 kNe (w2 kIx (wVar 3) (w2 kIx (wVar 6) (wK (.int 1)))) (w2 kIx (wVar 3) (w2 kIx (wVar 6) (wK (.int 2))))))) (wsSeq (wsSet 7 (wBlt kMin2 (waCons (w2 kIx (wVar 3) (w2 kIx (wVar 6) (wK (.int 1)))) (waCons (w2 kIx (wVar 3) (w2 kIx (wVar 6) (wK (.int 2)))) waNil))))
              (wsSeq (wsAsg (wVar 7) (wgSub (wVar 3) (w2 kIx (wVar 6) (wK (.int 1)))))
              (wsAsg (wVar 7) (wgSub (wVar 3) (w2 kIx (wVar 6) (wK (.int 2))))))) wsNext) (fun _ => True) ds W env st' := by
  intro ds env st'
  refine loop_ind (fun ds env st' => ∃ (r : List Ch) (l : List Nat) (o6 o7 : Option D), ds = r.map Ch.d ∧ env = [some E0, some E1, some (.int (m : Nat)), some (.ob st.length), o4, o5, o6, o7, o8] ∧ st' = st ++ [cInts l] ∧ l.length = m ∧ (∀ c ∈ r, c.ok m) ∧ r.foldl relax l = F) (fun env st' ⟨r, l, o6, o7, e1, e2, e3, hl, hr, hf⟩ => ?_) (fun d ds env st' ⟨r, l, o6, o7, e1, e2, e3, hl, hr, hf⟩ ih => ?_) ds env st'
  · subst e2 e3
    cases r with
    | nil =>
      have e : l = F := hf
      subst e
      exact ⟨trivial, fin _ _⟩
    | cons _ _ => simp at e1
  · subst e2 e3
    cases r with
    | nil => simp at e1
    | cons x r =>
      simp only [List.map_cons, List.cons.injEq] at e1
      obtain ⟨e4, e5⟩ := e1
      subst e4
      have hx := hr x List.mem_cons_self
      have hr' : ∀ c ∈ r, c.ok m := fun c hc => hr c (List.mem_cons_of_mem _ hc)
      have hc : ∀ l : List Nat, (st ++ [cInts l])[st.length]? = some (.lst (dInts l)) := fun l => get_new0
      simp only [List.foldl_cons] at hf
      refine ⟨trivial, ?_⟩
      cases x with
      | same s t =>
        have hs : s < l.length := by rw [hl]; exact hx.1
        have ht : t < l.length := by rw [hl]; exact hx.2
        simp only [relax] at hf
        simp [-wsSeq, Ch.d, kIx_lst (hc l), at_gN hs, at_gN ht]
        by_cases c : gN l s = gN l t
        · rw [if_pos c] at hf
          simp [-wsSeq, c]
          exact ih _ _ ⟨r, l, _, _, e5, rfl, rfl, hl, hr', hf⟩
        · rw [if_neg c] at hf
          have c' : ¬ ((gN l s : Nat) : Int) = ((gN l t : Nat) : Int) := by omega
          simp [-wsSeq, c']
          refine seq_step fun k1 hk1 => ?_
          simp [kIx_lst (hc l), at_gN hs, at_gN ht, kMin2]
          have emin : (if gN l t < gN l s then ((gN l t : Nat) : Int) else ((gN l s : Nat) : Int)) = ((min (gN l s) (gN l t) : Nat) : Int) := by
            split <;> omega
          rw [emin]
          refine hk1 _ _ ?_
          clear hk1 k1
          refine seq_step fun k2 hk2 => ?_
          simp
          rw [wPut_lst (hc l) (by simpa [dInts] using hs), set_ints]
          refine hk2 _ _ ?_
          clear hk2 k2
          simp
          rw [wPut_lst (hc _) (by simpa [dInts] using ht), set_ints]
          simp
          exact ih _ _ ⟨r, _, _, _, e5, rfl, rfl, by simpa using hl, hr', hf⟩
      | held s => simp [-wsSeq, Ch.d]; exact ih _ _ ⟨r, l, _, _, e5, rfl, rfl, hl, hr', hf⟩
      | idle s => simp [-wsSeq, Ch.d]; exact ih _ _ ⟨r, l, _, _, e5, rfl, rfl, hl, hr', hf⟩
      | loose s t => simp [-wsSeq, Ch.d]; exact ih _ _ ⟨r, l, _, _, e5, rfl, rfl, hl, hr', hf⟩
theorem marks_loop {st : Sto} {m : Nat} {E0 E1 : D} {o4 o5 o7 : Option D} {l : List Nat} {F : List (List Key × D)} {W : WEnds} (hl : l.length = m) (fin : ∀ o6, W.nx [some E0, some E1, some (.int (m : Nat)), some (.ob st.length), o4, o5, o6, o7, some (.ob (st.length + 1))] (st ++ [cInts l, .dT F])) :
    ∀ ds env st', (∃ (r : List Ch) (d : List (List Key × D)) (o6 : Option D), ds = r.map Ch.d ∧ env = [some E0, some E1, some (.int (m : Nat)), some (.ob st.length), o4, o5, o6, o7, some (.ob (st.length + 1))] ∧ st' = st ++ [cInts l, .dT d] ∧ d.length + 2 * r.length ≤ 50000 ∧ (∀ c ∈ r, c.ok m) ∧ r.foldl (mark l) d = F) →
      wLoop (wgName 6) (wsSeq (wsIf (wTst (w2 kEq (w2 kIx (wVar 6) (wK (.int 0))) (wK (.str "loose")))) (wsSeq (wsAsg (wK (.bl true)) (wgSub (wVar 8) (wTup (waCons (wK (.str "loose")) (waCons (w2 kIx (wVar 3) (w2 kIx (wVar 6) (wK (.int 1)))) (waCons (w2 kIx (wVar 3) (w2 kIx (wVar 6) (wK (.int 2)))) waNil))))))
          (wsAsg (wK (.bl true)) (wgSub (wVar 8) (wTup (waCons (wK (.str "loose")) (waCons (w2 kIx (wVar 3) (w2 kIx (wVar 6) (wK (.int 2)))) (waCons (w2 kIx (wVar 3) (w2 kIx (wVar 6) (wK (.int 1)))) waNil))))))) wsNext)
      (wsIf (wTst (w2 kNe (w2 kIx (wVar 6) (wK (.int 0))) (wK (.str "loose")))) (wsAsg (wK (.bl true)) (wgSub (wVar 8) (wTup (waCons (w2 kIx (wVar 6) (wK (.int 0))) (waCons (w2 kIx (wVar 3) (w2 kIx (wVar 6) (wK (.int 1)))) waNil))))) wsNext)) (fun _ => True) ds W env st' := by
  intro ds env st'
  refine loop_ind (fun ds env st' => ∃ (r : List Ch) (d : List (List Key × D)) (o6 : Option D), ds = r.map Ch.d ∧ env = [some E0, some E1, some (.int (m : Nat)), some (.ob st.length), o4, o5, o6, o7, some (.ob (st.length + 1))] ∧ st' = st ++ [cInts l, .dT d] ∧ d.length + 2 * r.length ≤ 50000 ∧ (∀ c ∈ r, c.ok m) ∧ r.foldl (mark l) d = F) (fun env st' ⟨r, d, o6, e1, e2, e3, hd, hr, hf⟩ => ?_) (fun x0 ds env st' ⟨r, d, o6, e1, e2, e3, hd, hr, hf⟩ ih => ?_) ds env st'
  · subst e2 e3
    cases r with
    | nil =>
      have e : d = F := hf
      subst e
      exact ⟨trivial, fin _⟩
    | cons _ _ => simp at e1
  · subst e2 e3
    cases r with
    | nil => simp at e1
    | cons x r =>
      simp only [List.map_cons, List.cons.injEq] at e1
      obtain ⟨e4, e5⟩ := e1
      subst e4
      have hx := hr x List.mem_cons_self
      have hr' : ∀ c ∈ r, c.ok m := fun c hc => hr c (List.mem_cons_of_mem _ hc)
      have hc : ∀ d, (st ++ [cInts l, Cell.dT d])[st.length]? = some (.lst (dInts l)) := fun d => by simp [cInts]
      have hix : ∀ d (i : Int) (P : D → Sto → Prop), kIx (.ob st.length) (.int i) (st ++ [Cell.lst (dInts l), Cell.dT d]) P = (match atD (dInts l) i with | some x => P x (st ++ [Cell.lst (dInts l), Cell.dT d]) | none => False) := fun d i P => kIx_lst (hc d)
      have hc1 : ∀ d, (st ++ [Cell.lst (dInts l), Cell.dT d])[st.length + 1]? = some (.dT d) := fun d => by simp
      have p1 : ∀ (q : List (List Key × D)) k v, (putD q k v).length ≤ q.length + 1 := fun q k v => by
        unfold putD; split <;> simp
      simp only [List.foldl_cons] at hf
      simp only [List.length_cons] at hd
      refine ⟨trivial, ?_⟩
      simp only [wgName, List.set_cons_succ, List.set_cons_zero]
      cases x with
      | same s t =>
        have hs : s < l.length := by rw [hl]; exact hx.1
        simp [Ch.d, hix, at_gN hs, wPut, hc1]
        refine ⟨by omega, ih _ _ ⟨r, _, _, e5, rfl, rfl, ?_, hr', hf⟩⟩
        have := p1 d [.inr "same", .inl (gN l s : Int)] (.bl true)
        omega
      | held s =>
        have hs : s < l.length := by rw [hl]; exact hx
        simp [Ch.d, hix, at_gN hs, wPut, hc1]
        refine ⟨by omega, ih _ _ ⟨r, _, _, e5, rfl, rfl, ?_, hr', hf⟩⟩
        have := p1 d [.inr "held", .inl (gN l s : Int)] (.bl true)
        omega
      | idle s =>
        have hs : s < l.length := by rw [hl]; exact hx
        simp [Ch.d, hix, at_gN hs, wPut, hc1]
        refine ⟨by omega, ih _ _ ⟨r, _, _, e5, rfl, rfl, ?_, hr', hf⟩⟩
        have := p1 d [.inr "idle", .inl (gN l s : Int)] (.bl true)
        omega
      | loose s t =>
        have hs : s < l.length := by rw [hl]; exact hx.1
        have ht : t < l.length := by rw [hl]; exact hx.2
        have q1 := p1 d [.inr "loose", .inl (gN l s : Int), .inl (gN l t : Int)] (.bl true)
        have q2 := p1 (putD d [.inr "loose", .inl (gN l s : Int), .inl (gN l t : Int)] (.bl true)) [.inr "loose", .inl (gN l t : Int), .inl (gN l s : Int)] (.bl true)
        simp [Ch.d, hix, at_gN hs, at_gN ht, wPut, hc1]
        refine ⟨by omega, by omega, ih _ _ ⟨r, _, _, e5, rfl, rfl, ?_, hr', hf⟩⟩
        omega
def spLots : DSp := fun ds st P => ∃ (ns : List Str) (cs0 cs : List Ch), ds = [dSet ns cs0, dChs cs] ∧ ns.length ≤ 1000 ∧ cs.length ≤ 1000 ∧ (∀ c ∈ cs, c.ok ns.length) ∧ P (.tup [.ob st.length, .ob (st.length + 1)]) (st ++ [cInts (lawLots ns.length cs), .dT (lawMarks (lawLots ns.length cs) cs)])
theorem keeps_lots : Keeps 2 9 w__law_lots spLots := by
  intro ds st P hl h1 h2 ⟨ns, cs0, cs, e, hn, hc, hok, p⟩
  subst e
  simp only [w__law_lots, startE]
  refine seq_step fun k1 hk1 => ?_
  simp [dSet, kLen, lenD]
  refine hk1 _ _ ?_
  clear hk1 k1
  refine seq_step fun k2 hk2 => ?_
  simp [wiRng1, wipeE]
  refine ⟨by omega, ?_⟩
  rw [rng_ints]
  refine comp_mapD (fun d => d) trivial (by simp [dInts]; omega) (fun d hd X Y q => by simpa using q) ?_
  simp only [List.map_id', List.nil_append]
  refine hk2 _ _ ?_
  clear hk2 k2
  refine seq_step fun k3 hk3 => ?_
  simp [wiRng1]
  refine ⟨by omega, ?_⟩
  rw [rng_ints]
  refine loop_ind (fun ds env st' => ∃ (r : List Nat) (l : List Nat) (o4 o5 o6 o7 o8 : Option D), ds = dInts r ∧ st' = st ++ [cInts l] ∧ env = [some (dSet ns cs0), some (dChs cs), some (.int (ns.length : Nat)), some (.ob st.length), o4, o5, o6, o7, o8] ∧ l.length = ns.length ∧ laps cs r.length l = lawLots ns.length cs)
    (fun env st' ⟨r, l, o4, o5, o6, o7, o8, e1, e2, e3, hl, hf⟩ => ?_) (fun d ds env st' ⟨r, l, o4, o5, o6, o7, o8, e1, e2, e3, hl, hf⟩ ih => ?_) _ _ _ ⟨List.range ns.length, List.range ns.length, none, none, none, none, none, rfl, rfl, rfl, by simp, by simp [lawLots]⟩
  · subst e2 e3
    cases r with
    | nil =>
      have e : l = lawLots ns.length cs := hf
      subst e
      refine ⟨trivial, hk3 _ _ ?_⟩
      clear hk3 k3
      refine seq_step fun k4 hk4 => ?_
      simp
      refine hk4 _ _ ?_
      clear hk4 k4
      refine seq_step fun k5 hk5 => ?_
      simp only [wsFor, wiSeq, wVar, List.getElem?_cons_succ, List.getElem?_cons_zero, dChs]
      refine marks_loop (m := ns.length) (F := lawMarks (lawLots ns.length cs) cs) hl (fun o6 => hk5 _ _ ?_) _ _ _ ⟨cs, [], o6, rfl, rfl, rfl, by simp; omega, hok, rfl⟩
      simp
      exact gc_all (by simp) p
    | cons _ _ => simp [dInts] at e1
  · subst e2 e3
    cases r with
    | nil => simp [dInts] at e1
    | cons x r =>
      simp only [dInts, List.map_cons, List.cons.injEq] at e1
      obtain ⟨e4, e5⟩ := e1
      subst e4
      refine ⟨trivial, ?_⟩
      simp only [wgName, wsFor, wiSeq, wVar, List.getElem?_cons_succ, List.getElem?_cons_zero, List.set_cons_succ, List.set_cons_zero, dChs]
      exact lots_inner (m := ns.length) (F := lap cs l) (fun o6 o7 => ih _ _ ⟨r, lap cs l, _, _, _, _, _, e5, rfl, rfl, by rw [lap, lap_len]; exact hl, hf⟩) _ _ _ ⟨cs, l, o6, o7, rfl, rfl, rfl, hl, hok, rfl⟩
end Hd
set_option Elab.async false
set_option linter.all false
set_option maxRecDepth 100000
set_option maxHeartbeats 2000000
/-! L4: the law's kept rows. -/
namespace Hd
open PySem PySem.Spec PyProof.Rows L2 Vd
abbrev Mk := List (List Key × D)
def has (d : Mk) (k : List Key) : Bool := (dGet d k).isSome
def lLo (d : Mk) (a b : Nat) : Bool := has d [.inr "loose", .inl (a : Int), .inl (b : Int)]
def lIdle (d : Mk) (a : Nat) : Bool := has d [.inr "idle", .inl (a : Int)]
def lHeld (d : Mk) (a : Nat) : Bool := has d [.inr "held", .inl (a : Int)]
def pw (d : Mk) (lot : Nat) (o : Nat) : Bool := decide (o ≠ lot) && lLo d o lot
def lstep (l : List Nat) (d : Mk) (kept : List Nat) (s : Nat) : List Nat :=
  if lIdle d (gN l s) = true then kept else match kept.reverse.dropWhile (pw d (gN l s)) with
    | [] => kept ++ [gN l s]
    | o :: _ => if o = gN l s ∧ lHeld d (gN l s) = true then kept else kept ++ [gN l s]
def lkept (l : List Nat) (d : Mk) (row : List Nat) : List Nat := row.foldl (lstep l d) []
def spLKept : DSp := fun ds st P => ∃ (i j m : Nat) (l : List Nat) (d : Mk) (row : List Nat), ds = [.tup [.ob i, .ob j], dRow row] ∧ st[i]? = some (cInts l) ∧ st[j]? = some (.dT d) ∧ l.length = m ∧ Below m row ∧ row.length ≤ 1000 ∧ P (.ob st.length) (st ++ [cInts (lkept l d row)])
theorem kIn_dict {F : Bool → Bool} {st : Sto} {j : Nat} {d : Mk} {xs : List D} {k : List Key} {P : D → Sto → Prop} (h : st[j]? = some (.dT d)) (hk : keysD xs = some k) : kInF F (.tup xs) (.ob j) st P = P (.bl (F (has d k))) st := by
  simp only [kInF, h, lookD, hk, Option.map_some, has]
theorem lstep_len {l : List Nat} {d : Mk} {kept : List Nat} {s : Nat} : (lstep l d kept s).length ≤ kept.length + 1 := by
  unfold lstep
  split
  · omega
  · split
    · simp
    · split <;> simp
theorem take_rev {kept : List Nat} {n : Nat} (h0 : 0 < n) (h : n ≤ kept.length) : (kept.take n).reverse = gN kept (n - 1) :: (kept.take (n - 1)).reverse := by
  obtain ⟨k, rfl⟩ : ∃ k, n = k + 1 := ⟨n - 1, by omega⟩
  rw [List.take_add_one, gN_at (show k < kept.length by omega)]
  simp
theorem keeps_lkept : Keeps 2 8 w__law_kept spLKept := by
  intro ds st P hl h1 h2 ⟨i, j, m, l, d, row, e, g1, g2, hm, hb, hlen, p⟩
  subst e
  simp only [w__law_kept, startE]
  refine seq_step fun k1 hk1 => ?_
  simp [seqAt]
  refine hk1 _ _ ?_
  clear hk1 k1
  refine seq_step fun k2 hk2 => ?_
  simp
  refine hk2 _ _ ?_
  clear hk2 k2
  refine seq_step fun k3 hk3 => ?_
  simp [-wsSeq, wiSeq, dRow]
  refine loop_ind (fun ds env st' => ∃ (r kept : List Nat) (o5 o6 o7 : Option D), ds = dInts r ∧ st' = st ++ [cInts kept] ∧ env = [some (.tup [.ob i, .ob j]), some (.tup (dInts row)), some (.ob i), some (.ob j), some (.ob st.length), o5, o6, o7] ∧ Below m r ∧ kept.length + r.length ≤ 1000 ∧ P (.ob st.length) (st ++ [cInts (r.foldl (lstep l d) kept)]))
    (fun env st' ⟨r, kept, o5, o6, o7, e1, e2, e3, hb, hn, p⟩ => ?_) (fun x0 ds env st' ⟨r, kept, o5, o6, o7, e1, e2, e3, hb, hn, p⟩ ih => ?_) _ _ _ ⟨row, [], none, none, none, rfl, rfl, rfl, hb, by simpa using hlen, p⟩
  · subst e2 e3
    cases r with
    | nil =>
      refine ⟨trivial, hk3 _ _ ?_⟩
      simp
      exact gc_all (by simp) p
    | cons _ _ => simp [dInts] at e1
  · subst e2 e3
    cases r with
    | nil => simp [dInts] at e1
    | cons x r =>
      simp only [dInts, List.map_cons, List.cons.injEq] at e1
      obtain ⟨e4, e5⟩ := e1
      subst e4
      have hx : x < l.length := by rw [hm]; exact hb x List.mem_cons_self
      have hb' : Below m r := fun y hy => hb y (List.mem_cons_of_mem _ hy)
      simp only [List.length_cons] at hn
      simp only [List.foldl_cons] at p
      have a1 : (st ++ [cInts kept])[i]? = some (.lst (dInts l)) := get_app g1
      have a2 : (st ++ [cInts kept])[j]? = some (.dT d) := get_app g2
      have a3 : (st ++ [cInts kept])[st.length]? = some (.lst (dInts kept)) := get_new0
      refine ⟨trivial, ?_⟩
      simp only [wgName, List.set_cons_succ, List.set_cons_zero]
      refine seq_step fun k4 hk4 => ?_
      simp [kIx_lst a1, at_gN hx]
      refine hk4 _ _ ?_
      clear hk4 k4
      refine seq_step fun k5 hk5 => ?_
      simp [kLen, lenD]
      refine hk5 _ _ ?_
      clear hk5 k5
      generalize hlot : gN l x = lot at *
      have dl : (dInts kept).length = kept.length := by simp [dInts]
      rw [dl]
      refine seq_step fun k6 hk6 => ?_
      have e6 := fun F P => kIn_dict (F := F) (P := P) a2 (show keysD [.str "idle", .int (lot : Nat)] = some [.inr "idle", .inl (lot : Int)] from rfl)
      simp [e6]
      by_cases ci : lIdle d lot = true
      · have es : lstep l d kept x = kept := by unfold lstep; rw [hlot, if_pos ci]
        rw [es] at p
        rw [if_pos (by exact ci)]
        exact ih _ _ ⟨r, kept, _, _, _, e5, rfl, rfl, hb', by omega, p⟩
      rw [if_neg (by exact ci)]
      refine hk6 _ _ ?_
      clear hk6 k6
      refine seq_step fun k7 hk7 => ?_
      refine while_ind (fun n env st' => n ≤ kept.length ∧ st' = st ++ [cInts kept] ∧ env = [some (.tup [.ob i, .ob j]), some (.tup (dInts row)), some (.ob i), some (.ob j), some (.ob st.length), some (.int (x : Nat)), some (.int (lot : Nat)), some (.int (n : Nat))] ∧ (kept.take n).reverse.dropWhile (pw d lot) = kept.reverse.dropWhile (pw d lot)) ⟨kept.length, Nat.le_refl _, rfl, rfl, by rw [List.take_length]⟩ fun n env st' ⟨hn2, e7, e8, hd⟩ K hK => ?_
      subst e7 e8
      -- the end of the turn, the loop being left at n
      have fin : (n = 0 ∨ pw d lot (gN kept (n - 1)) = false) → k7 [some (.tup [.ob i, .ob j]), some (.tup (dInts row)), some (.ob i), some (.ob j), some (.ob st.length), some (.int (x : Nat)), some (.int (lot : Nat)), some (.int (n : Nat))] (st ++ [cInts kept]) := fun hstop => by
        refine hk7 _ _ ?_
        have e10 := fun F P => kIn_dict (F := F) (P := P) a2 (show keysD [.str "held", .int (lot : Nat)] = some [.inr "held", .inl (lot : Int)] from rfl)
        have app : lstep l d kept x = kept ++ [lot] → isLst (st ++ [cInts kept]) (.ob st.length) ∧ kAppend (.ob st.length) [.int (lot : Nat)] (st ++ [cInts kept]) fun _ s1 => wLoop (wgName 5) _ (fun _ => True) ds _ [some (.tup [.ob i, .ob j]), some (.tup (dInts row)), some (.ob i), some (.ob j), some (.ob st.length), some (.int (x : Nat)), some (.int (lot : Nat)), some (.int (n : Nat))] s1 := fun es => by
          rw [es] at p
          refine ⟨isLst_at a3, ?_⟩
          rw [kAppend_at a3]
          refine ⟨by rw [dl]; omega, ih _ _ ⟨r, kept ++ [lot], _, _, _, e5, ?_, rfl, hb', by simp; omega, p⟩⟩
          simp [cInts, dInts]
        rcases Nat.eq_zero_or_pos n with h0 | h0
        · subst h0
          have es : lstep l d kept x = kept ++ [lot] := by
            unfold lstep
            rw [hlot, if_neg ci, ← hd]; rfl
          have := app es
          simp only [wsIf, wOr, wTst, w2, wVar, wK, List.getElem?_cons_succ, List.getElem?_cons_zero, kEq, kEq_int, wsExpr, wLM, waCons, waNil]
          exact this
        · have hp : pw d lot (gN kept (n - 1)) = false := hstop.resolve_left (by omega)
          have hk0 : atD (dInts kept) ((n : Int) - 1) = some (.int (gN kept (n - 1) : Nat)) := by
            have := at_gN (l := kept) (k := n - 1) (by omega)
            rwa [show ((n - 1 : Nat) : Int) = (n : Int) - 1 by omega] at this
          have hdw : kept.reverse.dropWhile (pw d lot) = gN kept (n - 1) :: (kept.take (n - 1)).reverse := by
            rw [← hd, take_rev h0 hn2, List.dropWhile_cons, if_neg (by rw [hp]; simp)]
          have es : lstep l d kept x = if gN kept (n - 1) = lot ∧ lHeld d lot = true then kept else kept ++ [lot] := by
            unfold lstep
            rw [hlot, if_neg ci, hdw]
          have n0 : ¬ (n : Int) = 0 := by omega
          simp only [wsIf, wOr, wTst, w2, wVar, wK, List.getElem?_cons_succ, List.getElem?_cons_zero, kEq, kEq_int, n0, decide_false, Bool.false_eq_true, if_false, kSub, kI0_int, kIx_lst a3, hk0, kNe]
          by_cases c1 : gN kept (n - 1) = lot
          · have c1' : ((gN kept (n - 1) : Nat) : Int) = ((lot : Nat) : Int) := by omega
            simp only [c1', decide_true, Bool.not_true, Bool.false_eq_true, if_false, wTup, waCons, waNil, wK, wVar, List.getElem?_cons_succ, List.getElem?_cons_zero]
            refine ⟨by simp, ?_⟩
            show kInF _ _ _ _ _
            rw [e10]
            by_cases c2 : lHeld d lot = true
            · rw [if_pos ⟨c1, c2⟩] at es
              rw [es] at p
              have c2' : has d [.inr "held", .inl (lot : Int)] = true := c2
              simp only [c2', Bool.not_true, Bool.false_eq_true, if_false, wsNext]
              exact ih _ _ ⟨r, kept, _, _, _, e5, rfl, rfl, hb', by omega, p⟩
            · rw [if_neg (fun h => c2 h.2)] at es
              have c2' : has d [.inr "held", .inl (lot : Int)] = false := by simpa [lHeld] using c2
              simp only [c2', Bool.not_false, if_true, wsExpr, wLM, waCons, waNil, wVar, List.getElem?_cons_succ, List.getElem?_cons_zero]
              exact app es
          · have c1' : ¬ ((gN kept (n - 1) : Nat) : Int) = ((lot : Nat) : Int) := by omega
            rw [if_neg (fun h => c1 h.1)] at es
            simp only [c1', decide_false, Bool.not_false, if_true, wsExpr, wLM, waCons, waNil, wVar, List.getElem?_cons_succ, List.getElem?_cons_zero]
            exact app es
      rcases Nat.eq_zero_or_pos n with h0 | h0
      · subst h0
        simp
        exact fin (.inl rfl)
      · have hk0 : atD (dInts kept) ((n : Int) - 1) = some (.int (gN kept (n - 1) : Nat)) := by
          have := at_gN (l := kept) (k := n - 1) (by omega)
          rwa [show ((n - 1 : Nat) : Int) = (n : Int) - 1 by omega] at this
        have e9 := fun F P => kIn_dict (F := F) (P := P) a2 (show keysD [.str "loose", .int (gN kept (n - 1) : Nat), .int (lot : Nat)] = some [.inr "loose", .inl (gN kept (n - 1) : Int), .inl (lot : Int)] from rfl)
        simp [h0, kIx_lst a3, hk0, e9]
        have hpw : pw d lot (gN kept (n - 1)) = (decide (gN kept (n - 1) ≠ lot) && has d [.inr "loose", .inl (gN kept (n - 1) : Int), .inl (lot : Int)]) := rfl
        split
        · rename_i c
          exact fin (.inr (by rw [hpw, decide_eq_false (by simp; omega)]; rfl))
        · rename_i c
          split
          · rename_i c2
            have hp : pw d lot (gN kept (n - 1)) = true := by
              rw [hpw, c2, decide_eq_true (by intro h; exact c (by omega))]; rfl
            refine hK _ _ (n - 1) (by omega) ⟨by omega, rfl, ?_, ?_⟩
            · rw [show ((n : Int) - 1) = ((n - 1 : Nat) : Int) by omega]
            · rw [← hd, take_rev h0 hn2, List.dropWhile_cons, if_pos hp]
          · rename_i c2
            exact fin (.inr (by rw [hpw]; simp [c2]))
end Hd
set_option Elab.async false
set_option linter.all false
set_option maxRecDepth 100000
set_option maxHeartbeats 2000000
/-! L5: the law's alike. -/
namespace Hd
open PySem PySem.Spec PyProof.Rows L2 Vd
def rem (lo : Nat → Nat → Bool) (a : Nat) : List Nat → Option (List Nat)
  | [] => none
  | o :: r => if o = a then some r else if lo o a = true then (rem lo a r).map (o :: ·) else none
def cancel (lo : Nat → Nat → Bool) : List Nat → List Nat → Bool
  | [], _ => true
  | a :: mine, left => match rem lo a left with
    | none => false
    | some l => cancel lo mine l
def lalike (l : List Nat) (d : Mk) (a b : List Nat) : Bool := if (lkept l d a).length = (lkept l d b).length then cancel (lLo d) (lkept l d a) (lkept l d b) else false
theorem rem_none {lo : Nat → Nat → Bool} {a : Nat} : ∀ {left : List Nat}, a ∉ left → rem lo a left = none
  | [], _ => rfl
  | o :: r, h => by
    unfold rem
    rw [if_neg (fun e => h (by rw [e]; simp))]
    split
    · rw [rem_none fun z => h (List.mem_cons_of_mem _ z)]; rfl
    · rfl
theorem rem_some {lo : Nat → Nat → Bool} {a : Nat} : ∀ {left : List Nat} {j : Nat}, left[j]? = some a → (∀ k, k < j → left[k]? ≠ some a) → (∀ k, k < j → lo (gN left k) a = true) → rem lo a left = some (left.eraseIdx j)
  | [], _, h, _, _ => by simp at h
  | o :: r, 0, h, _, _ => by
    simp at h
    unfold rem
    rw [if_pos h]; rfl
  | o :: r, j + 1, h, h2, h3 => by
    have h0 := h2 0 (by omega)
    simp at h0
    unfold rem
    have l0 := h3 0 (by omega)
    rw [if_neg h0, if_pos (by simpa [gN] using l0), rem_some (left := r) (j := j) (by simpa using h) (fun k hk => by have := h2 (k + 1) (by omega); simpa using this) (fun k hk => by have := h3 (k + 1) (by omega); simpa [gN] using this)]
    rfl
theorem rem_bad {lo : Nat → Nat → Bool} {a : Nat} : ∀ {left : List Nat} {j k : Nat}, (∀ k, k < j → left[k]? ≠ some a) → j < left.length → k < j → lo (gN left k) a = false → rem lo a left = none
  | [], _, _, _, h, _, _ => by simp at h
  | o :: r, j, k, h2, hl, hk, h3 => by
    have h0 := h2 0 (by omega)
    simp at h0
    unfold rem
    rw [if_neg h0]
    cases k with
    | zero =>
      rw [if_neg (by simpa [gN] using h3)]
    | succ k =>
      obtain ⟨j, rfl⟩ : ∃ j', j = j' + 1 := ⟨j - 1, by omega⟩
      split
      · rw [rem_bad (left := r) (j := j) (k := k) (fun i hi => by have := h2 (i + 1) (by omega); simpa using this) (by simpa using hl) (by omega) (by simpa [gN] using h3)]
        rfl
      · rfl
def spAlike : DSp := fun ds st P => ∃ (i j m : Nat) (l : List Nat) (d : Mk) (a b : List Nat), ds = [.tup [.ob i, .ob j], dRow a, dRow b] ∧ st[i]? = some (cInts l) ∧ st[j]? = some (.dT d) ∧ l.length = m ∧ Below m a ∧ a.length ≤ 1000 ∧ Below m b ∧ b.length ≤ 1000 ∧ P (.bl (lalike l d a b)) st
theorem lkept_len {l : List Nat} {d : Mk} : ∀ {row kept : List Nat}, (row.foldl (lstep l d) kept).length ≤ kept.length + row.length
  | [], kept => by simp
  | s :: row, kept => by
    have := lkept_len (l := l) (d := d) (row := row) (kept := lstep l d kept s)
    have h2 := lstep_len (l := l) (d := d) (kept := kept) (s := s)
    simp only [List.foldl_cons, List.length_cons]
    omega
theorem shaped_ints (a : List Nat) : SeqAt.shaped (.list (pInts a)) = true := by
  simp [SeqAt.shaped, PyData.canLay0, lay_ints, PyData.depth, depth_pInts]
theorem kIndex_ints {st : Sto} {k x j : Nat} {l : List Nat} {P : D → Sto → Prop} (h : st[k]? = some (cInts l)) (hj : l[j]? = some x) (hno : ∀ m, m < j → l[m]? ≠ some x) (p : P (.int (j : Nat)) st) : kIndex (.ob k) [.int (x : Nat)] st P := by
  unfold kIndex
  rw [lstOf_at h]
  have e1 : toPy (.int (x : Nat)) = some (.int (x : Nat)) := by simp [toPy]
  simp only [toPys_ints, e1]
  refine ⟨⟨shaped_ints l, by simp [SeqAt.shaped, PyData.canLay0, PyData.depth]⟩, j, .int (x : Nat), by simp [pInts, hj], by simp [PyData.eqv], fun m z hm hz => ?_, p⟩
  simp only [pInts, List.getElem?_map, Option.map_eq_some_iff] at hz
  obtain ⟨y, hy, rfl⟩ := hz
  have : y ≠ x := fun e => hno m hm (by rw [hy, e])
  simp [PyData.eqv]
  omega
theorem first_at {x : Nat} : ∀ {l : List Nat}, x ∈ l → ∃ j : Nat, l[j]? = some x ∧ ∀ m, m < j → l[m]? ≠ some x
  | a :: l, h => by
    by_cases e : a = x
    · exact ⟨0, by simp [e], fun m hm => by omega⟩
    · obtain ⟨j, h1, h2⟩ := first_at (l := l) ((List.mem_cons.mp h).resolve_left (fun z => e z.symm))
      refine ⟨j + 1, by simpa using h1, fun m hm => ?_⟩
      cases m with
      | zero => simpa using e
      | succ m => have := h2 m (by omega); simpa using this
theorem loose_loop {S : Sto} {n i j q x : Nat} {d : Mk} {left : List Nat} {E1 E2 o4 : Option D} {W : WEnds} (a1 : S[n]? = some (.lst (dInts left))) (a2 : S[j]? = some (.dT d)) (hq : q < left.length)
    (fin : (∀ k, k < q → lLo d (gN left k) x = true) → ∀ o7, W.nx [some (.tup [.ob i, .ob j]), E1, E2, some (.ob n), o4, some (.int (x : Nat)), some (.int (q : Nat)), o7] S) (bad : (∃ k, k < q ∧ lLo d (gN left k) x = false) → W.rt (.bl false) S) :
    ∀ ds env, (∃ (s pre : List Nat) (o7 : Option D), ds = dInts s ∧ pre ++ s = List.range q ∧ env = [some (.tup [.ob i, .ob j]), E1, E2, some (.ob n), o4, some (.int (x : Nat)), some (.int (q : Nat)), o7] ∧ ∀ k ∈ pre, lLo d (gN left k) x = true) →
      wLoop (wgName 7) (wsIf (wTst (w2 kNotIn (wTup (waCons (wK (.str "loose")) (waCons (w2 kIx (wVar 3) (wVar 7)) (waCons (wVar 5) waNil)))) (w2 kIx (wVar 0) (wK (.int 1))))) (wsRet (wK (.bl false))) wsNext) (fun _ => True) ds W env S := by
  intro ds env h
  refine loop_ind (fun ds env st' => st' = S ∧ ∃ (s pre : List Nat) (o7 : Option D), ds = dInts s ∧ pre ++ s = List.range q ∧ env = [some (.tup [.ob i, .ob j]), E1, E2, some (.ob n), o4, some (.int (x : Nat)), some (.int (q : Nat)), o7] ∧ ∀ k ∈ pre, lLo d (gN left k) x = true)
    (fun env st' ⟨e0, s, pre, o7, e1, e2, e3, e4⟩ => ?_) (fun y0 ds env st' ⟨e0, s, pre, o7, e1, e2, e3, e4⟩ ih => ?_) ds env S ⟨rfl, h⟩
  · subst e0 e3
    cases s with
    | nil =>
      rw [List.append_nil] at e2
      subst e2
      exact ⟨trivial, fin (fun k hk => e4 k (List.mem_range.mpr hk)) _⟩
    | cons _ _ => simp [dInts] at e1
  · subst e0 e3
    cases s with
    | nil => simp [dInts] at e1
    | cons y s =>
      simp only [dInts, List.map_cons, List.cons.injEq] at e1
      obtain ⟨e5, e6⟩ := e1
      subst e5
      have hy : y < q := List.mem_range.mp (by rw [← e2]; simp)
      refine ⟨trivial, ?_⟩
      have e9 := fun F P => kIn_dict (F := F) (P := P) a2 (show keysD [.str "loose", .int (gN left y : Nat), .int (x : Nat)] = some [.inr "loose", .inl (gN left y : Int), .inl (x : Int)] from rfl)
      simp [kIx_lst a1, at_gN (show y < left.length by omega), e9]
      split
      · rename_i c
        exact ih _ _ ⟨rfl, s, pre ++ [y], _, e6, by rw [List.append_assoc]; exact e2, rfl, fun k hk => by
          rcases List.mem_append.mp hk with z | z
          · exact e4 k z
          · rw [List.mem_singleton.mp z]; exact c⟩
      · rename_i c
        exact bad ⟨y, hy, by simpa [lLo] using c⟩
theorem keeps_alike : Keeps 3 8 (w__law_alike spLKept) spAlike := by
  intro ds st P hl h1 h2 ⟨i, j, m, l, d, a, b, e, g1, g2, hm, ha, ha2, hb, hb2, p⟩
  subst e
  simp only [w__law_alike, startE]
  refine seq_step fun k1 hk1 => ?_
  simp
  refine ⟨i, j, m, l, d, b, rfl, g1, g2, hm, hb, hb2, hk1 _ _ ?_⟩
  clear hk1 k1
  refine seq_step fun k2 hk2 => ?_
  simp
  refine ⟨i, j, m, l, d, a, rfl, get_app g1, get_app g2, hm, ha, ha2, hk2 _ _ ?_⟩
  clear hk2 k2
  have la : (lkept l d a).length ≤ 1000 := by have := lkept_len (l := l) (d := d) (row := a) (kept := []); simp at this; unfold lkept; omega
  have lb : (lkept l d b).length ≤ 1000 := by have := lkept_len (l := l) (d := d) (row := b) (kept := []); simp at this; unfold lkept; omega
  have el : st ++ [cInts (lkept l d b)] ++ [cInts (lkept l d a)] = st ++ [cInts (lkept l d b), cInts (lkept l d a)] := by simp
  rw [el]
  have ef : lalike l d a b = if (lkept l d a).length = (lkept l d b).length then cancel (lLo d) (lkept l d a) (lkept l d b) else false := rfl
  generalize lkept l d a = mine at *
  generalize lkept l d b = left at *
  have fin : ∀ (left' : List Nat) (q : Bool), lalike l d a b = q → gcP st.length P (.bl q) (st ++ [cInts left', cInts mine]) := fun left' q hq => gc_drop rfl h2 (by simp) (by rw [← hq]; exact p)
  have dl : ∀ x : List Nat, (dInts x).length = x.length := fun x => by simp [dInts]
  refine seq_step fun k3 hk3 => ?_
  simp [kLen, lenD, dl]
  by_cases c : mine.length = left.length
  · rw [if_pos (by omega)]
    refine hk3 _ _ ?_
    clear hk3 k3
    rw [if_pos c] at ef
    refine seq_step fun k4 hk4 => ?_
    simp [-wsSeq, wiSeq]
    refine loop_ind (fun ds env st' => ∃ (r left' : List Nat) (o5 o6 o7 : Option D), ds = dInts r ∧ st' = st ++ [cInts left', cInts mine] ∧ env = [some (.tup [.ob i, .ob j]), some (dRow a), some (dRow b), some (.ob st.length), some (.ob (st.length + 1)), o5, o6, o7] ∧ left'.length ≤ 1000 ∧ lalike l d a b = cancel (lLo d) r left')
      (fun env st' ⟨r, left', o5, o6, o7, e1, e2, e3, hn, hf⟩ => ?_) (fun x0 ds env st' ⟨r, left', o5, o6, o7, e1, e2, e3, hn, hf⟩ ih => ?_) _ _ _ ⟨mine, left, none, none, none, rfl, rfl, rfl, lb, ef⟩
    · subst e2 e3
      cases r with
      | nil =>
        refine ⟨by simp, hk4 _ _ ?_⟩
        simp
        exact fin left' true hf
      | cons _ _ => simp [dInts] at e1
    · subst e2 e3
      cases r with
      | nil => simp [dInts] at e1
      | cons x r =>
        simp only [dInts, List.map_cons, List.cons.injEq] at e1
        obtain ⟨e4, e5⟩ := e1
        subst e4
        have a1 : (st ++ [cInts left', cInts mine])[st.length]? = some (.lst (dInts left')) := get_new0
        have a2 : (st ++ [cInts left', cInts mine])[j]? = some (.dT d) := get_app g2
        have a3 : (st ++ [cInts left', cInts mine])[st.length + 1]? = some (cInts mine) := get_new
        refine ⟨a3, ?_⟩
        simp only [wgName, List.set_cons_succ, List.set_cons_zero]
        refine seq_step fun k5 hk5 => ?_
        simp [kIn_ints a1]
        simp only [cancel] at hf
        by_cases hx : x ∈ left'
        · rw [if_pos hx]
          refine hk5 _ _ ?_
          clear hk5 k5
          obtain ⟨q, q1, q2⟩ := first_at hx
          have hql : q < left'.length := (List.getElem?_eq_some_iff.mp q1).1
          refine seq_step fun k6 hk6 => ?_
          simp
          refine kIndex_ints a1 q1 q2 (hk6 _ _ ?_)
          clear hk6 k6
          refine seq_step fun k7 hk7 => ?_
          simp [wiRng1]
          refine ⟨by omega, ?_⟩
          rw [rng_ints]
          refine loose_loop (n := st.length) (j := j) (i := i) (d := d) (x := x) (q := q) (left := left') a1 a2 hql (fun hg o7 => hk7 _ _ ?_) (fun ⟨k, hk, hbad⟩ => ?_) _ _ ⟨List.range q, [], o7, rfl, by simp, rfl, fun k hk => by cases hk⟩
          · rw [rem_some q1 q2 hg] at hf
            simp
            rw [kPop_nat (x := .int (x : Nat)) a1 (by simp [dInts, q1]) (by rw [dl]; omega)]
            refine ih _ _ ⟨r, left'.eraseIdx q, _, _, _, e5, ?_, rfl, by have := len_erase left' q; omega, hf⟩
            rw [erase_ints]
            simp
          · rw [rem_bad q2 hql hk hbad] at hf
            exact fin left' false hf
        · rw [if_neg hx]
          rw [rem_none hx] at hf
          exact fin left' false hf
  · rw [if_neg (by omega)]
    rw [if_neg c] at ef
    exact fin left false ef
end Hd
set_option Elab.async false
set_option linter.all false
set_option maxRecDepth 100000
set_option maxHeartbeats 2000000
/-! L6: the law's comparison. -/
namespace Hd
open PySem PySem.Spec PyProof.Rows L2 Vd
def seqD (st : Sto) : D → Option (List D)
  | .tup xs => some xs
  | .ob n => (match st[n]? with
    | some (.lst xs) => some xs
    | _ => none)
  | _ => none
def sameAll (f : D → D → Option Bool) : List D → List D → Option Bool
  | [], [] => some true
  | x :: xs, y :: ys => (match f x y with
    | some true => sameAll f xs ys
    | r => r)
  | _, _ => none
def sameF (st : Sto) : Nat → D → D → Option Bool
  | 0, _, _ => none
  | n + 1, told, due => match due with
    | .str s => (match told with
      | .str t => some (decide (t = s))
      | .tup _ => some false
      | _ => none)
    | .int i => (match told with
      | .int j => some (decide (j = i))
      | .bl _ => some false
      | .tup _ => some false
      | .str _ => some false
      | _ => none)
    | due => (match told, seqD st due with
      | .tup xs, some ys => if xs.length = ys.length then (if ys.length ≤ 1000 then sameAll (sameF st n) xs ys else none) else some false
      | _, _ => none)
def spSame (n : Nat) : DSp := fun ds st P => ∃ t u b, ds = [t, u] ∧ sameF st n t u = some b ∧ P (.bl b) st
theorem keeps_same (n : Nat) : Keeps 2 3 (w__law_same (spSame n)) (spSame (n + 1)) := by
  intro ds st P hl h1 h2 ⟨t, u, b, e, hs, p⟩
  subst e
  have fin : ∀ c, b = c → gcP st.length P (.bl c) st := fun c hc => by subst hc; exact gc_same rfl h2 (by simp) p
  have seq : ∀ ys, seqD st u = some ys → (typD st u = some "tuple" ∨ typD st u = some "list") → lenD st u = some ys.length → (∀ (k : Nat) y, ys[k]? = some y → ∀ Q : D → Sto → Prop, Q y st → kIx u (.int (k : Nat)) st Q) → (∀ xs, t = .tup xs → (if xs.length = ys.length then (if ys.length ≤ 1000 then sameAll (sameF st n) xs ys else none) else some false) = some b) → (∃ xs, t = .tup xs) → w__law_same (spSame n) { nx := fun _ s => gcP st.length P .non s, rt := gcP st.length P } (startE 3 [t, u]) st := fun ys hy hty hlu hix hsame ⟨xs, ht⟩ => by
    subst ht
    have hsame := hsame xs rfl
    have e1 : ∀ Q, kIsi [u, .ty "str"] st Q = Q (.bl false) st := fun Q => by
      rcases hty with h | h <;> simp [kIsi, h, isTy]
    have e2 : ∀ Q, kIsi [u, .ty "int"] st Q = Q (.bl false) st := fun Q => by
      rcases hty with h | h <;> simp [kIsi, h, isTy]
    have e3 : ∀ Q, kIsi [.tup xs, .ty "tuple"] st Q = Q (.bl true) st := fun Q => by simp [kIsi, typD, isTy]
    simp only [w__law_same, startE]
    refine seq_step fun k1 hk1 => ?_
    simp [e1]
    refine hk1 _ _ ?_
    clear hk1 k1
    refine seq_step fun k2 hk2 => ?_
    simp [e2]
    refine hk2 _ _ ?_
    clear hk2 k2
    refine seq_step fun k3 hk3 => ?_
    have el1 : lenD st (.tup xs) = some xs.length := rfl
    simp [e3, kLen, hlu, el1]
    by_cases c : xs.length = ys.length
    · rw [if_pos c] at hsame
      rw [if_pos (by omega)]
      refine hk3 _ _ ?_
      clear hk3 k3
      by_cases c1000 : ys.length ≤ 1000
      · rw [if_pos c1000] at hsame
        refine seq_step fun k4 hk4 => ?_
        simp [wiRng1, kLen, hlu]
        refine ⟨by omega, ?_⟩
        rw [rng_ints]
        refine loop_ind (fun ds env st' => st' = st ∧ ∃ (k : Nat) (o : Option D), ds = dInts (List.range' k (ys.length - k)) ∧ k ≤ ys.length ∧ env = [some (.tup xs), some u, o] ∧ sameAll (sameF st n) (xs.drop k) (ys.drop k) = some b)
          (fun env st' ⟨e0, k, o, f1, f2, f3, f4⟩ => ?_) (fun d ds env st' ⟨e0, k, o, f1, f2, f3, f4⟩ ih => ?_) _ _ _ ⟨rfl, 0, none, by rw [List.range_eq_range']; rfl, Nat.zero_le _, rfl, hsame⟩
        · subst e0 f3
          have hk : k = ys.length := by
            rcases Nat.lt_or_ge k ys.length with z | z
            · have : ys.length - k = (ys.length - k - 1) + 1 := by omega
              rw [this] at f1
              simp [dInts, List.range'_succ] at f1
            · omega
          refine ⟨trivial, hk4 _ _ ?_⟩
          rw [hk, List.drop_length, List.drop_eq_nil_of_le (by omega)] at f4
          simp [sameAll] at f4
          simp
          exact fin true f4
        · subst e0 f3
          have hk : k < ys.length := by
            rcases Nat.lt_or_ge k ys.length with z | z
            · exact z
            · have : ys.length - k = 0 := by omega
              rw [this] at f1
              simp [dInts] at f1
          have e5 : ys.length - k = (ys.length - (k + 1)) + 1 := by omega
          rw [e5] at f1
          simp only [dInts, List.range'_succ, List.map_cons, List.cons.injEq] at f1
          obtain ⟨g1, g2⟩ := f1
          subst g1
          rw [List.drop_eq_getElem_cons (show k < xs.length by omega), List.drop_eq_getElem_cons hk] at f4
          simp only [sameAll] at f4
          refine ⟨trivial, ?_⟩
          have ex : atD xs (k : Int) = some xs[k] := atD_nat (List.getElem?_eq_getElem (by omega))
          simp [ex]
          refine hix k ys[k] (List.getElem?_eq_getElem hk) _ ?_
          cases q : sameF st' n xs[k] ys[k] with
          | none => rw [q] at f4; cases f4
          | some r =>
            rw [q] at f4
            refine ⟨xs[k], ys[k], r, rfl, q, ?_⟩
            cases r with
            | true =>
              simp
              exact ih _ _ ⟨rfl, k + 1, _, g2, hk, rfl, f4⟩
            | false =>
              simp
              exact fin false (by simpa using f4.symm)
      · rw [if_neg c1000] at hsame; cases hsame
    · rw [if_neg c] at hsame
      rw [if_neg (by omega)]
      exact fin false (by simpa using hsame.symm)
  cases u with
  | str s =>
    cases t with
    | str t =>
      simp only [sameF, Option.some.injEq] at hs
      simp [w__law_same, startE, kIsi, typD, isTy]
      exact fin _ hs.symm
    | tup xs =>
      simp only [sameF, Option.some.injEq] at hs
      simp [w__law_same, startE, kIsi, typD, isTy]
      exact fin _ hs.symm
    | _ => simp [sameF] at hs
  | int i =>
    cases t with
    | int t =>
      simp only [sameF, Option.some.injEq] at hs
      simp [w__law_same, startE, kIsi, typD, isTy]
      exact fin _ hs.symm
    | bl t =>
      simp only [sameF, Option.some.injEq] at hs
      simp [w__law_same, startE, kIsi, typD, isTy]
      exact fin _ hs.symm
    | tup xs =>
      simp only [sameF, Option.some.injEq] at hs
      simp [w__law_same, startE, kIsi, typD, isTy]
      exact fin _ hs.symm
    | str xs =>
      simp only [sameF, Option.some.injEq] at hs
      simp [w__law_same, startE, kIsi, typD, isTy]
      exact fin _ hs.symm
    | _ => simp [sameF] at hs
  | tup ys =>
    cases t with
    | tup xs =>
      refine seq ys rfl (.inl rfl) rfl (fun k y hy Q q => by simp [atD_nat hy]; exact q) (fun xs' e => ?_) ⟨xs, rfl⟩
      cases e
      simpa only [sameF, seqD] using hs
    | _ => simp [sameF, seqD] at hs
  | ob k =>
    cases q : st[k]? with
    | none => cases t <;> simp [sameF, seqD, q] at hs
    | some c =>
      cases c with
      | lst ys =>
        cases t with
        | tup xs =>
          refine seq ys (by simp [seqD, q]) (.inr (by simp [typD, q])) (by simp [lenD, q]) (fun k y hy Q q' => by simp [kIx_lst q, atD_nat hy]; exact q') (fun xs' e => ?_) ⟨xs, rfl⟩
          cases e
          simpa only [sameF, seqD, q] using hs
        | _ => simp [sameF, seqD, q] at hs
      | _ => cases t <;> simp [sameF, seqD, q] at hs
  | _ => cases t <;> simp [sameF, seqD] at hs
end Hd
set_option Elab.async false
set_option linter.all false
set_option maxRecDepth 100000
set_option maxHeartbeats 2000000
/-! L7: the law's strange pairs. -/
namespace Hd
open PySem PySem.Spec PyProof.Rows L2 Vd
def lkin (m : Nat) (cs : List Ch) (a b : List Nat) : Bool := lalike (lawLots m cs) (lawMarks (lawLots m cs) cs) a b
def prAt (ps : List Pr) (k : Nat) : Pr := ps.getD k ([], [])
def lstr (m : Nat) (cs : List Ch) (ps : List Pr) : List Nat := (List.range ps.length).filter fun k => !lkin m cs (prAt ps k).1 (prAt ps k).2
def spLStr : DSp := fun ds st P => ∃ (ns : List Str) (cs : List Ch) (k : Nat) (ps : List Pr), ds = [dSet ns cs, .ob k] ∧ st[k]? = some (cPairs ps) ∧ Good ns cs ∧ GoodP ns ps ∧ P (.ob st.length) (st ++ [cInts (lstr ns.length cs ps)])
theorem lots_len {m : Nat} {cs : List Ch} : (lawLots m cs).length = m := by unfold lawLots; rw [laps_len]; simp
theorem at_pr {ps : List Pr} {k : Nat} (h : k < ps.length) : atD (ps.map dPair) (k : Int) = some (dPair (prAt ps k)) := atD_nat (by simp [prAt, h])
theorem prAt_mem {ps : List Pr} {k : Nat} (h : k < ps.length) : prAt ps k ∈ ps := by
  unfold prAt
  rw [List.getD_eq_getElem?_getD, List.getElem?_eq_getElem h]
  exact List.getElem_mem h
theorem keeps_lstr : Keeps 2 4 (w__law_strange spLots spAlike) spLStr := by
  intro ds st P hl h1 h2 ⟨ns, cs, k, ps, e, g, gs, gp, p⟩
  subst e
  simp only [w__law_strange, startE]
  refine seq_step fun k1 hk1 => ?_
  simp
  refine ⟨ns, cs, cs, by simp [dSet, dChs], gs.n, gs.c, gs.ok, hk1 _ _ ?_⟩
  clear hk1 k1
  have a0 : (st ++ [cInts (lawLots ns.length cs), Cell.dT (lawMarks (lawLots ns.length cs) cs)])[st.length]? = some (cInts (lawLots ns.length cs)) := get_new0
  have a1 : (st ++ [cInts (lawLots ns.length cs), Cell.dT (lawMarks (lawLots ns.length cs) cs)])[st.length + 1]? = some (Cell.dT (lawMarks (lawLots ns.length cs) cs)) := get_new
  have a2 : (st ++ [cInts (lawLots ns.length cs), Cell.dT (lawMarks (lawLots ns.length cs) cs)])[k]? = some (cPairs ps) := get_app g
  have hSl : (st ++ [cInts (lawLots ns.length cs), Cell.dT (lawMarks (lawLots ns.length cs) cs)]).length = st.length + 2 := by simp
  have hgc : gcP st.length P (.ob (st.length + 2)) (st ++ [cInts (lawLots ns.length cs), Cell.dT (lawMarks (lawLots ns.length cs) cs)] ++ [cInts (lstr ns.length cs ps)]) := by
    rw [List.append_assoc]
    exact gc_one h2 rfl (by simp) p
  generalize st ++ [cInts (lawLots ns.length cs), Cell.dT (lawMarks (lawLots ns.length cs) cs)] = S at *
  simp [wiRng1, kLen, lenD, a2, wipeE]
  have := gp.l
  refine ⟨by omega, ?_⟩
  rw [rng_ints]
  refine comp_filter (fun d => match d with | .int j => !lkin ns.length cs (prAt ps j.toNat).1 (prAt ps j.toNat).2 | _ => false) trivial (by simp [dInts]; omega) (fun d hd X Y q => ?_) ?_
  · obtain ⟨j, hj, rfl⟩ := List.mem_map.mp hd
    have hj' : j < ps.length := List.mem_range.mp hj
    have gx := gp.r _ (prAt_mem hj')
    simp [kIx_lst a2, at_pr hj', dPair]
    refine ⟨st.length, st.length + 1, ns.length, _, _, _, _, rfl, a0, a1, lots_len, gx.1.b, gx.1.l, gx.2.b, gx.2.l, ?_⟩
    simp only [Int.toNat_natCast] at q
    cases c : lkin ns.length cs (prAt ps j).1 (prAt ps j).2 with
    | true =>
      simp [c] at q
      unfold lkin at c
      simp [c]
      exact q
    | false =>
      simp [c] at q
      unfold lkin at c
      simp [c]
      exact q
  · have eb : ([] : List D) ++ (dInts (List.range ps.length)).filter (fun d => match d with | .int j => !lkin ns.length cs (prAt ps j.toNat).1 (prAt ps j.toNat).2 | _ => false) = dInts (lstr ns.length cs ps) := by
      simp only [List.nil_append, dInts, List.filter_map, lstr]
      rfl
    rw [eb, hSl]
    exact hgc
end Hd
set_option Elab.async false
set_option linter.all false
set_option maxRecDepth 100000
set_option maxHeartbeats 2000000
/-! L8: the law's needed changes. -/
namespace Hd
open PySem PySem.Spec PyProof.Rows L2 Vd
def lheard (m : Nat) (cs : List Ch) (ps : List Pr) : List Pr := ps.filter fun p => decide (p.1 ≠ p.2) && lkin m cs p.1 p.2
def lneed (m : Nat) (cs : List Ch) (ps : List Pr) : List Nat → List Nat := List.filter fun k => decide (0 < ((lheard m cs ps).filter fun p => !lkin m (cs.eraseIdx k) p.1 p.2).length)
def pairOf : D → Pr
  | .tup [.tup a, .tup b] => (natsOf a, natsOf b)
  | _ => ([], [])
@[simp] theorem pairOf_d (p : Pr) : pairOf (dPair p) = p := by simp [dPair, dRow, pairOf, natsOf_ints]
/-- pairs picked by a test -/
theorem comp_pick {S : Sto} {q i : Nat} {ps : List Pr} {env : Env'} {tt : WT} {te : WE} {P : List D → Sto → Prop} {f : Pr → Bool} (g : S[q]? = some (cPairs ps)) (hl : ps.length ≤ 1000)
    (ht : ∀ p ∈ ps, ∀ X : Bool → Sto → Prop, X (f p) S → tt (env.set i (some (dPair p))) S X) (he : ∀ p ∈ ps, ∀ X : D → Sto → Prop, X (dPair p) S → te (env.set i (some (dPair p))) S X) (p : P ((ps.filter f).map dPair) S) :
    wCLoop (wgName i) tt te (fun s => s[q]? = some (cPairs ps)) env (ps.map dPair) [] S P := by
  refine comp_filter (fun d => f (pairOf d)) g (by simp; omega) (fun d hd X Y q' => ?_) ?_
  · obtain ⟨pp, hpp, rfl⟩ := List.mem_map.mp hd
    simp only [wgName]
    refine ht pp hpp _ ?_
    rw [pairOf_d] at q'
    by_cases c : f pp = true
    · rw [if_pos c] at q' ⊢
      exact he pp hpp _ q'
    · rw [if_neg c] at q' ⊢
      exact q'
  · have eb : ([] : List D) ++ (ps.map dPair).filter (fun d => f (pairOf d)) = (ps.filter f).map dPair := by
      rw [List.nil_append, List.filter_map]
      congr 1
      congr 1
      funext pp
      simp
    rw [eb]; exact p
def spLNeed : DSp := fun ds st P => ∃ (ns : List Str) (cs : List Ch) (k : Nat) (ps : List Pr), ds = [dSet ns cs, .ob k] ∧ st[k]? = some (cPairs ps) ∧ cs.length ≤ 100 ∧ Good ns cs ∧ GoodP ns ps ∧ P (.ob st.length) (st ++ [cInts (lneed ns.length cs ps (List.range cs.length))])
theorem keeps_lneed : Keeps 2 7 (w__law_needed spLots spAlike) spLNeed := by
  intro ds st P hl h1 h2 ⟨ns, cs, k, ps, e, g, hc100, gs, gp, p⟩
  subst e
  simp only [w__law_needed, startE]
  refine seq_step fun k1 hk1 => ?_
  simp
  refine ⟨ns, cs, cs, by simp [dSet, dChs], gs.n, gs.c, gs.ok, hk1 _ _ ?_⟩
  clear hk1 k1
  generalize hc0 : cInts (lawLots ns.length cs) = c0
  generalize hc1 : Cell.dT (lawMarks (lawLots ns.length cs) cs) = c1
  have a0 : (st ++ [c0, c1])[st.length]? = some (cInts (lawLots ns.length cs)) := by rw [hc0]; exact get_new0
  have a1 : (st ++ [c0, c1])[st.length + 1]? = some (Cell.dT (lawMarks (lawLots ns.length cs) cs)) := by rw [hc1]; exact get_new
  have a2 : (st ++ [c0, c1])[k]? = some (cPairs ps) := get_app g
  have hSl : (st ++ [c0, c1]).length = st.length + 2 := by simp
  have hpl := gp.l
  refine seq_step fun k2 hk2 => ?_
  have hlen1 : ∀ x : List Pr, (lheard ns.length cs ps).length ≤ 1000 := fun _ => Nat.le_trans (List.length_filter_le _ _) hpl
  simp [wiSeq, a2, wipeE]
  refine comp_pick (f := fun p => decide (p.1 ≠ p.2) && lkin ns.length cs p.1 p.2) a2 hpl (fun pp hpp X q => ?_) (fun pp hpp X q => by simpa using q) ?_
  · have gx := gp.r pp hpp
    simp [dPair]
    show kEqF _ _ _ _ _
    rw [kEq_row]
    by_cases c : pp.1 = pp.2
    · simp [c] at q ⊢; exact q
    · simp [c] at q ⊢
      refine ⟨st.length, st.length + 1, ns.length, _, _, _, _, rfl, a0, a1, lots_len, gx.1.b, gx.1.l, gx.2.b, gx.2.l, ?_⟩
      simpa [lkin] using q
  refine hk2 _ _ ?_
  clear hk2 k2
  rw [hSl]
  refine seq_step fun k3 hk3 => ?_
  simp
  refine hk3 _ _ ?_
  clear hk3 k3
  refine seq_step fun k4 hk4 => ?_
  simp [wiRng1, kLen, lenD, dSet, dChs]
  refine ⟨by omega, ?_⟩
  rw [rng_ints]
  have hH : List.map dPair (List.filter (fun p => !decide (p.fst = p.snd) && lkin ns.length cs p.fst p.snd) ps) = (lheard ns.length cs ps).map dPair := by
    have z : List.filter (fun p => !decide (p.fst = p.snd) && lkin ns.length cs p.fst p.snd) ps = lheard ns.length cs ps := by
      unfold lheard
      apply List.filter_congr
      intro pp _
      simp
    rw [z]
  rw [hH]
  refine loop_ind (fun ds env st' => ∃ (r found : List Nat) (gb : Sto) (o2 o4 o6 : Option D), ds = dInts r ∧ st' = st ++ [c0, c1, cPairs (lheard ns.length cs ps), cInts found] ++ gb ∧ env = [some (.tup [.tup (ns.map .str), .tup (cs.map Ch.d)]), some (.ob k), o2, some (.ob (st.length + 2)), o4, some (.ob (st.length + 3)), o6] ∧ (∀ j ∈ r, j < cs.length) ∧ found.length + r.length ≤ 100 ∧ P (.ob st.length) (st ++ [cInts (found ++ lneed ns.length cs ps r)]))
    (fun env st' ⟨r, found, gb, o2, o4, o6, e1, e2, e3, hr, hn, p⟩ => ?_) (fun x0 ds env st' ⟨r, found, gb, o2, o4, o6, e1, e2, e3, hr, hn, p⟩ ih => ?_) _ _ _ ⟨List.range cs.length, [], [], _, _, _, rfl, by simp [cInts, dInts], rfl, fun j hj => List.mem_range.mp hj, by simpa using hc100, by simpa using p⟩
  · subst e2 e3
    cases r with
    | nil =>
      refine ⟨trivial, hk4 _ _ ?_⟩
      simp
      exact gc_one (g := [c0, c1, cPairs (lheard ns.length cs ps), cInts found] ++ gb) (i := 3) (xs := dInts found) h2 (by simp) (by simp) (by simpa [lneed] using p)
    | cons _ _ => simp [dInts] at e1
  · subst e2 e3
    cases r with
    | nil => simp [dInts] at e1
    | cons x r =>
      simp only [dInts, List.map_cons, List.cons.injEq] at e1
      obtain ⟨e4, e5⟩ := e1
      subst e4
      have hx := hr x List.mem_cons_self
      have hr' : ∀ j ∈ r, j < cs.length := fun j hj => hr j (List.mem_cons_of_mem _ hj)
      simp only [List.length_cons] at hn
      have b2 : (st ++ [c0, c1, cPairs (lheard ns.length cs ps), cInts found] ++ gb)[st.length + 2]? = some (cPairs (lheard ns.length cs ps)) := by simp
      have b3 : (st ++ [c0, c1, cPairs (lheard ns.length cs ps), cInts found] ++ gb)[st.length + 3]? = some (cInts found) := by simp
      have hset : ∀ z : Sto, (st ++ [c0, c1, cPairs (lheard ns.length cs ps), cInts found] ++ (gb ++ z)).set (st.length + 3) (cInts (found ++ [x])) = st ++ [c0, c1, cPairs (lheard ns.length cs ps), cInts (found ++ [x])] ++ (gb ++ z) := fun z => by simp
      have hap : ∀ z : Sto, st ++ [c0, c1, cPairs (lheard ns.length cs ps), cInts found] ++ gb ++ z = st ++ [c0, c1, cPairs (lheard ns.length cs ps), cInts found] ++ (gb ++ z) := fun z => by simp
      generalize hS : st ++ [c0, c1, cPairs (lheard ns.length cs ps), cInts found] ++ gb = S at *
      refine ⟨trivial, ?_⟩
      simp only [wgName, List.set_cons_succ, List.set_cons_zero]
      refine seq_step fun k5 hk5 => ?_
      simp [cut_to, cut_from1]
      refine ⟨by omega, ns, cs, cs.eraseIdx x, ?_, gs.n, (gs.erase x).c, (gs.erase x).ok, hk5 _ _ ?_⟩
      · rw [List.eraseIdx_eq_take_drop_succ]
        simp [dSet, dChs]
      clear hk5 k5
      have d0 : (S ++ [cInts (lawLots ns.length (cs.eraseIdx x)), Cell.dT (lawMarks (lawLots ns.length (cs.eraseIdx x)) (cs.eraseIdx x))])[S.length]? = some (cInts (lawLots ns.length (cs.eraseIdx x))) := get_new0
      have d1 : (S ++ [cInts (lawLots ns.length (cs.eraseIdx x)), Cell.dT (lawMarks (lawLots ns.length (cs.eraseIdx x)) (cs.eraseIdx x))])[S.length + 1]? = some (Cell.dT (lawMarks (lawLots ns.length (cs.eraseIdx x)) (cs.eraseIdx x))) := get_new
      have d2 := get_app (g := [cInts (lawLots ns.length (cs.eraseIdx x)), Cell.dT (lawMarks (lawLots ns.length (cs.eraseIdx x)) (cs.eraseIdx x))]) b2
      have d3 := get_app (g := [cInts (lawLots ns.length (cs.eraseIdx x)), Cell.dT (lawMarks (lawLots ns.length (cs.eraseIdx x)) (cs.eraseIdx x))]) b3
      have hs2 := hset [cInts (lawLots ns.length (cs.eraseIdx x)), Cell.dT (lawMarks (lawLots ns.length (cs.eraseIdx x)) (cs.eraseIdx x))]
      have hap2 := hap [cInts (lawLots ns.length (cs.eraseIdx x)), Cell.dT (lawMarks (lawLots ns.length (cs.eraseIdx x)) (cs.eraseIdx x))]
      simp [wiSeq, d2, wipeE]
      refine comp_pick (f := fun p => !lkin ns.length (cs.eraseIdx x) p.1 p.2) d2 (hlen1 ps) (fun pp hpp X q => ?_) (fun pp hpp X q => by simpa using q) ?_
      · have gx := gp.r pp (List.mem_filter.mp hpp).1
        simp [dPair]
        refine ⟨S.length, S.length + 1, ns.length, _, _, _, _, rfl, d0, d1, lots_len, gx.1.b, gx.1.l, gx.2.b, gx.2.l, ?_⟩
        simpa [lkin] using q
      · have e6 : lneed ns.length cs ps (x :: r) = (if 0 < ((lheard ns.length cs ps).filter fun p => !lkin ns.length (cs.eraseIdx x) p.1 p.2).length then [x] else []) ++ lneed ns.length cs ps r := by
          unfold lneed
          rw [List.filter_cons]
          by_cases c : 0 < ((lheard ns.length cs ps).filter fun p => !lkin ns.length (cs.eraseIdx x) p.1 p.2).length
          · rw [if_pos c, if_pos (by simpa using c)]; rfl
          · rw [if_neg c, if_neg (by simpa using c)]; rfl
        rw [e6] at p
        simp only [List.length_map]
        generalize hN : ((lheard ns.length cs ps).filter fun p => !lkin ns.length (cs.eraseIdx x) p.1 p.2).length = N at *
        by_cases c : 0 < N
        · rw [if_pos c] at p
          rw [if_pos c]
          refine ⟨isLst_at d3, ?_⟩
          rw [kAppend_at d3]
          refine ⟨by simp [dInts]; omega, ih _ _ ⟨r, found ++ [x], gb ++ [cInts (lawLots ns.length (cs.eraseIdx x)), Cell.dT (lawMarks (lawLots ns.length (cs.eraseIdx x)) (cs.eraseIdx x))], _, _, _, e5, ?_, rfl, hr', by simp; omega, by simpa using p⟩⟩
          rw [← hs2, ← hap2]
          simp [cInts, dInts]
        · rw [if_neg c] at p
          rw [if_neg c]
          exact ih _ _ ⟨r, found, _, _, _, _, e5, hap2, rfl, hr', by omega, by simpa using p⟩
end Hd
set_option Elab.async false
set_option linter.all false
set_option maxRecDepth 100000
set_option maxHeartbeats 2000000
/-! L9: the law's explaining changes. -/
namespace Hd
open PySem PySem.Spec PyProof.Rows L2 Vd
def lapart (m : Nat) (cs : List Ch) (ps : List Pr) : List Pr := (lstr m cs ps).map (prAt ps)
def lexpl (m : Nat) (cs : List Ch) (ps : List Pr) : List Ch → List Ch := List.filter fun c => (lapart m cs ps).all fun p => lkin m (cs ++ [c]) p.1 p.2
def spLExpl : DSp := fun ds st P => ∃ (ns : List Str) (cs : List Ch) (k : Nat) (ps : List Pr), ds = [dSet ns cs, .ob k] ∧ st[k]? = some (cPairs ps) ∧ ns.length ≤ 5 ∧ cs.length ≤ 100 ∧ Good ns cs ∧ GoodP ns ps ∧ P (.ob st.length) (st ++ [.lst ((lexpl ns.length cs ps (every ns.length)).map Ch.d)])
theorem lstr_mem {m : Nat} {cs : List Ch} {ps : List Pr} {k : Nat} (h : k ∈ lstr m cs ps) : k < ps.length := List.mem_range.mp (List.mem_filter.mp h).1
theorem lapart_good {ns : List Str} {cs : List Ch} {ps : List Pr} (gp : GoodP ns ps) : GoodP ns (lapart ns.length cs ps) := ⟨fun p hp => by
  obtain ⟨k, hk, rfl⟩ := List.mem_map.mp hp
  exact gp.r _ (prAt_mem (lstr_mem hk)), by
  unfold lapart lstr
  rw [List.length_map]
  exact Nat.le_trans (List.length_filter_le _ _) (by simpa using gp.l)⟩
/-- are all pairs alike -/
theorem good_loop {S : Sto} {i j q : Nat} {ns : List Str} {cs2 : List Ch} {E0 E1 : Option D} {x : D} {o3 o4 : Option D} {ps : List Pr} {W : WEnds} (a0 : S[i]? = some (cInts (lawLots ns.length cs2))) (a1 : S[j]? = some (.dT (lawMarks (lawLots ns.length cs2) cs2))) (aq : S[q]? = some (cPairs ps))
    (fin : ∀ o8 o9, W.nx [E0, E1, some (.ob q), o3, o4, some x, some (.tup [.ob i, .ob j]), some (.bl (ps.all fun p => lkin ns.length cs2 p.1 p.2)), o8, o9] S) :
    ∀ ds env, (∃ (r pre : List Pr) (o8 o9 : Option D), ds = r.map dPair ∧ pre ++ r = ps ∧ GoodP ns r ∧ env = [E0, E1, some (.ob q), o3, o4, some x, some (.tup [.ob i, .ob j]), some (.bl (pre.all fun p => lkin ns.length cs2 p.1 p.2)), o8, o9]) →
      wLoop (wgSeq 2 (wgCons (wgName 8) (wgCons (wgName 9) wgNil))) (wsSet 7 (wAndV (wVar 7) (wCall 3 spAlike (waCons (wVar 6) (waCons (wVar 8) (waCons (wVar 9) waNil)))))) (fun s => s[q]? = some (cPairs ps)) ds W env S := by
  intro ds env h
  refine loop_ind (fun ds env st' => st' = S ∧ ∃ (r pre : List Pr) (o8 o9 : Option D), ds = r.map dPair ∧ pre ++ r = ps ∧ GoodP ns r ∧ env = [E0, E1, some (.ob q), o3, o4, some x, some (.tup [.ob i, .ob j]), some (.bl (pre.all fun p => lkin ns.length cs2 p.1 p.2)), o8, o9])
    (fun env st' ⟨e0, r, pre, o8, o9, e1, e2, e3, e4⟩ => ?_) (fun y0 ds env st' ⟨e0, r, pre, o8, o9, e1, e2, e3, e4⟩ ih => ?_) ds env S ⟨rfl, h⟩
  · subst e0 e4
    cases r with
    | nil =>
      rw [List.append_nil] at e2
      subst e2
      exact ⟨aq, fin _ _⟩
    | cons _ _ => simp at e1
  · subst e0 e4
    cases r with
    | nil => simp at e1
    | cons y r =>
      simp only [List.map_cons, List.cons.injEq] at e1
      obtain ⟨e5, e6⟩ := e1
      subst e5
      have gy := e3.r y List.mem_cons_self
      have gr : GoodP ns r := ⟨fun z hz => e3.r z (List.mem_cons_of_mem _ hz), by have := e3.l; simp at this; omega⟩
      have hnext : ∀ b : Bool, b = ((pre ++ [y]).all fun p => lkin ns.length cs2 p.1 p.2) → ∀ o8 o9, wLoop (wgSeq 2 (wgCons (wgName 8) (wgCons (wgName 9) wgNil))) (wsSet 7 (wAndV (wVar 7) (wCall 3 spAlike (waCons (wVar 6) (waCons (wVar 8) (waCons (wVar 9) waNil)))))) (fun s => s[q]? = some (cPairs ps)) ds W [E0, E1, some (.ob q), o3, o4, some x, some (.tup [.ob i, .ob j]), some (.bl b), o8, o9] st' := fun b hb o8 o9 => by
        subst hb
        exact ih _ _ ⟨rfl, r, pre ++ [y], _, _, e6, by rw [List.append_assoc]; exact e2, gr, rfl⟩
      refine ⟨aq, ?_⟩
      simp only [List.all_append, List.all_cons, List.all_nil, Bool.and_true] at hnext
      simp only [dPair, wgSeq, seqAt, wgCons, wgNil, wgName, List.length_cons, List.length_nil, List.set_cons_succ, List.set_cons_zero, true_and, wsSet, wAndV, wVar, List.getElem?_cons_succ, List.getElem?_cons_zero]
      cases c : (pre.all fun p => lkin ns.length cs2 p.1 p.2) with
      | true =>
        simp
        refine ⟨i, j, ns.length, _, _, _, _, rfl, a0, a1, lots_len, gy.1.b, gy.1.l, gy.2.b, gy.2.l, hnext _ ?_ _ _⟩
        rw [c]; rfl
      | false =>
        simp
        exact hnext _ (by rw [c]; rfl) _ _
theorem keeps_lexpl : Keeps 2 10 (w__law_explaining spEvery spLots spAlike spLStr) spLExpl := by
  intro ds st P hl h1 h2 ⟨ns, cs, k, ps, e, g, hn5, hc100, gs, gp, p⟩
  subst e
  have hpl := gp.l
  simp only [w__law_explaining, startE]
  refine seq_step fun k1 hk1 => ?_
  simp [wiSeq]
  refine ⟨ns, cs, k, ps, rfl, g, gs, gp, ?_⟩
  simp [wipeE]
  have a0 : (st ++ [cInts (lstr ns.length cs ps)])[k]? = some (cPairs ps) := get_app g
  have hll : (lstr ns.length cs ps).length ≤ 1000 := by unfold lstr; exact Nat.le_trans (List.length_filter_le _ _) (by simpa using hpl)
  refine comp_mapD (fun d => match d with | .int j => dPair (prAt ps j.toNat) | _ => .non) (by simp) (by simp [dInts]; omega) (fun d hd X Y q => ?_) ?_
  · obtain ⟨j, hj, rfl⟩ := List.mem_map.mp hd
    simp [kIx_lst a0, at_pr (lstr_mem hj)]
    simpa using q
  have eb : ([] : List D) ++ (dInts (lstr ns.length cs ps)).map (fun d => match d with | .int j => dPair (prAt ps j.toNat) | _ => .non) = (lapart ns.length cs ps).map dPair := by
    simp only [List.nil_append, dInts, lapart, List.map_map]
    rfl
  rw [eb]
  refine hk1 _ _ ?_
  clear hk1 k1
  refine seq_step fun k2 hk2 => ?_
  simp
  refine hk2 _ _ ?_
  clear hk2 k2
  have ga := lapart_good (cs := cs) gp
  generalize hA : lapart ns.length cs ps = A at *
  refine seq_step fun k3 hk3 => ?_
  simp [-wsSeq, wiSeq, kLen, lenD, dSet]
  refine ⟨ns.length, rfl, hn5, ?_⟩
  simp [-wsSeq]
  refine loop_ind (fun ds env st' => ∃ (r found : List Ch) (gb : Sto) (o5 o6 o7 o8 o9 : Option D), ds = r.map Ch.d ∧ st' = st ++ [cInts (lstr ns.length cs ps), cPairs A, .lst (found.map Ch.d), .lst ((every ns.length).map Ch.d)] ++ gb ∧ env = [some (.tup [.tup (ns.map .str), dChs cs]), some (.ob k), some (.ob (st.length + 1)), none, some (.ob (st.length + 2)), o5, o6, o7, o8, o9] ∧ (∀ c ∈ r, c.ok ns.length) ∧ found.length + r.length ≤ 30 ∧ P (.ob st.length) (st ++ [.lst ((found ++ lexpl ns.length cs ps r).map Ch.d)]))
    (fun env st' ⟨r, found, gb, o5, o6, o7, o8, o9, e1, e2, e3, hr, hn, p⟩ => ?_) (fun x0 ds env st' ⟨r, found, gb, o5, o6, o7, o8, o9, e1, e2, e3, hr, hn, p⟩ ih => ?_) _ _ _ ⟨every ns.length, [], [], _, _, _, _, _, rfl, by simp, rfl, every_ok hn5, by simpa using every_len hn5, by simpa using p⟩
  · subst e2 e3
    cases r with
    | nil =>
      refine ⟨by simp, hk3 _ _ ?_⟩
      simp
      exact gc_one (g := [cInts (lstr ns.length cs ps), cPairs A, .lst (found.map Ch.d), .lst ((every ns.length).map Ch.d)] ++ gb) (i := 2) (xs := found.map Ch.d) h2 (by simp) (by simp) (by simpa [lexpl] using p)
    | cons _ _ => simp at e1
  · subst e2 e3
    cases r with
    | nil => simp at e1
    | cons x r =>
      simp only [List.map_cons, List.cons.injEq] at e1
      obtain ⟨e4, e5⟩ := e1
      subst e4
      have hx := hr x List.mem_cons_self
      have hr' : ∀ c ∈ r, c.ok ns.length := fun c hc => hr c (List.mem_cons_of_mem _ hc)
      simp only [List.length_cons] at hn
      have gw : Good ns (cs ++ [x]) := ⟨gs.n, by simp; omega, fun c hc => by
        rcases List.mem_append.mp hc with z | z
        · exact gs.ok c z
        · rw [List.mem_singleton.mp z]; exact hx⟩
      have b1 : (st ++ [cInts (lstr ns.length cs ps), cPairs A, .lst (found.map Ch.d), .lst ((every ns.length).map Ch.d)] ++ gb)[st.length + 1]? = some (cPairs A) := by simp
      have b2 : (st ++ [cInts (lstr ns.length cs ps), cPairs A, .lst (found.map Ch.d), .lst ((every ns.length).map Ch.d)] ++ gb)[st.length + 2]? = some (.lst (found.map Ch.d)) := by simp
      have b3 : (st ++ [cInts (lstr ns.length cs ps), cPairs A, .lst (found.map Ch.d), .lst ((every ns.length).map Ch.d)] ++ gb)[st.length + 3]? = some (.lst ((every ns.length).map Ch.d)) := by simp
      have hset : ∀ z : Sto, (st ++ [cInts (lstr ns.length cs ps), cPairs A, .lst (found.map Ch.d), .lst ((every ns.length).map Ch.d)] ++ (gb ++ z)).set (st.length + 2) (.lst ((found ++ [x]).map Ch.d)) = st ++ [cInts (lstr ns.length cs ps), cPairs A, .lst ((found ++ [x]).map Ch.d), .lst ((every ns.length).map Ch.d)] ++ (gb ++ z) := fun z => by simp
      have hap : ∀ z : Sto, st ++ [cInts (lstr ns.length cs ps), cPairs A, .lst (found.map Ch.d), .lst ((every ns.length).map Ch.d)] ++ gb ++ z = st ++ [cInts (lstr ns.length cs ps), cPairs A, .lst (found.map Ch.d), .lst ((every ns.length).map Ch.d)] ++ (gb ++ z) := fun z => by simp
      generalize hS : st ++ [cInts (lstr ns.length cs ps), cPairs A, .lst (found.map Ch.d), .lst ((every ns.length).map Ch.d)] ++ gb = S at *
      refine ⟨by simpa using b3, ?_⟩
      simp only [wgName, List.set_cons_succ, List.set_cons_zero]
      refine seq_step fun k5 hk5 => ?_
      simp [dChs]
      refine ⟨by omega, ns, cs, cs ++ [x], by simp [dSet, dChs], gs.n, gw.c, gw.ok, hk5 _ _ ?_⟩
      clear hk5 k5
      have d0 : (S ++ [cInts (lawLots ns.length (cs ++ [x])), Cell.dT (lawMarks (lawLots ns.length (cs ++ [x])) (cs ++ [x]))])[S.length]? = some (cInts (lawLots ns.length (cs ++ [x]))) := get_new0
      have d1 : (S ++ [cInts (lawLots ns.length (cs ++ [x])), Cell.dT (lawMarks (lawLots ns.length (cs ++ [x])) (cs ++ [x]))])[S.length + 1]? = some (Cell.dT (lawMarks (lawLots ns.length (cs ++ [x])) (cs ++ [x]))) := get_new
      have d2 := get_app (g := [cInts (lawLots ns.length (cs ++ [x])), Cell.dT (lawMarks (lawLots ns.length (cs ++ [x])) (cs ++ [x]))]) b1
      have d3 := get_app (g := [cInts (lawLots ns.length (cs ++ [x])), Cell.dT (lawMarks (lawLots ns.length (cs ++ [x])) (cs ++ [x]))]) b2
      have hs2 := hset [cInts (lawLots ns.length (cs ++ [x])), Cell.dT (lawMarks (lawLots ns.length (cs ++ [x])) (cs ++ [x]))]
      have hap2 := hap [cInts (lawLots ns.length (cs ++ [x])), Cell.dT (lawMarks (lawLots ns.length (cs ++ [x])) (cs ++ [x]))]
      refine seq_step fun k6 hk6 => ?_
      simp
      refine hk6 _ _ ?_
      clear hk6 k6
      refine seq_step fun k7 hk7 => ?_
      simp [wiSeq, d2]
      refine good_loop (ns := ns) (cs2 := cs ++ [x]) (ps := A) d0 d1 d2 (fun o8 o9 => hk7 _ _ ?_) _ _ ⟨A, [], _, _, rfl, rfl, ga, rfl⟩
      clear hk7 k7
      have e6 : lexpl ns.length cs ps (x :: r) = (if (A.all fun p => lkin ns.length (cs ++ [x]) p.1 p.2) = true then [x] else []) ++ lexpl ns.length cs ps r := by
        unfold lexpl
        rw [List.filter_cons, hA]
        split <;> rfl
      rw [e6] at p
      cases c : (A.all fun p => lkin ns.length (cs ++ [x]) p.1 p.2) with
      | true =>
        rw [c] at p
        simp [isLst_at d3]
        rw [kAppend_at d3]
        refine ⟨by simp; omega, ih _ _ ⟨r, found ++ [x], gb ++ [cInts (lawLots ns.length (cs ++ [x])), Cell.dT (lawMarks (lawLots ns.length (cs ++ [x])) (cs ++ [x]))], _, _, _, _, _, e5, ?_, rfl, hr', by simp; omega, by simpa using p⟩⟩
        rw [← hs2, ← hap2]
        simp
      | false =>
        rw [c] at p
        simp
        exact ih _ _ ⟨r, found, _, _, _, _, _, _, e5, hap2, rfl, hr', by omega, by simpa using p⟩
end Hd
set_option Elab.async false
set_option linter.all false
set_option maxRecDepth 100000
set_option maxHeartbeats 2000000
/-! M1: a row; a pair is seen. -/
namespace Hd
open PySem PySem.Spec PyProof.Rows L2 Vd
/-- the law's kin is the program's -/
def MKin : Prop := ∀ (m : Nat) (cs : List Ch) (a b : List Nat), m ≤ 5 → (∀ c ∈ cs, c.ok m) → Below m a → Below m b → kinB m cs a b = lkin m cs a b
def BookAt (st : Sto) (bk pk : Nat) (ns : List Str) (cs : List Ch) (ps : List Pr) : Prop := st[bk]? = some (.lst [dSet ns cs, .ob pk]) ∧ st[pk]? = some (cPairs ps)
def spLSee : DSp := fun ds st P => ∃ (bk pk w q : Nat) (ns : List Str) (cs : List Ch) (ps : List Pr) (a b : List Nat) (nm : Bool), ds = [.ob bk, .ob w, dPair (a, b), .bl nm] ∧ BookAt st bk pk ns cs ps ∧ WatchAt st w q ns cs ps ∧ pk ≠ q ∧ ns.length ≤ 5 ∧ Good ns cs ∧ GoodP ns ps ∧ GoodR ns a ∧ GoodR ns b ∧
  P (.bl true) ((st.set q (cPairs (ps ++ [(a, b)]))).set pk (cPairs (ps ++ [(a, b)])))
theorem set_app {st g : Sto} {k : Nat} {c : Cell} (h : k < st.length) : (st ++ g).set k c = st.set k c ++ g := List.set_append_left _ _ h
theorem keeps_lsee (M : MKin) : Keeps 4 10 (w__law_see spKin spSee spLots spAlike (spSame 8)) spLSee := by
  intro ds st P hl h1 h2 ⟨bk, pk, w, q, ns, cs, ps, a, b, nm, e, ⟨g1, g2⟩, ⟨g3, g4⟩, hpq, hn5, gs, gp, ga, gb, p⟩
  subst e
  have hkin := M ns.length cs a b hn5 gs.ok ga.b gb.b
  have hlq := get_lt g4
  have hlp := get_lt g2
  simp only [w__law_see, startE]
  refine seq_step fun k1 hk1 => ?_
  simp [seqAt, g1]
  refine hk1 _ _ ?_
  clear hk1 k1
  refine seq_step fun k2 hk2 => ?_
  simp
  refine ⟨ns, cs, cs, by simp [dSet, dChs], gs.n, gs.c, gs.ok, hk2 _ _ ?_⟩
  clear hk2 k2
  generalize hgb : [cInts (lawLots ns.length cs), Cell.dT (lawMarks (lawLots ns.length cs) cs)] = gbg
  have b0 : (st ++ gbg)[st.length]? = some (cInts (lawLots ns.length cs)) := by rw [← hgb]; exact get_new0
  have b1 : (st ++ gbg)[st.length + 1]? = some (Cell.dT (lawMarks (lawLots ns.length cs) cs)) := by rw [← hgb]; exact get_new
  have w1 : WatchAt (st ++ gbg) w q ns cs ps := ⟨get_app g3, get_app g4⟩
  have c2 : (st ++ gbg)[pk]? = some (cPairs ps) := get_app g2
  refine seq_step fun k3 hk3 => ?_
  simp [dPair]
  refine ⟨st.length, st.length + 1, ns.length, _, _, _, _, rfl, b0, b1, lots_len, ga.b, ga.l, gb.b, gb.l, hk3 _ _ ?_⟩
  clear hk3 k3
  have hk : lalike (lawLots ns.length cs) (lawMarks (lawLots ns.length cs) cs) a b = kinB ns.length cs a b := by rw [hkin]; rfl
  rw [hk]
  refine seq_step fun k4 hk4 => ?_
  have e8 : ∀ Q : D → Sto → Prop, Q (.str (seeS ns.length cs a b)) (st ++ gbg) → (wIf (wTst (w2 kEq (w2 kIx (wVar 2) (wK (.int 0))) (w2 kIx (wVar 2) (wK (.int 1))))) (wK (.str "plain")) (wIf (wTru (wVar 7)) (wK (.str "heard")) (wK (.str "strange")))) [some (.ob bk), some (.ob w), some (.tup [dRow a, dRow b]), some (.bl nm), some (dSet ns cs), some (.ob pk), some (.tup [.ob st.length, .ob (st.length + 1)]), some (.bl (kinB ns.length cs a b)), none, none] (st ++ gbg) Q := fun Q hQ => by
    simp
    show kEqF _ _ _ _ _
    rw [kEq_row]
    simp only [seeS] at hQ
    by_cases c : a = b
    · simp [c] at hQ ⊢; exact hQ
    · simp [c] at hQ ⊢
      cases kk : kinB ns.length cs a b <;> simp [kk] at hQ ⊢ <;> exact hQ
  simp only [wsSet]
  refine e8 _ (hk4 _ _ ?_)
  clear hk4 k4 e8
  refine seq_step fun k5 hk5 => ?_
  have insW : insOf (st ++ gbg) "Watch" "see" (.ob w) := ⟨_, w1.1, by simp [-List.lookup_eq_none_iff]⟩
  have key : ∀ Q : D → Sto → Prop, Q (.str (seeS ns.length cs a b)) ((st ++ gbg).set q (cPairs (ps ++ [(a, b)]))) → spSee [.ob w, dRow a, dRow b] (st ++ gbg) Q := fun Q hQ => ⟨w, q, ns, cs, ps, a, b, rfl, w1, gs, gp, ga, gb, hQ⟩
  have e9 : ∀ Q : D → Sto → Prop, Q (.str (seeS ns.length cs a b)) ((st ++ gbg).set q (cPairs (ps ++ [(a, b)]))) → (wIf (wTru (wVar 3)) (wMeth "Watch" "see" 3 spSee (wVar 1) (waCons (w2 kIx (wVar 2) (wK (.int 0))) (waCons (w2 kIx (wVar 2) (wK (.int 1))) waNil))) (wMeth "Watch" "see" 3 spSee (wVar 1) (waCons (w2 kIx (wVar 2) (wK (.int 0))) (waCons (w2 kIx (wVar 2) (wK (.int 1))) waNil)))) [some (.ob bk), some (.ob w), some (.tup [dRow a, dRow b]), some (.bl nm), some (dSet ns cs), some (.ob pk), some (.tup [.ob st.length, .ob (st.length + 1)]), some (.bl (kinB ns.length cs a b)), some (.str (seeS ns.length cs a b)), none] (st ++ gbg) Q := fun Q hQ => by
    cases nm
    · simp; exact ⟨insW, key _ hQ⟩
    · simp; exact ⟨insW, key _ hQ⟩
  simp only [wsSet, List.set_cons_succ, List.set_cons_zero]
  refine e9 _ (hk5 _ _ ?_)
  clear hk5 k5 e9 key
  have hq1 : (st ++ gbg).set q (cPairs (ps ++ [(a, b)])) = st.set q (cPairs (ps ++ [(a, b)])) ++ gbg := set_app hlq
  rw [hq1]
  have hlen1 : (st.set q (cPairs (ps ++ [(a, b)]))).length = st.length := by simp
  have c3 : (st.set q (cPairs (ps ++ [(a, b)])) ++ gbg)[pk]? = some (cPairs ps) := by
    rw [← hq1, List.getElem?_set_ne (Ne.symm hpq)]; exact c2
  refine seq_step fun k6 hk6 => ?_
  simp [isLst_at c3, okDs]
  rw [kAppend_at c3]
  refine ⟨by simp; have := gp.l; omega, hk6 _ _ ?_⟩
  clear hk6 k6
  have e7 : (st.set q (cPairs (ps ++ [(a, b)])) ++ gbg).set pk (.lst (ps.map dPair ++ [.tup [dRow a, dRow b]])) = (st.set q (cPairs (ps ++ [(a, b)]))).set pk (cPairs (ps ++ [(a, b)])) ++ gbg := by
    rw [set_app (by simpa using hlp)]
    simp [cPairs, dPair]
  rw [e7]
  have ok1 : okS st.length ((st.set q (cPairs (ps ++ [(a, b)]))).set pk (cPairs (ps ++ [(a, b)]))) := okS_set (okS_set h2 (by simp only [okC]; exact ok_pairs)) (by simp only [okC]; exact ok_pairs)
  have hl2 : ((st.set q (cPairs (ps ++ [(a, b)]))).set pk (cPairs (ps ++ [(a, b)]))).length = st.length := by simp
  generalize (st.set q (cPairs (ps ++ [(a, b)]))).set pk (cPairs (ps ++ [(a, b)])) = S2 at *
  refine seq_step fun k7 hk7 => ?_
  simp
  refine ⟨_, _, true, rfl, by simp [sameF], ?_⟩
  simp
  refine hk7 _ _ ?_
  clear hk7 k7
  refine seq_step fun k8 hk8 => ?_
  simp
  refine ⟨ns, cs, a, b, rfl, gs, ga, gb, hk8 _ _ ?_⟩
  clear hk8 k8
  cases kk : kinB ns.length cs a b with
  | true => simp; exact gc_drop hl2 ok1 (by simp) p
  | false => simp; exact gc_drop hl2 ok1 (by simp) p
end Hd
set_option Elab.async false
set_option linter.all false
set_option maxRecDepth 100000
set_option maxHeartbeats 2000000
/-! M2: drawn rows. -/
namespace Hd
open PySem PySem.Spec PyProof.Rows L2 Vd
def spRow : DSp := fun ds st P => ∃ (g t m n : Nat), ds = [.ob g, .int m, .int n] ∧ KegAt st g t ∧ 0 < m ∧ m ≤ 5 ∧ n ≤ 1000 ∧ ∀ (r : List Nat) s2, Below m r → r.length = n → s2.length = st.length → KP st s2 g t → P (dRow r) s2
theorem keeps_row : Keeps 3 6 (w__law_row spPour) spRow := by
  intro ds st P hl h1 h2 ⟨g, t, m, n, e, kg, hm, hm5, hn, p⟩
  subst e
  simp only [w__law_row, startE]
  refine seq_step fun k1 hk1 => ?_
  simp
  refine ⟨g, t, m, rfl, kg, hm, by omega, fun r1 s1 hr1 hl1 kp1 => ?_⟩
  simp
  refine hk1 _ _ ?_
  clear hk1 k1
  refine seq_step fun k2 hk2 => ?_
  simp
  refine ⟨g, t, m, rfl, kp1.2, hm, by omega, fun r2 s2 hr2 hl2 kp2 => ?_⟩
  refine hk2 _ _ ?_
  clear hk2 k2
  have kp := kp1.trans kp2
  simp [wiRng1, wipeE]
  refine ⟨by omega, ?_⟩
  rw [rng_ints]
  have few : (1 : Int) + ((r1 : Nat) : Int) = ((1 + r1 : Nat) : Int) := by omega
  rw [few]
  refine cloop_ind (fun ds acc st' => ∃ (q r : List Nat), ds = dInts q ∧ acc = dInts r ∧ Below m r ∧ r.length + q.length = n ∧ KP st st' g t) (fun acc st' ⟨q, r, e1, e2, hb, hlen, kk⟩ => ?_) (fun d ds acc st' ⟨q, r, e1, e2, hb, hlen, kk⟩ ih => ?_) _ _ _ ⟨List.range n, [], rfl, rfl, (fun x hx => by cases hx), by simp, kp⟩
  · subst e2
    cases q with
    | nil =>
      refine ⟨trivial, ?_⟩
      exact kp_cut kk kg h2 (ok_row (r := r)) fun s2 h3 h4 => p r s2 hb (by simpa using hlen) h3 h4
    | cons _ _ => simp [dInts] at e1
  · subst e2
    cases q with
    | nil => simp [dInts] at e1
    | cons x q =>
      simp only [dInts, List.map_cons, List.cons.injEq] at e1
      obtain ⟨e4, e5⟩ := e1
      subst e4
      simp only [List.length_cons] at hlen
      refine ⟨trivial, ?_⟩
      simp
      refine ⟨g, t, 1 + r1, by simp, kk.2, by omega, by omega, fun r3 s3 hr3 hl3 kp3 => ?_⟩
      simp [kInt]
      refine ⟨by omega, by simp [dInts]; omega, ?_⟩
      obtain ⟨z, hz, hzm⟩ := mod_nat (i := (r2 : Int) + (r3 : Int)) hm
      rw [hz]
      refine ih _ _ ⟨q, r ++ [z], e5, by simp [dInts], fun y hy => ?_, by simp; omega, kk.trans kp3⟩
      rcases List.mem_append.mp hy with w | w
      · exact hb y w
      · rw [List.mem_singleton.mp w]; exact hzm
end Hd
set_option Elab.async false
set_option linter.all false
set_option maxRecDepth 100000
set_option maxHeartbeats 2000000
/-! M3: drawn settings. -/
namespace Hd
open PySem PySem.Spec PyProof.Rows L2 Vd
def spSetting : DSp := fun ds st P => ∃ (g t m n : Nat), ds = [.ob g, .int m, .int n] ∧ KegAt st g t ∧ 0 < m ∧ m ≤ 5 ∧ n ≤ 100 ∧ ∀ (ns : List Str) (cs : List Ch) s2, ns.length = m → cs.length ≤ 30 → (∀ c ∈ cs, c ∈ every m) → s2.length = st.length → KP st s2 g t → P (dSet ns cs) s2
theorem strs_flat : ∀ l : List Str, flatsD (l.map D.str) = some (l.map V.str)
  | [] => rfl
  | a :: l => by simp [flatsD, flatD, strs_flat l]
theorem kIn_strs {F : Bool → Bool} {st : Sto} {k : Nat} {x : Str} {l : List Str} {P : D → Sto → Prop} (h : st[k]? = some (.lst (l.map D.str))) : ∃ b, kInF F (.str x) (.ob k) st P = P (.bl (F b)) st := ⟨inV (.str x) (l.map V.str), by simp only [kInF, h, strs_flat, flatD]⟩
theorem KP.get {st st' : Sto} {g t k : Nat} {c : Cell} (kp : KP st st' g t) (h : st[k]? = some c) (h1 : k ≠ g) (h2 : k ≠ t) : st'[k]? = some c := kp.1.get h (by simp [h1, h2])
theorem KegAt.lt {st : Sto} {g t : Nat} (k : KegAt st g t) : g < st.length ∧ t < st.length := by
  obtain ⟨tl, d, n, h1, h2, _⟩ := k
  exact ⟨get_lt h1, get_lt h2⟩
theorem KP.put {st s : Sto} {g t j : Nat} {c : Cell} (k : KP st s g t) (h0 : KegAt st g t) (hj : st.length ≤ j) : KP st (s.set j c) g t := by
  obtain ⟨h1, h2⟩ := h0.lt
  refine ⟨k.1.set' hj, ?_⟩
  obtain ⟨tl, d, n, g1, g2, g3⟩ := k.2
  exact ⟨tl, d, n, by rw [List.getElem?_set_ne (by omega)]; exact g1, by rw [List.getElem?_set_ne (by omega)]; exact g2, g3⟩
/-- the kind of a change -/
def isKind (F : D → Bool) : D → Bool
  | .tup (x :: _) => F x
  | _ => false
theorem ch_shape (c : Ch) : ∃ (x : Str) (r : List D), c.d = .tup (.str x :: r) := by cases c <;> exact ⟨_, _, rfl⟩
theorem filter_chs (F : D → Bool) (l : List Ch) : (l.map Ch.d).filter (isKind F) = (l.filter fun c => isKind F c.d).map Ch.d := by
  rw [List.filter_map]; rfl
theorem erase_map {α β : Type} (f : α → β) : ∀ (l : List α) (i : Nat), (l.map f).eraseIdx i = (l.eraseIdx i).map f
  | [], _ => rfl
  | _ :: _, 0 => rfl
  | a :: l, i + 1 => by simp [erase_map f l i]
theorem keeps_setting : Keeps 3 9 (w__law_setting spPour spEvery) spSetting := by
  intro ds st P hl h1 h2 ⟨g, t, m, n, e, kg, hm, hm5, hn, p⟩
  subst e
  obtain ⟨hg, ht⟩ := kg.lt
  simp only [w__law_setting, startE]
  refine seq_step fun k1 hk1 => ?_
  simp
  refine ⟨m, rfl, hm5, hk1 _ _ ?_⟩
  clear hk1 k1
  refine seq_step fun k2 hk2 => ?_
  simp
  refine hk2 _ _ ?_
  clear hk2 k2
  generalize hG : ([.lst ((every m).map Ch.d), .lst [.str "held", .str "idle", .str "loose", .str "same"], .lst [.str "loose", .str "held"], .lst [.str "loose", .str "idle", .str "held"], .lst [.str "same", .str "held", .str "loose"], .lst [.ob (st.length + 1), .ob (st.length + 2), .ob (st.length + 3), .ob (st.length + 4)]] : Sto) = G
  have kS : KP st (st ++ G) g t := (KP.refl kg).app
  refine seq_step fun k3 hk3 => ?_
  simp [Nat.add_assoc, hG]
  refine ⟨g, t, 4, rfl, kS.2, by decide, by decide, fun r1 s1 hr1 hl1 kp1 => ?_⟩
  have hG6 : G.length = 6 := by rw [← hG]; rfl
  have hl1' : s1.length = st.length + 6 := by rw [hl1]; simp [hG6]
  have kp := kS.trans kp1
  have at1 : ∀ i c, G[i]? = some c → s1[st.length + i]? = some c := fun i c hc => kp1.get (by rw [List.getElem?_append_right (by omega), Nat.add_sub_cancel_left]; exact hc) (by omega) (by omega)
  have p0 : s1[st.length]? = some (.lst ((every m).map Ch.d)) := at1 0 _ (by rw [← hG]; rfl)
  have p5 := at1 5 _ (by rw [← hG]; rfl)
  obtain ⟨ks, pk⟩ : ∃ ks : List Str, s1[st.length + (1 + r1)]? = some (.lst (ks.map D.str)) := by
    rcases r1 with _ | _ | _ | _ | r1
    · exact ⟨[_, _, _, _], at1 1 _ (by rw [← hG]; rfl)⟩
    · exact ⟨[_, _], at1 2 _ (by rw [← hG]; rfl)⟩
    · exact ⟨[_, _, _], at1 3 _ (by rw [← hG]; rfl)⟩
    · exact ⟨[_, _, _], at1 4 _ (by rw [← hG]; rfl)⟩
    · omega
  have e5 : ∀ Q : D → Sto → Prop, Q (.ob (st.length + (1 + r1))) s1 → kIx (.ob (st.length + 5)) (.int (r1 : Int)) s1 Q := fun Q hQ => by
    simp only [kIx, p5]
    rcases r1 with _ | _ | _ | _ | r1
    · simp [atD, seqIndex?]; exact hQ
    · simp [atD, seqIndex?]; exact hQ
    · simp [atD, seqIndex?]; exact hQ
    · simp [atD, seqIndex?]; exact hQ
    · omega
  refine e5 _ (hk3 _ _ ?_)
  clear hk3 k3 e5
  refine seq_step fun k4 hk4 => ?_
  simp [-wsSeq, wiSeq, p0]
  refine comp_filter (isKind fun d => match d with | .str x => inV (.str x) (ks.map V.str) | _ => false) p0 (by simpa using Nat.le_trans (every_len hm5) (by decide)) (fun d hd X Y q => ?_) ?_
  · obtain ⟨c, hc, rfl⟩ := List.mem_map.mp hd
    obtain ⟨x, r, ec⟩ := ch_shape c
    rw [ec] at q ⊢
    simp [wipeE, isKind, wTst] at q ⊢
    show kInF _ _ _ _ _
    simp only [kInF, pk, strs_flat, flatD]
    exact q
  rw [filter_chs, List.nil_append]
  generalize hL : (every m).filter _ = L
  have hLe : ∀ c ∈ L, c ∈ every m := fun c hc => by rw [← hL] at hc; exact (List.mem_filter.mp hc).1
  have hLn : L.length ≤ 30 := by rw [← hL]; exact Nat.le_trans (List.length_filter_le _ _) (every_len hm5)
  clear hL
  refine hk4 _ _ ?_
  clear hk4 k4
  refine seq_step fun k5 hk5 => ?_
  simp [-wsSeq]
  refine hk5 _ _ ?_
  clear hk5 k5
  refine seq_step fun k6 hk6 => ?_
  simp [-wsSeq, wiRng1]
  generalize hk : s1.length = k at *
  generalize hT : s1 ++ [Cell.lst (L.map Ch.d), Cell.lst []] = T
  have t0 : T[k]? = some (.lst (L.map Ch.d)) := by rw [← hT, ← hk]; simp
  have t1 : T[k + 1]? = some (.lst (([] : List Ch).map Ch.d)) := by rw [← hT, ← hk]; simp
  have kpT : KP st T g t := by rw [← hT]; exact kp.app
  simp only [kLen, lenD, t0]
  simp [-wsSeq, kMin2]
  obtain ⟨w, hw, hw2⟩ : ∃ w : Nat, (if n < L.length then (n : Int) else (L.length : Int)) = (w : Int) ∧ w ≤ L.length := by
    split
    · exact ⟨n, rfl, by omega⟩
    · exact ⟨L.length, rfl, by omega⟩
  rw [hw]
  refine ⟨by omega, ?_⟩
  rw [show ((w : Int)).toNat = w from rfl, rng_ints]
  generalize hE : st.length + 5 = e5
  generalize hF : st.length + (1 + r1) = e6
  refine loop_ind (fun ds env s => ∃ (q : List Nat) (A B : List Ch) (o8 : Option D), ds = dInts q ∧ env = [some (.ob g), some (.int m), some (.int n), some (.ob k), some (.ob e5), some (.ob e6), none, some (.ob (k + 1)), o8] ∧ KP st s g t ∧ s[k]? = some (.lst (A.map Ch.d)) ∧ s[k + 1]? = some (.lst (B.map Ch.d)) ∧ q.length ≤ A.length ∧ A.length + B.length ≤ 30 ∧ (∀ c ∈ A, c ∈ every m) ∧ ∀ c ∈ B, c ∈ every m)
    (fun env s ⟨q, A, B, o8, e1, e2, kk, a0, b0, hq, hn, hA, hB⟩ => ?_) (fun d ds env s ⟨q, A, B, o8, e1, e2, kk, a0, b0, hq, hn, hA, hB⟩ ih => ?_) _ _ _ ⟨List.range w, L, [], none, rfl, rfl, kpT, t0, t1, by simpa using hw2, by simpa using hLn, hLe, fun c hc => by cases hc⟩
  · subst e2
    refine ⟨trivial, hk6 _ _ ?_⟩
    simp [-wsSeq]
    generalize hN : ([.str "o", .str "pp", .str "q2", .str "ra", .str "x"] : List D) = N
    have n0 : (s ++ [Cell.lst N])[s.length]? = some (.lst N) := by simp
    have n1 : (s ++ [Cell.lst N] ++ [Cell.lst (N.take m)])[s.length + 1]? = some (.lst (N.take m)) := by simp
    have n2 : (s ++ [Cell.lst N] ++ [Cell.lst (N.take m)])[k + 1]? = some (.lst (B.map Ch.d)) := get_app (get_app b0)
    simp only [kSl, n0, cut_to, List.length_append, List.length_singleton, kTupOf, n1, n2]
    obtain ⟨ns, h4, h5⟩ : ∃ ns : List Str, N.take m = ns.map D.str ∧ ns.length = m := by
      rw [← hN]
      exact ⟨(["o", "pp", "q2", "ra", "x"] : List Str).take m, by rw [List.map_take]; rfl, by rw [List.length_take]; simp; omega⟩
    rw [h4]
    refine kp_cut (kk.app.app) kg h2 (by simp [okD, okDs]; rw [okDs_iff]; intro d hd; obtain ⟨_, _, rfl⟩ := List.mem_map.mp hd; simp [okD]) fun s2 h6 h7 => p ns B s2 h5 (by omega) hB h6 h7
  · subst e2
    cases q with
    | nil => simp [dInts] at e1
    | cons x q =>
      simp only [dInts, List.map_cons, List.cons.injEq] at e1
      obtain ⟨e4, e5'⟩ := e1
      subst e4
      refine ⟨trivial, ?_⟩
      simp [-wsSeq]
      refine ⟨isLst_at b0, isLst_at a0, ?_⟩
      simp only [List.length_cons, dInts, List.length_map] at hq
      simp only [kLen, lenD, a0, List.length_map]
      refine ⟨g, t, A.length, rfl, kk.2, by omega, by omega, fun r2 s2 hr2 hl2 kp2 => ?_⟩
      have a1 := kp2.get a0 (by omega) (by omega)
      have b1 := kp2.get b0 (by omega) (by omega)
      have hx : (A.map Ch.d)[r2]? = some (A[r2]).d := by rw [List.getElem?_map, List.getElem?_eq_getElem hr2]; rfl
      have e9 : (A.map Ch.d).eraseIdx r2 = (A.eraseIdx r2).map Ch.d := erase_map _ _ _
      simp only [kPop, lstOf, a1, List.length_map, seqIx_nat hr2, hx, e9]
      refine ⟨by omega, ?_⟩
      have b2 : (s2.set k (.lst ((A.eraseIdx r2).map Ch.d)))[k + 1]? = some (.lst (B.map Ch.d)) := by rw [List.getElem?_set_ne (by omega)]; exact b1
      rw [kAppend_at b2]
      refine ⟨by simp; omega, ih _ _ ⟨q, A.eraseIdx r2, B ++ [A[r2]], _, e5', rfl, ((kk.trans kp2).put kg (by omega)).put kg (by omega), ?_, ?_, ?_, ?_, fun c hc => hA c (mem_erase hc), fun c hc => ?_⟩⟩
      · rw [List.getElem?_set_ne (by omega), List.getElem?_set_self (by have := get_lt a1; omega)]
      · rw [List.getElem?_set_self (by have := get_lt b2; simpa using this)]; simp
      · rw [List.length_eraseIdx, if_pos hr2]; omega
      · rw [List.length_eraseIdx, if_pos hr2]; simp; omega
      · rcases List.mem_append.mp hc with z | z
        · exact hB c z
        · rw [List.mem_singleton.mp z]; exact hA _ (List.getElem_mem _)
end Hd
set_option Elab.async false
set_option linter.all false
set_option maxRecDepth 100000
set_option maxHeartbeats 2000000
/-! M4: the watch answers as the book says. -/
namespace Hd
open PySem PySem.Spec PyProof.Rows L2 Vd
theorem sameAll_refl {f : D → D → Option Bool} : ∀ {xs : List D}, (∀ x ∈ xs, f x x = some true) → sameAll f xs xs = some true
  | [], _ => rfl
  | x :: xs, h => by
    simp only [sameAll, h x List.mem_cons_self]
    exact sameAll_refl fun y hy => h y (List.mem_cons_of_mem _ hy)
theorem same_int {st : Sto} {n : Nat} {i : Int} : sameF st (n + 1) (.int i) (.int i) = some true := by simp [sameF]
theorem same_str {st : Sto} {n : Nat} {s : Str} : sameF st (n + 1) (.str s) (.str s) = some true := by simp [sameF]
theorem same_ob {st : Sto} {n k : Nat} {xs : List D} (h : st[k]? = some (.lst xs)) (hl : xs.length ≤ 1000) (hx : ∀ x ∈ xs, sameF st n x x = some true) : sameF st (n + 1) (.tup xs) (.ob k) = some true := by
  simp only [sameF, seqD, h, if_pos hl, if_true]
  exact sameAll_refl hx
theorem same_tup {st : Sto} {n : Nat} {xs : List D} (hl : xs.length ≤ 1000) (hx : ∀ x ∈ xs, sameF st n x x = some true) : sameF st (n + 1) (.tup xs) (.tup xs) = some true := by
  simp only [sameF, seqD, if_pos hl, if_true]
  exact sameAll_refl hx
theorem same_ints {st : Sto} {n : Nat} {r : List Nat} : ∀ x ∈ dInts r, sameF st (n + 1) x x = some true := fun x hx => by
  obtain ⟨i, _, rfl⟩ := List.mem_map.mp hx
  exact same_int
theorem same_row {st : Sto} {n : Nat} {r : List Nat} (h : r.length ≤ 1000) : sameF st (n + 2) (dRow r) (dRow r) = some true := same_tup (by simpa [dInts] using h) same_ints
theorem same_chd {st : Sto} {n : Nat} {c : Ch} : sameF st (n + 2) c.d c.d = some true := by
  cases c
  · exact same_tup (by simp) (by simp [sameF])
  · exact same_tup (by simp) (by simp [sameF])
  · exact same_tup (by simp) (by simp [sameF])
  · exact same_tup (by simp) (by simp [sameF])
theorem same_pair {st : Sto} {n : Nat} {p : Pr} (h1 : p.1.length ≤ 1000) (h2 : p.2.length ≤ 1000) : sameF st (n + 3) (dPair p) (dPair p) = some true := same_tup (by simp) fun x hx => by
  simp only [List.mem_cons, List.not_mem_nil, or_false] at hx
  rcases hx with rfl | rfl
  · exact same_row h1
  · exact same_row h2
/-- what the watch says is what the law says -/
structure MBook (m : Nat) (cs : List Ch) (ps : List Pr) : Prop where
  s : strangeL m cs 0 ps = lstr m cs ps
  e : explL m cs ps (every m) = lexpl m cs ps (every m)
  n : needL m cs ps (List.range cs.length) = lneed m cs ps (List.range cs.length)
def spLIs : DSp := fun ds st P => ∃ (bk pk w q : Nat) (ns : List Str) (cs : List Ch) (ps : List Pr) (wh : Nat), ds = [.ob bk, .ob w, .int wh] ∧ BookAt st bk pk ns cs ps ∧ WatchAt st w q ns cs ps ∧ wh < 4 ∧ ns.length ≤ 5 ∧ cs.length ≤ 100 ∧ Good ns cs ∧ GoodP ns ps ∧ MBook ns.length cs ps ∧ P (.bl true) st
theorem keeps_is : Keeps 3 5 (w__law_is spStrange spExpl spNeed spPairs (spSame 8) spLStr spLExpl spLNeed) spLIs := by
  intro ds st P hl h1 h2 ⟨bk, pk, w, q, ns, cs, ps, wh, e, ⟨g1, g2⟩, ⟨g3, g4⟩, hw, hn5, hc, gs, gp, mb, p⟩
  subst e
  simp only [w__law_is, startE]
  refine seq_step fun k1 hk1 => ?_
  simp [seqAt, g1]
  refine hk1 _ _ ?_
  clear hk1 k1
  have insS : insOf st "Watch" "strange" (.ob w) := ⟨_, g3, by simp [-List.lookup_eq_none_iff]⟩
  have insP : insOf st "Watch" "pairs" (.ob w) := ⟨_, g3, by simp [-List.lookup_eq_none_iff]⟩
  have insN : insOf st "Watch" "needed" (.ob w) := ⟨_, g3, by simp [-List.lookup_eq_none_iff]⟩
  have insE : insOf st "Watch" "explaining" (.ob w) := ⟨_, g3, by simp [-List.lookup_eq_none_iff]⟩
  rcases wh with _ | _ | _ | _ | wh
  · simp
    refine ⟨insS, w, q, ns, cs, ps, rfl, ⟨g3, g4⟩, gs, gp, ns, cs, pk, ps, rfl, g2, gs, gp, _, _, true, rfl, ?_, gc_drop rfl h2 (by simp) p⟩
    rw [mb.s]
    exact same_ob get_new0 (by simp [dInts]; exact Nat.le_trans (List.length_filter_le _ _) (by simpa using gp.l)) same_ints
  · simp
    refine ⟨insP, w, q, ns, cs, ps, rfl, ⟨g3, g4⟩, _, _, true, rfl, ?_, gc_same rfl h2 (by simp) p⟩
    exact same_ob g2 (by simpa using gp.l) fun x hx => by
      obtain ⟨pp, hp, rfl⟩ := List.mem_map.mp hx
      exact same_pair (gp.r _ hp).1.l (gp.r _ hp).2.l
  · simp
    refine ⟨insN, w, q, ns, cs, ps, rfl, ⟨g3, g4⟩, hc, gs, gp, ns, cs, pk, ps, rfl, g2, hc, gs, gp, _, _, true, rfl, ?_, gc_drop rfl h2 (by simp) p⟩
    rw [mb.n]
    exact same_ob get_new0 (by simp [dInts]; exact Nat.le_trans (List.length_filter_le _ _) (by simp; omega)) same_ints
  · simp
    refine ⟨insE, w, q, ns, cs, ps, rfl, ⟨g3, g4⟩, hn5, hc, gs, gp, ns, cs, pk, ps, rfl, g2, hn5, hc, gs, gp, _, _, true, rfl, ?_, gc_drop rfl h2 (by simp) p⟩
    rw [mb.e]
    exact same_ob get_new0 (by simp; exact Nat.le_trans (List.length_filter_le _ _) (Nat.le_trans (every_len hn5) (by decide))) fun x hx => by
      obtain ⟨c, hc, rfl⟩ := List.mem_map.mp hx
      exact same_chd
  · omega
end Hd
set_option Elab.async false
set_option linter.all false
set_option maxRecDepth 100000
set_option maxHeartbeats 2000000
/-! M5: the four answers. -/
namespace Hd
open PySem PySem.Spec PyProof.Rows L2 Vd
def spLWhole : DSp := fun ds st P => ∃ (x0 : D) (bk pk w q : Nat) (ns : List Str) (cs : List Ch) (ps : List Pr) (by_ : Nat), ds = [x0, .ob bk, .ob w, .int by_] ∧ BookAt st bk pk ns cs ps ∧ WatchAt st w q ns cs ps ∧ ns.length ≤ 5 ∧ cs.length ≤ 100 ∧ Good ns cs ∧ GoodP ns ps ∧ MBook ns.length cs ps ∧ P (.bl true) st
theorem keeps_whole : Keeps 4 5 (w__law_whole spLIs) spLWhole := by
  intro ds st P hl h1 h2 ⟨x0, bk, pk, w, q, ns, cs, ps, b, e, g1, g3, hn5, hc, gs, gp, mb, p⟩
  subst e
  simp only [w__law_whole, startE]
  have key : ∀ (j : Nat) (Q : D → Sto → Prop), j < 4 → Q (.bl true) st → spLIs [.ob bk, .ob w, .int j] st Q := fun j Q hj hQ => ⟨bk, pk, w, q, ns, cs, ps, j, rfl, g1, g3, hj, hn5, hc, gs, gp, mb, hQ⟩
  refine seq_step fun k1 hk1 => ?_
  simp [wiRng1]
  rw [show rngD 0 4 = dInts (List.range 4) from rng_ints 4]
  refine loop_ind (fun ds env s => ∃ (r : List Nat) (o4 : Option D), ds = dInts r ∧ s = st ∧ env = [some x0, some (.ob bk), some (.ob w), some (.int b), o4]) (fun env s ⟨r, o4, e1, e2, e3⟩ => ?_) (fun d ds env s ⟨r, o4, e1, e2, e3⟩ ih => ?_) _ _ _ ⟨List.range 4, none, rfl, rfl, rfl⟩
  · subst e2 e3
    refine ⟨trivial, hk1 _ _ ?_⟩
    simp
    refine key 0 _ (by decide) (gc_same rfl h2 (by simp) p)
  · subst e2 e3
    cases r with
    | nil => simp [dInts] at e1
    | cons x r =>
      simp only [dInts, List.map_cons, List.cons.injEq] at e1
      obtain ⟨e4, e5⟩ := e1
      subst e4
      refine ⟨trivial, ?_⟩
      simp [kInt, kMod]
      obtain ⟨z, hz, hz4⟩ := mod_nat (i := (b : Int) + (x : Int)) (show 0 < 4 by decide)
      rw [show ((b : Int) + (x : Int)) % 4 = (z : Int) from hz]
      refine key z _ hz4 ?_
      simp
      exact ih _ _ ⟨r, _, e5, rfl, rfl⟩
end Hd
set_option Elab.async false
set_option linter.all false
set_option maxRecDepth 100000
set_option maxHeartbeats 2000000
/-! P1: rows up to exchanges of loose neighbours. -/
namespace Hd
open PySem PySem.Spec PyProof.Rows L2 Vd
def pj (a b : Nat) (u : List Nat) : List Nat := u.filter fun x => decide (x = a) || decide (x = b)
def Sw (lo : Nat → Nat → Bool) (u v : List Nat) : Prop := ∀ a b, (a = b ∨ lo a b = false) → pj a b u = pj a b v
def Sym (lo : Nat → Nat → Bool) : Prop := ∀ a b, lo a b = lo b a
/-- a stands in front, but for what is loose with it -/
def Fr (lo : Nat → Nat → Bool) (a : Nat) (u p q : List Nat) : Prop := u = p ++ a :: q ∧ ∀ o ∈ p, o ≠ a ∧ lo o a = true
section
variable {lo : Nat → Nat → Bool} {u v w x p q : List Nat} {a b : Nat}
theorem Sw.refl : Sw lo u u := fun _ _ _ => rfl
theorem Sw.symm (h : Sw lo u v) : Sw lo v u := fun a b c => (h a b c).symm
theorem Sw.trans (h : Sw lo u v) (h2 : Sw lo v w) : Sw lo u w := fun a b c => (h a b c).trans (h2 a b c)
theorem pj_app : pj a b (u ++ v) = pj a b u ++ pj a b v := by simp [pj]
theorem pj_rev : pj a b u.reverse = (pj a b u).reverse := by simp [pj]
theorem Sw.app (h : Sw lo u v) (h2 : Sw lo w x) : Sw lo (u ++ w) (v ++ x) := fun a b c => by rw [pj_app, pj_app, h a b c, h2 a b c]
theorem Sw.rev (h : Sw lo u v) : Sw lo u.reverse v.reverse := fun a b c => by rw [pj_rev, pj_rev, h a b c]
theorem pj_none (h : ∀ o ∈ u, o ≠ a ∧ o ≠ b) : pj a b u = [] := by
  simp only [pj, List.filter_eq_nil_iff]
  intro o ho
  have := h o ho
  simp [this.1, this.2]
theorem Fr.pull (sy : Sym lo) (h : Fr lo a u p q) : Sw lo u (a :: (p ++ q)) := by
  intro x y hxy
  rw [h.1]
  by_cases ha : a = x ∨ a = y
  · have : pj x y p = [] := pj_none fun o ho => by
      obtain ⟨h1, h2⟩ := h.2 o ho
      rcases ha with rfl | rfl
      · refine ⟨h1, fun e => ?_⟩
        subst e
        rcases hxy with e | e
        · exact h1 e.symm
        · rw [sy] at e; rw [e] at h2; cases h2
      · refine ⟨fun e => ?_, h1⟩
        subst e
        rcases hxy with e | e
        · exact h1 e
        · rw [e] at h2; cases h2
    rw [show a :: (p ++ q) = [a] ++ p ++ q from rfl, show p ++ a :: q = p ++ [a] ++ q by simp, pj_app, pj_app, pj_app, pj_app, this]
    simp
  · have : pj x y [a] = [] := pj_none fun o ho => by
      rw [List.mem_singleton.mp ho]
      exact ⟨fun e => ha (.inl e), fun e => ha (.inr e)⟩
    rw [show a :: (p ++ q) = [a] ++ p ++ q from rfl, show p ++ a :: q = p ++ [a] ++ q by simp, pj_app, pj_app, pj_app, pj_app, this]
    simp
theorem first_of : ∀ {u : List Nat}, a ∈ u → ∃ p q, u = p ++ a :: q ∧ a ∉ p
  | [], h => by cases h
  | b :: u, h => by
    by_cases c : b = a
    · exact ⟨[], u, by rw [c]; rfl, by simp⟩
    · rcases List.mem_cons.mp h with e | e
      · exact absurd e.symm c
      · obtain ⟨p, q, h1, h2⟩ := first_of e
        refine ⟨b :: p, q, by rw [h1]; rfl, fun z => ?_⟩
        rcases List.mem_cons.mp z with z | z
        · exact c z.symm
        · exact h2 z
theorem Sw.front (h : Sw lo (a :: u) v) : ∃ p q, Fr lo a v p q := by
  have ha : a ∈ v := by
    have := h a a (.inl rfl)
    have h2 : a ∈ pj a a (a :: u) := by simp [pj]
    rw [this] at h2
    exact (List.mem_filter.mp h2).1
  obtain ⟨p, q, h1, h2⟩ := first_of ha
  refine ⟨p, q, h1, fun o ho => ?_⟩
  have ne : o ≠ a := fun e => h2 (e ▸ ho)
  refine ⟨ne, ?_⟩
  cases hl : lo o a with
  | true => rfl
  | false =>
    have e := h o a (.inr hl)
    rw [h1, pj_app] at e
    have hm : o ∈ pj o a p := by simp [pj, ho]
    cases hp : pj o a p with
    | nil => rw [hp] at hm; cases hm
    | cons x r =>
      rw [hp] at e
      have hx : x ∈ p := (List.mem_filter.mp (show x ∈ pj o a p by rw [hp]; simp)).1
      have e2 : pj o a (a :: u) = a :: pj o a u := by simp [pj]
      rw [e2] at e
      simp only [List.cons_append, List.cons.injEq] at e
      exact absurd hx (by rw [← e.1]; exact h2)
theorem Sw.tail (h : Sw lo (a :: u) (a :: v)) : Sw lo u v := fun x y hxy => by
  have := h x y hxy
  simp only [pj, List.filter_cons] at this
  split at this
  · simpa [pj] using this
  · exact this
theorem Sw.nil (h : Sw lo [] v) : v = [] := by
  cases v with
  | nil => rfl
  | cons b v => have := h b b (.inl rfl); simp [pj] at this
theorem Sw.len (sy : Sym lo) : ∀ {u v : List Nat}, Sw lo u v → u.length = v.length
  | [], v, h => by rw [h.nil]
  | a :: u, v, h => by
    obtain ⟨p, q, f⟩ := h.front
    have := Sw.len sy (h.trans (f.pull sy)).tail
    rw [f.1]
    simp at this ⊢
    omega
theorem Fr.go (sy : Sym lo) (h : Sw lo u v) (f : Fr lo a u p q) : ∃ p' q', Fr lo a v p' q' ∧ Sw lo (p ++ q) (p' ++ q') := by
  obtain ⟨p', q', f'⟩ := ((f.pull sy).symm.trans h).front
  exact ⟨p', q', f', (((f.pull sy).symm.trans h).trans (f'.pull sy)).tail⟩
end
/-! ### the first order -/
theorem lead_mem {W : Hear} {j : Nat} : ∀ {k : Nat} {ahead r : List Nat}, j ∈ lead W k ahead r ↔ ∃ p a q, r = p ++ a :: q ∧ j = k + p.length ∧ (∀ o ∈ ahead, W.lo o a = true) ∧ ∀ o ∈ p, W.lo o a = true
  | k, ahead, [] => by simp [lead]
  | k, ahead, s :: r => by
    unfold lead
    rw [List.mem_append, lead_mem (r := r)]
    constructor
    · rintro (h | ⟨p, a, q, h1, h2, h3, h4⟩)
      · split at h
        · rename_i c
          rw [List.all_eq_true] at c
          exact ⟨[], s, r, rfl, by simpa using h, c, fun o ho => by cases ho⟩
        · cases h
      · refine ⟨s :: p, a, q, by rw [h1]; rfl, by rw [h2, List.length_cons]; omega, fun o ho => h3 o ?_, fun o ho => ?_⟩
        · split
          · exact ho
          · exact List.mem_append_left _ ho
        · rcases List.mem_cons.mp ho with rfl | ho
          · refine h3 _ ?_
            split
            · assumption
            · simp
          · exact h4 o ho
    · rintro ⟨p, a, q, h1, h2, h3, h4⟩
      cases p with
      | nil =>
        simp only [List.nil_append, List.cons.injEq] at h1
        obtain ⟨rfl, rfl⟩ := h1
        left
        rw [if_pos (List.all_eq_true.mpr h3)]
        simpa using h2
      | cons b p =>
        simp only [List.cons_append, List.cons.injEq] at h1
        obtain ⟨rfl, rfl⟩ := h1
        right
        refine ⟨p, a, q, rfl, by rw [h2, List.length_cons]; omega, fun o ho => ?_, fun o ho => h4 o (List.mem_cons_of_mem _ ho)⟩
        split at ho
        · exact h3 o ho
        · rcases List.mem_append.mp ho with z | z
          · exact h3 o z
          · rw [List.mem_singleton.mp z]; exact h4 _ List.mem_cons_self
theorem getD_mid {p q : List Nat} {a : Nat} : (p ++ a :: q).getD p.length 0 = a := by simp [List.getD_eq_getElem?_getD]
theorem erase_mid {p q : List Nat} {a : Nat} : (p ++ a :: q).eraseIdx p.length = p ++ q := by
  rw [List.eraseIdx_append_of_length_le (Nat.le_refl _), Nat.sub_self]; rfl
theorem best_spec {W : Hear} {u : List Nat} (h : u ≠ []) : ∃ a p q, Fr W.lo a u p q ∧ (∀ b p' q', u = p' ++ b :: q' → (∀ o ∈ p', W.lo o b = true) → a ≤ b) ∧ NF W u = a :: NF W (p ++ q) := by
  obtain ⟨h1, h2⟩ := best_lt (W := W) h
  obtain ⟨p, a, q, e1, e2, _, e4⟩ := lead_mem.mp h2
  rw [Nat.zero_add] at e2
  have le : ∀ b p' q', u = p' ++ b :: q' → (∀ o ∈ p', W.lo o b = true) → ltP (b, p'.length) (a, p.length) = false := fun b p' q' g1 g2 => by
    have hm : (b, p'.length) ∈ heads W u := List.mem_map.mpr ⟨p'.length, lead_mem.mpr ⟨p', b, q', g1, by simp, fun o ho => (by cases ho), g2⟩, by rw [g1, getD_mid]⟩
    have hm2 : (a, p.length) ∈ heads W u := List.mem_map.mpr ⟨p.length, lead_mem.mpr ⟨p, a, q, e1, by simp, fun o ho => (by cases ho), e4⟩, by rw [e1, getD_mid]⟩
    unfold best at e2
    cases hh : heads W u with
    | nil => rw [hh] at hm; cases hm
    | cons z zs =>
      rw [hh] at e2 hm
      simp only at e2
      have hz := minP_mem z zs
      rw [← hh] at hz
      obtain ⟨k, hk, ek⟩ := List.mem_map.mp hz
      have e5 : minP z zs = (a, p.length) := by
        rw [← ek]
        have : k = p.length := by rw [← e2, ← ek]
        rw [this, e1, getD_mid]
      have := minP_le z zs _ hm
      rwa [e5] at this
  have na : a ∉ p := fun hp => by
    obtain ⟨p1, p2, g1, g2⟩ := first_of hp
    have := le a p1 (p2 ++ a :: q) (by rw [e1, g1]; simp) (fun o ho => e4 o (by rw [g1]; simp [ho]))
    simp [ltP, g1] at this
  refine ⟨a, p, q, ⟨e1, fun o ho => ⟨fun e => na (e ▸ ho), e4 o ho⟩⟩, fun b p' q' g1 g2 => ?_, ?_⟩
  · have := le b p' q' g1 g2
    simp [ltP] at this
    omega
  · rw [nf_cons h, e2, e1, getD_mid, erase_mid]
theorem nf_nil {W : Hear} : NF W [] = [] := rfl
theorem nf_sw {W : Hear} (sy : Sym W.lo) : ∀ (n : Nat) (u : List Nat), u.length = n → Sw W.lo (NF W u) u
  | 0, u, h => by rw [List.length_eq_zero_iff.mp h, nf_nil]; exact Sw.refl
  | n + 1, u, h => by
    obtain ⟨a, p, q, f, _, e⟩ := best_spec (W := W) (u := u) (by intro z; rw [z] at h; simp at h)
    rw [e]
    refine Sw.trans ?_ (f.pull sy).symm
    exact Sw.app (u := [a]) (v := [a]) Sw.refl (nf_sw sy n (p ++ q) (by rw [f.1] at h; simp at h ⊢; omega))
theorem nf_eq {W : Hear} (sy : Sym W.lo) : ∀ (n : Nat) (u v : List Nat), u.length = n → Sw W.lo u v → NF W u = NF W v
  | 0, u, v, h, s => by rw [List.length_eq_zero_iff.mp h] at s ⊢; rw [s.nil]
  | n + 1, u, v, h, s => by
    have hv : v.length = n + 1 := by rw [← s.len sy]; exact h
    obtain ⟨a, p, q, f, m, e⟩ := best_spec (W := W) (u := u) (by intro z; rw [z] at h; simp at h)
    obtain ⟨b, p', q', f', m', e'⟩ := best_spec (W := W) (u := v) (by intro z; rw [z] at hv; simp at hv)
    obtain ⟨x, y, g, g2⟩ := f.go sy s
    obtain ⟨x', y', g', g2'⟩ := f'.go sy s.symm
    have h1 := m' a x y g.1 fun o ho => (g.2 o ho).2
    have h2 := m b x' y' g'.1 fun o ho => (g'.2 o ho).2
    obtain rfl : a = b := by omega
    rw [e, e']
    congr 1
    refine nf_eq sy n _ _ (by rw [f.1] at h; simp at h ⊢; omega) ?_
    exact (((f.pull sy).symm.trans s).trans (f'.pull sy)).tail
theorem nf_iff {W : Hear} (sy : Sym W.lo) {u v : List Nat} : NF W u = NF W v ↔ Sw W.lo u v :=
  ⟨fun h => ((nf_sw sy _ u rfl).symm.trans (h ▸ Sw.refl)).trans (nf_sw sy _ v rfl), nf_eq sy _ u v rfl⟩
/-! ### what is kept -/
theorem scan_iff {W : Hear} {s : Nat} : ∀ {l : List Nat}, scan W s l = true ↔ ∃ p q, Fr W.lo s l p q
  | [] => by simp [scan, Fr]
  | o :: r => by
    unfold scan
    split
    · rename_i c
      subst c
      exact ⟨fun _ => ⟨[], r, rfl, fun _ h => by cases h⟩, fun _ => rfl⟩
    · rename_i c
      split
      · rename_i c2
        rw [scan_iff (l := r)]
        constructor
        · rintro ⟨p, q, h1, h2⟩
          refine ⟨o :: p, q, by rw [h1]; rfl, fun z hz => ?_⟩
          rcases List.mem_cons.mp hz with rfl | hz
          · exact ⟨c, c2⟩
          · exact h2 z hz
        · rintro ⟨p, q, h1, h2⟩
          cases p with
          | nil => simp at h1; exact absurd h1.1 c
          | cons b p =>
            simp at h1
            exact ⟨p, q, h1.2, fun z hz => h2 z (List.mem_cons_of_mem _ hz)⟩
      · rename_i c2
        constructor
        · intro h; cases h
        · rintro ⟨p, q, h1, h2⟩
          cases p with
          | nil => simp at h1; exact absurd h1.1 c
          | cons b p =>
            simp at h1
            exact absurd (h2 b List.mem_cons_self).2 (by rw [← h1.1]; exact c2)
theorem scan_sw {W : Hear} (sy : Sym W.lo) {s : Nat} {u v : List Nat} (h : Sw W.lo u v) : scan W s u = scan W s v := by
  apply Bool.eq_iff_iff.mpr
  rw [scan_iff, scan_iff]
  constructor
  · rintro ⟨p, q, f⟩
    obtain ⟨p', q', f', _⟩ := f.go sy h
    exact ⟨p', q', f'⟩
  · rintro ⟨p, q, f⟩
    obtain ⟨p', q', f', _⟩ := f.go sy h.symm
    exact ⟨p', q', f'⟩
theorem step_sw {W : Hear} (sy : Sym W.lo) {s : Nat} {u v : List Nat} (h : Sw W.lo u v) : Sw W.lo (step W u s) (step W v s) := by
  unfold step
  rw [scan_sw sy h.rev]
  split
  · exact h
  · exact h.app Sw.refl
theorem fold_sw {W : Hear} (sy : Sym W.lo) : ∀ {l u v : List Nat}, Sw W.lo u v → Sw W.lo (l.foldl (step W) u) (l.foldl (step W) v)
  | [], _, _, h => h
  | s :: l, _, _, h => fold_sw sy (l := l) (step_sw sy h)
theorem scan_back {W : Hear} {a b : Nat} {K : List Nat} (h : W.lo b a = true) : a ≠ b → scan W a (K ++ [b]).reverse = scan W a K.reverse := fun ne => by
  rw [List.reverse_append]
  show scan W a (b :: K.reverse) = _
  rw [scan, if_neg (Ne.symm ne), if_pos h]
theorem step_loose {W : Hear} (sy : Sym W.lo) {s t : Nat} {K : List Nat} (h : W.lo (W.f s) (W.f t) = true) : Sw W.lo (step W (step W K s) t) (step W (step W K t) s) := by
  by_cases e : W.f s = W.f t
  · simp [step, e]
    exact Sw.refl
  · have h' := h
    rw [sy] at h'
    have sw : Sw W.lo (K ++ [W.f s] ++ [W.f t]) (K ++ [W.f t] ++ [W.f s]) := by
      have : Fr W.lo (W.f t) [W.f s, W.f t] [W.f s] [] := ⟨rfl, fun o ho => by rw [List.mem_singleton.mp ho]; exact ⟨e, h⟩⟩
      have := Sw.app (u := K) (v := K) Sw.refl (this.pull sy)
      simpa using this
    have b1 := scan_back (K := K) h' e
    have b2 := scan_back (K := K) h (Ne.symm e)
    have st : ∀ K s, step W K s = if (W.i (W.f s) || (W.hd (W.f s) && scan W (W.f s) K.reverse)) = true then K else K ++ [W.f s] := fun _ _ => rfl
    by_cases c1 : (W.i (W.f s) || (W.hd (W.f s) && scan W (W.f s) K.reverse)) = true
    · by_cases c2 : (W.i (W.f t) || (W.hd (W.f t) && scan W (W.f t) K.reverse)) = true
      · rw [st K s, if_pos c1, st K t, if_pos c2, st K s, if_pos c1]; exact Sw.refl
      · rw [st K s, if_pos c1, st K t, if_neg c2, st, if_pos (by rw [b1]; exact c1)]; exact Sw.refl
    · by_cases c2 : (W.i (W.f t) || (W.hd (W.f t) && scan W (W.f t) K.reverse)) = true
      · rw [st K s, if_neg c1, st K t, if_pos c2, st _ t, if_pos (by rw [b2]; exact c2), st K s, if_neg c1]; exact Sw.refl
      · rw [st K s, if_neg c1, st K t, if_neg c2, st _ t, if_neg (by rw [b2]; exact c2), st _ s, if_neg (by rw [b1]; exact c1)]; exact sw
theorem step_held {W : Hear} {s : Nat} {K : List Nat} (h : W.hd (W.f s) = true) : step W (step W K s) s = step W K s := by
  simp only [step, h, Bool.true_and]
  by_cases c : (W.i (W.f s) || scan W (W.f s) K.reverse) = true
  · rw [if_pos c, if_pos c]
  · rw [if_neg c, if_pos]
    rw [List.reverse_append]
    show (_ || scan W (W.f s) (W.f s :: K.reverse)) = true
    rw [scan, if_pos rfl, Bool.or_true]
theorem step_idle {W : Hear} {s : Nat} {K : List Nat} (h : W.i (W.f s) = true) : step W K s = K := by simp [step, h]
theorem step_same {W : Hear} {s t : Nat} {K : List Nat} (h : W.f s = W.f t) : step W K s = step W K t := by simp [step, h]
end Hd
set_option Elab.async false
set_option linter.all false
set_option maxRecDepth 100000
set_option maxHeartbeats 2000000
/-! P2: what the hearing is made of, and the steps. -/
namespace Hd
open PySem PySem.Spec PyProof.Rows L2 Vd
section
variable {κ : Type} [DecidableEq κ]
theorem dGet_iff {d : List (κ × D)} {k : κ} : (dGet d k).isSome = true ↔ k ∈ d.map (·.1) := by
  unfold dGet
  rw [Option.isSome_map, List.find?_isSome]
  simp
theorem putD_keys {d : List (κ × D)} {k x : κ} {v : D} : x ∈ (putD d k v).map (·.1) ↔ x = k ∨ x ∈ d.map (·.1) := by
  unfold putD
  split
  · rename_i h
    have e : (d.map fun kv => if kv.1 = k then (kv.1, v) else kv).map (·.1) = d.map (·.1) := by
      rw [List.map_map]
      apply List.map_congr_left
      intro p _
      simp only [Function.comp]
      split <;> rfl
    rw [e]
    constructor
    · exact .inr
    · rintro (rfl | h2)
      · simpa using h
      · exact h2
  · simp [or_comm]
theorem dGet_put {d : List (κ × D)} {k x : κ} {v : D} : (dGet (putD d k v) x).isSome = true ↔ x = k ∨ (dGet d x).isSome = true := by
  rw [dGet_iff, dGet_iff, putD_keys]
end
/-! ### lots -/
theorem gN_map {f : List Nat} {g : Nat → Nat} {s : Nat} (h : s < f.length) : gN (f.map g) s = g (gN f s) := by
  simp [gN, List.getD_eq_getElem?_getD, h]
theorem join_at {f : List Nat} {s t v : Nat} (h : v < f.length) : gN (joinL f s t) v = if gN f v = max (gN f s) (gN f t) then min (gN f s) (gN f t) else gN f v := by
  unfold joinL; rw [gN_map h]
theorem gN_range {m s : Nat} (h : s < m) : gN (List.range m) s = s := by simp [gN, List.getD_eq_getElem?_getD, h]
structure LotF (m : Nat) (cs : List Ch) (f : List Nat) : Prop where
  w : WfF m f
  le : ∀ s, s < m → gN f s ≤ s
  ed : ∀ s t, .same s t ∈ cs → gN f s = gN f t
  cl : ∀ S : Nat → Prop, (∀ s t, .same s t ∈ cs → (S s ↔ S t)) → ∀ v, v < m → (S (gN f v) ↔ S v)
theorem lot_fold {m : Nat} : ∀ {cs cs0 : List Ch} {f : List Nat}, (∀ c ∈ cs, c.ok m) → LotF m cs0 f → LotF m (cs0 ++ cs) (cs.foldl jn f)
  | [], cs0, f, _, w => by rw [List.append_nil]; exact w
  | c :: cs, cs0, f, h, w => by
    have hc := h c List.mem_cons_self
    rw [show cs0 ++ c :: cs = cs0 ++ [c] ++ cs by simp]
    refine lot_fold (cs := cs) (fun x hx => h x (List.mem_cons_of_mem _ hx)) ?_
    have keep : (∀ s t, c ≠ .same s t) → LotF m (cs0 ++ [c]) f := fun hn => ⟨w.w, w.le, fun s t hm => by
      rcases List.mem_append.mp hm with z | z
      · exact w.ed s t z
      · exact absurd (List.mem_singleton.mp z).symm (hn s t), fun S hS v hv => w.cl S (fun s t hm => hS s t (List.mem_append_left _ hm)) v hv⟩
    cases c with
    | same s t =>
      obtain ⟨hs, ht⟩ := hc
      have hf := w.w.1
      have ej : ∀ v, v < m → gN (joinL f s t) v = if gN f v = max (gN f s) (gN f t) then min (gN f s) (gN f t) else gN f v := fun v hv => join_at (by rw [hf]; exact hv)
      show LotF m _ (joinL f s t)
      refine ⟨w.w.join hs ht, fun v hv => ?_, fun a b hm => ?_, fun S hS v hv => ?_⟩
      · rw [ej v hv]
        have := w.le v hv
        split <;> omega
      · rcases List.mem_append.mp hm with z | z
        · have := w.ed a b z
          have hab : a < m ∧ b < m ∨ gN (joinL f s t) a = gN (joinL f s t) b := by
            by_cases ha : a < m
            · by_cases hb : b < m
              · exact .inl ⟨ha, hb⟩
              · right
                have : gN f b = 0 := by simp [gN, List.getD_eq_getElem?_getD, hf, hb]
                rw [ej a ha]
                have e2 : gN (joinL f s t) b = 0 := by simp [gN, List.getD_eq_getElem?_getD, joinL, hf, hb]
                rw [e2]
                split <;> omega
            · right
              have e1 : gN f a = 0 := by simp [gN, List.getD_eq_getElem?_getD, hf, ha]
              have e2 : gN (joinL f s t) a = 0 := by simp [gN, List.getD_eq_getElem?_getD, joinL, hf, ha]
              by_cases hb : b < m
              · rw [ej b hb, e2]
                split <;> omega
              · rw [e2]; simp [gN, List.getD_eq_getElem?_getD, joinL, hf, hb]
          rcases hab with ⟨ha, hb⟩ | e
          · rw [ej a ha, ej b hb, this]
          · exact e
        · simp at z
          obtain ⟨rfl, rfl⟩ := z
          rw [ej _ hs, ej _ ht]
          split <;> split <;> omega
      · have h0 := w.cl S (fun a b hm => hS a b (List.mem_append_left _ hm))
        have hst : S (gN f s) ↔ S (gN f t) := by rw [h0 s hs, h0 t ht]; exact hS s t (by simp)
        rw [← h0 v hv, ej v hv]
        split
        · rename_i c
          rw [c]
          rcases Nat.le_total (gN f s) (gN f t) with q | q
          · rw [Nat.min_eq_left q, Nat.max_eq_right q]; exact hst
          · rw [Nat.min_eq_right q, Nat.max_eq_left q]; exact hst.symm
        · rfl
    | held s => exact keep fun _ _ => nofun
    | idle s => exact keep fun _ _ => nofun
    | loose s t => exact keep fun _ _ => nofun
theorem lot_first {m : Nat} {cs : List Ch} (h : ∀ c ∈ cs, c.ok m) : LotF m cs (hFirst m cs) := by
  have l0 : LotF m [] (List.range m) := ⟨WfF.range m, fun s hs => by rw [gN_range hs]; exact Nat.le_refl _, fun s t hm => (by cases hm), fun S _ v hv => by rw [gN_range hv]⟩
  have l1 := lot_fold (cs0 := []) (fun c hc => h c (ofKind_mem (k := "same") hc).1) l0
  rw [List.nil_append] at l1
  have hm : ∀ s t, .same s t ∈ cs ↔ .same s t ∈ ofKind "same" cs := fun s t => by
    unfold ofKind
    rw [List.mem_filter]
    exact ⟨fun z => ⟨z, by simp [Ch.kind]⟩, fun z => z.1⟩
  exact ⟨l1.w, l1.le, fun s t z => l1.ed s t ((hm s t).mp z), fun S hS => l1.cl S fun s t z => hS s t ((hm s t).mpr z)⟩
/-! ### marks -/
theorem marks_iff {m : Nat} {f : List Nat} {a : Nat} : ∀ {cs : List Ch} {r : List Bool}, r.length = m → a < m → (((cs.foldl (mk f) r).getD a false = true) ↔ (r.getD a false = true ∨ ∃ s, gN f s = a ∧ (.idle s ∈ cs ∨ .held s ∈ cs)))
  | [], r, h, ha => by simp
  | c :: cs, r, h, ha => by
    rw [List.foldl_cons, marks_iff (cs := cs) (by rw [mk_len]; exact h) ha]
    have key : ∀ s, ((r.set (gN f s) true).getD a false = true ↔ r.getD a false = true ∨ gN f s = a) := fun s => by
      rw [List.getD_eq_getElem?_getD, List.getD_eq_getElem?_getD, List.getElem?_set]
      by_cases e : gN f s = a
      · simp [e, h, ha]
      · simp [e]
    cases c with
    | held s =>
      show ((r.set (gN f s) true).getD a false = true ∨ _) ↔ _
      rw [key]
      simp only [List.mem_cons, Ch.held.injEq, reduceCtorEq, false_or]
      constructor
      · rintro ((h | h) | ⟨t, h1, h2⟩)
        · exact .inl h
        · exact .inr ⟨s, h, .inr (.inl rfl)⟩
        · exact .inr ⟨t, h1, h2.imp id .inr⟩
      · rintro (h | ⟨t, h1, h2 | rfl | h2⟩)
        · exact .inl (.inl h)
        · exact .inr ⟨t, h1, .inl h2⟩
        · exact .inl (.inr h1)
        · exact .inr ⟨t, h1, .inr h2⟩
    | idle s =>
      show ((r.set (gN f s) true).getD a false = true ∨ _) ↔ _
      rw [key]
      simp only [List.mem_cons, Ch.idle.injEq, reduceCtorEq, false_or]
      constructor
      · rintro ((h | h) | ⟨t, h1, h2⟩)
        · exact .inl h
        · exact .inr ⟨s, h, .inl (.inl rfl)⟩
        · exact .inr ⟨t, h1, h2.imp .inr id⟩
      · rintro (h | ⟨t, h1, (rfl | h2) | h2⟩)
        · exact .inl (.inl h)
        · exact .inl (.inr h1)
        · exact .inr ⟨t, h1, .inl h2⟩
        · exact .inr ⟨t, h1, .inr h2⟩
    | loose s t =>
      simp [mk]
    | same s t =>
      simp [mk]
theorem idle_iff {m : Nat} {cs : List Ch} {a : Nat} (ha : a < m) : (hearOf m cs).i a = true ↔ ∃ s, gN (hFirst m cs) s = a ∧ .idle s ∈ cs := by
  show (hMarks "idle" m (hFirst m cs) cs).getD a false = true ↔ _
  unfold hMarks
  rw [marks_iff (by simp) ha]
  have e0 : (List.replicate m false).getD a false = false := by simp [List.getD_eq_getElem?_getD, ha]
  rw [e0]
  unfold ofKind
  simp only [List.mem_filter, decide_eq_true_eq, Bool.false_eq_true, false_or]
  constructor
  · rintro ⟨s, h1, h2 | h2⟩
    · exact ⟨s, h1, h2.1⟩
    · exact absurd h2.2 (by simp [Ch.kind])
  · rintro ⟨s, h1, h2⟩; exact ⟨s, h1, .inl ⟨h2, by simp [Ch.kind]⟩⟩
theorem held_iff {m : Nat} {cs : List Ch} {a : Nat} (ha : a < m) : (hearOf m cs).hd a = true ↔ ∃ s, gN (hFirst m cs) s = a ∧ .held s ∈ cs := by
  show (hMarks "held" m (hFirst m cs) cs).getD a false = true ↔ _
  unfold hMarks
  rw [marks_iff (by simp) ha]
  have e0 : (List.replicate m false).getD a false = false := by simp [List.getD_eq_getElem?_getD, ha]
  rw [e0]
  unfold ofKind
  simp only [List.mem_filter, decide_eq_true_eq, Bool.false_eq_true, false_or]
  constructor
  · rintro ⟨s, h1, h2 | h2⟩
    · exact absurd h2.2 (by simp [Ch.kind])
    · exact ⟨s, h1, h2.1⟩
  · rintro ⟨s, h1, h2⟩; exact ⟨s, h1, .inr ⟨h2, by simp [Ch.kind]⟩⟩
theorem prs_iff {f : List Nat} {a b : Nat} : ∀ {cs : List Ch} {p : List (List Key × D)}, ((dGet (cs.foldl (pr f) p) [.inl (a : Int), .inl (b : Int)]).isSome = true ↔ ((dGet p [.inl (a : Int), .inl (b : Int)]).isSome = true ∨ ∃ s t, .loose s t ∈ cs ∧ (gN f s = a ∧ gN f t = b ∨ gN f s = b ∧ gN f t = a)))
  | [], p => by simp
  | c :: cs, p => by
    rw [List.foldl_cons, prs_iff (cs := cs)]
    cases c with
    | loose s t =>
      show ((dGet (putD (putD p _ _) _ _) _).isSome = true ∨ _) ↔ _
      rw [dGet_put, dGet_put]
      simp only [List.cons.injEq, Sum.inl.injEq, and_true, List.mem_cons, Ch.loose.injEq]
      constructor
      · rintro ((⟨h1, h2⟩ | ⟨h1, h2⟩ | h) | ⟨x, y, h1, h2⟩)
        · exact .inr ⟨s, t, .inl ⟨rfl, rfl⟩, .inr ⟨by omega, by omega⟩⟩
        · exact .inr ⟨s, t, .inl ⟨rfl, rfl⟩, .inl ⟨by omega, by omega⟩⟩
        · exact .inl h
        · exact .inr ⟨x, y, .inr h1, h2⟩
      · rintro (h | ⟨x, y, ⟨rfl, rfl⟩ | h1, h2⟩)
        · exact .inl (.inr (.inr h))
        · rcases h2 with ⟨h2, h3⟩ | ⟨h2, h3⟩
          · exact .inl (.inr (.inl ⟨by omega, by omega⟩))
          · exact .inl (.inl ⟨by omega, by omega⟩)
        · exact .inr ⟨x, y, h1, h2⟩
    | held s => simp [pr]
    | idle s => simp [pr]
    | same s t => simp [pr]
theorem lo_iff {m : Nat} {cs : List Ch} {a b : Nat} : (hearOf m cs).lo a b = true ↔ ∃ s t, .loose s t ∈ cs ∧ (gN (hFirst m cs) s = a ∧ gN (hFirst m cs) t = b ∨ gN (hFirst m cs) s = b ∧ gN (hFirst m cs) t = a) := by
  show (dGet (hPrs (hFirst m cs) cs) _).isSome = true ↔ _
  unfold hPrs
  rw [prs_iff]
  unfold ofKind
  simp only [List.mem_filter, decide_eq_true_eq]
  constructor
  · rintro (h | ⟨s, t, h1, h2⟩)
    · simp [dGet] at h
    · exact ⟨s, t, h1.1, h2⟩
  · rintro ⟨s, t, h1, h2⟩
    exact .inr ⟨s, t, ⟨h1, by simp [Ch.kind]⟩, h2⟩
theorem lo_sym {m : Nat} {cs : List Ch} : Sym (hearOf m cs).lo := fun a b => by
  apply Bool.eq_iff_iff.mpr
  rw [lo_iff, lo_iff]
  constructor
  · rintro ⟨s, t, h, h2⟩; exact ⟨s, t, h, h2.symm⟩
  · rintro ⟨s, t, h, h2⟩; exact ⟨s, t, h, h2.symm⟩
/-! ### steps -/
inductive Conn (cs : List Ch) : List Nat → List Nat → Prop
  | refl (u) : Conn cs u u
  | symm {u v} : Conn cs u v → Conn cs v u
  | trans {u v w} : Conn cs u v → Conn cs v w → Conn cs u w
  | step {c} (h : c ∈ cs) (x y) : Conn cs (x ++ c.rows.1 ++ y) (x ++ c.rows.2 ++ y)
theorem Conn.mono {cs cs' : List Ch} (h : ∀ c ∈ cs, c ∈ cs') {u v : List Nat} (k : Conn cs u v) : Conn cs' u v := by
  induction k with
  | refl => exact .refl _
  | symm _ ih => exact ih.symm
  | trans _ _ i1 i2 => exact i1.trans i2
  | step hc x y => exact .step (h _ hc) x y
theorem Conn.ctx {cs : List Ch} {u v : List Nat} (k : Conn cs u v) (x y : List Nat) : Conn cs (x ++ u ++ y) (x ++ v ++ y) := by
  induction k with
  | refl => exact .refl _
  | symm _ ih => exact ih.symm
  | trans _ _ i1 i2 => exact i1.trans i2
  | step hc a b =>
    have := Conn.step hc (x ++ a) (b ++ y)
    simpa using this
theorem Conn.app {cs : List Ch} {u v w x : List Nat} (k : Conn cs u v) (k2 : Conn cs w x) : Conn cs (u ++ w) (v ++ x) := by
  have h1 := k.ctx [] w
  have h2 := k2.ctx v []
  simp at h1 h2
  exact h1.trans h2
theorem Conn.of {cs : List Ch} {c : Ch} (h : c ∈ cs) : Conn cs c.rows.1 c.rows.2 := by
  have := Conn.step h [] []
  simpa using this
section
variable {m : Nat} {cs : List Ch}
theorem conn_first (h : ∀ c ∈ cs, c.ok m) {v : Nat} (hv : v < m) : Conn cs [v] [gN (hFirst m cs) v] :=
  (((lot_first h).cl (fun x => Conn cs [v] [x]) (fun s t hm => ⟨fun k => k.trans (Conn.of hm), fun k => k.trans (Conn.of hm).symm⟩) v hv).mpr (.refl _))
theorem ok_lt (h : ∀ c ∈ cs, c.ok m) {c : Ch} (hc : c ∈ cs) : c.ok m := h c hc
theorem conn_idle (h : ∀ c ∈ cs, c.ok m) {a : Nat} (ha : a < m) (hi : (hearOf m cs).i a = true) : Conn cs [a] [] := by
  obtain ⟨s, e, hs⟩ := (idle_iff ha).mp hi
  subst e
  exact ((conn_first h (ok_lt h hs : s < m)).symm.trans (Conn.of hs).symm)
theorem conn_held (h : ∀ c ∈ cs, c.ok m) {a : Nat} (ha : a < m) (hi : (hearOf m cs).hd a = true) : Conn cs [a, a] [a] := by
  obtain ⟨s, e, hs⟩ := (held_iff ha).mp hi
  subst e
  have k := conn_first h (ok_lt h hs : s < m)
  exact ((k.app k).symm.trans (Conn.of hs).symm).trans k
theorem conn_loose (h : ∀ c ∈ cs, c.ok m) {a b : Nat} (hi : (hearOf m cs).lo a b = true) : Conn cs [a, b] [b, a] := by
  obtain ⟨s, t, hs, e⟩ := lo_iff.mp hi
  obtain ⟨o1, o2⟩ := (ok_lt h hs : s < m ∧ t < m)
  have k1 := conn_first h o1
  have k2 := conn_first h o2
  have k3 := ((k1.app k2).symm.trans (Conn.of hs)).trans (k2.app k1)
  rcases e with ⟨rfl, rfl⟩ | ⟨rfl, rfl⟩
  · exact k3
  · exact k3.symm
theorem conn_lead (h : ∀ c ∈ cs, c.ok m) {a : Nat} : ∀ {q : List Nat}, (∀ o ∈ q, (hearOf m cs).lo o a = true) → Conn cs (q ++ [a]) (a :: q)
  | [], _ => .refl _
  | o :: q, hq => by
    have k := conn_lead h (q := q) fun x hx => hq x (List.mem_cons_of_mem _ hx)
    have k1 := (Conn.refl [o]).app k
    have k2 := (conn_loose h (hq o List.mem_cons_self)).app (Conn.refl q)
    exact k1.trans k2
theorem conn_step (h : ∀ c ∈ cs, c.ok m) {K : List Nat} {s : Nat} (hs : s < m) : Conn cs (K ++ [s]) (step (hearOf m cs) K s) := by
  have ha := ((lot_first h).w.at hs).2.1
  have k0 : Conn cs (K ++ [s]) (K ++ [gN (hFirst m cs) s]) := (Conn.refl K).app (conn_first h hs)
  refine k0.trans ?_
  unfold step
  show Conn cs _ (if ((hearOf m cs).i (gN (hFirst m cs) s) || ((hearOf m cs).hd (gN (hFirst m cs) s) && scan (hearOf m cs) (gN (hFirst m cs) s) K.reverse)) = true then K else K ++ [gN (hFirst m cs) s])
  generalize gN (hFirst m cs) s = a at *
  split
  · rename_i c
    rw [Bool.or_eq_true, Bool.and_eq_true] at c
    rcases c with c | ⟨c1, c2⟩
    · have := (Conn.refl K).app (conn_idle h ha c)
      rwa [List.append_nil] at this
    · obtain ⟨p, q, e, hp⟩ := scan_iff.mp c2
      have eK : K = q.reverse ++ [a] ++ p.reverse := by
        have := congrArg List.reverse e
        rw [List.reverse_reverse] at this
        rw [this]; simp
      have k1 := conn_lead h (a := a) (q := p.reverse) fun o ho => (hp o (List.mem_reverse.mp ho)).2
      rw [eK]
      have k2 := (Conn.refl (q.reverse ++ [a])).app k1
      have k3 := (Conn.refl q.reverse).app ((conn_held h ha c1).app (Conn.refl p.reverse))
      simp at k2 k3 ⊢
      exact k2.trans k3
  · exact .refl _
theorem conn_fold (h : ∀ c ∈ cs, c.ok m) : ∀ {r K : List Nat}, Below m r → Conn cs (K ++ r) (r.foldl (step (hearOf m cs)) K)
  | [], K, _ => by rw [List.append_nil]; exact .refl _
  | s :: r, K, hr => by
    have k1 := (conn_step h (K := K) (hr s List.mem_cons_self)).app (Conn.refl r)
    have k2 := conn_fold h (r := r) (K := step (hearOf m cs) K s) fun x hx => hr x (List.mem_cons_of_mem _ hx)
    simp at k1
    exact k1.trans k2
theorem conn_sw (h : ∀ c ∈ cs, c.ok m) : ∀ {u v : List Nat}, Sw (hearOf m cs).lo u v → Conn cs u v
  | [], v, s => by rw [s.nil]; exact .refl _
  | a :: u, v, s => by
    obtain ⟨p, q, f⟩ := s.front
    have k := conn_sw h (s.trans (f.pull lo_sym)).tail
    have k1 := (conn_lead h (a := a) (q := p) fun o ho => (f.2 o ho).2).app (Conn.refl q)
    have k2 := (Conn.refl [a]).app k
    rw [f.1]
    simp at k1 k2
    exact k2.trans k1.symm
/-- a step changes nothing -/
theorem step_same_rows (h : ∀ c ∈ cs, c.ok m) {c : Ch} (hc : c ∈ cs) (K : List Nat) : Sw (hearOf m cs).lo (c.rows.1.foldl (step (hearOf m cs)) K) (c.rows.2.foldl (step (hearOf m cs)) K) := by
  have L := lot_first h
  cases c with
  | held s =>
    have hs : s < m := ok_lt h hc
    show Sw _ (step _ K s) (step _ (step _ K s) s)
    rw [step_held ((held_iff (L.w.at hs).2.1).mpr ⟨s, rfl, hc⟩)]
    exact Sw.refl
  | idle s =>
    have hs : s < m := ok_lt h hc
    show Sw _ K (step _ K s)
    rw [step_idle ((idle_iff (L.w.at hs).2.1).mpr ⟨s, rfl, hc⟩)]
    exact Sw.refl
  | loose s t => exact step_loose lo_sym (lo_iff.mpr ⟨s, t, hc, .inl ⟨rfl, rfl⟩⟩)
  | same s t =>
    show Sw _ (step _ K s) (step _ K t)
    rw [step_same (W := hearOf m cs) (show (hearOf m cs).f s = (hearOf m cs).f t from L.ed s t hc)]
    exact Sw.refl
theorem kept_conn (h : ∀ c ∈ cs, c.ok m) {u v : List Nat} (k : Conn cs u v) : Sw (hearOf m cs).lo (kept (hearOf m cs) u) (kept (hearOf m cs) v) := by
  induction k with
  | refl => exact Sw.refl
  | symm _ ih => exact ih.symm
  | trans _ _ i1 i2 => exact i1.trans i2
  | step hc x y =>
    unfold kept
    rw [List.foldl_append, List.foldl_append, List.foldl_append, List.foldl_append]
    exact fold_sw lo_sym (step_same_rows h hc _)
/-- rows are kin exactly if steps lead from the one to the other -/
theorem kin_iff (h : ∀ c ∈ cs, c.ok m) {u v : List Nat} (hu : Below m u) (hv : Below m v) : kinB m cs u v = true ↔ Conn cs u v := by
  unfold kinB
  rw [decide_eq_true_eq, nf_iff lo_sym]
  constructor
  · intro s
    have k1 := conn_fold h (K := []) hu
    have k2 := conn_fold h (K := []) hv
    exact (k1.trans (conn_sw h s)).trans k2.symm
  · exact kept_conn h
end
end Hd
set_option Elab.async false
set_option linter.all false
set_option maxRecDepth 100000
set_option maxHeartbeats 2000000
/-! P3: the law's kin is the program's. -/
namespace Hd
open PySem PySem.Spec PyProof.Rows L2 Vd
theorem countP_lt {α : Type} {p q : α → Bool} : ∀ {l : List α}, (∀ x ∈ l, p x = true → q x = true) → (∃ x ∈ l, q x = true ∧ p x = false) → l.countP p + 1 ≤ l.countP q
  | [], _, ⟨_, h, _⟩ => by cases h
  | a :: l, h, ⟨x, hx, h1, h2⟩ => by
    rw [List.countP_cons, List.countP_cons]
    have hl : ∀ x ∈ l, p x = true → q x = true := fun x hx => h x (List.mem_cons_of_mem _ hx)
    rcases List.mem_cons.mp hx with rfl | hx
    · have := List.countP_mono_left hl
      rw [if_pos h1, if_neg (by rw [h2]; simp)]
      omega
    · have := countP_lt hl ⟨x, hx, h1, h2⟩
      have h3 := h a List.mem_cons_self
      by_cases c : p a = true
      · rw [if_pos c, if_pos (h3 c)]; omega
      · rw [if_neg c]; omega
theorem gN_set {l : List Nat} {s v x : Nat} (h : s < l.length) : gN (l.set s x) v = if v = s then x else gN l v := by
  simp only [gN, List.getD_eq_getElem?_getD, List.getElem?_set]
  by_cases e : v = s
  · subst e; simp [h]
  · simp [e, Ne.symm e]
structure LI (m : Nat) (f l : List Nat) : Prop where
  n : l.length = m
  f : ∀ v, v < m → gN l v < m ∧ gN f (gN l v) = gN f v
section
variable {m : Nat} {cs : List Ch} {f : List Nat}
theorem LI.ge (L : LotF m cs f) {l : List Nat} (w : LI m f l) {v : Nat} (hv : v < m) : gN f v ≤ gN l v := by
  obtain ⟨h1, h2⟩ := w.f v hv
  rw [← h2]; exact L.le _ h1
theorem relax_at {l : List Nat} {s t v : Nat} (hs : s < l.length) (ht : t < l.length) : gN (relax l (.same s t)) v = if v = s ∨ v = t then min (gN l s) (gN l t) else gN l v := by
  show gN (if gN l s = gN l t then l else (l.set s (min (gN l s) (gN l t))).set t (min (gN l s) (gN l t))) v = _
  by_cases e : gN l s = gN l t
  · rw [if_pos e]
    split
    · rename_i h
      rcases h with rfl | rfl
      · rw [e, Nat.min_self]
      · rw [e, Nat.min_self]
    · rfl
  · rw [if_neg e, gN_set (by simpa using ht), gN_set hs]
    by_cases c1 : v = t
    · simp [c1]
    · by_cases c2 : v = s
      · simp [c2]
      · simp [c1, c2]
theorem relax_step (L : LotF m cs f) (h : ∀ c ∈ cs, c.ok m) {c : Ch} (hc : c ∈ cs) {l : List Nat} (w : LI m f l) : LI m f (relax l c) ∧ (∀ v, v < m → gN (relax l c) v ≤ gN l v) ∧ ∀ s t, c = .same s t → gN (relax l c) s = min (gN l s) (gN l t) ∧ gN (relax l c) t = min (gN l s) (gN l t) := by
  have triv : (∀ s t, c ≠ .same s t) → relax l c = l → LI m f (relax l c) ∧ (∀ v, v < m → gN (relax l c) v ≤ gN l v) ∧ ∀ s t, c = .same s t → gN (relax l c) s = min (gN l s) (gN l t) ∧ gN (relax l c) t = min (gN l s) (gN l t) := fun h1 h2 => by
    rw [h2]
    exact ⟨w, fun _ _ => Nat.le_refl _, fun s t e => absurd e (h1 s t)⟩
  cases c with
  | same s t =>
    obtain ⟨hs, ht⟩ : s < m ∧ t < m := h _ hc
    have e := fun v => relax_at (l := l) (s := s) (t := t) (v := v) (by rw [w.n]; exact hs) (by rw [w.n]; exact ht)
    have ed := L.ed s t hc
    obtain ⟨a1, a2⟩ := w.f s hs
    obtain ⟨b1, b2⟩ := w.f t ht
    refine ⟨⟨by rw [relax_len]; exact w.n, fun v hv => ?_⟩, fun v hv => ?_, fun x y hxy => ?_⟩
    · rw [e v]
      split
      · rename_i hc2
        have fv : gN f v = gN f s := by rcases hc2 with rfl | rfl <;> simp [ed]
        rcases Nat.le_total (gN l s) (gN l t) with q | q
        · rw [Nat.min_eq_left q, fv]; exact ⟨a1, a2⟩
        · rw [Nat.min_eq_right q, fv, ed]; exact ⟨b1, b2⟩
      · exact w.f v hv
    · rw [e v]
      split
      · rename_i hc2
        rcases hc2 with rfl | rfl <;> omega
      · exact Nat.le_refl _
    · cases hxy
      rw [e, e]; simp
  | held s => exact triv (fun _ _ => nofun) rfl
  | idle s => exact triv (fun _ _ => nofun) rfl
  | loose s t => exact triv (fun _ _ => nofun) rfl
theorem lap_step (L : LotF m cs f) (h : ∀ c ∈ cs, c.ok m) : ∀ {ds : List Ch} {l : List Nat}, (∀ c ∈ ds, c ∈ cs) → LI m f l → LI m f (ds.foldl relax l) ∧ (∀ v, v < m → gN (ds.foldl relax l) v ≤ gN l v) ∧
    ∀ a s t, .same s t ∈ ds → gN f a = a → (gN l s = a ∨ gN l t = a) → gN (ds.foldl relax l) s = a ∧ gN (ds.foldl relax l) t = a
  | [], l, _, w => ⟨w, fun _ _ => Nat.le_refl _, fun _ _ _ hm => by cases hm⟩
  | c :: ds, l, hd, w => by
    obtain ⟨w1, m1, e1⟩ := relax_step L h (hd c List.mem_cons_self) w
    obtain ⟨w2, m2, e2⟩ := lap_step L h (ds := ds) (fun x hx => hd x (List.mem_cons_of_mem _ hx)) w1
    refine ⟨w2, fun v hv => Nat.le_trans (m2 v hv) (m1 v hv), fun a s t hm ha hl => ?_⟩
    obtain ⟨hs, ht⟩ : s < m ∧ t < m := h _ (hd _ hm)
    have ed := L.ed s t (hd _ hm)
    rw [List.foldl_cons]
    have fa : gN f s = a := by
      rcases hl with q | q
      · rw [← (w.f s hs).2, q, ha]
      · rw [ed, ← (w.f t ht).2, q, ha]
    have g1 := w.ge L hs
    have g2 := w.ge L ht
    rw [← ed] at g2
    have g3 := w2.ge L hs
    have g4 := w2.ge L ht
    rw [← ed] at g4
    rcases List.mem_cons.mp hm with e | hm2
    · obtain ⟨q1, q2⟩ := e1 s t e.symm
      have r1 := m2 s hs
      have r2 := m2 t ht
      omega
    · have r1 := m1 s hs
      have r2 := m1 t ht
      have g5 := w1.ge L hs
      have g6 := w1.ge L ht
      rw [← ed] at g6
      exact e2 a s t hm2 ha (by omega)
theorem laps_down (L : LotF m cs f) (h : ∀ c ∈ cs, c.ok m) : ∀ {n : Nat} {l : List Nat}, LI m f l → LI m f (laps cs n l) ∧ ∀ v, v < m → gN (laps cs n l) v ≤ gN l v
  | 0, l, w => ⟨w, fun _ _ => Nat.le_refl _⟩
  | n + 1, l, w => by
    obtain ⟨w1, m1, _⟩ := lap_step L h (ds := cs) (fun _ h => h) w
    obtain ⟨w2, m2⟩ := laps_down L h (n := n) w1
    exact ⟨w2, fun v hv => Nat.le_trans (m2 v hv) (m1 v hv)⟩
def cnt (m a : Nat) (l : List Nat) : Nat := (List.range m).countP fun v => decide (gN l v = a)
theorem laps_done (L : LotF m cs f) (h : ∀ c ∈ cs, c.ok m) {a : Nat} (ha : gN f a = a) (ham : a < m) : ∀ {n : Nat} {l : List Nat}, LI m f l → gN l a = a → m < cnt m a l + n → ∀ v, v < m → gN f v = a → gN (laps cs n l) v = a
  | 0, l, w, hl, hn, v, hv, e => by
    have : cnt m a l ≤ m := by
      unfold cnt
      have := List.countP_le_length (p := fun v => decide (gN l v = a)) (l := List.range m)
      simpa using this
    omega
  | n + 1, l, w, hl, hn, v, hv, e => by
    obtain ⟨w1, m1, e1⟩ := lap_step L h (ds := cs) (fun _ h => h) w
    by_cases c : ∀ s t, .same s t ∈ cs → (gN l s = a ↔ gN l t = a)
    · have k := (L.cl (fun x => gN l x = a) c v hv).mp (by rw [e]; exact hl)
      obtain ⟨w2, m2⟩ := laps_down L h (n := n + 1) w
      have := m2 v hv
      have := w2.ge L hv
      omega
    · refine laps_done L h ha ham (n := n) w1 ?_ ?_ v hv e
      · have := m1 a ham
        have := w1.ge L ham
        show gN (lap cs l) a = a
        unfold lap
        omega
      · have : cnt m a l + 1 ≤ cnt m a (lap cs l) := by
          unfold cnt
          refine countP_lt (fun x hx q => ?_) ?_
          · have hx := List.mem_range.mp hx
            simp only [decide_eq_true_eq] at q ⊢
            have h1 := m1 x hx
            have h2 := w1.ge L hx
            have h3 := (w.f x hx).2
            rw [q, ha] at h3
            show gN (cs.foldl relax l) x = a
            omega
          · obtain ⟨s, t, hm, hne⟩ : ∃ s t, .same s t ∈ cs ∧ ¬(gN l s = a ↔ gN l t = a) := by
              refine Classical.byContradiction fun hc => c fun s t hm => Classical.byContradiction fun hh => hc ⟨s, t, hm, hh⟩
            obtain ⟨hs, ht⟩ : s < m ∧ t < m := h _ hm
            by_cases q : gN l s = a
            · have q2 : ¬ gN l t = a := fun z => hne ⟨fun _ => z, fun _ => q⟩
              exact ⟨t, List.mem_range.mpr ht, decide_eq_true (e1 a s t hm ha (.inl q)).2, decide_eq_false q2⟩
            · have q2 : gN l t = a := Classical.byContradiction fun z => hne ⟨fun y => absurd y q, fun y => absurd y z⟩
              exact ⟨s, List.mem_range.mpr hs, decide_eq_true (e1 a s t hm ha (.inr q2)).1, decide_eq_false q⟩
        show m < cnt m a (lap cs l) + n
        omega
theorem lots_eq (h : ∀ c ∈ cs, c.ok m) : lawLots m cs = hFirst m cs := by
  have L := lot_first h
  have w0 : LI m (hFirst m cs) (List.range m) := ⟨by simp, fun v hv => by rw [gN_range hv]; exact ⟨hv, rfl⟩⟩
  have len1 : (lawLots m cs).length = m := by unfold lawLots; rw [laps_len]; simp
  refine List.ext_getElem? fun v => ?_
  by_cases hv : v < m
  · obtain ⟨q1, q2, q3⟩ := L.w.at hv
    have ha : gN (hFirst m cs) (gN (hFirst m cs) v) = gN (hFirst m cs) v := gN_of q3
    have := laps_done L h ha q2 (n := m) w0 (gN_range q2) (by
      have : 0 < cnt m (gN (hFirst m cs) v) (List.range m) := by
        unfold cnt
        rw [List.countP_pos_iff]
        exact ⟨gN (hFirst m cs) v, by simpa using q2, by simpa using gN_range q2⟩
      omega) v hv rfl
    rw [q1]
    have hl : v < (lawLots m cs).length := by rw [len1]; exact hv
    rw [List.getElem?_eq_getElem hl]
    congr 1
    have e2 : gN (lawLots m cs) v = (lawLots m cs)[v] := by simp [gN, List.getD_eq_getElem?_getD, hl]
    rw [← e2]; exact this
  · rw [List.getElem?_eq_none (by omega), List.getElem?_eq_none (by have := L.w.1; omega)]
end
/-! ### marks -/
theorem has_put {d : Mk} {k x : List Key} {v : D} : has (putD d k v) x = true ↔ x = k ∨ has d x = true := dGet_put
theorem lIdle_iff {l : List Nat} {a : Nat} : ∀ {cs : List Ch} {d : Mk}, lIdle (cs.foldl (mark l) d) a = true ↔ lIdle d a = true ∨ ∃ s, gN l s = a ∧ .idle s ∈ cs
  | [], d => by simp
  | c :: cs, d => by
    rw [List.foldl_cons, lIdle_iff (cs := cs)]
    cases c with
    | idle s =>
      unfold lIdle mark
      rw [has_put]
      simp only [List.cons.injEq, Sum.inl.injEq, and_true, List.mem_cons, Ch.idle.injEq, true_and]
      constructor
      · rintro ((h | h) | ⟨t, h1, h2⟩)
        · exact .inr ⟨s, by omega, .inl rfl⟩
        · exact .inl h
        · exact .inr ⟨t, h1, .inr h2⟩
      · rintro (h | ⟨t, h1, rfl | h2⟩)
        · exact .inl (.inr h)
        · exact .inl (.inl (by omega))
        · exact .inr ⟨t, h1, h2⟩
    | held s => unfold lIdle mark; rw [has_put]; simp
    | same s t => unfold lIdle mark; rw [has_put]; simp
    | loose s t => unfold lIdle mark; rw [has_put, has_put]; simp
theorem lHeld_iff {l : List Nat} {a : Nat} : ∀ {cs : List Ch} {d : Mk}, lHeld (cs.foldl (mark l) d) a = true ↔ lHeld d a = true ∨ ∃ s, gN l s = a ∧ .held s ∈ cs
  | [], d => by simp
  | c :: cs, d => by
    rw [List.foldl_cons, lHeld_iff (cs := cs)]
    cases c with
    | held s =>
      unfold lHeld mark
      rw [has_put]
      simp only [List.cons.injEq, Sum.inl.injEq, and_true, List.mem_cons, Ch.held.injEq, true_and]
      constructor
      · rintro ((h | h) | ⟨t, h1, h2⟩)
        · exact .inr ⟨s, by omega, .inl rfl⟩
        · exact .inl h
        · exact .inr ⟨t, h1, .inr h2⟩
      · rintro (h | ⟨t, h1, rfl | h2⟩)
        · exact .inl (.inr h)
        · exact .inl (.inl (by omega))
        · exact .inr ⟨t, h1, h2⟩
    | idle s => unfold lHeld mark; rw [has_put]; simp
    | same s t => unfold lHeld mark; rw [has_put]; simp
    | loose s t => unfold lHeld mark; rw [has_put, has_put]; simp
theorem lLo_iff {l : List Nat} {a b : Nat} : ∀ {cs : List Ch} {d : Mk}, lLo (cs.foldl (mark l) d) a b = true ↔ lLo d a b = true ∨ ∃ s t, .loose s t ∈ cs ∧ (gN l s = a ∧ gN l t = b ∨ gN l s = b ∧ gN l t = a)
  | [], d => by simp
  | c :: cs, d => by
    rw [List.foldl_cons, lLo_iff (cs := cs)]
    cases c with
    | loose s t =>
      unfold lLo mark
      rw [has_put, has_put]
      simp only [List.cons.injEq, Sum.inl.injEq, and_true, List.mem_cons, Ch.loose.injEq, true_and]
      constructor
      · rintro ((⟨h1, h2⟩ | ⟨h1, h2⟩ | h) | ⟨x, y, h1, h2⟩)
        · exact .inr ⟨s, t, .inl ⟨rfl, rfl⟩, .inr ⟨by omega, by omega⟩⟩
        · exact .inr ⟨s, t, .inl ⟨rfl, rfl⟩, .inl ⟨by omega, by omega⟩⟩
        · exact .inl h
        · exact .inr ⟨x, y, .inr h1, h2⟩
      · rintro (h | ⟨x, y, ⟨rfl, rfl⟩ | h1, h2⟩)
        · exact .inl (.inr (.inr h))
        · rcases h2 with ⟨h2, h3⟩ | ⟨h2, h3⟩
          · exact .inl (.inr (.inl ⟨by omega, by omega⟩))
          · exact .inl (.inl ⟨by omega, by omega⟩)
        · exact .inr ⟨x, y, h1, h2⟩
    | held s => unfold lLo mark; rw [has_put]; simp
    | idle s => unfold lLo mark; rw [has_put]; simp
    | same s t => unfold lLo mark; rw [has_put]; simp
section
variable {m : Nat} {cs : List Ch}
abbrev lM (m : Nat) (cs : List Ch) : Mk := lawMarks (lawLots m cs) cs
theorem mk_i (h : ∀ c ∈ cs, c.ok m) {a : Nat} (ha : a < m) : lIdle (lM m cs) a = (hearOf m cs).i a := by
  apply Bool.eq_iff_iff.mpr
  unfold lM lawMarks
  rw [idle_iff ha, lIdle_iff, lots_eq h]
  simp [lIdle, has, dGet]
theorem mk_h (h : ∀ c ∈ cs, c.ok m) {a : Nat} (ha : a < m) : lHeld (lM m cs) a = (hearOf m cs).hd a := by
  apply Bool.eq_iff_iff.mpr
  unfold lM lawMarks
  rw [held_iff ha, lHeld_iff, lots_eq h]
  simp [lHeld, has, dGet]
theorem mk_lo (h : ∀ c ∈ cs, c.ok m) {a b : Nat} : lLo (lM m cs) a b = (hearOf m cs).lo a b := by
  apply Bool.eq_iff_iff.mpr
  unfold lM lawMarks
  rw [lo_iff, lLo_iff, lots_eq h]
  simp [lLo, has, dGet]
theorem scan_drop {W : Hear} {d : Mk} (hl : ∀ a b, lLo d a b = W.lo a b) {a : Nat} : ∀ {r : List Nat}, scan W a r = (match r.dropWhile (pw d a) with
    | [] => false
    | o :: _ => decide (o = a))
  | [] => rfl
  | o :: r => by
    rw [scan, List.dropWhile_cons]
    by_cases e : o = a
    · simp [pw, e]
    · cases q : W.lo o a with
      | true => simp [pw, e, hl, q, scan_drop hl (r := r)]
      | false => simp [pw, e, hl, q]
theorem lstep_eq (h : ∀ c ∈ cs, c.ok m) {K : List Nat} {s : Nat} (hs : s < m) : lstep (lawLots m cs) (lM m cs) K s = step (hearOf m cs) K s := by
  have ha := ((lot_first h).w.at hs).2.1
  unfold lstep step
  rw [lots_eq h]
  show (if lIdle _ (gN (hFirst m cs) s) = true then K else _) = (if ((hearOf m cs).i (gN (hFirst m cs) s) || ((hearOf m cs).hd (gN (hFirst m cs) s) && scan (hearOf m cs) (gN (hFirst m cs) s) K.reverse)) = true then K else K ++ [gN (hFirst m cs) s])
  rw [scan_drop (d := lM m cs) (fun a b => mk_lo h), mk_h h ha, mk_i h ha]
  cases hi : (hearOf m cs).i (gN (hFirst m cs) s) with
  | true => simp
  | false =>
    cases hh : (hearOf m cs).hd (gN (hFirst m cs) s) with
    | true =>
      generalize List.dropWhile (pw (lM m cs) (gN (hFirst m cs) s)) K.reverse = Z
      cases Z with
      | nil => simp
      | cons o r => simp
    | false =>
      generalize List.dropWhile (pw (lM m cs) (gN (hFirst m cs) s)) K.reverse = Z
      cases Z with
      | nil => simp
      | cons o r => simp
theorem lkept_eq (h : ∀ c ∈ cs, c.ok m) : ∀ {r K : List Nat}, Below m r → r.foldl (lstep (lawLots m cs) (lM m cs)) K = r.foldl (step (hearOf m cs)) K
  | [], _, _ => rfl
  | s :: r, K, hr => by
    rw [List.foldl_cons, List.foldl_cons, lstep_eq h (hr s List.mem_cons_self), lkept_eq h (r := r) fun x hx => hr x (List.mem_cons_of_mem _ hx)]
end
/-! ### cancelling -/
theorem rem_iff {lo : Nat → Nat → Bool} {a : Nat} : ∀ {v l : List Nat}, rem lo a v = some l ↔ ∃ p q, Fr lo a v p q ∧ l = p ++ q
  | [], l => by simp [rem, Fr]
  | o :: r, l => by
    unfold rem
    split
    · rename_i c
      subst c
      constructor
      · intro h; cases h; exact ⟨[], _, ⟨rfl, fun _ h => by cases h⟩, rfl⟩
      · rintro ⟨p, q, ⟨h1, h2⟩, h3⟩
        cases p with
        | nil => simp at h1; rw [h3, h1]; rfl
        | cons b p => simp at h1; exact absurd h1.1.symm (h2 b List.mem_cons_self).1
    · rename_i c
      split
      · rename_i c2
        cases q : rem lo a r with
        | none =>
          constructor
          · intro h; cases h
          · rintro ⟨p, q', ⟨h1, h2⟩, h3⟩
            cases p with
            | nil => simp at h1; exact absurd h1.1 c
            | cons b p =>
              simp at h1
              have := (rem_iff (v := r) (l := p ++ q')).mpr ⟨p, q', ⟨h1.2, fun z hz => h2 z (List.mem_cons_of_mem _ hz)⟩, rfl⟩
              rw [q] at this; cases this
        | some l' =>
          obtain ⟨p, q', ⟨h1, h2⟩, h3⟩ := rem_iff.mp q
          constructor
          · intro h
            cases h
            refine ⟨o :: p, q', ⟨by rw [h1]; rfl, fun z hz => ?_⟩, by rw [h3]; rfl⟩
            rcases List.mem_cons.mp hz with rfl | hz
            · exact ⟨c, c2⟩
            · exact h2 z hz
          · rintro ⟨p2, q2, ⟨g1, g2⟩, g3⟩
            cases p2 with
            | nil => simp at g1; exact absurd g1.1 c
            | cons b p2 =>
              simp at g1
              have := (rem_iff (v := r) (l := p2 ++ q2)).mpr ⟨p2, q2, ⟨g1.2, fun z hz => g2 z (List.mem_cons_of_mem _ hz)⟩, rfl⟩
              rw [q] at this
              cases this
              rw [g3, ← g1.1]; rfl
      · rename_i c2
        constructor
        · intro h; cases h
        · rintro ⟨p, q', ⟨h1, h2⟩, h3⟩
          cases p with
          | nil => simp at h1; exact absurd h1.1 c
          | cons b p => simp at h1; exact absurd (h2 b List.mem_cons_self).2 (by rw [← h1.1]; exact c2)
theorem cancel_iff {lo : Nat → Nat → Bool} (sy : Sym lo) : ∀ {u v : List Nat}, u.length = v.length → (cancel lo u v = true ↔ Sw lo u v)
  | [], v, h => by
    rw [List.length_nil] at h
    rw [List.length_eq_zero_iff.mp h.symm]
    simp [cancel, Sw.refl]
  | a :: u, v, h => by
    unfold cancel
    cases q : rem lo a v with
    | none =>
      constructor
      · intro z; cases z
      · intro s
        obtain ⟨p, r, f⟩ := s.front
        have := (rem_iff (l := p ++ r)).mpr ⟨p, r, f, rfl⟩
        rw [q] at this; cases this
    | some l =>
      obtain ⟨p, r, f, e⟩ := rem_iff.mp q
      show cancel lo u l = true ↔ _
      have hl : u.length = l.length := by rw [f.1] at h; rw [e]; simp at h ⊢; omega
      rw [cancel_iff sy hl]
      have pu := f.pull sy
      rw [← e] at pu
      constructor
      · intro s
        exact (Sw.app (u := [a]) (v := [a]) Sw.refl s).trans pu.symm
      · intro s
        exact (s.trans pu).tail
theorem mkin : MKin := fun m cs a b hm h ha hb => by
  apply Bool.eq_iff_iff.mpr
  unfold kinB lkin lalike
  have ea : lkept (lawLots m cs) (lawMarks (lawLots m cs) cs) a = kept (hearOf m cs) a := lkept_eq h ha
  have eb : lkept (lawLots m cs) (lawMarks (lawLots m cs) cs) b = kept (hearOf m cs) b := lkept_eq h hb
  have el : lLo (lawMarks (lawLots m cs) cs) = (hearOf m cs).lo := funext fun x => funext fun y => mk_lo h
  rw [decide_eq_true_eq, nf_iff lo_sym, ea, eb, el]
  split
  · rename_i c
    exact (cancel_iff lo_sym c).symm
  · rename_i c
    exact ⟨fun s => absurd (s.len lo_sym) c, fun z => by cases z⟩
/-! ### the three answers -/
theorem kin_mono {m : Nat} {cs cs' : List Ch} (h : ∀ c ∈ cs', c.ok m) (hs : ∀ c ∈ cs, c ∈ cs') {a b : List Nat} (ha : Below m a) (hb : Below m b) (k : kinB m cs a b = true) : kinB m cs' a b = true :=
  (kin_iff h ha hb).mpr (((kin_iff (fun c hc => h c (hs c hc)) ha hb).mp k).mono hs)
theorem strange_eq {m : Nat} {cs : List Ch} (hm : m ≤ 5) (h : ∀ c ∈ cs, c.ok m) : ∀ {ps : List Pr} {k : Nat}, (∀ p ∈ ps, Below m p.1 ∧ Below m p.2) → strangeL m cs k ps = ((List.range ps.length).filter fun i => !lkin m cs (prAt ps i).1 (prAt ps i).2).map (· + k)
  | [], k, _ => rfl
  | p :: ps, k, hp => by
    obtain ⟨h1, h2⟩ := hp p List.mem_cons_self
    rw [strangeL, strange_eq hm h (ps := ps) fun q hq => hp q (List.mem_cons_of_mem _ hq)]
    rw [List.length_cons, List.range_succ_eq_map, List.filter_cons, mkin m cs p.1 p.2 hm h h1 h2, List.filter_map, show prAt (p :: ps) 0 = p from rfl]
    have e : ((fun i => !lkin m cs (prAt (p :: ps) i).1 (prAt (p :: ps) i).2) ∘ Nat.succ) = fun i => !lkin m cs (prAt ps i).1 (prAt ps i).2 := by
      funext i; simp [prAt]
    rw [e]
    cases lkin m cs p.1 p.2 with
    | true =>
      simp
      intro a _ _; omega
    | false =>
      simp
      intro a _ _; omega
theorem kin_rfl {m : Nat} {cs : List Ch} {a : List Nat} : kinB m cs a a = true := by simp [kinB]
theorem erase_in {cs : List Ch} {k : Nat} : ∀ c ∈ cs.eraseIdx k, c ∈ cs := fun c hc => by
  exact (List.eraseIdx_sublist cs k).mem hc
theorem mbook {m : Nat} {cs : List Ch} {ps : List Pr} (hm : m ≤ 5) (h : ∀ c ∈ cs, c.ok m) (he : ∀ c ∈ every m, c.ok m) (hp : ∀ p ∈ ps, Below m p.1 ∧ Below m p.2) : MBook m cs ps := by
  have s0 : strangeL m cs 0 ps = lstr m cs ps := by
    rw [strange_eq hm h hp]
    simp [lstr]
  have atp : ∀ i, i < ps.length → prAt ps i ∈ ps := fun i hi => by
    simp [prAt, List.getD_eq_getElem?_getD, hi]
  refine ⟨s0, ?_, ?_⟩
  · unfold explL lexpl
    apply List.filter_congr
    intro c hc
    have hc' : ∀ x ∈ cs ++ [c], x.ok m := fun x hx => by
      rcases List.mem_append.mp hx with z | z
      · exact h x z
      · rw [List.mem_singleton.mp z]; exact he c hc
    apply Bool.eq_iff_iff.mpr
    rw [List.all_eq_true, List.all_eq_true]
    constructor
    · intro q p hpm
      obtain ⟨i, hi, rfl⟩ := List.mem_map.mp hpm
      have him := (List.mem_filter.mp hi).1
      have hpi := atp i (List.mem_range.mp him)
      rw [← mkin m _ _ _ hm hc' (hp _ hpi).1 (hp _ hpi).2]
      exact q _ hpi
    · intro q p hpm
      cases hk : kinB m cs p.1 p.2 with
      | true => exact kin_mono hc' (fun x hx => List.mem_append_left _ hx) (hp p hpm).1 (hp p hpm).2 hk
      | false =>
        obtain ⟨i, hi, e⟩ := List.mem_iff_getElem.mp hpm
        have hpi : prAt ps i = p := by simp [prAt, List.getD_eq_getElem?_getD, hi, e]
        rw [mkin m _ _ _ hm hc' (hp p hpm).1 (hp p hpm).2]
        refine q p (List.mem_map.mpr ⟨i, ?_, hpi⟩)
        unfold lstr
        rw [List.mem_filter]
        refine ⟨List.mem_range.mpr hi, ?_⟩
        rw [hpi, ← mkin m cs _ _ hm h (hp p hpm).1 (hp p hpm).2, hk]
        rfl
  · unfold needL lneed
    apply List.filter_congr
    intro k hk
    apply Bool.eq_iff_iff.mpr
    rw [decide_eq_true_eq, decide_eq_true_eq, List.length_pos_iff]
    have h' : ∀ c ∈ cs.eraseIdx k, c.ok m := fun c hc => h c (erase_in c hc)
    constructor
    · intro ne
      obtain ⟨p, hpm, hne⟩ : ∃ p ∈ ps, kinB m cs p.1 p.2 ≠ kinB m (cs.eraseIdx k) p.1 p.2 := by
        refine Classical.byContradiction fun hc => ne ?_
        unfold kins
        apply List.map_congr_left
        intro p hpm
        exact Classical.byContradiction fun hh => hc ⟨p, hpm, hh⟩
      obtain ⟨b1, b2⟩ := hp p hpm
      have k1 : kinB m (cs.eraseIdx k) p.1 p.2 = false := by
        cases q : kinB m (cs.eraseIdx k) p.1 p.2 with
        | false => rfl
        | true => exact absurd (by rw [q, kin_mono h erase_in b1 b2 q]) hne
      have k2 : kinB m cs p.1 p.2 = true := by
        cases q : kinB m cs p.1 p.2 with
        | true => rfl
        | false => rw [q, k1] at hne; exact absurd rfl hne
      refine List.ne_nil_of_mem (a := p) ?_
      rw [List.mem_filter]
      unfold lheard
      rw [List.mem_filter]
      refine ⟨⟨hpm, ?_⟩, ?_⟩
      · rw [Bool.and_eq_true, decide_eq_true_eq]
        refine ⟨fun e => ?_, by rw [← mkin m cs _ _ hm h b1 b2]; exact k2⟩
        rw [e, kin_rfl] at k1; cases k1
      · rw [← mkin m _ _ _ hm h' b1 b2, k1]; rfl
    · intro ne e
      obtain ⟨p, hp2⟩ := List.exists_mem_of_ne_nil _ ne
      rw [List.mem_filter] at hp2
      obtain ⟨hp1, hp3⟩ := hp2
      unfold lheard at hp1
      rw [List.mem_filter] at hp1
      obtain ⟨hpm, hp4⟩ := hp1
      obtain ⟨b1, b2⟩ := hp p hpm
      rw [Bool.and_eq_true, ← mkin m cs _ _ hm h b1 b2] at hp4
      rw [← mkin m _ _ _ hm h' b1 b2] at hp3
      have : kinB m cs p.1 p.2 = kinB m (cs.eraseIdx k) p.1 p.2 := by
        unfold kins at e
        exact List.map_inj_left.mp e p hpm
      rw [← this, hp4.2] at hp3
      cases hp3
end Hd
set_option Elab.async false
set_option linter.all false
set_option maxRecDepth 100000
set_option maxHeartbeats 2000000
/-! M6a: the two ends of a change. -/
namespace Hd
open PySem PySem.Spec PyProof.Rows L2 Vd
def wE6 : WS := (wsSet 6 (wNew (wLst (waCons (wNew (wLst (waCons (wTup (waCons (w2 kIx (wVar 5) (wK (.int 1))) waNil)) (waCons (wTup (waCons (w2 kIx (wVar 5) (wK (.int 1))) (waCons (w2 kIx (wVar 5) (wK (.int 1))) waNil))) waNil)))) (waCons (wNew (wLst (waCons (wTup waNil) (waCons (wTup (waCons (w2 kIx (wVar 5) (wK (.int 1))) waNil)) waNil)))) (waCons (wNew (wLst (waCons (wTup (waCons (w2 kIx (wVar 5) (wK (.int 1))) waNil)) (waCons (wTup (waCons (w2 kIx (wVar 5) (w2 kSub (wBlt kLen (waCons (wVar 5) waNil)) (wK (.int 1)))) waNil)) waNil)))) waNil))))))
def wE6i : WS := (wsIf (wTst (w2 kEq (w2 kIx (wVar 5) (wK (.int 0))) (wK (.str "loose")))) (wsExpr (wLM kAppend (wVar 6) (waCons (wNew (wLst (waCons (wTup (waCons (w2 kIx (wVar 5) (wK (.int 1))) (waCons (w2 kIx (wVar 5) (wK (.int 2))) waNil))) (waCons (wTup (waCons (w2 kIx (wVar 5) (wK (.int 2))) (waCons (w2 kIx (wVar 5) (wK (.int 1))) waNil))) waNil)))) waNil))) wsNext)
def wE7 : WS := (wsSet 7 (w2 kIx (wVar 6) (wLM kIndex (wNew (wLst (waCons (wK (.str "held")) (waCons (wK (.str "idle")) (waCons (wK (.str "same")) (waCons (wK (.str "loose")) waNil)))))) (waCons (w2 kIx (wVar 5) (wK (.int 0))) waNil))))

theorem kIx_at {T : Sto} {p i : Nat} {xs : List D} {d : D} {P : D → Sto → Prop} (h : T[p]? = some (.lst xs)) (hx : xs[i]? = some d) (q : P d T) : kIx (.ob p) (.int (i : Int)) T P := by
  simp only [kIx, h, atD_nat hx]; exact q
def kindsD : List D := [.str "held", .str "idle", .str "same", .str "loose"]
theorem kIndex_kinds {T : Sto} {p : Nat} {Q : D → Sto → Prop} (i : Nat) (hT : T[p]? = some (.lst kindsD)) (hi : i < 4) (q : Q (.int (i : Nat)) T) : kIndex (.ob p) [kindsD.getD i .non] T Q := by
  simp only [kIndex, lstOf, hT]
  rcases i with _ | _ | _ | _ | i
  · refine ⟨⟨by decide +kernel, by decide +kernel⟩, 0, _, rfl, by decide +kernel, fun m z hm => by omega, q⟩
  · refine ⟨⟨by decide +kernel, by decide +kernel⟩, 1, _, rfl, by decide +kernel, fun m z hm hz => ?_, q⟩
    obtain rfl : m = 0 := by omega
    cases hz; decide +kernel
  · refine ⟨⟨by decide +kernel, by decide +kernel⟩, 2, _, rfl, by decide +kernel, fun m z hm hz => ?_, q⟩
    obtain rfl | rfl : m = 0 ∨ m = 1 := by omega
    · cases hz; decide +kernel
    · cases hz; decide +kernel
  · refine ⟨⟨by decide +kernel, by decide +kernel⟩, 3, _, rfl, by decide +kernel, fun m z hm hz => ?_, q⟩
    obtain rfl | rfl | rfl : m = 0 ∨ m = 1 ∨ m = 2 := by omega
    · cases hz; decide +kernel
    · cases hz; decide +kernel
    · cases hz; decide +kernel
  · omega
theorem fin_ends {s1 G : Sto} {gi gp i : Nat} {xs : List D} {d : D} {Q : D → Sto → Prop} (hk : G[gi]? = some (.lst kindsD)) (hx : G[gp]? = some (.lst xs)) (hd : xs[i]? = some d) (hi : i < 4) (q : Q d (s1 ++ G)) :
    isLst (s1 ++ G) (.ob (s1.length + gi)) ∧ kIndex (.ob (s1.length + gi)) [kindsD.getD i .non] (s1 ++ G) fun y s2 => kIx (.ob (s1.length + gp)) y s2 Q :=
  have hk' : (s1 ++ G)[s1.length + gi]? = some (.lst kindsD) := by rw [get_new]; exact hk
  ⟨isLst_at hk', kIndex_kinds i hk' hi (kIx_at (by rw [get_new]; exact hx) hd q)⟩
theorem ends_held {s1 : Sto} {W : WEnds} {e0 e1 e2 e3 e4 o6 o7 o8 o9 o10 o11 o12 : Option D} {a : Nat}
    (H : ∀ (G : Sto) (j i : Nat) (A B : List Nat), (s1 ++ G)[j]? = some (.lst [dRow A, dRow B]) → (A, B) = (Ch.held a).rows → W.nx [e0, e1, e2, e3, e4, some (Ch.held a).d, some (.ob i), some (.ob j), o8, o9, o10, o11, o12] (s1 ++ G)) :
    wsSeq wE6 (wsSeq wE6i wE7) W [e0, e1, e2, e3, e4, some (Ch.held a).d, o6, o7, o8, o9, o10, o11, o12] s1 := by
  simp only [wE6, wE6i, wE7, Ch.d, ↓wsSeq, ↓wsSet, ↓wNew, ↓wLst, ↓waCons, ↓waNil, ↓wTup, ↓w2, ↓wVar, ↓wK, ↓kIx_tup, ↓atD0, ↓atD1, ↓atD2, ↓List.getElem?_cons_succ, ↓List.getElem?_cons_zero, ↓wBlt, kLen, lenD, ↓kSub, ↓kI_int, ↓kI0_int, ↓wsIf, ↓wTst, ↓kEq_str, ↓wsExpr, ↓wLM, ↓wsNext, List.set_cons_succ, List.set_cons_zero, List.length_cons, List.length_nil]
  simp
  refine fin_ends (i := 0) rfl rfl rfl (by decide) ?_
  exact H _ (s1.length) _ _ _ (by rw [get_new0]; rfl) rfl
theorem ends_idle {s1 : Sto} {W : WEnds} {e0 e1 e2 e3 e4 o6 o7 o8 o9 o10 o11 o12 : Option D} {a : Nat}
    (H : ∀ (G : Sto) (j i : Nat) (A B : List Nat), (s1 ++ G)[j]? = some (.lst [dRow A, dRow B]) → (A, B) = (Ch.idle a).rows → W.nx [e0, e1, e2, e3, e4, some (Ch.idle a).d, some (.ob i), some (.ob j), o8, o9, o10, o11, o12] (s1 ++ G)) :
    wsSeq wE6 (wsSeq wE6i wE7) W [e0, e1, e2, e3, e4, some (Ch.idle a).d, o6, o7, o8, o9, o10, o11, o12] s1 := by
  simp only [wE6, wE6i, wE7, Ch.d, ↓wsSeq, ↓wsSet, ↓wNew, ↓wLst, ↓waCons, ↓waNil, ↓wTup, ↓w2, ↓wVar, ↓wK, ↓kIx_tup, ↓atD0, ↓atD1, ↓atD2, ↓List.getElem?_cons_succ, ↓List.getElem?_cons_zero, ↓wBlt, kLen, lenD, ↓kSub, ↓kI_int, ↓kI0_int, ↓wsIf, ↓wTst, ↓kEq_str, ↓wsExpr, ↓wLM, ↓wsNext, List.set_cons_succ, List.set_cons_zero, List.length_cons, List.length_nil]
  simp
  refine fin_ends (i := 1) rfl rfl rfl (by decide) ?_
  exact H _ (s1.length + 1) _ _ _ (by rw [get_new]; rfl) rfl
theorem ends_same {s1 : Sto} {W : WEnds} {e0 e1 e2 e3 e4 o6 o7 o8 o9 o10 o11 o12 : Option D} {a b : Nat}
    (H : ∀ (G : Sto) (j i : Nat) (A B : List Nat), (s1 ++ G)[j]? = some (.lst [dRow A, dRow B]) → (A, B) = (Ch.same a b).rows → W.nx [e0, e1, e2, e3, e4, some (Ch.same a b).d, some (.ob i), some (.ob j), o8, o9, o10, o11, o12] (s1 ++ G)) :
    wsSeq wE6 (wsSeq wE6i wE7) W [e0, e1, e2, e3, e4, some (Ch.same a b).d, o6, o7, o8, o9, o10, o11, o12] s1 := by
  simp only [wE6, wE6i, wE7, Ch.d, ↓wsSeq, ↓wsSet, ↓wNew, ↓wLst, ↓waCons, ↓waNil, ↓wTup, ↓w2, ↓wVar, ↓wK, ↓kIx_tup, ↓atD0, ↓atD1, ↓atD2, ↓List.getElem?_cons_succ, ↓List.getElem?_cons_zero, ↓wBlt, kLen, lenD, ↓kSub, ↓kI_int, ↓kI0_int, ↓wsIf, ↓wTst, ↓kEq_str, ↓wsExpr, ↓wLM, ↓wsNext, List.set_cons_succ, List.set_cons_zero, List.length_cons, List.length_nil]
  simp
  refine fin_ends (i := 2) rfl rfl rfl (by decide) ?_
  exact H _ (s1.length + 2) _ _ _ (by rw [get_new]; rfl) rfl
theorem ends_loose {s1 : Sto} {W : WEnds} {e0 e1 e2 e3 e4 o6 o7 o8 o9 o10 o11 o12 : Option D} {a b : Nat}
    (H : ∀ (G : Sto) (j i : Nat) (A B : List Nat), (s1 ++ G)[j]? = some (.lst [dRow A, dRow B]) → (A, B) = (Ch.loose a b).rows → W.nx [e0, e1, e2, e3, e4, some (Ch.loose a b).d, some (.ob i), some (.ob j), o8, o9, o10, o11, o12] (s1 ++ G)) :
    wsSeq wE6 (wsSeq wE6i wE7) W [e0, e1, e2, e3, e4, some (Ch.loose a b).d, o6, o7, o8, o9, o10, o11, o12] s1 := by
  simp only [wE6, wE6i, wE7, Ch.d, ↓wsSeq, ↓wsSet, ↓wNew, ↓wLst, ↓waCons, ↓waNil, ↓wTup, ↓w2, ↓wVar, ↓wK, ↓kIx_tup, ↓atD0, ↓atD1, ↓atD2, ↓List.getElem?_cons_succ, ↓List.getElem?_cons_zero, ↓wBlt, kLen, lenD, ↓kSub, ↓kI_int, ↓kI0_int, ↓wsIf, ↓wTst, ↓kEq_str, ↓wsExpr, ↓wLM, ↓wsNext, List.set_cons_succ, List.set_cons_zero, List.length_cons, List.length_nil]
  simp
  have ap : ∀ (g : Sto) (xs : List D) (d : D) (R : D → Sto → Prop), g[3]? = some (.lst xs) → xs.length < 100000 → R .non (s1 ++ g.set 3 (.lst (xs ++ [d]))) → kAppend (.ob (s1.length + 3)) [d] (s1 ++ g) R := fun g xs d R h1 h2 h3 => by
    rw [kAppend_at (xs := xs) (by rw [get_new]; exact h1), set_new]
    exact ⟨h2, h3⟩
  refine ⟨isLst_at (by rw [get_new]; rfl), ap _ _ _ _ rfl (by simp) ?_⟩
  simp
  refine (fin_ends (i := 3) rfl rfl rfl (by decide) ?_).2
  exact H _ (s1.length + 4) _ _ _ (by rw [get_new]; rfl) rfl
end Hd
set_option Elab.async false
set_option linter.all false
set_option maxRecDepth 100000
set_option maxHeartbeats 2000000
/-! M6b: a step is tried at each place. -/
namespace Hd
open PySem PySem.Spec PyProof.Rows L2 Vd
def wE8 : WS := (wsSet 8 (wCall 2 spPour (waCons (wVar 0) (waCons (wK (.int 2)) waNil))))
def wE9 : WS := (wsSet 9 (w2 kIx (wVar 7) (wVar 8)))
def wE10 : WS := (wsSet 10 (wCall 2 spPour (waCons (wVar 0) (waCons (w2 kAdd (wBlt kLen (waCons (wVar 2) waNil)) (wK (.int 1))) waNil))))
def wEf : WS := (wsFor (wiTmp (wCat (wRg2 (wVar 10) (w2 kAdd (wBlt kLen (waCons (wVar 2) waNil)) (wK (.int 1)))) (wRg1 (wVar 10)))) (wgName 11) (wsSeq (wsSet 12 (w2 kAdd (w2 kAdd (wSl (wVar 2) woNone (woSome (wVar 11))) (w2 kIx (wVar 7) (w2 kSub (wK (.int 1)) (wVar 8)))) (wSl (wVar 2) (woSome (w2 kAdd (wVar 11) (wBlt kLen (waCons (wVar 9) waNil)))) woNone)))
          (wsIf (wAnd (wTst (w2 kEq (wSl (wVar 2) (woSome (wVar 11)) (woSome (w2 kAdd (wVar 11) (wBlt kLen (waCons (wVar 9) waNil))))) (wVar 9))) (wTst (w2 kLe (wBlt kLen (waCons (wVar 12) waNil)) (wK (.int 12))))) (wsSeq (wsSet 2 (wVar 12))
              wsBrk) wsNext)))
/-- the place loop -/
theorem place_loop {st : Sto} {m : Nat} {r : List Nat} {body : WS} {W : WEnds} {E : Option D → Option D → Option D → Env'} (hr : Below m r) (hl : r.length ≤ 12)
    (hb : ∀ (i : Nat) (o11 o12 : Option D) (V : WEnds), (∀ o12 : Option D, V.nx (E (some (dRow r)) (some (.int i)) o12) st) → (∀ (r2 : List Nat) (o12 : Option D), Below m r2 → r2.length ≤ 12 → V.bk (E (some (dRow r2)) (some (.int i)) o12) st) → body V (E (some (dRow r)) (some (.int i)) o12) st)
    (hg : ∀ (i : Nat) o11 o12, (E (some (dRow r)) o11 o12).set 11 (some (.int i)) = E (some (dRow r)) (some (.int i)) o12)
    (hn : ∀ (r2 : List Nat) o11 o12, Below m r2 → r2.length ≤ 12 → W.nx (E (some (dRow r2)) o11 o12) st) (l : List Nat) (o11 o12 : Option D) :
    wLoop (wgName 11) body (fun _ => True) (dInts l) W (E (some (dRow r)) o11 o12) st := by
  refine loop_ind (fun ds env s => ∃ (q : List Nat) (o11 o12 : Option D), ds = dInts q ∧ s = st ∧ env = E (some (dRow r)) o11 o12) (fun env s ⟨q, o11, o12, e1, e2, e3⟩ => ?_) (fun d ds env s ⟨q, o11, o12, e1, e2, e3⟩ ih => ?_) _ _ _ ⟨l, o11, o12, rfl, rfl, rfl⟩
  · subst e2 e3
    exact ⟨trivial, hn r _ _ hr hl⟩
  · subst e2 e3
    cases q with
    | nil => simp [dInts] at e1
    | cons x q =>
      simp only [dInts, List.map_cons, List.cons.injEq] at e1
      obtain ⟨e4, e5⟩ := e1
      subst e4
      refine ⟨trivial, ?_⟩
      simp only [wgName]
      rw [hg]
      exact hb x o11 o12 _ (fun o => ih _ _ ⟨q, _, _, e5, rfl, rfl⟩) (fun r2 o h1 h2 => hn r2 _ _ h1 h2)
theorem cut_fromA {xs : List D} {i k : Nat} : Vd.cutD xs (some ((i : Int) + (k : Int))) none = xs.drop (i + k) := cut_from (k := i + k)
theorem cut_midA {xs : List D} {i k : Nat} : Vd.cutD xs (some (i : Int)) (some ((i : Int) + (k : Int))) = (xs.drop i).take k := by
  show Vd.cutD xs (some (i : Int)) (some ((i + k : Nat) : Int)) = _
  unfold Vd.cutD
  rw [HT.sIx_nat, HT.sIx_nat]
  by_cases h : i ≤ xs.length
  · rw [Nat.min_eq_left h]
    by_cases h2 : i + k ≤ xs.length
    · rw [Nat.min_eq_left h2, Nat.add_sub_cancel_left]
    · rw [Nat.min_eq_right (by omega), List.take_of_length_le (by rw [List.length_drop]; omega), List.take_of_length_le (by rw [List.length_drop]; omega)]
  · rw [List.drop_eq_nil_of_le (show xs.length ≤ min i xs.length by omega), List.drop_eq_nil_of_le (show xs.length ≤ i by omega)]
    simp
theorem ints_app {a b : List Nat} : dInts a ++ dInts b = dInts (a ++ b) := by simp [dInts]
theorem ints_take {a : List Nat} {n : Nat} : (dInts a).take n = dInts (a.take n) := by simp [dInts]
theorem ints_drop {a : List Nat} {n : Nat} : (dInts a).drop n = dInts (a.drop n) := by simp [dInts]
theorem ints_len {a : List Nat} : (dInts a).length = a.length := by simp [dInts]
theorem rng_fromA {i n : Nat} : rngD (i : Int) n = dInts ((List.range n).map (i + ·)) := by
  simp [rngD, dInts]
theorem below_app {m : Nat} {a b : List Nat} (ha : Below m a) (hb : Below m b) : Below m (a ++ b) := fun x hx => (List.mem_append.mp hx).elim (ha x) (hb x)
theorem below_take {m n : Nat} {a : List Nat} (ha : Below m a) : Below m (a.take n) := fun x hx => ha x (List.mem_of_mem_take hx)
theorem below_drop {m n : Nat} {a : List Nat} (ha : Below m a) : Below m (a.drop n) := fun x hx => ha x (List.mem_of_mem_drop hx)
theorem keg_ne {T : Sto} {g t j : Nat} {A B : List Nat} (k : KegAt T g t) (hj : T[j]? = some (.lst [dRow A, dRow B])) : j ≠ g ∧ j ≠ t := by
  obtain ⟨tl, d, n, h1, h2, _⟩ := k
  constructor
  · rintro rfl; rw [h1] at hj; simp at hj
  · rintro rfl
    rw [h2] at hj
    cases tl with
    | nil => simp at hj
    | cons a l => simp [dRow] at hj
theorem kIx_gen {T : Sto} {p : Nat} {i : Int} {xs : List D} {d : D} {P : D → Sto → Prop} (h : T[p]? = some (.lst xs)) (hx : atD xs i = some d) (q : P d T) : kIx (.ob p) (.int i) T P := by
  simp only [kIx, h, hx]; exact q
theorem kEq_ints {F : Bool → Bool} {a b : List Nat} {st : Sto} {P : D → Sto → Prop} : kEqF F (.tup (dInts a)) (.tup (dInts b)) st P = P (.bl (F (decide (a = b)))) st := kEq_row
theorem tail_walk {T : Sto} {W : WEnds} {g t m n x i j : Nat} {S cd : D} {r A B : List Nat} {o8 o9 o10 o11 o12 : Option D} (kg : KegAt T g t) (hj : T[j]? = some (.lst [dRow A, dRow B])) (hA : Below m A) (hB : Below m B) (lA : A.length ≤ 2) (lB : B.length ≤ 2) (hr : Below m r) (hr12 : r.length ≤ 12)
    (h : ∀ (r2 : List Nat) (o8 o9 o10 o11 o12 : Option D) (T2 : Sto), Below m r2 → r2.length ≤ 12 → KP T T2 g t → W.nx [some (.ob g), some S, some (dRow r2), some (.int (n : Nat)), some (.int (x : Nat)), some cd, some (.ob i), some (.ob j), o8, o9, o10, o11, o12] T2) :
    wsSeq wE8 (wsSeq wE9 (wsSeq wE10 wEf)) W [some (.ob g), some S, some (dRow r), some (.int (n : Nat)), some (.int (x : Nat)), some cd, some (.ob i), some (.ob j), o8, o9, o10, o11, o12] T := by
  obtain ⟨n1, n2⟩ := keg_ne kg hj
  simp only [wE8, ↓wsSeq, ↓wsSet, ↓wNew, ↓wLst, ↓waCons, ↓waNil, ↓wTup, ↓w2, ↓wVar, ↓wK, ↓kIx_tup, ↓atD0, ↓atD1, ↓atD2, ↓List.getElem?_cons_succ, ↓List.getElem?_cons_zero, ↓wBlt, kLen, lenD, ↓kSub, ↓kI_int, ↓kI0_int, ↓wsIf, ↓wTst, ↓kEq_str, ↓wsExpr, ↓wLM, ↓wsNext, List.set_cons_succ, List.set_cons_zero, List.length_cons, List.length_nil, ↓wCall]
  refine ⟨trivial, g, t, 2, rfl, kg, by decide, by decide, fun r1 s1 hr1 hl1 kp1 => ?_⟩
  have hj1 := kp1.get hj n1 n2
  obtain ⟨old, new, e1, e2, ho, hw, hn2⟩ : ∃ old new : List Nat, ([dRow A, dRow B] : List D)[r1]? = some (dRow old) ∧ atD [dRow A, dRow B] (1 - (r1 : Int)) = some (dRow new) ∧ Below m old ∧ Below m new ∧ new.length ≤ 2 := by
    rcases r1 with _ | _ | r1
    · exact ⟨A, B, rfl, by simp, hA, hB, lB⟩
    · exact ⟨B, A, rfl, by simp, hB, hA, lA⟩
    · omega
  simp only [wE9, ↓wsSeq, ↓wsSet, ↓wNew, ↓wLst, ↓waCons, ↓waNil, ↓wTup, ↓w2, ↓wVar, ↓wK, ↓kIx_tup, ↓atD0, ↓atD1, ↓atD2, ↓List.getElem?_cons_succ, ↓List.getElem?_cons_zero, ↓wBlt, kLen, lenD, ↓kSub, ↓kI_int, ↓kI0_int, ↓wsIf, ↓wTst, ↓kEq_str, ↓wsExpr, ↓wLM, ↓wsNext, List.set_cons_succ, List.set_cons_zero, List.length_cons, List.length_nil]
  refine kIx_at hj1 e1 ?_
  simp only [wE10, ↓wsSeq, ↓wsSet, ↓wNew, ↓wLst, ↓waCons, ↓waNil, ↓wTup, ↓w2, ↓wVar, ↓wK, ↓kIx_tup, ↓atD0, ↓atD1, ↓atD2, ↓List.getElem?_cons_succ, ↓List.getElem?_cons_zero, ↓wBlt, kLen, lenD, ↓kSub, ↓kI_int, ↓kI0_int, ↓wsIf, ↓wTst, ↓kEq_str, ↓wsExpr, ↓wLM, ↓wsNext, List.set_cons_succ, List.set_cons_zero, List.length_cons, List.length_nil, ↓wCall, dRow, ints_len, ↓kAdd_int]
  refine ⟨trivial, g, t, r.length + 1, rfl, kp1.2, by omega, by omega, fun r2 s2 hr2 hl2 kp2 => ?_⟩
  have hj2 := kp2.get hj1 n1 n2
  simp only [wEf, ↓wsFor, ↓wiTmp, ↓wCat, wRg1, wRg2, ↓wsSeq, ↓wsSet, ↓wNew, ↓wLst, ↓waCons, ↓waNil, ↓wTup, ↓w2, ↓wVar, ↓wK, ↓kIx_tup, ↓atD0, ↓atD1, ↓atD2, ↓List.getElem?_cons_succ, ↓List.getElem?_cons_zero, ↓wBlt, kLen, lenD, ↓kSub, ↓kI_int, ↓kI0_int, ↓wsIf, ↓wTst, ↓kEq_str, ↓wsExpr, ↓wLM, ↓wsNext, List.set_cons_succ, List.set_cons_zero, List.length_cons, List.length_nil, ints_len, ↓kAdd_int]
  refine ⟨by omega, by omega, by omega, by simp [rngD_len]; omega, ?_⟩
  rw [rng_fromA, show ((r2 : Int)).toNat = r2 from rfl, rng_ints, ints_app]
  refine place_loop (m := m) (E := fun a b c => [some (.ob g), some S, a, some (.int (n : Nat)), some (.int (x : Nat)), some cd, some (.ob i), some (.ob j), some (.int (r1 : Nat)), some (.tup (dInts old)), some (.int (r2 : Nat)), b, c]) hr hr12 (fun p o11 o12 V hnx hbk => ?_) (fun _ _ _ => rfl) (fun q o11 o12 h1 h2 => h q _ _ _ _ _ s2 h1 h2 (kp1.trans kp2)) _ o11 o12
  simp only [↓wsSeq, ↓wsSet, ↓wNew, ↓wLst, ↓waCons, ↓waNil, ↓wTup, ↓w2, ↓wVar, ↓wK, ↓kIx_tup, ↓atD0, ↓atD1, ↓atD2, ↓List.getElem?_cons_succ, ↓List.getElem?_cons_zero, ↓wBlt, kLen, lenD, ↓kSub, ↓kI_int, ↓kI0_int, ↓wsIf, ↓wTst, ↓kEq_str, ↓wsExpr, ↓wLM, ↓wsNext, List.set_cons_succ, List.set_cons_zero, List.length_cons, List.length_nil, ↓wSl, ↓woNone, ↓woSome_int, ↓kAdd_int, dRow, ints_len, ↓kSl_tup, ↓kAdd_tup, cut_to, cut_fromA, cut_midA, ints_take, ints_drop]
  refine kIx_gen hj2 e2 ?_
  simp only [↓wsSeq, ↓wsSet, ↓wNew, ↓wLst, ↓waCons, ↓waNil, ↓wTup, ↓w2, ↓wVar, ↓wK, ↓kIx_tup, ↓atD0, ↓atD1, ↓atD2, ↓List.getElem?_cons_succ, ↓List.getElem?_cons_zero, ↓wBlt, kLen, lenD, ↓kSub, ↓kI_int, ↓kI0_int, ↓wsIf, ↓wTst, ↓kEq_str, ↓wsExpr, ↓wLM, ↓wsNext, List.set_cons_succ, List.set_cons_zero, List.length_cons, List.length_nil, ↓wSl, ↓woNone, ↓woSome_int, ↓kAdd_int, dRow, ints_len, ↓kSl_tup, ↓kAdd_tup, cut_to, cut_fromA, cut_midA, ints_take, ints_drop, ints_app]
  refine ⟨by simp; omega, by simp; omega, ?_⟩
  simp only [↓wsSeq, ↓wsSet, ↓wNew, ↓wLst, ↓waCons, ↓waNil, ↓wTup, ↓w2, ↓wVar, ↓wK, ↓kIx_tup, ↓atD0, ↓atD1, ↓atD2, ↓List.getElem?_cons_succ, ↓List.getElem?_cons_zero, ↓wBlt, kLen, lenD, ↓kSub, ↓kI_int, ↓kI0_int, ↓wsIf, ↓wTst, ↓kEq_str, ↓wsExpr, ↓wLM, ↓wsNext, List.set_cons_succ, List.set_cons_zero, List.length_cons, List.length_nil, ↓wAnd, ↓wSl, ↓woSome_int, ↓kAdd_int, ints_len, ↓kSl_tup, cut_midA, ints_take, ints_drop, ↓kEq_ints, ↓wsBrk]
  by_cases c : List.take old.length (List.drop p r) = old
  · simp only [decide_eq_true c, if_true]
    by_cases c2 : (List.take p r ++ new ++ List.drop (p + old.length) r).length ≤ 12
    · simp only [kLe, ↓wsSeq, ↓wsSet, ↓wNew, ↓wLst, ↓waCons, ↓waNil, ↓wTup, ↓w2, ↓wVar, ↓wK, ↓kIx_tup, ↓atD0, ↓atD1, ↓atD2, ↓List.getElem?_cons_succ, ↓List.getElem?_cons_zero, ↓wBlt, kLen, lenD, ↓kSub, ↓kI_int, ↓kI0_int, ↓wsIf, ↓wTst, ↓kEq_str, ↓wsExpr, ↓wLM, ↓wsNext, List.set_cons_succ, List.set_cons_zero, List.length_cons, List.length_nil, ints_len, decide_eq_true (show ((List.take p r ++ new ++ List.drop (p + old.length) r).length : Int) ≤ 12 by omega), if_true]
      exact hbk _ _ (below_app (below_app (below_take hr) hw) (below_drop hr)) c2
    · simp only [kLe, ↓wsSeq, ↓wsSet, ↓wNew, ↓wLst, ↓waCons, ↓waNil, ↓wTup, ↓w2, ↓wVar, ↓wK, ↓kIx_tup, ↓atD0, ↓atD1, ↓atD2, ↓List.getElem?_cons_succ, ↓List.getElem?_cons_zero, ↓wBlt, kLen, lenD, ↓kSub, ↓kI_int, ↓kI0_int, ↓wsIf, ↓wTst, ↓kEq_str, ↓wsExpr, ↓wLM, ↓wsNext, List.set_cons_succ, List.set_cons_zero, List.length_cons, List.length_nil, ints_len, decide_eq_false (show ¬ ((List.take p r ++ new ++ List.drop (p + old.length) r).length : Int) ≤ 12 by omega), if_true]
      exact hnx _
  · simp only [decide_eq_false c]
    exact hnx _
end Hd
set_option Elab.async false
set_option linter.all false
set_option maxRecDepth 100000
set_option maxHeartbeats 2000000
/-! M6: a row is walked. -/
namespace Hd
open PySem PySem.Spec PyProof.Rows L2 Vd
def spWalked : DSp := fun ds st P => ∃ (g t n : Nat) (ns : List Str) (cs : List Ch) (r : List Nat), ds = [.ob g, dSet ns cs, dRow r, .int n] ∧ KegAt st g t ∧ Good ns cs ∧ cs.length ≤ 100 ∧ n ≤ 1000 ∧ Below ns.length r ∧ r.length ≤ 12 ∧ ∀ (r2 : List Nat) s2, Below ns.length r2 → r2.length ≤ 12 → s2.length = st.length → KP st s2 g t → P (dRow r2) s2
theorem seq_step3 {a b c d : WS} {W : WEnds} {e : Env'} {s : Sto} (h : ∀ K : Env' → Sto → Prop, (∀ e s, d W e s → K e s) → wsSeq a (wsSeq b c) { W with nx := K } e s) : wsSeq a (wsSeq b (wsSeq c d)) W e s := h _ fun _ _ q => q
theorem keeps_walked : Keeps 4 13 (w__law_walked spPour) spWalked := by
  intro ds st P hl h1 h2 ⟨g, t, n, ns, cs, r, e, kg, gs, hc, hn, hr, hr12, p⟩
  subst e
  simp only [w__law_walked, startE]
  obtain ⟨hg, ht⟩ := kg.lt
  refine seq_step fun k1 hk1 => ?_
  simp [-wsSeq, wiRng1]
  refine ⟨by omega, ?_⟩
  rw [rng_ints]
  refine loop_ind (fun ds env s => ∃ (q r : List Nat) (o4 o5 o6 o7 o8 o9 o10 o11 o12 : Option D), ds = dInts q ∧ KP st s g t ∧ Below ns.length r ∧ r.length ≤ 12 ∧ env = [some (.ob g), some (dSet ns cs), some (dRow r), some (.int n), o4, o5, o6, o7, o8, o9, o10, o11, o12]) (fun env s ⟨q, r, o4, o5, o6, o7, o8, o9, o10, o11, o12, e1, kk, hr, hl, e3⟩ => ?_) (fun d ds env s ⟨q, r, o4, o5, o6, o7, o8, o9, o10, o11, o12, e1, kk, hr, hl, e3⟩ ih => ?_) _ _ _ ⟨List.range n, r, none, none, none, none, none, none, none, none, none, rfl, KP.refl kg, hr, hr12, rfl⟩
  · subst e3
    refine ⟨trivial, hk1 _ _ ?_⟩
    simp
    exact kp_cut kk kg h2 (ok_row (r := r)) fun s2 h3 h4 => p r s2 hr hl h3 h4
  · subst e3
    cases q with
    | nil => simp [dInts] at e1
    | cons x q =>
      simp only [dInts, List.map_cons, List.cons.injEq] at e1
      obtain ⟨e4, e5⟩ := e1
      subst e4
      refine ⟨trivial, ?_⟩
      simp only [wgName, List.set_cons_succ, List.set_cons_zero]
      refine seq_step fun k2 hk2 => ?_
      simp [-wsSeq, dSet, dChs, kLen, lenD]
      by_cases c0 : cs = []
      · simp [-wsSeq, c0]
        refine hk1 _ _ ?_
        simp
        exact kp_cut kk kg h2 (ok_row (r := r)) fun s2 h3 h4 => p r s2 hr hl h3 h4
      · simp [-wsSeq, c0]
        refine hk2 _ _ ?_
        clear hk2 k2
        refine seq_step fun k3 hk3 => ?_
        simp [-wsSeq, kLen, lenD]
        refine ⟨g, t, cs.length, rfl, kk.2, List.length_pos_iff.mpr c0, by omega, fun r1 s1 hr1 hl1 kp1 => ?_⟩
        have hx : atD (cs.map Ch.d) (r1 : Int) = some (cs[r1]).d := by rw [atD_nat (by rw [List.getElem?_map, List.getElem?_eq_getElem hr1]; rfl)]
        simp only [kIx, hx]
        refine hk3 _ _ ?_
        clear hk3 k3
        have kp := kk.trans kp1
        have hok := gs.ok _ (List.getElem_mem hr1)
        generalize cs[r1] = c at *
        generalize hS : dSet ns cs = S
        have hS' : D.tup [.tup (ns.map D.str), .tup (cs.map Ch.d)] = S := by rw [← hS]; rfl
        rw [hS']
        refine seq_step3 (a := wE6) (b := wE6i) (c := wE7) (d := wsSeq wE8 (wsSeq wE9 (wsSeq wE10 wEf))) fun k6 hk6 => ?_
        have H : ∀ (G : Sto) (j i : Nat) (A B : List Nat), (s1 ++ G)[j]? = some (.lst [dRow A, dRow B]) → Below ns.length A → Below ns.length B → A.length ≤ 2 → B.length ≤ 2 → k6 [some (.ob g), some S, some (dRow r), some (.int n), some (.int x), some c.d, some (.ob i), some (.ob j), o8, o9, o10, o11, o12] (s1 ++ G) := by
          intro G j i A B hj hA hB lA lB
          refine hk6 _ _ ?_
          refine tail_walk kp1.2.app hj hA hB lA lB hr hl fun r2 p8 p9 p10 p11 p12 T2 b1 b2 b3 => ?_
          exact ih _ _ ⟨q, r2, _, _, _, _, _, _, _, _, _, e5, kp.app.trans b3, b1, b2, by rw [← hS]⟩
        have hrw : ∀ (A B : List Nat), (A, B) = c.rows → Below ns.length A ∧ Below ns.length B ∧ A.length ≤ 2 ∧ B.length ≤ 2 := fun A B e => by
          cases c with
          | held a => cases e; simp only [Ch.ok] at hok; refine ⟨fun x hx => ?_, fun x hx => ?_, by simp, by simp⟩ <;> simp at hx <;> omega
          | idle a => cases e; simp only [Ch.ok] at hok; refine ⟨fun x hx => ?_, fun x hx => ?_, by simp, by simp⟩ <;> simp at hx <;> omega
          | loose a b => cases e; simp only [Ch.ok] at hok; refine ⟨fun x hx => ?_, fun x hx => ?_, by simp, by simp⟩ <;> simp at hx <;> omega
          | same a b => cases e; simp only [Ch.ok] at hok; refine ⟨fun x hx => ?_, fun x hx => ?_, by simp, by simp⟩ <;> simp at hx <;> omega
        have H2 : ∀ (G : Sto) (j i : Nat) (A B : List Nat), (s1 ++ G)[j]? = some (.lst [dRow A, dRow B]) → (A, B) = c.rows → k6 [some (.ob g), some S, some (dRow r), some (.int n), some (.int x), some c.d, some (.ob i), some (.ob j), o8, o9, o10, o11, o12] (s1 ++ G) := fun G j i A B hj e =>
          H G j i A B hj (hrw A B e).1 (hrw A B e).2.1 (hrw A B e).2.2.1 (hrw A B e).2.2.2
        cases c with
        | held a => exact ends_held H2
        | idle a => exact ends_idle H2
        | loose a b => exact ends_loose H2
        | same a b => exact ends_same H2
end Hd
set_option Elab.async false
set_option linter.all false
set_option maxRecDepth 100000
set_option maxHeartbeats 2000000
/-! M7: a pair of rows is drawn. -/
namespace Hd
open PySem PySem.Spec PyProof.Rows L2 Vd
def spPairD : DSp := fun ds st P => ∃ (g t n : Nat) (ns : List Str) (cs : List Ch), ds = [.ob g, dSet ns cs, .int n] ∧ KegAt st g t ∧ Good ns cs ∧ cs.length ≤ 100 ∧ 0 < ns.length ∧ ns.length ≤ 5 ∧ n ≤ 12 ∧ ∀ (a b : List Nat) s2, Below ns.length a → a.length ≤ 12 → Below ns.length b → b.length ≤ 12 → s2.length = st.length → KP st s2 g t → P (dPair (a, b)) s2
theorem kEq_ints' {F : Bool → Bool} {a b : List Nat} {st : Sto} {P : D → Sto → Prop} : kEqF F (.tup (dInts a)) (.tup (dInts b)) st P = P (.bl (F (decide (a = b)))) st := kEq_row
theorem keeps_pairD : Keeps 3 8 (w__law_pair spPour spRow spWalked) spPairD := by
  intro ds st P hl h1 h2 ⟨g, t, n, ns, cs, e, kg, gs, hc, hm, hm5, hn, p⟩
  subst e
  simp only [w__law_pair, startE]
  have fin : ∀ (a b : List Nat) (s : Sto), KP st s g t → Below ns.length a → a.length ≤ 12 → Below ns.length b → b.length ≤ 12 → gcP st.length P (.tup [dRow a, dRow b]) s := fun a b s kp ha la hb lb =>
    kp_cut kp kg h2 (ok_pair (p := (a, b))) fun s2 h3 h4 => p a b s2 ha la hb lb h3 h4
  refine seq_step fun k1 hk1 => ?_
  simp [-wsSeq, dSet, kLen, lenD]
  refine hk1 _ _ ?_
  clear hk1 k1
  refine seq_step fun k2 hk2 => ?_
  simp [-wsSeq]
  refine ⟨g, t, n + 1, rfl, kg, by omega, by omega, fun r1 s1 hr1 hl1 kp1 => ?_⟩
  simp [-wsSeq]
  refine ⟨g, t, ns.length, r1, rfl, kp1.2, hm, hm5, by omega, fun row s2 hrow hrl hl2 kp2 => ?_⟩
  refine hk2 _ _ ?_
  clear hk2 k2
  refine seq_step fun k3 hk3 => ?_
  simp [-wsSeq]
  refine ⟨g, t, 6, rfl, kp2.2, by omega, by omega, fun way s3 hway hl3 kp3 => hk3 _ _ ?_⟩
  clear hk3 k3
  have kp := (kp1.trans kp2).trans kp3
  refine seq_step fun k4 hk4 => ?_
  simp [-wsSeq]
  have hrow12 : row.length ≤ 12 := by omega
  by_cases c0 : way = 0
  · simp [c0]
    exact fin row row s3 kp hrow hrow12 hrow hrow12
  simp [c0]
  refine hk4 _ _ ?_
  clear hk4 k4
  refine seq_step fun k5 hk5 => ?_
  simp [-wsSeq]
  by_cases c1 : way = 1
  · simp [c1, -wsSeq]
    refine ⟨g, t, n + 1, rfl, kp3.2, by omega, by omega, fun r2 s4 hr2 hl4 kp4 => ?_⟩
    simp
    refine ⟨g, t, ns.length, r2, rfl, kp4.2, hm, hm5, by omega, fun row2 s5 hrow2 hrl2 hl5 kp5 => ?_⟩
    exact fin row row2 s5 ((kp.trans kp4).trans kp5) hrow hrow12 hrow2 (by omega)
  rw [if_neg (by omega)]
  refine hk5 _ _ ?_
  clear hk5 k5
  refine seq_step fun k6 hk6 => ?_
  simp [-wsSeq]
  refine ⟨g, t, 9, rfl, kp3.2, by omega, by omega, fun r2 s4 hr2 hl4 kp4 => ?_⟩
  simp [-wsSeq]
  rw [show (1 : Int) + (r2 : Int) = ((1 + r2 : Nat) : Int) by omega]
  refine ⟨g, t, 1 + r2, ns, cs, row, rfl, kp4.2, gs, hc, by omega, hrow, hrow12, fun oth s5 hoth hol hl5 kp5 => ?_⟩
  refine hk6 _ _ ?_
  clear hk6 k6
  refine seq_step fun k7 hk7 => ?_
  simp [-wsSeq, kLen, lenD, dRow, ints_len]
  refine ⟨g, t, oth.length + 1, rfl, kp5.2, by omega, by omega, fun at_ s6 hat hl6 kp6 => ?_⟩
  refine hk7 _ _ ?_
  clear hk7 k7
  have kq := ((kp.trans kp4).trans kp5).trans kp6
  refine seq_step fun k8 hk8 => ?_
  have h8 : ∀ o2 : List Nat, Below ns.length o2 → o2.length ≤ 12 → k8 [some (.ob g), some (.tup [.tup (ns.map D.str), dChs cs]), some (.int (n : Nat)), some (.int (ns.length : Nat)), some (.tup (dInts row)), some (.int (way : Nat)), some (.tup (dInts o2)), some (.int (at_ : Nat))] s6 := by
    intro o2 ho2 lo2
    refine hk8 _ _ ?_
    clear hk8 k8
    refine seq_step fun k9 hk9 => ?_
    have h9 : ∀ (o3 : List Nat) (s7 : Sto), Below ns.length o3 → o3.length ≤ 12 → KP s6 s7 g t → k9 [some (.ob g), some (.tup [.tup (ns.map D.str), dChs cs]), some (.int (n : Nat)), some (.int (ns.length : Nat)), some (.tup (dInts row)), some (.int (way : Nat)), some (.tup (dInts o3)), some (.int (at_ : Nat))] s7 := by
      intro o3 s7 ho3 lo3 kp7
      refine hk9 _ _ ?_
      clear hk9 k9
      refine seq_step fun k10 hk10 => ?_
      simp [-wsSeq]
      by_cases c3 : way = 3
      · rw [if_pos (by omega)]
        refine ⟨g, t, 2, rfl, kp7.2, by omega, by omega, fun r4 s8 hr4 hl8 kp8 => ?_⟩
        simp [-wsSeq]
        split
        · exact fin o3 row s8 ((kq.trans kp7).trans kp8) ho3 lo3 hrow hrow12
        · refine hk10 _ _ ?_
          simp
          exact fin row o3 s8 ((kq.trans kp7).trans kp8) hrow hrow12 ho3 lo3
      · rw [if_neg (by omega)]
        refine hk10 _ _ ?_
        simp
        exact fin row o3 s7 (kq.trans kp7) hrow hrow12 ho3 lo3
    simp [-wsSeq, kLen, lenD]
    by_cases c3 : way = 3
    · rw [if_pos (by omega)]
      rw [ints_len]
      by_cases c4 : o2.length < 12
      · rw [if_pos (by omega)]
        refine ⟨g, t, ns.length, rfl, kq.2, hm, by omega, fun r3 s7 hr3 hl7 kp7 => ?_⟩
        simp only [cut_to, cut_from, ints_drop, ints_take, ints_len]
        have e1 : dInts (o2.take at_) ++ (.int (r3 : Nat) : D) :: dInts (o2.drop at_) = dInts (o2.take at_ ++ r3 :: o2.drop at_) := by simp [dInts]
        have hb : Below ns.length (o2.take at_ ++ r3 :: o2.drop at_) := below_app (below_take ho2) fun x hx => (List.mem_cons.mp hx).elim (fun e => by rw [e]; exact hr3) (below_drop ho2 x)
        have hln : (o2.take at_ ++ r3 :: o2.drop at_).length ≤ 12 := by simp; omega
        have := h9 _ s7 hb hln kp7
        rw [← e1] at this
        exact ⟨by simp; omega, by simp; omega, this⟩
      · rw [if_neg (by omega)]
        exact h9 _ _ ho2 lo2 (KP.refl kq.2)
    · rw [if_neg (by omega)]
      exact h9 _ _ ho2 lo2 (KP.refl kq.2)
  simp [-wsSeq]
  by_cases c2 : way = 2
  · rw [if_pos (by omega)]
    simp only [cut_to, cut_from1, ints_take, ints_drop, ints_app, ints_len]
    exact ⟨by simp; omega, h8 _ (below_app (below_take hoth) (below_drop hoth)) (by simp; omega)⟩
  · rw [if_neg (by omega)]
    exact h8 _ hoth hol
end Hd
set_option Elab.async false
set_option linter.all false
set_option maxRecDepth 100000
set_option maxHeartbeats 2000000
/-! M8: the watch by hand. -/
namespace Hd
open PySem PySem.Spec PyProof.Rows L2 Vd
def chKey : Ch → Nat
  | .held s => s
  | .idle s => 100 + s
  | .loose s t => 200 + 10 * s + t
  | .same s t => 300 + 10 * s + t
theorem key3 : ∀ a ∈ every 3, ∀ b ∈ every 3, decide (chKey a ≤ chKey b) = leP a.d b.d := by decide +kernel
theorem inj3 : ∀ a ∈ every 3, ∀ b ∈ every 3, chKey a = chKey b → a = b := by decide +kernel
theorem sortCh {l s : List Ch} (hp : l.Perm s) (h3 : ∀ c ∈ s, c ∈ every 3) (hs : s.Pairwise (fun a b => chKey a ≤ chKey b)) : (l.map Ch.d).mergeSort leP = s.map Ch.d := by
  have hl : ∀ c ∈ l, c ∈ every 3 := fun c hc => h3 c (hp.mem_iff.mp hc)
  rw [← List.map_mergeSort (r := fun a b => decide (chKey a ≤ chKey b)) (fun a ha b hb => key3 a (hl a ha) b (hl b hb))]
  congr 1
  have p1 := List.mergeSort_perm l (fun a b => decide (chKey a ≤ chKey b))
  have p2 := List.pairwise_mergeSort (le := fun a b => decide (chKey a ≤ chKey b)) (fun a b c h1 h2 => by simp only [decide_eq_true_eq] at *; omega) (fun a b => by simp only [Bool.or_eq_true, decide_eq_true_eq]; omega) l
  refine List.Perm.eq_of_pairwise (le := fun a b => chKey a ≤ chKey b) (fun a b ha hb h1 h2 => ?_) (p2.imp fun h => by simpa using h) hs (p1.trans hp)
  exact inj3 a (hl a (p1.mem_iff.mp ha)) b (h3 b hb) (by omega)
abbrev hcs (a c : Nat) : List Ch := [.held a, .idle c]
abbrev hps4 (a b c : Nat) : List Pr := [([a, b], [a, a, b]), ([b], [b]), ([a, b], [b, c, a]), ([], [c, c])]
abbrev hps5 (a b c : Nat) : List Pr := hps4 a b c ++ [([b, b], [b])]
abbrev hmore (a b c : Nat) : List Ch := [.held c, .held a, .idle c, .same (min a b) (max a b)]
abbrev hdue (a b : Nat) : List Ch := [.idle a, .idle b, .loose (min a b) (max a b), .same 0 1, .same 0 2, .same 1 2]
abbrev hdue2 (a b c : Nat) : List Ch := [.idle b, .same (min a b) (max a b), .same (min b c) (max b c)]
structure HF (a b c : Nat) : Prop where
  la : a < 3
  lb : b < 3
  lc : c < 3
  e0 : explL 3 (hcs a c) [] (every 3) = every 3
  n0 : needL 3 (hcs a c) [] (List.range 2) = []
  s1 : seeS 3 (hcs a c) [a, b] [a, a, b] = "heard"
  s2 : seeS 3 (hcs a c) [b] [b] = "plain"
  s3 : seeS 3 (hcs a c) [a, b] [b, c, a] = "strange"
  s4 : seeS 3 (hcs a c) [] [c, c] = "heard"
  t4 : strangeL 3 (hcs a c) 0 (hps4 a b c) = [2]
  e4 : (hdue a b).Perm (explL 3 (hcs a c) (hps4 a b c) (every 3))
  n4 : needL 3 (hcs a c) (hps4 a b c) (List.range 2) = [0, 1]
  s5 : seeS 3 (hcs a c) [b, b] [b] = "strange"
  t5 : strangeL 3 (hcs a c) 0 (hps5 a b c) = [2, 4]
  p0 : kinB 3 ((hmore a b c).eraseIdx 0) [c] [c, c] = true
  p1 : kinB 3 ((hmore a b c).eraseIdx 1) [a] [a, a] = false
  p2 : kinB 3 ((hmore a b c).eraseIdx 2) [] [c] = false
  p3 : kinB 3 ((hmore a b c).eraseIdx 3) [min a b] [max a b] = false
  j1 : kinB 3 (hcs a c) [min a c, max a c] [max a c, min a c] = true
  j2 : kinB 3 (hcs a c) [b] [b, b] = false
  j3 : kinB 3 (hmore a b c) [b] [b, b] = true
  j4 : kinB 3 (hmore a b c) [] [a] = false
  e5 : (hdue2 a b c).Perm (explL 3 (hcs a c) (hps5 a b c) (every 3))
def perms : List (Nat × Nat × Nat) := [(0, 1, 2), (0, 2, 1), (1, 0, 2), (1, 2, 0), (2, 0, 1), (2, 1, 0)]
theorem hf : ∀ r, r < 6 → ∃ a b c, (perms.map fun p => D.tup [.int (p.1 : Nat), .int (p.2.1 : Nat), .int (p.2.2 : Nat)])[r]? = some (.tup [.int (a : Nat), .int (b : Nat), .int (c : Nat)]) ∧ HF a b c := by
  intro r hr
  have mkf : ∀ a b c, (a, b, c) ∈ perms → HF a b c := by
    intro a b c h
    simp only [perms, List.mem_cons, List.not_mem_nil, or_false, Prod.mk.injEq] at h
    rcases h with ⟨rfl, rfl, rfl⟩ | ⟨rfl, rfl, rfl⟩ | ⟨rfl, rfl, rfl⟩ | ⟨rfl, rfl, rfl⟩ | ⟨rfl, rfl, rfl⟩ | ⟨rfl, rfl, rfl⟩ <;> constructor <;> decide +kernel
  have hm : perms[r] ∈ perms := List.getElem_mem hr
  refine ⟨perms[r].1, perms[r].2.1, perms[r].2.2, ?_, mkf _ _ _ hm⟩
  rw [List.getElem?_map, List.getElem?_eq_getElem hr]
  rfl
end Hd
set_option Elab.async false
set_option linter.all false
set_option maxRecDepth 100000
set_option maxHeartbeats 2000000
/-! M8b: the watch by hand, walked. -/
namespace Hd
open PySem PySem.Spec PyProof.Rows L2 Vd
def spByHand : DSp := fun ds st P => ∃ (g t : Nat) (nm : Bool), ds = [.ob g, .bl nm] ∧ KegAt st g t ∧ ∀ s2, s2.length = st.length → KP st s2 g t → P (.bl true) s2
abbrev hns : List Str := ["o", "pp", "q2"]
theorem KP.keep {st s s' : Sto} {g t w : Nat} (k : KP st s g t) (h0 : KegAt st g t) (kk : Keep s s' [w]) (hw : st.length ≤ w) : KP st s' g t := by
  obtain ⟨h1, h2⟩ := h0.lt
  have hl := k.1.1
  refine ⟨⟨by have := kk.1; omega, fun i hi hn => ?_⟩, ?_⟩
  · rw [kk.2 i (by omega) (by simp; omega)]; exact k.1.2 i hi hn
  · obtain ⟨tl, d, n, g1, g2, g3⟩ := k.2
    exact ⟨tl, d, n, by rw [kk.2 g (by omega) (by simp; omega)]; exact g1, by rw [kk.2 t (by omega) (by simp; omega)]; exact g2, g3⟩
theorem wIf_bl {i : Nat} {nm : Bool} {env : Env'} {st : Sto} {f : WE} {Q : D → Sto → Prop} (h : env[i]? = some (some (.bl nm))) (hf : f env st Q) : wIf (wTru (wVar i)) f f env st Q := by
  cases nm
  · simp [h]; exact hf
  · simp [h]; exact hf
theorem watch_set {s : Sto} {w q : Nat} {ns : List Str} {cs : List Ch} {ps ps' : List Pr} (h : WatchAt s w q ns cs ps) (hn : w ≠ q) : WatchAt (s.set q (cPairs ps')) w q ns cs ps' :=
  ⟨by rw [List.getElem?_set_ne (Ne.symm hn)]; exact h.1, by rw [List.getElem?_set_self (get_lt h.2)]⟩
theorem watch_app {s x : Sto} {w q : Nat} {ns : List Str} {cs : List Ch} {ps : List Pr} (h : WatchAt s w q ns cs ps) : WatchAt (s ++ x) w q ns cs ps := ⟨get_app h.1, get_app h.2⟩
theorem mn (a b : Nat) : (if b < a then (b : Int) else (a : Int)) = ((min a b : Nat) : Int) := by split <;> omega
theorem mx (a b : Nat) : (if a < b then (b : Int) else (a : Int)) = ((max a b : Nat) : Int) := by split <;> omega
theorem keeps_byHand : Keeps 2 11 (w__law_by_hand spWInit spSee spStrange spExpl spNeed spPairs spJoins spIsSpare spPour spEvery (spSame 8)) spByHand := by
  intro ds st P hl h1 h2 ⟨g, t, nm, e, kg, p⟩
  subst e
  obtain ⟨hg, ht⟩ := kg.lt
  simp only [w__law_by_hand, startE]
  refine seq_step fun k1 hk1 => ?_
  simp [-wsSeq]
  generalize hT : st ++ [Cell.lst _] = T
  have hTg : KP st T g t := by rw [← hT]; exact (KP.refl kg).app
  have hTc : T[st.length]? = some (.lst (perms.map fun p => D.tup [.int (p.1 : Nat), .int (p.2.1 : Nat), .int (p.2.2 : Nat)])) := by rw [← hT, get_new0]; rfl
  have hTl : T.length = st.length + 1 := by rw [← hT]; simp
  clear hT
  refine ⟨g, t, 6, rfl, hTg.2, by omega, by omega, fun r1 s1 hr1 hl1 kp1 => ?_⟩
  obtain ⟨a, b, c, hat, F⟩ := hf r1 hr1
  have kp := hTg.trans kp1
  refine kIx_at (kp1.get hTc (by omega) (by omega)) hat ?_
  simp [-wsSeq, seqAt]
  refine hk1 _ _ ?_
  clear hk1 k1 kp1 hTc hat
  have gS : Good hns (hcs a c) := ⟨by simp, by simp, fun x hx => by
    simp at hx
    rcases hx with rfl | rfl
    · exact F.la
    · exact F.lc⟩
  refine seq_step fun k2 hk2 => ?_
  simp [-wsSeq]
  refine hk2 _ _ ?_
  clear hk2 k2
  refine seq_step fun k3 hk3 => ?_
  show wIf _ _ _ _ _ _
  refine wIf_bl (i := 1) (nm := nm) rfl ?_
  simp [-wsSeq]
  refine ⟨s1.length, hns, hcs a c, rfl, by simp, fun s2 q kk hq ww => ⟨rfl, ?_⟩⟩
  have kp2 : KP st s2 g t := kp.app.keep kg kk (by omega)
  have hq0 : st.length ≤ q := by simp at hq; omega
  have hw0 : st.length ≤ s1.length := by omega
  have hwq : s1.length ≠ q := by simp at hq; omega
  clear kk hq
  generalize s1.length = w at *
  refine hk3 _ _ ?_
  clear hk3 k3 kp hl1 hTg hTl
  generalize hS : D.tup [.tup [_, _, _], _] = S
  have hS' : S = dSet hns (hcs a c) := hS.symm
  have insS : ∀ {s : Sto} {ps : List Pr}, WatchAt s w q hns (hcs a c) ps → insOf s "Watch" "strange" (.ob w) := fun h => ⟨_, h.1, by simp [-List.lookup_eq_none_iff]⟩
  have insP : ∀ {s : Sto} {ps : List Pr}, WatchAt s w q hns (hcs a c) ps → insOf s "Watch" "pairs" (.ob w) := fun h => ⟨_, h.1, by simp [-List.lookup_eq_none_iff]⟩
  have insN : ∀ {s : Sto} {ps : List Pr}, WatchAt s w q hns (hcs a c) ps → insOf s "Watch" "needed" (.ob w) := fun h => ⟨_, h.1, by simp [-List.lookup_eq_none_iff]⟩
  have insE : ∀ {s : Sto} {ps : List Pr}, WatchAt s w q hns (hcs a c) ps → insOf s "Watch" "explaining" (.ob w) := fun h => ⟨_, h.1, by simp [-List.lookup_eq_none_iff]⟩
  have insW : ∀ {s : Sto} {ps : List Pr}, WatchAt s w q hns (hcs a c) ps → insOf s "Watch" "see" (.ob w) := fun h => ⟨_, h.1, by simp [-List.lookup_eq_none_iff]⟩
  refine seq_step fun k4 hk4 => ?_
  simp [-wsSeq]
  refine hk4 _ _ ?_
  clear hk4 k4
  generalize hs3 : s2 ++ [Cell.lst [], _] = s3
  have kp3 : KP st s3 g t := by rw [← hs3]; exact kp2.app
  have w3 : WatchAt s3 w q hns (hcs a c) [] := by rw [← hs3]; exact ⟨get_app ww.1, get_app ww.2⟩
  clear hs3 kp2 ww
  refine seq_step fun k5 hk5 => ?_
  simp [-wsSeq]
  have gR : ∀ l : List Nat, (∀ x ∈ l, x = a ∨ x = b ∨ x = c) → l.length ≤ 3 → GoodR hns l := fun l hx hl => ⟨fun x hm => by
    rcases hx x hm with e | e | e
    · rw [e]; exact F.la
    · rw [e]; exact F.lb
    · rw [e]; exact F.lc, by omega⟩
  have g1 : GoodR hns [a, b] := gR _ (by simp) (by simp)
  have g2 : GoodR hns [a, a, b] := gR _ (by simp) (by simp)
  have g3 : GoodR hns [b] := gR _ (by simp) (by simp)
  have g4 : GoodR hns [b, c, a] := gR _ (by simp) (by simp)
  have g5 : GoodR hns [] := gR _ (by simp) (by simp)
  have g6 : GoodR hns [c, c] := gR _ (by simp) (by simp)
  have g7 : GoodR hns [b, b] := gR _ (by simp) (by simp)
  have P0 : GoodP hns [] := ⟨nofun, by simp⟩
  have P1 : GoodP hns [([a, b], [a, a, b])] := ⟨fun p hp => by simp at hp; subst hp; exact ⟨g1, g2⟩, by simp⟩
  have P2 : GoodP hns [([a, b], [a, a, b]), ([b], [b])] := ⟨fun p hp => by simp at hp; rcases hp with rfl | rfl <;> constructor <;> assumption, by simp⟩
  have P3 : GoodP hns [([a, b], [a, a, b]), ([b], [b]), ([a, b], [b, c, a])] := ⟨fun p hp => by simp at hp; rcases hp with rfl | rfl | rfl <;> constructor <;> assumption, by simp⟩
  have P4 : GoodP hns (hps4 a b c) := ⟨fun p hp => by simp at hp; rcases hp with rfl | rfl | rfl | rfl <;> constructor <;> assumption, by simp⟩
  have P5 : GoodP hns (hps5 a b c) := ⟨fun p hp => by simp at hp; rcases hp with rfl | rfl | rfl | rfl | rfl <;> constructor <;> assumption, by simp⟩
  refine ⟨insE w3, w, q, hns, hcs a c, [], rfl, w3, by simp, by simp, gS, P0, ?_⟩
  rw [show explL hns.length (hcs a c) [] (every hns.length) = every 3 from F.e0]
  refine ⟨3, rfl, by decide, _, _, true, rfl, same_ob get_new0 (by decide +kernel) (fun x hx => by obtain ⟨y, _, rfl⟩ := List.mem_map.mp hx; exact same_chd), ?_⟩
  simp [-wsSeq]
  have kp4 : KP st (s3 ++ [.lst ((every 3).map Ch.d)]) g t := kp3.app
  have w4 := watch_app (x := [.lst ((every 3).map Ch.d)]) w3
  generalize s3 ++ [Cell.lst ((every 3).map Ch.d)] = s4 at *
  clear w3 kp3
  refine ⟨insN w4, w, q, hns, hcs a c, [], rfl, w4, by simp, gS, P0, ?_⟩
  rw [show needL hns.length (hcs a c) [] (List.range (hcs a c).length) = [] from F.n0]
  refine ⟨_, _, true, rfl, same_tup (xs := []) (by simp) nofun, ?_⟩
  simp [-wsSeq]
  refine ⟨insP w4, w, q, hns, hcs a c, [], rfl, w4, _, _, true, rfl, same_tup (xs := []) (by simp) nofun, ?_⟩
  simp [-wsSeq]
  refine hk5 _ _ ?_
  clear hk5 k5
  refine seq_step fun k6 hk6 => ?_
  simp [-wsSeq]
  refine ⟨insW w4, w, q, hns, hcs a c, [], [a, b], [a, a, b], rfl, w4, gS, P0, g1, g2, ?_⟩
  rw [show seeS hns.length (hcs a c) [a, b] [a, a, b] = "heard" from F.s1]
  have w5 := watch_set (ps' := [] ++ [([a, b], [a, a, b])]) w4 hwq
  have kp5 := kp4.put (c := cPairs ([] ++ [([a, b], [a, a, b])])) kg hq0
  generalize s4.set q _ = s5 at *
  clear w4 kp4
  refine ⟨insW w5, w, q, hns, hcs a c, _, [b], [b], rfl, w5, gS, P1, g3, g3, ?_⟩
  rw [show seeS hns.length (hcs a c) [b] [b] = "plain" from F.s2]
  have w6 := watch_set (ps' := [] ++ [([a, b], [a, a, b])] ++ [([b], [b])]) w5 hwq
  have kp6 := kp5.put (c := cPairs ([] ++ [([a, b], [a, a, b])] ++ [([b], [b])])) kg hq0
  generalize s5.set q _ = s6 at *
  clear w5 kp5
  refine ⟨insW w6, w, q, hns, hcs a c, _, [a, b], [b, c, a], rfl, w6, gS, P2, g1, g4, ?_⟩
  rw [show seeS hns.length (hcs a c) [a, b] [b, c, a] = "strange" from F.s3]
  have w7 := watch_set (ps' := [] ++ [([a, b], [a, a, b])] ++ [([b], [b])] ++ [([a, b], [b, c, a])]) w6 hwq
  have kp7 := kp6.put (c := cPairs ([] ++ [([a, b], [a, a, b])] ++ [([b], [b])] ++ [([a, b], [b, c, a])])) kg hq0
  generalize s6.set q _ = s7 at *
  clear w6 kp6
  refine ⟨insW w7, w, q, hns, hcs a c, _, [], [c, c], rfl, w7, gS, P3, g5, g6, ?_⟩
  rw [show seeS hns.length (hcs a c) [] [c, c] = "heard" from F.s4]
  have w8 : WatchAt (s7.set q (cPairs (hps4 a b c))) w q hns (hcs a c) (hps4 a b c) := watch_set w7 hwq
  have kp8 : KP st (s7.set q (cPairs (hps4 a b c))) g t := kp7.put kg hq0
  show k6 _ (s7.set q (cPairs (hps4 a b c)))
  generalize s7.set q (cPairs (hps4 a b c)) = s8 at *
  clear w7 kp7
  refine hk6 _ _ ?_
  clear hk6 k6
  refine seq_step fun k7 hk7 => ?_
  simp [-wsSeq]
  refine ⟨_, _, true, rfl, same_tup (xs := [.str "heard", .str "plain", .str "strange", .str "heard"]) (by simp) (fun x hx => by simp at hx; rcases hx with rfl | rfl | rfl | rfl <;> exact same_str), ?_⟩
  simp [-wsSeq]
  refine ⟨insS w8, w, q, hns, hcs a c, _, rfl, w8, gS, P4, ?_⟩
  rw [show strangeL hns.length (hcs a c) 0 (hps4 a b c) = [2] from F.t4]
  refine ⟨_, _, true, rfl, same_row (r := [2]) (by simp), ?_⟩
  simp [-wsSeq]
  refine hk7 _ _ ?_
  clear hk7 k7
  refine seq_step fun k8 hk8 => ?_
  simp [-wsSeq, kMin2, kMax2]
  simp only [mn, mx]
  refine hk8 _ _ ?_
  clear hk8 k8
  generalize hs9 : s8 ++ [Cell.lst _] = s9
  have kp9 : KP st s9 g t := by rw [← hs9]; exact kp8.app
  have w9 : WatchAt s9 w q hns (hcs a c) (hps4 a b c) := by rw [← hs9]; exact watch_app w8
  have d9 : s9[s8.length]? = some (.lst ((hdue a b).map Ch.d)) := by rw [← hs9, get_new0]; rfl
  clear hs9 w8 kp8
  generalize s8.length = v9 at *
  have srt : ∀ (l : List Ch) (ps : List Pr), l.Perm (explL 3 (hcs a c) ps (every 3)) → (l.map Ch.d).mergeSort leP = (explL 3 (hcs a c) ps (every 3)).map Ch.d := fun l ps hp =>
    sortCh hp (fun c hc => (List.mem_filter.mp hc).1) ((by decide +kernel : (every 3).Pairwise (fun a b => chKey a ≤ chKey b)).sublist List.filter_sublist)
  have elen : ∀ ps : List Pr, (explL 3 (hcs a c) ps (every 3)).length ≤ 1000 := fun ps => Nat.le_trans (List.length_filter_le _ _) (by decide +kernel)
  refine seq_step fun k10 hk10 => ?_
  simp [-wsSeq, wSortD, lstAt, d9]
  refine ⟨insE w9, w, q, hns, hcs a c, _, rfl, w9, by simp, by simp, gS, P4, ?_⟩
  simp only [d9]
  refine ⟨⟨_, toPys_chs (hdue a b), sortOk_chs (by simp)⟩, ?_⟩
  rw [srt _ _ F.e4]
  refine ⟨_, _, true, rfl, same_ob get_new0 (by rw [List.length_map]; exact elen _) (fun x hx => by obtain ⟨y, _, rfl⟩ := List.mem_map.mp hx; exact same_chd), ?_⟩
  simp [-wsSeq]
  have kp10 : KP st (s9 ++ [.lst ((explL 3 (hcs a c) (hps4 a b c) (every 3)).map Ch.d)]) g t := kp9.app
  have w10 := watch_app (x := [.lst ((explL 3 (hcs a c) (hps4 a b c) (every 3)).map Ch.d)]) w9
  generalize s9 ++ [Cell.lst ((explL 3 (hcs a c) (hps4 a b c) (every 3)).map Ch.d)] = s10 at *
  clear w9 kp9 d9
  refine ⟨insN w10, w, q, hns, hcs a c, _, rfl, w10, by simp, gS, P4, ?_⟩
  rw [show needL hns.length (hcs a c) (hps4 a b c) (List.range (hcs a c).length) = [0, 1] from F.n4]
  refine ⟨_, _, true, rfl, same_row (r := [0, 1]) (by simp), ?_⟩
  simp [-wsSeq]
  refine hk10 _ _ ?_
  clear hk10 k10
  refine seq_step fun k11 hk11 => ?_
  simp [-wsSeq]
  refine ⟨insW w10, w, q, hns, hcs a c, _, [b, b], [b], rfl, w10, gS, P4, g7, g3, ?_⟩
  rw [show seeS hns.length (hcs a c) [b, b] [b] = "strange" from F.s5]
  have w11 : WatchAt (s10.set q (cPairs (hps5 a b c))) w q hns (hcs a c) (hps5 a b c) := watch_set w10 hwq
  have kp11 : KP st (s10.set q (cPairs (hps5 a b c))) g t := kp10.put kg hq0
  generalize hs11 : s10.set q (cPairs (hps5 a b c)) = s11 at *
  clear w10 kp10 hs11
  refine ⟨_, _, true, rfl, same_str, ?_⟩
  simp [-wsSeq]
  refine ⟨insS w11, w, q, hns, hcs a c, _, rfl, w11, gS, P5, ?_⟩
  rw [show strangeL hns.length (hcs a c) 0 (hps5 a b c) = [2, 4] from F.t5]
  refine ⟨_, _, true, rfl, same_row (r := [2, 4]) (by simp), ?_⟩
  simp [-wsSeq]
  refine hk11 _ _ ?_
  clear hk11 k11
  refine seq_step fun k12 hk12 => ?_
  rw [hS']
  simp [-wsSeq, dSet, dChs, kMin2, kMax2, Ch.d]
  simp only [mn, mx]
  refine hk12 _ _ ?_
  clear hk12 k12
  have gM : Good hns (hmore a b c) := ⟨by simp, by simp, fun x hx => by
    have := F.la; have := F.lb; have := F.lc
    simp at hx
    rcases hx with rfl | rfl | rfl | rfl
    · exact F.lc
    · exact F.la
    · exact F.lc
    · show min a b < 3 ∧ max a b < 3; omega⟩
  refine seq_step fun k13 hk13 => ?_
  simp [-wsSeq]
  refine ⟨hns, hmore a b c, 0, .held c, rfl, gM, rfl, ?_⟩
  rw [show kinB hns.length ((hmore a b c).eraseIdx 0) (Ch.held c).rows.fst (Ch.held c).rows.snd = true from F.p0]
  simp [-wsSeq]
  refine ⟨hns, hmore a b c, 1, .held a, rfl, gM, rfl, ?_⟩
  rw [show kinB hns.length ((hmore a b c).eraseIdx 1) (Ch.held a).rows.fst (Ch.held a).rows.snd = false from F.p1]
  simp [-wsSeq]
  refine ⟨hns, hmore a b c, 2, .idle c, rfl, gM, rfl, ?_⟩
  rw [show kinB hns.length ((hmore a b c).eraseIdx 2) (Ch.idle c).rows.fst (Ch.idle c).rows.snd = false from F.p2]
  simp [-wsSeq]
  refine hk13 _ _ ?_
  clear hk13 k13
  refine seq_step fun k14 hk14 => ?_
  simp [-wsSeq, kMin2, kMax2]
  simp only [mn, mx]
  have la := F.la
  have lb := F.lb
  have lc := F.lc
  refine ⟨hns, hcs a c, .loose (min a c) (max a c), rfl, gS, by show min a c < 3 ∧ max a c < 3; omega, ?_⟩
  rw [show kinB hns.length (hcs a c) (Ch.loose (min a c) (max a c)).rows.fst (Ch.loose (min a c) (max a c)).rows.snd = true from F.j1]
  simp [-wsSeq]
  refine ⟨hns, hcs a c, .held b, rfl, gS, lb, ?_⟩
  rw [show kinB hns.length (hcs a c) (Ch.held b).rows.fst (Ch.held b).rows.snd = false from F.j2]
  simp [-wsSeq]
  refine hk14 _ _ ?_
  clear hk14 k14
  refine seq_step fun k15 hk15 => ?_
  simp [-wsSeq]
  refine ⟨hns, hmore a b c, .held b, rfl, gM, lb, ?_⟩
  rw [show kinB hns.length (hmore a b c) (Ch.held b).rows.fst (Ch.held b).rows.snd = true from F.j3]
  simp [-wsSeq]
  refine ⟨hns, hmore a b c, .idle a, rfl, gM, la, ?_⟩
  rw [show kinB hns.length (hmore a b c) (Ch.idle a).rows.fst (Ch.idle a).rows.snd = false from F.j4]
  simp [-wsSeq]
  refine ⟨hns, hmore a b c, 3, .same (min a b) (max a b), rfl, gM, rfl, ?_⟩
  rw [show kinB hns.length ((hmore a b c).eraseIdx 3) (Ch.same (min a b) (max a b)).rows.fst (Ch.same (min a b) (max a b)).rows.snd = false from F.p3]
  simp [-wsSeq]
  refine hk15 _ _ ?_
  clear hk15 k15
  simp [wSortD, kMin2, kMax2]
  simp only [mn, mx]
  refine ⟨insE w11, w, q, hns, hcs a c, _, rfl, w11, by simp, by simp, gS, P5, ?_⟩
  refine ⟨⟨_, toPys_chs (hdue2 a b c), sortOk_chs (by simp)⟩, ?_⟩
  have e9 := srt (hdue2 a b c) _ F.e5
  rw [show [D.tup [.str "idle", .int (b : Nat)], .tup [.str "same", .int (min a b : Nat), .int (max a b : Nat)], .tup [.str "same", .int (min b c : Nat), .int (max b c : Nat)]] = (hdue2 a b c).map Ch.d from rfl, e9]
  refine ⟨_, _, true, rfl, same_ob get_new0 (by rw [List.length_map]; exact elen _) (fun x hx => by obtain ⟨y, _, rfl⟩ := List.mem_map.mp hx; exact same_chd), ?_⟩
  exact kp_cut kp11.app kg h2 (by simp) p
end Hd
set_option Elab.async false
set_option linter.all false
set_option maxRecDepth 100000
set_option maxHeartbeats 2000000
/-! M9a: the rows of a setting's own changes. -/
namespace Hd
open PySem PySem.Spec PyProof.Rows L2 Vd
theorem rows_ne {m : Nat} {c : Ch} (h : c ∈ every m) : c.rows.1 ≠ c.rows.2 := by
  simp only [every, prs, List.mem_append, List.mem_map, List.mem_range, List.mem_flatMap, List.mem_filter, decide_eq_true_eq, Prod.exists] at h
  rcases h with ((⟨s, hs, rfl⟩ | ⟨s, hs, rfl⟩) | ⟨s, t, ⟨s', h1, t', h2, e⟩, rfl⟩) | ⟨s, t, ⟨s', h1, t', h2, e⟩, rfl⟩
  · simp [Ch.rows]
  · simp [Ch.rows]
  · cases e; simp [Ch.rows]; omega
  · cases e; simp [Ch.rows]; omega
theorem rows_below {m : Nat} {c : Ch} (h : c.ok m) : Below m c.rows.1 ∧ Below m c.rows.2 := by
  cases c <;> simp only [Ch.rows, Ch.ok] at h ⊢ <;> refine ⟨fun x hx => ?_, fun x hx => ?_⟩ <;> simp at hx <;> omega
theorem rows_kin {m : Nat} {cs : List Ch} (h : ∀ c ∈ cs, c.ok m) {c : Ch} (hc : c ∈ cs) : kinB m cs c.rows.1 c.rows.2 = true :=
  (kin_iff h (rows_below (h c hc)).1 (rows_below (h c hc)).2).mpr (Conn.of hc)
theorem strange0 {m : Nat} {cs : List Ch} (h : ∀ c ∈ cs, c.ok m) : ∀ {ds : List Ch} {k : Nat}, (∀ c ∈ ds, c ∈ cs) → strangeL m cs k (ds.map Ch.rows) = []
  | [], k, _ => rfl
  | d :: ds, k, hd => by
    rw [List.map_cons, strangeL, if_pos (rows_kin h (hd d List.mem_cons_self)), strange0 h (ds := ds) fun c hc => hd c (List.mem_cons_of_mem _ hc)]
    rfl
theorem expl0 {m : Nat} (hm : m ≤ 5) {cs : List Ch} (h : ∀ c ∈ cs, c.ok m) : explL m cs (cs.map Ch.rows) (every m) = every m := by
  unfold explL
  rw [List.filter_eq_self]
  intro c hc
  rw [List.all_eq_true]
  intro p hp
  obtain ⟨d, hd, rfl⟩ := List.mem_map.mp hp
  exact rows_kin (fun x hx => (List.mem_append.mp hx).elim (h x) fun z => by rw [List.mem_singleton.mp z]; exact every_ok hm c hc) (List.mem_append_left _ hd)
theorem need_iff {m : Nat} (hm : m ≤ 5) {cs : List Ch} (h : ∀ c ∈ cs, c.ok m) (he : ∀ c ∈ cs, c ∈ every m) {k : Nat} (hk : k < cs.length) :
    k ∈ lneed m cs (cs.map Ch.rows) (List.range cs.length) ↔ kinB m (cs.eraseIdx k) cs[k].rows.1 cs[k].rows.2 = false := by
  unfold lneed
  rw [List.mem_filter, decide_eq_true_eq, List.length_pos_iff]
  have h' : ∀ c ∈ cs.eraseIdx k, c.ok m := fun c hc => h c (erase_in c hc)
  have kk : ∀ c ∈ cs, lkin m (cs.eraseIdx k) c.rows.1 c.rows.2 = kinB m (cs.eraseIdx k) c.rows.1 c.rows.2 := fun c hc => (mkin m _ _ _ hm h' (rows_below (h c hc)).1 (rows_below (h c hc)).2).symm
  constructor
  · rintro ⟨_, ne⟩
    obtain ⟨p, hp⟩ := List.exists_mem_of_ne_nil _ ne
    rw [List.mem_filter] at hp
    obtain ⟨hp1, hp2⟩ := hp
    obtain ⟨d, hd, rfl⟩ := List.mem_map.mp (List.mem_filter.mp hp1).1
    rw [kk d hd] at hp2
    obtain ⟨j, hj, rfl⟩ := List.mem_iff_getElem.mp hd
    by_cases e : j = k
    · subst e
      simpa using hp2
    · have : cs[j] ∈ cs.eraseIdx k := List.mem_eraseIdx_iff_getElem.mpr ⟨j, hj, e, rfl⟩
      rw [rows_kin h' this] at hp2
      cases hp2
  · intro hf
    have hd := List.getElem_mem hk
    refine ⟨List.mem_range.mpr hk, List.ne_nil_of_mem (a := cs[k].rows) ?_⟩
    rw [List.mem_filter]
    unfold lheard
    rw [List.mem_filter, Bool.and_eq_true, decide_eq_true_eq]
    refine ⟨⟨List.mem_map_of_mem hd, rows_ne (he _ hd), ?_⟩, ?_⟩
    · rw [← mkin m _ _ _ hm h (rows_below (h _ hd)).1 (rows_below (h _ hd)).2]
      exact rows_kin h hd
    · rw [kk _ hd, hf]; rfl
theorem in_lexpl {m : Nat} (hm : m ≤ 5) {cs : List Ch} (h : ∀ c ∈ cs, c.ok m) {c : Ch} (hc : c ∈ every m) : c ∈ lexpl m cs [c.rows] (every m) := by
  have hc' : ∀ x ∈ cs ++ [c], x.ok m := fun x hx => (List.mem_append.mp hx).elim (h x) fun z => by rw [List.mem_singleton.mp z]; exact every_ok hm c hc
  have ok := every_ok hm c hc
  rw [← (mbook hm h (every_ok hm) (ps := [c.rows]) fun p hp => by rw [List.mem_singleton.mp hp]; exact rows_below ok).e]
  unfold explL
  rw [List.mem_filter]
  refine ⟨hc, ?_⟩
  rw [List.all_eq_true]
  intro p hp
  rw [List.mem_singleton.mp hp]
  exact rows_kin hc' (by simp)
theorem lay_chs : ∀ l : List Ch, PyData.canLayAll0 (l.map pCh) = true
  | [] => by simp [PyData.canLayAll0]
  | c :: l => by
    rw [List.map_cons, PyData.canLayAll0, lay_chs l, Bool.and_true]
    cases c <;> simp [pCh, PyData.canLay0, PyData.canLayAll0] <;> decide +kernel
theorem dep_chs : ∀ l : List Ch, PyData.depthAll (l.map pCh) ≤ 1
  | [] => by simp [PyData.depthAll]
  | c :: l => by
    have := dep_chs l
    rw [List.map_cons, PyData.depthAll]
    have h2 : (pCh c).depth ≤ 1 := by cases c <;> simp [pCh, PyData.depth, PyData.depthAll]
    omega
theorem kIn_chs {F : Bool → Bool} {st : Sto} {k : Nat} {c : Ch} {l : List Ch} {P : D → Sto → Prop} (h : st[k]? = some (.lst (l.map Ch.d))) (hl : l.length ≤ 1000) (hc : c ∈ l) (q : P (.bl (F true)) st) : kInF F c.d (.ob k) st P := by
  have hne : l ≠ [] := List.ne_nil_of_mem hc
  have e1 : flatD c.d = none := by cases c <;> rfl
  simp only [kInF, h, e1, toPy_ch, toPys_chs]
  refine ⟨?_, ?_, ?_⟩
  · cases c <;> simp [SeqAt.shaped, pCh, PyData.depth, PyData.depthAll, PyData.canLay0, PyData.canLayAll0] <;> decide +kernel
  · rw [SeqAt.shaped, Bool.and_eq_true, decide_eq_true_eq, PyData.canLay0, PyData.depth]
    exact ⟨lay_chs l, by have := dep_chs l; omega⟩
  · have : (l.map pCh).any (fun z => PyData.eqv z (pCh c)) = true := by
      rw [List.any_eq_true]
      refine ⟨pCh c, List.mem_map_of_mem hc, ?_⟩
      cases c <;> simp [pCh, PyData.eqv, PyData.eqvAll]
    rw [this]; exact q
end Hd
set_option Elab.async false
set_option linter.all false
set_option maxRecDepth 100000
set_option maxHeartbeats 2000000
/-! M9b: the pieces of the watch of changes. -/
namespace Hd
open PySem PySem.Spec PyProof.Rows L2 Vd
def wF0 : WS := (wsSet 7 (wNew (wLst (waCons (wTup (waCons (w2 kIx (wVar 6) (wK (.int 1))) waNil)) (waCons (wTup (waCons (w2 kIx (wVar 6) (w2 kSub (wBlt kLen (waCons (wVar 6) waNil)) (wK (.int 1)))) waNil)) waNil)))))
def wF1 : WS := (wsIf (wTst (w2 kEq (w2 kIx (wVar 6) (wK (.int 0))) (wK (.str "held")))) (wsSet 7 (wNew (wLst (waCons (wTup (waCons (w2 kIx (wVar 6) (wK (.int 1))) waNil)) (waCons (wTup (waCons (w2 kIx (wVar 6) (wK (.int 1))) (waCons (w2 kIx (wVar 6) (wK (.int 1))) waNil))) waNil))))) wsNext)
def wF2 : WS := (wsIf (wTst (w2 kEq (w2 kIx (wVar 6) (wK (.int 0))) (wK (.str "idle")))) (wsSet 7 (wNew (wLst (waCons (wTup waNil) (waCons (wTup (waCons (w2 kIx (wVar 6) (wK (.int 1))) waNil)) waNil))))) wsNext)
def wF3 : WS := (wsIf (wTst (w2 kEq (w2 kIx (wVar 6) (wK (.int 0))) (wK (.str "loose")))) (wsSet 7 (wNew (wLst (waCons (wTup (waCons (w2 kIx (wVar 6) (wK (.int 1))) (waCons (w2 kIx (wVar 6) (wK (.int 2))) waNil))) (waCons (wTup (waCons (w2 kIx (wVar 6) (wK (.int 2))) (waCons (w2 kIx (wVar 6) (wK (.int 1))) waNil))) waNil))))) wsNext)
def wF4 : WS := (wsIf (wOr (wNot (wTru (wCall 2 (spSame 8) (waCons (wCall 1 spTwoRows (waCons (wVar 6) waNil)) (waCons (wBlt kTupOf (waCons (wVar 7) waNil)) waNil))))) (wNot (wTru (wCall 4 spLSee (waCons (wVar 4) (waCons (wVar 3) (waCons (wBlt kTupOf (waCons (wVar 7) waNil)) (waCons (wVar 2) waNil)))))))) (wsRet (wK (.bl false))) wsNext)
def wG0 : WS := (wsSet 10 (wIf (wTru (wVar 2)) (wCallK 0 2 2 spIsSpare waNil (waCons (wVar 1) (waCons (wVar 9) waNil))) (wCall 2 spIsSpare (waCons (wVar 1) (waCons (wVar 9) waNil)))))
def wG1 : WS := (wsIf (wOr (wAnd (wTst (w2 kIn (wVar 9) (wVar 8))) (wTst (w2 kIsNot (wVar 10) (wK (.bl false))))) (wAnd (wTst (w2 kNotIn (wVar 9) (wVar 8))) (wTst (w2 kIsNot (wVar 10) (wK (.bl true)))))) (wsRet (wK (.bl false))) wsNext)
def wH0 : WS := (wsSet 6 (w2 kIx (wVar 11) (wCall 2 spPour (waCons (wVar 0) (waCons (wBlt kLen (waCons (wVar 11) waNil)) waNil)))))
def wH1 : WS := (wsSet 7 (wIf (wTst (w2 kEq (w2 kIx (wVar 6) (wK (.int 0))) (wK (.str "held")))) (wTup (waCons (wTup (waCons (w2 kIx (wVar 6) (wK (.int 1))) waNil)) (waCons (wTup (waCons (w2 kIx (wVar 6) (wK (.int 1))) (waCons (w2 kIx (wVar 6) (wK (.int 1))) waNil))) waNil))) (wTup (waCons (wTup waNil) (waCons (wTup (waCons (w2 kIx (wVar 6) (wK (.int 1))) waNil)) waNil)))))
def wH2 : WS := (wsIf (wTst (w2 kEq (w2 kIx (wVar 6) (wK (.int 0))) (wK (.str "same")))) (wsSet 7 (wTup (waCons (wTup (waCons (w2 kIx (wVar 6) (wK (.int 1))) waNil)) (waCons (wTup (waCons (w2 kIx (wVar 6) (wK (.int 2))) waNil)) waNil)))) wsNext)
def wH3 : WS := (wsIf (wTst (w2 kEq (w2 kIx (wVar 6) (wK (.int 0))) (wK (.str "loose")))) (wsSet 7 (wTup (waCons (wTup (waCons (w2 kIx (wVar 6) (wK (.int 1))) (waCons (w2 kIx (wVar 6) (wK (.int 2))) waNil))) (waCons (wTup (waCons (w2 kIx (wVar 6) (wK (.int 2))) (waCons (w2 kIx (wVar 6) (wK (.int 1))) waNil))) waNil)))) wsNext)
def wH4 : WS := (wsSet 12 (wMake "Watch" 2 spWInit (waCons (wVar 1) waNil)))
def wH5 : WS := (wsSet 13 (wCall 3 spAlike (waCons (wVar 5) (waCons (w2 kIx (wVar 7) (wK (.int 0))) (waCons (w2 kIx (wVar 7) (wK (.int 1))) waNil)))))
def wH6 : WS := (wsSet 10 (wIf (wTru (wVar 2)) (wCallK 0 2 2 spJoins waNil (waCons (wVar 1) (waCons (wVar 6) waNil))) (wCall 2 spJoins (waCons (wVar 1) (waCons (wVar 6) waNil)))))
def wH7 : WS := (wsIf (wOr (wAnd (wTru (wVar 13)) (wTst (w2 kIsNot (wVar 10) (wK (.bl true))))) (wAnd (wNot (wTru (wVar 13))) (wTst (w2 kIsNot (wVar 10) (wK (.bl false)))))) (wsRet (wK (.bl false))) wsNext)
def wH8 : WS := (wsIf (wNot (wTru (wCall 2 (spSame 8) (waCons (wMeth "Watch" "see" 3 spSee (wVar 12) (waCons (w2 kIx (wVar 7) (wK (.int 0))) (waCons (w2 kIx (wVar 7) (wK (.int 1))) waNil))) (waCons (wIf (wTru (wVar 13)) (wK (.str "heard")) (wK (.str "strange"))) waNil))))) (wsRet (wK (.bl false))) wsNext)
def wH9 : WS := (wsIf (wOr (wNot (wTru (wCall 2 (spSame 8) (waCons (wMeth "Watch" "strange" 1 spStrange (wVar 12) waNil) (waCons (wIf (wTru (wVar 13)) (wTup waNil) (wTup (waCons (wK (.int 0)) waNil))) waNil))))) (wTst (w2 kNotIn (wVar 6) (wCall 2 spLExpl (waCons (wVar 1) (waCons (wNew (wLst (waCons (wVar 7) waNil))) waNil)))))) (wsRet (wK (.bl false))) wsNext)
def wH10 : WS := (wsIf (wNot (wTru (wCall 2 (spSame 8) (waCons (wMeth "Watch" "explaining" 1 spExpl (wVar 12) waNil) (waCons (wCall 2 spLExpl (waCons (wVar 1) (waCons (wNew (wLst (waCons (wVar 7) waNil))) waNil))) waNil))))) (wsRet (wK (.bl false))) wsNext)
theorem ends1 {s : Sto} {W : WEnds} {e0 e1 e2 e3 e4 e5 o7 e8 e9 e10 e11 e12 e13 : Option D} (c : Ch)
    (H : ∀ (G : Sto) (j : Nat), (s ++ G)[j]? = some (.lst [dRow c.rows.1, dRow c.rows.2]) → wF4 W [e0, e1, e2, e3, e4, e5, some c.d, some (.ob j), e8, e9, e10, e11, e12, e13] (s ++ G)) :
    wsSeq wF0 (wsSeq wF1 (wsSeq wF2 (wsSeq wF3 wF4))) W [e0, e1, e2, e3, e4, e5, some c.d, o7, e8, e9, e10, e11, e12, e13] s := by
  cases c with
  | held a =>
    simp [wF0, wF1, wF2, wF3, Ch.d, kLen, lenD]
    exact H _ (s.length + 1) (by rw [get_new]; rfl)
  | idle a =>
    simp [wF0, wF1, wF2, wF3, Ch.d, kLen, lenD]
    exact H _ (s.length + 1) (by rw [get_new]; rfl)
  | loose a b =>
    simp [wF0, wF1, wF2, wF3, Ch.d, kLen, lenD]
    exact H _ (s.length + 1) (by rw [get_new]; rfl)
  | same a b =>
    simp [wF0, wF1, wF2, wF3, Ch.d, kLen, lenD]
    exact H _ s.length (by rw [get_new0]; rfl)
theorem ends3 {s : Sto} {W : WEnds} {e0 e1 e2 e3 e4 e5 o7 e8 e9 e10 e11 e12 e13 : Option D} (c : Ch) {R : WS}
    (H : R W [e0, e1, e2, e3, e4, e5, some c.d, some (dPair c.rows), e8, e9, e10, e11, e12, e13] s) :
    wsSeq wH1 (wsSeq wH2 (wsSeq wH3 R)) W [e0, e1, e2, e3, e4, e5, some c.d, o7, e8, e9, e10, e11, e12, e13] s := by
  cases c with
  | held a =>
    simp [wH1, wH2, wH3, Ch.d]
    exact H
  | idle a =>
    simp [wH1, wH2, wH3, Ch.d]
    exact H
  | loose a b =>
    simp [wH1, wH2, wH3, Ch.d]
    exact H
  | same a b =>
    simp [wH1, wH2, wH3, Ch.d]
    exact H

end Hd
set_option Elab.async false
set_option linter.all false
set_option maxRecDepth 100000
set_option maxHeartbeats 2000000
/-! M9: a watch of the changes' own rows. -/
namespace Hd
open PySem PySem.Spec PyProof.Rows L2 Vd
def spOfCh : DSp := fun ds st P => ∃ (g t : Nat) (ns : List Str) (cs : List Ch) (nm : Bool), ds = [.ob g, dSet ns cs, .bl nm] ∧ KegAt st g t ∧ Good ns cs ∧ 0 < ns.length ∧ ns.length ≤ 5 ∧ cs.length ≤ 100 ∧ (∀ c ∈ cs, c ∈ every ns.length) ∧ ∀ s2, s2.length = st.length → KP st s2 g t → P (.bl true) s2
/-- what stands while the changes are seen -/
structure CI (st s : Sto) (g t w q B : Nat) (ns : List Str) (cs : List Ch) (ps : List Pr) : Prop where
  kp : KP st s g t
  w : WatchAt s w q ns cs ps
  b0 : s[B]? = some (cPairs ps)
  b1 : s[B + 1]? = some (.lst [dSet ns cs, .ob B])
  b2 : s[B + 2]? = some (cInts (lawLots ns.length cs))
  b3 : s[B + 3]? = some (Cell.dT (lawMarks (lawLots ns.length cs) cs))
theorem CI.app {st s x : Sto} {g t w q B : Nat} {ns : List Str} {cs : List Ch} {ps : List Pr} (h : CI st s g t w q B ns cs ps) : CI st (s ++ x) g t w q B ns cs ps :=
  ⟨h.kp.app, watch_app h.w, get_app h.b0, get_app h.b1, get_app h.b2, get_app h.b3⟩
theorem CI.put {st s : Sto} {g t w q B : Nat} {ns : List Str} {cs : List Ch} {ps ps' : List Pr} (h : CI st s g t w q B ns cs ps) (kg : KegAt st g t) (hq0 : st.length ≤ q) (hq : q < B) (hw : w < B) (hwq : w ≠ q) : CI st ((s.set q (cPairs ps')).set B (cPairs ps')) g t w q B ns cs ps' := by
  have hB := get_lt h.b0
  refine ⟨(h.kp.put kg hq0).put kg (by omega), ⟨?_, ?_⟩, ?_, ?_, ?_, ?_⟩
  · rw [List.getElem?_set_ne (by omega), List.getElem?_set_ne (by omega)]; exact h.w.1
  · rw [List.getElem?_set_ne (by omega), List.getElem?_set_self (get_lt h.w.2)]
  · rw [List.getElem?_set_self (by simpa using hB)]
  · rw [List.getElem?_set_ne (by omega), List.getElem?_set_ne (by omega)]; exact h.b1
  · rw [List.getElem?_set_ne (by omega), List.getElem?_set_ne (by omega)]; exact h.b2
  · rw [List.getElem?_set_ne (by omega), List.getElem?_set_ne (by omega)]; exact h.b3
theorem CI.pour {st s s' : Sto} {g t w q B : Nat} {ns : List Str} {cs : List Ch} {ps : List Pr} (h : CI st s g t w q B ns cs ps) (k : KP s s' g t) (hg : g < st.length) (ht : t < st.length) (hq0 : st.length ≤ q) (hw : st.length ≤ w) (hB : st.length ≤ B) : CI st s' g t w q B ns cs ps :=
  ⟨h.kp.trans k, ⟨k.get h.w.1 (by omega) (by omega), k.get h.w.2 (by omega) (by omega)⟩, k.get h.b0 (by omega) (by omega), k.get h.b1 (by omega) (by omega), k.get h.b2 (by omega) (by omega), k.get h.b3 (by omega) (by omega)⟩
theorem KegAt.keep {s s' : Sto} {g t : Nat} (h : KegAt s g t) (k : Keep s s' []) : KegAt s' g t := by
  obtain ⟨tl, d, n, g1, g2, g3⟩ := h
  exact ⟨tl, d, n, by rw [k.2 g (get_lt g1) (by simp)]; exact g1, by rw [k.2 t (get_lt g2) (by simp)]; exact g2, g3⟩
theorem Keep.got {s s' : Sto} {i : Nat} {c : Cell} (k : Keep s s' []) (h : s[i]? = some c) : s'[i]? = some c := by rw [k.2 i (get_lt h) (by simp)]; exact h
theorem KP.keep0 {st s s' : Sto} {g t : Nat} (h : KP st s g t) (k : Keep s s' []) : KP st s' g t := ⟨⟨Nat.le_trans h.1.1 k.1, fun i hi hn => by rw [k.2 i (Nat.lt_of_lt_of_le hi h.1.1) (by simp)]; exact h.1.2 i hi hn⟩, h.2.keep k⟩
theorem CI.keep {st s s' : Sto} {g t w q B : Nat} {ns : List Str} {cs : List Ch} {ps : List Pr} (h : CI st s g t w q B ns cs ps) (k : Keep s s' []) : CI st s' g t w q B ns cs ps :=
  ⟨h.kp.keep0 k, ⟨k.got h.w.1, k.got h.w.2⟩, k.got h.b0, k.got h.b1, k.got h.b2, k.got h.b3⟩
theorem Keep.new {s s' : Sto} {c : Cell} (k : Keep (s ++ [c]) s' [s.length]) : Keep s s' [] := ⟨by have := k.1; simp at this; omega, fun i hi _ => by
  rw [k.2 i (by simp; omega) (by simp; omega), List.getElem?_append_left hi]⟩
theorem rows_goodP {ns : List Str} {cs : List Ch} (h : ∀ c ∈ cs, c.ok ns.length) (hl : cs.length ≤ 1000) : GoodP ns (cs.map Ch.rows) := ⟨fun p hp => by
  obtain ⟨c, hc, rfl⟩ := List.mem_map.mp hp
  exact rows_good (h c hc), by simpa using hl⟩
theorem watch_ins {s : Sto} {w q : Nat} {ns : List Str} {cs : List Ch} {ps : List Pr} (h : WatchAt s w q ns cs ps) : insOf s "Watch" "strange" (.ob w) ∧ insOf s "Watch" "pairs" (.ob w) ∧ insOf s "Watch" "needed" (.ob w) ∧ insOf s "Watch" "explaining" (.ob w) ∧ insOf s "Watch" "see" (.ob w) :=
  ⟨⟨_, h.1, by simp [-List.lookup_eq_none_iff]⟩, ⟨_, h.1, by simp [-List.lookup_eq_none_iff]⟩, ⟨_, h.1, by simp [-List.lookup_eq_none_iff]⟩, ⟨_, h.1, by simp [-List.lookup_eq_none_iff]⟩, ⟨_, h.1, by simp [-List.lookup_eq_none_iff]⟩⟩
theorem keeps_ofCh : Keeps 3 14 (w__law_of_changes spTwoRows spWInit spSee spStrange spExpl spNeed spJoins spIsSpare spPour spEvery spLots spAlike (spSame 8) spLExpl spLNeed spLSee) spOfCh := by
  intro ds st P hl h1 h2 ⟨g, t, ns, cs, nm, e, kg, gs, hm, hm5, hc, hev, p⟩
  subst e
  obtain ⟨hg, ht⟩ := kg.lt
  simp only [w__law_of_changes, startE]
  refine seq_step fun k1 hk1 => ?_
  simp [-wsSeq]
  refine ⟨st.length, ns, cs, rfl, by simp, fun s1 q kk hq ww => ⟨rfl, hk1 _ _ ?_⟩⟩
  clear hk1 k1
  have kp1 : KP st s1 g t := (KP.refl kg).app.keep kg kk (by omega)
  have hq0 : st.length ≤ q := by simp at hq; omega
  have hwq : st.length ≠ q := by simp at hq; omega
  have hlen := kk.1
  clear kk hq
  generalize hw : st.length = w at *
  have hw0 : st.length ≤ w := by omega
  refine seq_step fun k2 hk2 => ?_
  simp [-wsSeq]
  refine hk2 _ _ ?_
  clear hk2 k2
  refine seq_step fun k3 hk3 => ?_
  simp [-wsSeq, dSet]
  refine ⟨ns, cs, cs, by simp [dSet, dChs], gs.n, gs.c, gs.ok, hk3 _ _ ?_⟩
  clear hk3 k3
  have eS : D.tup [.tup (ns.map D.str), dChs cs] = dSet ns cs := rfl
  rw [eS]
  obtain ⟨hwl, hql⟩ : w < s1.length ∧ q < s1.length := ⟨get_lt ww.1, get_lt ww.2⟩
  simp [-wsSeq, -wsFor, -wsRet]
  generalize hG : [Cell.lst [], Cell.lst [dSet ns cs, .ob s1.length], cInts (lawLots ns.length cs), Cell.dT (lawMarks (lawLots ns.length cs) cs)] = G
  generalize hS3 : s1 ++ G = s3
  have c0 : s3[s1.length]? = some (cPairs []) := by rw [← hS3, get_new0, ← hG]; rfl
  have c1 : s3[s1.length + 1]? = some (.lst [dSet ns cs, .ob s1.length]) := by rw [← hS3, get_new, ← hG]; rfl
  have c2 : s3[s1.length + 2]? = some (cInts (lawLots ns.length cs)) := by rw [← hS3, get_new, ← hG]; rfl
  have c3 : s3[s1.length + 3]? = some (Cell.dT (lawMarks (lawLots ns.length cs) cs)) := by rw [← hS3, get_new, ← hG]; rfl
  have w3 : WatchAt s3 w q ns cs [] := by rw [← hS3]; exact watch_app ww
  have kp3 : KP st s3 g t := by rw [← hS3]; exact kp1.app
  clear hS3 hG
  generalize s1.length = B at *
  have ci : CI st s3 g t w q B ns cs [] := ⟨kp3, w3, c0, c1, c2, c3⟩
  clear c0 c1 c2 c3 w3 kp3 kp1 ww
  have hw0' : st.length ≤ w := by omega
  have hq0' : st.length ≤ q := by omega
  have hB0 : st.length ≤ B := by omega
  refine seq_step fun k4 hk4 => ?_
  show wsFor _ _ (wsSeq wF0 (wsSeq wF1 (wsSeq wF2 (wsSeq wF3 wF4)))) _ _ _
  simp [-wsSeq, wiSeq, dSet, dChs]
  rw [show D.tup [.tup (ns.map D.str), .tup (cs.map Ch.d)] = dSet ns cs from rfl]
  refine loop_ind (fun ds env s => ∃ (A R : List Ch) (o6 o7 : Option D), ds = R.map Ch.d ∧ cs = A ++ R ∧ CI st s g t w q B ns cs (A.map Ch.rows) ∧ env = [some (.ob g), some (dSet ns cs), some (.bl nm), some (.ob w), some (.ob (B + 1)), some (.tup [.ob (B + 2), .ob (B + 3)]), o6, o7, none, none, none, none, none, none])
    (fun env s ⟨A, R, o6, o7, e1, e2, ci, e3⟩ => ?_) (fun d ds env s ⟨A, R, o6, o7, e1, e2, ci, e3⟩ ih => ?_) _ _ _ ⟨[], cs, none, none, rfl, rfl, ci, rfl⟩
  · subst e3
    obtain rfl : R = [] := by simpa using e1.symm
    rw [List.append_nil] at e2
    subst e2
    refine ⟨trivial, hk4 _ _ ?_⟩
    clear hk4 k4
    have gP := rows_goodP (ns := ns) (cs := cs) gs.ok gs.c
    obtain ⟨i1, i2, i3, i4, i5⟩ := watch_ins ci.w
    have mb : MBook ns.length cs (cs.map Ch.rows) := mbook hm5 gs.ok (every_ok hm5) fun p hp => ⟨(gP.r p hp).1.b, (gP.r p hp).2.b⟩
    refine seq_step fun k5 hk5 => ?_
    simp [-wsSeq, -wsFor]
    refine ⟨i1, w, q, ns, cs, _, rfl, ci.w, gs, gP, ?_⟩
    rw [strange0 gs.ok (fun c hc => hc)]
    refine ⟨_, _, true, rfl, same_tup (xs := []) (by simp) nofun, ?_⟩
    simp [-wsSeq, -wsFor, kLen, lenD]
    refine ⟨i4, w, q, ns, cs, _, rfl, ci.w, hm5, hc, gs, gP, ?_⟩
    rw [expl0 hm5 gs.ok]
    refine ⟨ns.length, by simp, hm5, _, _, true, rfl, same_ob get_new0 (by rw [List.length_map]; have := every_len hm5; omega) (fun x hx => by obtain ⟨y, _, rfl⟩ := List.mem_map.mp hx; exact same_chd), ?_⟩
    simp [-wsSeq, -wsFor]
    refine hk5 _ _ ?_
    clear hk5 k5 i1 i2 i3 i4 i5
    have ci2 := ci.app (x := [.lst ((every ns.length).map Ch.d)])
    generalize s ++ [Cell.lst ((every ns.length).map Ch.d)] = s4 at *
    clear ci
    refine seq_step fun k6 hk6 => ?_
    simp [-wsSeq, -wsFor, seqAt, ci2.b1, kIx_lst]
    refine ⟨ns, cs, B, _, rfl, ci2.b0, hc, gs, gP, ?_⟩
    have ci3 := ci2.app (x := [cInts (lneed ns.length cs (cs.map Ch.rows) (List.range cs.length))])
    have v3 : (s4 ++ [cInts (lneed ns.length cs (cs.map Ch.rows) (List.range cs.length))])[s4.length]? = some (cInts (lneed ns.length cs (cs.map Ch.rows) (List.range cs.length))) := get_new0
    generalize s4 ++ [cInts (lneed ns.length cs (cs.map Ch.rows) (List.range cs.length))] = s5 at *
    have hV : st.length ≤ s4.length := ci2.kp.1.1
    clear ci2
    generalize s4.length = V at *
    refine hk6 _ _ ?_
    clear hk6 k6
    refine seq_step fun k7 hk7 => ?_
    show wsFor _ _ (wsSeq wG0 wG1) _ _ _
    simp [-wsSeq, wiRng1, kLen, lenD, dSet, dChs]
    refine ⟨by omega, ?_⟩
    rw [rng_ints]
    rw [show D.tup [.tup (ns.map D.str), .tup (cs.map Ch.d)] = dSet ns cs from rfl]
    refine loop_ind (fun ds env s => ∃ (A R : List Nat) (o9 o10 : Option D), ds = dInts R ∧ List.range cs.length = A ++ R ∧ s = s5 ∧ env = [some (.ob g), some (dSet ns cs), some (.bl nm), some (.ob w), some (.ob (B + 1)), some (.tup [.ob (B + 2), .ob (B + 3)]), o6, o7, some (.ob V), o9, o10, none, none, none])
      (fun env s ⟨A, R, o9, o10, e1, e2, e4, e3⟩ => ?_) (fun d ds env s ⟨A, R, o9, o10, e1, e2, e4, e3⟩ ih => ?_) _ _ _ ⟨[], List.range cs.length, none, none, rfl, rfl, rfl, rfl⟩
    · subst e3 e4
      refine ⟨trivial, hk7 _ _ ?_⟩
      clear hk7 k7
      obtain ⟨i1, i2, i3, i4, i5⟩ := watch_ins ci3.w
      have ndl : (lneed ns.length cs (cs.map Ch.rows) (List.range cs.length)).length ≤ 1000 := Nat.le_trans (List.length_filter_le _ _) (by simp; omega)
      refine seq_step fun k8 hk8 => ?_
      simp [-wsSeq, -wsFor]
      refine ⟨i3, w, q, ns, cs, _, rfl, ci3.w, hc, gs, gP, ?_⟩
      rw [mb.n]
      refine ⟨_, _, true, rfl, same_ob v3 (by rw [ints_len]; exact ndl) same_ints, ?_⟩
      simp [-wsSeq, -wsFor]
      refine hk8 _ _ ?_
      clear hk8 k8
      refine seq_step fun k9 hk9 => ?_
      simp [-wsSeq, -wsFor, kLen, lenD, dSet]
      refine ⟨ns.length, rfl, hm5, hk9 _ _ ?_⟩
      clear hk9 k9
      rw [show D.tup [.tup (ns.map D.str), dChs cs] = dSet ns cs from rfl]
      have ci4 := ci3.app (x := [.lst ((every ns.length).map Ch.d)])
      have v4 : (s ++ [Cell.lst ((every ns.length).map Ch.d)])[V]? = _ := get_app v3
      have x4 : (s ++ [Cell.lst ((every ns.length).map Ch.d)])[s.length]? = some (.lst ((every ns.length).map Ch.d)) := get_new0
      have hX : st.length ≤ s.length := ci3.kp.1.1
      generalize s ++ [Cell.lst ((every ns.length).map Ch.d)] = s6 at *
      clear ci3 v3
      generalize s.length = X at *
      refine seq_step fun k10 hk10 => ?_
      show wsFor _ _ (wsSeq wH0 (wsSeq wH1 (wsSeq wH2 (wsSeq wH3 (wsSeq wH4 (wsSeq wH5 (wsSeq wH6 (wsSeq wH7 (wsSeq wH8 (wsSeq wH9 wH10)))))))))) _ _ _
      simp [-wsSeq, wiRng1]
      rw [show rngD 0 3 = dInts (List.range 3) from rng_ints 3]
      refine loop_ind (fun ds env s => ∃ (R : List Nat) (o6 o7 o9 o10 o12 o13 : Option D), ds = dInts R ∧ CI st s g t w q B ns cs (cs.map Ch.rows) ∧ s[V]? = some (cInts (lneed ns.length cs (cs.map Ch.rows) (List.range cs.length))) ∧ s[X]? = some (.lst ((every ns.length).map Ch.d)) ∧ env = [some (.ob g), some (dSet ns cs), some (.bl nm), some (.ob w), some (.ob (B + 1)), some (.tup [.ob (B + 2), .ob (B + 3)]), o6, o7, some (.ob V), o9, o10, some (.ob X), o12, o13])
        (fun env s ⟨R, o6, o7, o9, o10, o12, o13, e1, ci, v, x, e3⟩ => ?_) (fun d ds env s ⟨R, o6, o7, o9, o10, o12, o13, e1, ci, v, x, e3⟩ ih => ?_) _ _ _ ⟨List.range 3, _, _, _, _, _, _, rfl, ci4, v4, x4, rfl⟩
      · subst e3
        refine ⟨trivial, hk10 _ _ ?_⟩
        clear hk10 k10
        simp
        refine ⟨(watch_ins ci.w).2.2.1, w, q, ns, cs, _, rfl, ci.w, hc, gs, gP, ?_⟩
        rw [mb.n]
        refine ⟨_, _, true, rfl, same_ob v (by rw [ints_len]; exact ndl) same_ints, ?_⟩
        have := kp_cut (P := P) (d := .bl true) ci.kp kg (by rw [hw]; exact h2) (by simp) (fun s2 h3 h4 => p s2 (by rw [h3, hw]) h4)
        rwa [hw] at this
      · subst e3
        cases R with
        | nil => simp [dInts] at e1
        | cons y R =>
          simp only [dInts, List.map_cons, List.cons.injEq] at e1
          obtain ⟨rfl, e1⟩ := e1
          refine ⟨trivial, ?_⟩
          simp only [wgName, List.set_cons_succ, List.set_cons_zero]
          have el5 := every_len hm5
          have ep : 0 < (every ns.length).length := List.length_pos_iff.mpr (List.ne_nil_of_mem (a := Ch.held 0) (by simp [every]; omega))
          refine seq_step fun k11 hk11 => ?_
          simp [-wsSeq, wH0, kLen, lenD, x]
          refine ⟨g, t, (every ns.length).length, rfl, ci.kp.2, ep, by omega, fun r1 s1 hr1 hl1 kp1 => ?_⟩
          have ci1 := ci.pour kp1 (by omega) (by omega) hq0' hw0' hB0
          have v1 := kp1.get v (by omega) (by omega)
          have x1 := kp1.get x (by omega) (by omega)
          refine kIx_at x1 (d := (every ns.length)[r1].d) (by rw [List.getElem?_map, List.getElem?_eq_getElem hr1]; rfl) ?_
          have hce : (every ns.length)[r1] ∈ every ns.length := List.getElem_mem hr1
          generalize (every ns.length)[r1] = c at hce
          have cok := every_ok hm5 c hce
          obtain ⟨rb1, rb2⟩ := rows_below cok
          obtain ⟨gr1, gr2⟩ := rows_good cok
          refine hk11 _ _ ?_
          clear hk11 k11
          refine ends3 c ?_
          clear ci v x kp1
          have ck := hev
          refine seq_step fun k12 hk12 => ?_
          simp [-wsSeq, wH4]
          refine ⟨s1.length, ns, cs, rfl, by simp, fun s2 aq kk hq ww => ⟨rfl, hk12 _ _ ?_⟩⟩
          clear hk12 k12
          have ke2 : Keep s1 s2 [] := kk.new
          have haq : s1.length < aq := by simp at hq; omega
          clear kk hq
          have ci2 := ci1.keep ke2
          have ins2 := watch_ins ww
          have hkin : lalike (lawLots ns.length cs) (lawMarks (lawLots ns.length cs) cs) c.rows.1 c.rows.2 = kinB ns.length cs c.rows.1 c.rows.2 := (mkin ns.length cs _ _ hm5 gs.ok rb1 rb2).symm
          have haw : s1.length < s2.length := get_lt ww.1
          have mb1 : MBook ns.length cs [c.rows] := mbook hm5 gs.ok (every_ok hm5) fun p hp => by rw [List.mem_singleton.mp hp]; exact rows_below cok
          have hcne := rows_ne hce
          have hin := in_lexpl hm5 gs.ok hce
          have gP1 : GoodP ns [c.rows] := ⟨fun p hp => by rw [List.mem_singleton.mp hp]; exact ⟨gr1, gr2⟩, by simp⟩
          generalize hK : kinB ns.length cs c.rows.1 c.rows.2 = kin at *
          refine seq_step fun k13 hk13 => ?_
          simp [-wsSeq, wH5, dPair]
          refine ⟨B + 2, B + 3, ns.length, _, _, c.rows.1, c.rows.2, rfl, ci2.b2, ci2.b3, lots_len, rb1, gr1.l, rb2, gr2.l, ?_⟩
          rw [hkin]
          refine hk13 _ _ ?_
          clear hk13 k13
          refine seq_step fun k14 hk14 => ?_
          simp only [wH6, ↓wsSet]
          have jn : ∀ Q : D → Sto → Prop, Q (.bl kin) s2 → spJoins [dSet ns cs, c.d] s2 Q := fun Q hQ => ⟨ns, cs, c, rfl, gs, cok, by rw [hK]; exact hQ⟩
          have e14 : ∀ (Q : D → Sto → Prop) (e7 e9 e10 e12 e13 : Option D), Q (.bl kin) s2 → wIf (wTru (wVar 2)) (wCallK 0 2 2 spJoins waNil (waCons (wVar 1) (waCons (wVar 6) waNil))) (wCall 2 spJoins (waCons (wVar 1) (waCons (wVar 6) waNil))) [some (.ob g), some (dSet ns cs), some (.bl nm), some (.ob w), some (.ob (B + 1)), some (.tup [.ob (B + 2), .ob (B + 3)]), some c.d, e7, some (.ob V), e9, e10, some (.ob X), e12, e13] s2 Q := fun Q e7 e9 e10 e12 e13 hQ => by
            cases nm
            · simp; exact jn _ hQ
            · simp; exact jn _ hQ
          refine e14 _ _ _ _ _ _ ?_
          simp only [List.set_cons_succ, List.set_cons_zero]
          refine hk14 _ _ ?_
          clear hk14 k14 e14 jn
          refine seq_step fun k15 hk15 => ?_
          have e15 : k15 [some (.ob g), some (dSet ns cs), some (.bl nm), some (.ob w), some (.ob (B + 1)), some (.tup [.ob (B + 2), .ob (B + 3)]), some c.d, some (.tup [dRow c.rows.1, dRow c.rows.2]), some (.ob V), some (.int (y : Nat)), some (.bl kin), some (.ob X), some (.ob s1.length), some (.bl kin)] s2 → wH7 { nx := k15, rt := gcP w P, bk := k10, ct := fun env st => wLoop (wgName 9) (wsSeq wH0 (wsSeq wH1 (wsSeq wH2 (wsSeq wH3 (wsSeq wH4 (wsSeq wH5 (wsSeq wH6 (wsSeq wH7 (wsSeq wH8 (wsSeq wH9 wH10)))))))))) (fun _ => True) ds { nx := k10, rt := gcP w P } env st } [some (.ob g), some (dSet ns cs), some (.bl nm), some (.ob w), some (.ob (B + 1)), some (.tup [.ob (B + 2), .ob (B + 3)]), some c.d, some (.tup [dRow c.rows.1, dRow c.rows.2]), some (.ob V), some (.int (y : Nat)), some (.bl kin), some (.ob X), some (.ob s1.length), some (.bl kin)] s2 := fun h => by
            cases kin
            · simp [wH7]; exact h
            · simp [wH7]; exact h
          refine e15 (hk15 _ _ ?_)
          clear hk15 k15 e15
          refine seq_step fun k16 hk16 => ?_
          have wsee : seeS ns.length cs c.rows.1 c.rows.2 = if kin = true then ("heard" : Str) else "strange" := by
            unfold seeS
            rw [if_neg hcne, hK]
          have wst : strangeL ns.length cs 0 [c.rows] = if kin = true then [] else [0] := by
            simp only [strangeL, hK, List.append_nil]
          have w3 : WatchAt (s2.set aq (cPairs [c.rows])) s1.length aq ns cs [c.rows] := watch_set ww (by omega)
          have ke3 : Keep s1 (s2.set aq (cPairs [c.rows])) [] := ke2.set' (by omega)
          have e16 : ∀ (e7 e9 e12 : Option D) (W : WEnds), W.nx [some (.ob g), some (dSet ns cs), some (.bl nm), some (.ob w), some (.ob (B + 1)), some (.tup [.ob (B + 2), .ob (B + 3)]), some c.d, some (.tup [dRow c.rows.1, dRow c.rows.2]), e7, e9, e12, some (.ob X), some (.ob s1.length), some (.bl kin)] (s2.set aq (cPairs [c.rows])) → wH8 W [some (.ob g), some (dSet ns cs), some (.bl nm), some (.ob w), some (.ob (B + 1)), some (.tup [.ob (B + 2), .ob (B + 3)]), some c.d, some (.tup [dRow c.rows.1, dRow c.rows.2]), e7, e9, e12, some (.ob X), some (.ob s1.length), some (.bl kin)] s2 := fun e7 e9 e12 W h => by
            simp [wH8]
            refine ⟨ins2.2.2.2.2, s1.length, aq, ns, cs, [], c.rows.1, c.rows.2, rfl, ww, gs, ⟨nofun, by simp⟩, gr1, gr2, ?_⟩
            rw [wsee]
            cases kin
            · simp
              exact ⟨_, _, true, rfl, same_str, by simp; exact h⟩
            · simp
              exact ⟨_, _, true, rfl, same_str, by simp; exact h⟩
          refine e16 _ _ _ _ (hk16 _ _ ?_)
          clear hk16 k16 e16
          have ins3 := watch_ins w3
          have ci3 := ci1.keep ke3
          have v3 := ke3.got v1
          have x3 := ke3.got x1
          clear ci2 ins2 ww ke2
          generalize s2.set aq (cPairs [c.rows]) = s3 at *
          generalize s1.length = aw at *
          refine seq_step fun k17 hk17 => ?_
          have fin : ∀ (s : Sto) (o10 : Option D), Keep s1 s [] → wLoop (wgName 9) (wsSeq wH0 (wsSeq wH1 (wsSeq wH2 (wsSeq wH3 (wsSeq wH4 (wsSeq wH5 (wsSeq wH6 (wsSeq wH7 (wsSeq wH8 (wsSeq wH9 wH10)))))))))) (fun _ => True) ds { nx := k10, rt := gcP w P } [some (.ob g), some (dSet ns cs), some (.bl nm), some (.ob w), some (.ob (B + 1)), some (.tup [.ob (B + 2), .ob (B + 3)]), some c.d, some (.tup [dRow c.rows.1, dRow c.rows.2]), some (.ob V), some (.int (y : Nat)), o10, some (.ob X), some (.ob aw), some (.bl kin)] s := fun s o10 k =>
            ih _ _ ⟨R, _, _, _, _, _, _, e1, ci1.keep k, k.got v1, k.got x1, rfl⟩
          have lle : (lexpl ns.length cs [c.rows] (every ns.length)).length ≤ 1000 := Nat.le_trans (List.length_filter_le _ _) (by omega)
          have ee : ∀ (s : Sto) (Q : D → Sto → Prop), Q (.ob (s.length + 1)) (s ++ [cPairs [c.rows], .lst ((lexpl ns.length cs [c.rows] (every ns.length)).map Ch.d)]) → spLExpl [dSet ns cs, .ob s.length] (s ++ [.lst [.tup [dRow c.rows.1, dRow c.rows.2]]]) Q := fun s Q hQ =>
            ⟨ns, cs, s.length, [c.rows], rfl, by rw [get_new0]; rfl, hm5, hc, gs, gP1, by simpa [cPairs, dPair] using hQ⟩
          have e17 : ∀ (o10 : Option D) (W : WEnds), (∀ s, Keep s3 s [] → W.nx [some (.ob g), some (dSet ns cs), some (.bl nm), some (.ob w), some (.ob (B + 1)), some (.tup [.ob (B + 2), .ob (B + 3)]), some c.d, some (.tup [dRow c.rows.1, dRow c.rows.2]), some (.ob V), some (.int (y : Nat)), o10, some (.ob X), some (.ob aw), some (.bl kin)] s) → wH9 W [some (.ob g), some (dSet ns cs), some (.bl nm), some (.ob w), some (.ob (B + 1)), some (.tup [.ob (B + 2), .ob (B + 3)]), some c.d, some (.tup [dRow c.rows.1, dRow c.rows.2]), some (.ob V), some (.int (y : Nat)), o10, some (.ob X), some (.ob aw), some (.bl kin)] s3 := fun o10 W h => by
            simp [wH9]
            refine ⟨ins3.1, aw, aq, ns, cs, _, rfl, w3, gs, gP1, ?_⟩
            rw [wst]
            have part : spLExpl [dSet ns cs, .ob s3.length] (s3 ++ [.lst [.tup [dRow c.rows.1, dRow c.rows.2]]]) fun yy s2_1 => kNotIn c.d yy s2_1 fun d s1_1 => match d with
                | .bl b => if b = true then W.rt (.bl false) s1_1 else W.nx [some (.ob g), some (dSet ns cs), some (.bl nm), some (.ob w), some (.ob (B + 1)), some (.tup [.ob (B + 2), .ob (B + 3)]), some c.d, some (.tup [dRow c.rows.1, dRow c.rows.2]), some (.ob V), some (.int (y : Nat)), o10, some (.ob X), some (.ob aw), some (.bl kin)] s1_1
                | _ => False := by
              refine ee s3 _ ?_
              refine kIn_chs (l := lexpl ns.length cs [c.rows] (every ns.length)) (by rw [get_new]; rfl) lle hin ?_
              simp
              exact h _ Keep.app
            cases kin
            · simp
              refine ⟨_, _, true, rfl, same_row (r := [0]) (by simp), ?_⟩
              simp
              exact part
            · simp
              refine ⟨_, _, true, rfl, same_row (r := []) (by simp), ?_⟩
              simp
              exact part
          refine e17 _ _ fun s4 k4 => hk17 _ _ ?_
          clear hk17 k17 e17
          simp [wH10]
          have w4 : WatchAt s4 aw aq ns cs [c.rows] := ⟨k4.got w3.1, k4.got w3.2⟩
          refine ⟨(watch_ins w4).2.2.2.1, aw, aq, ns, cs, _, rfl, w4, hm5, hc, gs, gP1, ?_⟩
          rw [mb1.e]
          refine ee s4 _ ?_
          refine ⟨_, _, true, rfl, same_ob (xs := (lexpl ns.length cs [c.rows] (every ns.length)).map Ch.d) (by rw [get_new]; rfl) (by rw [List.length_map]; exact lle) (fun x hx => by obtain ⟨y, _, rfl⟩ := List.mem_map.mp hx; exact same_chd), ?_⟩
          simp
          exact fin _ _ ((ke3.trans k4).trans Keep.app)
    · subst e3 e4
      cases R with
      | nil => simp [dInts] at e1
      | cons k R =>
        simp only [dInts, List.map_cons, List.cons.injEq] at e1
        obtain ⟨rfl, e1⟩ := e1
        refine ⟨trivial, ?_⟩
        have hk : k < cs.length := List.mem_range.mp (by rw [e2]; simp)
        have hn := need_iff hm5 gs.ok hev hk
        have sp : ∀ (Q : D → Sto → Prop), Q (.bl (kinB ns.length (cs.eraseIdx k) cs[k].rows.1 cs[k].rows.2)) s → spIsSpare [dSet ns cs, .int (k : Nat)] s Q := fun Q hQ => ⟨ns, cs, k, cs[k], rfl, gs, List.getElem?_eq_getElem hk, hQ⟩
        simp only [wgName, List.set_cons_succ, List.set_cons_zero]
        refine seq_step fun k8 hk8 => ?_
        simp only [wG0, ↓wsSet]
        have e10 : ∀ Q : D → Sto → Prop, Q (.bl (kinB ns.length (cs.eraseIdx k) cs[k].rows.1 cs[k].rows.2)) s → wIf (wTru (wVar 2)) (wCallK 0 2 2 spIsSpare waNil (waCons (wVar 1) (waCons (wVar 9) waNil))) (wCall 2 spIsSpare (waCons (wVar 1) (waCons (wVar 9) waNil))) [some (.ob g), some (dSet ns cs), some (.bl nm), some (.ob w), some (.ob (B + 1)), some (.tup [.ob (B + 2), .ob (B + 3)]), o6, o7, some (.ob V), some (.int (k : Nat)), o10, none, none, none] s Q := fun Q hQ => by
          cases nm
          · simp; exact sp _ hQ
          · simp; exact sp _ hQ
        refine e10 _ ?_
        simp only [List.set_cons_succ, List.set_cons_zero]
        refine hk8 _ _ ?_
        clear hk8 k8 e10
        simp [wG1, kIn_ints v3]
        by_cases c : k ∈ lneed ns.length cs (cs.map Ch.rows) (List.range cs.length)
        · simp [c, hn.mp c]
          exact ih _ _ ⟨A ++ [k], R, _, _, e1, by rw [e2]; simp, rfl, rfl⟩
        · have hn2 : kinB ns.length (cs.eraseIdx k) cs[k].rows.1 cs[k].rows.2 = true := by
            cases z : kinB ns.length (cs.eraseIdx k) cs[k].rows.1 cs[k].rows.2 with
            | true => rfl
            | false => exact absurd (hn.mpr z) c
          simp [c, hn2]
          exact ih _ _ ⟨A ++ [k], R, _, _, e1, by rw [e2]; simp, rfl, rfl⟩
  · subst e3
    cases R with
    | nil => simp at e1
    | cons c R =>
      simp only [List.map_cons, List.cons.injEq] at e1
      obtain ⟨rfl, e1⟩ := e1
      refine ⟨trivial, ?_⟩
      simp only [wgName, List.set_cons_succ, List.set_cons_zero]
      refine ends1 c fun G j hj => ?_
      have hcm : c ∈ cs := by rw [e2]; simp
      have ci2 := ci.app (x := G)
      have gA : GoodP ns (A.map Ch.rows) := rows_goodP (fun x hx => gs.ok x (by rw [e2]; simp [hx])) (by have := gs.c; rw [e2] at this; simp at this; omega)
      obtain ⟨g1, g2⟩ := rows_good (gs.ok c hcm)
      simp [wF4]
      refine ⟨c, rfl, ?_⟩
      simp [kTupOf, hj]
      refine ⟨_, _, true, rfl, same_pair (p := c.rows) (by have := g1.l; omega) (by have := g2.l; omega), ?_⟩
      simp [hj]
      refine ⟨B + 1, B, w, q, ns, cs, A.map Ch.rows, c.rows.1, c.rows.2, nm, rfl, ⟨ci2.b1, ci2.b0⟩, ci2.w, by omega, hm5, gs, gA, g1, g2, ?_⟩
      simp
      refine ih _ _ ⟨A ++ [c], R, _, _, e1, by rw [e2]; simp, ?_, rfl⟩
      have := ci2.put (ps' := (A ++ [c]).map Ch.rows) kg hq0' (by omega) (by omega) (by omega)
      simpa using this
end Hd
set_option Elab.async false
set_option linter.all false
set_option maxRecDepth 100000
set_option maxHeartbeats 2000000
/-! M10a: what stands while the law runs. -/
namespace Hd
open PySem PySem.Spec PyProof.Rows L2 Vd
structure Bk where
  b : Nat
  p : Nat
  w : Nat
  q : Nat
  ns : List Str
  cs : List Ch
  ps : List Pr
structure BkAt (s : Sto) (X : Bk) : Prop where
  bk : BookAt s X.b X.p X.ns X.cs X.ps
  wt : WatchAt s X.w X.q X.ns X.cs X.ps
structure BkOk (X : Bk) (n : Nat) : Prop where
  gs : Good X.ns X.cs
  m0 : 0 < X.ns.length
  m5 : X.ns.length ≤ 5
  c : X.cs.length ≤ 30
  ev : ∀ c ∈ X.cs, c ∈ every X.ns.length
  r : ∀ p ∈ X.ps, GoodR X.ns p.1 ∧ GoodR X.ns p.2
  l : X.ps.length ≤ n
theorem BkOk.gp {X : Bk} {n : Nat} (h : BkOk X n) (hn : n ≤ 1000) : GoodP X.ns X.ps := ⟨h.r, Nat.le_trans h.l hn⟩
theorem BkOk.mb {X : Bk} {n : Nat} (h : BkOk X n) : MBook X.ns.length X.cs X.ps := mbook h.m5 h.gs.ok (every_ok h.m5) fun p hp => ⟨(h.r p hp).1.b, (h.r p hp).2.b⟩
def Bk.see (X : Bk) (p : Pr) : Bk := { X with ps := X.ps ++ [p] }
theorem BkOk.see {X : Bk} {n : Nat} (h : BkOk X n) {p : Pr} (g1 : GoodR X.ns p.1) (g2 : GoodR X.ns p.2) : BkOk (X.see p) (n + 1) :=
  ⟨h.gs, h.m0, h.m5, h.c, h.ev, fun r hr => by
    rcases List.mem_append.mp hr with z | z
    · exact h.r r z
    · rw [List.mem_singleton.mp z]; exact ⟨g1, g2⟩, by simp [Bk.see]; exact h.l⟩
theorem BkOk.mono {X : Bk} {n m : Nat} (h : BkOk X n) (hn : n ≤ m) : BkOk X m := ⟨h.gs, h.m0, h.m5, h.c, h.ev, h.r, Nat.le_trans h.l hn⟩
/-- what stands: the keg at g, t; the list of books at bl, that of watches at wl -/
structure LS (st s : Sto) (g t bl wl : Nat) (Z : Nat → Bk) (n : Nat) : Prop where
  kp : Keep st s []
  kg : KegAt s g t
  at_ : ∀ k, k < 2 → BkAt s (Z k)
  ok : ∀ k, k < 2 → BkOk (Z k) n
  hbl : s[bl]? = some (.lst [.ob (Z 0).b, .ob (Z 1).b])
  hwl : s[wl]? = some (.lst [.ob (Z 0).w, .ob (Z 1).w])
  o : st.length ≤ t ∧ t < g ∧ g < bl ∧ bl < (Z 0).p ∧ (Z 0).p < (Z 0).b ∧ (Z 0).b < (Z 1).p ∧ (Z 1).p < (Z 1).b ∧ (Z 1).b < (Z 0).w ∧ (Z 0).w < (Z 0).q ∧ (Z 0).q < (Z 1).w ∧ (Z 1).w < (Z 1).q ∧ (Z 1).q < wl
section
variable {st s s' x : Sto} {g t bl wl n : Nat} {Z : Nat → Bk}
theorem LS.mono {m : Nat} (h : LS st s g t bl wl Z n) (hn : n ≤ m) : LS st s g t bl wl Z m := ⟨h.kp, h.kg, h.at_, fun k hk => (h.ok k hk).mono hn, h.hbl, h.hwl, h.o⟩
theorem LS.keep (h : LS st s g t bl wl Z n) (k : Keep s s' []) : LS st s' g t bl wl Z n :=
  ⟨h.kp.trans k, h.kg.keep k, fun j hj => ⟨⟨k.got (h.at_ j hj).bk.1, k.got (h.at_ j hj).bk.2⟩, ⟨k.got (h.at_ j hj).wt.1, k.got (h.at_ j hj).wt.2⟩⟩, h.ok, k.got h.hbl, k.got h.hwl, h.o⟩
theorem LS.app (h : LS st s g t bl wl Z n) : LS st (s ++ x) g t bl wl Z n := h.keep Keep.app
theorem LS.pour (h : LS st s g t bl wl Z n) (k : KP s s' g t) : LS st s' g t bl wl Z n := by
  obtain ⟨o1, o2, o3, o4, o5, o6, o7, o8, o9, o10, o11, o12⟩ := h.o
  have a0 := h.at_ 0 (by omega)
  have a1 := h.at_ 1 (by omega)
  refine ⟨⟨Nat.le_trans h.kp.1 k.1.1, fun i hi hn => ?_⟩, k.2, fun j hj => ?_, h.ok, k.get h.hbl (by omega) (by omega), k.get h.hwl (by omega) (by omega), h.o⟩
  · rw [k.1.2 i (Nat.lt_of_lt_of_le hi h.kp.1) (by simp; omega)]; exact h.kp.2 i hi hn
  · obtain rfl | rfl : j = 0 ∨ j = 1 := by omega
    · exact ⟨⟨k.get a0.bk.1 (by omega) (by omega), k.get a0.bk.2 (by omega) (by omega)⟩, ⟨k.get a0.wt.1 (by omega) (by omega), k.get a0.wt.2 (by omega) (by omega)⟩⟩
    · exact ⟨⟨k.get a1.bk.1 (by omega) (by omega), k.get a1.bk.2 (by omega) (by omega)⟩, ⟨k.get a1.wt.1 (by omega) (by omega), k.get a1.wt.2 (by omega) (by omega)⟩⟩
theorem get_set2 {s : Sto} {i a b : Nat} {c d e : Cell} (h : s[i]? = some c) (ha : i ≠ a) (hb : i ≠ b) : ((s.set a d).set b e)[i]? = some c := by
  rw [List.getElem?_set_ne (Ne.symm hb), List.getElem?_set_ne (Ne.symm ha)]; exact h
theorem LS.see (h : LS st s g t bl wl Z n) {k : Nat} (hk : k < 2) {p : Pr} (g1 : GoodR (Z k).ns p.1) (g2 : GoodR (Z k).ns p.2) :
    LS st ((s.set (Z k).q (cPairs ((Z k).ps ++ [p]))).set (Z k).p (cPairs ((Z k).ps ++ [p]))) g t bl wl (fun j => if j = k then (Z j).see p else Z j) (n + 1) := by
  obtain ⟨o1, o2, o3, o4, o5, o6, o7, o8, o9, o10, o11, o12⟩ := h.o
  have a0 := h.at_ 0 (by omega)
  have a1 := h.at_ 1 (by omega)
  have hpk : st.length ≤ (Z k).p ∧ st.length ≤ (Z k).q ∧ (Z k).p ≠ (Z k).q ∧ g < (Z k).p ∧ g < (Z k).q ∧ bl ≠ (Z k).p ∧ bl ≠ (Z k).q ∧ wl ≠ (Z k).p ∧ wl ≠ (Z k).q := by
    obtain rfl | rfl : k = 0 ∨ k = 1 := by omega
    · omega
    · omega
  obtain ⟨p1, p2, p3, p4, p5, p6, p7, p8, p9⟩ := hpk
  have lp := get_lt (h.at_ k hk).bk.2
  have lq := get_lt (h.at_ k hk).wt.2
  refine ⟨⟨by simpa using h.kp.1, fun i hi hn => ?_⟩, ?_, fun j hj => ?_, fun j hj => ?_, ?_, ?_, ?_⟩
  · rw [List.getElem?_set_ne (by omega), List.getElem?_set_ne (by omega)]; exact h.kp.2 i hi hn
  · obtain ⟨tl, d, m, q1, q2, q3⟩ := h.kg
    exact ⟨tl, d, m, get_set2 q1 (by omega) (by omega), get_set2 q2 (by omega) (by omega), q3⟩
  · by_cases e : j = k
    · subst e
      have aj := h.at_ j hj
      simp only [if_true]
      refine ⟨⟨?_, ?_⟩, ⟨?_, ?_⟩⟩
      · refine get_set2 aj.bk.1 ?_ ?_
        · obtain rfl | rfl : j = 0 ∨ j = 1 := by omega
          · show (Z 0).b ≠ _; omega
          · show (Z 1).b ≠ _; omega
        · obtain rfl | rfl : j = 0 ∨ j = 1 := by omega
          · show (Z 0).b ≠ _; omega
          · show (Z 1).b ≠ _; omega
      · show (_)[(Z j).p]? = _
        rw [List.getElem?_set_self (by simpa using lp)]; rfl
      · refine get_set2 aj.wt.1 ?_ ?_
        · obtain rfl | rfl : j = 0 ∨ j = 1 := by omega
          · show (Z 0).w ≠ _; omega
          · show (Z 1).w ≠ _; omega
        · obtain rfl | rfl : j = 0 ∨ j = 1 := by omega
          · show (Z 0).w ≠ _; omega
          · show (Z 1).w ≠ _; omega
      · show (_)[(Z j).q]? = _
        rw [List.getElem?_set_ne p3, List.getElem?_set_self lq]; rfl
    · have aj := h.at_ j hj
      simp only [if_neg e]
      obtain ⟨rfl, rfl⟩ | ⟨rfl, rfl⟩ : (j = 0 ∧ k = 1) ∨ (j = 1 ∧ k = 0) := by omega
      · exact ⟨⟨get_set2 aj.bk.1 (by omega) (by omega), get_set2 aj.bk.2 (by omega) (by omega)⟩, ⟨get_set2 aj.wt.1 (by omega) (by omega), get_set2 aj.wt.2 (by omega) (by omega)⟩⟩
      · exact ⟨⟨get_set2 aj.bk.1 (by omega) (by omega), get_set2 aj.bk.2 (by omega) (by omega)⟩, ⟨get_set2 aj.wt.1 (by omega) (by omega), get_set2 aj.wt.2 (by omega) (by omega)⟩⟩
  · by_cases e : j = k
    · subst e
      simp only [if_true]
      exact (h.ok j hj).see g1 g2
    · simp only [if_neg e]
      exact (h.ok j hj).mono (by omega)
  · refine (get_set2 h.hbl p7 p6).trans ?_
    obtain rfl | rfl : k = 0 ∨ k = 1 := by omega
    · rfl
    · rfl
  · refine (get_set2 h.hwl p9 p8).trans ?_
    obtain rfl | rfl : k = 0 ∨ k = 1 := by omega
    · rfl
    · rfl
  · obtain rfl | rfl : k = 0 ∨ k = 1 := by omega
    · exact h.o
    · exact h.o
theorem LS.book (h : LS st s g t bl wl Z n) {k : Nat} (hk : k < 2) {Q : D → Sto → Prop} (q : Q (.ob (Z k).b) s) : kIx (.ob bl) (.int (k : Nat)) s Q := by
  refine kIx_at h.hbl (i := k) ?_ q
  obtain rfl | rfl : k = 0 ∨ k = 1 := by omega
  · rfl
  · rfl
theorem LS.watch (h : LS st s g t bl wl Z n) {k : Nat} (hk : k < 2) {Q : D → Sto → Prop} (q : Q (.ob (Z k).w) s) : kIx (.ob wl) (.int (k : Nat)) s Q := by
  refine kIx_at h.hwl (i := k) ?_ q
  obtain rfl | rfl : k = 0 ∨ k = 1 := by omega
  · rfl
  · rfl
theorem LS.set_ (h : LS st s g t bl wl Z n) {k : Nat} (hk : k < 2) {Q : D → Sto → Prop} (q : Q (dSet (Z k).ns (Z k).cs) s) : kIx (.ob (Z k).b) (.int 0) s Q := kIx_at (h.at_ k hk).bk.1 (i := 0) rfl q
theorem LS.prs (h : LS st s g t bl wl Z n) {k : Nat} (hk : k < 2) {Q : D → Sto → Prop} (q : Q (.ob (Z k).p) s) : kIx (.ob (Z k).b) (.int 1) s Q := kIx_at (h.at_ k hk).bk.1 (i := 1) rfl q
theorem LS.callSee (h : LS st s g t bl wl Z n) (hn : n < 1000) {k : Nat} (hk : k < 2) {a b : List Nat} {nm : Bool} (g1 : GoodR (Z k).ns a) (g2 : GoodR (Z k).ns b) {Q : D → Sto → Prop} (q : ∀ s' Z', LS st s' g t bl wl Z' (n + 1) → (Z' k).ps ≠ [] → Q (.bl true) s') : spLSee [.ob (Z k).b, .ob (Z k).w, dPair (a, b), .bl nm] s Q := by
  have aj := h.at_ k hk
  have oj := h.ok k hk
  refine ⟨(Z k).b, (Z k).p, (Z k).w, (Z k).q, (Z k).ns, (Z k).cs, (Z k).ps, a, b, nm, rfl, aj.bk, aj.wt, ?_, oj.m5, oj.gs, oj.gp (by omega), g1, g2, q _ _ (h.see hk (p := (a, b)) g1 g2) ?_⟩
  · have o := h.o
    obtain rfl | rfl : k = 0 ∨ k = 1 := by omega
    · omega
    · omega
  · simp [Bk.see]
theorem LS.callIs (h : LS st s g t bl wl Z n) (hn : n ≤ 1000) {k wh : Nat} (hk : k < 2) (hw : wh < 4) {Q : D → Sto → Prop} (q : Q (.bl true) s) : spLIs [.ob (Z k).b, .ob (Z k).w, .int (wh : Nat)] s Q := by
  have aj := h.at_ k hk
  have oj := h.ok k hk
  exact ⟨(Z k).b, (Z k).p, (Z k).w, (Z k).q, (Z k).ns, (Z k).cs, (Z k).ps, wh, rfl, aj.bk, aj.wt, hw, oj.m5, by have := oj.c; omega, oj.gs, oj.gp hn, oj.mb, q⟩
theorem LS.callWhole (h : LS st s g t bl wl Z n) (hn : n ≤ 1000) {k by_ : Nat} {x0 : D} (hk : k < 2) {Q : D → Sto → Prop} (q : Q (.bl true) s) : spLWhole [x0, .ob (Z k).b, .ob (Z k).w, .int (by_ : Nat)] s Q := by
  have aj := h.at_ k hk
  have oj := h.ok k hk
  exact ⟨x0, (Z k).b, (Z k).p, (Z k).w, (Z k).q, (Z k).ns, (Z k).cs, (Z k).ps, by_, rfl, aj.bk, aj.wt, oj.m5, by have := oj.c; omega, oj.gs, oj.gp hn, oj.mb, q⟩
theorem LS.callPour (h : LS st s g t bl wl Z n) {m : Nat} (hm : 0 < m) (hm2 : m ≤ 1000) {Q : D → Sto → Prop} (q : ∀ r s', r < m → LS st s' g t bl wl Z n → s'.length = s.length → Q (.int (r : Nat)) s') : spPour [.ob g, .int (m : Nat)] s Q :=
  ⟨g, t, m, rfl, h.kg, hm, hm2, fun r s2 hr hl kp => q r s2 hr (h.pour kp) hl⟩
theorem LS.callPair (h : LS st s g t bl wl Z n) {k m : Nat} (hk : k < 2) (hm : m ≤ 12) {Q : D → Sto → Prop} (q : ∀ a b s', GoodR (Z k).ns a → GoodR (Z k).ns b → LS st s' g t bl wl Z n → Q (dPair (a, b)) s') : spPairD [.ob g, dSet (Z k).ns (Z k).cs, .int (m : Nat)] s Q := by
  have oj := h.ok k hk
  exact ⟨g, t, m, (Z k).ns, (Z k).cs, rfl, h.kg, oj.gs, by have := oj.c; omega, oj.m0, oj.m5, hm, fun a b s2 ha la hb lb hl kp => q a b s2 ⟨ha, by omega⟩ ⟨hb, by omega⟩ (h.pour kp)⟩
end
end Hd
set_option Elab.async false
set_option linter.all false
set_option maxRecDepth 100000
set_option maxHeartbeats 2000000
/-! M10b: the pieces of the law. -/
namespace Hd
open PySem PySem.Spec PyProof.Rows L2 Vd
def wJ0 : WS := (wsSet 7 (wIf (wAnd (wTru (wVar 2)) (wTst (w2 kEq (wVar 6) (wK (.int 0))))) (wK (.int 5)) (w2 kAdd (wK (.int 2)) (wCall 2 spPour (waCons (wVar 1) (waCons (wIf (wAnd (wTru (wVar 3)) (wTst (w2 kEq (wVar 6) (wK (.int 1))))) (wK (.int 2)) (wK (.int 3))) waNil))))))
def wJ1 : WS := (wsExpr (wLM kAppend (wVar 5) (waCons (wNew (wLst (waCons (wCall 3 spSetting (waCons (wVar 1) (waCons (wVar 7) (waCons (w2 kIx (wNew (wLst (waCons (wK (.int 1)) (waCons (wK (.int 3)) (waCons (wK (.int 6)) (waCons (wK (.int 12)) waNil)))))) (wIf (wAnd (wTru (wVar 2)) (wTst (w2 kEq (wVar 6) (wK (.int 0))))) (wK (.int 3)) (wCall 2 spPour (waCons (wVar 1) (waCons (wK (.int 4)) waNil))))) waNil)))) (waCons (wNew (wLst waNil)) waNil)))) waNil)))
def wM : WS := (wsSet 8 (wNew (wLst (waCons (wMake "Watch" 2 spWInit (waCons (w2 kIx (w2 kIx (wVar 5) (wK (.int 0))) (wK (.int 0))) waNil)) (waCons (wMake "Watch" 2 spWInit (waCons (w2 kIx (w2 kIx (wVar 5) (wK (.int 1))) (wK (.int 0))) waNil)) waNil)))))
def wL0 : WS := (wsSet 6 (wCall 2 spPour (waCons (wVar 1) (waCons (wK (.int 2)) waNil))))
def wL1 : WS := (wsSet 10 (wCall 3 spPairD (waCons (wVar 1) (waCons (w2 kIx (w2 kIx (wVar 5) (wVar 6)) (wK (.int 0))) (waCons (wIf (wAnd (wTru (wVar 2)) (wTst (w2 kLt (wVar 9) (wK (.int 2))))) (wK (.int 12)) (wK (.int 5))) waNil)))))
def wL2 : WS := (wsIf (wNot (wTru (wCall 4 spLSee (waCons (w2 kIx (wVar 5) (wVar 6)) (waCons (w2 kIx (wVar 8) (wVar 6)) (waCons (wVar 10) (waCons (wVar 4) waNil))))))) (wsRet (wK (.bl false))) wsNext)
def wL3 : WS := (wsIf (wAnd (wTst (w2 kEq (wCall 2 spPour (waCons (wVar 1) (waCons (wK (.int 3)) waNil))) (wK (.int 0)))) (wNot (wTru (wCall 3 spLIs (waCons (w2 kIx (wVar 5) (w2 kSub (wK (.int 1)) (wVar 6))) (waCons (w2 kIx (wVar 8) (w2 kSub (wK (.int 1)) (wVar 6))) (waCons (wCall 2 spPour (waCons (wVar 1) (waCons (wK (.int 3)) waNil))) waNil))))))) (wsRet (wK (.bl false))) wsNext)
def wQ : WS := (wsIf (wNot (wTru (wCall 4 spLSee (waCons (w2 kIx (wVar 5) (wK (.int 1))) (waCons (w2 kIx (wVar 8) (wK (.int 1))) (waCons (wCall 3 spPairD (waCons (wVar 1) (waCons (w2 kIx (w2 kIx (wVar 5) (wK (.int 1))) (wK (.int 0))) (waCons (wK (.int 3)) waNil)))) (waCons (wVar 4) waNil))))))) (wsRet (wK (.bl false))) wsNext)
def wT0 : WS := (wsSet 1 (wCall 1 spKeg (waCons (wVar 0) waNil)))
def wT1 : WS := (wsSet 2 (w2 kEq (wCall 2 spPour (waCons (wVar 1) (waCons (wK (.int 7)) waNil))) (wK (.int 4))))
def wT2 : WS := (wsSet 3 (w2 kEq (wCall 2 spPour (waCons (wVar 1) (waCons (wK (.int 7)) waNil))) (wK (.int 5))))
def wT3 : WS := (wsSet 4 (w2 kEq (wCall 2 spPour (waCons (wVar 1) (waCons (wK (.int 2)) waNil))) (wK (.int 1))))
def wT4 : WS := (wsIf (wNot (wTru (wCall 2 spByHand (waCons (wVar 1) (waCons (wVar 4) waNil))))) (wsRet (wK (.bl false))) wsNext)
def wT5 : WS := (wsSet 5 (wNew (wLst waNil)))
def wT6 : WS := (wsFor (wiRng1 (waCons (wK (.int 2)) waNil)) (wgName 6) (wsSeq (wsSet 7 (wIf (wAnd (wTru (wVar 2)) (wTst (w2 kEq (wVar 6) (wK (.int 0))))) (wK (.int 5)) (w2 kAdd (wK (.int 2)) (wCall 2 spPour (waCons (wVar 1) (waCons (wIf (wAnd (wTru (wVar 3)) (wTst (w2 kEq (wVar 6) (wK (.int 1))))) (wK (.int 2)) (wK (.int 3))) waNil)))))) (wsExpr (wLM kAppend (wVar 5) (waCons (wNew (wLst (waCons (wCall 3 spSetting (waCons (wVar 1) (waCons (wVar 7) (waCons (w2 kIx (wNew (wLst (waCons (wK (.int 1)) (waCons (wK (.int 3)) (waCons (wK (.int 6)) (waCons (wK (.int 12)) waNil)))))) (wIf (wAnd (wTru (wVar 2)) (wTst (w2 kEq (wVar 6) (wK (.int 0))))) (wK (.int 3)) (wCall 2 spPour (waCons (wVar 1) (waCons (wK (.int 4)) waNil))))) waNil)))) (waCons (wNew (wLst waNil)) waNil)))) waNil)))))
def wT7 : WS := (wsSet 8 (wNew (wLst (waCons (wMake "Watch" 2 spWInit (waCons (w2 kIx (w2 kIx (wVar 5) (wK (.int 0))) (wK (.int 0))) waNil)) (waCons (wMake "Watch" 2 spWInit (waCons (w2 kIx (w2 kIx (wVar 5) (wK (.int 1))) (wK (.int 0))) waNil)) waNil)))))
def wT8 : WS := (wsFor (wiRng1 (waCons (w2 kAdd (wK (.int 3)) (wCall 2 spPour (waCons (wVar 1) (waCons (wK (.int 6)) waNil)))) waNil)) (wgName 9) (wsSeq (wsSet 6 (wCall 2 spPour (waCons (wVar 1) (waCons (wK (.int 2)) waNil)))) (wsSeq (wsSet 10 (wCall 3 spPairD (waCons (wVar 1) (waCons (w2 kIx (w2 kIx (wVar 5) (wVar 6)) (wK (.int 0))) (waCons (wIf (wAnd (wTru (wVar 2)) (wTst (w2 kLt (wVar 9) (wK (.int 2))))) (wK (.int 12)) (wK (.int 5))) waNil))))) (wsSeq (wsIf (wNot (wTru (wCall 4 spLSee (waCons (w2 kIx (wVar 5) (wVar 6)) (waCons (w2 kIx (wVar 8) (wVar 6)) (waCons (wVar 10) (waCons (wVar 4) waNil))))))) (wsRet (wK (.bl false))) wsNext) (wsIf (wAnd (wTst (w2 kEq (wCall 2 spPour (waCons (wVar 1) (waCons (wK (.int 3)) waNil))) (wK (.int 0)))) (wNot (wTru (wCall 3 spLIs (waCons (w2 kIx (wVar 5) (w2 kSub (wK (.int 1)) (wVar 6))) (waCons (w2 kIx (wVar 8) (w2 kSub (wK (.int 1)) (wVar 6))) (waCons (wCall 2 spPour (waCons (wVar 1) (waCons (wK (.int 3)) waNil))) waNil))))))) (wsRet (wK (.bl false))) wsNext)))))
def wT9 : WS := (wsSet 11 (wCall 2 spPour (waCons (wVar 1) (waCons (wK (.int 4)) waNil))))
def wT10 : WS := (wsIf (wOr (wNot (wTru (wCall 4 spLWhole (waCons (wVar 1) (waCons (w2 kIx (wVar 5) (wK (.int 0))) (waCons (w2 kIx (wVar 8) (wK (.int 0))) (waCons (wVar 11) waNil))))))) (wNot (wTru (wCall 4 spLWhole (waCons (wVar 1) (waCons (w2 kIx (wVar 5) (wK (.int 1))) (waCons (w2 kIx (wVar 8) (wK (.int 1))) (waCons (w2 kAdd (wVar 11) (wK (.int 1))) waNil)))))))) (wsRet (wK (.bl false))) wsNext)
def wT11 : WS := (wsIf (wTru (wVar 3)) (wsSeq (wsFor (wiRng1 (waCons (w2 kSub (wK (.int 30)) (wBlt kLen (waCons (w2 kIx (w2 kIx (wVar 5) (wK (.int 1))) (wK (.int 1))) waNil))) waNil)) (wgName 9) (wsIf (wNot (wTru (wCall 4 spLSee (waCons (w2 kIx (wVar 5) (wK (.int 1))) (waCons (w2 kIx (wVar 8) (wK (.int 1))) (waCons (wCall 3 spPairD (waCons (wVar 1) (waCons (w2 kIx (w2 kIx (wVar 5) (wK (.int 1))) (wK (.int 0))) (waCons (wK (.int 3)) waNil)))) (waCons (wVar 4) waNil))))))) (wsRet (wK (.bl false))) wsNext)) (wsIf (wNot (wTru (wCall 4 spLWhole (waCons (wVar 1) (waCons (w2 kIx (wVar 5) (wK (.int 1))) (waCons (w2 kIx (wVar 8) (wK (.int 1))) (waCons (wVar 11) waNil))))))) (wsRet (wK (.bl false))) wsNext)) wsNext)
def wT12 : WS := (wsSet 10 (wCall 3 spPairD (waCons (wVar 1) (waCons (w2 kIx (w2 kIx (wVar 5) (wK (.int 0))) (wK (.int 0))) (waCons (wK (.int 4)) waNil)))))
def wT13 : WS := (wsIf (wOr (wNot (wTru (wCall 4 spLSee (waCons (w2 kIx (wVar 5) (wK (.int 0))) (waCons (w2 kIx (wVar 8) (wK (.int 0))) (waCons (wVar 10) (waCons (wNotV (wTst (wVar 4))) waNil))))))) (wNot (wTru (wCall 4 spLSee (waCons (w2 kIx (wVar 5) (wK (.int 0))) (waCons (w2 kIx (wVar 8) (wK (.int 0))) (waCons (w2 kIx (w2 kIx (w2 kIx (wVar 5) (wK (.int 0))) (wK (.int 1))) (wK (.int 0))) (waCons (wVar 4) waNil)))))))) (wsRet (wK (.bl false))) wsNext)
def wT14 : WS := (wsIf (wNot (wTru (wCall 3 spLIs (waCons (w2 kIx (wVar 5) (wK (.int 0))) (waCons (w2 kIx (wVar 8) (wK (.int 0))) (waCons (wK (.int 2)) waNil)))))) (wsRet (wK (.bl false))) wsNext)
def wT15 : WS := (wsIf (wOr (wNot (wTru (wCall 3 spLIs (waCons (w2 kIx (wVar 5) (wK (.int 0))) (waCons (w2 kIx (wVar 8) (wK (.int 0))) (waCons (wK (.int 0)) waNil)))))) (wOr (wNot (wTru (wCall 3 spLIs (waCons (w2 kIx (wVar 5) (wK (.int 1))) (waCons (w2 kIx (wVar 8) (wK (.int 1))) (waCons (wK (.int 1)) waNil)))))) (wNot (wTru (wCall 3 spLIs (waCons (w2 kIx (wVar 5) (wK (.int 0))) (waCons (w2 kIx (wVar 8) (wK (.int 0))) (waCons (wK (.int 1)) waNil)))))))) (wsRet (wK (.bl false))) wsNext)
def wT16 : WS := (wsRet (wAndV (wCall 3 spOfCh (waCons (wVar 1) (waCons (w2 kIx (w2 kIx (wVar 5) (wK (.int 1))) (wK (.int 0))) (waCons (wVar 4) waNil)))) (wCall 3 spLIs (waCons (w2 kIx (wVar 5) (wK (.int 0))) (waCons (w2 kIx (wVar 8) (wK (.int 0))) (waCons (wK (.int 3)) waNil))))))
theorem book_body {s : Sto} {g t bl k : Nat} {L : List D} {wide great : Bool} {W : WEnds} {e0 e4 e7 e8 e9 e10 e11 : Option D} (kg : KegAt s g t) (hbl : s[bl]? = some (.lst L)) (hL : L.length ≤ 2) (n1 : bl ≠ g) (n2 : bl ≠ t) (hk : k < 2)
    (H : ∀ (ns : List Str) (cs : List Ch) (s' : Sto) (p b : Nat) (e7 : Option D), 0 < ns.length → ns.length ≤ 5 → cs.length ≤ 30 → (∀ c ∈ cs, c ∈ every ns.length) → Keep s s' [g, t, bl] → KegAt s' g t → s'[bl]? = some (.lst (L ++ [.ob b])) → s'[p]? = some (cPairs []) → s'[b]? = some (.lst [dSet ns cs, .ob p]) → s.length ≤ p → p < b → b < s'.length →
      W.nx [e0, some (.ob g), some (.bl wide), some (.bl great), e4, some (.ob bl), some (.int (k : Nat)), e7, e8, e9, e10, e11] s') :
    wsSeq wJ0 wJ1 W [e0, some (.ob g), some (.bl wide), some (.bl great), e4, some (.ob bl), some (.int (k : Nat)), e7, e8, e9, e10, e11] s := by
  refine seq_step fun k1 hk1 => ?_
  have e1 : ∀ (s1 : Sto) (m : Nat), KP s s1 g t → 0 < m → m ≤ 5 → k1 [e0, some (.ob g), some (.bl wide), some (.bl great), e4, some (.ob bl), some (.int (k : Nat)), some (.int (m : Nat)), e8, e9, e10, e11] s1 := by
    intro s1 m kp hm hm5
    refine hk1 _ _ ?_
    clear hk1 k1
    have b0 : s1[bl]? = some (.lst L) := kp.get hbl n1 n2
    have e2 : ∀ (G s2 : Sto) (x : Nat), x < 4 → KP s1 s2 g t → s2[s1.length]? = some (.lst [.int 1, .int 3, .int 6, .int 12]) → kIx (.ob s1.length) (.int (x : Nat)) s2 fun d s3 => spSetting [.ob g, .int (m : Nat), d] s3 fun d s4 => kAppend (.ob bl) [.ob (s4.length + 1)] (s4 ++ [.lst [], .lst [d, .ob s4.length]]) fun _ s5 => W.nx [e0, some (.ob g), some (.bl wide), some (.bl great), e4, some (.ob bl), some (.int (k : Nat)), some (.int (m : Nat)), e8, e9, e10, e11] s5 := by
      intro G s2 x hx kp2 hc
      obtain ⟨y, hy, hy2⟩ : ∃ y : Nat, ([.int 1, .int 3, .int 6, .int 12] : List D)[x]? = some (.int (y : Nat)) ∧ y ≤ 100 := by
        rcases x with _ | _ | _ | _ | x
        · exact ⟨1, rfl, by omega⟩
        · exact ⟨3, rfl, by omega⟩
        · exact ⟨6, rfl, by omega⟩
        · exact ⟨12, rfl, by omega⟩
        · omega
      refine kIx_at hc hy ?_
      refine ⟨g, t, m, y, rfl, kp2.2, hm, hm5, hy2, fun ns cs s3 h1 h2 h3 h4 kp3 => ?_⟩
      have kq := (kp.trans kp2).trans kp3
      have b3 := (kp2.trans kp3).get b0 n1 n2
      show kAppend _ _ _ _
      rw [kAppend_at (get_app b3)]
      refine ⟨by omega, ?_⟩
      have hb3 := get_lt b3
      have hl3 : s.length ≤ s3.length := kq.1.1
      have hgt := kq.2.lt
      refine H ns cs _ s3.length (s3.length + 1) _ (by omega) (by omega) h2 (by rw [h1]; exact h3) ?_ ?_ ?_ ?_ ?_ hl3 (by omega) (by simp)
      · refine ⟨by simp; omega, fun i hi hn => ?_⟩
        simp only [List.mem_cons, List.not_mem_nil, or_false, not_or] at hn
        rw [List.getElem?_set_ne (Ne.symm hn.2.2), List.getElem?_append_left (by omega)]
        exact kq.1.2 i hi (by simp; exact ⟨hn.1, hn.2.1⟩)
      · obtain ⟨tl, d, n, q1, q2, q3⟩ := kq.2
        exact ⟨tl, d, n, by rw [List.getElem?_set_ne n1]; exact get_app q1, by rw [List.getElem?_set_ne n2]; exact get_app q2, q3⟩
      · rw [List.getElem?_set_self (by simp; omega)]
      · rw [List.getElem?_set_ne (by omega), get_new0]; rfl
      · rw [List.getElem?_set_ne (by omega), get_new]; rfl
    have hgt := kp.2.lt
    have e3 : ∀ x : Nat, x < 4 → KP s1 (s1 ++ [.lst [.int 1, .int 3, .int 6, .int 12]]) g t := fun _ _ => (KP.refl kp.2).app
    simp [wJ1]
    refine ⟨isLst_at b0, ?_⟩
    have r1 := e2 [] _ 3 (by omega) (KP.refl kp.2).app (get_new0 (g := [.lst [.int 1, .int 3, .int 6, .int 12]]))
    have r2 : spPour [.ob g, .int 4] (s1 ++ [.lst [.int 1, .int 3, .int 6, .int 12]]) fun y s2 => kIx (.ob s1.length) y s2 fun d s3 => spSetting [.ob g, .int (m : Nat), d] s3 fun d s4 => kAppend (.ob bl) [.ob (s4.length + 1)] (s4 ++ [.lst [], .lst [d, .ob s4.length]]) fun _ s5 => W.nx [e0, some (.ob g), some (.bl wide), some (.bl great), e4, some (.ob bl), some (.int (k : Nat)), some (.int (m : Nat)), e8, e9, e10, e11] s5 :=
      ⟨g, t, 4, rfl, kp.2.app, by omega, by omega, fun r s2 hr _ kp2 => e2 [] s2 r hr ((KP.refl kp.2).app.trans kp2) (kp2.get get_new0 (by omega) (by omega))⟩
    repeat' split
    all_goals first | exact r1 | exact r2
  have pr : ∀ m0 : Nat, 0 < m0 → m0 ≤ 3 → spPour [.ob g, .int (m0 : Nat)] s fun y s2 => kAdd (.int 2) y s2 fun d s1 => k1 [e0, some (.ob g), some (.bl wide), some (.bl great), e4, some (.ob bl), some (.int (k : Nat)), some d, e8, e9, e10, e11] s1 := fun m0 h0 h3 =>
    ⟨g, t, m0, rfl, kg, h0, by omega, fun r s2 hr _ kp => by
      show kAdd _ _ _ _
      rw [kAdd_int, show (2 : Int) + (r : Int) = ((2 + r : Nat) : Int) by omega]
      exact e1 s2 _ kp (by omega) (by omega)⟩
  have p2 := pr 2 (by omega) (by omega)
  have p3 := pr 3 (by omega) (by omega)
  have p5 := e1 s 5 (KP.refl kg) (by omega) (by omega)
  simp [wJ0]
  repeat' split
  all_goals first | exact p5 | exact p2 | exact p3

end Hd
set_option Elab.async false
set_option linter.all false
set_option maxRecDepth 100000
set_option maxHeartbeats 2000000
/-! M10c: the law behind its setting up. -/
namespace Hd
open PySem PySem.Spec PyProof.Rows L2 Vd
theorem Keep.eq {st s : Sto} (k : Keep st s []) : ∃ g, s = st ++ g := by
  refine ⟨s.drop st.length, ?_⟩
  refine List.ext_getElem? fun i => ?_
  by_cases hi : i < st.length
  · rw [List.getElem?_append_left hi]; exact k.2 i hi (by simp)
  · rw [List.getElem?_append_right (by omega), List.getElem?_drop]
    congr 1; omega
theorem law_tail {st s : Sto} {sc g t bl wl : Nat} {Z : Nat → Bk} {P : D → Sto → Prop} {wide great nm : Bool} {e6 e7 : Option D} (h : LS st s g t bl wl Z 0) (h2 : okS st.length st) (p : P (.bl true) st) :
    wsSeq wT8 (wsSeq wT9 (wsSeq wT10 (wsSeq wT11 (wsSeq wT12 (wsSeq wT13 (wsSeq wT14 (wsSeq wT15 wT16))))))) { nx := fun x s => gcP st.length P D.non s, rt := gcP st.length P }
    [some (.ob sc), some (.ob g), some (.bl wide), some (.bl great), some (.bl nm), some (.ob bl), e6, e7, some (.ob wl), none, none, none] s := by
  refine seq_step fun k1 hk1 => ?_
  show wsFor (wiRng1 (waCons (w2 kAdd (wK (.int 3)) (wCall 2 spPour (waCons (wVar 1) (waCons (wK (.int 6)) waNil)))) waNil)) (wgName 9) (wsSeq wL0 (wsSeq wL1 (wsSeq wL2 wL3))) _ _ _
  simp [-wsSeq, wiRng1]
  refine h.callPour (m := 6) (by omega) (by omega) fun r1 s1 hr1 h1 hl1 => ?_
  simp [-wsSeq]
  refine ⟨by omega, ?_⟩
  rw [show (3 + (r1 : Int)).toNat = 3 + r1 by omega, rng_ints]
  refine loop_ind (fun ds env s => ∃ (R : List Nat) (n : Nat) (Z : Nat → Bk) (o6 o9 o10 : Option D), ds = dInts R ∧ n + R.length ≤ 8 ∧ LS st s g t bl wl Z n ∧ env = [some (.ob sc), some (.ob g), some (.bl wide), some (.bl great), some (.bl nm), some (.ob bl), o6, e7, some (.ob wl), o9, o10, none])
    (fun env s ⟨R, n, Z, o6, o9, o10, e1, e2, L, e3⟩ => ?_) (fun d ds env s ⟨R, n, Z, o6, o9, o10, e1, e2, L, e3⟩ ih => ?_) _ _ _ ⟨List.range (3 + r1), 0, Z, _, _, _, rfl, by simp; omega, h1, rfl⟩
  · subst e3
    refine ⟨trivial, hk1 _ _ ?_⟩
    clear hk1 k1
    have L8 := L.mono (m := 8) (by omega)
    clear h h1 hl1 e1 e2 L
    refine seq_step fun k2 hk2 => ?_
    simp [wT9]
    refine L8.callPour (m := 4) (by omega) (by omega) fun f s2 hf L9 _ => hk2 _ _ ?_
    clear hk2 k2
    refine seq_step fun k3 hk3 => ?_
    simp [wT10]
    refine L9.book (k := 0) (by omega) (L9.watch (k := 0) (by omega) (L9.callWhole (by omega) (by omega) ?_))
    simp
    refine L9.book (k := 1) (by omega) (L9.watch (k := 1) (by omega) (L9.callWhole (by_ := f + 1) (by omega) (by omega) ?_))
    simp
    refine hk3 _ _ ?_
    clear hk3 k3
    refine seq_step fun k4 hk4 => ?_
    have nxt : ∀ (Z : Nat → Bk) (s : Sto) (o9 : Option D), LS st s g t bl wl Z 40 → k4 [some (.ob sc), some (.ob g), some (.bl wide), some (.bl great), some (.bl nm), some (.ob bl), o6, e7, some (.ob wl), o9, o10, some (.int (f : Nat))] s := by
      intro Z s o9 L
      refine hk4 _ _ ?_
      clear hk4 k4 L8 L9
      refine seq_step fun k5 hk5 => ?_
      simp [wT12]
      refine L.book (k := 0) (by omega) (L.set_ (k := 0) (by omega) (L.callPair (m := 4) (by omega) (by omega) fun a b s2 ga gb L2 => hk5 _ _ ?_))
      clear hk5 k5
      refine seq_step fun k6 hk6 => ?_
      simp [wT13]
      refine L2.book (k := 0) (by omega) (L2.watch (k := 0) (by omega) ?_)
      refine L2.callSee (by omega) (by omega) ga gb fun s3 Z3 L3 hne => ?_
      simp
      refine L3.book (k := 0) (by omega) (L3.watch (k := 0) (by omega) (L3.book (k := 0) (by omega) (L3.prs (k := 0) (by omega) ?_)))
      obtain ⟨⟨a2, b2⟩, r, hpr⟩ : ∃ p r, (Z3 0).ps = p :: r := by
        cases hz : (Z3 0).ps with
        | nil => exact absurd hz hne
        | cons p r => exact ⟨p, r, rfl⟩
      refine kIx_at (i := 0) (L3.at_ 0 (by omega)).bk.2 (d := dPair (a2, b2)) (by rw [hpr]; rfl) ?_
      have gr := (L3.ok 0 (by omega)).r (a2, b2) (by rw [hpr]; simp)
      refine L3.callSee (by omega) (by omega) gr.1 gr.2 fun s4 Z4 L4 _ => ?_
      simp
      refine hk6 _ _ ?_
      clear hk6 k6
      refine seq_step fun k7 hk7 => ?_
      simp [wT14]
      refine L4.book (k := 0) (by omega) (L4.watch (k := 0) (by omega) (L4.callIs (wh := 2) (by omega) (by omega) (by omega) ?_))
      simp
      refine hk7 _ _ ?_
      clear hk7 k7
      refine seq_step fun k8 hk8 => ?_
      simp [wT15]
      refine L4.book (k := 0) (by omega) (L4.watch (k := 0) (by omega) (L4.callIs (wh := 0) (by omega) (by omega) (by omega) ?_))
      simp
      refine L4.book (k := 1) (by omega) (L4.watch (k := 1) (by omega) (L4.callIs (wh := 1) (by omega) (by omega) (by omega) ?_))
      simp
      refine L4.book (k := 0) (by omega) (L4.watch (k := 0) (by omega) (L4.callIs (wh := 1) (by omega) (by omega) (by omega) ?_))
      simp
      refine hk8 _ _ ?_
      clear hk8 k8
      simp [wT16]
      refine L4.book (k := 1) (by omega) (L4.set_ (k := 1) (by omega) ?_)
      have o1 := L4.ok 1 (by omega)
      refine ⟨g, t, (Z4 1).ns, (Z4 1).cs, nm, rfl, L4.kg, o1.gs, o1.m0, o1.m5, by have := o1.c; omega, o1.ev, fun s5 hl5 kp5 => ?_⟩
      have L5 := L4.pour kp5
      simp
      refine L5.book (k := 0) (by omega) (L5.watch (k := 0) (by omega) (L5.callIs (wh := 3) (by omega) (by omega) (by omega) ?_))
      obtain ⟨G, rfl⟩ := L5.kp.eq
      exact gc_drop rfl h2 (by simp) p
    have L10 := L9.mono (m := 40) (by omega)
    cases great
    · simp [wT11]
      exact nxt _ _ _ L10
    · show wsIf _ (wsSeq (wsFor _ (wgName 9) wQ) _) _ _ _ _
      simp [-wsSeq]
      refine seq_step fun k5 hk5 => ?_
      simp [-wsSeq, wiRng1]
      refine L9.book (k := 1) (by omega) (L9.prs (k := 1) (by omega) ?_)
      have c1 := (L9.at_ 1 (by omega)).bk.2
      simp [-wsSeq, kLen, lenD, c1, kSub]
      have o1 := (L9.ok 1 (by omega)).l
      refine ⟨by omega, ?_⟩
      rw [rng_ints]
      refine loop_ind (fun ds env s => ∃ (R : List Nat) (n : Nat) (Z : Nat → Bk) (o9 : Option D), ds = dInts R ∧ n + R.length ≤ 38 ∧ LS st s g t bl wl Z n ∧ env = [some (.ob sc), some (.ob g), some (.bl wide), some (.bl true), some (.bl nm), some (.ob bl), o6, e7, some (.ob wl), o9, o10, some (.int (f : Nat))])
        (fun env s ⟨R, n, Z, o9, e1, e2, L, e3⟩ => ?_) (fun d ds env s ⟨R, n, Z, o9, e1, e2, L, e3⟩ ih => ?_) _ _ _ ⟨List.range (30 - (Z 1).ps.length), 8, Z, _, rfl, by simp; omega, L9, rfl⟩
      · subst e3
        refine ⟨trivial, hk5 _ _ ?_⟩
        clear hk5 k5
        have L38 := L.mono (m := 40) (by omega)
        simp
        refine L38.book (k := 1) (by omega) (L38.watch (k := 1) (by omega) (L38.callWhole (by omega) (by omega) ?_))
        simp
        exact nxt _ _ _ L38
      · subst e3
        cases R with
        | nil => simp [dInts] at e1
        | cons y R =>
          simp only [dInts, List.map_cons, List.cons.injEq] at e1
          obtain ⟨rfl, e1⟩ := e1
          refine ⟨trivial, ?_⟩
          simp only [wgName, List.set_cons_succ, List.set_cons_zero]
          simp only [List.length_cons] at e2
          simp [wQ]
          refine L.book (k := 1) (by omega) (L.watch (k := 1) (by omega) (L.book (k := 1) (by omega) (L.set_ (k := 1) (by omega) ?_)))
          refine L.callPair (m := 3) (by omega) (by omega) fun a b s3 ga gb L3 => ?_
          refine L3.callSee (by omega) (by omega) ga gb fun s4 Z4 L4 _ => ?_
          simp
          exact ih _ _ ⟨R, n + 1, Z4, _, e1, by omega, L4, rfl⟩
  · subst e3
    cases R with
    | nil => simp [dInts] at e1
    | cons y R =>
      simp only [dInts, List.map_cons, List.cons.injEq] at e1
      obtain ⟨rfl, e1⟩ := e1
      refine ⟨trivial, ?_⟩
      simp only [wgName, List.set_cons_succ, List.set_cons_zero]
      simp only [List.length_cons] at e2
      refine seq_step fun k2 hk2 => ?_
      simp [wL0]
      refine L.callPour (m := 2) (by omega) (by omega) fun k s2 hk L2 _ => hk2 _ _ ?_
      clear hk2 k2
      refine seq_step fun k3 hk3 => ?_
      simp [wL1]
      refine L2.book hk ?_
      refine L2.set_ hk ?_
      have pr : ∀ m : Nat, m ≤ 12 → spPairD [.ob g, dSet (Z k).ns (Z k).cs, .int (m : Nat)] s2 fun d s1 => k3 [some (.ob sc), some (.ob g), some (.bl wide), some (.bl great), some (.bl nm), some (.ob bl), some (.int (k : Nat)), e7, some (.ob wl), some (.int (y : Nat)), some d, none] s1 := fun m hm => by
        refine L2.callPair hk hm fun a b s3 ga gb L3 => hk3 _ _ ?_
        clear hk3 k3
        refine seq_step fun k4 hk4 => ?_
        simp [wL2]
        refine L3.book hk (L3.watch hk (L3.callSee (by omega) hk ga gb fun s4 Z4 L4 _ => ?_))
        simp
        refine hk4 _ _ ?_
        clear hk4 k4
        simp [wL3, kSub]
        refine L4.callPour (m := 3) (by omega) (by omega) fun r2 s5 hr2 L5 _ => ?_
        have done : ∀ s6, LS st s6 g t bl wl Z4 (n + 1) → wLoop (wgName 9) (wsSeq wL0 (wsSeq wL1 (wsSeq wL2 wL3))) (fun _ => True) ds { nx := k1, rt := gcP st.length P } [some (.ob sc), some (.ob g), some (.bl wide), some (.bl great), some (.bl nm), some (.ob bl), some (.int (k : Nat)), e7, some (.ob wl), some (.int (y : Nat)), some (dPair (a, b)), none] s6 := fun s6 L6 => ih _ _ ⟨R, n + 1, Z4, _, _, _, e1, by omega, L6, rfl⟩
        rw [show (1 : Int) - (k : Int) = ((1 - k : Nat) : Int) by omega]
        simp only [kEq_int]
        by_cases c : (r2 : Int) = 0
        · simp only [decide_eq_true c, if_true]
          refine L5.book (k := 1 - k) (by omega) (L5.watch (k := 1 - k) (by omega) (L5.callPour (m := 3) (by omega) (by omega) fun r3 s6 hr3 L6 _ => L6.callIs (by omega) (by omega) (by omega) ?_))
          simp only [truD_bl, if_true]
          exact done _ L6
        · simp only [decide_eq_false c, Bool.false_eq_true, if_false]
          exact done _ L5
      have p12 := pr 12 (by omega)
      have p5 := pr 5 (by omega)
      repeat' split
      all_goals first | exact p12 | exact p5
end Hd
set_option Elab.async false
set_option linter.all false
set_option maxRecDepth 100000
set_option maxHeartbeats 2000000
/-! M10: the law. -/
namespace Hd
open PySem PySem.Spec PyProof.Rows L2 Vd
def spLaw : DSp := fun ds st P => ∃ (s : Nat) (is : List Int), ds = [.ob s] ∧ st[s]? = some (.fro (is.map .int)) ∧ is.length ≤ 63 ∧ P (.bl true) st
theorem keeps_law : Keeps 1 12 (w_law spWInit spKeg spPour spSetting spLSee spLIs spLWhole spPairD spByHand spOfCh) spLaw := by
  intro ds st P hl h1 h2 ⟨sc, is, e, h0, h63, p⟩
  subst e
  show wsSeq wT0 (wsSeq wT1 (wsSeq wT2 (wsSeq wT3 (wsSeq wT4 (wsSeq wT5 (wsSeq (wsFor (wiRng1 (waCons (wK (.int 2)) waNil)) (wgName 6) (wsSeq wJ0 wJ1)) (wsSeq wM (wsSeq wT8 (wsSeq wT9 (wsSeq wT10 (wsSeq wT11 (wsSeq wT12 (wsSeq wT13 (wsSeq wT14 (wsSeq wT15 wT16))))))))))))))) _ _ _
  simp only [startE, List.map_cons, List.map_nil, List.replicate, List.length_cons, List.length_nil, List.cons_append, List.nil_append]
  refine seq_step fun k1 hk1 => ?_
  simp [wT0]
  refine ⟨sc, is, rfl, h0, h63, fun tl d n htl => hk1 _ _ ?_⟩
  clear hk1 k1
  have kg : KegAt (st ++ [.lst (tl.map .int), .lst [.ob st.length, .int d, .int n]]) (st.length + 1) st.length := ⟨tl, d, n, by rw [get_new]; rfl, by rw [get_new0]; rfl, htl⟩
  have ke : Keep st (st ++ [.lst (tl.map .int), .lst [.ob st.length, .int d, .int n]]) [] := Keep.app
  generalize hs1 : st ++ [Cell.lst (tl.map .int), .lst [.ob st.length, .int d, .int n]] = s1 at *
  have hl1 : s1.length = st.length + 2 := by rw [← hs1]; simp
  clear hs1
  generalize hg : st.length + 1 = g at *
  generalize ht : st.length = t at *
  have keepP : ∀ {s s' : Sto}, Keep st s [] → KP s s' g t → Keep st s' [] := fun {s s'} a b => ⟨Nat.le_trans a.1 b.1.1, fun i hi hn => by
    rw [b.1.2 i (Nat.lt_of_lt_of_le hi a.1) (by simp; omega)]; exact a.2 i hi hn⟩
  refine seq_step fun k2 hk2 => ?_
  simp [wT1]
  refine ⟨g, t, 7, rfl, kg, by omega, by omega, fun r1 s2 hr1 hl2 kp2 => ?_⟩
  simp
  generalize decide ((r1 : Int) = 4) = wide
  refine hk2 _ _ ?_
  clear hk2 k2
  refine seq_step fun k3 hk3 => ?_
  simp [wT2]
  refine ⟨g, t, 7, rfl, kp2.2, by omega, by omega, fun r2 s3 hr2 hl3 kp3 => ?_⟩
  simp
  generalize decide ((r2 : Int) = 5) = great
  refine hk3 _ _ ?_
  clear hk3 k3
  refine seq_step fun k4 hk4 => ?_
  simp [wT3]
  refine ⟨g, t, 2, rfl, kp3.2, by omega, by omega, fun r3 s4 hr3 hl4 kp4 => ?_⟩
  simp
  generalize decide ((r3 : Int) = 1) = nm
  refine hk4 _ _ ?_
  clear hk4 k4
  refine seq_step fun k5 hk5 => ?_
  simp [wT4]
  refine ⟨g, t, nm, rfl, kp4.2, fun s5 hl5 kp5 => ?_⟩
  simp
  refine hk5 _ _ ?_
  clear hk5 k5
  have ke5 := keepP (keepP (keepP (keepP ke kp2) kp3) kp4) kp5
  have kg5 := kp5.2
  clear ke kp2 kp3 kp4 kp5 kg
  refine seq_step fun k6 hk6 => ?_
  simp [wT5]
  refine hk6 _ _ ?_
  clear hk6 k6
  have ke6 : Keep st (s5 ++ [.lst []]) [] := ke5.add
  have kg6 : KegAt (s5 ++ [.lst []]) g t := kg5.app
  have hbl : g < s5.length := kg5.lt.1
  have c6 : (s5 ++ [Cell.lst []])[s5.length]? = some (.lst []) := get_new0
  have hl6 : (s5 ++ [Cell.lst []]).length = s5.length + 1 := by simp
  generalize s5 ++ [Cell.lst []] = s6 at *
  generalize s5.length = bl at *
  clear ke5 kg5
  refine seq_step fun k7 hk7 => ?_
  simp [-wsSeq, wiRng1]
  show wLoop _ _ _ [.int 0, .int 1] _ _ _
  simp only [wLoop]
  refine ⟨trivial, ?_⟩
  simp only [wgName, List.set_cons_succ, List.set_cons_zero]
  refine book_body (k := 0) kg6 c6 (by simp) (by omega) (by omega) (by omega) fun ns0 cs0 s7 p0 b0 e70 m0 m5 hc0 hev0 kk7 kg7 c7 hp0 hb0 hlp0 hpb0 hbl0 => ?_
  refine ⟨trivial, ?_⟩
  simp only [wgName, List.set_cons_succ, List.set_cons_zero]
  refine book_body (k := 1) kg7 c7 (by simp) (by omega) (by omega) (by omega) fun ns1 cs1 s8 p1 b1 e71 m01 m51 hc1 hev1 kk8 kg8 c8 hp1 hb1 hlp1 hpb1 hbl1 => ?_
  refine ⟨trivial, hk7 _ _ ?_⟩
  clear hk7 k7
  have hb08 : s8[b0]? = some (.lst [dSet ns0 cs0, .ob p0]) := kk8.get hb0 (by simp; omega)
  have hp08 : s8[p0]? = some (cPairs []) := kk8.get hp0 (by simp; omega)
  have ke8 : Keep st s8 [] := ⟨by have := ke6.1; have := kk7.1; have := kk8.1; omega, fun i hi hn => by
    rw [kk8.2 i (by have := ke6.1; have := kk7.1; omega) (by simp; omega), kk7.2 i (by have := ke6.1; omega) (by simp; omega)]; exact ke6.2 i hi hn⟩
  clear kk7 kk8 kg7 c7 hp0 hb0 ke6 kg6 c6
  have gS0 : Good ns0 cs0 := ⟨by omega, by omega, fun c hc => every_ok m5 c (hev0 c hc)⟩
  have gS1 : Good ns1 cs1 := ⟨by omega, by omega, fun c hc => every_ok m51 c (hev1 c hc)⟩
  refine seq_step fun k9 hk9 => ?_
  simp [-wsSeq, wM]
  refine kIx_at c8 (i := 0) rfl ?_
  refine kIx_at hb08 (i := 0) rfl ?_
  refine ⟨s8.length, ns0, cs0, rfl, by simp, fun s9 q0 kk9 hq0 w0 => ⟨rfl, ?_⟩⟩
  have kn9 : Keep s8 s9 [] := kk9.new
  have hq0' : s8.length < q0 := by simp at hq0; omega
  clear kk9 hq0
  refine kIx_at (kn9.got c8) (i := 1) rfl ?_
  refine kIx_at (kn9.got hb1) (i := 0) rfl ?_
  refine ⟨s9.length, ns1, cs1, rfl, by simp, fun s10 q1 kk10 hq1 w1 => ⟨rfl, ?_⟩⟩
  have kn10 : Keep s9 s10 [] := kk10.new
  have hq1' : s9.length < q1 := by simp at hq1; omega
  clear kk10 hq1
  have hq0l : q0 < s9.length := get_lt w0.2
  have hq1l : q1 < s10.length := get_lt w1.2
  refine hk9 _ _ ?_
  clear hk9 k9
  have L0 : LS st (s10 ++ [.lst [.ob s8.length, .ob s9.length]]) g t bl s10.length (fun j => if j = 0 then ⟨b0, p0, s8.length, q0, ns0, cs0, []⟩ else ⟨b1, p1, s9.length, q1, ns1, cs1, []⟩) 0 := by
    have kn := kn9.trans kn10
    refine ⟨(ke8.trans kn).add, (kg8.keep kn).app, fun k hk => ?_, fun k hk => ?_, get_app (kn.got c8), get_new0, ?_⟩
    · obtain rfl | rfl : k = 0 ∨ k = 1 := by omega
      · exact ⟨⟨get_app (kn.got hb08), get_app (kn.got hp08)⟩, ⟨get_app (kn10.got w0.1), get_app (kn10.got w0.2)⟩⟩
      · exact ⟨⟨get_app (kn.got hb1), get_app (kn.got hp1)⟩, ⟨get_app w1.1, get_app w1.2⟩⟩
    · obtain rfl | rfl : k = 0 ∨ k = 1 := by omega
      · exact ⟨gS0, m0, m5, hc0, hev0, nofun, Nat.le_refl _⟩
      · exact ⟨gS1, m01, m51, hc1, hev1, nofun, Nat.le_refl _⟩
    · show st.length ≤ t ∧ t < g ∧ g < bl ∧ bl < p0 ∧ p0 < b0 ∧ b0 < p1 ∧ p1 < b1 ∧ b1 < s8.length ∧ s8.length < q0 ∧ q0 < s9.length ∧ s9.length < q1 ∧ q1 < s10.length
      omega
  generalize s10 ++ [Cell.lst [.ob s8.length, .ob s9.length]] = s11 at *
  generalize s10.length = wl at *
  generalize (fun j => if j = 0 then (⟨b0, p0, s8.length, q0, ns0, cs0, []⟩ : Bk) else ⟨b1, p1, s9.length, q1, ns1, cs1, []⟩) = Z at *
  rw [← ht] at L0 ⊢
  exact law_tail L0 (by rw [ht]; exact h2) p
end Hd
set_option Elab.async false
set_option linter.all false
set_option maxRecDepth 100000
set_option maxHeartbeats 0
namespace Hd
open PySem PySem.Spec PyProof.Rows L2 Vd
abbrev R : PySem.W.OpenRow := PySem.W.OpenLaw.row PySem.Challenge.rw_howeverheard_k79_whole_watches
abbrev hk : PySem.W.Hook := hookQ 4 fa fn ex
def ob (s : PySem.W.SharedT) : AlQ := obsQ 4 fa fn ex (HandSHeadRun.getT s)
theorem ob_eq (s : PySem.W.SharedT) : ob s = hk.obs s.abs := obsQ_eq (HandSHeadRun.getT_eq s)
theorem run (w : World) : HandSHeadRun.RunEq R (PySem.W.view R.prog [42]) hk ob 4000 loose w := by
  intro os
  kernel_rfl
end Hd
set_option Elab.async false
set_option linter.all false
set_option maxRecDepth 100000
set_option maxHeartbeats 0
/-! the law, end to end -/
namespace Hd
open PySem PySem.Spec PyProof.Rows L2 Vd
section
variable {K : PySem.W.Frag} {mg : Str → Option Value} {P : Program} {w : World} {base : Heap}
theorem dfn_no {k0 : Nat} {f : Addr} {fd : FuncData} {name qual : Str} {params : Arguments} {body : List Stmt} {scope : Scope} {N ps : List Str} {sp : DSp} (F : FunD K name qual params body scope [] [] f fd) (S : FnScope N ps scope) (no : ∀ ds st P, sp ds st P → False)
    (hb : ∀ (kV doc pm : Value) (an : Option Addr) (cdv ct : Value) (us ws : List Value) (n : Nat), n ≤ ps.length → us.length = n → ws.length = (ps.drop n).length → bindArgs (PySem.W.fnOf name qual params body scope .none kV doc pm an cdv ct) ⟨us, (ps.drop n).zip ws⟩ = pure (ps.zip (us ++ ws))) :
    DFn P w K mg base (k0 + 1) f ps sp := by
  refine ⟨fd, F.ok S (fun vs H Q E h => h.1) (fun cdv A outer s H vs Q E hr h => ?_), ?_, fun n hn => ?_⟩
  · obtain ⟨_, am, st, ds, P', _, _, hh, _⟩ := h
    exact (no _ _ _ hh).elim
  · refine F.bindsN fun kV doc pm an cdv ct us hl => ?_
    have := hb kV doc pm an cdv ct us [] ps.length (Nat.le_refl _) hl (by rw [List.drop_length]; rfl)
    rw [List.drop_length, List.append_nil] at this
    exact this
  · obtain ⟨oc, od, dV, kV, doc, pm, an, cdv, ct, osl, rfl, lk, hcd, hD, hK⟩ := F.ex
    rcases hD with ⟨_, rfl⟩ | ⟨e, _⟩
    · exact ⟨fun s us ws _ h1 h2 => .of_eq (hb kV doc pm an cdv ct us ws n hn h1 h2), fun r1 r2 => r1.append r2⟩
    · exact absurd rfl e
theorem base__law_same (F : Fc fa fn ex K mg) : DFn P w K mg base 1 (He.ga K "_law_same") P__law_same (spSame 0) := by
  obtain ⟨fd, Fd⟩ := F.def_ 32 (d := d32) rfl
  refine dfn_no Fd sc__law_same (fun ds st P => fun ⟨t, u, b, _, h, _⟩ => by simp [sameF] at h) ?_
  exact by
    intro kV doc pm an cdv ct us ws n h1 h2 h3
    subst h2
    rcases us with _ | ⟨a0, _ | ⟨a1, _ | ⟨a2, us⟩⟩⟩
    · obtain ⟨_, _, rfl⟩ := len2 h3; rfl
    · obtain ⟨_, rfl⟩ := len1 h3; rfl
    · obtain ⟨rfl⟩ := len0 h3; rfl
    · simp at h1
theorem law_ok (F : Fc fa fn ex K mg) {fd : FuncData} (Fd : FunD K d44.name d44.qual d44.params d44.body d44.scope (d44.dvs K) (d44.kws K) (He.fAd K d44.at_) fd) : FnOk P w K mg base CX0 12 (He.ga K "law") fd P_law (spD K 1 spLaw) := by
  have f_Watch_init := ok_Watch_init (P := P) (w := w) (base := base) F  keeps_wInit
  have f__law_keg := ok__law_keg (P := P) (w := w) (base := base) F  keeps_keg
  have f__law_pour := ok__law_pour (P := P) (w := w) (base := base) F  keeps_pour
  have f__law_every := ok__law_every (P := P) (w := w) (base := base) F  keeps_every
  have f__law_setting := ok__law_setting (P := P) (w := w) (base := base) F f__law_pour f__law_every keeps_setting
  have f_changes_of := ok_changes_of (P := P) (w := w) (base := base) F  keeps_changesOf
  have f_Hearing_join := ok_Hearing_join (P := P) (w := w) (base := base) F  keeps_join
  have f_Hearing_init := ok_Hearing_init (P := P) (w := w) (base := base) F f_changes_of f_Hearing_join keeps_init
  have f_Hearing_is_loose := ok_Hearing_is_loose (P := P) (w := w) (base := base) F  keeps_isLoose
  have f_is_spared := ok_is_spared (P := P) (w := w) (base := base) F f_Hearing_is_loose keeps_isSpared
  have f_kept_signs := ok_kept_signs (P := P) (w := w) (base := base) F f_is_spared keeps_kept
  have f_leading := ok_leading (P := P) (w := w) (base := base) F f_Hearing_is_loose keeps_leading
  have f_first_order := ok_first_order (P := P) (w := w) (base := base) F f_leading keeps_first
  have f_plain_by := ok_plain_by (P := P) (w := w) (base := base) F f_kept_signs f_first_order keeps_plain
  have f_are_kin := ok_are_kin (P := P) (w := w) (base := base) F f_Hearing_init f_plain_by keeps_kin
  have f_Watch_see := ok_Watch_see (P := P) (w := w) (base := base) F f_are_kin keeps_see
  have f__law_lots := ok__law_lots (P := P) (w := w) (base := base) F  keeps_lots
  have f__law_kept := ok__law_kept (P := P) (w := w) (base := base) F  keeps_lkept
  have f__law_alike := ok__law_alike (P := P) (w := w) (base := base) F f__law_kept keeps_alike
  have f0__law_same := base__law_same (P := P) (w := w) (base := base) F
  have f1__law_same := ok__law_same F f0__law_same (keeps_same 0)
  have f2__law_same := ok__law_same F f1__law_same (keeps_same 1)
  have f3__law_same := ok__law_same F f2__law_same (keeps_same 2)
  have f4__law_same := ok__law_same F f3__law_same (keeps_same 3)
  have f5__law_same := ok__law_same F f4__law_same (keeps_same 4)
  have f6__law_same := ok__law_same F f5__law_same (keeps_same 5)
  have f7__law_same := ok__law_same F f6__law_same (keeps_same 6)
  have f8__law_same := ok__law_same F f7__law_same (keeps_same 7)
  have f__law_same := f8__law_same
  have f__law_see := ok__law_see (P := P) (w := w) (base := base) F f_are_kin f_Watch_see f__law_lots f__law_alike f__law_same (keeps_lsee mkin)
  have f_Watch_strange := ok_Watch_strange (P := P) (w := w) (base := base) F f_are_kin keeps_strange
  have f_all_changes := ok_all_changes (P := P) (w := w) (base := base) F  keeps_all
  have f_Watch_explaining := ok_Watch_explaining (P := P) (w := w) (base := base) F f_all_changes f_are_kin keeps_expl
  have f_Watch_needed := ok_Watch_needed (P := P) (w := w) (base := base) F f_are_kin keeps_need
  have f_Watch_pairs := ok_Watch_pairs (P := P) (w := w) (base := base) F  keeps_pairs
  have f__law_strange := ok__law_strange (P := P) (w := w) (base := base) F f__law_lots f__law_alike keeps_lstr
  have f__law_explaining := ok__law_explaining (P := P) (w := w) (base := base) F f__law_every f__law_lots f__law_alike f__law_strange keeps_lexpl
  have f__law_needed := ok__law_needed (P := P) (w := w) (base := base) F f__law_lots f__law_alike keeps_lneed
  have f__law_is := ok__law_is (P := P) (w := w) (base := base) F f_Watch_strange f_Watch_explaining f_Watch_needed f_Watch_pairs f__law_same f__law_strange f__law_explaining f__law_needed keeps_is
  have f__law_whole := ok__law_whole (P := P) (w := w) (base := base) F f__law_is keeps_whole
  have f__law_row := ok__law_row (P := P) (w := w) (base := base) F f__law_pour keeps_row
  have f__law_walked := ok__law_walked (P := P) (w := w) (base := base) F f__law_pour keeps_walked
  have f__law_pair := ok__law_pair (P := P) (w := w) (base := base) F f__law_pour f__law_row f__law_walked keeps_pairD
  have f_two_rows := ok_two_rows (P := P) (w := w) (base := base) F  keeps_twoRows
  have f_joins := ok_joins (P := P) (w := w) (base := base) F f_two_rows f_are_kin keeps_joins
  have f_without_change := ok_without_change (P := P) (w := w) (base := base) F  keeps_without
  have f_is_spare := ok_is_spare (P := P) (w := w) (base := base) F f_without_change f_joins keeps_isSpare
  have f__law_by_hand := ok__law_by_hand (P := P) (w := w) (base := base) F f_Watch_init f_Watch_see f_Watch_strange f_Watch_explaining f_Watch_needed f_Watch_pairs f_joins f_is_spare f__law_pour f__law_every f__law_same keeps_byHand
  have f__law_of_changes := ok__law_of_changes (P := P) (w := w) (base := base) F f_two_rows f_Watch_init f_Watch_see f_Watch_strange f_Watch_explaining f_Watch_needed f_joins f_is_spare f__law_pour f__law_every f__law_lots f__law_alike f__law_same f__law_explaining f__law_needed f__law_see keeps_ofCh
  exact Fd.ok sc_law (fun vs H Q E h => h.1) (fun cdv A outer s H vs Q E hr h => ⟨tDs K (w_law spWInit spKeg spPour spSetting spLSee spLIs spLWhole spPairD spByHand spOfCh), (der_law F f_Watch_init f__law_keg f__law_pour f__law_setting f__law_see f__law_is f__law_whole f__law_pair f__law_by_hand f__law_of_changes _ cdv A outer s H E hr).nox, body_ok keeps_law h⟩)
theorem look_mem {α β : Type} [BEq α] [LawfulBEq α] {a : α} {o : β} : ∀ {l : List (α × β)}, l.lookup a = some o → (a, o) ∈ l
  | [], h => by cases h
  | (b, x) :: r, h => by
    rw [List.lookup_cons] at h
    by_cases c : (a == b) = true
    · rw [c] at h
      have e := eq_of_beq c
      cases h
      rw [e]; exact List.mem_cons_self
    · rw [Bool.not_eq_true] at c
      rw [c] at h
      exact List.mem_cons_of_mem _ (look_mem h)
theorem script_cell {H : Hp} {a : Addr} {ns : List Int} (hn : nolist K = true) (hO : Only H) (h : SqL K H a (ns.map V.int)) : RepS K [a] H [.fro (ns.map .int)] := by
  have hv : ∀ ns : List Int, RepVs K [a] H (ns.map D.int) (ns.map V.int) := fun ns => by
    induction ns with
    | nil => simp [RepVs]
    | cons x r ih => exact ⟨_, _, rfl, by simp [RepV], ih⟩
  refine ⟨rfl, by simp, fun n b c h1 h2 => ?_⟩
  cases n with
  | succ n => simp at h1
  | zero =>
    simp at h1 h2
    subst h1 h2
    rcases h with (h | h) | ⟨o, its, n, h, hc, _⟩
    · rcases hO a with e | ⟨_, _, e⟩ <;> rw [e] at h <;> cases h
    · exact ⟨_, h, hv ns⟩
    · have hm := look_mem h
      unfold nolist at hn
      rw [List.all_eq_true] at hn
      have := hn _ hm
      simp [hc] at this
theorem facts {P : Program} {w : World} {K : PySem.W.Frag} {h : Heap} {mg : Str → Option Value} {f : Addr} (X : K.In h) (G : h.Ns mainGlobals mg) (hfa : mg ("law" : Str) = some (.ref f)) (c : SaysQ fa fn ex K) :
    ∃ fd : FuncData, (∀ (s : Shared) (v : Value), BindsTo s fd ⟨[v], []⟩ [("script", v)]) ∧ ∀ base : Heap, K.In base → base.Ns mainGlobals mg → FnOk P w K mg base CX0 12 f fd ["script"] (spD K 1 spLaw) := by
  have F : Fc fa fn ex K mg := ⟨c, h, X, G⟩
  obtain ⟨fd, Fd⟩ := F.def_ 44 (d := d44) rfl
  have e := hfa.symm.trans (F.glo 56)
  cases e
  have b := FunD.bindsA (ps := ["script"]) Fd fun _ _ _ _ _ _ us hl => match us, hl with | [_], _ => rfl
  exact ⟨fd, fun s v => b s [v] rfl, fun base _ _ => law_ok F Fd⟩
end
end Hd
open PySem PySem.W PySem.Calls PyProof.Rows
set_option maxRecDepth 100000 in
set_option maxHeartbeats 0 in
theorem PySem.Challenge.cw_howeverheard_k79_whole_watches_holds : PySem.Challenge.rw_howeverheard_k79_whole_watches.Holds := by
  w_on; o_law
  refine HandSHeadRun.head_any (r := OpenLaw.row PySem.Challenge.rw_howeverheard_k79_whole_watches) (q := view (OpenLaw.row PySem.Challenge.rw_howeverheard_k79_whole_watches).prog [42]) (H := Hd.hk) (ob := Hd.ob) (M := 4000) (loose := Hd.loose) (d := HandSHeadRun.topDef (OpenLaw.row PySem.Challenge.rw_howeverheard_k79_whole_watches).prog 42) (kwd := []) Hd.ob_eq
    (by kernel_rfl) (fun s => by kernel_rfl) Hd.run (by kernel_rfl) (by kernel_rfl) (by kernel_rfl) (by rfl) (by first | assumption | decide +kernel) (by decide +kernel) ⟨rfl, rfl, rfl, rfl, rfl, by decide +kernel⟩ ?hw ?hc
  case hw => w_witness2
  case hc =>
    refine L2.walk_ofE (l := PySem.Challenge.rw_howeverheard_k79_whole_watches) (n := 63) (k := 12) (x := "script") (CX := L2.CX0) rfl (by decide) (by kernel_rfl) ⟨rfl, by decide, by decide⟩ ?F (fun _ _ _ _ z => z)
    intro w mg fa h Y G hmg0
    obtain ⟨K, KX, c⟩ := Y
    have hmg : mg ("law" : PySem.Str) = some (.ref fa) := by
      have e : (HandSHeadRun.topDef (OpenLaw.row PySem.Challenge.rw_howeverheard_k79_whole_watches).prog 42).name = ("law" : PySem.Str) := by kernel_rfl
      rw [← e]
      exact hmg0
    obtain ⟨fd, hb, hF⟩ := Hd.facts (P := (PySem.Challenge.rw_howeverheard_k79_whole_watches).prog) (w := w) KX G hmg c
    have hnl : Hd.nolist K = true := Hd.ex_nolist (mg := mg) ⟨c, h, KX, G⟩
    refine ⟨K, fd, Vd.spD K 1 Hd.spLaw, KX, hb, fun H a ns hl hO hS => ?_, hF⟩
    refine ⟨rfl, [a], [.fro (ns.map .int)], [.ob 0], fun d _ => d = .bl true, ⟨_, _, rfl, ⟨a, rfl, rfl⟩, rfl⟩, Hd.script_cell hnl hO hS, ⟨0, ns, rfl, rfl, hl, rfl⟩, fun am' H' v d st' _ _ hv hd => ?_⟩
    subst hd
    exact hv
