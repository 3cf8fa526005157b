/-
  STATES in front of a heap that is not looked into: objects are dropped. Conditions: none.
-/
import Derived.Test.YtdgoodjhndeojaaAbs21
set_option linter.unusedVariables false
set_option linter.unusedSimpArgs false
namespace Go.Abs
theorem Clo.up {H H' : Heap} (hs : ∀ i, (H.get i).isSome = true → (H'.get i).isSome = true) {a : AV} (h : Clo H a) : Clo H' a := by
  induction h with
  | any => exact .any
  | pv p => exact .pv p
  | pad rows i k => exact .pad rows i k
  | ref h => exact .ref (hs _ h)
  | osl h => exact .osl (hs _ h)
  | clo h ih => exact .clo ih
  | agg h ih => exact .agg ih
  | tup h ih => exact .tup ih
  | mp h => exact .mp (hs _ h)
  | it h => exact .it (hs _ h)
theorem Clo.app {D K : Heap} {a : AV} (h : Clo K a) : Clo (D ++ K) a := h.up fun i hi => by
  rw [hget_app]
  cases D.get i with
  | none => exact hi
  | some o => rfl
theorem Clo.cons {p : Nat × Ob} {K : Heap} {a : AV} (h : Clo K a) : Clo (p :: K) a := Clo.app (D := [p]) h
theorem Closed.app {D K : Heap} (h3 : ∀ p ∈ D, ∀ r ∈ p.2.rows, ∀ a ∈ r, Clo (D ++ K) a) (h4 : Closed K) : Closed (D ++ K) := by
  intro id o ho
  rw [hget_app] at ho
  cases e : D.get id with
  | some x =>
    rw [e] at ho
    cases ho
    exact h3 _ (mem_of_hget e)
  | none =>
    rw [e] at ho
    exact fun r hr a ha => (h4 id o ho r hr a ha).app
theorem Sub.front {D D' K : Heap} (h1 : ∀ p ∈ D, K.get p.1 = none) (h2 : ∀ p ∈ D', D.get p.1 = some p.2) : Sub (D' ++ K) (D ++ K) := by
  intro id o ho
  rw [hget_app] at ho ⊢
  cases e : D'.get id with
  | some x =>
    rw [e] at ho
    cases ho
    rw [h2 _ (mem_of_hget e)]
  | none =>
    rw [e] at ho
    cases e2 : D.get id with
    | none => exact ho
    | some x =>
      have := h1 _ (mem_of_hget e2)
      rw [this] at ho; cases ho
theorem Kept.front {G0 D D' K : Heap} (h2 : ∀ p ∈ D', D.get p.1 = some p.2) (h5 : ∀ p ∈ D, G0.get p.1 = none) : Kept G0 (D' ++ K) (D ++ K) := by
  intro id hi
  have hD : D.get id = none := by
    cases e : D.get id with
    | none => rfl
    | some x =>
      have := h5 _ (mem_of_hget e)
      rw [this] at hi; cases hi
  have hD' : D'.get id = none := by
    cases e : D'.get id with
    | none => rfl
    | some x =>
      have := h2 _ (mem_of_hget e)
      rw [hD] at this; cases this
  rw [hget_app, hget_app, hD, hD']
/-- Objects in front are dropped, the others stay. -/
theorem Ent.front {G0 : Heap} {E E' : Env} {K : Heap} (D D' : Heap) (hE : EOk E (D' ++ K) E') (h1 : ∀ p ∈ D, K.get p.1 = none) (h2 : ∀ p ∈ D', D.get p.1 = some p.2) (h3 : ∀ p ∈ D', ∀ r ∈ p.2.rows, ∀ a ∈ r, Clo (D' ++ K) a) (h4 : Closed K)
    (h5 : ∀ p ∈ D, G0.get p.1 = none) : Ent G0 E (D ++ K) E' (D' ++ K) := by
  intro G hG N a w hs
  obtain ⟨I, ι, hr, hst, he⟩ := hs.rel
  subst hG
  have hsub := Sub.front h1 h2
  refine ⟨hs.defers, hs.size, I, ι, hr.restrict hsub (Closed.app h3 h4), hst.restrict hsub (Kept.front h2 h5), fun t v ht => ?_⟩
  obtain ⟨k1, k2⟩ := hE.spec _ (mem_of_get ht)
  obtain ⟨c, hc, hv⟩ := he t v k1
  exact ⟨c, hc, hv.restrict hsub k2⟩
theorem Closed.cons {i : Nat} {o : Ob} {K : Heap} (h3 : ∀ r ∈ o.rows, ∀ a ∈ r, Clo ((i, o) :: K) a) (h4 : Closed K) : Closed ((i, o) :: K) :=
  Closed.app (D := [(i, o)]) (fun p hp => by rw [List.mem_singleton] at hp; subst hp; exact h3) h4
/-- Names of objects of a front. -/
def lo (D : Heap) (n : Nat) : Prop := ∀ p ∈ D, 900 ≤ p.1 ∧ p.1 < n
theorem lo_none {D : Heap} {n i : Nat} (h : lo D n) (hi : i < 900 ∨ n ≤ i) : D.get i = none := by
  cases e : D.get i with
  | none => rfl
  | some x => have := h _ (mem_of_hget e); simp only at this; omega
theorem lo_app {D : Heap} {n i : Nat} (h : lo D n) (hi : i < 900 ∨ n ≤ i) (K : Heap) : Heap.get (D ++ K) i = K.get i := by rw [hget_app, lo_none h hi]
theorem lo_nil (n : Nat) : lo [] n := fun p hp => by cases hp
theorem lo_cons {D : Heap} {n i : Nat} {o : Ob} (h : lo D n) (h1 : 900 ≤ i) (h2 : i < n) : lo ((i, o) :: D) n := fun p hp => by
  rcases List.mem_cons.1 hp with rfl | hp
  · exact ⟨h1, h2⟩
  · exact h p hp
theorem lo_mono {D : Heap} {n m : Nat} (h : lo D n) (hm : n ≤ m) : lo D m := fun p hp => by have := h p hp; omega
theorem lo_append {D D' : Heap} {n : Nat} (h : lo D n) (h' : lo D' n) : lo (D ++ D') n := fun p hp => by
  rcases List.mem_append.1 hp with hp | hp
  · exact h p hp
  · exact h' p hp
/-- No names of fronts are in a heap. -/
def clear (K : Heap) : Prop := ∀ i, 900 ≤ i → i < 1000 → K.get i = none
theorem clear_lo {K D : Heap} {n : Nat} (h : clear K) (hD : lo D n) (hn : n ≤ 1000) : ∀ p ∈ D, K.get p.1 = none := fun p hp => by
  have := hD p hp
  exact h p.1 (by omega) (by omega)
/-- A returned value and the heap in another writing. -/
theorem Fin.of_ent {G0 H H' : Heap} {r r' : AV} (h : Ent G0 [(0, r)] H [(0, r')] H') : Fin G0 H r H' r' := by
  intro G hG I ι w v h1 h2 h3
  obtain ⟨_, _, I', ι', k1, k2, k3⟩ := h G hG 1 ⟨#[v], []⟩ w ⟨rfl, rfl, I, ι, h1, h2, fun t x hx => by
    simp only [Env.get] at hx
    cases e : Nat.beq 0 t with
    | true => rw [e] at hx; cases hx; rw [← Nat.eq_of_beq_eq_true e]; exact ⟨v, rfl, h3⟩
    | false => rw [e] at hx; cases hx⟩
  obtain ⟨c, hc, hv⟩ := k3 0 r' rfl
  cases hc
  exact ⟨I', ι', k1, k2, hv⟩
/-- What stands in front in both forms, or not behind. -/
theorem Sub.front' {D D' K : Heap} (h1 : ∀ p ∈ D, (D'.get p.1).isSome = true ∨ K.get p.1 = none) (h2 : ∀ p ∈ D', D.get p.1 = some p.2) : Sub (D' ++ K) (D ++ K) := by
  intro id o ho
  rw [hget_app] at ho ⊢
  cases e : D'.get id with
  | some x =>
    rw [e] at ho
    cases ho
    rw [h2 _ (mem_of_hget e)]
  | none =>
    rw [e] at ho
    cases e2 : D.get id with
    | none => exact ho
    | some x =>
      rcases h1 _ (mem_of_hget e2) with h | h
      · simp only [e] at h; cases h
      · rw [h] at ho; cases ho
theorem Kept.front' {G0 D D' K : Heap} (h2 : ∀ p ∈ D', D.get p.1 = some p.2) (h5 : ∀ p ∈ D, (D'.get p.1).isSome = true ∨ G0.get p.1 = none) : Kept G0 (D' ++ K) (D ++ K) := by
  intro id hi
  rw [hget_app, hget_app]
  cases e : D'.get id with
  | some x => rw [h2 _ (mem_of_hget e)]
  | none =>
    cases e2 : D.get id with
    | none => rfl
    | some x =>
      rcases h5 _ (mem_of_hget e2) with h | h
      · simp only [e] at h; cases h
      · rw [h] at hi; cases hi
theorem Ent.front' {G0 : Heap} {E E' : Env} {K : Heap} (D D' : Heap) (hE : EOk E (D' ++ K) E') (h1 : ∀ p ∈ D, (D'.get p.1).isSome = true ∨ K.get p.1 = none) (h2 : ∀ p ∈ D', D.get p.1 = some p.2) (h3 : ∀ p ∈ D', ∀ r ∈ p.2.rows, ∀ a ∈ r, Clo (D' ++ K) a) (h4 : Closed K)
    (h5 : ∀ p ∈ D, (D'.get p.1).isSome = true ∨ G0.get p.1 = none) : Ent G0 E (D ++ K) E' (D' ++ K) := by
  intro G hG N a w hs
  obtain ⟨I, ι, hr, hst, he⟩ := hs.rel
  subst hG
  have hsub := Sub.front' h1 h2
  refine ⟨hs.defers, hs.size, I, ι, hr.restrict hsub (Closed.app h3 h4), hst.restrict hsub (Kept.front' h2 h5), fun t v ht => ?_⟩
  obtain ⟨k1, k2⟩ := hE.spec _ (mem_of_get ht)
  obtain ⟨c, hc, hv⟩ := he t v k1
  exact ⟨c, hc, hv.restrict hsub k2⟩
theorem Fin.front' {G0 K : Heap} {r : AV} (D D' : Heap) (hr : Clo (D' ++ K) r) (h1 : ∀ p ∈ D, (D'.get p.1).isSome = true ∨ K.get p.1 = none) (h2 : ∀ p ∈ D', D.get p.1 = some p.2) (h3 : ∀ p ∈ D', ∀ r ∈ p.2.rows, ∀ a ∈ r, Clo (D' ++ K) a) (h4 : Closed K)
    (h5 : ∀ p ∈ D, (D'.get p.1).isSome = true ∨ G0.get p.1 = none) : Fin G0 (D ++ K) r (D' ++ K) r := by
  intro G hG I ι w v k1 k2 k3
  subst hG
  have hsub := Sub.front' h1 h2
  exact ⟨I, ι, k1.restrict hsub (Closed.app h3 h4), k2.restrict hsub (Kept.front' h2 h5), k3.restrict hsub hr⟩
theorem Fin.get' {G0 H H' : Heap} {r : AV} (hH : ∀ j, H'.get j = H.get j) : Fin G0 H r H' r := Fin.of_ent (Ent.get' ⟨⟨_, rfl, rfl⟩, trivial⟩ hH)
end Go.Abs
