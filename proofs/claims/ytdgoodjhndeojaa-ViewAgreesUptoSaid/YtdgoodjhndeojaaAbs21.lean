/-
  STATES AND RESULTS in front of a heap that is not looked into. Conditions: none.
-/
import Derived.Test.YtdgoodjhndeojaaAbs20
set_option linter.unusedVariables false
set_option linter.unusedSimpArgs false
namespace Go.Abs
/-- The object in front hides what stands behind it under the same name. -/
theorem get_hide (D : Heap) (id : Nat) (o o' : Ob) (H : Heap) (j : Nat) : Heap.get (D ++ (id, o) :: H) j = Heap.get ((id, o) :: (D ++ (id, o') :: H)) j ∨ (D.get id).isSome = true := by
  cases hD : D.get id with
  | some x => exact .inr rfl
  | none =>
    left
    cases e : Nat.beq id j with
    | true =>
      obtain rfl := Nat.eq_of_beq_eq_true e
      rw [hget_app, hD]
      simp [Heap.get, beq_self]
    | false =>
      have h1 : Heap.get ((id, o) :: (D ++ (id, o') :: H)) j = Heap.get (D ++ (id, o') :: H) j := by simp [Heap.get, e]
      rw [h1, hget_app, hget_app]
      simp [Heap.get, e]
theorem Ent.get' {G0 : Heap} {E E' : Env} {H H' : Heap} (h : EOk0 E E') (hH : ∀ j, H'.get j = H.get j) : Ent G0 E H E' H' := (Ent.e0 h).trans (Ent.get (fun _ => rfl) hH)
theorem get_dup (id : Nat) (o o' : Ob) (H : Heap) (j : Nat) : Heap.get ((id, o) :: H) j = Heap.get ((id, o) :: (id, o') :: H) j := by
  cases e : Nat.beq id j <;> simp [Heap.get, e]
/-- The object in front was written anew. -/
theorem Ent.dup {G0 : Heap} {E E' : Env} {H : Heap} {id : Nat} {o o' : Ob} (h : EOk0 E E') : Ent G0 E ((id, o) :: (id, o') :: H) E' ((id, o) :: H) := Ent.get' h (get_dup id o o' H)
theorem Kept.app {D H G0 : Heap} (hG : ∀ p ∈ D, G0.get p.1 = none) : Kept G0 H (D ++ H) := fun id hi => by
  rw [hget_app]
  cases e : D.get id with
  | none => rfl
  | some o =>
    have := hG _ (mem_of_hget e)
    rw [this] at hi
    cases hi
/-- The objects in front end with the call. -/
theorem Fin.pops' {G0 H : Heap} {r : AV} (D : Heap) (hr : Clo H r) (hc : Closed H) (hD : ∀ p ∈ D, H.get p.1 = none) (hG : ∀ p ∈ D, G0.get p.1 = none) : Fin G0 (D ++ H) r H r := by
  intro G hG' I ι w v h1 h2 h3
  subst hG'
  exact ⟨I, ι, h1.restrict (Sub.app hD) hc, h2.restrict (Sub.app hD) (Kept.app hG), h3.restrict (Sub.app hD) hr⟩
/-- The result's slice is frozen. -/
theorem Fin.fzC {G0 H H' : Heap} {r r' : AV} {id : Nat} {ob : Ob} (ps : List (List PV)) (hH : H.get id = some ob) (hps : ob.rows = ps.map (·.map .pv)) (hf : Fz H' id ob.g ps r r') (hno : H'.get id = none) (hs : Sub H' H) (hc : Closed H') (hk : Kept G0 H' H) : Fin G0 H r H' r' := by
  intro G hG I ι w v h1 h2 h3
  subst hG
  exact ⟨_, ι, h1.freeze hs hc hH hno, h2.freeze hs hk hH, VRel.freeze h1 hs hH hps hf h3⟩
/-- An owned slice in front is what is returned. -/
theorem Fin.slice {G0 H : Heap} {id g n : Nat} {ob : Ob} (D : Heap) (ps : List (List PV)) (hH : Heap.get (D ++ H) id = some ob) (hg : ob.g = g) (hps : ob.rows = ps.map (·.map .pv)) (hn : ps.length = n) (hc : Closed H) (hD : ∀ p ∈ D, H.get p.1 = none) (hG : ∀ p ∈ D, G0.get p.1 = none) (hid : H.get id = none) :
    Fin G0 (D ++ H) (.osl id g 0 n) H (.pv (.sl ps)) := by
  subst hg hn
  exact Fin.fzC ps hH hps (.osl (by rw [Nat.zero_add, List.drop_zero, List.take_length])) hid (Sub.app hD) hc (Kept.app hG)
end Go.Abs
