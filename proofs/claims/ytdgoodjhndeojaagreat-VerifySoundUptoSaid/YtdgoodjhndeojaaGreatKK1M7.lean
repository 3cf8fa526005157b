/-
  PLAIN LAWS of a greedy choice: the places that it takes fit together, and no others come before them. Conditions: none.
  PLAIN LAWS of evidence: what it is, what is found. Conditions: none.
  CONTRACTS: package edit: edits compared, valid edits; valid change sets. Conditions: lengths below 2^62.
-/
import Derived.Test.YtdgoodjhndeojaaGreatKK1M6
import Derived.ChangeKeysEq
section
set_option linter.unusedVariables false
set_option linter.unusedSimpArgs false
namespace Go.Proofs.YtdgoodjhndeojaaGreat
open Go.Abs
section
variable {α κ : Type}
/-- The places of at most n elements that are shown, each of which fits with all that were taken. -/
def gr (S : α → Bool) (T : α → α → Bool) : List α → Nat → Nat → List α → List Nat
  | [], _, _, _ => []
  | _ :: _, _, 0, _ => []
  | x :: r, i, n + 1, tk => if S x && !(tk.any fun y => !T y x) then i :: gr S T r (i + 1) n (tk ++ [x]) else gr S T r (i + 1) (n + 1) tk
theorem fits_iff {T : α → α → Bool} {tk : List α} {x : α} : (!(tk.any fun y => !T y x)) = true ↔ ∀ y ∈ tk, T y x = true := by
  rw [Bool.not_eq_true', List.any_eq_false]
  simp
theorem drop_cons {l r : List α} {i : Nat} {x : α} (h : l.drop i = x :: r) : l[i]? = some x ∧ l.drop (i + 1) = r := by
  have hlt : i < l.length := by
    have := congrArg List.length h
    simp only [List.length_drop, List.length_cons] at this
    omega
  rw [List.drop_eq_getElem_cons hlt] at h
  injection h with h1 h2
  exact ⟨by rw [List.getElem?_eq_getElem hlt, h1], h2⟩
theorem gr_sound {S : α → Bool} {T : α → α → Bool} (l : List α) : ∀ (rest : List α) (i n : Nat) (tk : List α), l.drop i = rest →
    (∀ p ∈ gr S T rest i n tk, i ≤ p ∧ ∃ x, l[p]? = some x ∧ S x = true ∧ ∀ y ∈ tk, T y x = true) ∧
    (gr S T rest i n tk).Pairwise (fun p q => p < q ∧ ∀ x y, l[p]? = some x → l[q]? = some y → T x y = true) ∧ (gr S T rest i n tk).length ≤ n
  | [], i, n, tk, h => by simp [gr]
  | x :: r, i, 0, tk, h => by simp [gr]
  | x :: r, i, n + 1, tk, h => by
    obtain ⟨hx, hr⟩ := drop_cons h
    rw [gr]
    split
    · next hc =>
      rw [Bool.and_eq_true, fits_iff] at hc
      obtain ⟨h1, h2, h3⟩ := gr_sound (S := S) (T := T) l r (i + 1) n (tk ++ [x]) hr
      refine ⟨?_, ?_, by simp only [List.length_cons]; omega⟩
      · intro p hp
        rcases List.mem_cons.1 hp with rfl | hp
        · exact ⟨Nat.le_refl _, x, hx, hc.1, hc.2⟩
        · obtain ⟨a, y, b, c, d⟩ := h1 p hp
          exact ⟨by omega, y, b, c, fun z hz => d z (by simp [hz])⟩
      · refine List.pairwise_cons.2 ⟨fun q hq => ?_, h2⟩
        obtain ⟨a, y, b, c, d⟩ := h1 q hq
        refine ⟨by omega, fun u v hu hv => ?_⟩
        rw [hx] at hu; rw [b] at hv
        cases hu; cases hv
        exact d x (by simp)
    · obtain ⟨h1, h2, h3⟩ := gr_sound (S := S) (T := T) l r (i + 1) (n + 1) tk hr
      refine ⟨fun p hp => ?_, h2, h3⟩
      obtain ⟨a, b⟩ := h1 p hp
      exact ⟨by omega, b⟩
/-- With a key for each element, of which none may come twice: no choice is before the greedy one, at any place. -/
theorem gr_least {S : α → Bool} {T : α → α → Bool} {kf : α → κ} (hT : ∀ a b, T a b = true ↔ kf a ≠ kf b) (l : List α) : ∀ (rest : List α) (i n : Nat) (tk : List α) (e : List Nat), l.drop i = rest → n ≤ e.length → e.Pairwise (· < ·) →
    (∀ p ∈ e, i ≤ p ∧ ∃ x, l[p]? = some x ∧ S x = true ∧ ∀ y ∈ tk, kf y ≠ kf x) → e.Pairwise (fun p q => ∀ x y, l[p]? = some x → l[q]? = some y → kf x ≠ kf y) →
    (gr S T rest i n tk).length = n ∧ ∀ (j a b : Nat), (gr S T rest i n tk)[j]? = some a → e[j]? = some b → a ≤ b
  | [], i, n, tk, e, h, hn, hp, he, hk => by
    have h0 : e = [] := by
      cases e with
      | nil => rfl
      | cons p e =>
        obtain ⟨h1, x, h2, _⟩ := he p (by simp)
        have := (List.getElem?_eq_some_iff.1 h2).1
        have := List.drop_eq_nil_iff.1 h
        omega
    subst h0
    simp only [List.length_nil] at hn
    exact ⟨by rw [gr]; simp; omega, fun j a b h1 _ => by rw [gr] at h1; simp at h1⟩
  | x :: r, i, 0, tk, e, h, hn, hp, he, hk => ⟨by rw [gr]; rfl, fun j a b h1 _ => by rw [gr] at h1; simp at h1⟩
  | x :: r, i, n + 1, tk, e, h, hn, hp, he, hk => by
    obtain ⟨hx, hr⟩ := drop_cons h
    rw [gr]
    split
    · next hc =>
      rw [Bool.and_eq_true, fits_iff] at hc
      -- one element leaves 'e': the one with this key, or the first one
      have key : ∃ t, t < e.length ∧ ∀ p ∈ e.eraseIdx t, ∀ y, l[p]? = some y → kf x ≠ kf y := by
        by_cases hh : ∃ p ∈ e, ∃ y, l[p]? = some y ∧ kf x = kf y
        · obtain ⟨p, hpe, y, hy, hxy⟩ := hh
          obtain ⟨t, ht⟩ := List.mem_iff_getElem?.1 hpe
          obtain ⟨htl, hte⟩ := List.getElem?_eq_some_iff.1 ht
          refine ⟨t, htl, fun q hq z hz => ?_⟩
          rw [List.mem_eraseIdx_iff_getElem?] at hq
          obtain ⟨s, hs, hsq⟩ := hq
          obtain ⟨hsl, hse⟩ := List.getElem?_eq_some_iff.1 hsq
          rw [List.pairwise_iff_getElem] at hk
          rcases Nat.lt_or_gt_of_ne hs with hlt | hlt
          · have := hk s t hsl htl hlt z y (by rw [hse]; exact hz) (by rw [hte]; exact hy)
            rw [hxy]; exact this.symm
          · have := hk t s htl hsl hlt y z (by rw [hte]; exact hy) (by rw [hse]; exact hz)
            rw [hxy]; exact this
        · refine ⟨0, by omega, fun p hpe y hy e1 => hh ⟨p, ?_, y, hy, e1⟩⟩
          exact (List.eraseIdx_sublist ..).subset hpe
      obtain ⟨t, htl, ht⟩ := key
      have hsub := List.eraseIdx_sublist e t
      have hlen : (e.eraseIdx t).length = e.length - 1 := List.length_eraseIdx_of_lt htl
      obtain ⟨h1, h2⟩ := gr_least (S := S) hT l r (i + 1) n (tk ++ [x]) (e.eraseIdx t) hr (by omega) (List.Pairwise.sublist hsub hp) (fun p hpe => by
        obtain ⟨a, y, b, c, d⟩ := he p (hsub.subset hpe)
        have hne := ht p hpe y b
        refine ⟨?_, y, b, c, fun z hz => ?_⟩
        · rcases Nat.lt_or_ge i p with h | h
          · exact h
          · have : p = i := by omega
            subst this
            rw [hx] at b; cases b
            exact absurd rfl hne
        · rcases List.mem_append.1 hz with hz | hz
          · exact d z hz
          · rw [List.mem_singleton] at hz; subst hz; exact hne) (List.Pairwise.sublist hsub hk)
      refine ⟨by simp only [List.length_cons, h1], fun j a b ha hb => ?_⟩
      cases j with
      | zero =>
        simp only [List.getElem?_cons_zero, Option.some.injEq] at ha
        have := (he b (List.mem_of_getElem? hb)).1
        omega
      | succ j =>
        simp only [List.getElem?_cons_succ] at ha
        obtain ⟨hjl, hje⟩ := List.getElem?_eq_some_iff.1 hb
        by_cases hjt : j < t
        · have hb' : (e.eraseIdx t)[j]? = some e[j] := by
            rw [List.getElem?_eraseIdx, if_pos hjt]; exact List.getElem?_eq_getElem (by omega)
          have := h2 j a _ ha hb'
          rw [List.pairwise_iff_getElem] at hp
          have := hp j (j + 1) (by omega) hjl (by omega)
          omega
        · have hb' : (e.eraseIdx t)[j]? = some b := by
            rw [List.getElem?_eraseIdx, if_neg hjt]; exact hb
          exact h2 j a b ha hb'
    · next hc =>
      have hno : ∀ p ∈ e, i + 1 ≤ p := fun p hpe => by
        obtain ⟨a, y, b, c, d⟩ := he p hpe
        rcases Nat.lt_or_ge i p with h | h
        · exact h
        · have : p = i := by omega
          subst this
          rw [hx] at b; cases b
          exact absurd (by rw [Bool.and_eq_true, fits_iff]; exact ⟨c, fun z hz => (hT z x).2 (d z hz)⟩) hc
      exact gr_least (S := S) hT l r (i + 1) (n + 1) tk e hr hn hp (fun p hpe => ⟨hno p hpe, (he p hpe).2⟩) hk
/-- Elements of a class alone: the class becomes a part of what is shown. -/
theorem gr_cls {S : α → Bool} {T T' : α → α → Bool} {cl : α → α → Bool} (hT : ∀ a b, T a b = (T' a b && cl a b)) (x0 : α) (hcl : ∀ y z, cl x0 y = true → cl y z = cl x0 z) : ∀ (rest : List α) (i n : Nat) (tk : List α), tk ≠ [] → (∀ y ∈ tk, cl x0 y = true) →
    gr S T rest i n tk = gr (fun y => S y && cl x0 y) T' rest i n tk
  | [], i, n, tk, h1, h2 => by simp [gr]
  | x :: r, i, 0, tk, h1, h2 => by simp [gr]
  | x :: r, i, n + 1, tk, h1, h2 => by
    have e : (S x && !(tk.any fun y => !T y x)) = ((S x && cl x0 x) && !(tk.any fun y => !T' y x)) := by
      rw [Bool.eq_iff_iff, Bool.and_eq_true, Bool.and_eq_true, Bool.and_eq_true, fits_iff, fits_iff]
      constructor
      · rintro ⟨a, b⟩
        have hb : ∀ y ∈ tk, T' y x = true ∧ cl x0 x = true := fun y hy => by
          have := b y hy
          rw [hT, Bool.and_eq_true, hcl y x (h2 y hy)] at this
          exact this
        obtain ⟨y, hy⟩ := List.exists_mem_of_ne_nil tk h1
        exact ⟨⟨a, (hb y hy).2⟩, fun y hy => (hb y hy).1⟩
      · rintro ⟨⟨a, b⟩, c⟩
        refine ⟨a, fun y hy => ?_⟩
        rw [hT, Bool.and_eq_true, hcl y x (h2 y hy)]
        exact ⟨c y hy, b⟩
    rw [gr, gr, e]
    split
    · next hc =>
      rw [Bool.and_eq_true, Bool.and_eq_true] at hc
      rw [gr_cls hT x0 hcl r (i + 1) n (tk ++ [x]) (by simp) (fun y hy => by
        rcases List.mem_append.1 hy with hy | hy
        · exact h2 y hy
        · rw [List.mem_singleton] at hy; subst hy; exact hc.1.2)]
    · exact gr_cls hT x0 hcl r (i + 1) (n + 1) tk h1 h2
theorem gr_cls0 {S : α → Bool} {T T' : α → α → Bool} {cl : α → α → Bool} (hT : ∀ a b, T a b = (T' a b && cl a b)) (x0 : α) (hcl : ∀ y z, cl x0 y = true → cl y z = cl x0 z) (h0 : cl x0 x0 = true) (hS : S x0 = true) (r : List α) (i n : Nat) :
    gr S T (x0 :: r) i n [] = gr (fun y => S y && cl x0 y) T' (x0 :: r) i n [] := by
  cases n with
  | zero => simp [gr]
  | succ n =>
    rw [gr, gr]
    simp only [hS, h0, List.any_nil, Bool.not_false, Bool.and_self, if_true, List.nil_append]
    rw [gr_cls hT x0 hcl r (i + 1) n [x0] (by simp) (fun y hy => by rw [List.mem_singleton] at hy; subst hy; exact h0)]
/-- The first place from which there is a choice of n; 'one': only the first place that is shown is tried. -/
def kLoop (one : Bool) (S : α → Bool) (T : α → α → Bool) (n : Nat) : List α → Nat → Option (List Nat)
  | [], _ => none
  | x :: r, i => if S x then (if (gr S T (x :: r) i n []).length = n then some (gr S T (x :: r) i n []) else if one then none else kLoop one S T n r (i + 1)) else kLoop one S T n r (i + 1)
theorem kLoop_sound {one : Bool} {S : α → Bool} {T : α → α → Bool} {n : Nat} (l : List α) : ∀ (rest : List α) (i : Nat) (p : List Nat), l.drop i = rest → kLoop one S T n rest i = some p → p.length = n ∧ ∃ j, p = gr S T (l.drop j) j n []
  | [], i, p, h, hk => by simp [kLoop] at hk
  | x :: r, i, p, h, hk => by
    obtain ⟨hx, hr⟩ := drop_cons h
    rw [kLoop] at hk
    split at hk
    · split at hk
      · next hn => cases hk; exact ⟨hn, i, by rw [h]⟩
      · split at hk
        · cases hk
        · exact kLoop_sound l r (i + 1) p hr hk
    · exact kLoop_sound l r (i + 1) p hr hk
/-- Choices: n places in order, shown, that fit. -/
structure Choice (S : α → Bool) (T : α → α → Bool) (l : List α) (n : Nat) (e : List Nat) : Prop where
  len : e.length = n
  up : e.Pairwise (· < ·)
  sh : ∀ p ∈ e, ∃ x, l[p]? = some x ∧ S x = true
  fit : e.Pairwise (fun p q => ∀ x y, l[p]? = some x → l[q]? = some y → T x y = true)
theorem kLoop_choice {one : Bool} {S : α → Bool} {T : α → α → Bool} {n : Nat} {l : List α} {p : List Nat} (h : kLoop one S T n l 0 = some p) : Choice S T l n p := by
  obtain ⟨h1, j, h2⟩ := kLoop_sound l l 0 p rfl h
  obtain ⟨a, b, _⟩ := gr_sound (S := S) (T := T) l (l.drop j) j n [] rfl
  rw [← h2] at a b
  exact ⟨h1, b.imp (fun h => h.1), fun q hq => by obtain ⟨_, x, h3, h4, _⟩ := a q hq; exact ⟨x, h3, h4⟩, b.imp (fun h => h.2)⟩
/-- A list of places does not come behind another one. -/
def gBehind : List Int → List Int → Bool
  | [], _ => false
  | _ :: _, [] => true
  | a :: r, b :: s => if a = b then gBehind r s else decide (b < a)
theorem behind_le : ∀ {p e : List Nat}, p.length = e.length → (∀ (j a b : Nat), p[j]? = some a → e[j]? = some b → a ≤ b) → gBehind (p.map (fun (n : Nat) => (n : Int))) (e.map (fun (n : Nat) => (n : Int))) = false
  | [], _, _, _ => by simp [gBehind]
  | a :: p, [], h, _ => by simp at h
  | a :: p, b :: e, h, hj => by
    rw [List.map_cons, List.map_cons, gBehind]
    have := hj 0 a b rfl rfl
    split
    · exact behind_le (by simpa using h) (fun j a b h1 h2 => hj (j + 1) a b h1 h2)
    · exact decide_eq_false (by omega)
theorem kLoop_least {S : α → Bool} {T : α → α → Bool} {kf : α → κ} (hT : ∀ a b, T a b = true ↔ kf a ≠ kf b) {n : Nat} (hn : 0 < n) {l : List α} {e : List Nat} (hc : Choice S T l n e) : ∀ (rest : List α) (i : Nat), l.drop i = rest → (∀ p ∈ e, i ≤ p) →
    ∃ p, kLoop true S T n rest i = some p ∧ gBehind (p.map (fun (n : Nat) => (n : Int))) (e.map (fun (n : Nat) => (n : Int))) = false
  | [], i, h, he => by
    have h1 := hc.len
    cases e with
    | nil => simp at h1; omega
    | cons p e =>
      obtain ⟨x, hx, _⟩ := hc.sh p (by simp)
      have := (List.getElem?_eq_some_iff.1 hx).1
      have := he p (by simp)
      have := List.drop_eq_nil_iff.1 h
      omega
  | x :: r, i, h, he => by
    obtain ⟨hx, hr⟩ := drop_cons h
    rw [kLoop]
    split
    · obtain ⟨h1, h2⟩ := gr_least (S := S) hT l (x :: r) i n [] e h (by rw [hc.len]; exact Nat.le_refl _) hc.up (fun p hp => by
        obtain ⟨y, a, b⟩ := hc.sh p hp
        exact ⟨he p hp, y, a, b, by simp⟩) (hc.fit.imp (fun h x y a b => (hT x y).1 (h x y a b)))
      rw [if_pos h1]
      exact ⟨_, rfl, behind_le (by rw [h1, hc.len]) h2⟩
    · next hS =>
      refine kLoop_least hT hn hc r (i + 1) hr (fun p hp => ?_)
      have := he p hp
      rcases Nat.lt_or_ge i p with h | h
      · exact h
      · have : p = i := by omega
        subst this
        obtain ⟨y, a, b⟩ := hc.sh p hp
        rw [hx] at a; cases a
        exact absurd b hS
theorem gr_head {S : α → Bool} {T : α → α → Bool} {x : α} {r : List α} {i n : Nat} (hS : S x = true) (hn : 0 < n) : ∃ q, gr S T (x :: r) i n [] = i :: q := by
  cases n with
  | zero => omega
  | succ n => exact ⟨gr S T r (i + 1) n ([] ++ [x]), by rw [gr]; simp [hS]⟩
theorem kLoop_leastC {S : α → Bool} {T T' : α → α → Bool} {kf : α → κ} {cl : α → α → Bool} (hT' : ∀ a b, T' a b = true ↔ kf a ≠ kf b) (hT : ∀ a b, T a b = (T' a b && cl a b)) (hr0 : ∀ a, cl a a = true) (hcl : ∀ a y z, cl a y = true → cl y z = cl a z) {n : Nat} (hn : 0 < n)
    {l : List α} {e : List Nat} (hc : Choice S T l n e) : ∀ (rest : List α) (i : Nat), l.drop i = rest → (∀ p ∈ e, i ≤ p) →
    ∃ p, kLoop false S T n rest i = some p ∧ gBehind (p.map (fun (n : Nat) => (n : Int))) (e.map (fun (n : Nat) => (n : Int))) = false
  | [], i, h, he => by
    have h1 := hc.len
    cases e with
    | nil => simp at h1; omega
    | cons p e =>
      obtain ⟨x, hx, _⟩ := hc.sh p (by simp)
      have := (List.getElem?_eq_some_iff.1 hx).1
      have := he p (by simp)
      have := List.drop_eq_nil_iff.1 h
      omega
  | x :: r, i, h, he => by
    obtain ⟨hx, hr⟩ := drop_cons h
    have hfirst : ∃ e0 er, e = e0 :: er := by
      cases e with
      | nil => have := hc.len; simp at this; omega
      | cons a b => exact ⟨a, b, rfl⟩
    obtain ⟨e0, er, hee⟩ := hfirst
    have hup := hc.up
    rw [hee, List.pairwise_cons] at hup
    have he0 := he e0 (by rw [hee]; simp)
    -- from the first place of 'e', the choice is full
    have hfull : S x = true → e0 = i → (gr S T (x :: r) i n []).length = n ∧ ∀ (j a b : Nat), (gr S T (x :: r) i n [])[j]? = some a → e[j]? = some b → a ≤ b := by
      intro hS h0
      subst h0
      rw [gr_cls0 hT x (hcl x) (hr0 x) hS]
      refine gr_least hT' l (x :: r) e0 n [] e h (by rw [hc.len]; exact Nat.le_refl _) hc.up (fun p hp => ?_) (hc.fit.imp (fun h x y a b => ?_))
      · obtain ⟨y, a, b⟩ := hc.sh p hp
        refine ⟨he p hp, y, a, ?_, by simp⟩
        show (S y && cl x y) = true
        rw [b, Bool.true_and]
        rw [hee] at hp
        rcases List.mem_cons.1 hp with rfl | hp
        · rw [hx] at a; cases a; exact hr0 x
        · have hf := hc.fit
          rw [hee, List.pairwise_cons] at hf
          have := hf.1 p hp x y hx a
          rw [hT, Bool.and_eq_true] at this
          exact this.2
      · have := h x y a b
        rw [hT, Bool.and_eq_true] at this
        exact (hT' x y).1 this.1
    have hrest : i ≠ e0 → ∀ p ∈ e, i + 1 ≤ p := by
      intro h0 p hp
      rw [hee] at hp
      rcases List.mem_cons.1 hp with rfl | hp
      · omega
      · have := hup.1 p hp
        omega
    rw [kLoop]
    split
    · next hS =>
      split
      · next hl =>
        refine ⟨_, rfl, ?_⟩
        by_cases h0 : e0 = i
        · obtain ⟨h1, h2⟩ := hfull hS h0
          exact behind_le (by rw [h1, hc.len]) h2
        · obtain ⟨q, hq⟩ := gr_head (T := T) (r := r) (i := i) hS hn
          rw [hq, hee, List.map_cons, List.map_cons, gBehind, if_neg (by omega)]
          exact decide_eq_false (by omega)
      · next hl =>
        rw [if_neg (by simp)]
        refine kLoop_leastC hT' hT hr0 hcl hn hc r (i + 1) hr (hrest (fun h0 => hl (hfull hS h0.symm).1))
    · next hS =>
      refine kLoop_leastC hT' hT hr0 hcl hn hc r (i + 1) hr (hrest (fun h0 => ?_))
      obtain ⟨y, a, b⟩ := hc.sh e0 (by rw [hee]; simp)
      rw [← h0, hx] at a; cases a
      exact absurd b hS
end
end Go.Proofs.YtdgoodjhndeojaaGreat
end
section
set_option linter.unusedVariables false
set_option linter.unusedSimpArgs false
namespace Go.Proofs.YtdgoodjhndeojaaGreat
open Go.Abs
theorem tagsEq_iff : ∀ {a b : List GTag}, tagsEq a b = true ↔ a = b
  | [], [] => by simp [tagsEq]
  | [], _ :: _ => by simp [tagsEq]
  | _ :: _, [] => by simp [tagsEq]
  | x :: a, y :: b => by rw [tagsEq, Bool.and_eq_true, tagEq_iff, tagsEq_iff]; simp
/-- Near points: the squared distance; else 0. -/
def nearP (x y : Int) : Bool := !(decide (2097152 < max x y) || decide (min x y < -2097152))
def gDist (x y u v : Int) : Int := if nearP x y && nearP u v then (u - x) * (u - x) + (v - y) * (v - y) else 0
def eShows (k : Nat) (m : List GObj) (e : GEdit) : Bool := match k with
  | 1 => decide (e.op = 5) && isOb m e.id
  | 2 => decide (e.op = 3) && decide (e.key = sName) && decide (e.val = sNil) && (gGet (obOf m e.id).tags sName).isSome
  | 3 => decide (e.op = 2) && isOb m e.id && decide ((obOf m e.id).kind = 1) && decide (1000000 ≤ gDist (obOf m e.id).x (obOf m e.id).y e.x e.y)
  | _ => decide (e.op = 1) && decide (e.obj.kind = 1)
def eApart (a b : GEdit) : Bool := !decide (a.id = b.id)
def eAlike (a b : GEdit) : Bool := !decide (a.obj.id = b.obj.id) && (decide (a.obj.x = b.obj.x) && decide (a.obj.y = b.obj.y)) && tagsEq a.obj.tags b.obj.tags
def eTog (k : Nat) (a b : GEdit) : Bool := match k with | 4 => eAlike a b | _ => eApart a b
def nMany (k : Nat) : Nat := match k with | 1 => 5 | 2 => 3 | 3 => 3 | _ => 4
def isDrop (e : GEdit) : Bool := decide (e.op = 5)
def nDrops (l : List GEdit) : Nat := l.countP isDrop
def kAns (m : List GObj) (l : List GEdit) (k : Nat) : Option (List Nat) := if k = 1 ∧ 2 * nDrops l ≤ l.length then none else kLoop (decide (k ≠ 4)) (eShows k m) (eTog k) (nMany k) l 0
def kFirst (m : List GObj) (l : List GEdit) : Nat → Nat → Nat × List Nat
  | 0, _ => (0, [])
  | n + 1, k => match kAns m l k with | some p => (k, p) | none => kFirst m l n (k + 1)
/-- What is found, of a closed map and a valid change set. -/
def gFind0 (m : List GObj) (l : List GEdit) : Nat × List Nat := kFirst m l 4 1
/-- Evidence. -/
structure Ev (m : List GObj) (l : List GEdit) (k : Nat) (e : List Nat) : Prop where
  lo : 1 ≤ k
  hi : k ≤ 4
  ch : Choice (eShows k m) (eTog k) l (nMany k) e
  dr : k = 1 → l.length < 2 * nDrops l
theorem nMany_pos (k : Nat) : 3 ≤ nMany k ∧ nMany k ≤ 5 := by
  unfold nMany; split <;> decide
theorem kAns_sound {m : List GObj} {l : List GEdit} {k : Nat} {p : List Nat} (h1 : 1 ≤ k) (h4 : k ≤ 4) (h : kAns m l k = some p) : Ev m l k p := by
  unfold kAns at h
  split at h
  · cases h
  · next hno => exact ⟨h1, h4, kLoop_choice h, fun e => by omega⟩
theorem kFirst_sound {m : List GObj} {l : List GEdit} : ∀ (n k : Nat), 1 ≤ k → k + n = 5 → kFirst m l n k = (0, []) ∨ Ev m l (kFirst m l n k).1 (kFirst m l n k).2
  | 0, k, _, _ => .inl rfl
  | n + 1, k, h1, h2 => by
    rw [kFirst]
    cases h : kAns m l k with
    | some p =>
      have h4 : k ≤ 4 := by omega
      exact .inr (kAns_sound h1 h4 h)
    | none => exact kFirst_sound n (k + 1) (by omega) (by omega)
theorem find_sound (m : List GObj) (l : List GEdit) : gFind0 m l = (0, []) ∨ Ev m l (gFind0 m l).1 (gFind0 m l).2 := kFirst_sound 4 1 (by omega) (by omega)
abbrev toI (l : List Nat) : List Int := l.map (fun (n : Nat) => (n : Int))
theorem kAns_least {m : List GObj} {l : List GEdit} {k : Nat} {e : List Nat} (h : Ev m l k e) : ∃ p, kAns m l k = some p ∧ gBehind (toI p) (toI e) = false := by
  have hd : ¬ (k = 1 ∧ 2 * nDrops l ≤ l.length) := fun hh => by have := h.dr hh.1; omega
  have hp := (nMany_pos k).1
  unfold kAns
  rw [if_neg hd]
  by_cases h4 : k = 4
  · subst h4
    rw [show decide (4 ≠ 4) = false from rfl]
    refine kLoop_leastC (T' := fun a b => !decide (a.obj.id = b.obj.id)) (kf := fun e => e.obj.id) (cl := fun a b => (decide (a.obj.x = b.obj.x) && decide (a.obj.y = b.obj.y)) && tagsEq a.obj.tags b.obj.tags)
      (fun a b => by simp) (fun a b => by simp [eTog, eAlike, Bool.and_assoc]) (fun a => by simp [tagsEq_iff]) (fun a y z hy => ?_) (by omega) h.ch l 0 rfl (fun _ _ => Nat.zero_le _)
    simp only [Bool.and_eq_true, decide_eq_true_eq, tagsEq_iff] at hy
    obtain ⟨⟨h1, h2⟩, h3⟩ := hy
    simp only [h1, h2, h3]
  · rw [show decide (k ≠ 4) = true from decide_eq_true h4]
    refine kLoop_least (kf := fun e => e.id) (fun a b => ?_) (by omega) h.ch l 0 rfl (fun _ _ => Nat.zero_le _)
    have : eTog k a b = eApart a b := by
      have h1 := h.lo
      have h2 := h.hi
      match k, h1, h2, h4 with
      | 1, _, _, _ => rfl
      | 2, _, _, _ => rfl
      | 3, _, _, _ => rfl
      | 4, _, _, h => exact absurd rfl h
      | n + 5, _, h, _ => exact absurd h (by omega)
    rw [this, eApart]
    simp
theorem kFirst_least {m : List GObj} {l : List GEdit} {k0 : Nat} {e : List Nat} (h : Ev m l k0 e) : ∀ (n k : Nat), 1 ≤ k → k ≤ k0 → k + n = 5 → k ≤ (kFirst m l n k).1 ∧ (kFirst m l n k).1 ≤ k0 ∧ ((kFirst m l n k).1 = k0 → gBehind (toI (kFirst m l n k).2) (toI e) = false)
  | 0, k, h1, h2, h3 => by have := h.hi; omega
  | n + 1, k, h1, h2, h3 => by
    rw [kFirst]
    cases hk : kAns m l k with
    | some p =>
      refine ⟨Nat.le_refl _, h2, fun e1 => ?_⟩
      subst e1
      obtain ⟨p', e1, e2⟩ := kAns_least h
      rw [hk] at e1; cases e1
      exact e2
    | none =>
      have hne : k ≠ k0 := fun e1 => by
        subst e1
        obtain ⟨p', e1, e2⟩ := kAns_least h
        rw [hk] at e1; cases e1
      obtain ⟨a, b, c⟩ := kFirst_least h n (k + 1) (by omega) (by omega) (by omega)
      exact ⟨Nat.le_trans (Nat.le_succ k) a, b, c⟩
theorem find_least {m : List GObj} {l : List GEdit} {k : Nat} {e : List Nat} (h : Ev m l k e) : 1 ≤ (gFind0 m l).1 ∧ (gFind0 m l).1 ≤ k ∧ ((gFind0 m l).1 = k → gBehind (toI (gFind0 m l).2) (toI e) = false) :=
  kFirst_least h 4 1 (Nat.le_refl _) h.lo rfl
end Go.Proofs.YtdgoodjhndeojaaGreat
end
section
set_option linter.unusedVariables false
set_option linter.unusedSimpArgs false
set_option maxRecDepth 100000
namespace Go.Proofs.YtdgoodjhndeojaaGreat
open Go.Abs
theorem seS4 (a0 b0 a1 b1 a2 b2 a3 b3 : ByteArray) (w : World) : (Op.equalIn 10000 134 (.agg [.string a0, .string a1, .string a2, .string a3].toArray) (.agg [.string b0, .string b1, .string b2, .string b3].toArray)).run Tryz.prog w =
    .ok (decide (a0 = b0) && decide (a1 = b1) && decide (a2 = b2) && decide (a3 = b3)) w := by
  obtain ⟨i, hi⟩ := info_of_underlying Tryz.underlying9
  refine (run_equalIn_array (P := Tryz.prog) w 9999 _ _ Tryz.underlying134 hi).trans ?_
  have hs : ∀ (d : Nat) (a b : ByteArray) (w : World), (Op.equalIn (d + 1) 9 (.string a) (.string b)).run Tryz.prog w = .ok (decide (a = b)) w := fun d a b w => by rw [run_equalIn_string w d 9 a b Tryz.underlying9, list_beq]
  have hc : Tryz.prog.cellsOf 9 = 1 := by kernel_rfl
  by_cases e0 : a0 = b0 <;> by_cases e1 : a1 = b1 <;> by_cases e2 : a2 = b2 <;> by_cases e3 : a3 = b3 <;> simp [List.range_succ, Op.eqItems, part, hc, hs, Tryz.isAgg9, e0, e1, e2, e3]
theorem eqStrs_c (a b : List ByteArray) (H : Heap) (ha : a.length < 4611686018427387904) : ACalls Tryz.prog 86 [.pv (slStrs a), .pv (slStrs b)] H (fun r H' => r = bv (decide (a = b)) ∧ H' = H) := by
  refine ACalls.pure ?_ (by simp) H
  have hma : (a.map encStr).length = a.length := List.length_map _
  have hmb : (b.map encStr).length = b.length := List.length_map _
  refine ACalls.body Tryz.func86 rfl Tryz.ntmps86 (Nat.le_of_ble_eq_true rfl) ?_
  refine awp_seq ?_
  refine awp_region ?_
  refine al_d rfl rfl rfl (by exact opd_assign rfl rfl) ?_
  refine al_nil ?_
  refine awp_seq ?_
  refine awp_seq ?_
  refine awp_region ?_
  refine al_d rfl rfl rfl (by exact opd_move rfl rfl) ?_
  refine al_d rfl rfl rfl (by exact (by first | exact opd_len_sl rfl Tryz.underlying39 rfl | exact opd_len_osl rfl Tryz.underlying39 rfl rfl rfl)) ?_
  refine al_d rfl rfl rfl (by exact opd_move rfl rfl) ?_
  refine al_d rfl rfl rfl (by exact (by first | exact opd_len_sl rfl Tryz.underlying39 rfl | exact opd_len_osl rfl Tryz.underlying39 rfl rfl rfl)) ?_
  refine al_d rfl rfl rfl (by exact opd_neq rfl rfl rfl) ?_
  refine al_nil ?_
  refine awp_cond rfl (fun hc1 => ?_) (fun hc1 => ?_)
  -- cond 1
  · have hne : ¬ a = b := by
      intro e
      subst e
      simp at hc1
    refine awp_seq ?_
    refine awp_region ?_
    refine al_d rfl rfl rfl (by exact opd_assign rfl rfl) ?_
    refine al_nil ?_
    refine awp_ret ?_
    -- return
    refine aret1 (H' := []) (by first | exact .inr rfl | exact .inl rfl) rfl (rval_tmp rfl) (Fin.wk (by simp) trivial trivial) ?_
    exact ⟨by rw [decide_eq_false hne], rfl⟩
  · have heq : a.length = b.length := by
      simp only [hma, hmb, Bool.not_eq_false', decide_eq_true_eq] at hc1
      omega
    refine awp_skip ?_
    refine awp_seq ?_
    refine awp_seq ?_
    refine awp_region ?_
    refine al_d rfl rfl rfl (by exact opd_move rfl rfl) ?_
    refine al_d rfl rfl rfl (by exact (by first | exact opd_len_sl rfl Tryz.underlying39 rfl | exact opd_len_osl rfl Tryz.underlying39 rfl rfl rfl)) ?_
    refine al_d rfl rfl rfl (by exact opd_move rfl rfl) ?_
    refine al_nil ?_
    refine awp_block ?_
    -- loop
    refine awp_loop (σ := Nat) (fun k => ([(0, .pv (slStrs a)), (1, .pv (slStrs b)), (12, iv ((a.map encStr).length : Int)), (13, iv (k : Int))], [])) (fun k => k ≤ a.length ∧ a.take k = b.take k) (fun k => a.length - k) 0 ⟨by omega, by simp⟩ ?_ ?_
    · exact Ent.e0 ⟨⟨_, rfl, rfl⟩, ⟨_, rfl, rfl⟩, ⟨_, rfl, rfl⟩, ⟨_, rfl, rfl⟩, trivial⟩
    · rintro k ⟨hk, hall⟩
      refine awp_seq ?_
      refine awp_region ?_
      refine al_d rfl rfl rfl (by exact opd_lss rfl rfl rfl) ?_
      refine al_nil ?_
      refine awp_seq ?_
      refine awp_cond rfl (fun hc2 => ?_) (fun hc2 => ?_)
      -- cond 2
      · have hlt : k < a.length := by have := of_decide_eq_true hc2; omega
        obtain ⟨x, hx⟩ := get_of_lt hlt
        obtain ⟨y, hy⟩ := get_of_lt (l := b) (k := k) (by omega)
        have hi := map_get (f := encStr) hx
        have hi2 := map_get (f := encStr) hy
        refine awp_skip ?_
        refine awp_seq ?_
        refine awp_block ?_
        refine awp_seq ?_
        refine awp_region ?_
        refine al_d rfl rfl rfl (by exact opd_move rfl rfl) ?_
        refine al_d rfl rfl rfl (by exact opd_assign rfl rfl) ?_
        refine al_nil ?_
        refine awp_seq ?_
        refine awp_drawc follows ?_
        refine dc_cons (DStep.q rfl (by exact opd_move rfl rfl)) rfl ?_
        refine dc_cons (DStep.q rfl (by exact opd_move rfl rfl)) rfl ?_
        refine dc_cons (DStep.q rfl (by exact (by first | exact x_index_pad rfl so39 rfl rfl (by omega) (by first | exact Int.toNat_natCast _ | rfl) (by assumption) rfl | exact x_index_osl rfl so39 rfl rfl rfl rfl rfl (by omega) (by first | exact Int.toNat_natCast _ | rfl) (by first | omega | assumption) rfl))) rfl ?_
        refine dc_cons (DStep.q rfl (by exact (by first | exact opd_load1_ref rfl Tryz.isAgg9 rfl rfl rfl rfl rfl | exact opd_load1_pad rfl Tryz.isAgg9 rfl (by first | omega | assumption) rfl))) rfl ?_
        refine dc_cons (DStep.q rfl (by exact opd_move rfl rfl)) rfl ?_
        refine dc_cons (DStep.q rfl (by exact opd_move rfl rfl)) rfl ?_
        refine dc_cons (DStep.q rfl (by exact (by first | exact x_index_pad rfl so39 rfl rfl (by omega) (by first | exact Int.toNat_natCast _ | rfl) (by assumption) rfl | exact x_index_osl rfl so39 rfl rfl rfl rfl rfl (by omega) (by first | exact Int.toNat_natCast _ | rfl) (by first | omega | assumption) rfl))) rfl ?_
        refine dc_cons (DStep.q rfl (by exact (by first | exact opd_load1_ref rfl Tryz.isAgg9 rfl rfl rfl rfl rfl | exact opd_load1_pad rfl Tryz.isAgg9 rfl (by first | omega | assumption) rfl))) rfl ?_
        refine dc_cons (DStep.q rfl (by exact opd_sneq rfl rfl rfl)) rfl ?_
        refine dc_nil ⟨by kernel_rfl, ?_⟩
        refine awp_cond rfl (fun hc3 => ?_) (fun hc3 => ?_)
        -- cond 3
        · have ht : ¬ x = y := by
            have h : (!decide (x = y)) = true := hc3
            simpa using h
          have hne : ¬ a = b := by
            intro e
            subst e
            rw [hx] at hy
            exact ht (Option.some.inj hy)
          refine awp_seq ?_
          refine awp_region ?_
          refine al_d rfl rfl rfl (by exact opd_assign rfl rfl) ?_
          refine al_nil ?_
          refine awp_ret ?_
          -- return
          refine aret1 (H' := []) (by first | exact .inr rfl | exact .inl rfl) rfl (rval_tmp rfl) (Fin.wk (by simp) trivial trivial) ?_
          exact ⟨by rw [decide_eq_false hne], rfl⟩
        · have ht : x = y := by
            have h : (!decide (x = y)) = false := hc3
            simpa using h
          refine awp_skip ?_
          refine awp_region ?_
          refine al_d rfl rfl rfl (by exact opd_add rfl rfl rfl (by first | exact w64 (by omega) (by omega) | exact wu8 (by omega) (by omega) | rfl)) ?_
          refine al_d rfl rfl rfl (by exact opd_move rfl rfl) ?_
          refine al_nil ?_
          -- end of a round
          refine ⟨k + 1, ⟨by omega, ?_⟩, by omega, Ent.e0 ⟨⟨_, rfl, rfl⟩, ⟨_, rfl, rfl⟩, ⟨_, rfl, rfl⟩, ⟨_, rfl, rfl⟩, trivial⟩⟩
          rw [List.take_add_one, List.take_add_one, hx, hy, hall, ht]
      · have hge : k = a.length := by have := of_decide_eq_false hc2; omega
        have he : a = b := by
          have h := hall
          rw [hge, List.take_length, heq, List.take_length] at h
          exact h
        refine awp_exit ?_
        refine awp_seq ?_
        refine awp_region ?_
        refine al_d rfl rfl rfl (by exact opd_assign rfl rfl) ?_
        refine al_nil ?_
        refine awp_ret ?_
        -- return
        refine aret1 (H' := []) (by first | exact .inr rfl | exact .inl rfl) rfl (rval_tmp rfl) (Fin.wk (by simp) trivial trivial) ?_
        exact ⟨by rw [decide_eq_true he], rfl⟩
def gSameO (a b : GObj) : Bool := ((decide (a.id = b.id) && decide (a.kind = b.kind) && (decide (a.x = b.x) && decide (a.y = b.y))) && decide (a.refs = b.refs)) && tagsEq a.tags b.tags
def okS (o : GObj) : Prop := o.refs.length < 4611686018427387904 ∧ o.tags.length < 4611686018427387904
theorem sameO_c (a b : GObj) (H : Heap) (ha : okS a) : ACalls Tryz.prog 41 [av (encObj a), av (encObj b)] H (fun r H' => r = bv (gSameO a b) ∧ H' = H) := by
  refine ACalls.pure ?_ (by simp) H
  refine ACalls.body Tryz.func41 rfl Tryz.ntmps41 (Nat.le_of_ble_eq_true rfl) ?_
  refine awp_seq ?_
  refine awp_region ?_
  refine al_d rfl rfl rfl (by exact opd_box (id := 2) rfl rfl rfl rfl rfl) ?_
  refine al_d rfl rfl rfl (by exact opd_box (id := 3) rfl rfl rfl rfl rfl) ?_
  refine al_d rfl rfl rfl (by exact opd_assign rfl rfl) ?_
  refine al_nil ?_
  refine awp_seq ?_
  refine awp_bool (t := 4) (n := 38) (X := gSameO a b) ?_ ?_
  · all_goals (refine al_d rfl rfl rfl (by exact (by first | exact opd_field_ref rfl fo42_0 rfl rfl rfl rfl | exact opd_field_pad rfl fo42_0 rfl rfl)) ?_)
    all_goals (refine al_d rfl rfl rfl (by exact (by first | exact opd_load1_ref rfl Tryz.isAgg9 rfl rfl rfl rfl rfl | exact opd_load1_pad rfl Tryz.isAgg9 rfl (by first | omega | assumption) rfl)) ?_)
    all_goals (refine al_d rfl rfl rfl (by exact (by first | exact opd_field_ref rfl fo42_0 rfl rfl rfl rfl | exact opd_field_pad rfl fo42_0 rfl rfl)) ?_)
    all_goals (refine al_d rfl rfl rfl (by exact (by first | exact opd_load1_ref rfl Tryz.isAgg9 rfl rfl rfl rfl rfl | exact opd_load1_pad rfl Tryz.isAgg9 rfl (by first | omega | assumption) rfl)) ?_)
    all_goals (refine al_d rfl rfl rfl (by exact opd_seql rfl rfl rfl) ?_)
    all_goals (refine al_d rfl rfl rfl (by exact opd_move rfl rfl) ?_)
    all_goals (first | refine al_split (t := 10) rfl (fun h10 => ?_) (fun h10 => ?_) | refine al_dup (t := 10) rfl ?_ | skip)
    all_goals (try contradiction)
    all_goals (first | refine al_off rfl rfl rfl rfl rfl ?_ | refine al_offu rfl rfl rfl rfl ?_ | refine al_ond rfl rfl rfl rfl rfl rfl (by exact (by first | exact opd_field_ref rfl fo42_1 rfl rfl rfl rfl | exact opd_field_pad rfl fo42_1 rfl rfl)) ?_)
    all_goals (first | refine al_off rfl rfl rfl rfl rfl ?_ | refine al_offu rfl rfl rfl rfl ?_ | refine al_ond rfl rfl rfl rfl rfl rfl (by exact (by first | exact opd_load1_ref rfl Tryz.isAgg3 rfl rfl rfl rfl rfl | exact opd_load1_pad rfl Tryz.isAgg3 rfl (by first | omega | assumption) rfl)) ?_)
    all_goals (first | refine al_off rfl rfl rfl rfl rfl ?_ | refine al_offu rfl rfl rfl rfl ?_ | refine al_ond rfl rfl rfl rfl rfl rfl (by exact (by first | exact opd_field_ref rfl fo42_1 rfl rfl rfl rfl | exact opd_field_pad rfl fo42_1 rfl rfl)) ?_)
    all_goals (first | refine al_off rfl rfl rfl rfl rfl ?_ | refine al_offu rfl rfl rfl rfl ?_ | refine al_ond rfl rfl rfl rfl rfl rfl (by exact (by first | exact opd_load1_ref rfl Tryz.isAgg3 rfl rfl rfl rfl rfl | exact opd_load1_pad rfl Tryz.isAgg3 rfl (by first | omega | assumption) rfl)) ?_)
    all_goals (first | refine al_off rfl rfl rfl rfl rfl ?_ | refine al_offu rfl rfl rfl rfl ?_ | refine al_ond rfl rfl rfl rfl rfl rfl (by exact opd_eql rfl rfl rfl) ?_)
    all_goals (refine al_d rfl rfl rfl (by exact (by first | exact opd_pick_t rfl rfl rfl | exact opd_pick_f rfl rfl rfl | exact opd_pickt rfl rfl (by assumption) rfl | exact opd_pickf rfl rfl (by assumption) rfl | exact opd_pick rfl rfl rfl)) ?_)
    all_goals (refine al_d rfl rfl rfl (by exact opd_move rfl rfl) ?_)
    all_goals (first | refine al_split (t := 17) rfl (fun h17 => ?_) (fun h17 => ?_) | refine al_dup (t := 17) rfl ?_ | skip)
    all_goals (try contradiction)
    all_goals (first | refine al_off rfl rfl rfl rfl rfl ?_ | refine al_offu rfl rfl rfl rfl ?_ | refine al_ond rfl rfl rfl rfl rfl rfl (by exact (by first | exact opd_field_ref rfl fo42_2 rfl rfl rfl rfl | exact opd_field_pad rfl fo42_2 rfl rfl)) ?_)
    all_goals (first | refine al_off rfl rfl rfl rfl rfl ?_ | refine al_offu rfl rfl rfl rfl ?_ | refine al_ond rfl rfl rfl rfl rfl rfl (by exact (by first | exact opd_loadn_ref rfl Tryz.isAgg38 Tryz.sizeOf38 rfl rfl rfl rfl (by simp only [List.drop_succ_cons, List.drop_zero, List.take_succ_cons, List.take_zero, List.take_nil, List.map_cons, List.map_nil, List.set_cons_zero, List.set_cons_succ, List.cons_append, List.nil_append, encTag, encObj, encStr, encEdit]; rfl) rfl | exact opd_loadn_pad rfl Tryz.isAgg38 Tryz.sizeOf38 rfl (by first | omega | assumption) (by simp only [List.drop_succ_cons, List.drop_zero, List.take_succ_cons, List.take_zero, List.take_nil, List.map_cons, List.map_nil, List.set_cons_zero, List.set_cons_succ, List.cons_append, List.nil_append, encTag, encObj, encStr, encEdit]; rfl) rfl)) ?_)
    all_goals (first | refine al_off rfl rfl rfl rfl rfl ?_ | refine al_offu rfl rfl rfl rfl ?_ | refine al_ond rfl rfl rfl rfl rfl rfl (by exact (by first | exact opd_field_ref rfl fo42_2 rfl rfl rfl rfl | exact opd_field_pad rfl fo42_2 rfl rfl)) ?_)
    all_goals (first | refine al_off rfl rfl rfl rfl rfl ?_ | refine al_offu rfl rfl rfl rfl ?_ | refine al_ond rfl rfl rfl rfl rfl rfl (by exact (by first | exact opd_loadn_ref rfl Tryz.isAgg38 Tryz.sizeOf38 rfl rfl rfl rfl (by simp only [List.drop_succ_cons, List.drop_zero, List.take_succ_cons, List.take_zero, List.take_nil, List.map_cons, List.map_nil, List.set_cons_zero, List.set_cons_succ, List.cons_append, List.nil_append, encTag, encObj, encStr, encEdit]; rfl) rfl | exact opd_loadn_pad rfl Tryz.isAgg38 Tryz.sizeOf38 rfl (by first | omega | assumption) (by simp only [List.drop_succ_cons, List.drop_zero, List.take_succ_cons, List.take_zero, List.take_nil, List.map_cons, List.map_nil, List.set_cons_zero, List.set_cons_succ, List.cons_append, List.nil_append, encTag, encObj, encStr, encEdit]; rfl) rfl)) ?_)
    all_goals (first | refine al_off rfl rfl rfl rfl rfl ?_ | refine al_offu rfl rfl rfl rfl ?_ | refine al_ond rfl rfl rfl rfl rfl rfl (by exact opd_aeql rfl rfl rfl rfl rfl Tryz.eqGuardType38 (se38 _ _ _ _)) ?_)
    all_goals (refine al_d rfl rfl rfl (by exact (by first | exact opd_pick_t rfl rfl rfl | exact opd_pick_f rfl rfl rfl | exact opd_pickt rfl rfl (by assumption) rfl | exact opd_pickf rfl rfl (by assumption) rfl | exact opd_pick rfl rfl rfl)) ?_)
    all_goals (refine al_d rfl rfl rfl (by exact opd_move rfl rfl) ?_)
    all_goals (first | refine al_split (t := 24) rfl (fun h24 => ?_) (fun h24 => ?_) | refine al_dup (t := 24) rfl ?_ | skip)
    all_goals (try contradiction)
    all_goals (first | refine al_off rfl rfl rfl rfl rfl ?_ | refine al_offu rfl rfl rfl rfl ?_ | refine al_ond rfl rfl rfl rfl rfl rfl (by exact (by first | exact opd_field_ref rfl fo42_3 rfl rfl rfl rfl | exact opd_field_pad rfl fo42_3 rfl rfl)) ?_)
    all_goals (first | refine al_off rfl rfl rfl rfl rfl ?_ | refine al_offu rfl rfl rfl rfl ?_ | refine al_ond rfl rfl rfl rfl rfl rfl (by exact (by first | exact opd_load1_ref rfl Tryz.isAgg39 rfl rfl rfl rfl rfl | exact opd_load1_pad rfl Tryz.isAgg39 rfl (by first | omega | assumption) rfl)) ?_)
    all_goals (first | refine al_off rfl rfl rfl rfl rfl ?_ | refine al_offu rfl rfl rfl rfl ?_ | refine al_ond rfl rfl rfl rfl rfl rfl (by exact (by first | exact opd_field_ref rfl fo42_3 rfl rfl rfl rfl | exact opd_field_pad rfl fo42_3 rfl rfl)) ?_)
    all_goals (first | refine al_off rfl rfl rfl rfl rfl ?_ | refine al_offu rfl rfl rfl rfl ?_ | refine al_ond rfl rfl rfl rfl rfl rfl (by exact (by first | exact opd_load1_ref rfl Tryz.isAgg39 rfl rfl rfl rfl rfl | exact opd_load1_pad rfl Tryz.isAgg39 rfl (by first | omega | assumption) rfl)) ?_)
    all_goals (first | refine al_off rfl rfl rfl rfl rfl ?_ | refine al_offu rfl rfl rfl rfl ?_ | refine al_ond rfl rfl rfl rfl rfl rfl (by exact opr_call rfl rfl Tryz.call86 rfl (eqStrs_c a.refs b.refs _ ha.1)) ?_)
    all_goals (refine al_d rfl rfl rfl (by exact (by first | exact opd_pick_t rfl rfl rfl | exact opd_pick_f rfl rfl rfl | exact opd_pickt rfl rfl (by assumption) rfl | exact opd_pickf rfl rfl (by assumption) rfl | exact opd_pick rfl rfl rfl)) ?_)
    all_goals (refine al_d rfl rfl rfl (by exact opd_move rfl rfl) ?_)
    all_goals (first | refine al_split (t := 31) rfl (fun h31 => ?_) (fun h31 => ?_) | refine al_dup (t := 31) rfl ?_ | skip)
    all_goals (try contradiction)
    all_goals (first | refine al_off rfl rfl rfl rfl rfl ?_ | refine al_offu rfl rfl rfl rfl ?_ | refine al_ond rfl rfl rfl rfl rfl rfl (by exact (by first | exact opd_field_ref rfl fo42_4 rfl rfl rfl rfl | exact opd_field_pad rfl fo42_4 rfl rfl)) ?_)
    all_goals (first | refine al_off rfl rfl rfl rfl rfl ?_ | refine al_offu rfl rfl rfl rfl ?_ | refine al_ond rfl rfl rfl rfl rfl rfl (by exact (by first | exact opd_load1_ref rfl Tryz.isAgg40 rfl rfl rfl rfl rfl | exact opd_load1_pad rfl Tryz.isAgg40 rfl (by first | omega | assumption) rfl)) ?_)
    all_goals (first | refine al_off rfl rfl rfl rfl rfl ?_ | refine al_offu rfl rfl rfl rfl ?_ | refine al_ond rfl rfl rfl rfl rfl rfl (by exact (by first | exact opd_field_ref rfl fo42_4 rfl rfl rfl rfl | exact opd_field_pad rfl fo42_4 rfl rfl)) ?_)
    all_goals (first | refine al_off rfl rfl rfl rfl rfl ?_ | refine al_offu rfl rfl rfl rfl ?_ | refine al_ond rfl rfl rfl rfl rfl rfl (by exact (by first | exact opd_load1_ref rfl Tryz.isAgg40 rfl rfl rfl rfl rfl | exact opd_load1_pad rfl Tryz.isAgg40 rfl (by first | omega | assumption) rfl)) ?_)
    all_goals (first | refine al_off rfl rfl rfl rfl rfl ?_ | refine al_offu rfl rfl rfl rfl ?_ | refine al_ond rfl rfl rfl rfl rfl rfl (by exact opr_call rfl rfl Tryz.call87 rfl (equalTags_c a.tags b.tags _ ha.2)) ?_)
    all_goals (refine al_d rfl rfl rfl (by exact (by first | exact opd_pick_t rfl rfl rfl | exact opd_pick_f rfl rfl rfl | exact opd_pickt rfl rfl (by assumption) rfl | exact opd_pickf rfl rfl (by assumption) rfl | exact opd_pick rfl rfl rfl)) ?_)
    all_goals (refine al_d rfl rfl rfl (by exact opd_assign rfl rfl) ?_)
    all_goals (refine al_nil ?_)
    all_goals (exact ⟨⟨_, rfl, by first | rfl | (simp only [gSameO, *]; rfl) | (simp_all [gSameO]; done)⟩, rfl, rfl, rfl⟩)
  refine awp_ret ?_
  -- return
  refine aret1 (H' := []) (by first | exact .inr rfl | exact .inl rfl) rfl (rval_tmp rfl) (Fin.wk (by simp) trivial trivial) ?_
  exact ⟨rfl, rfl⟩
def gSameE (a b : GEdit) : Bool := ((((decide (a.refs = b.refs) && gSameO a.obj b.obj) && decide (a.op = b.op)) && (decide (a.id = b.id) && decide (a.other = b.other) && decide (a.node = b.node) && decide (a.key = b.key))) && decide (a.val = b.val)) && (decide (a.x = b.x) && decide (a.y = b.y))
theorem sameE_c (a b : GEdit) (H : Heap) (h1 : a.refs.length < 4611686018427387904) (h2 : okS a.obj) : ACalls Tryz.prog 69 [av (encEdit a), av (encEdit b)] H (fun r H' => r = bv (gSameE a b) ∧ H' = H) := by
  refine ACalls.pure ?_ (by simp) H
  refine ACalls.body Tryz.func69 rfl Tryz.ntmps69 (Nat.le_of_ble_eq_true rfl) ?_
  refine awp_seq ?_
  refine awp_region ?_
  refine al_d rfl rfl rfl (by exact opd_box (id := 2) rfl rfl rfl rfl rfl) ?_
  refine al_d rfl rfl rfl (by exact opd_box (id := 3) rfl rfl rfl rfl rfl) ?_
  refine al_d rfl rfl rfl (by exact opd_assign rfl rfl) ?_
  refine al_nil ?_
  refine awp_seq ?_
  refine awp_bool (t := 5) (n := 14) (X := decide (a.refs = b.refs) && gSameO a.obj b.obj) ?_ ?_
  · all_goals (refine al_d rfl rfl rfl (by exact (by first | exact opd_field_ref rfl fo44_7 rfl rfl rfl rfl | exact opd_field_pad rfl fo44_7 rfl rfl)) ?_)
    all_goals (refine al_d rfl rfl rfl (by exact (by first | exact opd_load1_ref rfl Tryz.isAgg39 rfl rfl rfl rfl rfl | exact opd_load1_pad rfl Tryz.isAgg39 rfl (by first | omega | assumption) rfl)) ?_)
    all_goals (refine al_d rfl rfl rfl (by exact (by first | exact opd_field_ref rfl fo44_7 rfl rfl rfl rfl | exact opd_field_pad rfl fo44_7 rfl rfl)) ?_)
    all_goals (refine al_d rfl rfl rfl (by exact (by first | exact opd_load1_ref rfl Tryz.isAgg39 rfl rfl rfl rfl rfl | exact opd_load1_pad rfl Tryz.isAgg39 rfl (by first | omega | assumption) rfl)) ?_)
    all_goals (refine al_d rfl rfl rfl (by exact opr_call rfl rfl Tryz.call86 rfl (eqStrs_c a.refs b.refs _ h1)) ?_)
    all_goals (refine al_d rfl rfl rfl (by exact opd_move rfl rfl) ?_)
    all_goals (first | refine al_split (t := 11) rfl (fun h11 => ?_) (fun h11 => ?_) | refine al_dup (t := 11) rfl ?_ | skip)
    all_goals (try contradiction)
    all_goals (first | refine al_off rfl rfl rfl rfl rfl ?_ | refine al_offu rfl rfl rfl rfl ?_ | refine al_ond rfl rfl rfl rfl rfl rfl (by exact (by first | exact opd_field_ref rfl fo44_8 rfl rfl rfl rfl | exact opd_field_pad rfl fo44_8 rfl rfl)) ?_)
    all_goals (first | refine al_off rfl rfl rfl rfl rfl ?_ | refine al_offu rfl rfl rfl rfl ?_ | refine al_ond rfl rfl rfl rfl rfl rfl (by exact (by first | exact opd_loadn_ref rfl Tryz.isAgg42 Tryz.sizeOf42 rfl rfl rfl rfl (by simp only [List.drop_succ_cons, List.drop_zero, List.take_succ_cons, List.take_zero, List.take_nil, List.map_cons, List.map_nil, List.set_cons_zero, List.set_cons_succ, List.cons_append, List.nil_append, encTag, encObj, encStr, encEdit]; rfl) rfl | exact opd_loadn_pad rfl Tryz.isAgg42 Tryz.sizeOf42 rfl (by first | omega | assumption) (by simp only [List.drop_succ_cons, List.drop_zero, List.take_succ_cons, List.take_zero, List.take_nil, List.map_cons, List.map_nil, List.set_cons_zero, List.set_cons_succ, List.cons_append, List.nil_append, encTag, encObj, encStr, encEdit]; rfl) rfl)) ?_)
    all_goals (first | refine al_off rfl rfl rfl rfl rfl ?_ | refine al_offu rfl rfl rfl rfl ?_ | refine al_ond rfl rfl rfl rfl rfl rfl (by exact (by first | exact opd_field_ref rfl fo44_8 rfl rfl rfl rfl | exact opd_field_pad rfl fo44_8 rfl rfl)) ?_)
    all_goals (first | refine al_off rfl rfl rfl rfl rfl ?_ | refine al_offu rfl rfl rfl rfl ?_ | refine al_ond rfl rfl rfl rfl rfl rfl (by exact (by first | exact opd_loadn_ref rfl Tryz.isAgg42 Tryz.sizeOf42 rfl rfl rfl rfl (by simp only [List.drop_succ_cons, List.drop_zero, List.take_succ_cons, List.take_zero, List.take_nil, List.map_cons, List.map_nil, List.set_cons_zero, List.set_cons_succ, List.cons_append, List.nil_append, encTag, encObj, encStr, encEdit]; rfl) rfl | exact opd_loadn_pad rfl Tryz.isAgg42 Tryz.sizeOf42 rfl (by first | omega | assumption) (by simp only [List.drop_succ_cons, List.drop_zero, List.take_succ_cons, List.take_zero, List.take_nil, List.map_cons, List.map_nil, List.set_cons_zero, List.set_cons_succ, List.cons_append, List.nil_append, encTag, encObj, encStr, encEdit]; rfl) rfl)) ?_)
    all_goals (first | refine al_off rfl rfl rfl rfl rfl ?_ | refine al_offu rfl rfl rfl rfl ?_ | refine al_ond rfl rfl rfl rfl rfl rfl (by exact opr_call rfl rfl Tryz.call41 rfl (sameO_c a.obj b.obj _ h2)) ?_)
    all_goals (refine al_d rfl rfl rfl (by exact (by first | exact opd_pick_t rfl rfl rfl | exact opd_pick_f rfl rfl rfl | exact opd_pickt rfl rfl (by assumption) rfl | exact opd_pickf rfl rfl (by assumption) rfl | exact opd_pick rfl rfl rfl)) ?_)
    all_goals (refine al_d rfl rfl rfl (by exact opd_assign rfl rfl) ?_)
    all_goals (refine al_nil ?_)
    all_goals (exact ⟨⟨_, rfl, by first | rfl | (simp only [*]; rfl) | (simp only [gSameE, *]; rfl) | (simp_all [gSameE]; done)⟩, rfl, rfl, rfl⟩)
  refine awp_seq ?_
  refine awp_bool (t := 4) (n := 48) (X := gSameE a b) ?_ ?_
  · all_goals (refine al_d rfl rfl rfl (by exact opd_move rfl rfl) ?_)
    all_goals (refine al_d rfl rfl rfl (by exact opd_move rfl rfl) ?_)
    all_goals (first | refine al_split (t := 19) rfl (fun h19 => ?_) (fun h19 => ?_) | refine al_dup (t := 19) rfl ?_ | skip)
    all_goals (try contradiction)
    all_goals (first | refine al_off rfl rfl rfl rfl rfl ?_ | refine al_offu rfl rfl rfl rfl ?_ | refine al_ond rfl rfl rfl rfl rfl rfl (by exact (by first | exact opd_field_ref rfl fo44_0 rfl rfl rfl rfl | exact opd_field_pad rfl fo44_0 rfl rfl)) ?_)
    all_goals (first | refine al_off rfl rfl rfl rfl rfl ?_ | refine al_offu rfl rfl rfl rfl ?_ | refine al_ond rfl rfl rfl rfl rfl rfl (by exact (by first | exact opd_load1_ref rfl Tryz.isAgg3 rfl rfl rfl rfl rfl | exact opd_load1_pad rfl Tryz.isAgg3 rfl (by first | omega | assumption) rfl)) ?_)
    all_goals (first | refine al_off rfl rfl rfl rfl rfl ?_ | refine al_offu rfl rfl rfl rfl ?_ | refine al_ond rfl rfl rfl rfl rfl rfl (by exact (by first | exact opd_field_ref rfl fo44_0 rfl rfl rfl rfl | exact opd_field_pad rfl fo44_0 rfl rfl)) ?_)
    all_goals (first | refine al_off rfl rfl rfl rfl rfl ?_ | refine al_offu rfl rfl rfl rfl ?_ | refine al_ond rfl rfl rfl rfl rfl rfl (by exact (by first | exact opd_load1_ref rfl Tryz.isAgg3 rfl rfl rfl rfl rfl | exact opd_load1_pad rfl Tryz.isAgg3 rfl (by first | omega | assumption) rfl)) ?_)
    all_goals (first | refine al_off rfl rfl rfl rfl rfl ?_ | refine al_offu rfl rfl rfl rfl ?_ | refine al_ond rfl rfl rfl rfl rfl rfl (by exact opd_eql rfl rfl rfl) ?_)
    all_goals (refine al_d rfl rfl rfl (by exact (by first | exact opd_pick_t rfl rfl rfl | exact opd_pick_f rfl rfl rfl | exact opd_pickt rfl rfl (by assumption) rfl | exact opd_pickf rfl rfl (by assumption) rfl | exact opd_pick rfl rfl rfl)) ?_)
    all_goals (refine al_d rfl rfl rfl (by exact opd_move rfl rfl) ?_)
    all_goals (first | refine al_split (t := 26) rfl (fun h26 => ?_) (fun h26 => ?_) | refine al_dup (t := 26) rfl ?_ | skip)
    all_goals (try contradiction)
    all_goals (first | refine al_off rfl rfl rfl rfl rfl ?_ | refine al_offu rfl rfl rfl rfl ?_ | refine al_ond rfl rfl rfl rfl rfl rfl (by exact (by first | exact opd_field_ref rfl fo44_1 rfl rfl rfl rfl | exact opd_field_pad rfl fo44_1 rfl rfl)) ?_)
    all_goals (first | refine al_off rfl rfl rfl rfl rfl ?_ | refine al_offu rfl rfl rfl rfl ?_ | refine al_ond rfl rfl rfl rfl rfl rfl (by exact (by first | exact opd_load1_ref rfl Tryz.isAgg9 rfl rfl rfl rfl rfl | exact opd_load1_pad rfl Tryz.isAgg9 rfl (by first | omega | assumption) rfl)) ?_)
    all_goals (first | refine al_off rfl rfl rfl rfl rfl ?_ | refine al_offu rfl rfl rfl rfl ?_ | refine al_ond rfl rfl rfl rfl rfl rfl (by exact (by first | exact opd_field_ref rfl fo44_2 rfl rfl rfl rfl | exact opd_field_pad rfl fo44_2 rfl rfl)) ?_)
    all_goals (first | refine al_off rfl rfl rfl rfl rfl ?_ | refine al_offu rfl rfl rfl rfl ?_ | refine al_ond rfl rfl rfl rfl rfl rfl (by exact (by first | exact opd_load1_ref rfl Tryz.isAgg9 rfl rfl rfl rfl rfl | exact opd_load1_pad rfl Tryz.isAgg9 rfl (by first | omega | assumption) rfl)) ?_)
    all_goals (first | refine al_off rfl rfl rfl rfl rfl ?_ | refine al_offu rfl rfl rfl rfl ?_ | refine al_ond rfl rfl rfl rfl rfl rfl (by exact (by first | exact opd_field_ref rfl fo44_3 rfl rfl rfl rfl | exact opd_field_pad rfl fo44_3 rfl rfl)) ?_)
    all_goals (first | refine al_off rfl rfl rfl rfl rfl ?_ | refine al_offu rfl rfl rfl rfl ?_ | refine al_ond rfl rfl rfl rfl rfl rfl (by exact (by first | exact opd_load1_ref rfl Tryz.isAgg9 rfl rfl rfl rfl rfl | exact opd_load1_pad rfl Tryz.isAgg9 rfl (by first | omega | assumption) rfl)) ?_)
    all_goals (first | refine al_off rfl rfl rfl rfl rfl ?_ | refine al_offu rfl rfl rfl rfl ?_ | refine al_ond rfl rfl rfl rfl rfl rfl (by exact (by first | exact opd_field_ref rfl fo44_5 rfl rfl rfl rfl | exact opd_field_pad rfl fo44_5 rfl rfl)) ?_)
    all_goals (first | refine al_off rfl rfl rfl rfl rfl ?_ | refine al_offu rfl rfl rfl rfl ?_ | refine al_ond rfl rfl rfl rfl rfl rfl (by exact (by first | exact opd_load1_ref rfl Tryz.isAgg9 rfl rfl rfl rfl rfl | exact opd_load1_pad rfl Tryz.isAgg9 rfl (by first | omega | assumption) rfl)) ?_)
    all_goals (first | refine al_off rfl rfl rfl rfl rfl ?_ | refine al_offu rfl rfl rfl rfl ?_ | refine al_ond rfl rfl rfl rfl rfl rfl (by exact x_build_arr rfl ao134 rfl rfl) ?_)
    all_goals (first | refine al_off rfl rfl rfl rfl rfl ?_ | refine al_offu rfl rfl rfl rfl ?_ | refine al_ond rfl rfl rfl rfl rfl rfl (by exact (by first | exact opd_field_ref rfl fo44_1 rfl rfl rfl rfl | exact opd_field_pad rfl fo44_1 rfl rfl)) ?_)
    all_goals (first | refine al_off rfl rfl rfl rfl rfl ?_ | refine al_offu rfl rfl rfl rfl ?_ | refine al_ond rfl rfl rfl rfl rfl rfl (by exact (by first | exact opd_load1_ref rfl Tryz.isAgg9 rfl rfl rfl rfl rfl | exact opd_load1_pad rfl Tryz.isAgg9 rfl (by first | omega | assumption) rfl)) ?_)
    all_goals (first | refine al_off rfl rfl rfl rfl rfl ?_ | refine al_offu rfl rfl rfl rfl ?_ | refine al_ond rfl rfl rfl rfl rfl rfl (by exact (by first | exact opd_field_ref rfl fo44_2 rfl rfl rfl rfl | exact opd_field_pad rfl fo44_2 rfl rfl)) ?_)
    all_goals (first | refine al_off rfl rfl rfl rfl rfl ?_ | refine al_offu rfl rfl rfl rfl ?_ | refine al_ond rfl rfl rfl rfl rfl rfl (by exact (by first | exact opd_load1_ref rfl Tryz.isAgg9 rfl rfl rfl rfl rfl | exact opd_load1_pad rfl Tryz.isAgg9 rfl (by first | omega | assumption) rfl)) ?_)
    all_goals (first | refine al_off rfl rfl rfl rfl rfl ?_ | refine al_offu rfl rfl rfl rfl ?_ | refine al_ond rfl rfl rfl rfl rfl rfl (by exact (by first | exact opd_field_ref rfl fo44_3 rfl rfl rfl rfl | exact opd_field_pad rfl fo44_3 rfl rfl)) ?_)
    all_goals (first | refine al_off rfl rfl rfl rfl rfl ?_ | refine al_offu rfl rfl rfl rfl ?_ | refine al_ond rfl rfl rfl rfl rfl rfl (by exact (by first | exact opd_load1_ref rfl Tryz.isAgg9 rfl rfl rfl rfl rfl | exact opd_load1_pad rfl Tryz.isAgg9 rfl (by first | omega | assumption) rfl)) ?_)
    all_goals (first | refine al_off rfl rfl rfl rfl rfl ?_ | refine al_offu rfl rfl rfl rfl ?_ | refine al_ond rfl rfl rfl rfl rfl rfl (by exact (by first | exact opd_field_ref rfl fo44_5 rfl rfl rfl rfl | exact opd_field_pad rfl fo44_5 rfl rfl)) ?_)
    all_goals (first | refine al_off rfl rfl rfl rfl rfl ?_ | refine al_offu rfl rfl rfl rfl ?_ | refine al_ond rfl rfl rfl rfl rfl rfl (by exact (by first | exact opd_load1_ref rfl Tryz.isAgg9 rfl rfl rfl rfl rfl | exact opd_load1_pad rfl Tryz.isAgg9 rfl (by first | omega | assumption) rfl)) ?_)
    all_goals (first | refine al_off rfl rfl rfl rfl rfl ?_ | refine al_offu rfl rfl rfl rfl ?_ | refine al_ond rfl rfl rfl rfl rfl rfl (by exact x_build_arr rfl ao134 rfl rfl) ?_)
    all_goals (first | refine al_off rfl rfl rfl rfl rfl ?_ | refine al_offu rfl rfl rfl rfl ?_ | refine al_ond rfl rfl rfl rfl rfl rfl (by exact opd_aeql rfl rfl rfl rfl rfl Tryz.eqGuardType134 (seS4 a.id b.id a.other b.other a.node b.node a.key b.key)) ?_)
    all_goals (refine al_d rfl rfl rfl (by exact (by first | exact opd_pick_t rfl rfl rfl | exact opd_pick_f rfl rfl rfl | exact opd_pickt rfl rfl (by assumption) rfl | exact opd_pickf rfl rfl (by assumption) rfl | exact opd_pick rfl rfl rfl)) ?_)
    all_goals (refine al_d rfl rfl rfl (by exact opd_move rfl rfl) ?_)
    all_goals (first | refine al_split (t := 47) rfl (fun h47 => ?_) (fun h47 => ?_) | refine al_dup (t := 47) rfl ?_ | skip)
    all_goals (try contradiction)
    all_goals (first | refine al_off rfl rfl rfl rfl rfl ?_ | refine al_offu rfl rfl rfl rfl ?_ | refine al_ond rfl rfl rfl rfl rfl rfl (by exact (by first | exact opd_field_ref rfl fo44_6 rfl rfl rfl rfl | exact opd_field_pad rfl fo44_6 rfl rfl)) ?_)
    all_goals (first | refine al_off rfl rfl rfl rfl rfl ?_ | refine al_offu rfl rfl rfl rfl ?_ | refine al_ond rfl rfl rfl rfl rfl rfl (by exact (by first | exact opd_load1_ref rfl Tryz.isAgg9 rfl rfl rfl rfl rfl | exact opd_load1_pad rfl Tryz.isAgg9 rfl (by first | omega | assumption) rfl)) ?_)
    all_goals (first | refine al_off rfl rfl rfl rfl rfl ?_ | refine al_offu rfl rfl rfl rfl ?_ | refine al_ond rfl rfl rfl rfl rfl rfl (by exact (by first | exact opd_field_ref rfl fo44_6 rfl rfl rfl rfl | exact opd_field_pad rfl fo44_6 rfl rfl)) ?_)
    all_goals (first | refine al_off rfl rfl rfl rfl rfl ?_ | refine al_offu rfl rfl rfl rfl ?_ | refine al_ond rfl rfl rfl rfl rfl rfl (by exact (by first | exact opd_load1_ref rfl Tryz.isAgg9 rfl rfl rfl rfl rfl | exact opd_load1_pad rfl Tryz.isAgg9 rfl (by first | omega | assumption) rfl)) ?_)
    all_goals (first | refine al_off rfl rfl rfl rfl rfl ?_ | refine al_offu rfl rfl rfl rfl ?_ | refine al_ond rfl rfl rfl rfl rfl rfl (by exact opd_seql rfl rfl rfl) ?_)
    all_goals (refine al_d rfl rfl rfl (by exact (by first | exact opd_pick_t rfl rfl rfl | exact opd_pick_f rfl rfl rfl | exact opd_pickt rfl rfl (by assumption) rfl | exact opd_pickf rfl rfl (by assumption) rfl | exact opd_pick rfl rfl rfl)) ?_)
    all_goals (refine al_d rfl rfl rfl (by exact opd_move rfl rfl) ?_)
    all_goals (first | refine al_split (t := 54) rfl (fun h54 => ?_) (fun h54 => ?_) | refine al_dup (t := 54) rfl ?_ | skip)
    all_goals (try contradiction)
    all_goals (first | refine al_off rfl rfl rfl rfl rfl ?_ | refine al_offu rfl rfl rfl rfl ?_ | refine al_ond rfl rfl rfl rfl rfl rfl (by exact (by first | exact opd_field_ref rfl fo44_4 rfl rfl rfl rfl | exact opd_field_pad rfl fo44_4 rfl rfl)) ?_)
    all_goals (first | refine al_off rfl rfl rfl rfl rfl ?_ | refine al_offu rfl rfl rfl rfl ?_ | refine al_ond rfl rfl rfl rfl rfl rfl (by exact (by first | exact opd_loadn_ref rfl Tryz.isAgg38 Tryz.sizeOf38 rfl rfl rfl rfl (by simp only [List.drop_succ_cons, List.drop_zero, List.take_succ_cons, List.take_zero, List.take_nil, List.map_cons, List.map_nil, List.set_cons_zero, List.set_cons_succ, List.cons_append, List.nil_append, encTag, encObj, encStr, encEdit]; rfl) rfl | exact opd_loadn_pad rfl Tryz.isAgg38 Tryz.sizeOf38 rfl (by first | omega | assumption) (by simp only [List.drop_succ_cons, List.drop_zero, List.take_succ_cons, List.take_zero, List.take_nil, List.map_cons, List.map_nil, List.set_cons_zero, List.set_cons_succ, List.cons_append, List.nil_append, encTag, encObj, encStr, encEdit]; rfl) rfl)) ?_)
    all_goals (first | refine al_off rfl rfl rfl rfl rfl ?_ | refine al_offu rfl rfl rfl rfl ?_ | refine al_ond rfl rfl rfl rfl rfl rfl (by exact (by first | exact opd_field_ref rfl fo44_4 rfl rfl rfl rfl | exact opd_field_pad rfl fo44_4 rfl rfl)) ?_)
    all_goals (first | refine al_off rfl rfl rfl rfl rfl ?_ | refine al_offu rfl rfl rfl rfl ?_ | refine al_ond rfl rfl rfl rfl rfl rfl (by exact (by first | exact opd_loadn_ref rfl Tryz.isAgg38 Tryz.sizeOf38 rfl rfl rfl rfl (by simp only [List.drop_succ_cons, List.drop_zero, List.take_succ_cons, List.take_zero, List.take_nil, List.map_cons, List.map_nil, List.set_cons_zero, List.set_cons_succ, List.cons_append, List.nil_append, encTag, encObj, encStr, encEdit]; rfl) rfl | exact opd_loadn_pad rfl Tryz.isAgg38 Tryz.sizeOf38 rfl (by first | omega | assumption) (by simp only [List.drop_succ_cons, List.drop_zero, List.take_succ_cons, List.take_zero, List.take_nil, List.map_cons, List.map_nil, List.set_cons_zero, List.set_cons_succ, List.cons_append, List.nil_append, encTag, encObj, encStr, encEdit]; rfl) rfl)) ?_)
    all_goals (first | refine al_off rfl rfl rfl rfl rfl ?_ | refine al_offu rfl rfl rfl rfl ?_ | refine al_ond rfl rfl rfl rfl rfl rfl (by exact opd_aeql rfl rfl rfl rfl rfl Tryz.eqGuardType38 (se38 _ _ _ _)) ?_)
    all_goals (refine al_d rfl rfl rfl (by exact (by first | exact opd_pick_t rfl rfl rfl | exact opd_pick_f rfl rfl rfl | exact opd_pickt rfl rfl (by assumption) rfl | exact opd_pickf rfl rfl (by assumption) rfl | exact opd_pick rfl rfl rfl)) ?_)
    all_goals (refine al_d rfl rfl rfl (by exact opd_assign rfl rfl) ?_)
    all_goals (refine al_nil ?_)
    all_goals (exact ⟨⟨_, rfl, by first | rfl | (simp only [*]; rfl) | (simp only [gSameE, *]; rfl) | (simp_all [gSameE]; done)⟩, rfl, rfl, rfl⟩)
  refine awp_ret ?_
  -- return
  refine aret1 (H' := []) (by first | exact .inr rfl | exact .inl rfl) rfl (rval_tmp rfl) (Fin.wk (by simp) trivial trivial) ?_
  exact ⟨rfl, rfl⟩
def atP {α : Type} (l : List α) (p : α → Bool) (k : Nat) : Bool := match l[k]? with
  | some s => p s
  | none => false
theorem atP_some {α : Type} {l : List α} {p : α → Bool} {k : Nat} {s : α} (h : l[k]? = some s) : atP l p k = p s := by rw [atP, h]
theorem range_any_get {α : Type} (l : List α) (p : α → Bool) : (List.range l.length).any (atP l p) = l.any p := by
  rw [Bool.eq_iff_iff, List.any_eq_true, List.any_eq_true]
  constructor
  · rintro ⟨k, hk, h⟩
    have hlt := List.mem_range.1 hk
    rw [atP_some (List.getElem?_eq_getElem hlt)] at h
    exact ⟨_, List.getElem_mem hlt, h⟩
  · rintro ⟨x, hx, h⟩
    obtain ⟨k, hk⟩ := List.mem_iff_getElem?.1 hx
    exact ⟨k, List.mem_range.2 (List.getElem?_eq_some_iff.1 hk).1, by rw [atP_some hk]; exact h⟩
theorem names1_c (s : ByteArray) (H : Heap) (hs : s.size < 4611686018427387904) : ACalls Tryz.prog 121 [sv s] H (fun r H' => r = bv (!gName s) ∧ H' = H) := by
  refine ACalls.pure ?_ (by simp) H
  refine ACalls.body Tryz.func121 rfl Tryz.ntmps121 (Nat.le_of_ble_eq_true rfl) ?_
  refine awp_seq ?_
  refine awp_region ?_
  refine al_d rfl rfl rfl (by exact opd_assign rfl rfl) ?_
  refine al_nil ?_
  refine awp_seq ?_
  refine awp_region ?_
  refine al_d rfl rfl rfl (by exact opd_move rfl rfl) ?_
  refine al_d rfl rfl rfl (by exact opr_call rfl rfl Tryz.call122 rfl (name_c s _ hs)) ?_
  refine al_d rfl rfl rfl (by exact opd_not rfl rfl) ?_
  refine al_d rfl rfl rfl (by exact opd_assign rfl rfl) ?_
  refine al_nil ?_
  refine awp_ret ?_
  -- return
  refine aret1 (H' := []) (by first | exact .inr rfl | exact .inl rfl) rfl (rval_tmp rfl) (Fin.wk (by simp) trivial trivial) ?_
  exact ⟨rfl, rfl⟩
theorem names_c (l : List ByteArray) (H : Heap) (hl : l.length < 4611686018427387904) (hs : ∀ s ∈ l, s.size < 4611686018427387904) : ACalls Tryz.prog 67 [.pv (slStrs l)] H (fun r H' => r = bv (l.all gName) ∧ H' = H) := by
  refine ACalls.pure ?_ (by simp) H
  have e : l.all gName = !(List.range l.length).any (atP l (fun s => !gName s)) := by
    rw [range_any_get l (fun s => !gName s), List.any_eq_not_all_not]
    simp
  rw [e]
  refine ACalls.body Tryz.func67 rfl Tryz.ntmps67 (Nat.le_of_ble_eq_true rfl) ?_
  refine awp_seq ?_
  refine awp_region ?_
  refine al_d rfl rfl rfl (by exact opd_assign rfl rfl) ?_
  refine al_nil ?_
  refine awp_seq ?_
  refine awp_region ?_
  refine al_d rfl rfl rfl (by exact opd_move rfl rfl) ?_
  refine al_d rfl rfl rfl (by exact opr_call rfl rfl Tryz.call120 rfl (containsFuncS (.pv (.fn 121)) l (atP l (fun s => !gName s)) (fun _ => []) hl (fun k s hk => CallsV.fn Tryz.call121 (by rw [atP_some hk]; exact names1_c s _ (hs s (List.mem_of_getElem? hk)))))) ?_
  refine al_d rfl rfl rfl (by exact opd_not rfl rfl) ?_
  refine al_d rfl rfl rfl (by exact opd_assign rfl rfl) ?_
  refine al_nil ?_
  refine awp_ret ?_
  -- return
  refine aret1 (H' := []) (by first | exact .inr rfl | exact .inl rfl) rfl (rval_tmp rfl) (Fin.wk (by simp) trivial trivial) ?_
  exact ⟨rfl, rfl⟩
end Go.Proofs.YtdgoodjhndeojaaGreat
end
