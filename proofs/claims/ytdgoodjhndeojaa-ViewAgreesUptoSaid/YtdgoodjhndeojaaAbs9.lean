/-
  THE ABSTRACT LOGIC: regions whose order Go leaves open: one walk in the order of the text serves every order, if any two operations that touch the same slot or object are ordered by edges.
  Conditions: 'okDraw', a Bool over the region.
-/
import Derived.Test.YtdgoodjhndeojaaAbs8
set_option linter.unusedVariables false
set_option linter.unusedSimpArgs false
namespace Go.Abs

/-- What one operation yields, which objects it looks at ('none': any), and which it lays anew. -/
structure Rec where
  v : AV
  R : Option (List Nat)
  W : Heap

def memB : List Nat → Nat → Bool
  | [], _ => false
  | x :: r, t => cond (Nat.beq x t) true (memB r t)
theorem memB_iff {l : List Nat} {t : Nat} : memB l t = true ↔ t ∈ l := by
  induction l with
  | nil => simp [memB]
  | cons x r ih =>
    cases e : Nat.beq x t with
    | true =>
      have : x = t := Nat.eq_of_beq_eq_true e
      simp [memB, e, this]
    | false =>
      have : x ≠ t := fun h => by subst h; rw [beq_self] at e; cases e
      simp [memB, e, ih, Ne.symm this]

def memR : Option (List Nat) → Nat → Bool
  | none, _ => true
  | some l, t => memB l t

def otmps : List Operand → List Nat
  | [] => []
  | .tmp t :: r => t :: otmps r
  | _ :: r => otmps r
def olooks (ops : List Oper) (o : Oper) : List Nat :=
  match o.guard with
  | none => otmps o.op.operands.toList
  | some (j, _) => match gslot ops j with
    | some t => t :: otmps o.op.operands.toList
    | none => otmps o.op.operands.toList
def restr (E : Env) : List Nat → Env
  | [] => []
  | t :: r => match E.get t with
    | some v => (t, v) :: restr E r
    | none => restr E r

theorem restr_sub {E : Env} {l : List Nat} : ∀ p ∈ restr E l, E.get p.1 = some p.2 ∧ p.1 ∈ l := by
  induction l with
  | nil => simp [restr]
  | cons t r ih =>
    intro p hp
    unfold restr at hp
    split at hp
    · rename_i v e
      rcases List.mem_cons.1 hp with h | h
      · subst h; exact ⟨e, by simp⟩
      · exact ⟨(ih p h).1, by simp [(ih p h).2]⟩
    · exact ⟨(ih p hp).1, by simp [(ih p hp).2]⟩

/-- One operation of such a region, in the order of the text. -/
inductive DStep (P : Program) (N : Nat) (ops : List Oper) (o : Oper) (E : Env) (H : Heap) (r : Rec) : Prop
  | plain (hg : o.guard = none) (h : ∀ H1 : Heap, (∀ id, memR r.R id = true → H1.get id = H.get id) → OpD P N o (restr E (olooks ops o)) H1 r.v (r.W ++ H1))
  | on (j : Nat) (want : Bool) (t : Tmp) (b : Bool) (hg : o.guard = some (j, want)) (hj : gslot ops j = some t) (hb : E.get t = some (.pv (.bool b))) (hw : b = want)
      (h : ∀ H1 : Heap, (∀ id, memR r.R id = true → H1.get id = H.get id) → OpD P N o (restr E (olooks ops o)) H1 r.v (r.W ++ H1))
  | off (j : Nat) (want : Bool) (t : Tmp) (x : AV) (hg : o.guard = some (j, want)) (hj : gslot ops j = some t) (hb : E.get t = some x) (hw : offB want x = true) (hv : r.v = .tup []) (hW : r.W = [])

inductive DChain (P : Program) (N : Nat) (ops : List Oper) : List Oper → Env → Heap → List Rec → Env → Heap → Prop
  | nil {E : Env} {H : Heap} : DChain P N ops [] E H [] E H
  | cons {o : Oper} {rest : List Oper} {E E' : Env} {H H' : Heap} {r : Rec} {rs : List Rec} (h : DStep P N ops o E H r) (hd : dstOk N o.dst = true) (hr : DChain P N ops rest (putd E o.dst r.v) (r.W ++ H) rs E' H') :
      DChain P N ops (o :: rest) E H (r :: rs) E' H'

/-! ### what has been carried out -/
structure Ent2 where
  o : Oper
  r : Rec
def spE (E : Env) (l : List Ent2) (S : Nat → Bool) : Nat → Nat → Option AV
  | 0, t => E.get t
  | k + 1, t => match l[k]? with
    | some x => if S k = true ∧ x.o.dst = some t then some x.r.v else spE E l S k t
    | none => spE E l S k t
def spH (H : Heap) (l : List Ent2) (S : Nat → Bool) : Nat → Nat → Option Ob
  | 0, id => H.get id
  | k + 1, id => match l[k]? with
    | some x => if S k = true ∧ (x.r.W.get id).isSome = true then x.r.W.get id else spH H l S k id
    | none => spH H l S k id

theorem get_app (W H : Heap) (id : Nat) : Heap.get (W ++ H) id = match W.get id with | some o => some o | none => H.get id := by
  induction W with
  | nil => rfl
  | cons x r ih =>
    obtain ⟨i, o⟩ := x
    cases e : Nat.beq i id with
    | true => simp [Heap.get, e]
    | false => simpa [Heap.get, e] using ih

def hkeys (W : Heap) : List Nat := W.map (·.1)
theorem get_none_of_key {W : Heap} {id : Nat} (h : id ∉ hkeys W) : W.get id = none := by
  cases e : W.get id with
  | none => rfl
  | some o =>
    have := mem_of_hget e
    exact absurd (List.mem_map.2 ⟨_, this, rfl⟩) h

/-- Two entries touch the same slot or object. -/
def clash (ops : List Oper) (x y : Ent2) : Bool :=
  (match x.o.dst with
   | some d => memB (olooks ops y.o) d || (match y.o.dst with | some e => Nat.beq e d | none => false)
   | none => false) ||
  (match y.o.dst with
   | some d => memB (olooks ops x.o) d
   | none => false) ||
  (hkeys x.r.W).any (fun i => memR y.r.R i || memB (hkeys y.r.W) i) ||
  (hkeys y.r.W).any (fun i => memR x.r.R i)

def edgeBits (acc : List Nat) : List Edge → Nat
  | [] => 0
  | e :: r => if Region.binds .any e then ((1 <<< e.on) ||| acc.getD e.on 0) ||| edgeBits acc r else edgeBits acc r
def befL : List Oper → List Nat → List Nat
  | [], acc => acc
  | o :: r, acc => befL r (acc ++ [edgeBits acc o.after.toList])

def okPairs (ops : List Oper) (bef : List Nat) : Nat → List Ent2 → List Ent2 → Bool
  | _, _, [] => true
  | j, prev, y :: r => (prev.zipIdx.all fun (x, i) => !clash ops x y || (bef.getD j 0).testBit i) && okPairs ops bef (j + 1) (prev ++ [y]) r

def okEdges : Nat → List Oper → Bool
  | _, [] => true
  | j, o :: r => (o.after.toList.all fun e => !Region.binds .any e || Nat.blt e.on j) && okEdges (j + 1) r

def okDraw (ops : List Oper) (rs : List Rec) : Bool :=
  okEdges 0 ops && okPairs ops (befL ops []) 0 [] (List.zipWith Ent2.mk ops rs)

/-- A set of indices that holds, with an operation, all that stand before it. -/
def Down (ops : List Oper) (S : Nat → Bool) : Prop := ∀ j o, ops[j]? = some o → S j = true → ∀ e ∈ o.after.toList, Region.binds .any e = true → S e.on = true
def Pre (ops : List Oper) (i j : Nat) : Prop := ∀ S, Down ops S → ∀ o, ops[j]? = some o → (∀ e ∈ o.after.toList, Region.binds .any e = true → S e.on = true) → S i = true

theorem edgeBits_spec {ops : List Oper} {acc : List Nat} (hacc : ∀ j, j < acc.length → ∀ i, (acc.getD j 0).testBit i = true → Pre ops i j) (hlen : acc.length ≤ ops.length) :
    ∀ (es : List Edge) (i : Nat), (edgeBits acc es).testBit i = true → ∀ S, Down ops S → (∀ e ∈ es, Region.binds .any e = true → S e.on = true) → S i = true := by
  intro es
  induction es with
  | nil => intro i h; simp [edgeBits] at h
  | cons e r ih =>
    intro i h S hS he
    unfold edgeBits at h
    split at h
    · rename_i hb
      rw [Nat.testBit_or, Nat.testBit_or, Bool.or_eq_true, Bool.or_eq_true] at h
      rcases h with (h | h) | h
      · have : e.on = i := by
          rw [Nat.testBit_shiftLeft] at h
          simp only [Bool.and_eq_true, decide_eq_true_eq] at h
          have h2 := h.2
          rw [Nat.testBit_one_eq_true_iff_self_eq_zero] at h2
          omega
        rw [← this]
        exact he e (by simp) hb
      · by_cases hj : e.on < acc.length
        · have hlt : e.on < ops.length := by omega
          have hon := he e (by simp) hb
          exact hacc e.on hj i h S hS _ (List.getElem?_eq_getElem hlt) (fun e' he' hb' => hS e.on _ (List.getElem?_eq_getElem hlt) hon e' he' hb')
        · simp [List.getD, List.getElem?_eq_none (show acc.length ≤ e.on by omega)] at h
      · exact ih i h S hS (fun e' he' => he e' (by simp [he']))
    · exact ih i h S hS (fun e' he' => he e' (by simp [he']))

theorem befL_spec {ops : List Oper} : ∀ (rest done : List Oper) (acc : List Nat), ops = done ++ rest → acc.length = done.length → (∀ j, j < acc.length → ∀ i, (acc.getD j 0).testBit i = true → Pre ops i j) →
    ∀ j i, ((befL rest acc).getD j 0).testBit i = true → Pre ops i j := by
  intro rest
  induction rest with
  | nil =>
    intro done acc h1 h2 h3 j i hb
    by_cases hj : j < acc.length
    · exact h3 j hj i hb
    · simp [befL, List.getD, List.getElem?_eq_none (show acc.length ≤ j by omega)] at hb
  | cons o r ih =>
    intro done acc h1 h2 h3
    refine ih (done ++ [o]) (acc ++ [edgeBits acc o.after.toList]) (by rw [h1]; simp) (by simp [h2]) ?_
    intro j hj i hb
    by_cases hlt : j < acc.length
    · have hb' : (acc.getD j 0).testBit i = true := by simpa [List.getD, List.getElem?_append_left hlt] using hb
      exact h3 j hlt i hb'
    · have hje : j = acc.length := by simp at hj; omega
      subst hje
      have hb : (edgeBits acc o.after.toList).testBit i = true := by simpa [List.getD] using hb
      intro S hS o' ho' he'
      have : o' = o := by
        rw [h1, List.getElem?_append_right (by omega), h2] at ho'
        simp at ho'
        exact ho'.symm
      subst this
      exact edgeBits_spec h3 (by rw [h1, h2]; simp) _ i hb S hS he'

theorem okPairs_spec {ops : List Oper} {bef : List Nat} : ∀ (rest prev : List Ent2), okPairs ops bef prev.length prev rest = true → ∀ i j, i < j → prev.length ≤ j → ∀ x y, (prev ++ rest)[i]? = some x → (prev ++ rest)[j]? = some y → clash ops x y = true → (bef.getD j 0).testBit i = true := by
  intro rest
  induction rest with
  | nil =>
    intro prev _ i j hij hj x y hx hy
    have := (List.getElem?_eq_some_iff.1 hy).1
    simp at this
    omega
  | cons z r ih =>
    intro prev h i j hij hj x y hx hy hc
    simp only [okPairs, Bool.and_eq_true] at h
    by_cases e : j = prev.length
    · subst e
      have hz : y = z := by
        rw [List.getElem?_append_right (by omega)] at hy
        simp at hy; exact hy.symm
      subst hz
      have hx' : prev[i]? = some x := by rw [List.getElem?_append_left hij] at hx; exact hx
      have hm : (x, i) ∈ prev.zipIdx := by rw [List.mem_zipIdx_iff_getElem?]; exact hx'
      have := List.all_eq_true.1 h.1 _ hm
      simpa [hc] using this
    · have h2 := h.2
      have hl : prev.length + 1 = (prev ++ [z]).length := by simp
      rw [hl] at h2
      have hr : prev ++ z :: r = (prev ++ [z]) ++ r := by simp
      rw [hr] at hx hy
      exact ih (prev ++ [z]) h2 i j hij (by simp; omega) x y hx hy hc

theorem okEdges_spec : ∀ (l : List Oper) (k : Nat), okEdges k l = true → ∀ j o, l[j]? = some o → ∀ e ∈ o.after.toList, Region.binds .any e = true → e.on < k + j := by
  intro l
  induction l with
  | nil => intro k _ j o h; simp at h
  | cons x r ih =>
    intro k h j o ho e he hb
    simp only [okEdges, Bool.and_eq_true] at h
    cases j with
    | zero =>
      simp at ho; subst ho
      have := List.all_eq_true.1 h.1 e he
      simpa [hb, Nat.blt_eq] using this
    | succ j =>
      simp at ho
      have := ih (k + 1) h.2 j o ho e he hb
      omega

section
variable {P : Program} {N : Nat} {ops : List Oper} {E : Env} {H : Heap}

/-- The states of the walk in the order of the text. -/
theorem DChain.spec {rest : List Oper} {E' : Env} {H' : Heap} {rs : List Rec} (h : DChain P N ops rest E H rs E' H') : rs.length = rest.length ∧
    (∀ k x, (List.zipWith Ent2.mk rest rs)[k]? = some x → dstOk N x.o.dst = true ∧ ∃ Ek Hk, (∀ t, Ek.get t = spE E (List.zipWith Ent2.mk rest rs) (fun _ => true) k t) ∧ (∀ id, Hk.get id = spH H (List.zipWith Ent2.mk rest rs) (fun _ => true) k id) ∧ DStep P N ops x.o Ek Hk x.r) ∧
    (∀ t, E'.get t = spE E (List.zipWith Ent2.mk rest rs) (fun _ => true) rest.length t) ∧ (∀ id, H'.get id = spH H (List.zipWith Ent2.mk rest rs) (fun _ => true) rest.length id) := by
  induction h with
  | nil => exact ⟨rfl, by simp, fun t => rfl, fun id => rfl⟩
  | @cons o rest E E' H H' r rs hs hd hr ih =>
    obtain ⟨h1, h2, h3, h4⟩ := ih
    have shE : ∀ (l : List Ent2) k t, spE (putd E o.dst r.v) l (fun _ => true) k t = spE E (⟨o, r⟩ :: l) (fun _ => true) (k + 1) t := by
      intro l k t
      induction k with
      | zero =>
        simp only [spE, List.getElem?_cons_zero]
        cases hdst : o.dst with
        | none => simp [putd]
        | some d =>
          simp only [putd]
          by_cases e : d = t
          · subst e; simp [Env.get_cons_same]
          · rw [Env.get_cons_other _ _ e]; simp [e]
      | succ k ih =>
        rw [spE, spE]
        simp only [List.getElem?_cons_succ]
        cases l[k]? with
        | none => exact ih
        | some x => simp only [ih]
    have shH : ∀ (l : List Ent2) k id, spH (r.W ++ H) l (fun _ => true) k id = spH H (⟨o, r⟩ :: l) (fun _ => true) (k + 1) id := by
      intro l k id
      induction k with
      | zero =>
        simp only [spH, List.getElem?_cons_zero, get_app]
        cases hw : r.W.get id <;> simp
      | succ k ih =>
        rw [spH, spH]
        simp only [List.getElem?_cons_succ]
        cases l[k]? with
        | none => exact ih
        | some x => simp only [ih]
    refine ⟨by simp [h1], ?_, ?_, ?_⟩
    · intro k x hx
      cases k with
      | zero =>
        simp at hx; subst hx
        exact ⟨hd, E, H, fun t => rfl, fun id => rfl, hs⟩
      | succ k =>
        simp at hx
        obtain ⟨g0, Ek, Hk, g1, g2, g3⟩ := h2 k x (by simpa using hx)
        exact ⟨g0, Ek, Hk, fun t => (g1 t).trans (shE _ k t), fun id => (g2 id).trans (shH _ k id), g3⟩
    · intro t
      rw [h3 t, shE]
      rfl
    · intro id
      rw [h4 id, shH]
      rfl

theorem spE_agree {l : List Ent2} {S : Nat → Bool} {t : Nat} : ∀ (n k : Nat), k ≤ n → (∀ j x, l[j]? = some x → x.o.dst = some t → (j < k → S j = true) ∧ (k ≤ j → j < n → S j = false)) → spE E l S n t = spE E l (fun _ => true) k t := by
  intro n
  induction n with
  | zero => intro k hk h; have : k = 0 := by omega
            subst this; rfl
  | succ n ih =>
    intro k hk h
    by_cases e : k = n + 1
    · subst e
      rw [spE, spE]
      cases hl : l[n]? with
      | none => exact ih n (Nat.le_refl _) (fun j x hj hx => ⟨fun hlt => (h j x hj hx).1 (by omega), fun h1 h2 => by omega⟩)
      | some x =>
        simp only
        by_cases hd : x.o.dst = some t
        · have := (h n x hl hd).1 (by omega)
          simp [this, hd]
        · simp only [hd, and_false, if_false]
          exact ih n (Nat.le_refl _) (fun j x hj hx => ⟨fun hlt => (h j x hj hx).1 (by omega), fun h1 h2 => by omega⟩)
    · rw [spE]
      have hk' : k ≤ n := by omega
      have hrec := ih k hk' (fun j x hj hx => ⟨(h j x hj hx).1, fun h1 h2 => (h j x hj hx).2 h1 (by omega)⟩)
      cases hl : l[n]? with
      | none => exact hrec
      | some x =>
        simp only
        by_cases hd : x.o.dst = some t
        · have := (h n x hl hd).2 (by omega) (by omega)
          simp [this, hrec]
        · simp [hd, hrec]
theorem spH_agree {l : List Ent2} {S : Nat → Bool} {id : Nat} : ∀ (n k : Nat), k ≤ n → (∀ j x, l[j]? = some x → (x.r.W.get id).isSome = true → (j < k → S j = true) ∧ (k ≤ j → j < n → S j = false)) → spH H l S n id = spH H l (fun _ => true) k id := by
  intro n
  induction n with
  | zero => intro k hk h; have : k = 0 := by omega
            subst this; rfl
  | succ n ih =>
    intro k hk h
    by_cases e : k = n + 1
    · subst e
      rw [spH, spH]
      cases hl : l[n]? with
      | none => exact ih n (Nat.le_refl _) (fun j x hj hx => ⟨fun hlt => (h j x hj hx).1 (by omega), fun h1 h2 => by omega⟩)
      | some x =>
        simp only
        by_cases hd : (x.r.W.get id).isSome = true
        · have := (h n x hl hd).1 (by omega)
          simp [this, hd]
        · rw [if_neg (fun hh => hd hh.2), if_neg (fun hh => hd hh.2)]
          exact ih n (Nat.le_refl _) (fun j x hj hx => ⟨fun hlt => (h j x hj hx).1 (by omega), fun h1 h2 => by omega⟩)
    · rw [spH]
      have hk' : k ≤ n := by omega
      have hrec := ih k hk' (fun j x hj hx => ⟨(h j x hj hx).1, fun h1 h2 => (h j x hj hx).2 h1 (by omega)⟩)
      cases hl : l[n]? with
      | none => exact hrec
      | some x =>
        simp only
        by_cases hd : (x.r.W.get id).isSome = true
        · have := (h n x hl hd).2 (by omega) (by omega)
          simp [this, hrec]
        · simp [hd, hrec]
end

theorem OpD.restr {P : Program} {N : Nat} {o : Oper} {E E1 : Env} {H1 H2 : Heap} {l : List Nat} {v : AV} (h : OpD P N o (restr E l) H1 v H2) (hE : ∀ t, t ∈ l → E1.get t = E.get t) : OpD P N o E1 H1 v H2 := by
  intro a w I ι hd hs hr he K Q hk
  refine h a w I ι hd hs hr (fun t v ht => ?_) K Q hk
  have hp := restr_sub (E := E) (l := l) _ (mem_of_get ht)
  exact he t v ((hE t hp.2).trans hp.1)

theorem Ent.get {G0 : Heap} {E E' : Env} {H H' : Heap} (hE : ∀ t, E'.get t = E.get t) (hH : ∀ j, H'.get j = H.get j) : Ent G0 E H E' H' := by
  intro G hG N a w hs
  obtain ⟨I, ι, hr, hst, he⟩ := hs.rel
  obtain ⟨k2, k3⟩ := hr.congr hH
  refine ⟨hs.defers, hs.size, I, ι, k2, hst.trans k3, fun t v ht => ?_⟩
  obtain ⟨c, hc, hv⟩ := he t v ((hE t).symm.trans ht)
  exact ⟨c, hc, hv.mono hr k3⟩

theorem clash_dst_looks {ops : List Oper} {x y : Ent2} {d : Nat} (h : x.o.dst = some d) (h' : d ∈ olooks ops y.o) : clash ops x y = true := by
  simp [clash, h, memB_iff.2 h']
theorem clash_dst_dst {ops : List Oper} {x y : Ent2} {d : Nat} (h : x.o.dst = some d) (h' : y.o.dst = some d) : clash ops x y = true := by
  simp [clash, h, h', beq_self]
theorem clash_looks_dst {ops : List Oper} {x y : Ent2} {d : Nat} (h : y.o.dst = some d) (h' : d ∈ olooks ops x.o) : clash ops x y = true := by
  simp [clash, h, memB_iff.2 h']
theorem key_of_some {W : Heap} {id : Nat} (h : (W.get id).isSome = true) : id ∈ hkeys W := by
  obtain ⟨o, ho⟩ := Option.isSome_iff_exists.1 h
  exact List.mem_map.2 ⟨_, mem_of_hget ho, rfl⟩
theorem clash_W_R {ops : List Oper} {x y : Ent2} {id : Nat} (h : (x.r.W.get id).isSome = true) (h' : memR y.r.R id = true) : clash ops x y = true := by
  have : (hkeys x.r.W).any (fun i => memR y.r.R i || memB (hkeys y.r.W) i) = true := List.any_eq_true.2 ⟨id, key_of_some h, by simp [h']⟩
  simp [clash, this]
theorem clash_W_W {ops : List Oper} {x y : Ent2} {id : Nat} (h : (x.r.W.get id).isSome = true) (h' : (y.r.W.get id).isSome = true) : clash ops x y = true := by
  have : (hkeys x.r.W).any (fun i => memR y.r.R i || memB (hkeys y.r.W) i) = true := List.any_eq_true.2 ⟨id, key_of_some h, by simp [memB_iff.2 (key_of_some h')]⟩
  simp [clash, this]
theorem clash_R_W {ops : List Oper} {x y : Ent2} {id : Nat} (h : (y.r.W.get id).isSome = true) (h' : memR x.r.R id = true) : clash ops x y = true := by
  have : (hkeys y.r.W).any (fun i => memR x.r.R i) = true := List.any_eq_true.2 ⟨id, key_of_some h, h'⟩
  simp [clash, this]

/-- An operation that leaves the heap, in a region in which all do. -/
theorem OpD.any_heap {P : Program} {N : Nat} {o : Oper} {E : Env} {H H1 : Heap} {v : AV} (h : OpD P N o E H v H) (he : ∀ j, H1.get j = H.get j) : OpD P N o E H1 v H1 := by
  intro a w I ι hd hs hr hE K Q hk
  obtain ⟨k2, k3⟩ := hr.congr (fun j => (he j).symm)
  refine h a w I ι hd hs k2 (fun t v ht => let ⟨c, h1, h2⟩ := hE t v ht; ⟨c, h1, h2.mono hr k3⟩) K Q ?_
  rintro c w' I' ι' r H' ⟨rfl, rfl⟩ hv hr' hst
  obtain ⟨q2, q3⟩ := hr'.congr he
  exact hk c w' I' ι' _ _ ⟨rfl, rfl⟩ (hv.mono hr' q3) q2 ((k3.trans hst).trans q3)
theorem DStep.q {P : Program} {N : Nat} {ops : List Oper} {o : Oper} {E : Env} {H : Heap} {v : AV} (hg : o.guard = none) (h : OpD P N o (restr E (olooks ops o)) H v H) : DStep P N ops o E H ⟨v, none, []⟩ :=
  .plain hg fun H1 hH => h.any_heap fun j => hH j rfl
theorem DStep.qon {P : Program} {N : Nat} {ops : List Oper} {o : Oper} {E : Env} {H : Heap} {v : AV} {j : Nat} {want : Bool} {t : Tmp} {b : Bool} (hg : o.guard = some (j, want)) (hj : gslot ops j = some t) (hb : E.get t = some (.pv (.bool b))) (hw : b = want) (h : OpD P N o (restr E (olooks ops o)) H v H) : DStep P N ops o E H ⟨v, none, []⟩ :=
  .on j want t b hg hj hb hw fun H1 hH => h.any_heap fun j => hH j rfl
theorem DStep.qoff {P : Program} {N : Nat} {ops : List Oper} {o : Oper} {E : Env} {H : Heap} {j : Nat} {want : Bool} {t : Tmp} {x : AV} (hg : o.guard = some (j, want)) (hj : gslot ops j = some t) (hb : E.get t = some x) (hw : offB want x = true) : DStep P N ops o E H ⟨.tup [], some [], []⟩ :=
  .off j want t x hg hj hb hw rfl rfl

/-- THE REGION, IN WHATEVER ORDER. -/
theorem awp_draw {P : Program} {G0 : Heap} {N id : Nat} {Q : Exit → Env → Heap → Prop} {ops : Array Oper} {E E' : Env} {H H' : Heap} {rs : List Rec} (hm : P.follows .mixedOrders = true) (hc : DChain P N ops.toList ops.toList E H rs E' H') (hok : okDraw ops.toList rs = true)
    (hK : Q .normal E' H') : AWp P G0 N (.region id ops true) Q E H := by
  intro G hG a w hs
  refine wp_region_any hm ?_
  obtain ⟨hlen, hst, hE', hH'⟩ := hc.spec
  obtain ⟨l, hl⟩ : ∃ l, l = List.zipWith Ent2.mk ops.toList rs := ⟨_, rfl⟩
  rw [← hl] at hst hE' hH'
  simp only [okDraw, Bool.and_eq_true, ← hl] at hok
  obtain ⟨hok1, hok2⟩ := hok
  have hll : l.length = ops.size := by rw [hl]; simp [hlen]
  have hlo : ∀ (i : Nat) (x : Ent2), l[i]? = some x → ops.toList[i]? = some x.o := by
    intro i x hx
    rw [hl, List.getElem?_zipWith] at hx
    cases e1 : ops.toList[i]? with
    | none => simp [e1] at hx
    | some o =>
      cases e2 : rs[i]? with
      | none => simp [e1, e2] at hx
      | some r => simp [e1, e2] at hx; rw [← hx]
  have hedge := okEdges_spec ops.toList 0 hok1
  have hbef : ∀ (i j : Nat) (x y : Ent2), i < j → l[i]? = some x → l[j]? = some y → clash ops.toList x y = true → Pre ops.toList i j := fun i j x y hij hx hy hcl =>
    befL_spec ops.toList [] [] rfl rfl (by simp) j i (okPairs_spec l [] hok2 i j hij (Nat.zero_le _) x y hx hy hcl)
  -- the states
  have main : ∀ (fuel : Nat) (listed : Array Bool) (a : Act) (w : World) (E1 : Env) (H1 : Heap), listed.size = ops.size → ((List.range ops.size).filter fun i => !listed.getD i true).length ≤ fuel →
      Down ops.toList (fun i => listed.getD i false) → St G N E1 H1 a w → (∀ t, E1.get t = spE E l (fun i => listed.getD i false) ops.size t) → (∀ j, H1.get j = spH H l (fun i => listed.getD i false) ops.size j) →
      wpAny P .any ops (fun e a w => ∃ E H, Q e E H ∧ St G N E H a w) fuel listed a w := by
    intro fuel
    induction fuel with
    | zero =>
      intro listed a w E1 H1 hsz hcnt hdown hst1 hE1 hH1
      have hall : ∀ i, i < ops.size → listed.getD i false = true := by
        intro i hi
        have hnil := List.eq_nil_of_length_eq_zero (Nat.le_zero.1 hcnt)
        have := List.filter_eq_nil_iff.1 hnil i (List.mem_range.2 hi)
        have hi' : i < listed.size := by omega
        simp [Array.getD, hi'] at this ⊢
        exact this
      refine ⟨?_, E', H', hK, ?_⟩
      · unfold Region.ready
        refine List.filter_eq_nil_iff.2 fun i hi => ?_
        have := hall i (List.mem_range.1 hi)
        have hi' : i < listed.size := by have := List.mem_range.1 hi; omega
        simp [Array.getD, hi'] at this
        simp [Array.getD, hi', this]
      · refine Ent.get (G0 := G0) (fun t => ?_) (fun j => ?_) G hG N a w hst1
        · rw [hE' t, hE1 t, Array.length_toList]
          exact (spE_agree (E := E) ops.size ops.size (Nat.le_refl _) (fun j x hj _ => ⟨fun hlt => hall j hlt, fun h1 h2 => by omega⟩)).symm
        · rw [hH' j, hH1 j, Array.length_toList]
          exact (spH_agree (H := H) ops.size ops.size (Nat.le_refl _) (fun i x hi _ => ⟨fun hlt => hall i hlt, fun h1 h2 => by omega⟩)).symm
    | succ fuel ih =>
      intro listed a w E1 H1 hsz hcnt hdown hst1 hE1 hH1
      refine ⟨fun hnil => ?_, fun i hi => ?_⟩
      · -- nothing is left
        have hall : ∀ i, i < ops.size → listed.getD i false = true := by
          intro i
          induction i using Nat.strongRecOn with
          | _ i ihi =>
            intro hi
            refine Classical.byContradiction fun hno => ?_
            have hi' : i < listed.size := by omega
            have hno' : listed.getD i true = false := by
              simp [Array.getD, hi'] at hno ⊢
              exact hno
            have hlt : i < ops.toList.length := by simpa using hi
            have hr : i ∈ Region.ready .any ops listed := by
              unfold Region.ready
              refine List.mem_filter.2 ⟨List.mem_range.2 hi, ?_⟩
              have ho : ops[i]? = some ops[i] := Array.getElem?_eq_getElem hi
              simp only [hno', Bool.not_false, Bool.true_and, ho, Option.map_some, Option.getD_some]
              rw [Array.all_eq_true']
              intro e he
              cases hb : Region.binds .any e with
              | false => simp
              | true =>
                have hon := hedge i ops[i] (by simp [ho]) e (by simpa using he) hb
                simp only [Bool.not_true, Bool.false_or]
                exact ihi e.on (by omega) (by omega)
            rw [hnil] at hr
            cases hr
        refine ⟨E', H', hK, ?_⟩
        refine Ent.get (G0 := G0) (fun t => ?_) (fun j => ?_) G hG N a w hst1
        · rw [hE' t, hE1 t, Array.length_toList]
          exact (spE_agree (E := E) ops.size ops.size (Nat.le_refl _) (fun j x hj _ => ⟨fun hlt => hall j hlt, fun h1 h2 => by omega⟩)).symm
        · rw [hH' j, hH1 j, Array.length_toList]
          exact (spH_agree (H := H) ops.size ops.size (Nat.le_refl _) (fun i x hi _ => ⟨fun hlt => hall i hlt, fun h1 h2 => by omega⟩)).symm
      · -- operation i comes up
        have hi1 := List.mem_filter.1 hi
        have hilt : i < ops.size := List.mem_range.1 hi1.1
        have hi' : i < listed.size := by omega
        have ho : ops[i]? = some ops[i] := Array.getElem?_eq_getElem hilt
        have hi2 := hi1.2
        simp only [ho, Option.map_some, Option.getD_some, Bool.and_eq_true] at hi2
        obtain ⟨hnl, hpreds⟩ := hi2
        have hnl' : listed.getD i false = false := by
          simp [Array.getD, hi'] at hnl ⊢
          exact hnl
        have hpre : ∀ e ∈ (ops[i]).after.toList, Region.binds .any e = true → listed.getD e.on false = true := by
          intro e he hb
          have := (Array.all_eq_true'.1 hpreds) e (by simpa using he)
          simpa [hb] using this
        have hil : i < l.length := by omega
        obtain ⟨x, hx⟩ : ∃ x, l[i]? = some x := ⟨_, List.getElem?_eq_getElem hil⟩
        have hxo : x.o = ops[i] := by
          have := hlo i x hx
          simp [ho] at this
          exact this.symm
        obtain ⟨hdok, Ek, Hk, hEk, hHk, hdst⟩ := hst i x hx
        -- what stands before it is done, what stands behind it is not
        have hbefore : ∀ (j : Nat) (y : Ent2), j < i → l[j]? = some y → clash ops.toList y x = true → listed.getD j false = true := by
          intro j y hj hy hcl
          exact hbef j i y x hj hy hx hcl _ hdown ops[i] (by simp [ho]) hpre
        have hbehind : ∀ (j : Nat) (y : Ent2), i < j → l[j]? = some y → clash ops.toList x y = true → listed.getD j false = false := by
          intro j y hj hy hcl
          cases hjl : listed.getD j false with
          | false => rfl
          | true =>
            have hjlt : j < l.length := (List.getElem?_eq_some_iff.1 hy).1
            have hjo : ops.toList[j]? = some y.o := hlo j y hy
            have := hbef i j x y hj hx hy hcl _ hdown y.o hjo (fun e he hb => hdown j y.o hjo hjl e he hb)
            rw [hnl'] at this
            cases this
        have agreeE : ∀ t, (∀ (j : Nat) (y : Ent2), l[j]? = some y → y.o.dst = some t → (j < i → clash ops.toList y x = true) ∧ (i < j → clash ops.toList x y = true)) → E1.get t = Ek.get t := by
          intro t ht
          rw [hE1 t, hEk t]
          refine spE_agree (E := E) ops.size i (by omega) (fun j y hj hd => ⟨fun hlt => hbefore j y hlt hj ((ht j y hj hd).1 hlt), fun h1 h2 => ?_⟩)
          by_cases e : j = i
          · subst e; exact hnl'
          · exact hbehind j y (by omega) hj ((ht j y hj hd).2 (by omega))
        have agreeH : ∀ k, (∀ (j : Nat) (y : Ent2), l[j]? = some y → (y.r.W.get k).isSome = true → (j < i → clash ops.toList y x = true) ∧ (i < j → clash ops.toList x y = true)) → H1.get k = Hk.get k := by
          intro k hk
          rw [hH1 k, hHk k]
          refine spH_agree (H := H) ops.size i (by omega) (fun j y hj hd => ⟨fun hlt => hbefore j y hlt hj ((hk j y hj hd).1 hlt), fun h1 h2 => ?_⟩)
          by_cases e : j = i
          · subst e; exact hnl'
          · exact hbehind j y (by omega) hj ((hk j y hj hd).2 (by omega))
        have hlooks : ∀ t, t ∈ olooks ops.toList x.o → E1.get t = Ek.get t := fun t ht =>
          agreeE t fun j y hj hd => ⟨fun _ => clash_dst_looks hd ht, fun _ => clash_looks_dst hd ht⟩
        have hreads : ∀ k, memR x.r.R k = true → H1.get k = Hk.get k := fun k hk =>
          agreeH k fun j y hj hd => ⟨fun _ => clash_W_R hd hk, fun _ => clash_R_W hd hk⟩
        -- the next state
        have hlist : ∀ j, (listed.setIfInBounds i true).getD j false = if j = i then true else listed.getD j false := by
          intro j
          by_cases e : j = i
          · subst e; simp [Array.getD, hi']
          · simp only [Array.getD_eq_getD_getElem?, Array.getElem?_setIfInBounds_ne (Ne.symm e), e, if_false]
        have hdown' : Down ops.toList (fun j => (listed.setIfInBounds i true).getD j false) := by
          intro j o hj hjl e he hb
          simp only [hlist] at hjl ⊢
          by_cases ej : j = i
          · subst ej
            have : o = ops[j] := by simp [ho] at hj; exact hj.symm
            subst this
            have := hpre e he hb
            simp [this]
          · simp only [ej, if_false] at hjl
            have := hdown j o hj hjl e he hb
            simp only at this
            simp [this]
        have hcnt' : ((List.range ops.size).filter fun j => !(listed.setIfInBounds i true).getD j true).length ≤ fuel := by
          have hlist' : ∀ j, (listed.setIfInBounds i true).getD j true = if j = i then true else listed.getD j true := by
            intro j
            by_cases e : j = i
            · subst e; simp [Array.getD, hi']
            · simp only [Array.getD_eq_getD_getElem?, Array.getElem?_setIfInBounds_ne (Ne.symm e), e, if_false]
          have h1 : ((List.range ops.size).filter fun j => !(listed.setIfInBounds i true).getD j true) = ((List.range ops.size).filter fun j => !listed.getD j true).filter fun j => j != i := by
            rw [List.filter_filter]
            refine List.filter_congr fun j _ => ?_
            rw [hlist']
            by_cases e : j = i <;> simp [e]
          rw [h1]
          have h2 := List.length_filter_lt_length_iff_exists (p := fun j => j != i) (l := (List.range ops.size).filter fun j => !listed.getD j true) |>.2 ⟨i, List.mem_filter.2 ⟨hi1.1, by simpa using hnl⟩, by simp⟩
          omega
        have next : ∀ (r : AV) (a' : Act) (w' : World), r = x.r.v → St G N (putd E1 x.o.dst x.r.v) (x.r.W ++ H1) a' w' → wpAny P .any ops (fun e a w => ∃ E H, Q e E H ∧ St G N E H a w) fuel (listed.setIfInBounds i true) a' w' := by
          intro r a' w' _ hst'
          refine ih _ a' w' _ _ (by simp [hsz]) hcnt' hdown' hst' (fun t => ?_) (fun k => ?_)
          · -- slots
            by_cases hd : x.o.dst = some t
            · have e1 : Env.get (putd E1 x.o.dst x.r.v) t = some x.r.v := by rw [hd]; simp [putd, Env.get_cons_same]
              rw [e1]
              have e2 := spE_agree (E := E) (l := l) (S := fun j => (listed.setIfInBounds i true).getD j false) (t := t) ops.size (i + 1) (by omega) (fun j y hj hyd => ⟨fun hlt => ?_, fun h1 h2 => ?_⟩)
              · rw [e2, spE, hx]
                simp [hd]
              · simp only [hlist]
                by_cases ej : j = i
                · simp [ej]
                · simp only [ej, if_false]
                  exact hbefore j y (by omega) hj (clash_dst_dst hyd hd)
              · simp only [hlist]
                rw [if_neg (by omega)]
                exact hbehind j y (by omega) hj (clash_dst_dst hd hyd)
            · have e1 : Env.get (putd E1 x.o.dst x.r.v) t = E1.get t := by
                cases hdd : x.o.dst with
                | none => rfl
                | some d => exact Env.get_cons_other _ _ (fun e => hd (by rw [hdd, e]))
              rw [e1, hE1 t]
              have : ∀ n, spE E l (fun i => listed.getD i false) n t = spE E l (fun j => (listed.setIfInBounds i true).getD j false) n t := by
                intro n
                induction n with
                | zero => rfl
                | succ n ihn =>
                  rw [spE, spE]
                  cases hn : l[n]? with
                  | none => exact ihn
                  | some y =>
                    simp only
                    by_cases en : n = i
                    · subst en
                      rw [hx] at hn; cases hn
                      rw [if_neg (fun h => hd h.2), if_neg (fun h => hd h.2)]
                      exact ihn
                    · have hS : (listed.setIfInBounds i true).getD n false = listed.getD n false := by rw [hlist, if_neg en]
                      rw [hS, ihn]
              exact this _
          · -- objects
            rw [get_app]
            by_cases hd : (x.r.W.get k).isSome = true
            · obtain ⟨ob, hob⟩ := Option.isSome_iff_exists.1 hd
              rw [hob]
              have e2 := spH_agree (H := H) (l := l) (S := fun j => (listed.setIfInBounds i true).getD j false) (id := k) ops.size (i + 1) (by omega) (fun j y hj hyd => ⟨fun hlt => ?_, fun h1 h2 => ?_⟩)
              · rw [e2, spH, hx]
                simp [hob]
              · simp only [hlist]
                by_cases ej : j = i
                · simp [ej]
                · simp only [ej, if_false]
                  exact hbefore j y (by omega) hj (clash_W_W hyd hd)
              · simp only [hlist]
                rw [if_neg (by omega)]
                exact hbehind j y (by omega) hj (clash_W_W hd hyd)
            · have hnone : x.r.W.get k = none := by simpa using hd
              rw [hnone]
              simp only
              rw [hH1 k]
              have : ∀ n, spH H l (fun i => listed.getD i false) n k = spH H l (fun j => (listed.setIfInBounds i true).getD j false) n k := by
                intro n
                induction n with
                | zero => rfl
                | succ n ihn =>
                  rw [spH, spH]
                  cases hn : l[n]? with
                  | none => exact ihn
                  | some y =>
                    simp only
                    by_cases en : n = i
                    · subst en
                      rw [hx] at hn; cases hn
                      rw [if_neg (fun h => hd h.2), if_neg (fun h => hd h.2)]
                      exact ihn
                    · have hS : (listed.setIfInBounds i true).getD n false = listed.getD n false := by rw [hlist, if_neg en]
                      rw [hS, ihn]
              exact this _
        -- the operation itself
        unfold wpOp
        simp only [ho]
        rw [hxo] at hdst hlooks hdok
        rw [hxo] at next
        have hgE : ∀ (j : Nat) (want : Bool) (t : Tmp) (b : Bool), (ops[i]).guard = some (j, want) → gslot ops.toList j = some t → Ek.get t = some (.pv (.bool b)) → yielded ops a.tmps j = some b := by
          intro j want t b hg hj hb
          have hmem : t ∈ olooks ops.toList ops[i] := by simp [olooks, hg, hj]
          exact guard_yields (E := E1) hj ((hlooks t hmem).trans hb) hst1.rel.choose_spec.choose_spec.2.2
        cases hdst with
        | plain hg h =>
          have hw : Region.wanted ops[i] (yielded ops a.tmps) = true := by simp [Region.wanted, hg]
          simp only [hw, if_true]
          refine .inl (hst1.op hdok ((h H1 hreads).restr hlooks) ?_)
          rintro r H2 a' w' ⟨rfl, rfl⟩ hs'
          exact next _ a' w' rfl hs'
        | on j want t b hg hj hb hw h =>
          have hy := hgE j want t b hg hj hb
          have hw : Region.wanted ops[i] (yielded ops a.tmps) = true := by simp [Region.wanted, hg, hy, hw]
          simp only [hw, if_true]
          refine .inl (hst1.op hdok ((h H1 hreads).restr hlooks) ?_)
          rintro r H2 a' w' ⟨rfl, rfl⟩ hs'
          exact next _ a' w' rfl hs'
        | off j want t x' hg hj hb hw hv hW =>
          have hmem : t ∈ olooks ops.toList ops[i] := by simp [olooks, hg, hj]
          have hw : Region.wanted ops[i] (yielded ops a.tmps) = false :=
            guard_off (E := E1) hg hj ((hlooks t hmem).trans hb) hw hst1.rel.choose_spec.choose_spec.2.2
          simp only [hw, Bool.false_eq_true, if_false]
          refine next (.tup []) _ w hv.symm ?_
          obtain ⟨I, ι, hr, hst2, he⟩ := hst1.rel
          rw [hv, hW]
          refine ⟨?_, ?_, I, ι, hr, hst2, ERel.put hr (Step.refl _ _ _ _) he ERel.skip (by rw [hst1.size]; exact hdok)⟩
          · have := hst1.defers
            cases (ops[i]).dst <;> simpa [Act.put] using this
          · have := hst1.size
            cases (ops[i]).dst <;> simpa [Act.put] using this
  have hs' : St G N E H a { w with drawn := w.drawn + 1 } := by
    obtain ⟨I, ι, hr, hst2, he⟩ := hs.rel
    obtain ⟨k2, k3⟩ := hr.drawn (w' := { w with drawn := w.drawn + 1 }) rfl rfl rfl rfl
    exact ⟨hs.defers, hs.size, I, ι, k2, hst2.trans k3, fun t v ht => let ⟨c, h1, h2⟩ := he t v ht; ⟨c, h1, h2.mono hr k3⟩⟩
  refine main ops.size (Array.replicate ops.size false) a _ E H (by simp) (by
    have := List.length_filter_le (fun i => !(Array.replicate ops.size false).getD i true) (List.range ops.size)
    simpa using this) (fun j o hj hjl => by simp [Array.getD] at hjl) hs' (fun t => ?_) (fun k => ?_)
  · have : ∀ n, spE E l (fun i => (Array.replicate ops.size false).getD i false) n t = E.get t := by
      intro n
      induction n with
      | zero => rfl
      | succ n ihn =>
        rw [spE]
        cases l[n]? with
        | none => exact ihn
        | some y =>
          have hf : (Array.replicate ops.size false).getD n false = false := by simp [Array.getD]
          simp only [hf, Bool.false_eq_true, false_and, if_false]
          exact ihn
    exact (this _).symm
  · have : ∀ n, spH H l (fun i => (Array.replicate ops.size false).getD i false) n k = H.get k := by
      intro n
      induction n with
      | zero => rfl
      | succ n ihn =>
        rw [spH]
        cases l[n]? with
        | none => exact ihn
        | some y =>
          have hf : (Array.replicate ops.size false).getD n false = false := by simp [Array.getD]
          simp only [hf, Bool.false_eq_true, false_and, if_false]
          exact ihn
    exact (this _).symm
end Go.Abs
