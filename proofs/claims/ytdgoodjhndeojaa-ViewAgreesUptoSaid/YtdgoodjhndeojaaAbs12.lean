/-
  THE ABSTRACT LOGIC, 12: calls that only read: owned slices are lent to them. Conditions: none.
-/
import Derived.Test.YtdgoodjhndeojaaAbs11
set_option linter.unusedVariables false
namespace Go.Abs
def flatP : PV → Bool
  | .int _ _ => true
  | .bool _ => true
  | .str _ => true
  | _ => false
theorem PRep.flat {w w' : World} {I I' : Nat → Prop} {v : Value} {p : PV} (h : PRep w I v p) (hf : flatP p = true) : PRep w' I' v p := by
  cases h <;> first | (constructor; done) | (simp [flatP] at hf; done)
/-- A call that only reads. -/
def RO (P : Program) (f : FuncId) (args : List AV) (H : Heap) (p : PV) : Prop :=
  ∀ (I : Nat → Prop) (ι : Plc) (w : World) (vs : Array Value), Rel I ι H w → vs.size = args.length → (∀ (i : Nat) (v : Value) (a : AV), vs[i]? = some v → args[i]? = some a → VRel w I ι H v a) →
    Calls P f vs w fun e w' => ∃ v, e = .returned v ∧ (∀ w2 I2, PRep w2 I2 v p) ∧ w'.os = w.os ∧ w'.tape = w.tape ∧ w'.output = w.output ∧ w.heap.size ≤ w'.heap.size ∧
      (∀ a, a.block < w.heap.size → w'.frozen? a = w.frozen? a) ∧ ∀ b, b < w.heap.size → w'.heap[b]? = w.heap[b]?
theorem RO.of {P : Program} {f : FuncId} {args : List AV} {p : PV} (h : ACalls P f args [] (fun r H => r = .pv p ∧ H = [])) (hf : flatP p = true) : RO P f args [] p := by
  intro I ι w vs hr hl hv
  refine (h I ι w vs hr hl hv).mono ?_
  rintro e w' ⟨r, H', I', ι', v, rfl, ⟨rfl, rfl⟩, k1, k2, k3⟩
  have hno : ∀ b, ¬ Own ι [] b := fun b ⟨_, _, _, hx, _⟩ => by cases hx
  exact ⟨v, rfl, fun w2 I2 => k1.pv_inv.flat hf, k3.os, k3.tape, k3.output, k3.size, k3.froz, fun b hb => k3.keep b hb (hno b)⟩
theorem RO.frame {P : Program} {f : FuncId} {args : List AV} {p : PV} (h : RO P f args [] p) (hp : ∀ a ∈ args, Clo [] a) (H : Heap) : RO P f args H p := by
  intro I ι w vs hr hl hv
  have hs : Sub [] H := fun _ _ h => by cases h
  have hc : Closed [] := fun _ _ h => by cases h
  exact h I ι w vs (hr.restrict hs hc) hl (fun i v a h1 h2 => (hv i v a h1 h2).restrict hs (hp a (List.mem_of_getElem? h2)))
/-- An owned slice is lent. -/
theorem RO.lend {P : Program} {f : FuncId} {args args' : List AV} {p : PV} {H H1 : Heap} {id : Nat} {ob : Ob} (ps : List (List PV)) (h : RO P f args' H1 p) (hH : H.get id = some ob) (hps : ob.rows = ps.map (·.map .pv)) (hl : args.length = args'.length)
    (hz : ∀ (i : Nat) (a a' : AV), args[i]? = some a → args'[i]? = some a' → Fz H1 id ob.g ps a a') (hs : Sub H1 H) (hc : Closed H1) (hno : H1.get id = none) : RO P f args H p := by
  intro I ι w vs hr hlen hv
  refine h (ImmPlus I ι id) ι w vs (hr.freeze hs hc hH hno) (by omega) ?_
  intro i v a' hi ha'
  have hlt : i < args.length := by
    have := (List.getElem?_eq_some_iff.1 ha').1
    omega
  exact VRel.freeze hr hs hH hps (hz i _ a' (List.getElem?_eq_getElem hlt) ha') (hv i v _ hi (List.getElem?_eq_getElem hlt))
theorem RO.calls {P : Program} {f : FuncId} {args : List AV} {p : PV} {H : Heap} (h : RO P f args H p) : ACalls P f args H (fun r H' => r = .pv p ∧ H' = H) := by
  intro I ι w vs hr hl hv
  refine (h I ι w vs hr hl hv).mono ?_
  rintro e w' ⟨v, rfl, h1, h2, h3, h4, h5, h6, h7⟩
  have hst : Step I ι H w I ι H w' :=
    ⟨h2, h3, h4, h5, h6, fun _ h => h, fun _ h => .inl h, fun _ h => .inl h, fun b hb _ => h7 b hb, fun id o ho => ⟨o, ho, Nat.le_refl _, fun _ => ⟨rfl, rfl, fun _ => Nat.le_refl _⟩⟩⟩
  refine ⟨.pv p, H, I, ι, v, rfl, ⟨rfl, rfl⟩, .pv (h1 _ _), ?_, hst⟩
  refine ⟨fun b hb => Nat.lt_of_lt_of_le (hr.imm b hb) h5, fun id o ho => ?_, hr.inj⟩
  exact (hr.obj id o ho).keep rfl (fun b' _ _ hlt => ⟨h7 b' hlt, fun h => h⟩) (fun r _ a _ v hv => hv.mono hr hst)
theorem awp_loop2 {P : Program} {G0 : Heap} {N : Nat} {Q : Exit → Env → Heap → Prop} {E : Env} {H : Heap} {cc : Code} {α β : Type} (S : α → β → Env × Heap) (J : α → β → Prop) (μ : α → β → Nat) (a0 : α) (b0 : β) (h0 : J a0 b0) (hin : Ent G0 E H (S a0 b0).1 (S a0 b0).2)
    (round : ∀ a b, J a b → AWp P G0 N cc (AThen (fun E' H' => ∃ a' b', J a' b' ∧ μ a' b' < μ a b ∧ Ent G0 E' H' (S a' b').1 (S a' b').2) Q) (S a b).1 (S a b).2) : AWp P G0 N (.loop cc) Q E H := by
  refine awp_loop (σ := α × β) (fun s => S s.1 s.2) (fun s => J s.1 s.2) (fun s => μ s.1 s.2) (a0, b0) h0 hin ?_
  intro s hs
  have h := round s.1 s.2 hs
  have e : (fun (E' : Env) (H' : Heap) => ∃ s' : α × β, J s'.1 s'.2 ∧ μ s'.1 s'.2 < μ s.1 s.2 ∧ Ent G0 E' H' (S s'.1 s'.2).1 (S s'.1 s'.2).2) = (fun E' H' => ∃ a' b', J a' b' ∧ μ a' b' < μ s.1 s.2 ∧ Ent G0 E' H' (S a' b').1 (S a' b').2) := by
    funext E' H'
    exact propext ⟨fun ⟨s', h⟩ => ⟨s'.1, s'.2, h⟩, fun ⟨a', b', h⟩ => ⟨(a', b'), h⟩⟩
  rw [e]; exact h
theorem awp_loop3 {P : Program} {G0 : Heap} {N : Nat} {Q : Exit → Env → Heap → Prop} {E : Env} {H : Heap} {cc : Code} {α β γ : Type} (S : α → β → γ → Env × Heap) (J : α → β → γ → Prop) (μ : α → β → γ → Nat) (a0 : α) (b0 : β) (c0 : γ) (h0 : J a0 b0 c0) (hin : Ent G0 E H (S a0 b0 c0).1 (S a0 b0 c0).2)
    (round : ∀ a b c, J a b c → AWp P G0 N cc (AThen (fun E' H' => ∃ a' b' c', J a' b' c' ∧ μ a' b' c' < μ a b c ∧ Ent G0 E' H' (S a' b' c').1 (S a' b' c').2) Q) (S a b c).1 (S a b c).2) : AWp P G0 N (.loop cc) Q E H := by
  refine awp_loop (σ := α × β × γ) (fun s => S s.1 s.2.1 s.2.2) (fun s => J s.1 s.2.1 s.2.2) (fun s => μ s.1 s.2.1 s.2.2) (a0, b0, c0) h0 hin ?_
  intro s hs
  have h := round s.1 s.2.1 s.2.2 hs
  have e : (fun (E' : Env) (H' : Heap) => ∃ s' : α × β × γ, J s'.1 s'.2.1 s'.2.2 ∧ μ s'.1 s'.2.1 s'.2.2 < μ s.1 s.2.1 s.2.2 ∧ Ent G0 E' H' (S s'.1 s'.2.1 s'.2.2).1 (S s'.1 s'.2.1 s'.2.2).2) = (fun E' H' => ∃ a' b' c', J a' b' c' ∧ μ a' b' c' < μ s.1 s.2.1 s.2.2 ∧ Ent G0 E' H' (S a' b' c').1 (S a' b' c').2) := by
    funext E' H'
    exact propext ⟨fun ⟨s', h⟩ => ⟨s'.1, s'.2.1, s'.2.2, h⟩, fun ⟨a', b', c', h⟩ => ⟨(a', b', c'), h⟩⟩
  rw [e]; exact h
theorem awp_loop4 {P : Program} {G0 : Heap} {N : Nat} {Q : Exit → Env → Heap → Prop} {E : Env} {H : Heap} {cc : Code} {α β γ δ : Type} (S : α → β → γ → δ → Env × Heap) (J : α → β → γ → δ → Prop) (μ : α → β → γ → δ → Nat) (a0 : α) (b0 : β) (c0 : γ) (d0 : δ) (h0 : J a0 b0 c0 d0) (hin : Ent G0 E H (S a0 b0 c0 d0).1 (S a0 b0 c0 d0).2)
    (round : ∀ a b c d, J a b c d → AWp P G0 N cc (AThen (fun E' H' => ∃ a' b' c' d', J a' b' c' d' ∧ μ a' b' c' d' < μ a b c d ∧ Ent G0 E' H' (S a' b' c' d').1 (S a' b' c' d').2) Q) (S a b c d).1 (S a b c d).2) : AWp P G0 N (.loop cc) Q E H := by
  refine awp_loop (σ := α × β × γ × δ) (fun s => S s.1 s.2.1 s.2.2.1 s.2.2.2) (fun s => J s.1 s.2.1 s.2.2.1 s.2.2.2) (fun s => μ s.1 s.2.1 s.2.2.1 s.2.2.2) (a0, b0, c0, d0) h0 hin ?_
  intro s hs
  have h := round s.1 s.2.1 s.2.2.1 s.2.2.2 hs
  have e : (fun (E' : Env) (H' : Heap) => ∃ s' : α × β × γ × δ, J s'.1 s'.2.1 s'.2.2.1 s'.2.2.2 ∧ μ s'.1 s'.2.1 s'.2.2.1 s'.2.2.2 < μ s.1 s.2.1 s.2.2.1 s.2.2.2 ∧ Ent G0 E' H' (S s'.1 s'.2.1 s'.2.2.1 s'.2.2.2).1 (S s'.1 s'.2.1 s'.2.2.1 s'.2.2.2).2) = (fun E' H' => ∃ a' b' c' d', J a' b' c' d' ∧ μ a' b' c' d' < μ s.1 s.2.1 s.2.2.1 s.2.2.2 ∧ Ent G0 E' H' (S a' b' c' d').1 (S a' b' c' d').2) := by
    funext E' H'
    exact propext ⟨fun ⟨s', h⟩ => ⟨s'.1, s'.2.1, s'.2.2.1, s'.2.2.2, h⟩, fun ⟨a', b', c', d', h⟩ => ⟨(a', b', c', d'), h⟩⟩
  rw [e]; exact h
theorem awp_loop5 {P : Program} {G0 : Heap} {N : Nat} {Q : Exit → Env → Heap → Prop} {E : Env} {H : Heap} {cc : Code} {α β γ δ ε : Type} (S : α → β → γ → δ → ε → Env × Heap) (J : α → β → γ → δ → ε → Prop) (μ : α → β → γ → δ → ε → Nat) (a0 : α) (b0 : β) (c0 : γ) (d0 : δ) (e0 : ε) (h0 : J a0 b0 c0 d0 e0) (hin : Ent G0 E H (S a0 b0 c0 d0 e0).1 (S a0 b0 c0 d0 e0).2)
    (round : ∀ a b c d e, J a b c d e → AWp P G0 N cc (AThen (fun E' H' => ∃ a' b' c' d' e', J a' b' c' d' e' ∧ μ a' b' c' d' e' < μ a b c d e ∧ Ent G0 E' H' (S a' b' c' d' e').1 (S a' b' c' d' e').2) Q) (S a b c d e).1 (S a b c d e).2) : AWp P G0 N (.loop cc) Q E H := by
  refine awp_loop (σ := α × β × γ × δ × ε) (fun s => S s.1 s.2.1 s.2.2.1 s.2.2.2.1 s.2.2.2.2) (fun s => J s.1 s.2.1 s.2.2.1 s.2.2.2.1 s.2.2.2.2) (fun s => μ s.1 s.2.1 s.2.2.1 s.2.2.2.1 s.2.2.2.2) (a0, b0, c0, d0, e0) h0 hin ?_
  intro s hs
  have h := round s.1 s.2.1 s.2.2.1 s.2.2.2.1 s.2.2.2.2 hs
  have e : (fun (E' : Env) (H' : Heap) => ∃ s' : α × β × γ × δ × ε, J s'.1 s'.2.1 s'.2.2.1 s'.2.2.2.1 s'.2.2.2.2 ∧ μ s'.1 s'.2.1 s'.2.2.1 s'.2.2.2.1 s'.2.2.2.2 < μ s.1 s.2.1 s.2.2.1 s.2.2.2.1 s.2.2.2.2 ∧ Ent G0 E' H' (S s'.1 s'.2.1 s'.2.2.1 s'.2.2.2.1 s'.2.2.2.2).1 (S s'.1 s'.2.1 s'.2.2.1 s'.2.2.2.1 s'.2.2.2.2).2) = (fun E' H' => ∃ a' b' c' d' e', J a' b' c' d' e' ∧ μ a' b' c' d' e' < μ s.1 s.2.1 s.2.2.1 s.2.2.2.1 s.2.2.2.2 ∧ Ent G0 E' H' (S a' b' c' d' e').1 (S a' b' c' d' e').2) := by
    funext E' H'
    exact propext ⟨fun ⟨s', h⟩ => ⟨s'.1, s'.2.1, s'.2.2.1, s'.2.2.2.1, s'.2.2.2.2, h⟩, fun ⟨a', b', c', d', e', h⟩ => ⟨(a', b', c', d', e'), h⟩⟩
  rw [e]; exact h
theorem clo_map {α : Type} (f : α → List PV) (l : List α) (H : Heap) : ∀ r ∈ l.map (fun e => (f e).map AV.pv), ∀ a ∈ r, Clo H a := by
  intro r hr a ha
  obtain ⟨e, _, rfl⟩ := List.mem_map.1 hr
  obtain ⟨p, _, rfl⟩ := List.mem_map.1 ha
  exact .pv p
/-- Arguments by pairs. -/
theorem fz_nil {H : Heap} {id g : Nat} {ps : List (List PV)} : ∀ (i : Nat) (a a' : AV), ([] : List AV)[i]? = some a → ([] : List AV)[i]? = some a' → Fz H id g ps a a' := fun i a a' h => by cases h
theorem fz_cons {H : Heap} {id g : Nat} {ps : List (List PV)} {x x' : AV} {l l' : List AV} (h : Fz H id g ps x x') (hr : ∀ (i : Nat) (a a' : AV), l[i]? = some a → l'[i]? = some a' → Fz H id g ps a a') :
    ∀ (i : Nat) (a a' : AV), (x :: l)[i]? = some a → (x' :: l')[i]? = some a' → Fz H id g ps a a'
  | 0, a, a', h1, h2 => by cases h1; cases h2; exact h
  | i + 1, a, a', h1, h2 => hr i a a' h1 h2
end Go.Abs
