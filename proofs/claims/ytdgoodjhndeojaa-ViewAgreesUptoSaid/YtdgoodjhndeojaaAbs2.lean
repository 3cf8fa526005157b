/-
  THE ABSTRACT LOGIC, ITS JUDGEMENTS AND THE RULES OF CONTROL: 'AWp' (a statement), 'AL' (the operations of a region), 'OpD' and 'OpR' (one operation), 'ACalls' (a call).
  Conditions: none.
-/
import Derived.Test.YtdgoodjhndeojaaAbs1
import Derived.Deep.LoopGhost
import Derived.Orders
set_option linter.unusedVariables false
set_option linter.unusedSimpArgs false
namespace Go.Abs

def ERel (w : World) (I : Nat → Prop) (ι : Plc) (H : Heap) (E : Env) (a : Act) : Prop := ∀ t v, E.get t = some v → ∃ c, a.tmps[t]? = some c ∧ VRel w I ι H c v

structure Entry where
  I : Nat → Prop
  ι : Plc
  H : Heap
  w : World

structure St (G : Entry) (N : Nat) (E : Env) (H : Heap) (a : Act) (w : World) : Prop where
  defers : a.defers = []
  size : a.tmps.size = N
  rel : ∃ I ι, Rel I ι H w ∧ Step G.I G.ι G.H G.w I ι H w ∧ ERel w I ι H E a

/-- A statement, from an abstract state. 'G0': the heap that the call was handed. -/
def AWp (P : Program) (G0 : Heap) (N : Nat) (c : Code) (Q : Exit → Env → Heap → Prop) (E : Env) (H : Heap) : Prop :=
  ∀ G : Entry, G.H = G0 → ∀ a w, St G N E H a w → c.wp P (fun e a w => ∃ E H, Q e E H ∧ St G N E H a w) a w

/-- One state says what another one says. -/
def Ent (G0 : Heap) (E : Env) (H : Heap) (E' : Env) (H' : Heap) : Prop := ∀ G : Entry, G.H = G0 → ∀ N a w, St G N E H a w → St G N E' H' a w

/-- A call: the arguments' values, the heap that it is handed; what it returns, and the heap behind it. -/
def ACalls (P : Program) (f : FuncId) (args : List AV) (H : Heap) (Q : AV → Heap → Prop) : Prop :=
  ∀ (I : Nat → Prop) (ι : Plc) (w : World) (vs : Array Value), Rel I ι H w → vs.size = args.length → (∀ (i : Nat) (v : Value) (a : AV), vs[i]? = some v → args[i]? = some a → VRel w I ι H v a) →
    Calls P f vs w fun e w' => ∃ r H' I' ι' v, e = .returned v ∧ Q r H' ∧ VRel w' I' ι' H' v r ∧ Rel I' ι' H' w' ∧ Step I ι H w I' ι' H' w'

theorem ACalls.mono {P : Program} {f : FuncId} {args : List AV} {H : Heap} {Q Q' : AV → Heap → Prop} (h : ACalls P f args H Q) (hq : ∀ r H', Q r H' → Q' r H') : ACalls P f args H Q' :=
  fun I ι w vs hr hl hv => (h I ι w vs hr hl hv).mono fun _ _ ⟨r, H', I', ι', v, e, q, rest⟩ => ⟨r, H', I', ι', v, e, hq _ _ q, rest⟩

section control
variable {P : Program} {G0 : Heap} {N : Nat} {Q : Exit → Env → Heap → Prop} {E : Env} {H : Heap}

theorem AWp.mono {c : Code} {Q' : Exit → Env → Heap → Prop} (h : AWp P G0 N c Q E H) (hq : ∀ e E H, Q e E H → Q' e E H) : AWp P G0 N c Q' E H :=
  fun G hG a w hs => wp_mono (h G hG a w hs) fun _ _ _ ⟨E, H, q, s⟩ => ⟨E, H, hq _ _ _ q, s⟩
theorem AWp.ent {c : Code} {E' : Env} {H' : Heap} (he : Ent G0 E H E' H') (h : AWp P G0 N c Q E' H') : AWp P G0 N c Q E H :=
  fun G hG a w hs => h G hG a w (he G hG N a w hs)
theorem awp_skip (h : Q .normal E H) : AWp P G0 N .skip Q E H := fun _ _ _ _ hs => wp_skip ⟨E, H, h, hs⟩
theorem awp_label {l : Nat} (h : Q .normal E H) : AWp P G0 N (.label l) Q E H := fun _ _ _ _ hs => wp_label ⟨E, H, h, hs⟩
theorem awp_ret (h : Q .ret E H) : AWp P G0 N .ret Q E H := fun _ _ _ _ hs => wp_ret ⟨E, H, h, hs⟩
theorem awp_exit {id : Nat} (h : Q (.exit id) E H) : AWp P G0 N (.exit id) Q E H := fun _ _ _ _ hs => wp_exit ⟨E, H, h, hs⟩

/-- Behind a statement that ended in its ordinary way: K; else Q. -/
def AThen (K : Env → Heap → Prop) (Q : Exit → Env → Heap → Prop) : Exit → Env → Heap → Prop
  | .normal, E, H => K E H
  | e, E, H => Q e E H

theorem awp_seq {x y : Code} (h : AWp P G0 N x (AThen (AWp P G0 N y Q) Q) E H) : AWp P G0 N (.seq x y) Q E H := by
  intro G hG a w hs
  refine wp_seq (wp_mono (h G hG a w hs) ?_)
  rintro e a' w' ⟨E', H', q, s⟩
  cases e <;> first | exact q G hG a' w' s | exact ⟨E', H', q, s⟩
/-- The state between two statements is given. -/
theorem awp_seq_to {x y : Code} (E' : Env) (H' : Heap) (h : AWp P G0 N x (AThen (fun E1 H1 => Ent G0 E1 H1 E' H') Q) E H) (h' : AWp P G0 N y Q E' H') : AWp P G0 N (.seq x y) Q E H :=
  awp_seq (h.mono fun e E1 H1 q => by cases e <;> first | exact q | exact AWp.ent q h')

def AInBlock (id : Nat) (Q : Exit → Env → Heap → Prop) : Exit → Env → Heap → Prop
  | .exit id', E, H => cond (Nat.beq id' id) (Q .normal E H) (Q (.exit id') E H)
  | e, E, H => Q e E H

theorem awp_block {id : Nat} {c : Code} (h : AWp P G0 N c (AInBlock id Q) E H) : AWp P G0 N (.block id c) Q E H := by
  intro G hG a w hs
  refine wp_block (wp_mono (h G hG a w hs) ?_)
  rintro e a' w' ⟨E', H', q, s⟩
  cases e <;> try exact ⟨E', H', q, s⟩
  rename_i id'
  simp only [AInBlock] at q
  simp only [Exit.inBlock]
  split
  · rename_i e1; subst e1; rw [beq_self] at q; exact ⟨E', H', q, s⟩
  · rename_i e1; rw [beq_ne e1] at q; exact ⟨E', H', q, s⟩

def cv : Value → Option AV
  | .int k n => some (.pv (.int k n))
  | .bool b => some (.pv (.bool b))
  | .string s => some (.pv (.str s))
  | .pointer none => some (.pv .nilp)
  | .slice none 0 0 => some (.pv (.sl []))
  | .nilFunc => some (.pv .nilfn)
  | .map none => some (.pv .nilm)
  | _ => none

def aeval (E : Env) : Operand → Option AV
  | .tmp t => E.get t
  | .const v => cv v
  | .func f => some (.pv (.fn f))
  | .global _ => none

theorem cv_rel {w : World} {I : Nat → Prop} {ι : Plc} {v : Value} {a : AV} (h : cv v = some a) : VRel w I ι H v a ∧ v.oneCell' = true := by
  unfold cv at h
  split at h <;> cases h
  · exact ⟨.pv (.int _ _), rfl⟩
  · exact ⟨.pv (.bool _), rfl⟩
  · exact ⟨.pv (.str _), rfl⟩
  · exact ⟨.pv .nilp, rfl⟩
  · exact ⟨.pv .nilsl, rfl⟩
  · exact ⟨.pv .nilfn, rfl⟩
  · exact ⟨.pv .nilm, rfl⟩

theorem aeval_rel {w : World} {I : Nat → Prop} {ι : Plc} {a : Act} {x : Operand} {v : AV} (he : ERel w I ι H E a) (h : aeval E x = some v) : VRel w I ι H (a.eval x) v := by
  cases x with
  | tmp t =>
    obtain ⟨c, hc, hv⟩ := he t v h
    simpa [Act.eval, hc] using hv
  | const c => exact (cv_rel h).1
  | func f => simp only [aeval, Option.some.injEq] at h; subst h; exact .pv (.fn f)
  | global g => cases h

theorem awp_cond {c : Operand} {x y : Code} {b : Bool} (hc : aeval E c = some (.pv (.bool b))) (h1 : b = true → AWp P G0 N x Q E H) (h2 : b = false → AWp P G0 N y Q E H) :
    AWp P G0 N (.cond c x y) Q E H := by
  intro G hG a w hs
  obtain ⟨I, ι, hr, hst, he⟩ := hs.rel
  have hv := aeval_rel he hc
  have hb : a.eval c = .bool b := hv.bool_inv
  exact wp_cond_split hb (fun e => h1 e G hG a w hs) (fun e => h2 e G hG a w hs)

/-- A loop: states 'S s' for s with 'J s', and a measure. -/
theorem awp_loop {c : Code} {σ : Type} (S : σ → Env × Heap) (J : σ → Prop) (μ : σ → Nat) (s0 : σ) (h0 : J s0) (hin : Ent G0 E H (S s0).1 (S s0).2)
    (round : ∀ s, J s → AWp P G0 N c (AThen (fun E' H' => ∃ s', J s' ∧ μ s' < μ s ∧ Ent G0 E' H' (S s').1 (S s').2) Q) (S s).1 (S s).2) : AWp P G0 N (.loop c) Q E H := by
  intro G hG a w hs
  refine wp_loop_ghost (I := fun n a w => ∃ s, J s ∧ μ s = n ∧ St G N (S s).1 (S s).2 a w) (μ s0) ⟨s0, h0, rfl, hin G hG N a w hs⟩ ?_
  rintro n a w ⟨s, hJ, rfl, hst⟩
  refine wp_mono (round s hJ G hG a w hst) ?_
  rintro e a' w' ⟨E', H', q, s'⟩
  cases e <;> try exact ⟨E', H', q, s'⟩
  obtain ⟨s2, h2, h3, h4⟩ := q
  exact ⟨μ s2, h3, s2, h2, rfl, h4 G hG N a' w' s'⟩

/-! ### operations -/

/-- One operation: what it may yield, and the heap behind it. -/
def OpR (P : Program) (N : Nat) (o : Oper) (E : Env) (H : Heap) (R : AV → Heap → Prop) : Prop :=
  ∀ (a : Act) (w : World) (I : Nat → Prop) (ι : Plc), a.defers = [] → a.tmps.size = N → Rel I ι H w → ERel w I ι H E a → ∀ (K : Act → World → Prop) (Q : Exit → Act → World → Prop),
    (∀ c w' I' ι' r H', R r H' → VRel w' I' ι' H' c r → Rel I' ι' H' w' → Step I ι H w I' ι' H' w' → K (a.put o.dst c) w') → o.wp P a w K Q
/-- One operation that yields one value. -/
def OpD (P : Program) (N : Nat) (o : Oper) (E : Env) (H : Heap) (v : AV) (H2 : Heap) : Prop := OpR P N o E H (fun r H' => r = v ∧ H' = H2)

def putd (E : Env) : Option Tmp → AV → Env
  | none, _ => E
  | some d, v => (d, v) :: E
def dstOk (N : Nat) : Option Tmp → Bool
  | none => true
  | some d => Nat.blt d N

theorem ERel.put {w w' : World} {I I' : Nat → Prop} {ι ι' : Plc} {H' : Heap} {a : Act} {c : Value} {r : AV} {d : Option Tmp} (hr : Rel I ι H w) (hs : Step I ι H w I' ι' H' w')
    (he : ERel w I ι H E a) (hv : VRel w' I' ι' H' c r) (hd : dstOk a.tmps.size d = true) : ERel w' I' ι' H' (putd E d r) (a.put d c) := by
  cases d with
  | none => exact fun t v h => let ⟨c, h1, h2⟩ := he t v h; ⟨c, h1, h2.mono hr hs⟩
  | some d =>
    intro t v h
    simp only [putd] at h
    have hlt : d < a.tmps.size := by simpa [dstOk, Nat.blt_eq] using hd
    by_cases e : d = t
    · subst e
      rw [Env.get_cons_same] at h
      cases h
      exact ⟨c, by simp [Act.put, hlt], hv⟩
    · rw [Env.get_cons_other _ _ e] at h
      obtain ⟨c', h1, h2⟩ := he t v h
      exact ⟨c', by simp [Act.put, Array.getElem?_setIfInBounds_ne e, h1], h2.mono hr hs⟩

/-- The operations 'l' of a region whose operations are 'ops', one after the other. -/
def AL (P : Program) (G0 : Heap) (N : Nat) (ops : Array Oper) (K : Env → Heap → Prop) (l : List Oper) (E : Env) (H : Heap) : Prop :=
  ∀ G : Entry, G.H = G0 → ∀ a w, St G N E H a w → ∀ Q : Exit → Act → World → Prop, (∀ E H a w, K E H → St G N E H a w → Q .normal a w) → wpList P ops Q l a w

theorem al_nil {ops : Array Oper} {K : Env → Heap → Prop} (h : K E H) : AL P G0 N ops K [] E H := fun _ _ a w hs _ hq => hq _ _ a w h hs

theorem St.op {G : Entry} {a : Act} {w : World} {o : Oper} {R : AV → Heap → Prop} (hs : St G N E H a w) (hd : dstOk N o.dst = true) (h : OpR P N o E H R) {K : Act → World → Prop} {Q : Exit → Act → World → Prop}
    (hk : ∀ r H' a' w', R r H' → St G N (putd E o.dst r) H' a' w' → K a' w') : o.wp P a w K Q := by
  obtain ⟨I, ι, hr, hst, he⟩ := hs.rel
  refine h a w I ι hs.defers hs.size hr he K Q ?_
  intro c w' I' ι' r H' hR hv hr' hs'
  refine hk r H' _ w' hR ⟨?_, ?_, I', ι', hr', hst.trans hs', ERel.put hr hs' he hv (by rw [hs.size]; exact hd)⟩
  · have := hs.defers
    cases o.dst <;> simpa [Act.put] using this
  · have := hs.size
    cases o.dst <;> simpa [Act.put] using this

theorem al_r {ops : Array Oper} {K : Env → Heap → Prop} {o : Oper} {rest : List Oper} {R : AV → Heap → Prop} (hg : o.guard = none) (hd : dstOk N o.dst = true) (h : OpR P N o E H R)
    (hk : ∀ r H', R r H' → AL P G0 N ops K rest (putd E o.dst r) H') : AL P G0 N ops K (o :: rest) E H := by
  intro G hG a w hs Q hq
  refine wpList_plain hg fun K' hK => ?_
  exact hs.op hd h fun r H' a' w' hR hs' => hK _ _ (hk r H' hR G hG a' w' hs' Q hq)

theorem al_d {ops : Array Oper} {K : Env → Heap → Prop} {o : Oper} {rest : List Oper} {d : Tmp} {v : AV} {H2 : Heap} (hg : o.guard = none) (hd : o.dst = some d) (hn : Nat.blt d N = true) (h : OpD P N o E H v H2)
    (hk : AL P G0 N ops K rest ((d, v) :: E) H2) : AL P G0 N ops K (o :: rest) E H :=
  al_r hg (by rw [hd]; exact hn) h fun r H' ⟨e1, e2⟩ => by subst e1 e2; rw [hd]; exact hk
theorem al_n {ops : Array Oper} {K : Env → Heap → Prop} {o : Oper} {rest : List Oper} {v : AV} {H2 : Heap} (hg : o.guard = none) (hd : o.dst = none) (h : OpD P N o E H v H2)
    (hk : AL P G0 N ops K rest E H2) : AL P G0 N ops K (o :: rest) E H :=
  al_r hg (by rw [hd]; rfl) h fun r H' ⟨e1, e2⟩ => by subst e1 e2; rw [hd]; exact hk

/-- The slot of a guard. -/
def gslot (ops : List Oper) (j : Nat) : Option Tmp := (ops[j]?).bind (·.dst)

theorem guard_yields {ops : Array Oper} {w : World} {I : Nat → Prop} {ι : Plc} {a : Act} {j : Nat} {t : Tmp} {b : Bool} (hj : gslot ops.toList j = some t) (hb : E.get t = some (.pv (.bool b))) (he : ERel w I ι H E a) :
    yielded ops a.tmps j = some b := by
  obtain ⟨c, hc, hv⟩ := he t _ hb
  have hcb : c = .bool b := hv.bool_inv
  subst hcb
  unfold yielded
  have : (ops[j]?).bind (·.dst) = some t := by simpa [gslot] using hj
  rw [this]
  simp [hc]

/-- An operation under a guard that is met. -/
theorem al_on {ops : Array Oper} {K : Env → Heap → Prop} {o : Oper} {rest : List Oper} {j : Nat} {want : Bool} {t : Tmp} {b : Bool} {R : AV → Heap → Prop} (hg : o.guard = some (j, want)) (hj : gslot ops.toList j = some t)
    (hb : E.get t = some (.pv (.bool b))) (hw : b = want) (hd : dstOk N o.dst = true) (h : OpR P N o E H R) (hk : ∀ r H', R r H' → AL P G0 N ops K rest (putd E o.dst r) H') : AL P G0 N ops K (o :: rest) E H := by
  intro G hG a w hs Q hq
  have hy := guard_yields (ops := ops) hj hb hs.rel.choose_spec.choose_spec.2.2
  unfold wpList
  have hwant : Region.wanted o (yielded ops a.tmps) = true := by simp [Region.wanted, hg, hy, hw]
  simp only [hwant, if_true]
  first
    | exact .inl (hs.op hd h fun r H' a' w' hR hs' => hk r H' hR G hG a' w' hs' Q hq)
    | exact hs.op hd h fun r H' a' w' hR hs' => hk r H' hR G hG a' w' hs' Q hq
/-- Whether a guard's slot leaves its operation out: 'false' for the wanted 'true' and the other way; or its own operation was left out. -/
def offB (want : Bool) : AV → Bool
  | .pv (.bool b) => b == !want
  | .tup [] => true
  | _ => false
theorem guard_undef {ops : Array Oper} {w : World} {I : Nat → Prop} {ι : Plc} {a : Act} {j : Nat} {t : Tmp} (hj : gslot ops.toList j = some t) (hb : E.get t = some (.tup [])) (he : ERel w I ι H E a) : yielded ops a.tmps j = none := by
  obtain ⟨c, hc, hv⟩ := he t _ hb
  unfold yielded
  have : (ops[j]?).bind (·.dst) = some t := by simpa [gslot] using hj
  rw [this]
  cases hv
  simp [hc]
theorem guard_off {ops : Array Oper} {o : Oper} {w : World} {I : Nat → Prop} {ι : Plc} {a : Act} {j : Nat} {want : Bool} {t : Tmp} {x : AV} (hg : o.guard = some (j, want)) (hj : gslot ops.toList j = some t) (hb : E.get t = some x) (hw : offB want x = true) (he : ERel w I ι H E a) :
    Region.wanted o (yielded ops a.tmps) = false := by
  unfold offB at hw
  split at hw
  · next b =>
    have hy := guard_yields (ops := ops) hj hb he
    have hbw : b = !want := by simpa using hw
    subst hbw
    cases want <;> simp [Region.wanted, hg, hy]
  · have hy := guard_undef (ops := ops) hj hb he
    simp [Region.wanted, hg, hy]
  · cases hw
theorem ERel.skip {w : World} {I : Nat → Prop} {ι : Plc} : VRel w I ι H undef (.tup []) := .tup rfl (fun i v a h => by simp at h)
theorem al_offx {ops : Array Oper} {K : Env → Heap → Prop} {o : Oper} {rest : List Oper} {j : Nat} {want : Bool} {t : Tmp} {x : AV} (hg : o.guard = some (j, want)) (hj : gslot ops.toList j = some t)
    (hb : E.get t = some x) (hw : offB want x = true) (hd : dstOk N o.dst = true) (hk : AL P G0 N ops K rest (putd E o.dst (.tup [])) H) : AL P G0 N ops K (o :: rest) E H := by
  intro G hG a w hs Q hq
  obtain ⟨I, ι, hr, hst, he⟩ := hs.rel
  unfold wpList
  have hwant : Region.wanted o (yielded ops a.tmps) = false := guard_off hg hj hb hw he
  simp only [hwant, Bool.false_eq_true, if_false]
  refine hk G hG _ w ⟨?_, ?_, I, ι, hr, hst, ERel.put hr (Step.refl _ _ _ _) he ERel.skip (by rw [hs.size]; exact hd)⟩ Q hq
  · have := hs.defers
    cases o.dst <;> simpa [Act.put] using this
  · have := hs.size
    cases o.dst <;> simpa [Act.put] using this
theorem al_off {ops : Array Oper} {K : Env → Heap → Prop} {o : Oper} {rest : List Oper} {j : Nat} {want : Bool} {t : Tmp} {b : Bool} (hg : o.guard = some (j, want)) (hj : gslot ops.toList j = some t)
    (hb : E.get t = some (.pv (.bool b))) (hw : b = !want) (hd : dstOk N o.dst = true) (hk : AL P G0 N ops K rest (putd E o.dst (.tup [])) H) : AL P G0 N ops K (o :: rest) E H :=
  al_offx hg hj hb (by simp [offB, hw]) hd hk
theorem al_offu {ops : Array Oper} {K : Env → Heap → Prop} {o : Oper} {rest : List Oper} {j : Nat} {want : Bool} {t : Tmp} (hg : o.guard = some (j, want)) (hj : gslot ops.toList j = some t)
    (hb : E.get t = some (.tup [])) (hd : dstOk N o.dst = true) (hk : AL P G0 N ops K rest (putd E o.dst (.tup [])) H) : AL P G0 N ops K (o :: rest) E H :=
  al_offx hg hj hb rfl hd hk

theorem awp_region {id : Nat} {ops : Array Oper} (h : AL P G0 N ops (fun E H => Q .normal E H) ops.toList E H) : AWp P G0 N (.region id ops false) Q E H := by
  intro G hG a w hs
  exact wp_region_list (h G hG a w hs _ fun E H a w q s => ⟨E, H, q, s⟩)
end control
end Go.Abs
