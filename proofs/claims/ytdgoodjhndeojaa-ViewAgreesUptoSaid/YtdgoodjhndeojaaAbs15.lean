/-
  THE BRIDGE, its end: a law whose call answers 'true' in the abstract logic meets its row: it returns true, and each argument reads behind the call as it did. Conditions: the types of the arguments are of pure values.
-/
import Derived.Test.YtdgoodjhndeojaaAbs14
import Derived.OpenShut
import Derived.JoinedCond
import Derived.Carry
set_option linter.unusedVariables false
namespace Go.Abs
open Go.Proofs.Ytdgoodjhndeojaa Go.ChangeShapes Go.WideShapes Go.ChangeAt Go.RowKit

/-- The argument's abstract value. -/
def argAV (P : Program) (t : TypeId) (ps : List PV) : AV :=
  match P.underlying t with
  | some (.struct _) => .agg (ps.map .pv)
  | _ => match ps with
    | [p] => .pv p
    | _ => .any

section
variable {H : Type} {enc : TypeId × Value → H} {P : Program} {W : World} {B : Nat}

theorem PL.toV {I : Nat → Prop} {ι : Plc} {Hp : Heap} {cs : List Value} {ps : List PV} (h : PL W I cs ps) (i : Nat) (v : Value) (a : AV) (h1 : cs[i]? = some v) (h2 : (ps.map AV.pv)[i]? = some a) : VRel W I ι Hp v a ∧ v.oneCell' = true := by
  rw [List.getElem?_map] at h2
  obtain ⟨p, hp, rfl⟩ := Option.map_eq_some_iff.1 h2
  have := h.get i v p h1 hp
  exact ⟨.pv this, this.oneCell⟩

theorem okOne {n : Nat} {t : TypeId} {v : Value} {base : Nat} (hp : pureT P n t = true) (hval : Value.okWide P W .any base t v) (hno : ∀ fs, P.underlying t = some (.struct fs) → False) : v.cells.toList = [v] := by
  cases n with
  | zero => cases hp
  | succ n =>
    unfold pureT at hp
    unfold Value.okWide at hval
    split at hp
    · next ht => cases v <;> first | rfl | (simp [Cell.okWide, Cell.ok, ht] at hval)
    · next k ht => cases v <;> first | rfl | (simp [Cell.okWide, Cell.ok, ht] at hval)
    · next ht => cases v <;> first | rfl | (simp [Cell.okWide, Cell.ok, ht] at hval)
    · next e ht => cases v <;> first | rfl | (simp [Cell.okWide, Cell.ok, ht] at hval)
    · next fs ht => exact (hno fs ht).elim
    · cases hp
theorem arg_rel {n : Nat} {t : TypeId} {v : Value} {d : DataW H} {p : List MemPlace} {base : Nat} (ι : Plc) (Hp : Heap) (hp : pureT P n t = true) (hval : Value.okWide P W .any base t v) (h : DataW.Trod enc P W 0 (fun _ => true) true t v d p) (hb : Rows.uptoBulk d ≤ B) :
    ∃ ps, Sh P B n t ps ∧ VRel W (Old W) ι Hp v (argAV P t ps) := by
  obtain ⟨m, hm⟩ := h
  obtain ⟨ps, h1, h2⟩ := trod_sh (B := B) n t hp m _ _ hm hb
  refine ⟨ps, h2, ?_⟩
  unfold argAV
  split
  · next fs ht =>
    unfold Value.okWide at hval
    rw [ht] at hval
    obtain ⟨cs, rfl, _, _⟩ := hval
    have hl := h1.length
    simp only [Value.cells, Array.length_toList] at hl
    refine .agg (by simpa using hl) (fun i v hv => ?_) (fun i v a hv ha => ?_)
    · have hlt := (Array.getElem?_eq_some_iff.1 hv).1
      exact (PL.toV (ι := ι) (Hp := Hp) h1 i v (.pv (ps[i]'(by omega))) (by simpa [Value.cells] using hv) (by rw [List.getElem?_map, List.getElem?_eq_getElem (by omega)]; rfl)).2
    · exact (PL.toV h1 i v a (by simpa [Value.cells] using hv) ha).1
  · next hno =>
    split
    · next q =>
      have hone := okOne hp hval (fun fs h => hno fs h)
      rw [hone] at h1
      exact (PL.toV h1 0 _ _ rfl rfl).1
    · exact .any v

def avsOf (P : Program) : List TypeId → List (List PV) → List AV
  | t :: ts, p :: ps => argAV P t p :: avsOf P ts ps
  | _, _ => []
def ShAll (P : Program) (B n : Nat) : List TypeId → List (List PV) → Prop
  | [], [] => True
  | t :: ts, p :: ps => Sh P B n t p ∧ ShAll P B n ts ps
  | _, _ => False
theorem shAll_nil {n : Nat} {pss : List (List PV)} (h : ShAll P B n [] pss) : pss = [] := by
  cases pss with
  | nil => rfl
  | cons p ps => exact h.elim
theorem shAll_cons {n : Nat} {t : TypeId} {ts : List TypeId} {pss : List (List PV)} (h : ShAll P B n (t :: ts) pss) : ∃ p ps, pss = p :: ps ∧ Sh P B n t p ∧ ShAll P B n ts ps := by
  cases pss with
  | nil => exact h.elim
  | cons p ps => exact ⟨p, ps, rfl, h.1, h.2⟩
theorem args_rel {n : Nat} {base : Nat} (ι : Plc) (Hp : Heap) : ∀ {ts : List TypeId} {vs : List Value} {ds : List (DataW H)} {p : List MemPlace}, DataW.TrodAll enc P W 0 (fun _ => true) true ts vs ds p → ts.all (pureT P n) = true →
    (∀ (j : Nat) t v, ts[j]? = some t → vs[j]? = some v → Value.okWide P W .any base t v) → Rows.uptoBulkAll ds ≤ B →
    ∃ pss, ShAll P B n ts pss ∧ vs.length = (avsOf P ts pss).length ∧ ∀ (i : Nat) (v : Value) (a : AV), vs[i]? = some v → (avsOf P ts pss)[i]? = some a → VRel W (Old W) ι Hp v a
  | [], vs, ds, p, h, hp, hv, hb => by
    obtain ⟨rfl, rfl, rfl⟩ := trodAll_nil h
    exact ⟨[], trivial, rfl, fun i v a h => by simp at h⟩
  | t :: ts, vs, ds, p, h, hp, hv, hb => by
    obtain ⟨v, vs', d, ds', p1, p2, rfl, rfl, rfl, h1, h2⟩ := trodAll_cons h
    simp only [List.all_cons, Bool.and_eq_true] at hp
    simp only [Rows.uptoBulkAll] at hb
    obtain ⟨ps, a1, a2⟩ := arg_rel (B := B) ι Hp hp.1 (hv 0 t v rfl rfl) h1 (by omega)
    obtain ⟨pss, b1, b2, b3⟩ := args_rel ι Hp h2 hp.2 (fun j t v h1 h2 => hv (j + 1) t v h1 h2) (by omega)
    refine ⟨ps :: pss, ⟨a1, b1⟩, by simp [avsOf, b2], fun i v a h1 h2 => ?_⟩
    cases i with
    | zero => cases h1; cases h2; exact a2
    | succ i => exact b3 i v a h1 h2

theorem rel_old (ι : Plc) (W : World) : Rel (Old W) ι [] W := ⟨fun _ h => h, fun _ _ h => (by cases h), fun _ _ _ _ _ _ _ h => (by cases h)⟩
theorem below_step {I I' : Nat → Prop} {ι ι' : Plc} {H' : Heap} {w w' : World} (h : Step I ι [] w I' ι' H' w') : Below w.heap.size w w' :=
  ⟨h.os, h.tape, h.output, h.size, fun k hk => h.keep k hk (fun ⟨_, _, _, hx, _⟩ => by cases hx)⟩

theorem args_below (hl : laidOutB P = true) {W' : World} (hb : Below W.heap.size W W') {sp : Nat → Bool} : ∀ {ts : List TypeId} {vs : List Value} {ds : List (DataW H)} {p : List MemPlace}, DataW.TrodAll enc P W 0 (fun _ => true) true ts vs ds p →
    (ts.all fun t => P.readableRec t && Nat.blt t P.types.size) = true → (∀ x ∈ p, x.block < W.heap.size) → (∀ x ∈ p, sp x.block = true) → DataW.TrodAll enc P W' 0 sp true ts vs ds p
  | [], vs, ds, p, h, hp, hlt, hsp => by
    obtain ⟨rfl, rfl, rfl⟩ := trodAll_nil h
    exact trodAll_mk0
  | t :: ts, vs, ds, p, h, hp, hlt, hsp => by
    obtain ⟨v, vs', d, ds', p1, p2, rfl, rfl, rfl, h1, h2⟩ := trodAll_cons h
    simp only [List.all_cons, Bool.and_eq_true, Nat.blt_eq] at hp
    exact trodAll_cons_mk (WideElems.Trod_stays hl hp.1.1 hp.1.2 h1 (fun x hx => hb.same (hlt x (by simp [hx]))) (fun x hx => hsp x (by simp [hx])))
      (args_below hl hb h2 hp.2 (fun x hx => hlt x (by simp [hx])) (fun x hx => hsp x (by simp [hx])))

/-- 'post_of_same', the marks asked of old blocks alone. -/
theorem post_below {f : Func} {s : ChangeSpec} {apart fresh handsOn again : Bool} {W W' : World} {args : Array Value} {v : Value} {ds gs : List (DataW H)} {before pa pv : List MemPlace}
    (hW : DataW.Whole enc P f.params.toList s.vars apart W args.toList ds gs before)
    (hres : ∀ (b : Nat) (sp : Nat → Bool) (hd : Bool), DataW.TrodAll enc P W' b sp hd f.resultTypes.toList (v.resultList f.resultTypes.size) (s.fn H (ds ++ gs)).results [])
    (hargs : ∀ sp : Nat → Bool, (∀ p ∈ before, sp p.block = true) → DataW.TrodAll enc P W' 0 sp true f.params.toList args.toList (s.fn H (ds ++ gs)).args pa)
    (hvars : ∀ sp : Nat → Bool, (∀ p ∈ before, sp p.block = true) → DataW.TrodVars enc P W' sp s.vars (s.fn H (ds ++ gs)).vars pv)
    (hps : before = pa ++ pv) (hb : Below W.heap.size W W')
    (hok : ∀ (j : Nat) (t : TypeId) (r : Value), f.resultTypes[j]? = some t → (v.resultList f.resultTypes.size)[j]? = some r → Value.okWide P W' .any 0 t r) :
    s.post enc P f apart fresh handsOn again W args v W' := by
  have hlt : ∀ p ∈ before, p.block < W.heap.size := fun p hp => hW.lt p hp
  have hold : ∀ p ∈ before, (fun b => decide (b < W.heap.size)) p.block = true := fun p hp => by simpa using hlt p hp
  refine ⟨ds, gs, before, [], pa, pv, hW, hres _ _ _, hargs _ hold, hvars _ hold, World.keptBut_mono (fun p hp => ⟨hp, ?_⟩) (hb.frame (· ∈ before)), fun _ => ?_⟩
  · rw [hps, List.mem_append] at hp
    exact Or.inr hp
  · obtain ⟨_, _, _, _, _, hz, hn⟩ := hW
    refine ⟨hok, _, _, ([] ++ pa) ++ pv, ⟨[] ++ pa, pv, trodAll_append (hargs _ (fun _ _ => rfl)) (hres _ _ _), hvars _ (fun _ _ => rfl), rfl, ?_, ?_⟩, ?_⟩
    · intro b off hp
      have hin : MemPlace.cell b off ∈ before := by rw [hps]; simpa using hp
      rw [hb.frozen (hlt _ hin)]
      exact hz b off hin
    · intro ha
      have := hn ha
      rw [hps] at this
      simpa using this
    · intro p hp _
      rw [hps]
      simpa using hp

/-- A LAW THAT ANSWERS true IN THE ABSTRACT LOGIC MEETS ITS ROW. -/
theorem law_true {n : Nat} {fid : FuncId} {f : Func} {s : ChangeSpec} {apart fresh handsOn again : Bool} {args : Array Value} {ds gs : List (DataW H)} {before : List MemPlace} {base : Nat} {bt : TypeId}
    (hl : laidOutB P = true) (hpar : (f.params.toList.all fun t => P.readableRec t && Nat.blt t P.types.size) = true) (hpure : f.params.toList.all (pureT P n) = true) (hvars : s.vars = [])
    (hfn : ∀ ds : List (DataW H), ds.length = f.params.toList.length → (s.fn H ds).results = [.lit (.bool true)] ∧ (s.fn H ds).args = ds ∧ (s.fn H ds).vars = [])
    (hres : f.resultTypes = #[bt]) (hbt : P.underlying bt = some .bool)
    (hval : ∀ (j : Nat) t v, f.params[j]? = some t → args[j]? = some v → Value.okWide P W .any base t v)
    (hW : DataW.Whole enc P f.params.toList s.vars apart W args.toList ds gs before) (hB : Rows.uptoBulkAll ds ≤ B)
    (hc : ∀ pss, ShAll P B n f.params.toList pss → ACalls P fid (avsOf P f.params.toList pss) [] (fun r H' => r = .pv (.bool true) ∧ H' = [])) :
    Calls P fid args W fun e W' => ∃ v, e = .returned v ∧ s.post enc P f apart fresh handsOn again W args v W' := by
  have hW' := hW
  obtain ⟨p, q, hA, hV, rfl, hfz, hnd⟩ := hW
  rw [hvars] at hV
  obtain ⟨rfl, rfl⟩ := trodVars_none hV
  obtain ⟨pss, h1, h2, h3⟩ := args_rel (B := B) (base := base) (fun _ => none) [] hA hpure (fun j t v ht hv => hval j t v (by simpa using ht) (by simpa using hv)) hB
  have hlen : ds.length = f.params.toList.length := by
    clear h1 h2 h3 hc hfn hpar hpure hval hW' hB hfz hnd
    revert hA
    generalize f.params.toList = ts
    generalize args.toList = vs
    intro hA
    clear hV
    induction ts generalizing vs ds p with
    | nil => obtain ⟨_, rfl, _⟩ := trodAll_nil hA; rfl
    | cons t ts ih =>
      obtain ⟨v, vs', d, ds', p1, p2, _, rfl, _, _, h2⟩ := trodAll_cons hA
      simp [ih _ _ h2]
  refine (hc pss h1 (Old W) (fun _ => none) W args (rel_old _ W) (by simpa using h2) (fun i v a ha hb => h3 i v a (by simpa using ha) hb)).mono ?_
  rintro e W' ⟨r, H', I', ι', v, rfl, ⟨rfl, rfl⟩, hv, hr, hst⟩
  have hvb : v = .bool true := hv.bool_inv
  subst hvb
  have hbel := below_step hst
  obtain ⟨f1, f2, f3⟩ := hfn (ds ++ []) (by simpa using hlen)
  refine ⟨_, rfl, post_below (pa := p) (pv := []) hW' (fun b sp hd => ?_) (fun sp hsp => ?_) (fun sp hsp => ?_) rfl hbel (ok_one hres rfl (okWide_bool_mk hbt _))⟩
  · rw [f1, hres]
    exact trodAll_cons_mk (shut_bool hbt _) trodAll_mk0
  · rw [f2, List.append_nil]
    exact args_below hl hbel hA hpar (fun x hx => hW'.lt x (by simp [hx])) (fun x hx => hsp x (by simp [hx]))
  · rw [f3, hvars]; rfl

/-! ### shapes, taken apart -/
theorem sh_int {n : Nat} {t : TypeId} {k : IntKind} {ps : List PV} (ht : P.underlying t = some (.int k)) (h : Sh P B (n + 1) t ps) : ∃ i, ps = [.int k i] ∧ (Lit.int k i).wf = true := by unfold Sh at h; rw [ht] at h; exact h
theorem sh_bool {n : Nat} {t : TypeId} {ps : List PV} (ht : P.underlying t = some .bool) (h : Sh P B (n + 1) t ps) : ∃ b, ps = [.bool b] := by unfold Sh at h; rw [ht] at h; exact h
theorem sh_str {n : Nat} {t : TypeId} {ps : List PV} (ht : P.underlying t = some .string) (h : Sh P B (n + 1) t ps) : ∃ s, ps = [.str s] ∧ s.size ≤ B := by unfold Sh at h; rw [ht] at h; exact h
theorem sh_struct {n : Nat} {t : TypeId} {fs : Array Field} {ps : List PV} (ht : P.underlying t = some (.struct fs)) (h : Sh P B (n + 1) t ps) : ShF (fun t ps => Sh P B n t ps) P.cellsOf fs.toList ps := by unfold Sh at h; rw [ht] at h; exact h
theorem sh_rows {n : Nat} {t e : TypeId} {ps : List PV} {α : Type} {f : α → List PV} {good : α → Prop} (ht : P.underlying t = some (.slice e)) (h : Sh P B (n + 1) t ps) (hd : ∀ r, Sh P B n e r → ∃ a, r = f a ∧ good a) :
    ∃ l : List α, ps = [.sl (l.map f)] ∧ l.length ≤ B ∧ ∀ a, a ∈ l → good a := by
  unfold Sh at h; rw [ht] at h
  obtain ⟨rows, rfl, hlen, hr⟩ := h
  obtain ⟨l, h1, h2⟩ : ∃ l : List α, rows = l.map f ∧ ∀ a, a ∈ l → good a := by
    clear hlen
    induction rows with
    | nil => exact ⟨[], rfl, by simp⟩
    | cons r rs ih =>
      obtain ⟨l, h1, h2⟩ := ih (fun r h => hr r (by simp [h]))
      obtain ⟨a, a1, a2⟩ := hd r (hr r (by simp)).2
      refine ⟨a :: l, by simp [a1, h1], fun b hb => ?_⟩
      rcases List.mem_cons.1 hb with e | e
      · subst e; exact a2
      · exact h2 b e
  subst h1
  exact ⟨l, rfl, by simpa using hlen, h2⟩
end
end Go.Abs
