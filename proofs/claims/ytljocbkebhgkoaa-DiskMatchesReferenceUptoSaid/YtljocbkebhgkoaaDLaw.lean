/-
  THE DISK's LAWS: what they share: arguments, plain laws. Conditions: none.
-/
import Derived.Test.YtljocbkebhgkoaaAbs15
import Derived.Test.YtljocbkebhgkoaaD11
set_option linter.unusedVariables false
set_option linter.unusedSimpArgs false
set_option maxRecDepth 100000
namespace Go.Proofs.Ytljocbkebhgkoaa
open Go.Abs Go.ChangeShapes Go.WideShapes Go.ChangeAt Go.RowKit
theorem own : ownKnob Try.prog.godebug = none := by kernel_rfl
theorem laidOut : laidOutB Try.prog = true := by kernel_rfl
theorem upto_bound {H : Type} {l : List (DataW H)} (hk : Rows.uptoSmall H l = true) : Rows.uptoBulkAll l ≤ 1048576 := of_decide_eq_true hk
theorem bulk_left {H : Type} {l r : List (DataW H)} {n : Nat} (h : Rows.uptoBulkAll (l ++ r) ≤ n) : Rows.uptoBulkAll l ≤ n := by
  induction l generalizing n with
  | nil => simp [Rows.uptoBulkAll]
  | cons x l ih =>
    simp only [List.cons_append, Rows.uptoBulkAll] at h ⊢
    have := ih (n := n - Rows.uptoBulk x) (by omega)
    omega
def wfI (n : Int) : Prop := (Lit.int .i64 n).wf = true
theorem wfI.bd {n : Int} (h : wfI n) : -9223372036854775808 ≤ n ∧ n ≤ 9223372036854775807 := by simpa [wfI, Lit.wf, IntKind.min, IntKind.max, IntKind.signed, IntKind.bits] using h
theorem d_u8 {B n : Nat} {ps : List PV} (h : Sh Try.prog B (n + 1) 5 ps) : ∃ i, ps = [.int .u8 i] ∧ 0 ≤ i ∧ i ≤ 255 := by
  obtain ⟨i, rfl, hi⟩ := sh_int Try.underlying5 h
  exact ⟨i, rfl, by simpa [Lit.wf, IntKind.min, IntKind.max, IntKind.signed, IntKind.bits] using hi⟩
theorem d_int {B n : Nat} {ps : List PV} (h : Sh Try.prog B (n + 1) 3 ps) : ∃ i, ps = [.int .i64 i] ∧ wfI i := by
  obtain ⟨i, rfl, hi⟩ := sh_int Try.underlying3 h
  exact ⟨i, rfl, hi⟩
def szAct (B : Nat) (a : GAct) : Prop := wfI a.kind ∧ wfI a.sector ∧ wfI a.bytes ∧ a.text.size ≤ B ∧ wfI a.after
def szActs (B : Nat) (l : List GAct) : Prop := l.length ≤ B ∧ ∀ a, a ∈ l → szAct B a
theorem d_act {B n : Nat} {ps : List PV} (h : Sh Try.prog B (n + 2) 55 ps) : ∃ a, ps = encAct a ∧ szAct B a := by
  obtain ⟨_, _, rfl, _, h1, _, _, rfl, _, h2, _, _, rfl, _, h3, _, _, rfl, _, h4, _, _, rfl, _, h5, _, _, rfl, _, h6, rfl⟩ := sh_struct Try.underlying55 h
  obtain ⟨k, rfl, q1⟩ := sh_int Try.underlying3 h1
  obtain ⟨s, rfl, q2⟩ := sh_int Try.underlying3 h2
  obtain ⟨b, rfl, q3⟩ := sh_int Try.underlying3 h3
  obtain ⟨t, rfl, q4⟩ := sh_str Try.underlying9 h4
  obtain ⟨o, rfl⟩ := sh_bool Try.underlying4 h5
  obtain ⟨f, rfl, q6⟩ := sh_int Try.underlying3 h6
  exact ⟨⟨k, s, b, t, o, f⟩, rfl, q1, q2, q3, q4, q6⟩
theorem d_acts {B n : Nat} {ps : List PV} (h : Sh Try.prog B (n + 3) 44 ps) : ∃ l, ps = [slActs l] ∧ szActs B l := by
  obtain ⟨l, rfl, h1, h2⟩ := sh_rows (f := encAct) (good := szAct B) Try.underlying44 h (fun r hr => d_act hr)
  exact ⟨l, rfl, h1, h2⟩
theorem szActs.wf {l : List GAct} (h : szActs 1048576 l) : ∀ a, a ∈ l → wfAct a := fun a ha => (h.2 a ha).2.2.2.2.bd.2
theorem szActs.txt {l : List GAct} (h : szActs 1048576 l) : ∀ a, a ∈ l → a.text.size ≤ 1048576 := fun a ha => (h.2 a ha).2.2.2.1
/-! ### a disk that is on and not armed -/
def Calm (s : DSt) : Prop := s.off = false ∧ ∀ a w b, ¬ s.arm = .on a w b
theorem calm_start (s : DSt) : Calm (dStart s) := ⟨rfl, fun a w b h => disarm_on h⟩
theorem calm_count {s : DSt} (h : Calm s) : dCount s = s ∧ dCountE s = 0 := by
  unfold dCount dCountE
  cases e : s.arm with
  | never => exact ⟨rfl, rfl⟩
  | off a w b => exact ⟨rfl, rfl⟩
  | on a w b => exact absurd e (h.2 a w b)
theorem calm_sync {s : DSt} (h : Calm s) : dSync s = dFlush s ∧ dSyncE s = 0 := by
  obtain ⟨h1, h2⟩ := calm_count h
  constructor
  · simp only [dSync, h.1, h2, h1, Bool.false_eq_true, if_false, if_true]
  · simp only [dSyncE, h.1, h2, Bool.false_eq_true, if_false]
theorem calm_flush {s : DSt} (h : Calm s) : Calm (dFlush s) := h
theorem calm_w {s : DSt} (h : Calm s) (n : Nat) (t : ByteArray) : Calm (wState s n t) := h
def wGood (s : DSt) (k : Int) (t : ByteArray) : Bool := secOk s k && decide (t.size = 64)
theorem calm_write {s : DSt} (h : Calm s) (k : Int) (t : ByteArray) : dWrite s k t = (if wGood s k t then wState s k.toNat t else s) ∧ dWriteE s k t = (if wGood s k t then 0 else 1) := by
  have hw := calm_count (calm_w h k.toNat t)
  constructor
  · simp only [dWrite, h.1, hw.1, Bool.false_eq_true, if_false]; rfl
  · simp only [dWriteE, h.1, hw.2, Bool.false_eq_true, if_false]; rfl
theorem wGood_cases (s : DSt) (k : Int) (t : ByteArray) : (wGood s k t = false) ∨ (wGood s k t = true ∧ ∃ n : Nat, k = (n : Int) ∧ n < s.cells.length ∧ t.size = 64) := by
  cases e : wGood s k t with
  | false => exact .inl rfl
  | true =>
    refine .inr ⟨rfl, ?_⟩
    rw [wGood, Bool.and_eq_true, decide_eq_true_eq] at e
    rcases secOk_cases s k with h | ⟨n, rfl, hn⟩
    · rw [h] at e; cases e.1
    · exact ⟨n, rfl, hn, e.2⟩
theorem calm_no {s : DSt} (h : Calm s) {k : Int} {t : ByteArray} (hg : wGood s k t = false) : dWrite s k t = s ∧ dWriteE s k t = 1 := by
  obtain ⟨h1, h2⟩ := calm_write h k t
  rw [hg] at h1 h2
  exact ⟨h1, h2⟩
theorem calm_yes {s : DSt} (h : Calm s) {n : Nat} {t : ByteArray} (hg : wGood s (n : Int) t = true) : dWrite s n t = wState s n t ∧ dWriteE s n t = 0 := by
  obtain ⟨h1, h2⟩ := calm_write h n t
  rw [hg] at h1 h2
  exact ⟨h1, h2⟩
/-- The contents of a calm disk without pending writes. -/
theorem dText_nil {s : DSt} (h : s.q = []) (n : Nat) : dText s n = (s.cells[n]?).getD sNil := by rw [dText, h]; rfl
theorem putAll_get {l : List (Nat × ByteArray)} : ∀ {cells : List ByteArray} {n : Nat}, (∀ p, p ∈ l → isSec n p = false) → (putAll cells l)[n]? = cells[n]? := by
  induction l with
  | nil => intro cells n _; rfl
  | cons p l ih =>
    intro cells n h
    show (putAll (cells.set p.1 p.2) l)[n]? = _
    rw [ih (fun x hx => h x (by simp [hx]))]
    have hp := h p (by simp)
    have hne : p.1 ≠ n := by simpa [isSec] using hp
    rw [List.getElem?_set_ne hne]
theorem torn_get {cells : List ByteArray} {b : Int} {p : Option (Nat × ByteArray)} {n : Nat} (h : ∀ x, p = some x → isSec n x = false) : (torn cells b p)[n]? = cells[n]? := by
  unfold torn
  split
  · rfl
  · next x =>
    split
    · have hne : x.1 ≠ n := by simpa [isSec] using h x rfl
      rw [List.getElem?_set_ne hne]
    · rfl
/-- A failure keeps the sectors that are not pending. -/
theorem fail_keeps {s : DSt} (h : s.off = false) {w b : Int} {n : Nat} (hq : ∀ p, p ∈ s.q → isSec n p = false) : dText (dStart (dFail s w b)) n = (s.cells[n]?).getD sNil := by
  have e : dFail s w b = { s with cells := failC s w b, q := [], off := true, arm := disarm s.arm, gq := s.gq + 1 } := by simp [dFail, h]
  rw [e, dText_nil rfl]
  show ((failC s w b)[n]?).getD sNil = _
  rw [failC, torn_get (fun x hx => hq x (List.mem_of_getElem? hx)), putAll_get (fun p hp => hq p (List.mem_of_mem_take hp))]
/-- A new disk, its state not told. -/
theorem new_any (n : Nat) (h1 : 1 ≤ n) (h2 : n ≤ 12) : ∃ s0 : DSt, s0 = dNew n ∧ DInv s0 n 0 ∧ ∀ H : Heap, H.get 1000 = none → H.get 1001 = none → H.get 1002 = none → H.get 1003 = none →
    ACalls Try.prog 23 [iv (n : Int)] H (fun r H' => r = .ref 1000 0 0 0 ∧ H' = diskH s0 ++ H) :=
  ⟨_, rfl, inv_new h1 (by omega), fun H g0 g1 g2 g3 => newF_c n H h1 (by omega) g0 g1 g2 g3⟩
theorem run_inv {s0 : DSt} {n i : Nat} {l : List GAct} (h : DInv s0 n 0) (hl : l.length ≤ 60) (hw : ∀ a, a ∈ l → wfAct a) (hi : i ≤ l.length) : DInv (runAll s0 (l.take i)) n 60 :=
  (inv_run (l.take i) h (by simp; omega) (fun a h => hw a (List.mem_of_mem_take h))).mono (by simp; omega)
theorem run_do {s0 : DSt} {n i : Nat} {l : List GAct} {a : GAct} (h : DInv (runAll s0 (l.take i)) n 60) (ha : l[i]? = some a) (ht : a.text.size ≤ 1048576) :
    ACalls Try.prog 26 [.ref 1000 0 0 0, av (encAct a)] (diskH (runAll s0 (l.take i))) (fun r H' => r = .tup [sv (doT (runAll s0 (l.take i)) a), iv (doE (runAll s0 (l.take i)) a)] ∧ H' = diskH (runAll s0 (l.take (i + 1)))) := by
  have hdo := do_c (runAll s0 (l.take i)) a h.ok h.arm (by have := h.q; omega) ht
  rw [← runAll_snoc, ← take_snoc ha] at hdo
  exact hdo
end Go.Proofs.Ytljocbkebhgkoaa
