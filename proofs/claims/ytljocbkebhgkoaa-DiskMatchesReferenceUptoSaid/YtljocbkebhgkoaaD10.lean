/-
  THE DISK: what stays true of its state. Conditions: none.
-/
import Derived.Test.YtljocbkebhgkoaaD9
set_option linter.unusedVariables false
set_option linter.unusedSimpArgs false
set_option maxRecDepth 100000
namespace Go.Proofs.Ytljocbkebhgkoaa
open Go.Abs
structure DInv (s : DSt) (n m : Nat) : Prop where
  ok : DOk s
  arm : armLt s
  n : s.cells.length = n
  q : s.q.length ≤ m
theorem DInv.mono {s : DSt} {n m m' : Nat} (h : DInv s n m) (hm : m ≤ m') : DInv s n m' := ⟨h.ok, h.arm, h.n, Nat.le_trans h.q hm⟩
theorem inv_new {n : Nat} (h1 : 1 ≤ n) (h2 : n ≤ 8000) : DInv (dNew n) n 0 := ⟨dNew_ok h1 h2, fun a w b h => (by cases h), by simp [dNew], Nat.le_refl _⟩
theorem disarm_on {a : Arm} {x w b : Int} (h : disarm a = .on x w b) : False := by cases a <;> cases h
theorem inv_fail {s : DSt} {n m : Nat} (h : DInv s n m) (w b : Int) : DInv (dFail s w b) n m := by
  refine ⟨fail_ok h.ok w b, ?_, ?_, ?_⟩ <;> unfold dFail <;> split
  · exact h.arm
  · exact fun a w b h => (disarm_on h).elim
  · exact h.n
  · show (failC s w b).length = n; rw [failC_len]; exact h.n
  · exact h.q
  · exact Nat.zero_le _
theorem inv_count {s : DSt} {n m : Nat} (h : DInv s n m) : DInv (dCount s) n m := by
  refine ⟨count_ok h.ok, ?_, ?_, ?_⟩ <;> unfold dCount <;> split
  · next a w b e =>
    split
    · intro a' w' b' he
      cases he
      have := h.arm a w b e
      omega
    · exact (inv_fail h w b).arm
  · exact h.arm
  · next a w b e =>
    split
    · exact h.n
    · exact (inv_fail h w b).n
  · exact h.n
  · next a w b e =>
    split
    · exact h.q
    · exact (inv_fail h w b).q
  · exact h.q
theorem inv_write {s : DSt} {n m : Nat} (h : DInv s n m) (hm : m < 1048576) (k : Int) (t : ByteArray) : DInv (dWrite s k t) n (m + 1) := by
  unfold dWrite
  split
  · exact h.mono (Nat.le_succ _)
  · split
    · next hc =>
      rw [Bool.and_eq_true, decide_eq_true_eq] at hc
      obtain ⟨h1, h2⟩ := hc
      rcases secOk_cases s k with e | ⟨j, rfl, hj⟩
      · rw [e] at h1; cases h1
      · have hq := h.q
        refine inv_count ⟨wState_ok h.ok (by simpa using hj) h2 (by omega), h.arm, h.n, ?_⟩
        show (s.q ++ [_]).length ≤ _
        simp; exact hq
    · exact h.mono (Nat.le_succ _)
theorem inv_flush {s : DSt} {n m : Nat} (h : DInv s n m) : DInv (dFlush s) n m := by
  have hp := put_ok h.ok s.q.length
  rw [List.take_length] at hp
  exact ⟨⟨hp.n1, hp.n2, hp.c, fun p hp => (by cases hp), Nat.zero_le _⟩, h.arm, by show (putAll _ _).length = n; rw [putAll_len]; exact h.n, Nat.zero_le _⟩
theorem inv_sync {s : DSt} {n m : Nat} (h : DInv s n m) : DInv (dSync s) n m := by
  unfold dSync
  split
  · exact h
  · split
    · exact inv_flush (inv_count h)
    · exact inv_count h
theorem inv_start {s : DSt} {n m : Nat} (h : DInv s n m) : DInv (dStart s) n m :=
  ⟨⟨h.ok.n1, h.ok.n2, h.ok.c, h.ok.q, h.ok.ql⟩, fun a w b h => (disarm_on h).elim, h.n, h.q⟩
theorem inv_arm {s : DSt} {n m : Nat} (h : DInv s n m) (a w b : Int) (ha : a ≤ 9223372036854775807) : DInv (dArm s a w b) n m := by
  unfold dArm
  split
  · exact h
  · split
    · exact ⟨⟨h.ok.n1, h.ok.n2, h.ok.c, h.ok.q, h.ok.ql⟩, fun a' w' b' e => by cases e; exact ha, h.n, h.q⟩
    · exact ⟨⟨h.ok.n1, h.ok.n2, h.ok.c, h.ok.q, h.ok.ql⟩, fun a w b h => (disarm_on h).elim, h.n, h.q⟩
theorem inv_rot {s : DSt} {n m : Nat} (h : DInv s n m) (k p x : Int) : DInv (dRot s k p x) n m := by
  unfold dRot
  split
  · next hc =>
    rw [rotOk, Bool.and_eq_true] at hc
    rcases secOk_cases s k with e | ⟨j, rfl, hj⟩
    · rw [e] at hc; cases hc.1
    · obtain ⟨c, hcj⟩ := get_of_lt hj
      refine ⟨⟨by simpa using h.ok.n1, by simpa using h.ok.n2, fun y hy => ?_, fun p hp => by simpa using h.ok.q p hp, h.ok.ql⟩, h.arm, by simpa using h.n, h.q⟩
      rcases List.mem_or_eq_of_mem_set hy with e | e
      · exact h.ok.c y e
      · rw [e, flip_size, Int.toNat_natCast, hcj]; exact h.ok.c c (List.mem_of_getElem? hcj)
  · exact h
def wfAct (a : GAct) : Prop := a.after ≤ 9223372036854775807
theorem inv_do {s : DSt} {n m : Nat} (h : DInv s n m) (hm : m < 1048576) (a : GAct) (ha : wfAct a) : DInv (doSt s a) n (m + 1) := by
  have h' := h.mono (Nat.le_succ m)
  unfold doSt
  repeat' split
  · exact inv_write h hm _ _
  · exact h'
  · exact inv_sync h'
  · exact inv_fail h' _ _
  · exact inv_start h'
  · exact inv_arm h' _ _ _ ha
  · exact inv_rot h' _ _ _
  · exact h'
def runAll (s : DSt) (l : List GAct) : DSt := l.foldl doSt s
theorem runAll_snoc (s : DSt) (l : List GAct) (a : GAct) : runAll s (l ++ [a]) = doSt (runAll s l) a := by unfold runAll; rw [List.foldl_append]; rfl
theorem inv_run {n : Nat} : ∀ (l : List GAct) {s : DSt} {m : Nat}, DInv s n m → m + l.length ≤ 1048576 → (∀ a, a ∈ l → wfAct a) → DInv (runAll s l) n (m + l.length)
  | [], s, m, h, _, _ => h
  | a :: l, s, m, h, hm, hw => by
    simp only [List.length_cons] at hm ⊢
    have := inv_run l (inv_do h (by omega) a (hw a (by simp))) (by omega) (fun b hb => hw b (by simp [hb]))
    exact this.mono (by omega)
end Go.Proofs.Ytljocbkebhgkoaa
