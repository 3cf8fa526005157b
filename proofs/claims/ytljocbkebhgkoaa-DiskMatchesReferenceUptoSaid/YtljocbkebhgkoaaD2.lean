/-
  THE DISK, contracts: set, settle, Fail, count. Conditions: a disk's state as DOk tells.
-/
import Derived.Test.YtljocbkebhgkoaaD1
set_option linter.unusedVariables false
set_option linter.unusedSimpArgs false
set_option maxRecDepth 100000
namespace Go.Proofs.Ytljocbkebhgkoaa
open Go.Abs

abbrev spotN (n : Nat) : List AV := [iv ((64 * n : Nat) : Int), iv ((64 * (n + 1) : Nat) : Int)]
theorem spotN_eq (n : Nat) : [iv (64 * (n : Int)), iv (64 * ((n : Int) + 1))] = spotN n := by
  have e1 : 64 * (n : Int) = ((64 * n : Nat) : Int) := by omega
  have e2 : 64 * ((n : Int) + 1) = ((64 * (n + 1) : Nat) : Int) := by omega
  rw [e1, e2]
theorem secOk_nat {s : DSt} {n : Nat} : secOk s (n : Int) = decide (n < s.cells.length) := by
  unfold secOk
  rw [Bool.eq_iff_iff]; simp
theorem secOk_cases (s : DSt) (k : Int) : secOk s k = false ∨ ∃ n : Nat, k = (n : Int) ∧ n < s.cells.length := by
  cases h : secOk s k with
  | false => exact .inl rfl
  | true =>
    obtain ⟨h0, h1⟩ : 0 ≤ k ∧ k < (s.cells.length : Int) := by simpa [secOk] using h
    exact .inr ⟨k.toNat, by omega, by omega⟩
theorem at_off (s : DSt) (k : Int) (hs : DOk s) (e : s.off = true) : ACalls Try.prog 58 [.ref 1000 0 0 0, iv k] (diskH s) (fun r H' => r = .tup [.agg [iv 0, iv 0], iv 22] ∧ H' = diskH s) := by
  have h := at_c s k hs
  simp only [atS, atE, e, if_true] at h; exact h
theorem at_no (s : DSt) (k : Int) (hs : DOk s) (e : s.off = false) (e2 : secOk s k = false) : ACalls Try.prog 58 [.ref 1000 0 0 0, iv k] (diskH s) (fun r H' => r = .tup [.agg [iv 0, iv 0], iv 1] ∧ H' = diskH s) := by
  have h := at_c s k hs
  simp only [atS, atE, e, e2, spotOf, Bool.false_eq_true, if_false] at h; exact h
theorem at_yes (s : DSt) (n : Nat) (hs : DOk s) (e : s.off = false) (e2 : n < s.cells.length) : ACalls Try.prog 58 [.ref 1000 0 0 0, iv (n : Int)] (diskH s) (fun r H' => r = .tup [.agg (spotN n), iv 0] ∧ H' = diskH s) := by
  have h := at_c s n hs
  have e3 : secOk s (n : Int) = true := by rw [secOk_nat]; simpa using e2
  simp only [atS, atE, e, e3, spotOf, Bool.false_eq_true, if_false, if_true, spotN_eq] at h; exact h
/-! ### set -/
theorem over_rows (s : DSt) (hs : DOk s) {n : Nat} {c t : ByteArray} (hc : s.cells[n]? = some c) (ht : t.size ≤ 64) :
    (brows (flat s.cells)).take (64 * n) ++ (brows (t.data.toList.take t.size) ++ (brows (flat s.cells)).drop (64 * n + t.size)) = brows (flat (s.cells.set n (over t c))) := by
  rw [← set_flat hs.c hc ht]
  simp only [brows, List.map_append, List.map_take, List.map_drop]
theorem dset_ok {s : DSt} (hs : DOk s) {n : Nat} {c t : ByteArray} (hc : s.cells[n]? = some c) (ht : t.size ≤ 64) : DOk { s with cells := s.cells.set n (over t c) } :=
  ⟨by simpa using hs.n1, by simpa using hs.n2, fun x hx => by
    rcases List.mem_or_eq_of_mem_set hx with h | h
    · exact hs.c x h
    · have := hs.c c (List.mem_of_getElem? hc)
      rw [h, over_size (by omega), this], fun p hp => by simpa using hs.q p hp, hs.ql⟩
/-- The heap of a disk, with the row told apart. -/
abbrev dH (r : List AV) (l : List ByteArray) (s : DSt) : Heap := [(1000, ⟨0, 4, 94, [r]⟩), (1001, ⟨0, 1, 5, brows (flat l)⟩), (1002, ⟨s.gq, 3, 104, qRows s.q⟩), (1003, ⟨s.ga, 3, 110, armR s.arm⟩)]
theorem set_c (s : DSt) (n : Nat) (c t : ByteArray) (hs : DOk s) (hc : s.cells[n]? = some c) (ht : t.size ≤ 64) :
    ACalls Try.prog 61 [.ref 1000 0 0 0, .agg (spotN n), sv t] (diskH s) (fun r H' => r = .tup [] ∧ H' = diskH { s with cells := s.cells.set n (over t c) }) := by
  have hlt := (List.getElem?_eq_some_iff.1 hc).1
  have hfl := flat_len hs.c
  have hmin : min t.size (64 * (n + 1) - 64 * n) = t.size := by omega
  have hrows : (brows (flat s.cells)).take (0 + 64 * n) ++ (brows (t.data.toList.take t.size) ++ (brows (flat s.cells)).drop (0 + 64 * n + t.size)) = brows (flat (s.cells.set n (over t c))) := by
    rw [Nat.zero_add]; exact over_rows s hs hc ht
  have hlen : (s.cells.set n (over t c)).length = s.cells.length := List.length_set
  refine ACalls.body Try.func61 rfl Try.ntmps61 (Nat.le_of_ble_eq_true rfl) ?_
  refine awp_seq ?_
  refine awp_region ?_
  refine al_d rfl rfl rfl (by exact opd_box (id := 4) rfl rfl rfl rfl rfl) ?_
  refine al_nil ?_
  refine awp_drawc follows ?_
  refine dc_cons (r := ⟨_, some [1000], []⟩) (DStep.plain rfl (fun H1 hH => by exact opd_move rfl rfl)) rfl ?_
  refine dc_cons (r := ⟨_, some [1000], []⟩) (DStep.plain rfl (fun H1 hH => by exact (by first | exact opd_nilCheck_ref rfl rfl ((hH _ rfl).trans rfl) rfl | exact opd_nilCheck_fn rfl rfl))) rfl ?_
  refine dc_cons (r := ⟨_, some [1000], []⟩) (DStep.plain rfl (fun H1 hH => by exact (by first | exact opd_field_ref rfl fo94_0 rfl ((hH _ rfl).trans rfl) rfl rfl | exact opd_field_pad rfl fo94_0 rfl rfl))) rfl ?_
  refine dc_cons (r := ⟨_, some [1000], []⟩) (DStep.plain rfl (fun H1 hH => by exact (by first | exact opd_load1_ref rfl Try.isAgg90 rfl ((hH _ rfl).trans rfl) rfl rfl rfl | exact opd_load1_pad rfl Try.isAgg90 rfl (by first | omega | assumption) rfl))) rfl ?_
  refine dc_cons (r := ⟨_, some [4], []⟩) (DStep.plain rfl (fun H1 hH => by exact (by first | exact opd_field_ref rfl fo100_0 rfl ((hH _ rfl).trans rfl) rfl rfl | exact opd_field_pad rfl fo100_0 rfl rfl))) rfl ?_
  refine dc_cons (r := ⟨_, some [4], []⟩) (DStep.plain rfl (fun H1 hH => by exact (by first | exact opd_load1_ref rfl Try.isAgg3 rfl ((hH _ rfl).trans rfl) rfl rfl rfl | exact opd_load1_pad rfl Try.isAgg3 rfl (by first | omega | assumption) rfl))) rfl ?_
  refine dc_cons (r := ⟨_, some [4], []⟩) (DStep.plain rfl (fun H1 hH => by exact (by first | exact opd_field_ref rfl fo100_1 rfl ((hH _ rfl).trans rfl) rfl rfl | exact opd_field_pad rfl fo100_1 rfl rfl))) rfl ?_
  refine dc_cons (r := ⟨_, some [4], []⟩) (DStep.plain rfl (fun H1 hH => by exact (by first | exact opd_load1_ref rfl Try.isAgg3 rfl ((hH _ rfl).trans rfl) rfl rfl rfl | exact opd_load1_pad rfl Try.isAgg3 rfl (by first | omega | assumption) rfl))) rfl ?_
  refine dc_cons (r := ⟨_, some [1001], []⟩) (DStep.plain rfl (fun H1 hH => by exact (by first | exact x_slice_sl (l := (64 * n)) (h := (64 * (n + 1))) rfl so90 rfl (by assumption) rfl rfl (by first | omega | assumption) (by first | omega | assumption) rfl | exact x_slice_osl (l := (64 * n)) (h := (64 * (n + 1))) rfl so90 rfl ((hH _ rfl).trans rfl) rfl rfl rfl rfl (by first | omega | assumption) (by first | omega | assumption) rfl rfl))) rfl ?_
  refine dc_cons (r := ⟨_, some [], []⟩) (DStep.plain rfl (fun H1 hH => by exact opd_move rfl rfl)) rfl ?_
  refine dc_cons (r := ⟨_, some [1001], [_]⟩) (DStep.plain rfl (fun H1 hH => by exact x_copy_str rfl so90 rfl ((hH _ rfl).trans rfl) rfl rfl rfl hmin hrows)) rfl ?_
  refine dc_nil ⟨by kernel_rfl, ?_⟩
  -- end of the body
  refine aret0 (H' := dH (dRow s) (s.cells.set n (over t c)) s) (by first | exact .inr rfl | exact .inl rfl) rfl  (Fin.wk (by first | (simp; done) | (simp; rfl)) ⟨⟨_, rfl, rfl⟩, (by first | (simp; done) | (simp; rfl) | exact clo_map _ _ _ | exact clo_brows _ _ | exact disk_clo _ _ rfl rfl rfl | exact arm_clo _ _), ⟨_, rfl, rfl⟩, (by first | (simp; done) | (simp; rfl) | exact clo_map _ _ _ | exact clo_brows _ _ | exact disk_clo _ _ rfl rfl rfl | exact arm_clo _ _), ⟨_, rfl, rfl⟩, (by first | (simp; done) | (simp; rfl) | exact clo_map _ _ _ | exact clo_brows _ _ | exact disk_clo _ _ rfl rfl rfl | exact arm_clo _ _), ⟨_, rfl, rfl⟩, (by first | (simp; done) | (simp; rfl) | exact clo_map _ _ _ | exact clo_brows _ _ | exact disk_clo _ _ rfl rfl rfl | exact arm_clo _ _), trivial⟩ ⟨rfl, rfl, rfl, rfl, trivial⟩) ?_
  exact ⟨rfl, by simp only [diskH, dH, dRow, hlen]⟩
end Go.Proofs.Ytljocbkebhgkoaa
