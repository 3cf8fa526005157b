/-
  slices.Sort at this program: the library's contract laid. Conditions: lengths below 2^62.
-/
import Derived.Test.YtdgoodjhndeojaaAbs22
import Derived.Test.YtdgoodjhndeojaaData
set_option linter.unusedVariables false
set_option linter.unusedSimpArgs false
namespace Go.Proofs
open Go.RowKit Go.Sort Go.Shelf
shelf_lay_g SlLaysM.n6 Slgm 6 at Try 79 as Try.sortStr
end Go.Proofs
namespace Go.Proofs.Ytdgoodjhndeojaa
open Go.Abs
theorem sortStr_c (ss : List ByteArray) {id g n ty : Nat} {H : Heap} (hH : H.get id = some ⟨g, 1, ty, strRows ss⟩) (hn : n = ss.length) (hl : ss.length < 4611686018427387904) :
    ACalls Try.prog 79 [.osl id g 0 n] H (fun r H' => r = .tup [] ∧ H' = (id, ⟨g, 1, ty, strRows (sortS ss)⟩) :: H) := sort_c Try.sortStr ss hH hn hl
theorem nodup_le : ∀ (n : Nat) (l : List Nat), l.Nodup → (∀ i ∈ l, i < n) → l.length ≤ n
  | 0, l, _, h => by
    cases l with
    | nil => simp
    | cons a l => have := h a (by simp); omega
  | n + 1, l, hd, h => by
    by_cases e : n ∈ l
    · have h1 := nodup_le n (l.erase n) (hd.erase n) (fun i hi => by
        rw [hd.mem_erase_iff] at hi
        have := h i hi.2
        omega)
      rw [List.length_erase_of_mem e] at h1
      have := List.length_pos_of_mem e
      omega
    · have := nodup_le n l hd (fun i hi => by
        have h2 := h i hi
        have : i ≠ n := fun e2 => e (e2 ▸ hi)
        omega)
      omega
/-- What has come of a list, by places. -/
def pick (L : List ByteArray) (seen : List Nat) : List ByteArray := seen.map fun i => (L[i]?).getD ⟨#[]⟩
theorem pick_all {L : List ByteArray} {seen : List Nat} (hd : seen.Nodup) (h1 : ∀ i ∈ seen, i < L.length) (h2 : ∀ i, i < L.length → i ∈ seen) : (pick L seen).Perm L := by
  have hp : seen.Perm (List.range L.length) := (List.perm_ext_iff_of_nodup hd List.nodup_range).2 fun a => ⟨fun h => List.mem_range.2 (h1 a h), fun h => h2 a (List.mem_range.1 h)⟩
  have h3 := hp.map (fun i => (L[i]?).getD ⟨#[]⟩)
  have h4 : (List.range L.length).map (fun i => (L[i]?).getD ⟨#[]⟩) = L := by
    apply List.ext_getElem
    · simp
    · intro i h5 h6
      simp [h6]
  rw [h4] at h3
  exact h3
theorem u8_le_total (a b : List UInt8) : decide (a ≤ b) || decide (b ≤ a) := by
  rcases List.le_total a b with h | h <;> simp [h]
theorem sortS_eq {a b : List ByteArray} (h : a.Perm b) : sortS a = sortS b := by
  unfold sortS
  congr 1
  have hs : ∀ l : List ByteArray, ((l.map toU).mergeSort fun x y => decide (x ≤ y)).Pairwise (fun x y => decide (x ≤ y) = true) := fun l =>
    List.pairwise_mergeSort (le := fun (x y : List UInt8) => decide (x ≤ y)) (fun a b c h1 h2 => decide_eq_true (List.le_trans (of_decide_eq_true h1) (of_decide_eq_true h2))) u8_le_total _
  exact List.Perm.eq_of_pairwise (fun x y _ _ h3 h4 => List.le_antisymm (of_decide_eq_true h3) (of_decide_eq_true h4)) (hs a) (hs b) (((List.mergeSort_perm _ _).trans (h.map toU)).trans (List.mergeSort_perm _ _).symm)
end Go.Proofs.Ytdgoodjhndeojaa
