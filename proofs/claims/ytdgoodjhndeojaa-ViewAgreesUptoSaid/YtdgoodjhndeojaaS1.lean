/-
  slices.Sort at this program: the library's contract laid. Conditions: lengths below 2^62.
-/
import Derived.Test.YtdgoodjhndeojaaAbs22
import Derived.Test.YtdgoodjhndeojaaData
set_option linter.unusedVariables false
set_option linter.unusedSimpArgs false
namespace Go.Proofs
open Go.RowKit Go.Sort Go.Shelf
def Try.sortStr_ren : Go.Shelf.Ren := ⟨fun | 6 => 79 | 8 => 112 | 9 => 111 | 19 => 137 | 20 => 138 | 21 => 128 | 22 => 129 | 23 => 130 | 24 => 131 | 25 => 132 | 26 => 133 | 27 => 134 | 28 => 135 | 29 => 136 | 36 => 144 | 31 => 145 | 32 => 146 | 37 => 147 | 38 => 148 | 39 => 149 | 41 => 150 | n => n, fun | 27 => 28 | 29 => 9 | 3 => 3 | 32 => 125 | 26 => 28 | 0 => 0 | 44 => 173 | 46 => 175 | 4 => 4 | 36 => 166 | 35 => 165 | 41 => 74 | 5 => 5 | 9 => 9 | 53 => 181 | 57 => 185 | 63 => 187 | 64 => 188 | n => n, fun | n => n⟩
theorem Try.sortStr : Go.Proofs.SlLaysM.n6 Try.prog Try.sortStr_ren := {
  mixed := by kernel_rfl
  f6 := ⟨Try.f79.name, by decide, Try.func79.trans (congrArg some (by kernel_rfl))⟩
  f8 := Try.func112.trans (congrArg some (by kernel_rfl))
  f9 := ⟨Try.f111.name, by decide, Try.func111.trans (congrArg some (by kernel_rfl))⟩
  f19 := Try.func137.trans (congrArg some (by kernel_rfl))
  f20 := Try.func138.trans (congrArg some (by kernel_rfl))
  f21 := ⟨Try.f128.name, by decide, Try.func128.trans (congrArg some (by kernel_rfl))⟩
  f22 := ⟨Try.f129.name, by decide, Try.func129.trans (congrArg some (by kernel_rfl))⟩
  f23 := ⟨Try.f130.name, by decide, Try.func130.trans (congrArg some (by kernel_rfl))⟩
  f24 := ⟨Try.f131.name, by decide, Try.func131.trans (congrArg some (by kernel_rfl))⟩
  f25 := ⟨Try.f132.name, by decide, Try.func132.trans (congrArg some (by kernel_rfl))⟩
  f26 := ⟨Try.f133.name, by decide, Try.func133.trans (congrArg some (by kernel_rfl))⟩
  f27 := ⟨Try.f134.name, by decide, Try.func134.trans (congrArg some (by kernel_rfl))⟩
  f28 := ⟨Try.f135.name, by decide, Try.func135.trans (congrArg some (by kernel_rfl))⟩
  f29 := ⟨Try.f136.name, by decide, Try.func136.trans (congrArg some (by kernel_rfl))⟩
  f31 := Try.func145.trans (congrArg some (by kernel_rfl))
  f32 := Try.func146.trans (congrArg some (by kernel_rfl))
  f36 := ⟨Try.f144.name, by decide, Try.func144.trans (congrArg some (by kernel_rfl))⟩
  f37 := ⟨Try.f147.name, by decide, Try.func147.trans (congrArg some (by kernel_rfl))⟩
  f38 := ⟨Try.f148.name, by decide, Try.func148.trans (congrArg some (by kernel_rfl))⟩
  f39 := ⟨Try.f149.name, by decide, Try.func149.trans (congrArg some (by kernel_rfl))⟩
  f41 := ⟨Try.f150.name, by decide, Try.func150.trans (congrArg some (by kernel_rfl))⟩
  t0 := Try.underlying0
  a0 := Try.isAgg0
  z0 := Try.sizeOf0
  v0 := Try.zeroValue0
  t3 := Try.underlying3
  a3 := Try.isAgg3
  z3 := Try.sizeOf3
  v3 := Try.zeroValue3
  t4 := Try.underlying4
  a4 := Try.isAgg4
  z4 := Try.sizeOf4
  v4 := Try.zeroValue4
  t5 := Try.underlying5
  a5 := Try.isAgg5
  z5 := Try.sizeOf5
  v5 := Try.zeroValue5
  t9 := Try.underlying9
  a9 := Try.isAgg9
  z9 := Try.sizeOf9
  v9 := Try.zeroValue9
  t26 := Try.underlying28
  a26 := Try.isAgg28
  z26 := Try.sizeOf28
  v26 := Try.zeroValue28
  t27 := Try.underlying28
  a27 := Try.isAgg28
  z27 := Try.sizeOf28
  v27 := Try.zeroValue28
  t29 := Try.underlying9
  a29 := Try.isAgg9
  z29 := Try.sizeOf9
  v29 := Try.zeroValue9
  t32 := Try.underlying125
  a32 := Try.isAgg125
  z32 := Try.sizeOf125
  v32 := Try.zeroValue125
  t35 := Try.underlying165
  a35 := Try.isAgg165
  z35 := Try.sizeOf165
  v35 := Try.zeroValue165
  t36 := Try.underlying166
  a36 := Try.isAgg166
  z36 := Try.sizeOf166
  v36 := Try.zeroValue166
  t41 := Try.underlying74
  a41 := Try.isAgg74
  z41 := Try.sizeOf74
  v41 := Try.zeroValue74
  t44 := Try.underlying173
  a44 := Try.isAgg173
  z44 := Try.sizeOf173
  v44 := Try.zeroValue173
  t46 := Try.underlying175
  a46 := Try.isAgg175
  z46 := Try.sizeOf175
  v46 := Try.zeroValue175
  t53 := Try.underlying181
  a53 := Try.isAgg181
  z53 := Try.sizeOf181
  v53 := Try.zeroValue181
  t57 := Try.underlying185
  a57 := Try.isAgg185
  z57 := Try.sizeOf185
  v57 := Try.zeroValue185
  t63 := Try.underlying187
  a63 := Try.isAgg187
  z63 := Try.sizeOf187
  v63 := Try.zeroValue187
  t64 := Try.underlying188
  a64 := Try.isAgg188
  z64 := Try.sizeOf188
  v64 := Try.zeroValue188 }
end Go.Proofs
namespace Go.Proofs.Ytdgoodjhndeojaa
open Go.Abs
theorem sortStr_c (ss : List ByteArray) {id g n ty : Nat} {H : Heap} (hH : H.get id = some ⟨g, 1, ty, strRows ss⟩) (hn : n = ss.length) (hl : ss.length < 4611686018427387904) :
    ACalls Try.prog 79 [.osl id g 0 n] H (fun r H' => r = .tup [] ∧ H' = (id, ⟨g, 1, ty, strRows (sortS ss)⟩) :: H) := sort_c Try.sortStr ss hH hn hl
theorem nodup_le : ∀ (n : Nat) (l : List Nat), l.Nodup → (∀ i ∈ l, i < n) → l.length ≤ n
  | 0, l, _, h => by
    cases l with
    | nil => simp
    | cons a l => have := h a (by simp); omega
  | n + 1, l, hd, h => by
    by_cases e : n ∈ l
    · have h1 := nodup_le n (l.erase n) (hd.erase n) (fun i hi => by
        rw [hd.mem_erase_iff] at hi
        have := h i hi.2
        omega)
      rw [List.length_erase_of_mem e] at h1
      have := List.length_pos_of_mem e
      omega
    · have := nodup_le n l hd (fun i hi => by
        have h2 := h i hi
        have : i ≠ n := fun e2 => e (e2 ▸ hi)
        omega)
      omega
/-- What has come of a list, by places. -/
def pick (L : List ByteArray) (seen : List Nat) : List ByteArray := seen.map fun i => (L[i]?).getD ⟨#[]⟩
theorem pick_all {L : List ByteArray} {seen : List Nat} (hd : seen.Nodup) (h1 : ∀ i ∈ seen, i < L.length) (h2 : ∀ i, i < L.length → i ∈ seen) : (pick L seen).Perm L := by
  have hp : seen.Perm (List.range L.length) := (List.perm_ext_iff_of_nodup hd List.nodup_range).2 fun a => ⟨fun h => List.mem_range.2 (h1 a h), fun h => h2 a (List.mem_range.1 h)⟩
  have h3 := hp.map (fun i => (L[i]?).getD ⟨#[]⟩)
  have h4 : (List.range L.length).map (fun i => (L[i]?).getD ⟨#[]⟩) = L := by
    apply List.ext_getElem
    · simp
    · intro i h5 h6
      simp [h6]
  rw [h4] at h3
  exact h3
theorem u8_le_total (a b : List UInt8) : decide (a ≤ b) || decide (b ≤ a) := by
  rcases List.le_total a b with h | h <;> simp [h]
theorem sortS_eq {a b : List ByteArray} (h : a.Perm b) : sortS a = sortS b := by
  unfold sortS
  congr 1
  have hs : ∀ l : List ByteArray, ((l.map toU).mergeSort fun x y => decide (x ≤ y)).Pairwise (fun x y => decide (x ≤ y) = true) := fun l =>
    List.pairwise_mergeSort (le := fun (x y : List UInt8) => decide (x ≤ y)) (fun a b c h1 h2 => decide_eq_true (List.le_trans (of_decide_eq_true h1) (of_decide_eq_true h2))) u8_le_total _
  exact List.Perm.eq_of_pairwise (fun x y _ _ h3 h4 => List.le_antisymm (of_decide_eq_true h3) (of_decide_eq_true h4)) (hs a) (hs b) (((List.mergeSort_perm _ _).trans (h.map toU)).trans (List.mergeSort_perm _ _).symm)
end Go.Proofs.Ytdgoodjhndeojaa
