/-
  slices.Sort OF AN OWNED SLICE OF TEXTS: the library's contract, carried over. Conditions: lengths below 2^62.
-/
import Derived.Test.YtdgoodjhndeojaaAbs21
import Derived.Shelf.SortM.Plain
import Derived.Shelf.SortM.SortNone
import Derived.Ground.SlgmProg
set_option linter.unusedVariables false
set_option linter.unusedSimpArgs false
namespace Go.Abs
open Go.Proofs
/-- New blocks behind all others. -/
theorem Rel.grown {I : Nat → Prop} {ι : Plc} {H : Heap} {w : World} (os : Array Obj) (hr : Rel I ι H w) : Rel I ι H (Sort.grow w os) ∧ Step I ι H w I ι H (Sort.grow w os) := by
  have hk : ∀ b, b < w.heap.size → (Sort.grow w os).heap[b]? = w.heap[b]? := fun b hb => by
    show (w.heap ++ os)[b]? = _
    rw [Array.getElem?_append_left hb]
  have hst : Step I ι H w I ι H (Sort.grow w os) := by
    refine ⟨rfl, rfl, rfl, ?_, fun a ha => ?_, fun _ h => h, fun _ h => .inl h, fun _ h => .inl h, fun b hb _ => hk b hb, fun _ o h => ⟨o, h, Nat.le_refl _, fun _ => ⟨rfl, rfl, fun _ => Nat.le_refl _⟩⟩⟩
    · show w.heap.size ≤ (w.heap ++ os).size
      simp
    · unfold World.frozen?
      rw [hk _ ha]
  refine ⟨⟨fun b hb => ?_, fun j o hj => ?_, hr.inj⟩, hst⟩
  · have := hr.imm b hb
    show b < (w.heap ++ os).size
    simp; omega
  · exact (hr.obj j o hj).keep rfl (fun b c _ hb => ⟨hk b hb, fun h => h⟩) (fun r _ a _ v hv => hv.mono hr hst)
def strRows (l : List ByteArray) : List (List AV) := l.map fun s => [.pv (.str s)]
def toU (s : ByteArray) : List UInt8 := s.data.toList
def ofU (l : List UInt8) : ByteArray := ⟨l.toArray⟩
theorem ofU_toU (s : ByteArray) : ofU (toU s) = s := by
  cases s; simp [ofU, toU]
/-- The texts in order. -/
def sortS (l : List ByteArray) : List ByteArray := ((l.map toU).mergeSort fun x y => decide (x ≤ y)).map ofU
theorem sortS_length (l : List ByteArray) : (sortS l).length = l.length := by simp [sortS, List.length_mergeSort]
theorem map_toU (l : List ByteArray) : (l.map toU).map ofU = l := by
  rw [List.map_map]
  conv => rhs; rw [← List.map_id l]
  exact List.map_congr_left fun s _ => ofU_toU s
theorem sortS_perm (l : List ByteArray) : (sortS l).Perm l := by
  have h := (List.mergeSort_perm (l.map toU) (fun x y => decide (x ≤ y))).map ofU
  rw [map_toU] at h
  exact h
theorem heap_putRow {w : World} {b : Nat} {cs : Array Value} {t : TypeId} {f : Nat × Nat} (h : w.heap[b]? = some (.cells cs t f)) (d : Array (List UInt8)) : (Sort.putRow Proofs.encStr w b 0 d) = w.setRow b (Sort.putCells Proofs.encStr 0 d cs) := by
  unfold Sort.putRow Sort.mapBlock World.setRow
  congr 1
  apply Array.ext_getElem?
  intro k
  simp only [Array.getElem?_modify]
  by_cases e : b = k
  · subst e
    simp [h, Sort.onCells]
  · simp [e]
theorem sort_c {P : Program} {ρ : Shelf.Ren} (Ly : SlLaysM.n6 P ρ) (ss : List ByteArray) {id g n ty : Nat} {H : Heap} (hH : H.get id = some ⟨g, 1, ty, strRows ss⟩) (hn : n = ss.length) (hl : ss.length < 4611686018427387904) :
    ACalls P (ρ.f 6) [.osl id g 0 n] H (fun r H' => r = .tup [] ∧ H' = (id, ⟨g, 1, ty, strRows (sortS ss)⟩) :: H) := by
  subst hn
  intro I ι w vs hr hvl hv
  obtain ⟨v, rfl⟩ : ∃ v, vs = #[v] := by
    match vs, hvl with
    | ⟨[v]⟩, _ => exact ⟨v, rfl⟩
  have h1 := hv 0 v _ rfl rfl
  obtain ⟨_, hcase⟩ := osl_slice h1 hH rfl
  have hrowlen : ∀ r ∈ strRows (sortS ss), r.length = 1 := fun r hr => by
    obtain ⟨s, _, rfl⟩ := List.mem_map.1 hr; rfl
  have g1 : Heap.get ((id, ⟨g, 1, ty, strRows (sortS ss)⟩) :: H) id = some ⟨g, 1, ty, strRows (sortS ss)⟩ := by simp [Heap.get, beq_self]
  have g2 : ∀ j, j ≠ id → Heap.get ((id, ⟨g, 1, ty, strRows (sortS ss)⟩) :: H) j = H.get j := fun j hj => by simp [Heap.get, beq_ne (Ne.symm hj)]
  rcases hcase with ⟨b, cap, oo, c1, c2, c3⟩ | ⟨c1, c2, _, c4⟩
  · have hoo : oo = 0 := by rw [c3 (.inr rfl)]; simp
    subst hoo c2
    have hobj := (hr.obj id _ hH).cells (Nat.succ_pos 0)
    obtain ⟨p1, p2, ⟨b', cap', cs, e1, e2, e3, e4, e5, e5', e6⟩ | ⟨e1, _⟩⟩ := hobj
    · rw [c1] at e1; cases e1
      simp only [Nat.mul_one] at e4 e6
      have hlen : (strRows ss).length = ss.length := by simp [strRows]
      simp only [hlen] at e5
      have hcs : ∀ (i : Nat) (s : ByteArray), ss[i]? = some s → cs[i]? = some (.string s) := fun i s hs => by
        obtain ⟨u, q1, q2, q3⟩ := e6 i [.pv (.str s)] (by rw [strRows, List.getElem?_map, hs]; rfl) 0 _ rfl
        rw [q3.str_inv] at q1
        exact q1
      have hholds : Sort.Holds Proofs.encStr w b 0 (ss.map toU).toArray := by
        intro j hj
        simp only [List.size_toArray, List.length_map] at hj
        refine ⟨?_, ?_⟩
        · have := hcs j _ (List.getElem?_eq_getElem hj)
          rw [Nat.zero_add]
          simp only [World.cell?, e2, this]
          congr 1
          rw [getElem!_pos _ _ (by simpa using hj)]
          simp only [List.getElem_toArray, List.getElem_map]
          show some (Value.string ss[j]) = some (Value.string (ofU (toU ss[j])))
          rw [ofU_toU]
        · simp [World.frozen?, e2]
      have hrun := AnyM.slices_Sort_string Ly b 0 (cap - 0) (ss.map toU) w hholds (Array.getElem?_eq_some_iff.1 e2).1 (by rw [List.length_map]; exact hl)
      rw [List.length_map] at hrun
      refine hrun.mono ?_
      rintro e w' ⟨rfl, n, os, rfl⟩
      obtain ⟨k1, k2⟩ := Rel.drawn (w' := Sort.ahead w n) hr rfl rfl rfl rfl
      have e2' : (Sort.ahead w n).heap[b]? = some (.cells cs ty (0, 0)) := e2
      rw [heap_putRow e2']
      obtain ⟨m1, m2⟩ := Rel.update (H' := (id, ⟨g, 1, ty, strRows (sortS ss)⟩) :: H) (ob' := ⟨g, 1, ty, strRows (sortS ss)⟩) (cs' := Sort.putCells Proofs.encStr 0 ((ss.map toU).mergeSort fun x y => decide (x ≤ y)).toArray cs) k1 hH c1 e2' (Nat.le_refl _) rfl rfl
        (fun _ => by simp [strRows, sortS_length]) (by rw [Sort.putCells]; simp; omega) (by simp only [strRows, List.length_map, sortS_length]; omega) hrowlen (fun i r hi k a hk => by
          rw [strRows, List.getElem?_map] at hi
          obtain ⟨s, hs, rfl⟩ := Option.map_eq_some_iff.1 hi
          cases k with
          | succ k => simp at hk
          | zero =>
            cases hk
            have hil := (List.getElem?_eq_some_iff.1 hs).1
            rw [sortS_length] at hil
            have hics : i < cs.size := by omega
            refine ⟨.string s, ?_, rfl, .pv (.str s)⟩
            rw [Nat.mul_one, Nat.add_zero, Sort.putCells, Array.getElem?_mapIdx, Array.getElem?_eq_getElem hics, Option.map_some]
            have hsz : i < ((ss.map toU).mergeSort fun x y => decide (x ≤ y)).length := by rw [List.length_mergeSort, List.length_map]; exact hil
            rw [if_pos ⟨Nat.zero_le _, by simpa using hsz⟩]
            congr 1
            rw [Nat.sub_zero, getElem!_pos _ _ (by simpa using hsz)]
            rw [sortS, List.getElem?_map] at hs
            obtain ⟨u, hu, rfl⟩ := Option.map_eq_some_iff.1 hs
            simp only [List.getElem_toArray]
            rw [(List.getElem?_eq_some_iff.1 hu).2]
            rfl) g1 g2
      obtain ⟨n1, n2⟩ := Rel.grown os m1
      exact ⟨_, _, I, ι, .tuple #[], rfl, ⟨rfl, rfl⟩, .tup rfl (by simp), n1, (k2.trans m2).trans n2⟩
    · rw [c1] at e1; cases e1
  · subst c2
    have h0 : ss = [] := List.eq_nil_of_length_eq_zero c4
    subst h0
    refine (AnyM.slices_Sort_string_none Ly none 0 w).mono ?_
    rintro e w' ⟨rfl, rfl⟩
    have hg : ∀ j, Heap.get ((id, ⟨g, 1, ty, strRows (sortS [])⟩) :: H) j = H.get j := fun j => by
      by_cases e : j = id
      · subst e
        rw [g1, hH, show sortS [] = [] by simp [sortS]]
      · exact g2 j e
    obtain ⟨k1, k2⟩ := hr.congr hg
    exact ⟨_, _, I, ι, .tuple #[], rfl, ⟨rfl, rfl⟩, .tup rfl (by simp), k1, k2⟩
end Go.Abs
