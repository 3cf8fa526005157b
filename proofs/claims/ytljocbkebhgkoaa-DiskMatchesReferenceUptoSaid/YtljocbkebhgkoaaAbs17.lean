/-
  THE ABSTRACT LOGIC, 17: a text's bytes are appended. Conditions: each rule's own premises.
-/
import Derived.Test.YtljocbkebhgkoaaAbs16
import Derived.Lib.AppendStr
set_option linter.unusedVariables false
set_option linter.unusedSimpArgs false
namespace Go.Abs
open Go.Lib
section
variable {P : Program} {N : Nat} {o : Oper} {E : Env} {H : Heap} {T S : TypeId} {x y : Operand}
theorem strCells_rel {w : World} {I : Nat → Prop} {ι : Plc} (s : ByteArray) : LRel w I ι H 1 (strCells s) (brows s.data.toList) := by
  intro i r hi k a hk
  rw [brows, List.getElem?_map] at hi
  obtain ⟨b, hb, rfl⟩ := Option.map_eq_some_iff.1 hi
  cases k with
  | zero =>
    cases hk
    exact ⟨.int .u8 b.toNat, by rw [strCells, Nat.mul_one, Nat.add_zero, List.getElem?_map, hb]; rfl, rfl, .pv (.int _ _)⟩
  | succ k => simp at hk
theorem opd_append_str {e : TypeId} {id g n : Nat} {ob : Ob} {s : ByteArray} {H2 : Heap} (ho : o.op = .call { callee := .builtin .append, args := #[x, y], argTypes := #[T, S] }) (hT : P.underlying T = some (.slice e)) (hS : P.underlying S = some .string) (hinf : EInfo P e 1 1) (hz0 : ∀ i, P.info? e = some i → i.zero = some (.int .u8 0))
    (hx : aeval E x = some (.osl id g 0 n)) (hH : H.get id = some ob) (hg : ob.g = g) (hosz : ob.sz = 1) (hty : ob.ty = e) (hn : ob.rows.length = n)
    (hy : aeval E y = some (.pv (.str s))) (hmax : n + s.size ≤ 140737488355328)
    (hH2 : H.set id ⟨g + 1, 1, e, ob.rows ++ brows s.data.toList⟩ = H2) : OpD P N o E H (.osl id (g + 1) 0 (n + s.size)) H2 := by
  intro a w I ι _ _ hr he K Q hk
  obtain ⟨i, z, hi, hz, hsize, hby, hzs, hsz0⟩ := hinf
  have hzi := hz0 i hi
  subst hg hty hn hH2
  have hlen2 : (brows s.data.toList).length = s.size := by simp [brows]
  have hml : ob.rows.length + s.size ≤ maxLen := by simp only [maxLen]; omega
  have h1 : (H.set id ⟨ob.g + 1, 1, ob.ty, ob.rows ++ brows s.data.toList⟩).get id = some ⟨ob.g + 1, 1, ob.ty, ob.rows ++ brows s.data.toList⟩ := Heap.get_set_same _ _ _
  have h2 : ∀ j, j ≠ id → (H.set id ⟨ob.g + 1, 1, ob.ty, ob.rows ++ brows s.data.toList⟩).get j = H.get j := fun j hj => Heap.get_set_other _ _ hj
  have p2 := (hr.obj id ob hH).2.1
  rw [hosz] at p2
  have hrl : ∀ r ∈ ob.rows ++ brows s.data.toList, r.length = 1 := fun r hr' => by
    rcases List.mem_append.1 hr' with h | h
    · exact p2 r h
    · obtain ⟨b, _, rfl⟩ := List.mem_map.1 h; rfl
  have hys := (aeval_rel he hy).str_inv
  have fin : ∀ (v' : Value) (w' : World) (ι' : Plc), (Builtin.append_ #[T, S] o.type #[a.eval x, .string s]).run P w = .ok v' w' → VRel w' I ι' (H.set id ⟨ob.g + 1, 1, ob.ty, ob.rows ++ brows s.data.toList⟩) v' (.osl id (ob.g + 1) 0 (ob.rows.length + s.size)) →
      Rel I ι' (H.set id ⟨ob.g + 1, 1, ob.ty, ob.rows ++ brows s.data.toList⟩) w' → Step I ι H w I ι' (H.set id ⟨ob.g + 1, 1, ob.ty, ob.rows ++ brows s.data.toList⟩) w' → o.wp P a w K Q := by
    intro v' w' ι' hrun k1 k2 k3
    unfold Oper.wp execOp
    simp only [ho, resolve, invoke, builtin, Sem.run_bind, Sem.run_pure, Result.andThen_ok, List.map_toArray, List.map_cons, List.map_nil, hys, hrun]
    exact hk v' w' I ι' _ _ ⟨rfl, rfl⟩ k1 k2 k3
  have hvx := aeval_rel he hx
  obtain ⟨_, hcase⟩ := osl_slice hvx hH rfl
  rcases hcase with ⟨b, cap, oo, c1, c2, c3⟩ | ⟨c1, c2, _, c4⟩
  · obtain ⟨p1, _, ⟨b', cap', cs, e1, e2, e3, e4, e5, e5', e6⟩ | ⟨e1, _⟩⟩ := hr.obj id ob hH
    · rw [c1] at e1; cases e1
      rw [hosz] at e4 e6
      have hoo : oo = 0 := by rw [c3 (by omega)]; simp
      subst hoo
      rw [Nat.sub_zero] at c2
      have olds : LRel w I ι H 1 (cs.toList.take (ob.rows.length * 1)) ob.rows := by
        intro i' r hi' k a' hk'
        obtain ⟨u, q1, q2, q3⟩ := e6 i' r hi' k a' hk'
        have hk2 : k < 1 := by rw [← p2 r (List.mem_of_getElem? hi')]; exact (List.getElem?_eq_some_iff.1 hk').1
        have hi2 : i' < ob.rows.length := (List.getElem?_eq_some_iff.1 hi').1
        exact ⟨u, by rw [List.getElem?_take, if_pos (by omega)]; simpa using q1, q2, q3⟩
      have holen : (cs.toList.take (ob.rows.length * 1)).length = ob.rows.length * 1 := by simp; omega
      have hslen : (strCells s).length = s.size := strCells_length s
      by_cases hroom : ob.rows.length + s.size ≤ cap
      · have hrun := run_append_room_string (P := P) w T S o.type ob.ty i hT hS hi hsize b ob.rows.length cap cs e2 s hroom (by omega)
        obtain ⟨k2, k3⟩ := Rel.update (H' := H.set id ⟨ob.g + 1, 1, ob.ty, ob.rows ++ brows s.data.toList⟩) (ob' := ⟨ob.g + 1, 1, ob.ty, ob.rows ++ brows s.data.toList⟩)
          (cs' := (cs.toList.take ob.rows.length ++ strCells s ++ cs.toList.drop (ob.rows.length + s.size)).toArray) hr hH c1 e2 (by simp) hosz.symm rfl (fun e => by simp at e) (by
            simp only [List.size_toArray, List.length_append, List.length_take, List.length_drop, Array.length_toList, hslen, hosz]
            omega) (by simp only [List.length_append, hlen2]; exact hroom) (by rw [hosz]; exact hrl) (fun i' r hi' k a' hk' => by
              have := LRel.app (l3 := cs.toList.drop (ob.rows.length + s.size)) olds holen (strCells_rel (H := H) s) i' r hi' k a' hk'
              rw [hosz]
              simpa [List.append_assoc] using this) h1 h2
        exact fin _ _ ι (by rw [c2]; exact hrun) (.osl _ h1 (Nat.le_refl _) rfl fun _ => ⟨by simp [hlen2], .inl ⟨b, cap, 0, c1, by simp, fun _ => by simp⟩⟩) k2 k3
      · have holds : ∀ j v, (cs.toList.take ob.rows.length)[j]? = some v → w.cell? ((⟨b, 0, none⟩ : Addr).add j) = some v := by
          intro j v hv
          rw [Addr.add_lit, Nat.zero_add, cell_of_row w b _ cs ob.ty (0, 0) e2]
          rw [List.getElem?_take] at hv
          split at hv
          · simpa using hv
          · cases hv
        have hrun := run_append_grow_string (P := P) w T S o.type ob.ty i (.int .u8 0) hT hS hi hzi ⟨b, 0, none⟩ ob.rows.length cap _ (by rw [hsize]; simpa using holen) holds s (by omega) (by omega) (growslice_fits (by omega) (by rw [hby]; omega))
        have hge := grownCap_ge w (ob.rows.length + s.size) cap ob.ty
        have hcm := grownCap_le_maxLen w (ob.rows.length + s.size) cap ob.ty hml
        have hz1 : (Value.int IntKind.u8 0).cells.size = 1 := rfl
        obtain ⟨k2, k3⟩ := Rel.place (H' := H.set id ⟨ob.g + 1, 1, ob.ty, ob.rows ++ brows s.data.toList⟩) (id := id) (cap := grownCap w (ob.rows.length + s.size) cap ob.ty) (ob' := ⟨ob.g + 1, 1, ob.ty, ob.rows ++ brows s.data.toList⟩)
          (cs' := (cs.toList.take ob.rows.length).toArray ++ (strCells s).toArray ++ Builtin.zeroCells (Value.int .u8 0).cells (grownCap w (ob.rows.length + s.size) cap ob.ty - (ob.rows.length + s.size)))
          (w' := w.drew.alloc (.cells ((cs.toList.take ob.rows.length).toArray ++ (strCells s).toArray ++ Builtin.zeroCells (Value.int .u8 0).cells (grownCap w (ob.rows.length + s.size) cap ob.ty - (ob.rows.length + s.size))) ob.ty)) hr rfl rfl rfl rfl
          (fun o' ho' => by rw [hH] at ho'; cases ho'; simp) Nat.zero_lt_one (by
            simp only [Array.size_append, List.size_toArray, size_zeroCells, hz1, hslen, List.length_take, Array.length_toList]
            omega) (by simp only [List.length_append, hlen2]; exact hge) hcm hrl (fun i' r hi' k a' hk' => by
              obtain ⟨u, q1, q2, q3⟩ := LRel.app (l3 := (Builtin.zeroCells (Value.int .u8 0).cells (grownCap w (ob.rows.length + s.size) cap ob.ty - (ob.rows.length + s.size))).toList) olds holen (strCells_rel (H := H) s) i' r hi' k a' hk'
              refine ⟨u, ?_, q2, q3⟩
              rw [← Array.getElem?_toList]
              simpa [List.append_assoc] using q1) h1 h2
        exact fin _ _ _ (by rw [c2]; exact hrun) (.osl _ h1 (Nat.le_refl _) rfl fun _ => ⟨by simp [hlen2], .inl ⟨w.heap.size, _, 0, by simp; rfl, by simp, fun _ => by simp⟩⟩) k2 k3
    · rw [c1] at e1; cases e1
  · have hnil : ob.rows = [] := List.eq_nil_of_length_eq_zero c4
    by_cases h0 : s.size = 0
    · have hb0 : brows s.data.toList = [] := List.eq_nil_of_length_eq_zero (by rw [hlen2]; exact h0)
      have hrun : (Builtin.append_ #[T, S] o.type #[.slice none 0 0, .string s]).run P w = .ok (.slice none 0 0) w := by
        have hf := run_firstCells_string (P := P) w 1 s
        rw [h0] at hf
        simp [Builtin.append_, run_underlying hT, run_underlying hS, sizeOf, typeInfo, hi, hsize, Builtin.lenOf, h0, hf]
      obtain ⟨k2, k3⟩ := Rel.tick (H' := H.set id ⟨ob.g + 1, 1, ob.ty, ob.rows ++ brows s.data.toList⟩) (ob' := ⟨ob.g + 1, 1, ob.ty, ob.rows ++ brows s.data.toList⟩) hr hH (by simp) hosz.symm rfl (by simp [hb0]) h1 h2
      exact fin _ _ ι (by rw [c2]; exact hrun) (.osl _ h1 (Nat.le_refl _) rfl fun _ => ⟨by simp [hlen2], .inr ⟨c1, rfl, rfl, by simp [hnil, h0]⟩⟩) k2 k3
    · have hr0 := run_append_nil_string (P := P) w T S o.type ob.ty i (.int .u8 0) hT hS hi hzi s (by omega) (by omega) (by rw [hby]; omega)
      have hslen : (strCells s).length = s.size := strCells_length s
      have e1 : (s.data.map fun b => Value.int .u8 b.toNat) = (strCells s).toArray := by
        apply Array.ext'
        simp [strCells]
      rw [e1] at hr0
      have hml0 : s.size ≤ maxLen := by omega
      have hge := grownCap_ge w s.size 0 ob.ty
      have hcm := grownCap_le_maxLen w s.size 0 ob.ty hml0
      have hz1 : (Value.int IntKind.u8 0).cells.size = 1 := rfl
      obtain ⟨k2, k3⟩ := Rel.place (H' := H.set id ⟨ob.g + 1, 1, ob.ty, ob.rows ++ brows s.data.toList⟩) (id := id) (cap := grownCap w s.size 0 ob.ty) (ob' := ⟨ob.g + 1, 1, ob.ty, ob.rows ++ brows s.data.toList⟩)
        (cs' := (strCells s).toArray ++ Builtin.zeroCells (Value.int .u8 0).cells (grownCap w s.size 0 ob.ty - s.size))
        (w' := w.drew.alloc (.cells ((strCells s).toArray ++ Builtin.zeroCells (Value.int .u8 0).cells (grownCap w s.size 0 ob.ty - s.size)) ob.ty)) hr rfl rfl rfl rfl
        (fun o' ho' => by rw [hH] at ho'; cases ho'; simp) Nat.zero_lt_one (by
          simp only [Array.size_append, List.size_toArray, size_zeroCells, hz1, hslen]
          omega) (by simp only [List.length_append, hlen2, hnil, List.length_nil, Nat.zero_add]; exact hge) hcm hrl (fun i' r hi' k a' hk' => by
            simp only [hnil, List.nil_append] at hi'
            obtain ⟨u, q1, q2, q3⟩ := strCells_rel (w := w) (I := I) (ι := ι) (H := H) s i' r hi' k a' hk'
            have hlt := (List.getElem?_eq_some_iff.1 q1).1
            refine ⟨u, ?_, q2, q3⟩
            rw [Array.getElem?_append_left (by simpa using hlt)]
            simpa using q1) h1 h2
      exact fin _ _ _ (by rw [c2]; exact hr0) (.osl _ h1 (Nat.le_refl _) rfl fun _ => ⟨by simp [hlen2], .inl ⟨w.heap.size, _, 0, by simp; rfl, by simp [hnil], fun _ => by simp⟩⟩) k2 k3
/-- The rule in the form in which a walk uses it. -/
theorem x_append_str {e : TypeId} {id g n k : Nat} {ob : Ob} {s : ByteArray} {rows' : List (List AV)} (ho : o.op = .call { callee := .builtin .append, args := #[x, y], argTypes := #[T, S] }) (hSl : SliceOf P T e 1) (hS : P.underlying S = some .string) (hinf : EI P e 1 1) (hz0 : ∀ i, P.info? e = some i → i.zero = some (.int .u8 0))
    (hx : aeval E x = some (.osl id g 0 n)) (hH : H.get id = some ob) (hg : ob.g = g) (hosz : ob.sz = 1) (hty : ob.ty = e) (hn : ob.rows.length = n)
    (hy : aeval E y = some (.pv (.str s))) (hmax : n + s.size ≤ 140737488355328) (hk : n + s.size = k) (hrows : ob.rows ++ brows s.data.toList = rows') :
    OpD P N o E H (.osl id (g + 1) 0 k) ((id, ⟨g + 1, 1, e, rows'⟩) :: H) := by
  subst hk hrows
  exact OpD.congr (opd_append_str ho hSl.1 hS hinf.1 hz0 hx hH hg hosz hty hn hy hmax rfl) (fun j => set_cons _ _ _ j)
end
end Go.Abs
