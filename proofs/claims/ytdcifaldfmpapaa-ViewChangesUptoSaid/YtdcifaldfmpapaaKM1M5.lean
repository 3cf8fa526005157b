/-
  CONTRACTS: slices.Clone, Insert, Delete at the lists of the map: the clone is the caller's own object 901; what is put in is object 902; behind Insert and Delete object 901 is dead and the result never changes. Conditions: lengths below 2^40.
  CONTRACTS: atlas.valid, at, Put, Drop. Conditions: lengths below 2^40.
  PLAIN: a map with an object put in: valid, in order, and the same views. Conditions: none.
  CONTRACTS: package view's small functions. Conditions: lengths below 2^62.
  CONTRACTS: lists of Ids compared. Conditions: lengths below 2^62.
  PLAIN LAWS of Go's order of strings. Conditions: none.
  PLAIN LAWS of valid maps and their parts. Conditions: none.
  CONTRACTS: view.filter, objects, Of, Common. Conditions: lengths below 2^62.
  CONTRACTS: view.objects, Of, Common, Disputed. Conditions: lengths below 2^40.
  CONTRACTS: view.Of, Common, Disputed; the law's ids, without. Conditions: lengths below 2^40.
-/
import Derived.Test.YtdcifaldfmpapaaKM1M4
section
set_option linter.unusedVariables false
set_option linter.unusedSimpArgs false
set_option maxRecDepth 100000
namespace Go.Proofs.Ytdcifaldfmpapaa
open Go.Abs
theorem lbI_le {α : Type} (f : α → ByteArray) (l : List α) (s : ByteArray) : lbI f l s ≤ l.length := List.findIdx_le_length
theorem hasK_get {α : Type} {f : α → ByteArray} {l : List α} {s : ByteArray} (ha : asc f l) (h : hasK f l s = true) : ∃ o, l[lbI f l s]? = some o ∧ f o = s := by
  rw [hasK, List.any_eq_true] at h
  obtain ⟨x, hx, he⟩ := h
  have he := of_decide_eq_true he
  obtain ⟨k, hk⟩ := List.mem_iff_getElem?.1 hx
  have : lbI f l s = k := lbI_of (by have := (List.getElem?_eq_some_iff.1 hk).1; omega) (fun j hj o ho => by rw [← he]; exact asc_get ha hj ho hk) (fun o ho => by rw [hk] at ho; cases ho; rw [he, slt_irr])
  exact ⟨x, by rw [this]; exact hk, he⟩
abbrev pvR (ps : List (List PV)) : List (List AV) := ps.map (·.map .pv)
theorem pvR_take (ps : List (List PV)) (i : Nat) : (pvR ps).take i = pvR (ps.take i) := List.map_take.symm
theorem pvR_drop (ps : List (List PV)) (i : Nat) : (pvR ps).drop i = pvR (ps.drop i) := List.map_drop.symm
theorem pvR_len (ps : List (List PV)) : (pvR ps).length = ps.length := List.length_map _
theorem pvR_rl {ps : List (List PV)} {n : Nat} (h : ∀ r ∈ ps, r.length = n) : ∀ r ∈ pvR ps, r.length = n := fun r hr => by
  obtain ⟨q, hq, rfl⟩ := List.mem_map.1 hr
  rw [List.length_map]; exact h q hq
theorem clo_osl1 {id g off n : Nat} {H : Heap} (h : (H.get id).isSome = true) : ∀ r ∈ [[AV.osl id g off n]], ∀ x ∈ r, Clo H x := by simp [h]
/-- The rows while an element is put in. -/
theorem ins_a {α : Type} {R : List α} {z : α} {i n : Nat} (q : α) (hn : R.length = n) (hi : i < n) : (R.take i ++ List.replicate (n + 1 - i) z).take i ++ ([q] ++ (R.take i ++ List.replicate (n + 1 - i) z).drop (i + 1)) = R.take i ++ q :: List.replicate (n - i) z := by
  apply List.ext_getElem?
  intro k
  simp only [List.getElem?_append, List.getElem?_take, List.getElem?_drop, List.getElem?_replicate, List.length_append, List.length_take, List.length_replicate, List.length_drop, List.length_cons, List.length_nil, List.getElem?_cons]
  repeat' split
  all_goals first | rfl | omega | (congr 1; omega) | (symm; apply List.getElem?_eq_none; omega) | (apply List.getElem?_eq_none; omega)
theorem ins_b {α : Type} {R : List α} {z q : α} {i n : Nat} (hn : R.length = n) (hi : i < n) : (R.take i ++ q :: List.replicate (n - i) z).take (i + 1) ++ ((R.drop i).take (n - i) ++ (R.take i ++ q :: List.replicate (n - i) z).drop (i + 1 + (n - i))) = R.take i ++ q :: R.drop i := by
  apply List.ext_getElem?
  intro k
  simp only [List.getElem?_append, List.getElem?_take, List.getElem?_drop, List.getElem?_replicate, List.length_append, List.length_take, List.length_replicate, List.length_drop, List.length_cons, List.length_nil, List.getElem?_cons]
  repeat' split
  all_goals first | rfl | omega | (congr 1; omega) | (symm; apply List.getElem?_eq_none; omega) | (apply List.getElem?_eq_none; omega)
theorem ins_c {α : Type} {R : List α} {i n : Nat} (hn : R.length = n) (hi : i < n) : ∃ x, R.take (i + 1) ++ ((R.drop i).take (n - i) ++ R.drop (i + 1 + (n - i))) = R.take i ++ x :: R.drop i := by
  have hlt : i < R.length := by omega
  refine ⟨R[i], ?_⟩
  rw [List.take_succ_eq_append_getElem hlt, List.take_of_length_le (l := R.drop i) (by rw [List.length_drop]; omega), show R.drop (i + 1 + (n - i)) = [] from List.drop_eq_nil_of_le (by omega), List.append_nil, List.append_assoc]
  rfl
theorem ins_d {α : Type} {R : List α} {i n : Nat} (q x : α) (hn : R.length = n) (hi : i < n) : (R.take i ++ x :: R.drop i).take i ++ ([q] ++ (R.take i ++ x :: R.drop i).drop (i + 1)) = R.take i ++ q :: R.drop i := by
  have h1 : (R.take i).length = i := by rw [List.length_take]; omega
  rw [List.take_left' h1, show R.take i ++ x :: R.drop i = (R.take i ++ [x]) ++ R.drop i by simp, List.drop_left' (by simp [h1])]
  simp
/-- The one object in front is what is returned, for good. -/
theorem Fin.sliceG {G0 H H1 : Heap} {id g n : Nat} (ob : Ob) (ps : List (List PV)) (hH1 : ∀ j, Heap.get ((id, ob) :: H) j = H1.get j) (hg : ob.g = g) (hps : ob.rows = ps.map (·.map .pv)) (hn : ps.length = n) (hc : Closed H) (hid : H.get id = none) (hG : G0.get id = none) :
    Fin G0 H1 (.osl id g 0 n) H (.pv (.sl ps)) :=
  (Fin.get' (H' := (id, ob) :: H) hH1).trans (Fin.slice [(id, ob)] ps (get_cons_same _ _ _) hg hps hn hc (by simp [hid]) (by simp [hG]) hid)
/-- An object of the caller's ends with what is returned. -/
theorem Fin.deadG {G0 H H1 : Heap} {id k g off n sz ty : Nat} {rows : List (List AV)} {qs : List (List PV)} (ps : List (List PV)) (hH1 : ∀ j, Heap.get ((id, (⟨g, sz, ty, rows⟩ : Ob)) :: H) j = H1.get j) (hk : g < k) (hsz : Nat.blt 0 sz = true) (hps : rows = ps.map (·.map .pv)) (hq : (ps.take (off + n)).drop off = qs) :
    Fin G0 H1 (.osl id g off n) ((id, ⟨k, sz, ty, []⟩) :: H) (.pv (.sl qs)) :=
  ((Fin.get' (H' := (id, ⟨g, sz, ty, rows⟩) :: H) hH1).trans (Fin.deadS ps (get_cons_same _ _ _) rfl hk (by simpa [Nat.blt_eq] using hsz) rfl rfl hps hq)).trans (Fin.get' (fun j => get_dup _ _ _ _ j))
/-- slices.Clone at planisphere/api.Object. -/
theorem clone_Obj (ps : List (List PV)) (H : Heap) (hc : Closed H) (h1 : H.get 901 = none) (h2 : H.get 902 = none) (hl : ps.length < 1099511627776) (hrl : ∀ r ∈ ps, r.length = 6) :
    ACalls Try.prog 43 [.pv (.sl ps)] H (fun r H' => r = .osl 901 1 0 ps.length ∧ H' = (901, ⟨1, 6, 30, pvR ps⟩) :: H) := by
  refine ACalls.body Try.func43 rfl Try.ntmps43 (Nat.le_of_ble_eq_true rfl) ?_
  refine awp_seq ?_
  refine awp_region ?_
  refine al_d rfl rfl rfl (by exact opd_assign rfl rfl) ?_
  refine al_nil ?_
  refine awp_seq ?_
  refine awp_seq ?_
  refine awp_region ?_
  refine al_d rfl rfl rfl (by exact opd_move rfl rfl) ?_
  -- op at slices.go:357 slot 4 binOp [["id", "BinOp.eql"], ["num", 22], ["app", "Operand.tmp", [["num", 3]]], ["app", "Operand.const", [["app", "Value.slice", [["id", "none"], ["num", 0], ["num", 0
  refine al_r rfl rfl (opr_sl_nil rfl Try.underlying22 rfl) ?_
  rintro _ H2 ⟨e2, b, rfl, hb⟩
  rw [e2]
  clear e2 H2
  refine al_nil ?_
  refine awp_cond rfl (fun hc1 => ?_) (fun hc1 => ?_)
  -- cond 1
  · have h0 := hb hc1
    subst h0
    refine awp_seq ?_
    refine awp_region ?_
    refine al_d rfl rfl rfl (by exact opd_assign_own (id := 901) (sz := 6) (ty := 30) rfl h1 rfl) ?_
    refine al_nil ?_
    refine awp_ret ?_
    -- return
    refine aret1 (H' := ((901, ⟨1, 6, 30, []⟩) :: H)) (by first | exact .inr rfl | exact .inl rfl) rfl (rval_tmp rfl) ((Fin.bump (g := 0) (k := 1) rfl rfl (by decide) rfl rfl rfl).trans (Fin.get' (fun j => get_dup _ _ _ _ j))) ?_
    exact ⟨rfl, rfl⟩
  · skip
    refine awp_skip ?_
    refine awp_seq ?_
    refine awp_region ?_
    refine al_d rfl rfl rfl (by exact x_buildSlice_own (id := 901) rfl so22 rfl rfl rfl rfl (by simp) h1) ?_
    refine al_d rfl rfl rfl (by exact opd_move rfl rfl) ?_
    refine al_d rfl rfl rfl (by exact (by first | exact x_append rfl so22 ei30 rfl rfl rfl rfl rfl rfl rfl hrl rfl (by omega) (Nat.zero_add _) (List.nil_append _) | exact x_append_osl rfl so22 ei30 rfl rfl rfl rfl rfl rfl rfl rfl rfl rfl hrl rfl (by omega) (Nat.zero_add _) (List.nil_append _))) ?_
    refine al_d rfl rfl rfl (by exact opd_assign rfl rfl) ?_
    refine al_nil ?_
    refine awp_ret ?_
    -- return
    refine aret1 (H' := ((901, ⟨1, 6, 30, pvR ps⟩) :: H)) (by first | exact .inr rfl | exact .inl rfl) rfl (rval_tmp rfl) (Fin.get' (fun j => get_dup _ _ _ _ j)) ?_
    exact ⟨rfl, rfl⟩
/-- slices.Insert of one element at planisphere/api.Object. -/
theorem insert_Obj (ps : List (List PV)) (p : List PV) (i g : Nat) (H : Heap) (hc : Closed H) (h1 : H.get 901 = some ⟨g, 6, 30, pvR ps⟩) (h2 : H.get 902 = some ⟨0, 6, 30, [p.map .pv]⟩) (h3 : H.get 903 = none) (hl : ps.length < 1099511627776) (hi : i ≤ ps.length) (hrl : ∀ r ∈ ps, r.length = 6) (hp : p.length = 6) :
    ACalls Try.prog 44 [.osl 901 g 0 ps.length, iv (i : Int), .osl 902 0 0 1] H (fun r H' => r = .pv (.sl (ps.take i ++ p :: ps.drop i)) ∧ H' = (901, ⟨g + 3, 6, 30, []⟩) :: H) := by
  have hpl : (pvR ps).length = ps.length := pvR_len ps
  have hR := pvR_rl hrl
  have hp1 : ∀ r ∈ [p.map AV.pv], r.length = 6 := by intro r hr; rw [List.mem_singleton] at hr; subst hr; rw [List.length_map]; exact hp
  have hfin : pvR (ps.take i ++ p :: ps.drop i) = (pvR ps).take i ++ p.map AV.pv :: (pvR ps).drop i := by rw [pvR_take, pvR_drop, pvR, List.map_append, List.map_cons]
  refine ACalls.body Try.func44 rfl Try.ntmps44 (Nat.le_of_ble_eq_true rfl) ?_
  refine awp_cap (t := 0) rfl h1 rfl ?_
  intro c hcn hcm
  refine awp_seq ?_
  refine awp_region ?_
  refine al_d rfl rfl rfl (by exact opd_assign rfl rfl) ?_
  refine al_nil ?_
  refine awp_seq ?_
  refine awp_region ?_
  refine al_d rfl rfl rfl (by exact opd_move rfl rfl) ?_
  refine al_d rfl rfl rfl (by exact opd_move rfl rfl) ?_
  refine al_d rfl rfl rfl (by exact x_slice_osc (l := i) (h := ps.length) rfl so22 rfl h1 rfl rfl rfl rfl hi hcn rfl rfl rfl) ?_
  refine al_nil ?_
  refine awp_seq ?_
  refine awp_region ?_
  refine al_d rfl rfl rfl (by exact opd_move rfl rfl) ?_
  refine al_d rfl rfl rfl (by exact (by first | exact opd_len_sl rfl Try.underlying22 rfl | exact opd_len_osl rfl Try.underlying22 rfl h2 rfl)) ?_
  refine al_d rfl rfl rfl (by exact opd_assign rfl rfl) ?_
  refine al_nil ?_
  refine awp_seq ?_
  refine awp_seq ?_
  refine awp_region ?_
  refine al_d rfl rfl rfl (by exact opd_move rfl rfl) ?_
  refine al_d rfl rfl rfl (by exact opd_eql rfl rfl rfl) ?_
  refine al_nil ?_
  refine awp_cond rfl (fun hc1 => ?_) (fun hc1 => ?_)
  -- cond 1
  · cases hc1
  · skip
    refine awp_skip ?_
    refine awp_seq ?_
    refine awp_region ?_
    refine al_d rfl rfl rfl (by exact opd_move rfl rfl) ?_
    refine al_d rfl rfl rfl (by exact opd_len_osc rfl Try.underlying22 rfl h1 rfl) ?_
    refine al_d rfl rfl rfl (by exact opd_assign rfl rfl) ?_
    refine al_nil ?_
    refine awp_seq ?_
    refine awp_seq ?_
    refine awp_region ?_
    refine al_d rfl rfl rfl (by exact opd_move rfl rfl) ?_
    refine al_d rfl rfl rfl (by exact opd_move rfl rfl) ?_
    refine al_d rfl rfl rfl (by exact opd_eql rfl rfl rfl) ?_
    refine al_nil ?_
    refine awp_cond rfl (fun hc2 => ?_) (fun hc2 => ?_)
    -- cond 2
    · have hin : i = ps.length := by have := of_decide_eq_true hc2; omega
      subst hin
      refine awp_uncap (t := 0) rfl h1 rfl (by rw [hpl]; omega) ?_
      refine awp_seq ?_
      refine awp_region ?_
      refine al_d rfl rfl rfl (by exact opd_move rfl rfl) ?_
      refine al_d rfl rfl rfl (by exact opd_move rfl rfl) ?_
      refine al_d rfl rfl rfl (by exact x_append_osl rfl so22 ei30 rfl h1 rfl rfl rfl hpl rfl h2 rfl rfl hp1 (by simp) (by omega) rfl rfl) ?_
      refine al_d rfl rfl rfl (by exact opd_assign rfl rfl) ?_
      refine al_nil ?_
      refine awp_ret ?_
      -- return
      refine aret1 (H' := ((901, ⟨g + 3, 6, 30, []⟩) :: H)) (by first | exact .inr rfl | exact .inl rfl) rfl (rval_tmp rfl) ((Fin.deadS (g := g + 1) (k := g + 3) (sz := 6) (ty := 30) (ps ++ [p]) rfl rfl (by omega) (Nat.le_of_ble_eq_true rfl) rfl rfl (by rw [List.map_append]; rfl) (qs := ps.take ps.length ++ p :: ps.drop ps.length) (by rw [List.take_of_length_le (by simp), List.drop_zero, List.take_length, List.drop_length])).trans (Fin.get' (fun j => get_dup _ _ _ _ j))) ?_
      exact ⟨rfl, rfl⟩
    · have hin : i < ps.length := by have := of_decide_eq_false hc2; omega
      refine awp_skip ?_
      refine awp_seq ?_
      refine awp_seq ?_
      refine awp_region ?_
      refine al_d rfl rfl rfl (by exact opd_move rfl rfl) ?_
      refine al_d rfl rfl rfl (by exact opd_move rfl rfl) ?_
      refine al_d rfl rfl rfl (by exact opd_add rfl rfl rfl (by first | exact w64 (by omega) (by omega) | exact wu8 (by omega) (by omega) | rfl)) ?_
      refine al_d rfl rfl rfl (by exact opd_move rfl rfl) ?_
      refine al_d rfl rfl rfl (by exact opd_cap_osc rfl Try.underlying22 rfl h1 rfl) ?_
      refine al_d rfl rfl rfl (by exact opd_gtr rfl rfl rfl) ?_
      refine al_nil ?_
      refine awp_cond rfl (fun hc3 => ?_) (fun hc3 => ?_)
      -- cond 3
      · have hgt : c < ps.length + 1 := by have := of_decide_eq_true hc3; omega
        refine awp_seq ?_
        refine awp_region ?_
        refine al_d rfl rfl rfl (by exact opd_move rfl rfl) ?_
        refine al_d rfl rfl rfl (by exact opd_move rfl rfl) ?_
        refine al_d rfl rfl rfl (by exact x_slice_osc (l := 0) (h := i) rfl so22 rfl h1 rfl rfl rfl rfl (by omega) (by omega) rfl rfl rfl) ?_
        refine al_d rfl rfl rfl (by exact opd_move rfl rfl) ?_
        refine al_d rfl rfl rfl (by exact opd_move rfl rfl) ?_
        refine al_d rfl rfl rfl (by exact opd_add rfl rfl rfl (by first | exact w64 (by omega) (by omega) | exact wu8 (by omega) (by omega) | rfl)) ?_
        refine al_d rfl rfl rfl (by exact opd_move rfl rfl) ?_
        refine al_d rfl rfl rfl (by exact opd_sub rfl rfl rfl (by first | exact w64 (by omega) (by omega) | exact wu8 (by omega) (by omega) | rfl)) ?_
        refine al_d rfl rfl rfl (by exact x_append_zeros (id2 := 903) (m := ps.length + 1 - i) rfl so22 Try.underlying3 ei30 zo30 rfl rfl h1 rfl rfl (by rw [hpl]; omega) rfl (by omega) (by omega) (by omega) rfl (by omega) h3 rfl) ?_
        refine al_d rfl rfl rfl (by exact opd_assign rfl rfl) ?_
        refine al_nil ?_
        refine awp_seq ?_
        refine awp_region ?_
        refine al_d rfl rfl rfl (by exact opd_move rfl rfl) ?_
        refine al_d rfl rfl rfl (by exact opd_move rfl rfl) ?_
        refine al_d rfl rfl rfl (by exact x_slice_osl (l := i) (h := i + (ps.length + 1 - i)) rfl so22 rfl rfl rfl rfl rfl rfl (by omega) (by omega) (Nat.zero_add _) (by omega : i + (ps.length + 1 - i) - i = ps.length + 1 - i)) ?_
        refine al_d rfl rfl rfl (by exact opd_move rfl rfl) ?_
        refine al_d rfl rfl rfl (by exact x_copy (n := 1) rfl so22 (dst_of_osl rfl rfl rfl) rfl rfl rfl (by simp only [List.length_append, List.length_take, List.length_replicate, hpl]; omega) (src_of_osl (k := 1) rfl h2 rfl rfl (by omega) rfl) hp1 rfl (by omega) (ins_a (p.map AV.pv) hpl hin)) ?_
        refine al_nil ?_
        refine awp_seq ?_
        refine awp_drawc follows ?_
        refine dc_cons (r := ⟨_, some [], []⟩) (DStep.plain rfl (fun H1 hH => by exact opd_move rfl rfl)) rfl ?_
        refine dc_cons (r := ⟨_, some [], []⟩) (DStep.plain rfl (fun H1 hH => by exact opd_move rfl rfl)) rfl ?_
        refine dc_cons (r := ⟨_, some [], []⟩) (DStep.plain rfl (fun H1 hH => by exact opd_move rfl rfl)) rfl ?_
        refine dc_cons (r := ⟨_, some [], []⟩) (DStep.plain rfl (fun H1 hH => by exact opd_add rfl rfl rfl (by first | exact w64 (by omega) (by omega) | exact wu8 (by omega) (by omega) | rfl))) rfl ?_
        refine dc_cons (r := ⟨_, some [903], []⟩) (DStep.plain rfl (fun H1 hH => by exact x_slice_osl (l := i + 1) (h := i + (ps.length + 1 - i)) rfl so22 rfl ((hH 903 rfl).trans rfl) rfl rfl rfl rfl (by omega) (by omega) (Nat.zero_add _) (by omega : i + (ps.length + 1 - i) - (i + 1) = ps.length - i))) rfl ?_
        refine dc_cons (r := ⟨_, some [], []⟩) (DStep.plain rfl (fun H1 hH => by exact opd_move rfl rfl)) rfl ?_
        refine dc_cons (r := ⟨_, some [], []⟩) (DStep.plain rfl (fun H1 hH => by exact opd_move rfl rfl)) rfl ?_
        refine dc_cons (r := ⟨_, some [901], []⟩) (DStep.plain rfl (fun H1 hH => by exact x_slice_osc (l := i) (h := ps.length) rfl so22 rfl ((hH 901 rfl).trans h1) rfl rfl rfl rfl (by omega) (by omega) (Nat.zero_add _) rfl rfl)) rfl ?_
        refine dc_cons (r := ⟨_, some [901, 903], [_]⟩) (DStep.plain rfl (fun H1 hH => by exact x_copy (n := ps.length - i) rfl so22 (dst_of_osl rfl ((hH 903 rfl).trans rfl) rfl) ((hH 903 rfl).trans rfl) rfl rfl (by simp only [List.length_append, List.length_take, List.length_replicate, List.length_cons, hpl]; omega) (src_of_osc (k := ps.length - i) rfl ((hH 901 rfl).trans h1) rfl rfl (by omega) (by rw [hpl]; omega) rfl) (fun r hr => hR r (List.mem_of_mem_drop (List.mem_of_mem_take hr))) (by rw [List.length_take, List.length_drop, hpl]; omega) (by omega) (ins_b hpl hin))) rfl ?_
        refine dc_nil ⟨by kernel_rfl, ?_⟩
        refine awp_seq ?_
        refine awp_region ?_
        refine al_d rfl rfl rfl (by exact opd_move rfl rfl) ?_
        refine al_d rfl rfl rfl (by exact opd_assign rfl rfl) ?_
        refine al_nil ?_
        refine awp_ret ?_
        -- return
        refine aret1 (H' := ((901, ⟨g + 3, 6, 30, []⟩) :: H)) (by first | exact .inr rfl | exact .inl rfl) rfl (rval_tmp rfl) ((Fin.sliceG (id := 903) (g := 0) ⟨0, 6, 30, (pvR ps).take i ++ p.map AV.pv :: (pvR ps).drop i⟩ (ps.take i ++ p :: ps.drop i) (fun j => by cases e : Nat.beq 903 j <;> simp [Heap.get, e]) rfl hfin.symm (by simp only [List.length_append, List.length_take, List.length_cons, List.length_drop]; omega) hc h3 h3).trans (Fin.deadO (k := g + 3) (sz := 6) (ty := 30) h1 (by show g < g + 3; omega) (Nat.le_of_ble_eq_true rfl) rfl rfl)) ?_
        exact ⟨rfl, rfl⟩
      · have hle : ps.length + 1 ≤ c := by have := of_decide_eq_false hc3; omega
        obtain ⟨x, hx⟩ := ins_c hpl hin
        refine awp_skip ?_
        refine awp_seq ?_
        refine awp_region ?_
        refine al_d rfl rfl rfl (by exact opd_move rfl rfl) ?_
        refine al_d rfl rfl rfl (by exact opd_move rfl rfl) ?_
        refine al_d rfl rfl rfl (by exact opd_move rfl rfl) ?_
        refine al_d rfl rfl rfl (by exact opd_add rfl rfl rfl (by first | exact w64 (by omega) (by omega) | exact wu8 (by omega) (by omega) | rfl)) ?_
        refine al_d rfl rfl rfl (by exact x_slice_osc (l := 0) (h := ps.length + 1) rfl so22 rfl h1 rfl rfl rfl rfl (by omega) hle rfl rfl rfl) ?_
        refine al_d rfl rfl rfl (by exact opd_assign rfl rfl) ?_
        refine al_nil ?_
        refine awp_seq ?_
        refine awp_seq ?_
        refine awp_region ?_
        refine al_d rfl rfl rfl (by exact opd_move rfl rfl) ?_
        refine al_d rfl rfl rfl (by exact opd_move rfl rfl) ?_
        refine al_d rfl rfl rfl (by exact opd_move rfl rfl) ?_
        refine al_d rfl rfl rfl (by exact opd_move rfl rfl) ?_
        refine al_d rfl rfl rfl (by exact opd_add rfl rfl rfl (by first | exact w64 (by omega) (by omega) | exact wu8 (by omega) (by omega) | rfl)) ?_
        refine al_d rfl rfl rfl (by exact x_slice_osc (l := i + 1) (h := ps.length + 1) rfl so22 rfl h1 rfl rfl rfl rfl (by omega) hle (Nat.zero_add _) (by omega : ps.length + 1 - (i + 1) = ps.length - i) rfl) ?_
        refine al_d rfl rfl rfl (by exact opd_extr rfl rfl Try.func86 rfl rfl rfl rfl rfl (ext_overlaps so22 h2 rfl h1 rfl rfl (by omega) (by omega))) ?_
        refine al_d rfl rfl rfl (by exact opd_not rfl rfl) ?_
        refine al_nil ?_
        refine awp_cond rfl (fun hc4 => ?_) (fun hc4 => ?_)
        -- cond 4
        · skip
          refine awp_seq ?_
          refine awp_drawc follows ?_
          refine dc_cons (r := ⟨_, some [], []⟩) (DStep.plain rfl (fun H1 hH => by exact opd_move rfl rfl)) rfl ?_
          refine dc_cons (r := ⟨_, some [], []⟩) (DStep.plain rfl (fun H1 hH => by exact opd_move rfl rfl)) rfl ?_
          refine dc_cons (r := ⟨_, some [], []⟩) (DStep.plain rfl (fun H1 hH => by exact opd_move rfl rfl)) rfl ?_
          refine dc_cons (r := ⟨_, some [], []⟩) (DStep.plain rfl (fun H1 hH => by exact opd_add rfl rfl rfl (by first | exact w64 (by omega) (by omega) | exact wu8 (by omega) (by omega) | rfl))) rfl ?_
          refine dc_cons (r := ⟨_, some [901], []⟩) (DStep.plain rfl (fun H1 hH => by exact x_slice_osc (l := i + 1) (h := ps.length + 1) rfl so22 rfl ((hH 901 rfl).trans h1) rfl rfl rfl rfl (by omega) hle (Nat.zero_add _) (by omega : ps.length + 1 - (i + 1) = ps.length - i) rfl)) rfl ?_
          refine dc_cons (r := ⟨_, some [], []⟩) (DStep.plain rfl (fun H1 hH => by exact opd_move rfl rfl)) rfl ?_
          refine dc_cons (r := ⟨_, some [], []⟩) (DStep.plain rfl (fun H1 hH => by exact opd_move rfl rfl)) rfl ?_
          refine dc_cons (r := ⟨_, some [901], []⟩) (DStep.plain rfl (fun H1 hH => by exact x_slice_osc (l := i) (h := ps.length + 1) rfl so22 rfl ((hH 901 rfl).trans h1) rfl rfl rfl rfl (by omega) hle (Nat.zero_add _) rfl rfl)) rfl ?_
          refine dc_cons (r := ⟨_, some [901], [_]⟩) (DStep.plain rfl (fun H1 hH => by exact x_copy (n := ps.length - i) rfl so22 (dst_of_osc rfl) ((hH 901 rfl).trans h1) rfl rfl (by rw [hpl]; omega) (src_of_osc (k := ps.length - i) rfl ((hH 901 rfl).trans h1) rfl rfl (by omega) (by rw [hpl]; omega) rfl) (fun r hr => hR r (List.mem_of_mem_drop (List.mem_of_mem_take hr))) (by rw [List.length_take, List.length_drop, hpl]; omega) (by omega) hx)) rfl ?_
          refine dc_nil ⟨by kernel_rfl, ?_⟩
          refine awp_seq ?_
          refine awp_region ?_
          refine al_d rfl rfl rfl (by exact opd_move rfl rfl) ?_
          refine al_d rfl rfl rfl (by exact opd_move rfl rfl) ?_
          refine al_d rfl rfl rfl (by exact x_slice_osc (l := i) (h := ps.length + 1) rfl so22 rfl rfl rfl rfl rfl rfl (by omega) hle (Nat.zero_add _) rfl rfl) ?_
          refine al_d rfl rfl rfl (by exact opd_move rfl rfl) ?_
          refine al_d rfl rfl rfl (by exact x_copy (n := 1) rfl so22 (dst_of_osc rfl) rfl rfl rfl (by simp only [List.length_append, List.length_take, List.length_cons, hpl]; omega) (src_of_osl (k := 1) rfl h2 rfl rfl (by omega) rfl) hp1 rfl (by omega) (ins_d (p.map AV.pv) x hpl hin)) ?_
          refine al_nil ?_
          refine awp_seq ?_
          -- before the slot
          refine awp_uncap (t := 0) rfl rfl rfl (by simp only [List.length_append, List.length_take, List.length_cons, List.length_drop, hpl]; omega) ?_
          refine awp_region ?_
          refine al_d rfl rfl rfl (by exact opd_move rfl rfl) ?_
          refine al_d rfl rfl rfl (by exact opd_assign rfl rfl) ?_
          refine al_nil ?_
          refine awp_ret ?_
          -- return
          refine aret1 (H' := ((901, ⟨g + 3, 6, 30, []⟩) :: H)) (by first | exact .inr rfl | exact .inl rfl) rfl (rval_tmp rfl) (Fin.deadG (id := 901) (k := g + 3) (sz := 6) (ty := 30) (rows := (pvR ps).take i ++ p.map AV.pv :: (pvR ps).drop i) (qs := ps.take i ++ p :: ps.drop i) (ps.take i ++ p :: ps.drop i) (fun j => by cases e : Nat.beq 901 j <;> simp [Heap.get, e]) (by omega) rfl hfin.symm (by rw [List.drop_zero]; exact List.take_of_length_le (by simp only [List.length_append, List.length_take, List.length_cons, List.length_drop]; omega))) ?_
          exact ⟨rfl, rfl⟩
        · cases hc4
end Go.Proofs.Ytdcifaldfmpapaa
end
section
set_option linter.unusedVariables false
set_option linter.unusedSimpArgs false
set_option maxRecDepth 100000
namespace Go.Proofs.Ytdcifaldfmpapaa
open Go.Abs

def encMap (m : List GObj) : List PV := [slObjs m]
/-- slices.IndexFunc at planisphere/api.Object. -/
theorem indexFunc_GObj (fv : AV) (l : List (GObj)) (p : (GObj) → Bool) (H : Heap) (hl : l.length < 4611686018427387904) (hf : ∀ o, o ∈ l → CallsV Try.prog fv [.agg ((encObj o).map .pv)] H (fun r H' => r = .pv (.bool (p o)) ∧ H' = H)) :
    ACalls Try.prog 46 [.pv (.sl (l.map encObj)), fv] H (fun r H' => r = .pv (.int .i64 (gidx p l)) ∧ H' = H) := by
  refine ACalls.body Try.func46 rfl Try.ntmps46 (Nat.le_of_ble_eq_true rfl) ?_
  refine awp_seq ?_
  refine awp_region ?_
  refine al_d rfl rfl rfl (by exact opd_assign rfl rfl) ?_
  refine al_nil ?_
  refine awp_seq ?_
  refine awp_seq ?_
  refine awp_region ?_
  refine al_d rfl rfl rfl (by exact opd_move rfl rfl) ?_
  refine al_d rfl rfl rfl (by exact (by first | exact opd_len_sl rfl Try.underlying22 rfl | exact opd_len_osl rfl Try.underlying22 rfl rfl rfl)) ?_
  refine al_d rfl rfl rfl (by exact opd_move rfl rfl) ?_
  refine al_nil ?_
  refine awp_block ?_
  -- loop
  refine awp_loop (σ := Nat) (fun k => ([(0, .pv (.sl (l.map encObj))), (1, fv), (7, .pv (.int .i64 (l.map encObj).length)), (8, .pv (.int .i64 (k : Int)))], H)) (fun k => k ≤ l.length ∧ ∀ j, j < k → ∀ b, l[j]? = some b → p b = false) (fun k => l.length - k) 0 ⟨by omega, by omega⟩ ?_ ?_
  · exact Ent.e0 ⟨⟨_, rfl, rfl⟩, ⟨_, rfl, rfl⟩, ⟨_, rfl, rfl⟩, ⟨_, rfl, rfl⟩, trivial⟩
  · rintro k ⟨hk, hno⟩
    refine awp_seq ?_
    refine awp_region ?_
    refine al_d rfl rfl rfl (by exact opd_lss rfl rfl rfl) ?_
    refine al_nil ?_
    refine awp_seq ?_
    refine awp_cond rfl (fun hc1 => ?_) (fun hc1 => ?_)
    -- cond 1
    · have hlt : k < l.length := by simpa using hc1
      obtain ⟨o, ho⟩ := get_of_lt hlt
      have hi := map_get (f := encObj) ho
      have hfo := hf o (List.mem_of_getElem? ho)
      refine awp_skip ?_
      refine awp_seq ?_
      refine awp_block ?_
      refine awp_seq ?_
      refine awp_region ?_
      refine al_d rfl rfl rfl (by exact opd_move rfl rfl) ?_
      refine al_d rfl rfl rfl (by exact opd_assign rfl rfl) ?_
      refine al_nil ?_
      refine awp_seq ?_
      refine awp_region ?_
      refine al_d rfl rfl rfl (by exact opd_move rfl rfl) ?_
      refine al_d rfl rfl rfl (by exact opd_move rfl rfl) ?_
      refine al_d rfl rfl rfl (by exact opd_move rfl rfl) ?_
      refine al_d rfl rfl rfl (by exact (by first | exact x_index_pad rfl so22 rfl rfl (by omega) (by first | exact Int.toNat_natCast _ | rfl) (by assumption) rfl | exact x_index_osl rfl so22 rfl rfl rfl rfl rfl (by omega) (by first | exact Int.toNat_natCast _ | rfl) (by first | omega | assumption) rfl)) ?_
      refine al_d rfl rfl rfl (by exact (by first | exact opd_loadn_ref rfl Try.isAgg30 Try.sizeOf30 rfl rfl rfl rfl (by simp only [List.drop_succ_cons, List.drop_zero, List.take_succ_cons, List.take_zero, List.take_nil, List.map_cons, List.map_nil, List.set_cons_zero, List.set_cons_succ, List.cons_append, List.nil_append, encObj]; rfl) rfl | exact opd_loadn_pad rfl Try.isAgg30 Try.sizeOf30 rfl (by first | omega | assumption) (by simp only [List.drop_succ_cons, List.drop_zero, List.take_succ_cons, List.take_zero, List.take_nil, List.map_cons, List.map_nil, List.set_cons_zero, List.set_cons_succ, List.cons_append, List.nil_append, encObj]; rfl) rfl)) ?_
      refine al_d rfl rfl rfl (by exact opr_callV rfl rfl rfl (hfo)) ?_
      refine al_nil ?_
      refine awp_cond rfl (fun hc2 => ?_) (fun hc2 => ?_)
      -- cond 2
      · skip
        refine awp_seq ?_
        refine awp_region ?_
        refine al_d rfl rfl rfl (by exact opd_move rfl rfl) ?_
        refine al_d rfl rfl rfl (by exact opd_assign rfl rfl) ?_
        refine al_nil ?_
        refine awp_ret ?_
        -- return
        exact aret1 (H' := H) (.inr rfl) rfl (rval_tmp rfl) Fin.refl ⟨by rw [gidx, fidx_some hno ho hc2], rfl⟩
      · skip
        refine awp_skip ?_
        refine awp_region ?_
        refine al_d rfl rfl rfl (by exact opd_add rfl rfl rfl (by first | exact w64 (by omega) (by omega) | exact wu8 (by omega) (by omega) | rfl)) ?_
        refine al_d rfl rfl rfl (by exact opd_move rfl rfl) ?_
        refine al_nil ?_
        -- end of a round
        refine ⟨k + 1, ⟨by omega, fun j hj b hb => ?_⟩, by omega, Ent.e0 ⟨⟨_, rfl, rfl⟩, ⟨_, rfl, rfl⟩, ⟨_, rfl, rfl⟩, ⟨_, rfl, rfl⟩, trivial⟩⟩
        by_cases e : j = k
        · subst e; rw [ho] at hb; cases hb; exact hc2
        · exact hno j (by omega) b hb
    · have hge : k = l.length := by have : l.length ≤ k := by simpa using hc1
                                    omega
      subst hge
      refine awp_exit ?_
      refine awp_seq ?_
      refine awp_region ?_
      refine al_d rfl rfl rfl (by exact opd_assign rfl rfl) ?_
      refine al_nil ?_
      refine awp_ret ?_
      -- return
      exact aret1 (H' := H) (.inr rfl) rfl (rval_tmp rfl) Fin.refl ⟨by rw [gidx, fidx_none hno], rfl⟩
/-- slices.IndexFunc at planisphere/api.Map. -/
theorem indexFunc_Map (fv : AV) (l : List (List GObj)) (p : (List GObj) → Bool) (H : Heap) (hl : l.length < 4611686018427387904) (hf : ∀ o, o ∈ l → CallsV Try.prog fv [.agg ((encMap o).map .pv)] H (fun r H' => r = .pv (.bool (p o)) ∧ H' = H)) :
    ACalls Try.prog 110 [.pv (.sl (l.map encMap)), fv] H (fun r H' => r = .pv (.int .i64 (gidx p l)) ∧ H' = H) := by
  refine ACalls.body Try.func110 rfl Try.ntmps110 (Nat.le_of_ble_eq_true rfl) ?_
  refine awp_seq ?_
  refine awp_region ?_
  refine al_d rfl rfl rfl (by exact opd_assign rfl rfl) ?_
  refine al_nil ?_
  refine awp_seq ?_
  refine awp_seq ?_
  refine awp_region ?_
  refine al_d rfl rfl rfl (by exact opd_move rfl rfl) ?_
  refine al_d rfl rfl rfl (by exact (by first | exact opd_len_sl rfl Try.underlying110 rfl | exact opd_len_osl rfl Try.underlying110 rfl rfl rfl)) ?_
  refine al_d rfl rfl rfl (by exact opd_move rfl rfl) ?_
  refine al_nil ?_
  refine awp_block ?_
  -- loop
  refine awp_loop (σ := Nat) (fun k => ([(0, .pv (.sl (l.map encMap))), (1, fv), (7, .pv (.int .i64 (l.map encMap).length)), (8, .pv (.int .i64 (k : Int)))], H)) (fun k => k ≤ l.length ∧ ∀ j, j < k → ∀ b, l[j]? = some b → p b = false) (fun k => l.length - k) 0 ⟨by omega, by omega⟩ ?_ ?_
  · exact Ent.e0 ⟨⟨_, rfl, rfl⟩, ⟨_, rfl, rfl⟩, ⟨_, rfl, rfl⟩, ⟨_, rfl, rfl⟩, trivial⟩
  · rintro k ⟨hk, hno⟩
    refine awp_seq ?_
    refine awp_region ?_
    refine al_d rfl rfl rfl (by exact opd_lss rfl rfl rfl) ?_
    refine al_nil ?_
    refine awp_seq ?_
    refine awp_cond rfl (fun hc1 => ?_) (fun hc1 => ?_)
    -- cond 1
    · have hlt : k < l.length := by simpa using hc1
      obtain ⟨o, ho⟩ := get_of_lt hlt
      have hi := map_get (f := encMap) ho
      have hfo := hf o (List.mem_of_getElem? ho)
      refine awp_skip ?_
      refine awp_seq ?_
      refine awp_block ?_
      refine awp_seq ?_
      refine awp_region ?_
      refine al_d rfl rfl rfl (by exact opd_move rfl rfl) ?_
      refine al_d rfl rfl rfl (by exact opd_assign rfl rfl) ?_
      refine al_nil ?_
      refine awp_seq ?_
      refine awp_region ?_
      refine al_d rfl rfl rfl (by exact opd_move rfl rfl) ?_
      refine al_d rfl rfl rfl (by exact opd_move rfl rfl) ?_
      refine al_d rfl rfl rfl (by exact opd_move rfl rfl) ?_
      refine al_d rfl rfl rfl (by exact (by first | exact x_index_pad rfl so110 rfl rfl (by omega) (by first | exact Int.toNat_natCast _ | rfl) (by assumption) rfl | exact x_index_osl rfl so110 rfl rfl rfl rfl rfl (by omega) (by first | exact Int.toNat_natCast _ | rfl) (by first | omega | assumption) rfl)) ?_
      refine al_d rfl rfl rfl (by exact (by first | exact opd_loadn_ref rfl Try.isAgg24 Try.sizeOf24 rfl rfl rfl rfl (by simp only [List.drop_succ_cons, List.drop_zero, List.take_succ_cons, List.take_zero, List.take_nil, List.map_cons, List.map_nil, List.set_cons_zero, List.set_cons_succ, List.cons_append, List.nil_append, encMap]; rfl) rfl | exact opd_loadn_pad rfl Try.isAgg24 Try.sizeOf24 rfl (by first | omega | assumption) (by simp only [List.drop_succ_cons, List.drop_zero, List.take_succ_cons, List.take_zero, List.take_nil, List.map_cons, List.map_nil, List.set_cons_zero, List.set_cons_succ, List.cons_append, List.nil_append, encMap]; rfl) rfl)) ?_
      refine al_d rfl rfl rfl (by exact opr_callV rfl rfl rfl (hfo)) ?_
      refine al_nil ?_
      refine awp_cond rfl (fun hc2 => ?_) (fun hc2 => ?_)
      -- cond 2
      · skip
        refine awp_seq ?_
        refine awp_region ?_
        refine al_d rfl rfl rfl (by exact opd_move rfl rfl) ?_
        refine al_d rfl rfl rfl (by exact opd_assign rfl rfl) ?_
        refine al_nil ?_
        refine awp_ret ?_
        -- return
        exact aret1 (H' := H) (.inr rfl) rfl (rval_tmp rfl) Fin.refl ⟨by rw [gidx, fidx_some hno ho hc2], rfl⟩
      · skip
        refine awp_skip ?_
        refine awp_region ?_
        refine al_d rfl rfl rfl (by exact opd_add rfl rfl rfl (by first | exact w64 (by omega) (by omega) | exact wu8 (by omega) (by omega) | rfl)) ?_
        refine al_d rfl rfl rfl (by exact opd_move rfl rfl) ?_
        refine al_nil ?_
        -- end of a round
        refine ⟨k + 1, ⟨by omega, fun j hj b hb => ?_⟩, by omega, Ent.e0 ⟨⟨_, rfl, rfl⟩, ⟨_, rfl, rfl⟩, ⟨_, rfl, rfl⟩, ⟨_, rfl, rfl⟩, trivial⟩⟩
        by_cases e : j = k
        · subst e; rw [ho] at hb; cases hb; exact hc2
        · exact hno j (by omega) b hb
    · have hge : k = l.length := by have : l.length ≤ k := by simpa using hc1
                                    omega
      subst hge
      refine awp_exit ?_
      refine awp_seq ?_
      refine awp_region ?_
      refine al_d rfl rfl rfl (by exact opd_assign rfl rfl) ?_
      refine al_nil ?_
      refine awp_ret ?_
      -- return
      exact aret1 (H' := H) (.inr rfl) rfl (rval_tmp rfl) Fin.refl ⟨by rw [gidx, fidx_none hno], rfl⟩
/-- slices.ContainsFunc at planisphere/api.Map. -/
theorem containsFunc_Map (fv : AV) (l : List (List GObj)) (p : (List GObj) → Bool) (H : Heap) (hl : l.length < 4611686018427387904) (hf : ∀ H, ∀ o, o ∈ l → CallsV Try.prog fv [.agg ((encMap o).map .pv)] H (fun r H' => r = .pv (.bool (p o)) ∧ H' = H)) :
    ACalls Try.prog 76 [.pv (.sl (l.map encMap)), fv] H (fun r H' => r = bv (l.any p) ∧ H' = H) := by
  refine ACalls.body Try.func76 rfl Try.ntmps76 (Nat.le_of_ble_eq_true rfl) ?_
  refine awp_seq ?_
  refine awp_region ?_
  refine al_d rfl rfl rfl (by exact opd_assign rfl rfl) ?_
  refine al_nil ?_
  refine awp_seq ?_
  refine awp_region ?_
  refine al_d rfl rfl rfl (by exact opd_move rfl rfl) ?_
  refine al_d rfl rfl rfl (by exact opd_move rfl rfl) ?_
  refine al_d rfl rfl rfl (by exact opr_call rfl rfl Try.call110 rfl (indexFunc_Map fv l p _ hl (hf _))) ?_
  refine al_d rfl rfl rfl (by exact opd_geq rfl rfl rfl) ?_
  refine al_d rfl rfl rfl (by exact opd_assign rfl rfl) ?_
  refine al_nil ?_
  refine awp_ret ?_
  -- return
  refine aret1 (H' := H) (by first | exact .inr rfl | exact .inl rfl) rfl (rval_tmp rfl) Fin.refl ?_
  exact ⟨by rw [← gidx_any], rfl⟩
theorem valids1_c (m : List GObj) (H : Heap) (hm : okM m) : ACalls Try.prog 77 [.agg ((encMap m).map .pv)] H (fun r H' => r = bv (!gMap m) ∧ H' = H) := by
  refine ACalls.pure ?_ (by simp [encMap]) H
  refine ACalls.body Try.func77 rfl Try.ntmps77 (Nat.le_of_ble_eq_true rfl) ?_
  refine awp_seq ?_
  refine awp_region ?_
  refine al_d rfl rfl rfl (by exact opd_box (id := 1) rfl rfl rfl rfl rfl) ?_
  refine al_d rfl rfl rfl (by exact opd_assign rfl rfl) ?_
  refine al_nil ?_
  refine awp_seq ?_
  refine awp_region ?_
  refine al_d rfl rfl rfl (by exact (by first | exact opd_loadn_ref rfl Try.isAgg24 Try.sizeOf24 rfl rfl rfl rfl (by simp only [List.drop_succ_cons, List.drop_zero, List.take_succ_cons, List.take_zero, List.take_nil, List.map_cons, List.map_nil, List.set_cons_zero, List.set_cons_succ, List.cons_append, List.nil_append, encObj]; rfl) rfl | exact opd_loadn_pad rfl Try.isAgg24 Try.sizeOf24 rfl (by first | omega | assumption) (by simp only [List.drop_succ_cons, List.drop_zero, List.take_succ_cons, List.take_zero, List.take_nil, List.map_cons, List.map_nil, List.set_cons_zero, List.set_cons_succ, List.cons_append, List.nil_append, encObj]; rfl) rfl)) ?_
  refine al_d rfl rfl rfl (by exact opr_call rfl rfl Try.call78 rfl (atlasValid_c m _ hm)) ?_
  refine al_d rfl rfl rfl (by exact opd_not rfl rfl) ?_
  refine al_d rfl rfl rfl (by exact opd_assign rfl rfl) ?_
  refine al_nil ?_
  refine awp_ret ?_
  -- return
  refine aret1 (H' := []) (by first | exact .inr rfl | exact .inl rfl) rfl (rval_tmp rfl) (Fin.wk (by simp) trivial trivial) ?_
  exact ⟨rfl, rfl⟩
theorem valids_c (l : List (List GObj)) (H : Heap) (hl : l.length < 4611686018427387904) (hm : ∀ m, m ∈ l → okM m) : ACalls Try.prog 40 [.pv (.sl (l.map encMap))] H (fun r H' => r = bv (l.all gMap) ∧ H' = H) := by
  refine ACalls.pure ?_ (by simp) H
  refine ACalls.body Try.func40 rfl Try.ntmps40 (Nat.le_of_ble_eq_true rfl) ?_
  refine awp_seq ?_
  refine awp_region ?_
  refine al_d rfl rfl rfl (by exact opd_assign rfl rfl) ?_
  refine al_nil ?_
  refine awp_seq ?_
  refine awp_region ?_
  refine al_d rfl rfl rfl (by exact opd_move rfl rfl) ?_
  refine al_d rfl rfl rfl (by exact opr_call rfl rfl Try.call76 rfl (containsFunc_Map (.pv (.fn 77)) l (fun m => !gMap m) _ hl (fun H o ho => CallsV.fn Try.call77 (valids1_c o H (hm o ho))))) ?_
  refine al_d rfl rfl rfl (by exact opd_not rfl rfl) ?_
  refine al_d rfl rfl rfl (by exact opd_assign rfl rfl) ?_
  refine al_nil ?_
  refine awp_ret ?_
  -- return
  refine aret1 (H' := []) (by first | exact .inr rfl | exact .inl rfl) rfl (rval_tmp rfl) (Fin.wk (by simp) trivial trivial) ?_
  exact ⟨by rw [List.any_eq_not_all_not]; simp, rfl⟩
theorem at1_c (o : GObj) (s : ByteArray) (H : Heap) : ACalls Try.prog 85 [av (encObj o), sv s] H (fun r H' => r = iv (gCmp o.id s) ∧ H' = H) := by
  refine ACalls.pure ?_ (by simp) H
  refine ACalls.body Try.func85 rfl Try.ntmps85 (Nat.le_of_ble_eq_true rfl) ?_
  refine awp_seq ?_
  refine awp_region ?_
  refine al_d rfl rfl rfl (by exact opd_box (id := 2) rfl rfl rfl rfl rfl) ?_
  refine al_d rfl rfl rfl (by exact opd_assign rfl rfl) ?_
  refine al_nil ?_
  refine awp_seq ?_
  refine awp_region ?_
  refine al_d rfl rfl rfl (by exact (by first | exact opd_field_ref rfl fo30_0 rfl rfl rfl rfl | exact opd_field_pad rfl fo30_0 rfl rfl)) ?_
  refine al_d rfl rfl rfl (by exact (by first | exact opd_load1_ref rfl Try.isAgg9 rfl rfl rfl rfl rfl | exact opd_load1_pad rfl Try.isAgg9 rfl (by first | omega | assumption) rfl)) ?_
  refine al_d rfl rfl rfl (by exact opd_move rfl rfl) ?_
  refine al_d rfl rfl rfl (by exact opr_call rfl rfl Try.call54 rfl (compare_c o.id s _)) ?_
  refine al_d rfl rfl rfl (by exact opd_assign rfl rfl) ?_
  refine al_nil ?_
  refine awp_ret ?_
  -- return
  refine aret1 (H' := []) (by first | exact .inr rfl | exact .inl rfl) rfl (rval_tmp rfl) (Fin.wk (by simp) trivial trivial) ?_
  exact ⟨rfl, rfl⟩
theorem at_c (m : List GObj) (s : ByteArray) (H : Heap) (hl : m.length < 1099511627776) (hu : ups m) : ACalls Try.prog 42 [.agg [.pv (slObjs m)], sv s] H (fun r H' => r = .tup [iv (lbI GObj.id m s : Nat), bv (hasK GObj.id m s)] ∧ H' = H) := by
  refine ACalls.pure ?_ (by simp) H
  refine ACalls.body Try.func42 rfl Try.ntmps42 (Nat.le_of_ble_eq_true rfl) ?_
  refine awp_seq ?_
  refine awp_region ?_
  refine al_d rfl rfl rfl (by exact opd_box (id := 2) rfl rfl rfl rfl rfl) ?_
  refine al_d rfl rfl rfl (by exact opd_assign rfl rfl) ?_
  refine al_d rfl rfl rfl (by exact opd_assign rfl rfl) ?_
  refine al_nil ?_
  refine awp_seq ?_
  refine awp_region ?_
  refine al_d rfl rfl rfl (by exact (by first | exact opd_field_ref rfl fo24_0 rfl rfl rfl rfl | exact opd_field_pad rfl fo24_0 rfl rfl)) ?_
  refine al_d rfl rfl rfl (by exact (by first | exact opd_load1_ref rfl Try.isAgg22 rfl rfl rfl rfl rfl | exact opd_load1_pad rfl Try.isAgg22 rfl (by first | omega | assumption) rfl)) ?_
  refine al_d rfl rfl rfl (by exact opd_move rfl rfl) ?_
  refine al_d rfl rfl rfl (by exact opr_call rfl rfl Try.call84 rfl (bsf_GObj (.pv (.fn 85)) m s _ hl hu (fun o ho => CallsV.fn Try.call85 (at1_c o s _)))) ?_
  refine al_d rfl rfl rfl (by exact opd_extract rfl rfl rfl) ?_
  refine al_d rfl rfl rfl (by exact opd_extract rfl rfl rfl) ?_
  refine al_d rfl rfl rfl (by exact opd_assign rfl rfl) ?_
  refine al_d rfl rfl rfl (by exact opd_assign rfl rfl) ?_
  refine al_nil ?_
  refine awp_ret ?_
  -- return
  refine aret2 (H' := []) (by first | exact .inr rfl | exact .inl rfl) rfl (rval_tmp rfl) (rval_tmp rfl) (Fin.wk (by simp) trivial trivial) ?_
  exact ⟨rfl, rfl⟩
theorem encObj_rl (l : List GObj) : ∀ r ∈ l.map encObj, r.length = 6 := fun r hr => by
  obtain ⟨t, _, rfl⟩ := List.mem_map.1 hr
  rfl
/-- A map with an object in it. -/
def gWith (m : List GObj) (o : GObj) : List GObj := if hasK GObj.id m o.id then m.set (lbI GObj.id m o.id) o else m.take (lbI GObj.id m o.id) ++ o :: m.drop (lbI GObj.id m o.id)
def gPut (m : List GObj) (o : GObj) : List GObj × Int :=
  if !gMap m || !gObj o then ([], 1) else if !hasK GObj.id m o.id && decide (m.length = 1000000) then ([], 2) else (gWith m o, 0)
/-- A map out of an owned slice and another value are returned. -/
theorem Fin.map1 {H1 : Heap} {id g n : Nat} {x : AV} {ob : Ob} (ps : List (List PV)) (hH : H1.get id = some ob) (hg : ob.g = g) (hps : ob.rows = ps.map (·.map .pv)) (hn : ps.length = n) (hx : Clo [] x) :
    Fin [] H1 (.tup [.agg [.osl id g 0 n], x]) [] (.tup [.agg [.pv (.sl ps)], x]) := by
  subst hg hn
  exact Fin.fz (id := id) (ob := ob) ps hH hps (.tup rfl (fz_cons (.agg rfl (fz_cons (.osl (by rw [Nat.zero_add, List.drop_zero, List.take_length])) fz_nil)) (fz_cons (.same hx) fz_nil))) rfl trivial trivial
theorem put_c (m : List GObj) (o : GObj) (H : Heap) (hm : okM m) (ho : okO o) (hl : m.length < 1099511627776) : ACalls Try.prog 13 [.agg [.pv (slObjs m)], av (encObj o)] H (fun r H' => r = .tup [.agg [.pv (slObjs (gPut m o).1)], iv (gPut m o).2] ∧ H' = H) := by
  refine ACalls.pure ?_ (by simp) H
  have hml : (m.map encObj).length = m.length := List.length_map _
  have hrl := encObj_rl m
  have hv := fun H => valids_c [m] H (by show 1 < _; omega) (by intro x hx; rw [List.mem_singleton] at hx; subst hx; exact hm)
  rw [show ([m].all gMap) = gMap m by simp] at hv
  refine ACalls.body Try.func13 rfl Try.ntmps13 (Nat.le_of_ble_eq_true rfl) ?_
  refine awp_seq ?_
  refine awp_region ?_
  refine al_d rfl rfl rfl (by exact opd_box (id := 2) rfl rfl rfl rfl rfl) ?_
  refine al_d rfl rfl rfl (by exact opd_box (id := 3) rfl rfl rfl rfl rfl) ?_
  refine al_d rfl rfl rfl (by exact x_alloc (id := 4) rfl zoN24 rfl rfl) ?_
  refine al_d rfl rfl rfl (by exact opd_assign rfl rfl) ?_
  refine al_nil ?_
  refine awp_seq ?_
  refine awp_seq ?_
  refine awp_bool (t := 17) (n := 10) (X := !gMap m || !gObj o) ?_ ?_
  · all_goals (refine al_d rfl rfl rfl (by exact (by first | exact opd_loadn_ref rfl Try.isAgg24 Try.sizeOf24 rfl rfl rfl rfl (by simp only [List.drop_succ_cons, List.drop_zero, List.take_succ_cons, List.take_zero, List.take_nil, List.map_cons, List.map_nil, List.set_cons_zero, List.set_cons_succ, List.cons_append, List.nil_append, encObj]; rfl) rfl | exact opd_loadn_pad rfl Try.isAgg24 Try.sizeOf24 rfl (by first | omega | assumption) (by simp only [List.drop_succ_cons, List.drop_zero, List.take_succ_cons, List.take_zero, List.take_nil, List.map_cons, List.map_nil, List.set_cons_zero, List.set_cons_succ, List.cons_append, List.nil_append, encObj]; rfl) rfl)) ?_)
    all_goals (refine al_d rfl rfl rfl (by exact x_buildSlice ([m].map encMap) rfl so110 rfl rfl rfl rfl rfl (by simp [encMap])) ?_)
    all_goals (refine al_d rfl rfl rfl (by exact opr_call rfl rfl Try.call40 rfl (hv _)) ?_)
    all_goals (refine al_d rfl rfl rfl (by exact opd_not rfl rfl) ?_)
    all_goals (refine al_d rfl rfl rfl (by exact opd_move rfl rfl) ?_)
    all_goals (first | refine al_split (t := 13) rfl (fun h13 => ?_) (fun h13 => ?_) | refine al_dup (t := 13) rfl ?_ | skip)
    all_goals (try contradiction)
    all_goals (first | refine al_off rfl rfl rfl rfl rfl ?_ | refine al_offu rfl rfl rfl rfl ?_ | refine al_ond rfl rfl rfl rfl rfl rfl (by exact (by first | exact opd_loadn_ref rfl Try.isAgg30 Try.sizeOf30 rfl rfl rfl rfl (by simp only [List.drop_succ_cons, List.drop_zero, List.take_succ_cons, List.take_zero, List.take_nil, List.map_cons, List.map_nil, List.set_cons_zero, List.set_cons_succ, List.cons_append, List.nil_append, encObj]; rfl) rfl | exact opd_loadn_pad rfl Try.isAgg30 Try.sizeOf30 rfl (by first | omega | assumption) (by simp only [List.drop_succ_cons, List.drop_zero, List.take_succ_cons, List.take_zero, List.take_nil, List.map_cons, List.map_nil, List.set_cons_zero, List.set_cons_succ, List.cons_append, List.nil_append, encObj]; rfl) rfl)) ?_)
    all_goals (first | refine al_off rfl rfl rfl rfl rfl ?_ | refine al_offu rfl rfl rfl rfl ?_ | refine al_ond rfl rfl rfl rfl rfl rfl (by exact opr_call rfl rfl Try.call41 rfl (objValid_c o _ ho)) ?_)
    all_goals (first | refine al_off rfl rfl rfl rfl rfl ?_ | refine al_offu rfl rfl rfl rfl ?_ | refine al_ond rfl rfl rfl rfl rfl rfl (by exact opd_not rfl rfl) ?_)
    all_goals (refine al_d rfl rfl rfl (by exact (by first | exact opd_pick_t rfl rfl rfl | exact opd_pick_f rfl rfl rfl | exact opd_pickt rfl rfl (by assumption) rfl | exact opd_pickf rfl rfl (by assumption) rfl | exact opd_pick rfl rfl rfl)) ?_)
    all_goals (refine al_nil ?_)
    all_goals (exact ⟨⟨_, rfl, by first | rfl | (simp only [*, Bool.false_and, Bool.true_and, Bool.and_false, Bool.and_true, Bool.true_or, Bool.false_or, Bool.or_true, Bool.or_false, Bool.not_true, Bool.not_false]; done) | (simp_all; done) | (simp_all; omega)⟩, rfl, rfl, rfl⟩)
  refine awp_cond rfl (fun hc1 => ?_) (fun hc1 => ?_)
  -- cond 1
  · have e : gPut m o = ([], 1) := by rw [gPut, if_pos hc1]
    rw [e]
    refine awp_seq ?_
    refine awp_region ?_
    refine al_d rfl rfl rfl (by exact x_build rfl bo24 rfl rfl) ?_
    refine al_n rfl rfl (by exact (by first | exact x_store_all rfl Try.sizeOf24 rfl rfl rfl rfl rfl rfl rfl rfl | exact x_store1 rfl Try.sizeOf24 rfl rfl rfl rfl rfl rfl (by simp only [List.length_cons, List.length_nil]; omega) (by simp only [List.drop_succ_cons, List.drop_zero, List.take_succ_cons, List.take_zero, List.take_nil, List.map_cons, List.map_nil, List.set_cons_zero, List.set_cons_succ, List.cons_append, List.nil_append, encObj]; rfl) (by simp only [List.drop_succ_cons, List.drop_zero, List.take_succ_cons, List.take_zero, List.take_nil, List.map_cons, List.map_nil, List.set_cons_zero, List.set_cons_succ, List.cons_append, List.nil_append, encObj]; rfl) | exact x_store1 rfl Try.sizeOf24 rfl rfl rfl rfl rfl rfl (Nat.le_of_ble_eq_true rfl) rfl rfl)) ?_
    refine al_d rfl rfl rfl (by exact opd_assign rfl rfl) ?_
    refine al_nil ?_
    refine awp_ret ?_
    -- return
    refine aret2 (H' := []) (by first | exact .inr rfl | exact .inl rfl) rfl (rval_cell rfl Try.isAgg24 Try.sizeOf24 rfl rfl rfl (by simp only [List.drop_succ_cons, List.drop_zero, List.take_succ_cons, List.take_zero, List.take_nil, List.map_cons, List.map_nil, List.set_cons_zero, List.set_cons_succ, List.cons_append, List.nil_append, encObj]; rfl) rfl) (rval_tmp rfl) (Fin.wk (by simp) trivial trivial) ?_
    exact ⟨rfl, rfl⟩
  · have hg : gMap m = true := by
      have h := hc1
      revert h
      cases gMap m <;> simp
    have hu := (gMap_iff.1 hg).2.1
    have hle := lbI_le GObj.id m o.id
    have hgp : gPut m o = if !hasK GObj.id m o.id && decide (m.length = 1000000) then ([], 2) else (gWith m o, 0) := by rw [gPut, if_neg (by rw [hc1]; simp)]
    obtain ⟨i, hi0⟩ : ∃ i, i = lbI GObj.id m o.id := ⟨_, rfl⟩
    rw [gWith, ← hi0] at hgp
    rw [← hi0] at hle
    have hat := fun H => at_c m o.id H hl hu
    rw [← hi0] at hat
    refine awp_skip ?_
    refine awp_seq ?_
    refine awp_region ?_
    refine al_d rfl rfl rfl (by exact (by first | exact opd_loadn_ref rfl Try.isAgg24 Try.sizeOf24 rfl rfl rfl rfl (by simp only [List.drop_succ_cons, List.drop_zero, List.take_succ_cons, List.take_zero, List.take_nil, List.map_cons, List.map_nil, List.set_cons_zero, List.set_cons_succ, List.cons_append, List.nil_append, encObj]; rfl) rfl | exact opd_loadn_pad rfl Try.isAgg24 Try.sizeOf24 rfl (by first | omega | assumption) (by simp only [List.drop_succ_cons, List.drop_zero, List.take_succ_cons, List.take_zero, List.take_nil, List.map_cons, List.map_nil, List.set_cons_zero, List.set_cons_succ, List.cons_append, List.nil_append, encObj]; rfl) rfl)) ?_
    refine al_d rfl rfl rfl (by exact (by first | exact opd_field_ref rfl fo30_0 rfl rfl rfl rfl | exact opd_field_pad rfl fo30_0 rfl rfl)) ?_
    refine al_d rfl rfl rfl (by exact (by first | exact opd_load1_ref rfl Try.isAgg9 rfl rfl rfl rfl rfl | exact opd_load1_pad rfl Try.isAgg9 rfl (by first | omega | assumption) rfl)) ?_
    refine al_d rfl rfl rfl (by exact opr_call rfl rfl Try.call42 rfl (hat _)) ?_
    refine al_d rfl rfl rfl (by exact opd_move rfl rfl) ?_
    refine al_d rfl rfl rfl (by exact opd_extract rfl rfl rfl) ?_
    refine al_d rfl rfl rfl (by exact opd_extract rfl rfl rfl) ?_
    refine al_d rfl rfl rfl (by exact opd_assign rfl rfl) ?_
    refine al_d rfl rfl rfl (by exact opd_assign rfl rfl) ?_
    refine al_nil ?_
    refine awp_seq ?_
    refine awp_region ?_
    refine al_d rfl rfl rfl (by exact (by first | exact opd_field_ref rfl fo24_0 rfl rfl rfl rfl | exact opd_field_pad rfl fo24_0 rfl rfl)) ?_
    refine al_d rfl rfl rfl (by exact (by first | exact opd_load1_ref rfl Try.isAgg22 rfl rfl rfl rfl rfl | exact opd_load1_pad rfl Try.isAgg22 rfl (by first | omega | assumption) rfl)) ?_
    refine al_d rfl rfl rfl (by exact opr_call rfl rfl Try.call43 rfl (clone_Obj (m.map encObj) _ (Closed.ofL ⟨(by first | (simp; done) | (simp; rfl) | exact clo_pvR _ _ | exact clo_map _ _ _ | exact clo_osl1 rfl), (by first | (simp; done) | (simp; rfl) | exact clo_pvR _ _ | exact clo_map _ _ _ | exact clo_osl1 rfl), (by first | (simp; done) | (simp; rfl) | exact clo_pvR _ _ | exact clo_map _ _ _ | exact clo_osl1 rfl), trivial⟩) rfl rfl (by omega) hrl)) ?_
    refine al_d rfl rfl rfl (by exact x_build rfl bo24 rfl rfl) ?_
    refine al_d rfl rfl rfl (by exact x_alloc (id := 8) rfl zoN24 rfl rfl) ?_
    refine al_n rfl rfl (by exact (by first | exact x_store_all rfl Try.sizeOf24 rfl rfl rfl rfl rfl rfl rfl rfl | exact x_store1 rfl Try.sizeOf24 rfl rfl rfl rfl rfl rfl (by simp only [List.length_cons, List.length_nil]; omega) (by simp only [List.drop_succ_cons, List.drop_zero, List.take_succ_cons, List.take_zero, List.take_nil, List.map_cons, List.map_nil, List.set_cons_zero, List.set_cons_succ, List.cons_append, List.nil_append, encObj]; rfl) (by simp only [List.drop_succ_cons, List.drop_zero, List.take_succ_cons, List.take_zero, List.take_nil, List.map_cons, List.map_nil, List.set_cons_zero, List.set_cons_succ, List.cons_append, List.nil_append, encObj]; rfl) | exact x_store1 rfl Try.sizeOf24 rfl rfl rfl rfl rfl rfl (Nat.le_of_ble_eq_true rfl) rfl rfl)) ?_
    refine al_nil ?_
    refine awp_seq ?_
    refine awp_block ?_
    refine awp_seq ?_
    refine awp_region ?_
    refine al_d rfl rfl rfl (by exact opd_move rfl rfl) ?_
    refine al_d rfl rfl rfl (by exact opd_assign rfl rfl) ?_
    refine al_nil ?_
    refine awp_cond rfl (fun hc2 => ?_) (fun hc2 => ?_)
    -- cond 2
    · have hf : hasK GObj.id m o.id = true := hc2
      obtain ⟨x, hx, hxk⟩ := hasK_get hu hf
      rw [← hi0] at hx
      have hlt := (List.getElem?_eq_some_iff.1 hx).1
      rw [hf] at hgp
      simp only [Bool.not_true, Bool.false_and, Bool.false_eq_true, if_false, if_true] at hgp
      rw [hgp]
      have hir : (pvR (m.map encObj))[i]? = some ((encObj x).map .pv) := by rw [pvR, List.map_map, List.getElem?_map, hx]; rfl
      refine awp_region ?_
      refine al_d rfl rfl rfl (by exact (by first | exact opd_field_ref rfl fo24_0 rfl rfl rfl rfl | exact opd_field_pad rfl fo24_0 rfl rfl)) ?_
      refine al_d rfl rfl rfl (by exact (by first | exact opd_load1_ref rfl Try.isAgg22 rfl rfl rfl rfl rfl | exact opd_load1_pad rfl Try.isAgg22 rfl (by first | omega | assumption) rfl)) ?_
      refine al_d rfl rfl rfl (by exact opd_move rfl rfl) ?_
      refine al_d rfl rfl rfl (by exact (by first | exact opd_loadn_ref rfl Try.isAgg30 Try.sizeOf30 rfl rfl rfl rfl (by simp only [List.drop_succ_cons, List.drop_zero, List.take_succ_cons, List.take_zero, List.take_nil, List.map_cons, List.map_nil, List.set_cons_zero, List.set_cons_succ, List.cons_append, List.nil_append, encObj]; rfl) rfl | exact opd_loadn_pad rfl Try.isAgg30 Try.sizeOf30 rfl (by first | omega | assumption) (by simp only [List.drop_succ_cons, List.drop_zero, List.take_succ_cons, List.take_zero, List.take_nil, List.map_cons, List.map_nil, List.set_cons_zero, List.set_cons_succ, List.cons_append, List.nil_append, encObj]; rfl) rfl)) ?_
      refine al_d rfl rfl rfl (by exact (by first | exact x_index_pad rfl so22 rfl rfl (by omega) (by first | exact Int.toNat_natCast _ | rfl) (by rw [hml]; exact hlt) rfl | exact x_index_osl rfl so22 rfl rfl rfl rfl rfl (by omega) (by first | exact Int.toNat_natCast _ | rfl) (by rw [hml]; exact hlt) (Nat.zero_add _))) ?_
      refine al_n rfl rfl (by exact x_store rfl Try.sizeOf30 rfl rfl rfl rfl rfl rfl hir (Nat.le_of_ble_eq_true rfl) rfl rfl) ?_
      refine al_nil ?_
      refine awp_seq ?_
      refine awp_region ?_
      refine al_d rfl rfl rfl (by exact (by first | exact opd_loadn_ref rfl Try.isAgg24 Try.sizeOf24 rfl rfl rfl rfl rfl rfl | exact opd_loadn_pad rfl Try.isAgg24 Try.sizeOf24 rfl (by first | omega | assumption) rfl rfl)) ?_
      refine al_n rfl rfl (by exact (by first | exact x_store_all rfl Try.sizeOf24 rfl rfl rfl rfl rfl rfl rfl rfl | exact x_store1 rfl Try.sizeOf24 rfl rfl rfl rfl rfl rfl (by simp only [List.length_cons, List.length_nil]; omega) (by simp only [List.drop_succ_cons, List.drop_zero, List.take_succ_cons, List.take_zero, List.take_nil, List.map_cons, List.map_nil, List.set_cons_zero, List.set_cons_succ, List.cons_append, List.nil_append, encObj]; rfl) (by simp only [List.drop_succ_cons, List.drop_zero, List.take_succ_cons, List.take_zero, List.take_nil, List.map_cons, List.map_nil, List.set_cons_zero, List.set_cons_succ, List.cons_append, List.nil_append, encObj]; rfl) | exact x_store1 rfl Try.sizeOf24 rfl rfl rfl rfl rfl rfl (Nat.le_of_ble_eq_true rfl) rfl rfl)) ?_
      refine al_d rfl rfl rfl (by exact opd_assign rfl rfl) ?_
      refine al_nil ?_
      refine awp_ret ?_
      -- return
      refine aret2 (H' := []) (by first | exact .inr rfl | exact .inl rfl) rfl (rval_cell rfl Try.isAgg24 Try.sizeOf24 rfl rfl rfl rfl rfl) (rval_tmp rfl) (Fin.map1 (id := 901) ((m.set i o).map encObj) rfl rfl (by rw [List.map_set, List.map_set]; rfl) (by rw [List.length_map, List.length_set, List.length_map]) (by simp)) ?_
      exact ⟨rfl, rfl⟩
    · have hf : hasK GObj.id m o.id = false := hc2
      rw [hf] at hgp
      simp only [Bool.not_false, Bool.true_and, Bool.false_eq_true, if_false] at hgp
      refine awp_seq ?_
      refine awp_region ?_
      refine al_d rfl rfl rfl (by exact (by first | exact opd_field_ref rfl fo24_0 rfl rfl rfl rfl | exact opd_field_pad rfl fo24_0 rfl rfl)) ?_
      refine al_d rfl rfl rfl (by exact (by first | exact opd_load1_ref rfl Try.isAgg22 rfl rfl rfl rfl rfl | exact opd_load1_pad rfl Try.isAgg22 rfl (by first | omega | assumption) rfl)) ?_
      refine al_d rfl rfl rfl (by exact (by first | exact opd_len_sl rfl Try.underlying22 rfl | exact opd_len_osl rfl Try.underlying22 rfl rfl rfl)) ?_
      refine al_d rfl rfl rfl (by exact opd_eql rfl rfl rfl) ?_
      refine al_d rfl rfl rfl (by exact opd_assign rfl rfl) ?_
      refine al_nil ?_
      refine awp_cond rfl (fun hc3 => ?_) (fun hc3 => ?_)
      -- cond 3
      · have h : m.length = 1000000 := by
          have h := of_decide_eq_true hc3
          omega
        rw [hgp, if_pos (by simp [h])]
        refine awp_seq ?_
        refine awp_region ?_
        refine al_d rfl rfl rfl (by exact x_build rfl bo24 rfl rfl) ?_
        refine al_n rfl rfl (by exact (by first | exact x_store_all rfl Try.sizeOf24 rfl rfl rfl rfl rfl rfl rfl rfl | exact x_store1 rfl Try.sizeOf24 rfl rfl rfl rfl rfl rfl (by simp only [List.length_cons, List.length_nil]; omega) (by simp only [List.drop_succ_cons, List.drop_zero, List.take_succ_cons, List.take_zero, List.take_nil, List.map_cons, List.map_nil, List.set_cons_zero, List.set_cons_succ, List.cons_append, List.nil_append, encObj]; rfl) (by simp only [List.drop_succ_cons, List.drop_zero, List.take_succ_cons, List.take_zero, List.take_nil, List.map_cons, List.map_nil, List.set_cons_zero, List.set_cons_succ, List.cons_append, List.nil_append, encObj]; rfl) | exact x_store1 rfl Try.sizeOf24 rfl rfl rfl rfl rfl rfl (Nat.le_of_ble_eq_true rfl) rfl rfl)) ?_
        refine al_d rfl rfl rfl (by exact opd_assign rfl rfl) ?_
        refine al_nil ?_
        refine awp_ret ?_
        -- return
        refine aret2 (H' := []) (by first | exact .inr rfl | exact .inl rfl) rfl (rval_cell rfl Try.isAgg24 Try.sizeOf24 rfl rfl rfl rfl rfl) (rval_tmp rfl) (Fin.wk (by simp) trivial trivial) ?_
        exact ⟨rfl, rfl⟩
      · have h : ¬ m.length = 1000000 := by
          have h := of_decide_eq_false hc3
          omega
        rw [hgp, if_neg (by simp [h])]
        refine awp_region ?_
        refine al_d rfl rfl rfl (by exact (by first | exact opd_field_ref rfl fo24_0 rfl rfl rfl rfl | exact opd_field_pad rfl fo24_0 rfl rfl)) ?_
        refine al_d rfl rfl rfl (by exact (by first | exact opd_load1_ref rfl Try.isAgg22 rfl rfl rfl rfl rfl | exact opd_load1_pad rfl Try.isAgg22 rfl (by first | omega | assumption) rfl)) ?_
        refine al_d rfl rfl rfl (by exact opd_move rfl rfl) ?_
        refine al_d rfl rfl rfl (by exact (by first | exact opd_loadn_ref rfl Try.isAgg30 Try.sizeOf30 rfl rfl rfl rfl (by simp only [List.drop_succ_cons, List.drop_zero, List.take_succ_cons, List.take_zero, List.take_nil, List.map_cons, List.map_nil, List.set_cons_zero, List.set_cons_succ, List.cons_append, List.nil_append, encObj]; rfl) rfl | exact opd_loadn_pad rfl Try.isAgg30 Try.sizeOf30 rfl (by first | omega | assumption) (by simp only [List.drop_succ_cons, List.drop_zero, List.take_succ_cons, List.take_zero, List.take_nil, List.map_cons, List.map_nil, List.set_cons_zero, List.set_cons_succ, List.cons_append, List.nil_append, encObj]; rfl) rfl)) ?_
        refine al_d rfl rfl rfl (by exact x_buildSlice_own (id := 902) rfl so22 rfl rfl rfl rfl (by intro r hr; rw [List.mem_singleton] at hr; subst hr; rfl) rfl) ?_
        refine al_d rfl rfl rfl (by exact opr_call rfl rfl Try.call44 rfl (insert_Obj (m.map encObj) (encObj o) i 1 _ (Closed.ofL ⟨(by first | (simp; done) | (simp; rfl) | exact clo_pvR _ _ | exact clo_map _ _ _ | exact clo_osl1 rfl), (by first | (simp; done) | (simp; rfl) | exact clo_pvR _ _ | exact clo_map _ _ _ | exact clo_osl1 rfl), (by first | (simp; done) | (simp; rfl) | exact clo_pvR _ _ | exact clo_map _ _ _ | exact clo_osl1 rfl), (by first | (simp; done) | (simp; rfl) | exact clo_pvR _ _ | exact clo_map _ _ _ | exact clo_osl1 rfl), (by first | (simp; done) | (simp; rfl) | exact clo_pvR _ _ | exact clo_map _ _ _ | exact clo_osl1 rfl), (by first | (simp; done) | (simp; rfl) | exact clo_pvR _ _ | exact clo_map _ _ _ | exact clo_osl1 rfl), (by first | (simp; done) | (simp; rfl) | exact clo_pvR _ _ | exact clo_map _ _ _ | exact clo_osl1 rfl), trivial⟩) rfl rfl rfl (by omega) (by omega) hrl rfl)) ?_
        refine al_d rfl rfl rfl (by exact (by first | exact opd_field_ref rfl fo24_0 rfl rfl rfl rfl | exact opd_field_pad rfl fo24_0 rfl rfl)) ?_
        refine al_n rfl rfl (by exact (by first | exact x_store_all rfl Try.sizeOf22 rfl rfl rfl rfl rfl rfl rfl rfl | exact x_store1 rfl Try.sizeOf22 rfl rfl rfl rfl rfl rfl (by simp only [List.length_cons, List.length_nil]; omega) (by simp only [List.drop_succ_cons, List.drop_zero, List.take_succ_cons, List.take_zero, List.take_nil, List.map_cons, List.map_nil, List.set_cons_zero, List.set_cons_succ, List.cons_append, List.nil_append, encObj]; rfl) (by simp only [List.drop_succ_cons, List.drop_zero, List.take_succ_cons, List.take_zero, List.take_nil, List.map_cons, List.map_nil, List.set_cons_zero, List.set_cons_succ, List.cons_append, List.nil_append, encObj]; rfl) | exact x_store1 rfl Try.sizeOf22 rfl rfl rfl rfl rfl rfl (Nat.le_of_ble_eq_true rfl) rfl rfl)) ?_
        refine al_nil ?_
        refine awp_seq ?_
        refine awp_region ?_
        refine al_d rfl rfl rfl (by exact (by first | exact opd_loadn_ref rfl Try.isAgg24 Try.sizeOf24 rfl rfl rfl rfl rfl rfl | exact opd_loadn_pad rfl Try.isAgg24 Try.sizeOf24 rfl (by first | omega | assumption) rfl rfl)) ?_
        refine al_n rfl rfl (by exact (by first | exact x_store_all rfl Try.sizeOf24 rfl rfl rfl rfl rfl rfl rfl rfl | exact x_store1 rfl Try.sizeOf24 rfl rfl rfl rfl rfl rfl (by simp only [List.length_cons, List.length_nil]; omega) (by simp only [List.drop_succ_cons, List.drop_zero, List.take_succ_cons, List.take_zero, List.take_nil, List.map_cons, List.map_nil, List.set_cons_zero, List.set_cons_succ, List.cons_append, List.nil_append, encObj]; rfl) (by simp only [List.drop_succ_cons, List.drop_zero, List.take_succ_cons, List.take_zero, List.take_nil, List.map_cons, List.map_nil, List.set_cons_zero, List.set_cons_succ, List.cons_append, List.nil_append, encObj]; rfl) | exact x_store1 rfl Try.sizeOf24 rfl rfl rfl rfl rfl rfl (Nat.le_of_ble_eq_true rfl) rfl rfl)) ?_
        refine al_d rfl rfl rfl (by exact opd_assign rfl rfl) ?_
        refine al_nil ?_
        refine awp_ret ?_
        -- return
        refine aret2 (H' := []) (by first | exact .inr rfl | exact .inl rfl) rfl (rval_cell rfl Try.isAgg24 Try.sizeOf24 rfl rfl rfl rfl rfl) (rval_tmp rfl) (Fin.wk (by simp) trivial trivial) ?_
        have hs : slObjs (m.take i ++ o :: m.drop i) = .sl ((m.map encObj).take i ++ encObj o :: (m.map encObj).drop i) := by rw [slObjs, List.map_append, List.map_take, List.map_cons, List.map_drop]
        exact ⟨by rw [hs]; rfl, rfl⟩
end Go.Proofs.Ytdcifaldfmpapaa
end
section
set_option linter.unusedVariables false
set_option linter.unusedSimpArgs false
set_option maxRecDepth 100000
namespace Go.Proofs.Ytdcifaldfmpapaa
open Go.Abs
theorem lbI_lt {α : Type} {f : α → ByteArray} {l : List α} {s : ByteArray} {k : Nat} {o : α} (hk : k < lbI f l s) (ho : l[k]? = some o) : slt (f o) s = true := by
  unfold lbI at hk
  have := List.not_of_lt_findIdx hk
  obtain ⟨h1, h2⟩ := List.getElem?_eq_some_iff.1 ho
  rw [h2] at this
  simpa using this
theorem lbI_ge {α : Type} {f : α → ByteArray} {l : List α} {s : ByteArray} {k : Nat} {o : α} (ha : asc f l) (hk : lbI f l s ≤ k) (ho : l[k]? = some o) : slt (f o) s = false := by
  obtain ⟨h1, h2⟩ := List.getElem?_eq_some_iff.1 ho
  have hlt : lbI f l s < l.length := by omega
  obtain ⟨x, hx⟩ := get_of_lt hlt
  have h0 : slt (f x) s = false := by
    have hp : (fun o => !slt (f o) s) l[lbI f l s] = true := List.findIdx_getElem (p := fun o => !slt (f o) s) (xs := l) (w := hlt)
    rw [(List.getElem?_eq_some_iff.1 hx).2] at hp
    simpa using hp
  by_cases e : lbI f l s = k
  · subst e
    rw [hx] at ho; cases ho
    exact h0
  · cases h : slt (f o) s with
    | false => rfl
    | true =>
      have := slt_trans (asc_get ha (by omega) hx ho) h
      rw [h0] at this; cases this
theorem asc_map {α : Type} {f : α → ByteArray} {l : List α} : asc f l ↔ (l.map f).Pairwise (fun a b => slt a b = true) := by rw [asc, List.pairwise_map]
theorem cut_at {α : Type} {l : List α} {i : Nat} {x : α} (h : l[i]? = some x) : l = l.take i ++ x :: l.drop (i + 1) := by
  obtain ⟨h1, h2⟩ := List.getElem?_eq_some_iff.1 h
  conv => lhs; rw [← List.take_append_drop i l]
  rw [List.drop_eq_getElem_cons h1, h2]
theorem set_cut {α : Type} {l : List α} {i : Nat} {x y : α} (h : l[i]? = some x) : l.set i y = l.take i ++ y :: l.drop (i + 1) := by
  have h1 := (List.getElem?_eq_some_iff.1 h).1
  rw [List.set_eq_take_append_cons_drop, if_pos h1]
theorem asc_ins {α : Type} {f : α → ByteArray} {l : List α} {o : α} (ha : asc f l) (hn : hasK f l (f o) = false) : asc f (l.take (lbI f l (f o)) ++ o :: l.drop (lbI f l (f o))) := by
  have hle := lbI_le f l (f o)
  have hno : ∀ x, x ∈ l → f x ≠ f o := fun x hx e => by
    have : hasK f l (f o) = true := List.any_eq_true.2 ⟨x, hx, decide_eq_true e⟩
    rw [hn] at this; cases this
  have h1 : ∀ x, x ∈ l.take (lbI f l (f o)) → slt (f x) (f o) = true := fun x hx => by
    obtain ⟨k, hk⟩ := List.mem_iff_getElem?.1 hx
    rw [List.getElem?_take] at hk
    split at hk
    · next hlt => exact lbI_lt hlt hk
    · cases hk
  have h2 : ∀ x, x ∈ l.drop (lbI f l (f o)) → slt (f o) (f x) = true := fun x hx => by
    obtain ⟨k, hk⟩ := List.mem_iff_getElem?.1 hx
    rw [List.getElem?_drop] at hk
    have h3 := lbI_ge ha (Nat.le_add_right _ k) hk
    cases h4 : slt (f o) (f x) with
    | true => rfl
    | false => exact absurd (slt_tri h3 h4) (hno x (List.mem_of_getElem? hk))
  rw [asc, List.pairwise_append]
  refine ⟨(List.Pairwise.sublist (List.take_sublist _ _) ha), List.pairwise_cons.2 ⟨h2, List.Pairwise.sublist (List.drop_sublist _ _) ha⟩, fun a hA b hB => ?_⟩
  rcases List.mem_cons.1 hB with rfl | hB
  · exact h1 a hA
  · exact slt_trans (h1 a hA) (h2 b hB)
theorem asc_set {α : Type} {f : α → ByteArray} {l : List α} {i : Nat} {x y : α} (ha : asc f l) (hx : l[i]? = some x) (he : f x = f y) : asc f (l.set i y) := by
  rw [asc_map] at ha ⊢
  have : (l.set i y).map f = l.map f := by
    rw [set_cut (y := y) hx]
    conv => rhs; rw [cut_at hx]
    simp [he]
  rwa [this]
theorem gWith_len (m : List GObj) (o : GObj) : (gWith m o).length = if hasK GObj.id m o.id then m.length else m.length + 1 := by
  have := lbI_le GObj.id m o.id
  unfold gWith
  split
  · rw [List.length_set]
  · rw [List.length_append, List.length_cons, List.length_take, List.length_drop]; omega
theorem gWith_mem {m : List GObj} {o x : GObj} (h : x ∈ gWith m o) : x = o ∨ x ∈ m := by
  unfold gWith at h
  split at h
  · rcases List.mem_or_eq_of_mem_set h with h | h
    · exact .inr h
    · exact .inl h
  · rcases List.mem_append.1 h with h | h
    · exact .inr (List.mem_of_mem_take h)
    · rcases List.mem_cons.1 h with h | h
      · exact .inl h
      · exact .inr (List.mem_of_mem_drop h)
theorem gWith_ups {m : List GObj} {o : GObj} (h : ups m) : ups (gWith m o) := by
  unfold gWith
  split
  · next hf =>
    obtain ⟨x, hx, he⟩ := hasK_get (f := GObj.id) h hf
    exact asc_set (f := GObj.id) h hx he
  · next hf => exact asc_ins (f := GObj.id) h (by simpa using hf)
theorem gMap_with {m : List GObj} {o : GObj} (hm : gMap m = true) (ho : gObj o = true) (hl : (gWith m o).length ≤ 1000000) : gMap (gWith m o) = true := by
  obtain ⟨h1, h2, h3⟩ := gMap_iff.1 hm
  refine gMap_iff.2 ⟨fun x hx => ?_, gWith_ups h2, by omega⟩
  rcases gWith_mem hx with rfl | hx
  · exact ho
  · exact h1 x hx
theorem filter_with {m : List GObj} {o : GObj} {p : GObj → Bool} (hu : ups m) (ho : p o = false) (hx : ∀ x, x ∈ m → x.id = o.id → p x = false) : (gWith m o).filter p = m.filter p := by
  unfold gWith
  split
  · next hf =>
    obtain ⟨x, hx', he⟩ := hasK_get (f := GObj.id) hu hf
    rw [set_cut hx']
    conv => rhs; rw [cut_at hx']
    rw [List.filter_append, List.filter_append, List.filter_cons, List.filter_cons, ho, hx x (List.mem_of_getElem? hx') he]
    rfl
  · rw [List.filter_append, List.filter_cons, ho]
    simp only [Bool.false_eq_true, if_false]
    rw [← List.filter_append, List.take_append_drop]
theorem okM_with {m : List GObj} {o : GObj} (hm : okM m) (ho : okO o) (hl : m.length < 1099511627776) : okM (gWith m o) := by
  refine ⟨by rw [gWith_len]; split <;> omega, fun x hx => ?_⟩
  rcases gWith_mem hx with rfl | hx
  · exact ho
  · exact hm.2 x hx
theorem gPut_len {m : List GObj} {o : GObj} (h : (gPut m o).2 = 0) : gMap m = true ∧ gObj o = true ∧ (gPut m o).1 = gWith m o ∧ (gWith m o).length ≤ 1000000 := by
  unfold gPut at h ⊢
  by_cases h1 : (!gMap m || !gObj o) = true
  · rw [if_pos h1] at h; cases h
  · rw [if_neg h1] at h ⊢
    by_cases h2 : (!hasK GObj.id m o.id && decide (m.length = 1000000)) = true
    · rw [if_pos h2] at h; cases h
    · rw [if_neg h2]
      rw [Bool.not_eq_true] at h1 h2
      rw [Bool.or_eq_false_iff] at h1
      have hg : gMap m = true := by simpa using h1.1
      have hl : m.length ≤ 1000000 := by have := (gMap_iff.1 hg).2.2; omega
      refine ⟨hg, by simpa using h1.2, rfl, ?_⟩
      rw [gWith_len]
      split
      · exact hl
      · next hf =>
        rw [Bool.and_eq_false_iff] at h2
        rcases h2 with h2 | h2
        · simp at h2; rw [h2] at hf; simp at hf
        · have := of_decide_eq_false h2; omega
end Go.Proofs.Ytdcifaldfmpapaa
end
section
set_option linter.unusedVariables false
set_option linter.unusedSimpArgs false
set_option maxRecDepth 100000
namespace Go.Proofs.Ytdcifaldfmpapaa
open Go.Abs
abbrev sView : ByteArray := ⟨#[118, 105, 101, 119]⟩
def ownS (o : GObj) : ByteArray := (gGet o.tags sView).getD sNil
def ownB (o : GObj) : Bool := (gGet o.tags sView).isSome && gName (ownS o)
theorem gGet_size {l : List GTag} {key : ByteArray} {n : Nat} (h0 : 0 < n) (h : ∀ t ∈ l, t.val.size < n) : ((gGet l key).getD sNil).size < n := by
  unfold gGet
  cases e : l.find? (fun t => decide (t.key = key)) with
  | none => exact h0
  | some t => exact h t (List.mem_of_find?_eq_some e)
theorem own_c (o : GObj) (H : Heap) (ho : okO o) : ACalls Try.prog 91 [av (encObj o)] H (fun r H' => r = .tup [sv (ownS o), bv (ownB o)] ∧ H' = H) := by
  refine ACalls.pure ?_ (by simp) H
  obtain ⟨h1, ⟨h2, h2'⟩, h3, h4⟩ := ho
  refine ACalls.body Try.func91 rfl Try.ntmps91 (Nat.le_of_ble_eq_true rfl) ?_
  refine awp_seq ?_
  refine awp_region ?_
  refine al_d rfl rfl rfl (by exact opd_box (id := 1) rfl rfl rfl rfl rfl) ?_
  refine al_d rfl rfl rfl (by exact opd_assign rfl rfl) ?_
  refine al_d rfl rfl rfl (by exact opd_assign rfl rfl) ?_
  refine al_nil ?_
  refine awp_seq ?_
  refine awp_region ?_
  refine al_d rfl rfl rfl (by exact (by first | exact opd_field_ref rfl fo30_4 rfl rfl rfl rfl | exact opd_field_pad rfl fo30_4 rfl rfl)) ?_
  refine al_d rfl rfl rfl (by exact (by first | exact opd_load1_ref rfl Try.isAgg28 rfl rfl rfl rfl rfl | exact opd_load1_pad rfl Try.isAgg28 rfl (by first | omega | assumption) rfl)) ?_
  refine al_d rfl rfl rfl (by exact opr_call rfl rfl Try.call14 rfl (tagGet_c o.tags sView _ h2)) ?_
  refine al_d rfl rfl rfl (by exact opd_move rfl rfl) ?_
  refine al_d rfl rfl rfl (by exact opd_extract rfl rfl rfl) ?_
  refine al_d rfl rfl rfl (by exact opd_extract rfl rfl rfl) ?_
  refine al_d rfl rfl rfl (by exact opd_assign rfl rfl) ?_
  refine al_d rfl rfl rfl (by exact opd_assign rfl rfl) ?_
  refine al_nil ?_
  refine awp_seq ?_
  -- guard at a region with tests: %bool 3 := ..
  cases hb : (gGet o.tags sView).isSome
  · skip
    refine awp_region ?_
    refine al_d rfl rfl rfl (by exact opd_move rfl rfl) ?_
    refine al_d rfl rfl rfl (by exact opd_move rfl rfl) ?_
    refine al_d rfl rfl rfl (by exact opd_move rfl rfl) ?_
    refine al_off rfl rfl rfl (by first | rfl | assumption) rfl ?_
    refine al_off rfl rfl rfl (by first | rfl | assumption) rfl ?_
    refine al_d rfl rfl rfl (by exact (by first | exact opd_pick_t rfl rfl rfl | exact opd_pick_f rfl rfl rfl | exact opd_pickt rfl rfl (by assumption) rfl | exact opd_pickf rfl rfl (by assumption) rfl | exact opd_pick rfl rfl rfl)) ?_
    refine al_d rfl rfl rfl (by exact opd_assign rfl rfl) ?_
    refine al_d rfl rfl rfl (by exact opd_assign rfl rfl) ?_
    refine al_nil ?_
    refine awp_ret ?_
    -- return
    refine aret2 (H' := []) (by first | exact .inr rfl | exact .inl rfl) rfl (rval_tmp rfl) (rval_tmp rfl) (Fin.wk (by simp) trivial trivial) ?_
    exact ⟨by rw [ownB, hb]; rfl, rfl⟩
  · skip
    refine awp_region ?_
    refine al_d rfl rfl rfl (by exact opd_move rfl rfl) ?_
    refine al_d rfl rfl rfl (by exact opd_move rfl rfl) ?_
    refine al_d rfl rfl rfl (by exact opd_move rfl rfl) ?_
    refine al_ond rfl rfl rfl (by first | rfl | assumption) rfl rfl (by exact opd_move rfl rfl) ?_
    refine al_ond rfl rfl rfl (by first | rfl | assumption) rfl rfl (by exact opr_call rfl rfl Try.call15 rfl (name_c (ownS o) _ (gGet_size (by omega) (fun t ht => (h2' t ht).2)))) ?_
    refine al_d rfl rfl rfl (by exact (by first | exact opd_pick_t rfl rfl rfl | exact opd_pick_f rfl rfl rfl | exact opd_pickt rfl rfl (by assumption) rfl | exact opd_pickf rfl rfl (by assumption) rfl | exact opd_pick rfl rfl rfl)) ?_
    refine al_d rfl rfl rfl (by exact opd_assign rfl rfl) ?_
    refine al_d rfl rfl rfl (by exact opd_assign rfl rfl) ?_
    refine al_nil ?_
    refine awp_ret ?_
    -- return
    refine aret2 (H' := []) (by first | exact .inr rfl | exact .inl rfl) rfl (rval_tmp rfl) (rval_tmp rfl) (Fin.wk (by simp) trivial trivial) ?_
    exact ⟨by rw [ownB, hb]; rfl, rfl⟩
theorem common1_c (s : ByteArray) (b : Bool) (H : Heap) : ACalls Try.prog 72 [sv s, bv b] H (fun r H' => r = bv (!b) ∧ H' = H) := by
  refine ACalls.pure ?_ (by simp) H
  refine ACalls.body Try.func72 rfl Try.ntmps72 (Nat.le_of_ble_eq_true rfl) ?_
  refine awp_seq ?_
  refine awp_region ?_
  refine al_d rfl rfl rfl (by exact opd_assign rfl rfl) ?_
  refine al_nil ?_
  refine awp_seq ?_
  refine awp_region ?_
  refine al_d rfl rfl rfl (by exact opd_move rfl rfl) ?_
  refine al_d rfl rfl rfl (by exact opd_not rfl rfl) ?_
  refine al_d rfl rfl rfl (by exact opd_assign rfl rfl) ?_
  refine al_nil ?_
  refine awp_ret ?_
  -- return
  refine aret1 (H' := []) (by first | exact .inr rfl | exact .inl rfl) rfl (rval_tmp rfl) (Fin.wk (by simp) trivial trivial) ?_
  exact ⟨rfl, rfl⟩
theorem disputed1_c (s : ByteArray) (b : Bool) (H : Heap) : ACalls Try.prog 75 [sv s, bv b] H (fun r H' => r = bv b ∧ H' = H) := by
  refine ACalls.pure ?_ (by simp) H
  refine ACalls.body Try.func75 rfl Try.ntmps75 (Nat.le_of_ble_eq_true rfl) ?_
  refine awp_seq ?_
  refine awp_region ?_
  refine al_d rfl rfl rfl (by exact opd_assign rfl rfl) ?_
  refine al_nil ?_
  refine awp_seq ?_
  refine awp_region ?_
  refine al_d rfl rfl rfl (by exact opd_move rfl rfl) ?_
  refine al_d rfl rfl rfl (by exact opd_assign rfl rfl) ?_
  refine al_nil ?_
  refine awp_ret ?_
  -- return
  refine aret1 (H' := []) (by first | exact .inr rfl | exact .inl rfl) rfl (rval_tmp rfl) (Fin.wk (by simp) trivial trivial) ?_
  exact ⟨rfl, rfl⟩
end Go.Proofs.Ytdcifaldfmpapaa
end
section
set_option linter.unusedVariables false
set_option linter.unusedSimpArgs false
set_option maxRecDepth 100000
namespace Go.Proofs.Ytdcifaldfmpapaa
open Go.Abs
def gBefore : List ByteArray → List ByteArray → Bool
  | [], b => decide ((0 : Int) < (b.length : Int))
  | _ :: _, [] => false
  | x :: a, y :: b => if x = y then gBefore a b else slt x y
theorem before_drop {a b : List ByteArray} {k : Nat} {x y : ByteArray} (hx : a[k]? = some x) (hy : b[k]? = some y) : gBefore (a.drop k) (b.drop k) = if x = y then gBefore (a.drop (k + 1)) (b.drop (k + 1)) else slt x y := by
  obtain ⟨h1, e1⟩ := List.getElem?_eq_some_iff.1 hx
  obtain ⟨h2, e2⟩ := List.getElem?_eq_some_iff.1 hy
  rw [List.drop_eq_getElem_cons h1, List.drop_eq_getElem_cons h2, e1, e2, gBefore]
theorem before_end {a b : List ByteArray} {k : Nat} (ha : k ≤ a.length) (hb : k ≤ b.length) (h : ¬ (k < a.length ∧ k < b.length)) : gBefore (a.drop k) (b.drop k) = decide ((a.length : Int) < (b.length : Int)) := by
  by_cases e : k = a.length
  · rw [List.drop_eq_nil_of_le (by omega), gBefore, List.length_drop]
    congr 1
    exact propext ⟨fun h => by omega, fun h => by omega⟩
  · have hb' : k = b.length := by omega
    have h1 : k < a.length := by omega
    rw [List.drop_eq_getElem_cons h1, show b.drop k = [] from List.drop_eq_nil_of_le (by omega), gBefore]
    exact (decide_eq_false (by omega)).symm
theorem before_c (a b : List ByteArray) (H : Heap) (ha : a.length < 4611686018427387904) (hb : b.length < 4611686018427387904) : ACalls Try.prog 71 [.pv (slStrs a), .pv (slStrs b)] H (fun r H' => r = bv (gBefore a b) ∧ H' = H) := by
  refine ACalls.pure ?_ (by simp) H
  have hma : (a.map encStr).length = a.length := List.length_map _
  have hmb : (b.map encStr).length = b.length := List.length_map _
  refine ACalls.body Try.func71 rfl Try.ntmps71 (Nat.le_of_ble_eq_true rfl) ?_
  refine awp_seq ?_
  refine awp_region ?_
  refine al_d rfl rfl rfl (by exact opd_assign rfl rfl) ?_
  refine al_nil ?_
  refine awp_seq ?_
  refine awp_seq ?_
  refine awp_region ?_
  refine al_d rfl rfl rfl (by exact opd_assign rfl rfl) ?_
  refine al_nil ?_
  refine awp_block ?_
  -- loop
  refine awp_loop (σ := Nat) (fun k => ([(0, .pv (slStrs a)), (1, .pv (slStrs b)), (5, iv (k : Int))], [])) (fun k => k ≤ a.length ∧ k ≤ b.length ∧ gBefore (a.drop k) (b.drop k) = gBefore a b) (fun k => a.length - k) 0 ⟨by omega, by omega, rfl⟩ ?_ ?_
  · exact (Ent.wk ⟨⟨_, rfl, rfl⟩, (by first | (simp; done) | (simp; rfl) | exact clo_map _ _ _), ⟨_, rfl, rfl⟩, (by first | (simp; done) | (simp; rfl) | exact clo_map _ _ _), ⟨_, rfl, rfl⟩, (by first | (simp; done) | (simp; rfl) | exact clo_map _ _ _), trivial⟩ trivial trivial)
  · rintro k ⟨hka, hkb, hno⟩
    refine awp_seq ?_
    refine awp_seq ?_
    refine awp_bool (t := 15) (n := 11) (X := decide ((k : Int) < ((a.map encStr).length : Int)) && decide ((k : Int) < ((b.map encStr).length : Int))) ?_ ?_
    · all_goals (refine al_d rfl rfl rfl (by exact opd_move rfl rfl) ?_)
      all_goals (refine al_d rfl rfl rfl (by exact opd_move rfl rfl) ?_)
      all_goals (refine al_d rfl rfl rfl (by exact (by first | exact opd_len_sl rfl Try.underlying27 rfl | exact opd_len_osl rfl Try.underlying27 rfl rfl rfl)) ?_)
      all_goals (refine al_d rfl rfl rfl (by exact opd_lss rfl rfl rfl) ?_)
      all_goals (refine al_d rfl rfl rfl (by exact opd_move rfl rfl) ?_)
      all_goals (first | refine al_split (t := 10) rfl (fun h10 => ?_) (fun h10 => ?_) | refine al_dup (t := 10) rfl ?_ | skip)
      all_goals (try contradiction)
      all_goals (first | refine al_off rfl rfl rfl rfl rfl ?_ | refine al_offu rfl rfl rfl rfl ?_ | refine al_ond rfl rfl rfl rfl rfl rfl (by exact opd_move rfl rfl) ?_)
      all_goals (first | refine al_off rfl rfl rfl rfl rfl ?_ | refine al_offu rfl rfl rfl rfl ?_ | refine al_ond rfl rfl rfl rfl rfl rfl (by exact opd_move rfl rfl) ?_)
      all_goals (first | refine al_off rfl rfl rfl rfl rfl ?_ | refine al_offu rfl rfl rfl rfl ?_ | refine al_ond rfl rfl rfl rfl rfl rfl (by exact (by first | exact opd_len_sl rfl Try.underlying27 rfl | exact opd_len_osl rfl Try.underlying27 rfl rfl rfl)) ?_)
      all_goals (first | refine al_off rfl rfl rfl rfl rfl ?_ | refine al_offu rfl rfl rfl rfl ?_ | refine al_ond rfl rfl rfl rfl rfl rfl (by exact opd_lss rfl rfl rfl) ?_)
      all_goals (refine al_d rfl rfl rfl (by exact (by first | exact opd_pick_t rfl rfl rfl | exact opd_pick_f rfl rfl rfl | exact opd_pickt rfl rfl (by assumption) rfl | exact opd_pickf rfl rfl (by assumption) rfl | exact opd_pick rfl rfl rfl)) ?_)
      all_goals (refine al_nil ?_)
      all_goals (exact ⟨⟨_, rfl, by first | rfl | (simp only [*, Bool.false_and, Bool.true_and, Bool.and_false, Bool.and_true, Bool.true_or, Bool.false_or, Bool.or_true, Bool.or_false, Bool.not_true, Bool.not_false]; done) | (simp_all; done) | (simp_all; omega)⟩, rfl, rfl, rfl⟩)
    refine awp_cond rfl (fun hc1 => ?_) (fun hc1 => ?_)
    -- cond 1
    · have hlt : k < a.length ∧ k < b.length := by
        simp only [Bool.and_eq_true, decide_eq_true_eq] at hc1
        omega
      obtain ⟨x, hx⟩ := get_of_lt hlt.1
      obtain ⟨y, hy⟩ := get_of_lt hlt.2
      have hi := map_get (f := encStr) hx
      have hj := map_get (f := encStr) hy
      rw [before_drop hx hy] at hno
      refine awp_skip ?_
      refine awp_seq ?_
      refine awp_block ?_
      refine awp_seq ?_
      refine awp_drawc follows ?_
      refine dc_cons (DStep.q rfl (by exact opd_move rfl rfl)) rfl ?_
      refine dc_cons (DStep.q rfl (by exact opd_move rfl rfl)) rfl ?_
      refine dc_cons (DStep.q rfl (by exact (by first | exact x_index_pad rfl so27 rfl rfl (by omega) (by first | exact Int.toNat_natCast _ | rfl) (by assumption) rfl | exact x_index_osl rfl so27 rfl rfl rfl rfl rfl (by omega) (by first | exact Int.toNat_natCast _ | rfl) (by first | omega | assumption) rfl))) rfl ?_
      refine dc_cons (DStep.q rfl (by exact (by first | exact opd_load1_ref rfl Try.isAgg9 rfl rfl rfl rfl rfl | exact opd_load1_pad rfl Try.isAgg9 rfl (by first | omega | assumption) rfl))) rfl ?_
      refine dc_cons (DStep.q rfl (by exact opd_move rfl rfl)) rfl ?_
      refine dc_cons (DStep.q rfl (by exact opd_move rfl rfl)) rfl ?_
      refine dc_cons (DStep.q rfl (by exact (by first | exact x_index_pad rfl so27 rfl rfl (by omega) (by first | exact Int.toNat_natCast _ | rfl) (by assumption) rfl | exact x_index_osl rfl so27 rfl rfl rfl rfl rfl (by omega) (by first | exact Int.toNat_natCast _ | rfl) (by first | omega | assumption) rfl))) rfl ?_
      refine dc_cons (DStep.q rfl (by exact (by first | exact opd_load1_ref rfl Try.isAgg9 rfl rfl rfl rfl rfl | exact opd_load1_pad rfl Try.isAgg9 rfl (by first | omega | assumption) rfl))) rfl ?_
      refine dc_cons (DStep.q rfl (by exact opd_sneq rfl rfl rfl)) rfl ?_
      refine dc_nil ⟨by kernel_rfl, ?_⟩
      refine awp_cond rfl (fun hc2 => ?_) (fun hc2 => ?_)
      -- cond 2
      · have hne : ¬ (x = y) := by simpa using hc2
        rw [if_neg hne] at hno
        refine awp_seq ?_
        refine awp_drawc follows ?_
        refine dc_cons (DStep.q rfl (by exact opd_move rfl rfl)) rfl ?_
        refine dc_cons (DStep.q rfl (by exact opd_move rfl rfl)) rfl ?_
        refine dc_cons (DStep.q rfl (by exact (by first | exact x_index_pad rfl so27 rfl rfl (by omega) (by first | exact Int.toNat_natCast _ | rfl) (by assumption) rfl | exact x_index_osl rfl so27 rfl rfl rfl rfl rfl (by omega) (by first | exact Int.toNat_natCast _ | rfl) (by first | omega | assumption) rfl))) rfl ?_
        refine dc_cons (DStep.q rfl (by exact (by first | exact opd_load1_ref rfl Try.isAgg9 rfl rfl rfl rfl rfl | exact opd_load1_pad rfl Try.isAgg9 rfl (by first | omega | assumption) rfl))) rfl ?_
        refine dc_cons (DStep.q rfl (by exact opd_move rfl rfl)) rfl ?_
        refine dc_cons (DStep.q rfl (by exact opd_move rfl rfl)) rfl ?_
        refine dc_cons (DStep.q rfl (by exact (by first | exact x_index_pad rfl so27 rfl rfl (by omega) (by first | exact Int.toNat_natCast _ | rfl) (by assumption) rfl | exact x_index_osl rfl so27 rfl rfl rfl rfl rfl (by omega) (by first | exact Int.toNat_natCast _ | rfl) (by first | omega | assumption) rfl))) rfl ?_
        refine dc_cons (DStep.q rfl (by exact (by first | exact opd_load1_ref rfl Try.isAgg9 rfl rfl rfl rfl rfl | exact opd_load1_pad rfl Try.isAgg9 rfl (by first | omega | assumption) rfl))) rfl ?_
        refine dc_cons (DStep.q rfl (by exact opd_slss rfl rfl rfl)) rfl ?_
        refine dc_cons (DStep.q rfl (by exact opd_assign rfl rfl)) rfl ?_
        refine dc_nil ⟨by kernel_rfl, ?_⟩
        refine awp_ret ?_
        -- return
        refine aret1 (H' := []) (by first | exact .inr rfl | exact .inl rfl) rfl (rval_tmp rfl) (Fin.wk (by simp) trivial trivial) ?_
        exact ⟨by rw [← hno], rfl⟩
      · have he : x = y := by simpa using hc2
        rw [if_pos he] at hno
        refine awp_skip ?_
        refine awp_region ?_
        refine al_d rfl rfl rfl (by exact opd_move rfl rfl) ?_
        refine al_d rfl rfl rfl (by exact opd_add rfl rfl rfl (by first | exact w64 (by omega) (by omega) | exact wu8 (by omega) (by omega) | rfl)) ?_
        refine al_d rfl rfl rfl (by exact opd_assign rfl rfl) ?_
        refine al_nil ?_
        -- end of a round
        exact ⟨k + 1, ⟨by omega, by omega, hno⟩, by omega, (Ent.wk ⟨⟨_, rfl, rfl⟩, (by first | (simp; done) | (simp; rfl) | exact clo_map _ _ _), ⟨_, rfl, rfl⟩, (by first | (simp; done) | (simp; rfl) | exact clo_map _ _ _), ⟨_, rfl, rfl⟩, (by first | (simp; done) | (simp; rfl) | exact clo_map _ _ _), trivial⟩ trivial trivial)⟩
    · have hge : ¬ (k < a.length ∧ k < b.length) := by
        intro h
        simp only [Bool.and_eq_false_iff, decide_eq_false_iff_not] at hc1
        omega
      rw [before_end hka hkb hge] at hno
      refine awp_exit ?_
      refine awp_seq ?_
      refine awp_region ?_
      refine al_d rfl rfl rfl (by exact opd_move rfl rfl) ?_
      refine al_d rfl rfl rfl (by exact (by first | exact opd_len_sl rfl Try.underlying27 rfl | exact opd_len_osl rfl Try.underlying27 rfl rfl rfl)) ?_
      refine al_d rfl rfl rfl (by exact opd_move rfl rfl) ?_
      refine al_d rfl rfl rfl (by exact (by first | exact opd_len_sl rfl Try.underlying27 rfl | exact opd_len_osl rfl Try.underlying27 rfl rfl rfl)) ?_
      refine al_d rfl rfl rfl (by exact opd_lss rfl rfl rfl) ?_
      refine al_d rfl rfl rfl (by exact opd_assign rfl rfl) ?_
      refine al_nil ?_
      refine awp_ret ?_
      -- return
      refine aret1 (H' := []) (by first | exact .inr rfl | exact .inl rfl) rfl (rval_tmp rfl) (Fin.wk (by simp) trivial trivial) ?_
      exact ⟨by rw [← hno, hma, hmb], rfl⟩
def gIds (a b : List ByteArray) : Bool := !gBefore a b && !gBefore b a
theorem ids_c (a b : List ByteArray) (H : Heap) (ha : a.length < 4611686018427387904) (hb : b.length < 4611686018427387904) : ACalls Try.prog 35 [.pv (slStrs a), .pv (slStrs b)] H (fun r H' => r = bv (gIds a b) ∧ H' = H) := by
  refine ACalls.pure ?_ (by simp) H
  refine ACalls.body Try.func35 rfl Try.ntmps35 (Nat.le_of_ble_eq_true rfl) ?_
  refine awp_seq ?_
  refine awp_region ?_
  refine al_d rfl rfl rfl (by exact opd_assign rfl rfl) ?_
  refine al_nil ?_
  refine awp_seq ?_
  refine awp_bool (t := 4) (n := 12) (X := gIds a b) ?_ ?_
  · all_goals (refine al_d rfl rfl rfl (by exact opd_move rfl rfl) ?_)
    all_goals (refine al_d rfl rfl rfl (by exact opd_move rfl rfl) ?_)
    all_goals (refine al_d rfl rfl rfl (by exact opr_call rfl rfl Try.call71 rfl (before_c a b _ ha hb)) ?_)
    all_goals (refine al_d rfl rfl rfl (by exact opd_not rfl rfl) ?_)
    all_goals (refine al_d rfl rfl rfl (by exact opd_move rfl rfl) ?_)
    all_goals (first | refine al_split (t := 9) rfl (fun h9 => ?_) (fun h9 => ?_) | refine al_dup (t := 9) rfl ?_ | skip)
    all_goals (try contradiction)
    all_goals (first | refine al_off rfl rfl rfl rfl rfl ?_ | refine al_offu rfl rfl rfl rfl ?_ | refine al_ond rfl rfl rfl rfl rfl rfl (by exact opd_move rfl rfl) ?_)
    all_goals (first | refine al_off rfl rfl rfl rfl rfl ?_ | refine al_offu rfl rfl rfl rfl ?_ | refine al_ond rfl rfl rfl rfl rfl rfl (by exact opd_move rfl rfl) ?_)
    all_goals (first | refine al_off rfl rfl rfl rfl rfl ?_ | refine al_offu rfl rfl rfl rfl ?_ | refine al_ond rfl rfl rfl rfl rfl rfl (by exact opr_call rfl rfl Try.call71 rfl (before_c b a _ hb ha)) ?_)
    all_goals (first | refine al_off rfl rfl rfl rfl rfl ?_ | refine al_offu rfl rfl rfl rfl ?_ | refine al_ond rfl rfl rfl rfl rfl rfl (by exact opd_not rfl rfl) ?_)
    all_goals (refine al_d rfl rfl rfl (by exact (by first | exact opd_pick_t rfl rfl rfl | exact opd_pick_f rfl rfl rfl | exact opd_pickt rfl rfl (by assumption) rfl | exact opd_pickf rfl rfl (by assumption) rfl | exact opd_pick rfl rfl rfl)) ?_)
    all_goals (refine al_d rfl rfl rfl (by exact opd_assign rfl rfl) ?_)
    all_goals (refine al_nil ?_)
    all_goals (exact ⟨⟨_, rfl, by first | rfl | (simp only [gIds, *]; rfl) | (simp_all [gIds]; done) | (simp only [*, Bool.false_and, Bool.true_and, Bool.and_false, Bool.and_true, Bool.true_or, Bool.false_or, Bool.or_true, Bool.or_false, Bool.not_true, Bool.not_false]; done) | (simp_all; omega) | (simp_all [gIds]; omega)⟩, rfl, rfl, rfl⟩)
  refine awp_ret ?_
  -- return
  refine aret1 (H' := []) (by first | exact .inr rfl | exact .inl rfl) rfl (rval_tmp rfl) (Fin.wk (by simp) trivial trivial) ?_
  exact ⟨rfl, rfl⟩
end Go.Proofs.Ytdcifaldfmpapaa
end
section
set_option linter.unusedVariables false
set_option linter.unusedSimpArgs false
namespace Go.Proofs.Ytdcifaldfmpapaa
open Go.Abs
theorem gBefore_self (a : List ByteArray) : gBefore a a = false := by
  induction a with
  | nil => rfl
  | cons x a ih => rw [gBefore, if_pos rfl]; exact ih
theorem gBefore_tri : ∀ {a b : List ByteArray}, gBefore a b = false → gBefore b a = false → a = b
  | [], [], _, _ => rfl
  | [], y :: b, h, _ => by simp [gBefore] at h
  | x :: a, [], _, h => by simp [gBefore] at h
  | x :: a, y :: b, h1, h2 => by
    rw [gBefore] at h1 h2
    by_cases e : x = y
    · subst e
      rw [if_pos rfl] at h1 h2
      rw [gBefore_tri h1 h2]
    · rw [if_neg e] at h1
      rw [if_neg (fun h => e h.symm)] at h2
      exact absurd (slt_tri h1 h2) e
theorem gIds_eq (a b : List ByteArray) : gIds a b = true ↔ a = b := by
  constructor
  · intro h
    simp only [gIds, Bool.and_eq_true, Bool.not_eq_true'] at h
    exact gBefore_tri h.1 h.2
  · rintro rfl
    simp [gIds, gBefore_self]
end Go.Proofs.Ytdcifaldfmpapaa
end
section
set_option linter.unusedVariables false
set_option linter.unusedSimpArgs false
namespace Go.Proofs.Ytdcifaldfmpapaa
open Go.Abs
/-! ### views -/
def inView (v : ByteArray) (o : GObj) : Bool := !ownB o || decide (ownS o = v)
def gObjects (m : List GObj) (p : GObj → Bool) : List GObj := if gMap m then m.filter p else []
def gOf (m : List GObj) (v : ByteArray) : List GObj := gObjects m (inView v)
def gCommon (m : List GObj) : List GObj := gObjects m (fun o => !ownB o)
def gDisp (m : List GObj) : List ByteArray := (gObjects m ownB).map GObj.id
def gWithout (m : List GObj) (l : List ByteArray) : List GObj := m.filter (fun o => !inB l o.id)
theorem gOf_sub (m : List GObj) (v : ByteArray) : (gOf m v).Sublist m := by
  rw [gOf, gObjects]
  split
  · exact List.filter_sublist
  · exact List.nil_sublist _
end Go.Proofs.Ytdcifaldfmpapaa
end
section
set_option linter.unusedVariables false
set_option linter.unusedSimpArgs false
set_option maxRecDepth 100000
namespace Go.Proofs.Ytdcifaldfmpapaa
open Go.Abs
abbrev obRows (l : List GObj) : List (List AV) := l.map (fun e => (encObj e).map .pv)
theorem rows_of {α : Type} (f : α → List PV) (l : List α) : l.map (fun e => (f e).map AV.pv) = (l.map f).map (·.map .pv) := by rw [List.map_map]; rfl
theorem filter_take {α : Type} (p : α → Bool) {l : List α} {k : Nat} {a : α} (h : l[k]? = some a) : (l.take (k + 1)).filter p = (l.take k).filter p ++ (if p a then [a] else []) := by
  rw [List.take_add_one, h, List.filter_append]
  simp only [Option.toList_some]
  congr 1
  cases e : p a <;> simp [e]
theorem len_snoc {α : Type} (l : List α) (a : α) : l.length + 1 = (l ++ [a]).length := by simp
theorem filter_c (fv : AV) (l : List GObj) (p : GObj → Bool) (K : Heap) (hl : l.length < 1099511627776) (hf5 : K.get 905 = none) (hf7 : K.get 907 = none) (hc : Closed K) (hfc : Clo K fv)
    (hf : ∀ o, o ∈ l → ∀ D, lo D 910 → Closed (D ++ K) → CallsV Try.prog fv [av (encObj o)] (D ++ K) (fun r H' => r = bv (p o) ∧ H' = D ++ K)) :
    ACalls Try.prog 89 [.pv (slObjs l), fv] K (fun r H' => r = .pv (slObjs (l.filter p)) ∧ H' = K) := by
  have hml : (l.map encObj).length = l.length := List.length_map _
  refine ACalls.body Try.func89 rfl Try.ntmps89 (Nat.le_of_ble_eq_true rfl) ?_
  refine awp_seq ?_
  refine awp_region ?_
  refine al_d rfl rfl rfl (by exact opd_assign rfl rfl) ?_
  refine al_nil ?_
  refine awp_seq ?_
  refine awp_region ?_
  refine al_d rfl rfl rfl (by exact opd_assign_own (id := 905) (sz := 6) (ty := 30) rfl hf5 rfl) ?_
  refine al_nil ?_
  refine awp_seq ?_
  refine awp_seq ?_
  refine awp_region ?_
  refine al_d rfl rfl rfl (by exact opd_move rfl rfl) ?_
  refine al_d rfl rfl rfl (by exact (by first | exact opd_len_sl rfl Try.underlying22 rfl | exact opd_len_osl rfl Try.underlying22 rfl rfl rfl)) ?_
  refine al_d rfl rfl rfl (by exact opd_move rfl rfl) ?_
  refine al_nil ?_
  refine awp_block ?_
  -- loop
  refine awp_loop2 (fun (k : Nat) (g : Nat) => ([(1, fv), (5, .osl 905 g 0 ((l.take k).filter p).length), (8, .pv (slObjs l)), (9, iv ((l.map encObj).length : Int)), (10, iv (k : Int))], (905, ⟨g, 6, 30, obRows ((l.take k).filter p)⟩) :: K)) (fun k g => k ≤ l.length) (fun k g => l.length - k) 0 0 (by omega) ?_ ?_
  · exact Ent.e0 ⟨⟨_, rfl, rfl⟩, ⟨_, rfl, rfl⟩, ⟨_, rfl, rfl⟩, ⟨_, rfl, rfl⟩, ⟨_, rfl, rfl⟩, trivial⟩
  · intro k g hk
    refine awp_seq ?_
    refine awp_region ?_
    refine al_d rfl rfl rfl (by exact opd_lss rfl rfl rfl) ?_
    refine al_nil ?_
    refine awp_seq ?_
    refine awp_cond rfl (fun hc1 => ?_) (fun hc1 => ?_)
    -- cond 1
    · have hlt : k < l.length := by have := of_decide_eq_true hc1; omega
      obtain ⟨o, ho⟩ := get_of_lt hlt
      have hi := map_get (f := encObj) ho
      have hfo := hf o (List.mem_of_getElem? ho) [(907, bx 6 30 ((encObj o).map .pv)), (907, bx 6 30 [sv sNil, iv 0, iv 0, iv 0, lv [], lv []]), (905, ⟨g, 6, 30, obRows ((l.take k).filter p)⟩)] (lo_cons (lo_cons (lo_cons (lo_nil _) (by omega) (by omega)) (by omega) (by omega)) (by omega) (by omega)) (Closed.cons (by simp [encObj]) (Closed.cons (by simp) (Closed.cons (clo_map _ _ _) hc)))
-- (lo_cons (lo_nil _) (by omega) (by omega)) (by omega) (by omega))
      have hft := filter_take p ho
      have hfl : ((l.take k).filter p).length ≤ k := by have := List.length_filter_le p (l.take k); rw [List.length_take] at this; omega
      refine awp_skip ?_
      refine awp_seq ?_
      refine awp_block ?_
      refine awp_seq ?_
      refine awp_region ?_
      refine al_d rfl rfl rfl (by exact (by first | exact x_index_pad rfl so22 rfl rfl (by omega) (by first | exact Int.toNat_natCast _ | rfl) (by assumption) rfl | exact x_index_osl rfl so22 rfl rfl rfl rfl rfl (by omega) (by first | exact Int.toNat_natCast _ | rfl) (by first | omega | assumption) rfl)) ?_
      refine al_d rfl rfl rfl (by exact (by first | exact opd_loadn_ref rfl Try.isAgg30 Try.sizeOf30 rfl rfl rfl rfl (by simp only [List.drop_succ_cons, List.drop_zero, List.take_succ_cons, List.take_zero, List.take_nil, List.map_cons, List.map_nil, List.set_cons_zero, List.set_cons_succ, List.cons_append, List.nil_append, encTag, encObj]; rfl) rfl | exact opd_loadn_pad rfl Try.isAgg30 Try.sizeOf30 rfl (by first | omega | assumption) (by simp only [List.drop_succ_cons, List.drop_zero, List.take_succ_cons, List.take_zero, List.take_nil, List.map_cons, List.map_nil, List.set_cons_zero, List.set_cons_succ, List.cons_append, List.nil_append, encTag, encObj]; rfl) rfl)) ?_
      refine al_d rfl rfl rfl (by exact x_alloc (id := 907) rfl zo30 rfl hf7) ?_
      refine al_n rfl rfl (by exact (by first | exact x_store_all rfl Try.sizeOf30 rfl rfl rfl rfl rfl rfl rfl rfl | exact x_store rfl Try.sizeOf30 rfl rfl rfl rfl rfl rfl rfl (by simp only [List.length_cons, List.length_nil]; omega) (by simp only [List.drop_succ_cons, List.drop_zero, List.take_succ_cons, List.take_zero, List.take_nil, List.map_cons, List.map_nil, List.set_cons_zero, List.set_cons_succ, List.cons_append, List.nil_append, encTag, encObj]; rfl) (by simp only [List.drop_succ_cons, List.drop_zero, List.take_succ_cons, List.take_zero, List.take_nil, List.map_cons, List.map_nil, List.set_cons_zero, List.set_cons_succ, List.cons_append, List.nil_append, encTag, encObj]; rfl) | exact x_store rfl Try.sizeOf30 rfl rfl rfl rfl rfl rfl rfl (Nat.le_of_ble_eq_true rfl) rfl rfl)) ?_
      refine al_nil ?_
      refine awp_seq ?_
      refine awp_region ?_
      refine al_d rfl rfl rfl (by exact opd_move rfl rfl) ?_
      refine al_d rfl rfl rfl (by exact (by first | exact opd_loadn_ref rfl Try.isAgg30 Try.sizeOf30 rfl rfl rfl rfl (by simp only [List.drop_succ_cons, List.drop_zero, List.take_succ_cons, List.take_zero, List.take_nil, List.map_cons, List.map_nil, List.set_cons_zero, List.set_cons_succ, List.cons_append, List.nil_append, encTag, encObj]; rfl) rfl | exact opd_loadn_pad rfl Try.isAgg30 Try.sizeOf30 rfl (by first | omega | assumption) (by simp only [List.drop_succ_cons, List.drop_zero, List.take_succ_cons, List.take_zero, List.take_nil, List.map_cons, List.map_nil, List.set_cons_zero, List.set_cons_succ, List.cons_append, List.nil_append, encTag, encObj]; rfl) rfl)) ?_
      refine al_d rfl rfl rfl (by exact opr_callV rfl rfl rfl (hfo)) ?_
      refine al_nil ?_
      refine awp_cond rfl (fun hc2 => ?_) (fun hc2 => ?_)
      -- cond 2
      · rw [hc2, if_pos rfl] at hft
        refine awp_region ?_
        refine al_d rfl rfl rfl (by exact opd_move rfl rfl) ?_
        refine al_d rfl rfl rfl (by exact (by first | exact opd_loadn_ref rfl Try.isAgg30 Try.sizeOf30 rfl rfl rfl rfl (by simp only [List.drop_succ_cons, List.drop_zero, List.take_succ_cons, List.take_zero, List.take_nil, List.map_cons, List.map_nil, List.set_cons_zero, List.set_cons_succ, List.cons_append, List.nil_append, encTag, encObj]; rfl) rfl | exact opd_loadn_pad rfl Try.isAgg30 Try.sizeOf30 rfl (by first | omega | assumption) (by simp only [List.drop_succ_cons, List.drop_zero, List.take_succ_cons, List.take_zero, List.take_nil, List.map_cons, List.map_nil, List.set_cons_zero, List.set_cons_succ, List.cons_append, List.nil_append, encTag, encObj]; rfl) rfl)) ?_
        refine al_d rfl rfl rfl (by exact x_buildSlice [encObj o] rfl so22 rfl rfl rfl rfl rfl (by simp [encObj])) ?_
        refine al_d rfl rfl rfl (by exact (by first | exact x_append rfl so22 ei30 rfl rfl rfl rfl rfl (List.length_map _) rfl (by simp [encObj]) (rfl : _ = 1) (by omega) (len_snoc _ o) ((List.map_append (l₂ := [o])).symm) | exact x_append_osl rfl so22 ei30 rfl rfl rfl rfl rfl (List.length_map _) rfl rfl rfl rfl (by simp [encObj]) (rfl : _ = 1) (by omega) (len_snoc _ o) ((List.map_append (l₂ := [o])).symm))) ?_
        refine al_d rfl rfl rfl (by exact opd_assign rfl rfl) ?_
        refine al_nil ?_
        refine awp_region ?_
        refine al_d rfl rfl rfl (by exact opd_add rfl rfl rfl (by first | exact w64 (by omega) (by omega) | exact wu8 (by omega) (by omega) | rfl)) ?_
        refine al_d rfl rfl rfl (by exact opd_move rfl rfl) ?_
        refine al_nil ?_
        -- end of a round
        refine ⟨k + 1, g + 1, by omega, by omega, ?_⟩
        rw [hft]
        exact Ent.front [(905, ⟨g + 1, 6, 30, obRows ((l.take k).filter p ++ [o])⟩), (907, bx 6 30 ((encObj o).map .pv)), (907, bx 6 30 [sv sNil, iv 0, iv 0, iv 0, lv [], lv []]), (905, ⟨g, 6, 30, obRows ((l.take k).filter p)⟩)] [(905, ⟨g + 1, 6, 30, obRows ((l.take k).filter p ++ [o])⟩)] ⟨⟨_, rfl, rfl⟩, (by first | (simp; done) | exact .osl rfl | exact .ref rfl | exact hfc.cons), ⟨_, rfl, rfl⟩, (by first | (simp; done) | exact .osl rfl | exact .ref rfl | exact hfc.cons), ⟨_, rfl, rfl⟩, (by first | (simp; done) | exact .osl rfl | exact .ref rfl | exact hfc.cons), ⟨_, rfl, rfl⟩, (by first | (simp; done) | exact .osl rfl | exact .ref rfl | exact hfc.cons), ⟨_, rfl, rfl⟩, (by first | (simp; done) | exact .osl rfl | exact .ref rfl | exact hfc.cons), trivial⟩ (by simp [hf5, hf7]) (by rintro p (_ | ⟨_, ⟨⟩⟩); rfl) (by rintro p (_ | ⟨_, ⟨⟩⟩); exact clo_map _ _ _) hc (by simp [hf5, hf7])
      · rw [hc2, if_neg (by simp), List.append_nil] at hft
        refine awp_skip ?_
        refine awp_region ?_
        refine al_d rfl rfl rfl (by exact opd_add rfl rfl rfl (by first | exact w64 (by omega) (by omega) | exact wu8 (by omega) (by omega) | rfl)) ?_
        refine al_d rfl rfl rfl (by exact opd_move rfl rfl) ?_
        refine al_nil ?_
        -- end of a round
        refine ⟨k + 1, g, by omega, by omega, ?_⟩
        rw [hft]
        exact Ent.front [(907, bx 6 30 ((encObj o).map .pv)), (907, bx 6 30 [sv sNil, iv 0, iv 0, iv 0, lv [], lv []]), (905, ⟨g, 6, 30, obRows ((l.take k).filter p)⟩)] [(905, ⟨g, 6, 30, obRows ((l.take k).filter p)⟩)] ⟨⟨_, rfl, rfl⟩, (by first | (simp; done) | exact .osl rfl | exact .ref rfl | exact hfc.cons), ⟨_, rfl, rfl⟩, (by first | (simp; done) | exact .osl rfl | exact .ref rfl | exact hfc.cons), ⟨_, rfl, rfl⟩, (by first | (simp; done) | exact .osl rfl | exact .ref rfl | exact hfc.cons), ⟨_, rfl, rfl⟩, (by first | (simp; done) | exact .osl rfl | exact .ref rfl | exact hfc.cons), ⟨_, rfl, rfl⟩, (by first | (simp; done) | exact .osl rfl | exact .ref rfl | exact hfc.cons), trivial⟩ (by simp [hf5, hf7]) (by rintro p (_ | ⟨_, ⟨⟩⟩); rfl) (by rintro p (_ | ⟨_, ⟨⟩⟩); exact clo_map _ _ _) hc (by simp [hf5, hf7])
    · have hge : k = l.length := by have := of_decide_eq_false hc1; omega
      subst hge
      rw [List.take_length]
      refine awp_exit ?_
      refine awp_seq ?_
      refine awp_region ?_
      refine al_d rfl rfl rfl (by exact opd_move rfl rfl) ?_
      refine al_d rfl rfl rfl (by exact opd_assign rfl rfl) ?_
      refine al_nil ?_
      refine awp_ret ?_
      -- return
      refine aret1 (H' := K) (.inr rfl) rfl (rval_tmp rfl) (Fin.slice [(905, ⟨g, 6, 30, obRows (l.filter p)⟩)] ((l.filter p).map encObj) rfl rfl (rows_of encObj _) (List.length_map _) hc (by simp [hf5]) (by simp [hf5]) hf5) ⟨rfl, rfl⟩
end Go.Proofs.Ytdcifaldfmpapaa
end
section
set_option linter.unusedVariables false
set_option linter.unusedSimpArgs false
set_option maxRecDepth 100000
namespace Go.Proofs.Ytdcifaldfmpapaa
open Go.Abs
theorem objects1_c (fv : AV) (o : GObj) (b : Bool) (H : Heap) (T : Nat) (ho : okO o) (h23 : H.get 923 = some (bx 1 T [fv])) (h12 : H.get 912 = none) (hc : Closed H)
    (hf : CallsV Try.prog fv [sv (ownS o), bv (ownB o)] ((912, bx 6 30 ((encObj o).map .pv)) :: H) (fun r H' => r = bv b ∧ H' = (912, bx 6 30 ((encObj o).map .pv)) :: H)) :
    ACalls Try.prog 90 [av (encObj o), .ref 923 0 0 0] H (fun r H' => r = bv b ∧ H' = H) := by
  have h23' : Heap.get ((912, bx 6 30 ((encObj o).map .pv)) :: H) 923 = some (bx 1 T [fv]) := h23
  refine ACalls.body Try.func90 rfl Try.ntmps90 (Nat.le_of_ble_eq_true rfl) ?_
  refine awp_seq ?_
  refine awp_region ?_
  refine al_d rfl rfl rfl (by exact opd_box (id := 912) rfl rfl rfl rfl h12) ?_
  refine al_d rfl rfl rfl (by exact opd_assign rfl rfl) ?_
  refine al_nil ?_
  refine awp_seq ?_
  refine awp_drawc follows ?_
  refine dc_cons (DStep.q rfl (by exact opd_load1_ref rfl Try.isAgg77 rfl h23' rfl rfl rfl)) rfl ?_
  refine dc_cons (DStep.q rfl (by exact (by first | exact opd_loadn_ref rfl Try.isAgg30 Try.sizeOf30 rfl rfl rfl rfl (by simp only [List.drop_succ_cons, List.drop_zero, List.take_succ_cons, List.take_zero, List.take_nil, List.map_cons, List.map_nil, List.set_cons_zero, List.set_cons_succ, List.cons_append, List.nil_append, encTag, encObj]; rfl) rfl | exact opd_loadn_pad rfl Try.isAgg30 Try.sizeOf30 rfl (by first | omega | assumption) (by simp only [List.drop_succ_cons, List.drop_zero, List.take_succ_cons, List.take_zero, List.take_nil, List.map_cons, List.map_nil, List.set_cons_zero, List.set_cons_succ, List.cons_append, List.nil_append, encTag, encObj]; rfl) rfl))) rfl ?_
  refine dc_cons (DStep.q rfl (by exact opr_call rfl rfl Try.call91 rfl (own_c o _ ho))) rfl ?_
  refine dc_cons (DStep.q rfl (by exact opd_extract rfl rfl rfl)) rfl ?_
  refine dc_cons (DStep.q rfl (by exact opd_extract rfl rfl rfl)) rfl ?_
  refine dc_cons (DStep.q rfl (by exact opr_callV rfl rfl rfl (hf))) rfl ?_
  refine dc_cons (DStep.q rfl (by exact opd_assign rfl rfl)) rfl ?_
  refine dc_nil ⟨by kernel_rfl, ?_⟩
  refine awp_ret ?_
  -- return
  refine aret1 (H' := H) (.inr rfl) rfl (rval_tmp rfl) (Fin.pops [(912, bx 6 30 ((encObj o).map .pv))] (by simp) hc (by simp [h12])) ⟨rfl, rfl⟩
theorem objects_c (fv : AV) (m : List GObj) (q : GObj → Bool) (K : Heap) (hm : okM m) (hl : m.length < 1099511627776) (hK : clear K) (hc : Closed K) (hfc : Clo K fv) (hfa : acl fv = some [fv])
    (hw : ∀ o, o ∈ m → ∀ D, lo D 930 → Closed (D ++ K) → CallsV Try.prog fv [sv (ownS o), bv (ownB o)] (D ++ K) (fun r H' => r = bv (q o) ∧ H' = D ++ K)) :
    ACalls Try.prog 49 [.agg [.pv (slObjs m)], fv] K (fun r H' => r = .pv (slObjs (gObjects m q)) ∧ H' = K) := by
  have hf2 := hK 922 (by omega) (by omega)
  have hf3 := hK 923 (by omega) (by omega)
  have hf5 := hK 905 (by omega) (by omega)
  have hf7 := hK 907 (by omega) (by omega)
  have hf12 := hK 912 (by omega) (by omega)
  refine ACalls.body Try.func49 rfl Try.ntmps49 (Nat.le_of_ble_eq_true rfl) ?_
  refine awp_seq ?_
  refine awp_region ?_
  refine al_d rfl rfl rfl (by exact opd_box (id := 922) rfl rfl rfl rfl hf2) ?_
  refine al_d rfl rfl rfl (by exact opd_box (id := 923) rfl rfl hfa rfl hf3) ?_
  refine al_d rfl rfl rfl (by exact opd_assign rfl rfl) ?_
  refine al_nil ?_
  refine awp_seq ?_
  refine awp_seq ?_
  refine awp_region ?_
  refine al_d rfl rfl rfl (by exact (by first | exact opd_loadn_ref rfl Try.isAgg24 Try.sizeOf24 rfl rfl rfl rfl (by simp only [List.drop_succ_cons, List.drop_zero, List.take_succ_cons, List.take_zero, List.take_nil, List.map_cons, List.map_nil, List.set_cons_zero, List.set_cons_succ, List.cons_append, List.nil_append, encTag, encObj]; rfl) rfl | exact opd_loadn_pad rfl Try.isAgg24 Try.sizeOf24 rfl (by first | omega | assumption) (by simp only [List.drop_succ_cons, List.drop_zero, List.take_succ_cons, List.take_zero, List.take_nil, List.map_cons, List.map_nil, List.set_cons_zero, List.set_cons_succ, List.cons_append, List.nil_append, encTag, encObj]; rfl) rfl)) ?_
  refine al_d rfl rfl rfl (by exact opr_call rfl rfl Try.call78 rfl (atlasValid_c m _ hm)) ?_
  refine al_d rfl rfl rfl (by exact opd_not rfl rfl) ?_
  refine al_nil ?_
  refine awp_cond rfl (fun hc1 => ?_) (fun hc1 => ?_)
  -- cond 1
  · have hg : gObjects m q = [] := by
      have : gMap m = false := by
        have h : (!gMap m) = true := hc1
        simpa using h
      rw [gObjects, this]; rfl
    refine awp_seq ?_
    refine awp_region ?_
    refine al_d rfl rfl rfl (by exact opd_assign rfl rfl) ?_
    refine al_nil ?_
    refine awp_ret ?_
    -- return
    refine aret1 (H' := K) (.inr rfl) rfl (rval_tmp rfl) (Fin.pops [(923, bx 1 77 [fv]), (922, bx 1 24 [.pv (slObjs m)])] (by simp) hc (by simp [hf2, hf3])) ⟨by rw [hg]; rfl, rfl⟩
  · have hg : gObjects m q = m.filter q := by
      have : gMap m = true := by
        have h : (!gMap m) = false := hc1
        simpa using h
      rw [gObjects, this]; rfl
    have hcK : Closed ((923, bx 1 77 [fv]) :: (922, bx 1 24 [.pv (slObjs m)]) :: K) := by
      refine Closed.app (D := [(923, bx 1 77 [fv]), (922, bx 1 24 [.pv (slObjs m)])]) ?_ hc
      intro p hp r hr a ha
      simp only [List.mem_cons, List.not_mem_nil, or_false] at hp
      rcases hp with rfl | rfl
      · simp only [List.mem_cons, List.not_mem_nil, or_false] at hr
        subst hr
        simp only [List.mem_cons, List.not_mem_nil, or_false] at ha
        subst ha
        exact hfc.app
      · simp only [List.mem_cons, List.not_mem_nil, or_false] at hr
        subst hr
        simp only [List.mem_cons, List.not_mem_nil, or_false] at ha
        subst ha
        exact .pv _
    have hcl : ∀ o, o ∈ m → ∀ D, lo D 910 → Closed (D ++ ((923, bx 1 77 [fv]) :: (922, bx 1 24 [.pv (slObjs m)]) :: K)) → CallsV Try.prog (.clo 90 [.ref 923 0 0 0]) [av (encObj o)] (D ++ ((923, bx 1 77 [fv]) :: (922, bx 1 24 [.pv (slObjs m)]) :: K)) (fun r H' => r = bv (q o) ∧ H' = D ++ ((923, bx 1 77 [fv]) :: (922, bx 1 24 [.pv (slObjs m)]) :: K)) := by
      intro o ho D hD hcD
      have e : (912, bx 6 30 ((encObj o).map .pv)) :: (D ++ ((923, bx 1 77 [fv]) :: (922, bx 1 24 [.pv (slObjs m)]) :: K)) = ((912, bx 6 30 ((encObj o).map .pv)) :: D ++ [(923, bx 1 77 [fv]), (922, bx 1 24 [.pv (slObjs m)])]) ++ K := by simp
      have hcD' := Closed.cons (i := 912) (o := bx 6 30 ((encObj o).map .pv)) (by simp [encObj]) hcD
      refine CallsV.clo Try.call90 (objects1_c fv o (q o) _ 77 (hm.2 o ho) (by rw [lo_app hD (.inr (by omega))]; rfl) (by rw [lo_app hD (.inr (by omega))]; exact hf12) hcD ?_)
      rw [e] at hcD' ⊢
      exact hw o ho _ (lo_append (lo_cons (lo_mono hD (by omega)) (by omega) (by omega)) (lo_cons (lo_cons (lo_nil _) (by omega) (by omega)) (by omega) (by omega))) hcD'
    refine awp_skip ?_
    refine awp_seq ?_
    refine awp_region ?_
    refine al_d rfl rfl rfl (by exact (by first | exact opd_field_ref rfl fo24_0 rfl rfl rfl rfl | exact opd_field_pad rfl fo24_0 rfl rfl)) ?_
    refine al_d rfl rfl rfl (by exact (by first | exact opd_load1_ref rfl Try.isAgg22 rfl rfl rfl rfl rfl | exact opd_load1_pad rfl Try.isAgg22 rfl (by first | omega | assumption) rfl)) ?_
    refine al_d rfl rfl rfl (by exact opd_makeFunc rfl rfl) ?_
    refine al_d rfl rfl rfl (by exact opr_call rfl rfl Try.call89 rfl (filter_c (.clo 90 [.ref 923 0 0 0]) m q ((923, bx 1 77 [fv]) :: (922, bx 1 24 [.pv (slObjs m)]) :: K) hl hf5 hf7 hcK (.clo (by simp [Heap.get])) hcl)) ?_
    refine al_d rfl rfl rfl (by exact opd_assign rfl rfl) ?_
    refine al_nil ?_
    refine awp_ret ?_
    -- return
    refine aret1 (H' := K) (.inr rfl) rfl (rval_tmp rfl) (Fin.pops [(923, bx 1 77 [fv]), (922, bx 1 24 [.pv (slObjs m)])] (by simp) hc (by simp [hf2, hf3])) ⟨by rw [hg], rfl⟩
end Go.Proofs.Ytdcifaldfmpapaa
end
section
set_option linter.unusedVariables false
set_option linter.unusedSimpArgs false
set_option maxRecDepth 100000
namespace Go.Proofs.Ytdcifaldfmpapaa
open Go.Abs
theorem of1_c (s : ByteArray) (b : Bool) (v : ByteArray) (H : Heap) (T : Nat) (h3 : H.get 3 = some (bx 1 T [sv v])) : ACalls Try.prog 50 [sv s, bv b, .ref 3 0 0 0] H (fun r H' => r = bv (!b || decide (s = v)) ∧ H' = H) := by
  refine ACalls.body Try.func50 rfl Try.ntmps50 (Nat.le_of_ble_eq_true rfl) ?_
  refine awp_seq ?_
  refine awp_region ?_
  refine al_d rfl rfl rfl (by exact opd_assign rfl rfl) ?_
  refine al_nil ?_
  refine awp_seq ?_
  refine awp_bool (t := 5) (n := 9) (X := !b || decide (s = v)) ?_ ?_
  · all_goals (refine al_d rfl rfl rfl (by exact opd_move rfl rfl) ?_)
    all_goals (refine al_d rfl rfl rfl (by exact opd_not rfl rfl) ?_)
    all_goals (refine al_d rfl rfl rfl (by exact opd_move rfl rfl) ?_)
    all_goals (first | refine al_split (t := 8) rfl (fun h8 => ?_) (fun h8 => ?_) | refine al_dup (t := 8) rfl ?_ | skip)
    all_goals (try contradiction)
    all_goals (first | refine al_off rfl rfl rfl rfl rfl ?_ | refine al_offu rfl rfl rfl rfl ?_ | refine al_ond rfl rfl rfl rfl rfl rfl (by exact opd_move rfl rfl) ?_)
    all_goals (first | refine al_off rfl rfl rfl rfl rfl ?_ | refine al_offu rfl rfl rfl rfl ?_ | refine al_ond rfl rfl rfl rfl rfl rfl (by exact opd_load1_ref rfl Try.isAgg9 rfl h3 rfl rfl rfl) ?_)
    all_goals (first | refine al_off rfl rfl rfl rfl rfl ?_ | refine al_offu rfl rfl rfl rfl ?_ | refine al_ond rfl rfl rfl rfl rfl rfl (by exact opd_seql rfl rfl rfl) ?_)
    all_goals (refine al_d rfl rfl rfl (by exact (by first | exact opd_pick_t rfl rfl rfl | exact opd_pick_f rfl rfl rfl | exact opd_pickt rfl rfl (by assumption) rfl | exact opd_pickf rfl rfl (by assumption) rfl | exact opd_pick rfl rfl rfl)) ?_)
    all_goals (refine al_d rfl rfl rfl (by exact opd_assign rfl rfl) ?_)
    all_goals (refine al_nil ?_)
    all_goals (exact ⟨⟨_, rfl, by first | rfl | (simp only [*, Bool.false_and, Bool.true_and, Bool.and_false, Bool.and_true, Bool.true_or, Bool.false_or, Bool.or_true, Bool.or_false, Bool.not_true, Bool.not_false]; done) | (simp_all; done) | (simp_all; omega)⟩, rfl, rfl, rfl⟩)
  refine awp_ret ?_
  -- return
  exact aret1 (H' := H) (.inr rfl) rfl (rval_tmp rfl) Fin.refl ⟨rfl, rfl⟩
theorem clear_low {K : Heap} (h : ∀ p ∈ K, p.1 < 900) : clear K := fun i h1 h2 => by
  cases e : K.get i with
  | none => rfl
  | some o => have := h _ (mem_of_hget e); simp only at this; omega
theorem of_c (m : List GObj) (v : ByteArray) (H : Heap) (hm : okM m) (hl : m.length < 1099511627776) : ACalls Try.prog 18 [.agg [.pv (slObjs m)], sv v] H (fun r H' => r = .agg [.pv (slObjs (gOf m v))] ∧ H' = H) := by
  refine ACalls.pure ?_ (by simp) H
  have hw : ∀ o, o ∈ m → ∀ D, lo D 930 → Closed (D ++ [(4, bx 1 24 [lv []]), (3, bx 1 9 [sv v]), (2, bx 1 24 [.pv (slObjs m)])]) → CallsV Try.prog (.clo 50 [.ref 3 0 0 0]) [sv (ownS o), bv (ownB o)] (D ++ [(4, bx 1 24 [lv []]), (3, bx 1 9 [sv v]), (2, bx 1 24 [.pv (slObjs m)])])
      (fun r H' => r = bv (inView v o) ∧ H' = D ++ [(4, bx 1 24 [lv []]), (3, bx 1 9 [sv v]), (2, bx 1 24 [.pv (slObjs m)])]) := fun o ho D hD _ =>
    CallsV.clo Try.call50 (of1_c _ _ v _ 9 (by rw [lo_app hD (.inl (by omega))]; rfl))
  refine ACalls.body Try.func18 rfl Try.ntmps18 (Nat.le_of_ble_eq_true rfl) ?_
  refine awp_seq ?_
  refine awp_region ?_
  refine al_d rfl rfl rfl (by exact opd_box (id := 2) rfl rfl rfl rfl rfl) ?_
  refine al_d rfl rfl rfl (by exact opd_box (id := 3) rfl rfl rfl rfl rfl) ?_
  refine al_d rfl rfl rfl (by exact x_alloc (id := 4) rfl zo24 rfl rfl) ?_
  refine al_nil ?_
  refine awp_seq ?_
  refine awp_region ?_
  refine al_d rfl rfl rfl (by exact (by first | exact opd_loadn_ref rfl Try.isAgg24 Try.sizeOf24 rfl rfl rfl rfl (by simp only [List.drop_succ_cons, List.drop_zero, List.take_succ_cons, List.take_zero, List.take_nil, List.map_cons, List.map_nil, List.set_cons_zero, List.set_cons_succ, List.cons_append, List.nil_append, encTag, encObj]; rfl) rfl | exact opd_loadn_pad rfl Try.isAgg24 Try.sizeOf24 rfl (by first | omega | assumption) (by simp only [List.drop_succ_cons, List.drop_zero, List.take_succ_cons, List.take_zero, List.take_nil, List.map_cons, List.map_nil, List.set_cons_zero, List.set_cons_succ, List.cons_append, List.nil_append, encTag, encObj]; rfl) rfl)) ?_
  refine al_d rfl rfl rfl (by exact opd_makeFunc rfl rfl) ?_
  refine al_d rfl rfl rfl (by exact opr_call rfl rfl Try.call49 rfl (objects_c _ m (inView v) [(4, bx 1 24 [lv []]), (3, bx 1 9 [sv v]), (2, bx 1 24 [.pv (slObjs m)])] hm hl (clear_low (by simp)) (Closed.of (by simp)) (.clo (by intro a ha; simp only [List.reverse_cons, List.reverse_nil, List.nil_append, List.mem_singleton] at ha; subst ha; exact .ref rfl)) rfl hw)) ?_
  refine al_d rfl rfl rfl (by exact x_build rfl bo24 rfl rfl) ?_
  refine al_n rfl rfl (by exact (by first | exact x_store_all rfl Try.sizeOf24 rfl rfl rfl rfl rfl rfl rfl rfl | exact x_store1 rfl Try.sizeOf24 rfl rfl rfl rfl rfl rfl (by simp only [List.length_cons, List.length_nil]; omega) (by simp only [List.drop_succ_cons, List.drop_zero, List.take_succ_cons, List.take_zero, List.take_nil, List.map_cons, List.map_nil, List.set_cons_zero, List.set_cons_succ, List.cons_append, List.nil_append, encTag, encObj]; rfl) (by simp only [List.drop_succ_cons, List.drop_zero, List.take_succ_cons, List.take_zero, List.take_nil, List.map_cons, List.map_nil, List.set_cons_zero, List.set_cons_succ, List.cons_append, List.nil_append, encTag, encObj]; rfl) | exact x_store1 rfl Try.sizeOf24 rfl rfl rfl rfl rfl rfl (Nat.le_of_ble_eq_true rfl) rfl rfl)) ?_
  refine al_nil ?_
  refine awp_ret ?_
  -- return
  refine aret1 (H' := []) (by first | exact .inr rfl | exact .inl rfl) rfl (rval_cell rfl Try.isAgg24 Try.sizeOf24 rfl rfl rfl (by simp only [List.drop_succ_cons, List.drop_zero, List.take_succ_cons, List.take_zero, List.take_nil, List.map_cons, List.map_nil, List.set_cons_zero, List.set_cons_succ, List.cons_append, List.nil_append, encTag, encObj]; rfl) rfl) (Fin.wk (r := .agg [.pv (slObjs (gOf m v))]) (by simp) trivial trivial) ?_
  exact ⟨rfl, rfl⟩
theorem common_c (m : List GObj) (H : Heap) (hm : okM m) (hl : m.length < 1099511627776) : ACalls Try.prog 37 [.agg [.pv (slObjs m)]] H (fun r H' => r = .agg [.pv (slObjs (gCommon m))] ∧ H' = H) := by
  refine ACalls.pure ?_ (by simp) H
  have hw : ∀ o, o ∈ m → ∀ D, lo D 930 → Closed (D ++ [(2, bx 1 24 [lv []]), (1, bx 1 24 [.pv (slObjs m)])]) → CallsV Try.prog (.pv (.fn 72)) [sv (ownS o), bv (ownB o)] (D ++ [(2, bx 1 24 [lv []]), (1, bx 1 24 [.pv (slObjs m)])])
      (fun r H' => r = bv (!ownB o) ∧ H' = D ++ [(2, bx 1 24 [lv []]), (1, bx 1 24 [.pv (slObjs m)])]) := fun o ho D hD _ =>
    CallsV.fn Try.call72 (common1_c _ _ _)
  refine ACalls.body Try.func37 rfl Try.ntmps37 (Nat.le_of_ble_eq_true rfl) ?_
  refine awp_seq ?_
  refine awp_region ?_
  refine al_d rfl rfl rfl (by exact opd_box (id := 1) rfl rfl rfl rfl rfl) ?_
  refine al_d rfl rfl rfl (by exact x_alloc (id := 2) rfl zo24 rfl rfl) ?_
  refine al_nil ?_
  refine awp_seq ?_
  refine awp_region ?_
  refine al_d rfl rfl rfl (by exact (by first | exact opd_loadn_ref rfl Try.isAgg24 Try.sizeOf24 rfl rfl rfl rfl (by simp only [List.drop_succ_cons, List.drop_zero, List.take_succ_cons, List.take_zero, List.take_nil, List.map_cons, List.map_nil, List.set_cons_zero, List.set_cons_succ, List.cons_append, List.nil_append, encTag, encObj]; rfl) rfl | exact opd_loadn_pad rfl Try.isAgg24 Try.sizeOf24 rfl (by first | omega | assumption) (by simp only [List.drop_succ_cons, List.drop_zero, List.take_succ_cons, List.take_zero, List.take_nil, List.map_cons, List.map_nil, List.set_cons_zero, List.set_cons_succ, List.cons_append, List.nil_append, encTag, encObj]; rfl) rfl)) ?_
  refine al_d rfl rfl rfl (by exact opr_call rfl rfl Try.call49 rfl (objects_c _ m (fun o => !ownB o) [(2, bx 1 24 [lv []]), (1, bx 1 24 [.pv (slObjs m)])] hm hl (clear_low (by simp)) (Closed.of (by simp)) (.pv _) rfl hw)) ?_
  refine al_d rfl rfl rfl (by exact x_build rfl bo24 rfl rfl) ?_
  refine al_n rfl rfl (by exact (by first | exact x_store_all rfl Try.sizeOf24 rfl rfl rfl rfl rfl rfl rfl rfl | exact x_store1 rfl Try.sizeOf24 rfl rfl rfl rfl rfl rfl (by simp only [List.length_cons, List.length_nil]; omega) (by simp only [List.drop_succ_cons, List.drop_zero, List.take_succ_cons, List.take_zero, List.take_nil, List.map_cons, List.map_nil, List.set_cons_zero, List.set_cons_succ, List.cons_append, List.nil_append, encTag, encObj]; rfl) (by simp only [List.drop_succ_cons, List.drop_zero, List.take_succ_cons, List.take_zero, List.take_nil, List.map_cons, List.map_nil, List.set_cons_zero, List.set_cons_succ, List.cons_append, List.nil_append, encTag, encObj]; rfl) | exact x_store1 rfl Try.sizeOf24 rfl rfl rfl rfl rfl rfl (Nat.le_of_ble_eq_true rfl) rfl rfl)) ?_
  refine al_nil ?_
  refine awp_ret ?_
  -- return
  refine aret1 (H' := []) (by first | exact .inr rfl | exact .inl rfl) rfl (rval_cell rfl Try.isAgg24 Try.sizeOf24 rfl rfl rfl (by simp only [List.drop_succ_cons, List.drop_zero, List.take_succ_cons, List.take_zero, List.take_nil, List.map_cons, List.map_nil, List.set_cons_zero, List.set_cons_succ, List.cons_append, List.nil_append, encTag, encObj]; rfl) rfl) (Fin.wk (r := .agg [.pv (slObjs (gCommon m))]) (by simp) trivial trivial) ?_
  exact ⟨rfl, rfl⟩
abbrev strR (l : List ByteArray) : List (List AV) := l.map (fun e => (encStr e).map .pv)
theorem gObjects_len (m : List GObj) (q : GObj → Bool) : (gObjects m q).length ≤ m.length := by
  rw [gObjects]; split
  · exact List.length_filter_le _ _
  · simp
theorem map_take {α β : Type} (f : α → β) {l : List α} {k : Nat} {a : α} (h : l[k]? = some a) : (l.take (k + 1)).map f = (l.take k).map f ++ [f a] := by
  rw [List.take_add_one, h, List.map_append]; rfl
theorem take_len {α : Type} {l : List α} {k : Nat} (h : k ≤ l.length) : (l.take k).length = k := by rw [List.length_take]; omega
theorem disputed_c (m : List GObj) (H : Heap) (hm : okM m) (hl : m.length < 1099511627776) : ACalls Try.prog 39 [.agg [.pv (slObjs m)]] H (fun r H' => r = .pv (slStrs (gDisp m)) ∧ H' = H) := by
  refine ACalls.pure ?_ (by simp) H
  have hw : ∀ o, o ∈ m → ∀ D, lo D 930 → Closed (D ++ [(3, ⟨0, 1, 9, []⟩), (1, bx 1 24 [.pv (slObjs m)])]) → CallsV Try.prog (.pv (.fn 75)) [sv (ownS o), bv (ownB o)] (D ++ [(3, ⟨0, 1, 9, []⟩), (1, bx 1 24 [.pv (slObjs m)])])
      (fun r H' => r = bv (ownB o) ∧ H' = D ++ [(3, ⟨0, 1, 9, []⟩), (1, bx 1 24 [.pv (slObjs m)])]) := fun o ho D hD _ =>
    CallsV.fn Try.call75 (disputed1_c _ _ _)
  refine ACalls.body Try.func39 rfl Try.ntmps39 (Nat.le_of_ble_eq_true rfl) ?_
  refine awp_seq ?_
  refine awp_region ?_
  refine al_d rfl rfl rfl (by exact opd_box (id := 1) rfl rfl rfl rfl rfl) ?_
  refine al_d rfl rfl rfl (by exact opd_assign rfl rfl) ?_
  refine al_nil ?_
  refine awp_seq ?_
  refine awp_region ?_
  refine al_d rfl rfl rfl (by exact opd_assign_own (id := 3) (sz := 1) (ty := 9) rfl rfl rfl) ?_
  refine al_nil ?_
  refine awp_seq ?_
  refine awp_seq ?_
  refine awp_region ?_
  refine al_d rfl rfl rfl (by exact (by first | exact opd_loadn_ref rfl Try.isAgg24 Try.sizeOf24 rfl rfl rfl rfl (by simp only [List.drop_succ_cons, List.drop_zero, List.take_succ_cons, List.take_zero, List.take_nil, List.map_cons, List.map_nil, List.set_cons_zero, List.set_cons_succ, List.cons_append, List.nil_append, encTag, encObj]; rfl) rfl | exact opd_loadn_pad rfl Try.isAgg24 Try.sizeOf24 rfl (by first | omega | assumption) (by simp only [List.drop_succ_cons, List.drop_zero, List.take_succ_cons, List.take_zero, List.take_nil, List.map_cons, List.map_nil, List.set_cons_zero, List.set_cons_succ, List.cons_append, List.nil_append, encTag, encObj]; rfl) rfl)) ?_
  refine al_d rfl rfl rfl (by exact opr_call rfl rfl Try.call49 rfl (objects_c _ m ownB [(3, ⟨0, 1, 9, []⟩), (1, bx 1 24 [.pv (slObjs m)])] hm hl (clear_low (by simp)) (Closed.of (by simp)) (.pv _) rfl hw)) ?_
  refine al_d rfl rfl rfl (by exact (by first | exact opd_len_sl rfl Try.underlying22 rfl | exact opd_len_osl rfl Try.underlying22 rfl rfl rfl)) ?_
  refine al_d rfl rfl rfl (by exact opd_move rfl rfl) ?_
  refine al_nil ?_
  refine awp_block ?_
  -- loop
  have hgl := gObjects_len m ownB
  rw [gDisp]
  generalize gObjects m ownB = l at hgl ⊢
  have hml : (l.map encObj).length = l.length := List.length_map _
  refine awp_loop2 (fun (k : Nat) (g : Nat) => ([(3, .osl 3 g 0 k), (7, .pv (slObjs l)), (8, iv ((l.map encObj).length : Int)), (9, iv (k : Int))], [(3, ⟨g, 1, 9, strR ((l.take k).map GObj.id)⟩)])) (fun k g => k ≤ l.length) (fun k g => l.length - k) 0 0 (by omega) ?_ ?_
  · exact (Ent.wk ⟨⟨_, rfl, rfl⟩, (by first | (simp; done) | (simp; rfl) | exact clo_map _ _ _), ⟨_, rfl, rfl⟩, (by first | (simp; done) | (simp; rfl) | exact clo_map _ _ _), ⟨_, rfl, rfl⟩, (by first | (simp; done) | (simp; rfl) | exact clo_map _ _ _), ⟨_, rfl, rfl⟩, (by first | (simp; done) | (simp; rfl) | exact clo_map _ _ _), trivial⟩ ⟨⟨_, rfl, rfl⟩, (by first | (simp; done) | (simp; rfl) | exact clo_map _ _ _), trivial⟩ trivial)
  · intro k g hk
    refine awp_seq ?_
    refine awp_region ?_
    refine al_d rfl rfl rfl (by exact opd_lss rfl rfl rfl) ?_
    refine al_nil ?_
    refine awp_seq ?_
    refine awp_cond rfl (fun hc1 => ?_) (fun hc1 => ?_)
    -- cond 1
    · have hlt : k < l.length := by have := of_decide_eq_true hc1; omega
      obtain ⟨o, ho⟩ := get_of_lt hlt
      have hi := map_get (f := encObj) ho
      have htl : ((l.take k).map GObj.id).length = k := by rw [List.length_map]; exact take_len hk
      refine awp_skip ?_
      refine awp_seq ?_
      refine awp_block ?_
      refine awp_seq ?_
      refine awp_region ?_
      refine al_d rfl rfl rfl (by exact (by first | exact x_index_pad rfl so22 rfl rfl (by omega) (by first | exact Int.toNat_natCast _ | rfl) (by assumption) rfl | exact x_index_osl rfl so22 rfl rfl rfl rfl rfl (by omega) (by first | exact Int.toNat_natCast _ | rfl) (by first | omega | assumption) rfl)) ?_
      refine al_d rfl rfl rfl (by exact (by first | exact opd_loadn_ref rfl Try.isAgg30 Try.sizeOf30 rfl rfl rfl rfl (by simp only [List.drop_succ_cons, List.drop_zero, List.take_succ_cons, List.take_zero, List.take_nil, List.map_cons, List.map_nil, List.set_cons_zero, List.set_cons_succ, List.cons_append, List.nil_append, encTag, encObj]; rfl) rfl | exact opd_loadn_pad rfl Try.isAgg30 Try.sizeOf30 rfl (by first | omega | assumption) (by simp only [List.drop_succ_cons, List.drop_zero, List.take_succ_cons, List.take_zero, List.take_nil, List.map_cons, List.map_nil, List.set_cons_zero, List.set_cons_succ, List.cons_append, List.nil_append, encTag, encObj]; rfl) rfl)) ?_
      refine al_d rfl rfl rfl (by exact x_alloc (id := 5) rfl zo30 rfl rfl) ?_
      refine al_n rfl rfl (by exact (by first | exact x_store_all rfl Try.sizeOf30 rfl rfl rfl rfl rfl rfl rfl rfl | exact x_store rfl Try.sizeOf30 rfl rfl rfl rfl rfl rfl rfl (by simp only [List.length_cons, List.length_nil]; omega) (by simp only [List.drop_succ_cons, List.drop_zero, List.take_succ_cons, List.take_zero, List.take_nil, List.map_cons, List.map_nil, List.set_cons_zero, List.set_cons_succ, List.cons_append, List.nil_append, encTag, encObj]; rfl) (by simp only [List.drop_succ_cons, List.drop_zero, List.take_succ_cons, List.take_zero, List.take_nil, List.map_cons, List.map_nil, List.set_cons_zero, List.set_cons_succ, List.cons_append, List.nil_append, encTag, encObj]; rfl) | exact x_store rfl Try.sizeOf30 rfl rfl rfl rfl rfl rfl rfl (Nat.le_of_ble_eq_true rfl) rfl rfl)) ?_
      refine al_nil ?_
      refine awp_region ?_
      refine al_d rfl rfl rfl (by exact opd_move rfl rfl) ?_
      refine al_d rfl rfl rfl (by exact (by first | exact opd_field_ref rfl fo30_0 rfl rfl rfl rfl | exact opd_field_pad rfl fo30_0 rfl rfl)) ?_
      refine al_d rfl rfl rfl (by exact (by first | exact opd_load1_ref rfl Try.isAgg9 rfl rfl rfl rfl rfl | exact opd_load1_pad rfl Try.isAgg9 rfl (by first | omega | assumption) rfl)) ?_
      refine al_d rfl rfl rfl (by exact x_buildSlice [encStr o.id] rfl so27 rfl rfl rfl rfl rfl (by simp [encStr])) ?_
      refine al_d rfl rfl rfl (by exact (by first | exact x_append rfl so27 ei9 rfl rfl rfl rfl rfl (by rw [List.length_map]; exact htl) rfl (by simp [encStr]) (rfl : _ = 1) (by omega) (rfl : _ = k + 1) ((List.map_append (l₂ := [o.id])).symm) | exact x_append_osl rfl so27 ei9 rfl rfl rfl rfl rfl (by rw [List.length_map]; exact htl) rfl rfl rfl rfl (by simp [encStr]) (rfl : _ = 1) (by omega) (rfl : _ = k + 1) ((List.map_append (l₂ := [o.id])).symm))) ?_
      refine al_d rfl rfl rfl (by exact opd_assign rfl rfl) ?_
      refine al_nil ?_
      refine awp_region ?_
      refine al_d rfl rfl rfl (by exact opd_add rfl rfl rfl (by first | exact w64 (by omega) (by omega) | exact wu8 (by omega) (by omega) | rfl)) ?_
      refine al_d rfl rfl rfl (by exact opd_move rfl rfl) ?_
      refine al_nil ?_
      -- end of a round
      refine ⟨k + 1, g + 1, by omega, by omega, ?_⟩
      rw [map_take GObj.id ho]
      exact (Ent.wk ⟨⟨_, rfl, rfl⟩, (by first | (simp; done) | (simp; rfl) | exact clo_map _ _ _), ⟨_, rfl, rfl⟩, (by first | (simp; done) | (simp; rfl) | exact clo_map _ _ _), ⟨_, rfl, rfl⟩, (by first | (simp; done) | (simp; rfl) | exact clo_map _ _ _), ⟨_, rfl, rfl⟩, (by first | (simp; done) | (simp; rfl) | exact clo_map _ _ _), trivial⟩ ⟨⟨_, rfl, rfl⟩, (by first | (simp; done) | (simp; rfl) | exact clo_map _ _ _), trivial⟩ trivial)
    · have hge : k = l.length := by have := of_decide_eq_false hc1; omega
      subst hge
      rw [List.take_length]
      refine awp_exit ?_
      refine awp_seq ?_
      refine awp_region ?_
      refine al_d rfl rfl rfl (by exact opd_move rfl rfl) ?_
      refine al_d rfl rfl rfl (by exact opd_assign rfl rfl) ?_
      refine al_nil ?_
      refine awp_ret ?_
      -- return
      refine aret1 (H' := []) (.inr rfl) rfl (rval_tmp rfl) (Fin.slice [(3, ⟨g, 1, 9, strR (l.map GObj.id)⟩)] ((l.map GObj.id).map encStr) rfl rfl (rows_of encStr _) (by simp) (Closed.of (by simp)) (by simp [Heap.get]) (by simp [Heap.get]) rfl) ⟨rfl, rfl⟩
end Go.Proofs.Ytdcifaldfmpapaa
end
