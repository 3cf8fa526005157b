/-
  CONTRACT: edit.Names. Conditions: lengths below 2^38.
  PLAIN: what an edit puts and drops is named by it; two edits without a common name commute. Conditions: none.
  PLAIN: the objects that a change set needs make a closed map, in which the same evidence is found. Conditions: none.
  CONTRACTS: atlas.Same, planisphereref06.Same, Has, the sizes' tests of layer 21, its example map. Conditions: lengths below 2^40.
  CONTRACTS: the sizes' tests of layer 21, its example map. Conditions: lengths below 2^40.
  CONTRACTS: planispherelaw21.sample, head. Conditions: none.
  CONTRACT: planispherelaw21.head answers true. Conditions: none.
  CONTRACTS: the reference: letters, names, points, words, tags. Conditions: lengths below 2^62.
  CONTRACTS: the reference: references, objects. Conditions: lengths below 2^62.
  CONTRACTS: what is moderate (planisphereref13.Few); objects and maps compared (planisphereref11.Same, 12.Same). Conditions: lengths below 2^62.
  CONTRACT: EditLists answers true. Conditions: the arguments' sizes.
  THE ABSTRACT LOGIC: an owned slice is frozen while other objects hold it. Conditions: each rule's own premises.
  CONTRACT: EvidenceOthers answers true. Conditions: the arguments' sizes.
-/
import Derived.Test.YtdcifaldfmpapaaGreatKN5M7
section
set_option linter.unusedVariables false
set_option linter.unusedSimpArgs false
set_option maxRecDepth 100000
namespace Go.Proofs.YtdcifaldfmpapaaGreat
open Go.Abs

theorem sobN_clo (l : List ByteArray) (H : Heap) : ∀ r ∈ (sob l).rows, ∀ a ∈ r, Clo H a := by
  intro r hr a ha
  obtain ⟨i, hi⟩ := List.mem_iff_getElem?.1 hr
  obtain ⟨p, hp, rfl⟩ := mrows_get.1 hi
  simp only [sets, List.getElem?_map] at hp
  obtain ⟨q, _, rfl⟩ := Option.map_eq_some_iff.1 hp
  simp only [List.mem_cons, List.not_mem_nil, or_false] at ha
  rcases ha with rfl | rfl | rfl <;> simp
theorem irowsN_clo {H : Heap} {id g : Nat} (h : (H.get id).isSome = true) (a b : Nat) (l : List Nat) : ∀ r ∈ irows (.mp id g) a b l, ∀ x ∈ r, Clo H x := by
  intro r hr x hx
  rw [irows] at hr
  rcases List.mem_cons.1 hr with rfl | hr
  · simp only [List.mem_cons, List.not_mem_nil, or_false] at hx
    rcases hx with rfl | rfl | rfl
    · exact .mp h
    · exact .pv _
    · exact .pv _
  · obtain ⟨n, _, rfl⟩ := List.mem_map.1 hr
    rw [List.mem_singleton] at hx
    subst hx
    exact .pv _
theorem rowsN_of {α : Type} (f : α → List PV) (l : List α) : l.map (fun e => (f e).map AV.pv) = (l.map f).map (·.map .pv) := by rw [List.map_map]; rfl
theorem lenN_snoc {α : Type} (l : List α) (a : α) : l.length + 1 = (l ++ [a]).length := by simp
def addAll (L l : List ByteArray) : List ByteArray := l.foldl sput L
theorem front_get {H : Heap} {id : Nat} {o : Ob} (h : H.get id = some o) (j : Nat) : Heap.get ((id, o) :: H) j = H.get j := by
  by_cases e : j = id
  · subst e; rw [get_cons_same, h]
  · exact get_cons_other _ _ e
theorem names1E_c (L l : List ByteArray) (T : Nat) (H : Heap) (h3 : H.get 3 = some (bx 1 T [.mp 10 0])) (h10 : H.get 10 = some (sob L)) (hl : l.length < 4611686018427387904) :
    ACalls Tryz.prog 48 [.pv (slStrs l), .ref 3 0 0 0] H (fun r H' => r = .tup [] ∧ H' = (10, sob (addAll L l)) :: H) := by
  have hml : (l.map encStr).length = l.length := List.length_map _
  refine ACalls.body Tryz.func48 rfl Tryz.ntmps48 (Nat.le_of_ble_eq_true rfl) ?_
  refine awp_seq ?_
  refine awp_region ?_
  refine al_d rfl rfl rfl (by exact opd_move rfl rfl) ?_
  refine al_d rfl rfl rfl (by exact (by exact opd_len_sl rfl Tryz.underlying27 rfl)) ?_
  refine al_d rfl rfl rfl (by exact opd_move rfl rfl) ?_
  refine al_nil ?_
  refine awp_block ?_
  -- loop
  refine awp_loop (σ := Nat) (fun k => ([(1, .ref 3 0 0 0), (5, .pv (slStrs l)), (6, iv ((l.map encStr).length : Int)), (7, iv (k : Int))], (10, sob (addAll L (l.take k))) :: H)) (fun k => k ≤ l.length) (fun k => l.length - k) 0 (by omega) ?_ ?_
  · exact Ent.get' ⟨⟨_, rfl, rfl⟩, ⟨_, rfl, rfl⟩, ⟨_, rfl, rfl⟩, ⟨_, rfl, rfl⟩, trivial⟩ (front_get h10)
  · intro k hk
    have h3' : Heap.get ((10, sob (addAll L (l.take k))) :: H) 3 = some (bx 1 T [.mp 10 0]) := h3
    refine awp_seq ?_
    refine awp_region ?_
    refine al_d rfl rfl rfl (by exact opd_lss rfl rfl rfl) ?_
    refine al_nil ?_
    refine awp_seq ?_
    refine awp_cond rfl (fun hc1 => ?_) (fun hc1 => ?_)
    -- cond 1
    · have hlt : k < l.length := by have := of_decide_eq_true hc1; omega
      obtain ⟨s, hs⟩ := get_of_lt hlt
      have hi := map_get (f := encStr) hs
      have hst : addAll L (l.take (k + 1)) = sput (addAll L (l.take k)) s := by rw [addAll, List.take_add_one, hs, List.foldl_append]; rfl
      refine awp_skip ?_
      refine awp_seq ?_
      refine awp_block ?_
      refine awp_seq ?_
      refine awp_region ?_
      refine al_d rfl rfl rfl (by exact (by exact x_index_pad rfl so27 rfl rfl (by omega) (by exact Int.toNat_natCast _) (by assumption) rfl)) ?_
      refine al_d rfl rfl rfl (by exact (by exact opd_load1_pad rfl Tryz.isAgg9 rfl (by omega) rfl)) ?_
      refine al_d rfl rfl rfl (by exact opd_assign rfl rfl) ?_
      refine al_nil ?_
      refine awp_region ?_
      refine al_d rfl rfl rfl (by exact opd_load1_ref rfl Tryz.isAgg59 rfl h3' rfl rfl rfl) ?_
      refine al_d rfl rfl rfl (by exact opd_move rfl rfl) ?_
      refine al_n rfl rfl (by exact x_put_set (.inl rfl) Tryz.underlying59 Tryz.underlying9 rfl rfl rfl rfl rfl rfl rfl) ?_
      refine al_nil ?_
      refine awp_region ?_
      refine al_d rfl rfl rfl (by exact opd_add rfl rfl rfl (by exact w64 (by omega) (by omega))) ?_
      refine al_d rfl rfl rfl (by exact opd_move rfl rfl) ?_
      refine al_nil ?_
      -- end of a round
      refine ⟨k + 1, by omega, by omega, ?_⟩
      rw [hst]
      exact Ent.dup ⟨⟨_, rfl, rfl⟩, ⟨_, rfl, rfl⟩, ⟨_, rfl, rfl⟩, ⟨_, rfl, rfl⟩, trivial⟩
    · have hge : k = l.length := by have := of_decide_eq_false hc1; omega
      subst hge
      rw [List.take_length]
      refine awp_exit ?_
      -- end of the body
      exact aret0 (.inl rfl) rfl Fin.refl ⟨rfl, rfl⟩
def nonE (s : ByteArray) : Bool := !decide (s = sNil)
/-- All Ids that an edit mentions, with what is empty, once each. -/
def idsOf (e : GEdit) : List ByteArray := addAll (addAll (addAll [] [e.id, e.other, e.node, e.obj.id]) e.refs) e.obj.refs
def gNames (e : GEdit) : List ByteArray := if gEditV e then sortS ((idsOf e).filter nonE) else []
theorem addAll_len : ∀ (l L : List ByteArray), (addAll L l).length ≤ L.length + l.length
  | [], L => by simp [addAll]
  | s :: l, L => by
    have := addAll_len l (sput L s)
    have h2 : (sput L s).length ≤ L.length + 1 := by
      unfold sput
      split
      · omega
      · simp
    rw [addAll, List.foldl_cons] at *
    simp only [List.length_cons]
    omega
abbrev strN (l : List ByteArray) : List (List AV) := l.map (fun e => (encStr e).map .pv)
theorem pickN_snoc {L : List ByteArray} {seen : List Nat} {i : Nat} {s : ByteArray} (h : L[i]? = some s) : pick L (seen ++ [i]) = pick L seen ++ [s] := by
  simp only [pick, List.map_append, List.map_cons, List.map_nil, h, Option.getD_some]
theorem names_cE (e : GEdit) (H : Heap) (he : okE e) (hsz : e.refs.length + e.obj.refs.length < 1099511627776) : ACalls Tryz.prog 17 [av (encEdit e)] H (fun r H' => r = .pv (slStrs (gNames e)) ∧ H' = H) := by
  refine ACalls.pure ?_ (by simp) H
  have he' := he
  obtain ⟨⟨h1, h2, h3, h4⟩, ⟨h5, h6⟩, h7⟩ := he'
  rw [gNames]
  refine ACalls.body Tryz.func17 rfl Tryz.ntmps17 (Nat.le_of_ble_eq_true rfl) ?_
  refine awp_seq ?_
  refine awp_region ?_
  refine al_d rfl rfl rfl (by exact opd_box (id := 1) rfl rfl rfl rfl rfl) ?_
  refine al_d rfl rfl rfl (by exact opd_assign rfl rfl) ?_
  refine al_nil ?_
  refine awp_seq ?_
  refine awp_seq ?_
  refine awp_region ?_
  refine al_d rfl rfl rfl (by exact (by exact opd_loadn_ref rfl Tryz.isAgg32 Tryz.sizeOf32 rfl rfl rfl rfl rfl rfl)) ?_
  refine al_d rfl rfl rfl (by exact opr_call rfl rfl Tryz.call14 rfl (editValid_c e _ he)) ?_
  refine al_d rfl rfl rfl (by exact opd_not rfl rfl) ?_
  refine al_nil ?_
  refine awp_cond rfl (fun hc1 => ?_) (fun hc1 => ?_)
  -- cond 1
  · have hf : gEditV e = false := by
      have h := hc1
      simpa using h
    rw [hf, if_neg (by simp)]
    refine awp_seq ?_
    refine awp_region ?_
    refine al_d rfl rfl rfl (by exact opd_assign rfl rfl) ?_
    refine al_nil ?_
    refine awp_ret ?_
    -- return
    refine aret1 (H' := []) (by exact .inr rfl) rfl (rval_tmp rfl) (Fin.wk (by simp) trivial trivial) ?_
    exact ⟨rfl, rfl⟩
  · have hv : gEditV e = true := by
      have h := hc1
      simpa using h
    rw [if_pos hv]
    obtain ⟨L, hL⟩ : ∃ L, L = idsOf e := ⟨_, rfl⟩
    have hsl : L.length < 1099511627780 := by
      have q1 := addAll_len e.obj.refs (addAll (addAll [] [e.id, e.other, e.node, e.obj.id]) e.refs)
      have q2 := addAll_len e.refs (addAll [] [e.id, e.other, e.node, e.obj.id])
      have q3 := addAll_len [e.id, e.other, e.node, e.obj.id] []
      simp only [List.length_cons, List.length_nil] at q3
      rw [hL, idsOf]
      omega
    refine awp_skip ?_
    refine awp_seq ?_
    refine awp_region ?_
    refine al_d rfl rfl rfl (by exact opd_makeMap (id := 10) strK rfl rfl) ?_
    refine al_d rfl rfl rfl (by exact x_alloc (id := 3) rfl zo59 rfl rfl) ?_
    refine al_n rfl rfl (by exact (by exact x_store_all rfl Tryz.sizeOf59 rfl rfl rfl rfl rfl rfl rfl rfl)) ?_
    refine al_nil ?_
    refine awp_seq ?_
    refine awp_region ?_
    refine al_d rfl rfl rfl (by exact opd_makeFunc rfl rfl) ?_
    refine al_d rfl rfl rfl (by exact opd_assign rfl rfl) ?_
    refine al_nil ?_
    refine awp_seq ?_
    refine awp_region ?_
    refine al_d rfl rfl rfl (by exact opd_move rfl rfl) ?_
    refine al_d rfl rfl rfl (by exact (by exact opd_field_ref rfl fo32_1 rfl rfl rfl rfl)) ?_
    refine al_d rfl rfl rfl (by exact (by exact opd_load1_ref rfl Tryz.isAgg9 rfl rfl rfl rfl rfl)) ?_
    refine al_d rfl rfl rfl (by exact (by exact opd_field_ref rfl fo32_2 rfl rfl rfl rfl)) ?_
    refine al_d rfl rfl rfl (by exact (by exact opd_load1_ref rfl Tryz.isAgg9 rfl rfl rfl rfl rfl)) ?_
    refine al_d rfl rfl rfl (by exact (by exact opd_field_ref rfl fo32_3 rfl rfl rfl rfl)) ?_
    refine al_d rfl rfl rfl (by exact (by exact opd_load1_ref rfl Tryz.isAgg9 rfl rfl rfl rfl rfl)) ?_
    refine al_d rfl rfl rfl (by exact (by exact opd_field_ref rfl fo32_8 rfl rfl rfl rfl)) ?_
    refine al_d rfl rfl rfl (by exact (by exact opd_field_ref rfl fo30_0 rfl rfl rfl rfl)) ?_
    refine al_d rfl rfl rfl (by exact (by exact opd_load1_ref rfl Tryz.isAgg9 rfl rfl rfl rfl rfl)) ?_
    refine al_d rfl rfl rfl (by exact (by exact x_buildSlice ([e.id, e.other, e.node, e.obj.id].map encStr) rfl so27 rfl rfl rfl rfl rfl (by simp [encStr]))) ?_
    refine al_d rfl rfl rfl (by exact opr_callV rfl rfl rfl (CallsV.clo Tryz.call48 (names1E_c [] [e.id, e.other, e.node, e.obj.id] 59 _ rfl rfl (by show 4 < _; omega)))) ?_
    refine al_nil ?_
    refine awp_seq ?_
    refine awp_region ?_
    refine al_d rfl rfl rfl (by exact opd_move rfl rfl) ?_
    refine al_d rfl rfl rfl (by exact (by exact opd_field_ref rfl fo32_7 rfl rfl rfl rfl)) ?_
    refine al_d rfl rfl rfl (by exact (by exact opd_load1_ref rfl Tryz.isAgg27 rfl rfl rfl rfl rfl)) ?_
    refine al_d rfl rfl rfl (by exact opr_callV rfl rfl rfl (CallsV.clo Tryz.call48 (names1E_c (addAll [] [e.id, e.other, e.node, e.obj.id]) e.refs 59 _ rfl rfl h5))) ?_
    refine al_nil ?_
    refine awp_seq ?_
    refine awp_region ?_
    refine al_d rfl rfl rfl (by exact opd_move rfl rfl) ?_
    refine al_d rfl rfl rfl (by exact (by exact opd_field_ref rfl fo32_8 rfl rfl rfl rfl)) ?_
    refine al_d rfl rfl rfl (by exact (by exact opd_field_ref rfl fo30_3 rfl rfl rfl rfl)) ?_
    refine al_d rfl rfl rfl (by exact (by exact opd_load1_ref rfl Tryz.isAgg27 rfl rfl rfl rfl rfl)) ?_
    refine al_d rfl rfl rfl (by exact opr_callV rfl rfl rfl (CallsV.clo Tryz.call48 (names1E_c (addAll (addAll [] [e.id, e.other, e.node, e.obj.id]) e.refs) e.obj.refs 59 _ rfl rfl h7.2.2.1))) ?_
    refine al_nil ?_
    refine awp_seq ?_
    refine awp_region ?_
    refine al_d rfl rfl rfl (by exact opd_assign_own (id := 5) (sz := 1) (ty := 9) rfl rfl rfl) ?_
    refine al_nil ?_
    refine awp_seq ?_
    refine awp_seq ?_
    refine awp_region ?_
    refine al_d rfl rfl rfl (by exact (by exact opd_load1_ref rfl Tryz.isAgg59 rfl rfl rfl rfl rfl)) ?_
    refine al_d rfl rfl rfl (by exact opd_range (q := 34) (κ := strK) rfl Tryz.underlying59 rfl rfl rfl rfl rfl rfl) ?_
    refine al_nil ?_
    refine awp_block ?_
    -- loop
    rw [idsOf] at hL
    rw [← idsOf, ← hL.trans (idsOf.eq_1 e).symm]
    refine awp_loop2 (fun (seen : List Nat) (g : Nat) => ([(5, .osl 5 g 0 ((pick L seen).filter nonE).length), (34, .it 34 0)], [(34, ⟨0, 0, 0, irows (.mp 10 0) (sets L).length (sets L).length seen⟩), (5, ⟨g, 1, 9, strN ((pick L seen).filter nonE)⟩), (10, sob L)])) (fun seen g => seen.Nodup ∧ ∀ i ∈ seen, i < L.length) (fun seen g => L.length - seen.length) [] 0 ⟨.nil, by simp⟩ ?_ ?_
    · rw [hL]
      exact (Ent.wk ⟨⟨_, rfl, rfl⟩, (by (simp; rfl)), ⟨_, rfl, rfl⟩, (by (simp; rfl)), trivial⟩ ⟨⟨_, rfl, rfl⟩, (by exact irowsN_clo rfl _ _ _), ⟨_, rfl, rfl⟩, (by exact clo_map _ _ _), ⟨_, rfl, rfl⟩, (by exact sobN_clo _ _), trivial⟩ trivial)
    · rintro seen g ⟨hnd, hlt⟩
      have hse := nodup_le L.length seen hnd hlt
      have hfl : ((pick L seen).filter nonE).length ≤ seen.length := by have := List.length_filter_le nonE (pick L seen); rw [pick, List.length_map] at this; exact this
      refine awp_seq ?_
      refine awp_region ?_
      refine al_r rfl rfl (opr_next (κ := strK) rfl rfl rfl rfl rfl rfl rfl rfl rfl (by omega) (by omega)) ?_
      rintro _ _ (⟨rfl, rfl, hn0⟩ | ⟨hni, hnp, hn1, hn2, rfl, rfl⟩)
      -- next at 
      · skip
        refine al_d rfl rfl rfl (by exact opd_extract rfl rfl rfl) ?_
        refine al_nil ?_
        refine awp_seq ?_
        refine awp_cond rfl (fun hc2 => ?_) (fun hc2 => ?_)
        -- cond 2
        · cases hc2
        · skip
          have hpm := pick_all (L := L) hnd hlt (fun i hi => hn0 i (by rw [sets_length]; exact hi))
          refine awp_exit ?_
          refine awp_seq ?_
          refine awp_region ?_
          refine al_d rfl rfl rfl (by exact opd_move rfl rfl) ?_
          refine al_d rfl rfl rfl (by exact opr_call rfl rfl Tryz.call49 rfl (sortStr_c ((pick L seen).filter nonE) (id := 5) (g := g) (ty := 9) rfl rfl (by omega))) ?_
          refine al_nil ?_
          refine awp_seq ?_
          refine awp_region ?_
          refine al_d rfl rfl rfl (by exact opd_move rfl rfl) ?_
          refine al_d rfl rfl rfl (by exact opd_assign rfl rfl) ?_
          refine al_nil ?_
          refine awp_ret ?_
          -- return
          rw [← sortS_eq (hpm.filter nonE)]
          refine aret1 (H' := []) (.inr rfl) rfl (rval_tmp rfl) (Fin.slice0 (id := 5) ((sortS ((pick L seen).filter nonE)).map encStr) rfl rfl (rowsN_of encStr _) (by rw [List.length_map, sortS_length])) ⟨rfl, rfl⟩
      · skip
        refine al_d rfl rfl rfl (by exact opd_extract rfl rfl rfl) ?_
        refine al_nil ?_
        refine awp_seq ?_
        refine awp_cond rfl (fun hc3 => ?_) (fun hc3 => ?_)
        -- cond 3
        · have hlen := (List.getElem?_eq_some_iff.1 hn1).1
          rw [sets_length] at hlen
          obtain ⟨s, hs⟩ := get_of_lt hlen
          have hp : hnp = (s, bv true) := by
            rw [sets, List.getElem?_map, hs] at hn1
            exact (Option.some.inj hn1).symm
          subst hp
          have hnd2 : (seen ++ [hni]).Nodup := List.nodup_append.2 ⟨hnd, by simp, fun a ha b hb e => by rw [List.mem_singleton] at hb; subst hb; subst e; exact hn2 ha⟩
          have hlt2 : ∀ i ∈ seen ++ [hni], i < L.length := fun i hi => by
            rcases List.mem_append.1 hi with hi | hi
            · exact hlt i hi
            · rw [List.mem_singleton] at hi; subst hi; exact hlen
          have hmu : L.length - (seen ++ [hni]).length < L.length - seen.length := by
            have := nodup_le L.length (seen ++ [hni]) hnd2 hlt2
            simp only [List.length_append, List.length_cons, List.length_nil] at this ⊢
            omega
          have hpk : (pick L (seen ++ [hni])).filter nonE = (pick L seen).filter nonE ++ [s].filter nonE := by rw [pickN_snoc hs, List.filter_append]
          refine awp_skip ?_
          refine awp_block ?_
          refine awp_seq ?_
          refine awp_region ?_
          refine al_d rfl rfl rfl (by exact opd_entry rfl rfl rfl rfl rfl rfl rfl rfl rfl hn1) ?_
          refine al_d rfl rfl rfl (by exact opd_extract rfl rfl rfl) ?_
          refine al_d rfl rfl rfl (by exact opd_assign rfl rfl) ?_
          refine al_nil ?_
          refine awp_seq ?_
          refine awp_region ?_
          refine al_d rfl rfl rfl (by exact opd_move rfl rfl) ?_
          refine al_d rfl rfl rfl (by exact opd_sneq rfl rfl rfl) ?_
          refine al_nil ?_
          refine awp_cond rfl (fun hc4 => ?_) (fun hc4 => ?_)
          -- cond 4
          · have hns : nonE s = true := hc4
            have hpk2 : (pick L (seen ++ [hni])).filter nonE = (pick L seen).filter nonE ++ [s] := by rw [hpk, List.filter_cons, hns]; rfl
            refine awp_region ?_
            refine al_d rfl rfl rfl (by exact opd_move rfl rfl) ?_
            refine al_d rfl rfl rfl (by exact opd_move rfl rfl) ?_
            refine al_d rfl rfl rfl (by exact (by exact x_buildSlice [encStr s] rfl so27 rfl rfl rfl rfl rfl (by simp [encStr]))) ?_
            refine al_d rfl rfl rfl (by exact (by exact x_append rfl so27 ei9 rfl rfl rfl rfl rfl (List.length_map _) rfl (by simp [encStr]) (rfl : _ = 1) (by omega) (lenN_snoc _ s) ((List.map_append (l₂ := [s])).symm))) ?_
            refine al_d rfl rfl rfl (by exact opd_assign rfl rfl) ?_
            refine al_nil ?_
            -- end of a round
            refine ⟨seen ++ [hni], g + 1, ⟨hnd2, hlt2⟩, hmu, ?_⟩
            rw [hpk2]
            exact (Ent.wk ⟨⟨_, rfl, rfl⟩, (by (simp; rfl)), ⟨_, rfl, rfl⟩, (by (simp; rfl)), trivial⟩ ⟨⟨_, rfl, rfl⟩, (by exact irowsN_clo rfl _ _ _), ⟨_, rfl, rfl⟩, (by exact clo_map _ _ _), ⟨_, rfl, rfl⟩, (by exact sobN_clo _ _), trivial⟩ trivial)
          · have hns : nonE s = false := hc4
            have hpk2 : (pick L (seen ++ [hni])).filter nonE = (pick L seen).filter nonE := by rw [hpk, List.filter_cons, hns]; simp
            refine awp_skip ?_
            -- end of a round
            refine ⟨seen ++ [hni], g, ⟨hnd2, hlt2⟩, hmu, ?_⟩
            rw [hpk2]
            exact (Ent.wk ⟨⟨_, rfl, rfl⟩, (by (simp; rfl)), ⟨_, rfl, rfl⟩, (by (simp; rfl)), trivial⟩ ⟨⟨_, rfl, rfl⟩, (by exact irowsN_clo rfl _ _ _), ⟨_, rfl, rfl⟩, (by exact clo_map _ _ _), ⟨_, rfl, rfl⟩, (by exact sobN_clo _ _), trivial⟩ trivial)
        · cases hc3
end Go.Proofs.YtdcifaldfmpapaaGreat
end
section
set_option linter.unusedVariables false
set_option linter.unusedSimpArgs false
set_option maxRecDepth 100000
namespace Go.Proofs.YtdcifaldfmpapaaGreat
open Go.Abs
/-- What a possible edit puts and drops, by operations. -/
inductive Perf (m : List GObj) (e : GEdit) : GRes → Prop
  | put (ho : e.op = 1) (hn : kindOf m e.obj.id = none) (hr : refErr m e.obj.kind 0 e.obj.refs = 0) : Perf m e ⟨[e.obj], sNil, 0⟩
  | move (o : GObj) (ho : e.op = 2) (hl : look m e.id = some o) (hf : fitsB 2 o.kind = true) : Perf m e ⟨[⟨o.id, o.kind, e.x, e.y, o.refs, o.tags⟩], sNil, 0⟩
  | tag (o : GObj) (ho : e.op = 3) (hl : look m e.id = some o) (hs : (gSet o.tags e.key e.val).2 = 0) : Perf m e ⟨[⟨o.id, o.kind, o.x, o.y, o.refs, (gSet o.tags e.key e.val).1⟩], sNil, 0⟩
  | refs (o : GObj) (ho : e.op = 4) (hl : look m e.id = some o) (hf : fitsB 4 o.kind = true) (hg : gObj ⟨o.id, o.kind, o.x, o.y, e.refs, o.tags⟩ = true) (hr : refErr m o.kind 0 e.refs = 0) : Perf m e ⟨[⟨o.id, o.kind, o.x, o.y, e.refs, o.tags⟩], sNil, 0⟩
  | drop (o : GObj) (ho : e.op = 5) (hl : look m e.id = some o) (hr : gRefd m false [e.id] = false) : Perf m e ⟨[], e.id, 0⟩
  | split (o : GObj) (ho : e.op = 6) (hl : look m e.id = some o) (hf : fitsB 6 o.kind = true) (hn : kindOf m e.other = none) (hi : ¬ gInner o.refs e.node < 0) (hr : gRefd m true [e.id] = false) :
      Perf m e ⟨[⟨o.id, o.kind, o.x, o.y, o.refs.take ((gInner o.refs e.node).toNat + 1), o.tags⟩, ⟨e.other, 2, 0, 0, o.refs.drop (gInner o.refs e.node).toNat, o.tags⟩], sNil, 0⟩
  | join (o x : GObj) (ho : e.op = 7) (hl : look m e.id = some o) (hf : fitsB 7 o.kind = true) (hx : look m e.other = some x) (hk : x.kind = 2) (hi : (decide (e.id = e.other) || !decide (atS o.refs (o.refs.length - 1) = atS x.refs 0)) = false) (hr : gRefd m true [e.id, e.other] = false) (hlen : ¬ 2000 < o.refs.length + x.refs.length - 1) :
      Perf m e ⟨[⟨o.id, o.kind, o.x, o.y, [o.refs, x.refs.drop 1].flatten, o.tags⟩], e.other, 0⟩
/-- A string that an edit mentions, or the empty one. -/
def raw (e : GEdit) (s : ByteArray) : Prop := s = e.id ∨ s = e.other ∨ s = e.node ∨ s = e.obj.id ∨ s ∈ e.refs ∨ s ∈ e.obj.refs
theorem sputQ_mem {l : List ByteArray} {s x : ByteArray} : x ∈ sput l s ↔ x ∈ l ∨ x = s := by
  unfold sput
  split
  · next h =>
    have := inB_iff.1 h
    constructor
    · exact .inl
    · rintro (h | rfl)
      · exact h
      · exact this
  · rw [List.mem_append, List.mem_singleton]
theorem addAll_mem : ∀ {l L : List ByteArray} {x : ByteArray}, x ∈ addAll L l ↔ x ∈ L ∨ x ∈ l
  | [], L, x => by simp [addAll]
  | s :: l, L, x => by
    show x ∈ addAll (sput L s) l ↔ _
    rw [addAll_mem, sputQ_mem, List.mem_cons, or_assoc]
theorem names_mem {e : GEdit} {s : ByteArray} (hv : gEditV e = true) : s ∈ gNames e ↔ raw e s ∧ s ≠ sNil := by
  rw [gNames, if_pos hv, (sortS_perm _).mem_iff, List.mem_filter, idsOf, addAll_mem, addAll_mem, addAll_mem]
  simp only [nonE, Bool.not_eq_true', decide_eq_false_iff_not, List.not_mem_nil, false_or, List.mem_cons, or_false, raw, or_assoc]
theorem okOf_id {e : GEdit} (h : okOf e = true) (h1 : e.op ≠ 1) : e.id ≠ sNil := by
  rw [okOf, if_neg h1, Bool.and_eq_true] at h
  exact gName_ne h.1
/-- The lookups behind objects that are put and an Id that is dropped. -/
def putF : List GObj → (ByteArray → Option GObj) → ByteArray → Option GObj
  | [], f, s => f s
  | o :: l, f, s => putF l (fun s => if s = o.id then some o else f s) s
def toF (r : GRes) (f : ByteArray → Option GObj) (s : ByteArray) : Option GObj := if r.drop = sNil then putF r.put f s else if s = r.drop then none else putF r.put f s
def sup (r : GRes) (s : ByteArray) : Prop := (∃ o, o ∈ r.put ∧ o.id = s) ∨ (r.drop ≠ sNil ∧ s = r.drop)
end Go.Proofs.YtdcifaldfmpapaaGreat
end
section
set_option linter.unusedVariables false
set_option linter.unusedSimpArgs false
set_option maxRecDepth 100000
namespace Go.Proofs.YtdcifaldfmpapaaGreat
open Go.Abs
def nNames (N : List ByteArray) (l : List GEdit) : List ByteArray := l.foldl (fun N e => addAll N (gNames e)) N
def nStep (N : List ByteArray) (o : GObj) : List ByteArray := if inB N o.id then addAll N o.refs else N
def nRound (m : List GObj) (N : List ByteArray) : List ByteArray := m.foldl nStep N
def nLess (m : List GObj) (N : List ByteArray) : List GObj := m.filter (fun o => inB N o.id)
theorem nStep_mono {N : List ByteArray} {o : GObj} {s : ByteArray} (h : s ∈ N) : s ∈ nStep N o := by
  unfold nStep
  split
  · exact addAll_mem.2 (.inl h)
  · exact h
theorem nRound_mono : ∀ {m : List GObj} {N : List ByteArray} {s : ByteArray}, s ∈ N → s ∈ nRound m N
  | [], N, s, h => h
  | o :: m, N, s, h => nRound_mono (m := m) (nStep_mono h)
theorem nRound_adds : ∀ {m : List GObj} {N : List ByteArray} {o : GObj} {s : ByteArray}, o ∈ m → o.id ∈ N → s ∈ o.refs → s ∈ nRound m N
  | x :: m, N, o, s, ho, hi, hs => by
    rcases List.mem_cons.1 ho with rfl | ho
    · refine nRound_mono (m := m) ?_
      rw [nStep, if_pos (inB_iff.2 hi)]
      exact addAll_mem.2 (.inr hs)
    · exact nRound_adds (m := m) ho (nStep_mono hi) hs
theorem nRound_from : ∀ {m : List GObj} {N : List ByteArray} {s : ByteArray}, s ∈ nRound m N → s ∈ N ∨ ∃ o, o ∈ m ∧ o.id ∈ nRound m N ∧ s ∈ o.refs
  | [], N, s, h => .inl h
  | x :: m, N, s, h => by
    rcases nRound_from (m := m) h with h | ⟨o, h1, h2, h3⟩
    · unfold nStep at h
      split at h
      · next hi =>
        rcases addAll_mem.1 h with h | h
        · exact .inl h
        · exact .inr ⟨x, List.mem_cons_self, nRound_mono (m := m) (nStep_mono (inB_iff.1 hi)), h⟩
      · exact .inl h
    · exact .inr ⟨o, List.mem_cons_of_mem _ h1, h2, h3⟩
theorem gObj_node {o : GObj} (h : gObj o = true) (hk : o.kind = 1) : o.refs = [] := by
  rw [gObj, Bool.and_eq_true, Bool.and_eq_true, gKind, if_pos hk, Bool.and_eq_true, decide_eq_true_iff] at h
  exact List.eq_nil_of_length_eq_zero (by have := h.2.2.1; omega)
/-- What an object refers to is of a lesser kind. -/
theorem ref_kind {m : List GObj} (hc : closedB m = true) {o p : GObj} (ho : o ∈ m) (hp : p ∈ m) (hs : p.id ∈ o.refs) : (p.kind = 1 ∧ 2 ≤ o.kind) ∨ (p.kind = 2 ∧ 4 ≤ o.kind) := by
  have hg := closed_gMap hc
  obtain ⟨g1, g2, _⟩ := gMap_iff.1 hg
  obtain ⟨i, hi⟩ := List.mem_iff_getElem?.1 hs
  have h := (closed_iff.1 hc).2 o ho i _ hi
  rw [kindOf_look, mem_look g2 hp] at h
  have h := Option.some.inj h
  have hk := gObj_kind (g1 o ho)
  by_cases h4 : 4 ≤ o.kind
  · rw [gWanted] at h
    split at h
    · exact .inr ⟨h, h4⟩
    · exact .inl ⟨h, by omega⟩
  · rw [gWanted_low (by omega)] at h
    refine .inl ⟨h, ?_⟩
    by_cases h1 : o.kind = 1
    · rw [gObj_node (g1 o ho) h1] at hs; cases hs
    · omega
theorem need_closed {m : List GObj} {N : List ByteArray} (hc : closedB m = true) {o : GObj} {s : ByteArray} (ho : o ∈ m) (hi : o.id ∈ nRound m (nRound m (nRound m N))) (hs : s ∈ o.refs) : s ∈ nRound m (nRound m (nRound m N)) := by
  have hg := closed_gMap hc
  obtain ⟨g1, g2, _⟩ := gMap_iff.1 hg
  have big : ∀ (K : List ByteArray) (p : GObj), p ∈ m → 4 ≤ p.kind → p.id ∈ nRound m K → p.id ∈ K := fun K p hp hk h => by
    rcases nRound_from h with h | ⟨q, h1, _, h3⟩
    · exact h
    · rcases ref_kind hc h1 hp h3 with h | h <;> omega
  have hk := gObj_kind (g1 o ho)
  by_cases h4 : 4 ≤ o.kind
  · have h0 := big _ o ho h4 (big _ o ho h4 (big _ o ho h4 hi))
    exact nRound_mono (nRound_mono (nRound_adds ho h0 hs))
  · by_cases h1 : o.kind = 1
    · rw [gObj_node (g1 o ho) h1] at hs; cases hs
    · -- a way or an area
      have mid : ∀ (K : List ByteArray) (p : GObj), p ∈ m → 2 ≤ p.kind → p.id ∈ nRound m (nRound m K) → p.id ∈ nRound m K := fun K p hp hk h => by
        rcases nRound_from h with h | ⟨q, h1, h2, h3⟩
        · exact h
        · rcases ref_kind hc h1 hp h3 with h | h
          · omega
          · exact nRound_adds h1 (big _ q h1 h.2 (big _ q h1 h.2 h2)) h3
      have h1 := mid _ o ho (by omega) hi
      exact nRound_adds ho h1 hs
theorem filter_look {m : List GObj} {N : List ByteArray} {s : ByteArray} (hu : ups m) (h : s ∈ N) : look (nLess m N) s = look m s := by
  have hu2 : ups (nLess m N) := ups_sub hu List.filter_sublist
  cases hl : look m s with
  | none =>
    rw [look_none] at hl ⊢
    exact fun o ho => hl o (List.mem_filter.1 ho).1
  | some o =>
    have hid := look_id hl
    refine look_of_mem hu2 (List.mem_filter.2 ⟨look_mem hl, ?_⟩) hid
    rw [hid]
    exact inB_iff.2 h
theorem less_closed {m : List GObj} {N : List ByteArray} (hc : closedB m = true) (hn : ∀ o s, o ∈ m → o.id ∈ N → s ∈ o.refs → s ∈ N) : closedB (nLess m N) = true := by
  obtain ⟨h1, h2⟩ := closed_iff.1 hc
  have hu := (gMap_iff.1 h1).2.1
  refine closed_iff.2 ⟨gMap_sub h1 List.filter_sublist, fun o ho i s hi => ?_⟩
  obtain ⟨h3, h4⟩ := List.mem_filter.1 ho
  rw [kindOf_look, filter_look hu (hn o s h3 (inB_iff.1 h4) (List.mem_of_getElem? hi)), ← kindOf_look]
  exact h2 o h3 i s hi
theorem shows_congr {m a : List GObj} {k : Nat} {e : GEdit} (h : e.op ≠ 1 → look a e.id = look m e.id) : eShows k a e = eShows k m e := by
  by_cases h1 : e.op = 1
  · unfold eShows
    split
    · rw [decide_eq_false (by omega : ¬ e.op = 5)]; rfl
    · rw [decide_eq_false (by omega : ¬ e.op = 3)]; rfl
    · rw [decide_eq_false (by omega : ¬ e.op = 2)]; rfl
    · rfl
  · have h2 : isOb a e.id = isOb m e.id := congrArg Option.isSome (h h1)
    have h3 : obOf a e.id = obOf m e.id := congrArg (fun x => Option.getD x zObj) (h h1)
    unfold eShows
    split
    · rw [h2]
    · rw [h3]
    · rw [h2, h3]
    · rfl
section
variable {α : Type}
theorem gr_congr {S S' : α → Bool} {T : α → α → Bool} : ∀ (l : List α) (i n : Nat) (tk : List α), (∀ x, x ∈ l → S x = S' x) → gr S T l i n tk = gr S' T l i n tk
  | [], _, _, _, _ => by simp [gr]
  | x :: r, i, 0, tk, _ => by simp [gr]
  | x :: r, i, n + 1, tk, h => by
    rw [gr, gr, h x List.mem_cons_self, gr_congr r (i + 1) n _ (fun y hy => h y (List.mem_cons_of_mem _ hy)), gr_congr r (i + 1) (n + 1) _ (fun y hy => h y (List.mem_cons_of_mem _ hy))]
theorem kLoop_congr {one : Bool} {S S' : α → Bool} {T : α → α → Bool} {n : Nat} : ∀ (l : List α) (i : Nat), (∀ x, x ∈ l → S x = S' x) → kLoop one S T n l i = kLoop one S' T n l i
  | [], _, _ => rfl
  | x :: r, i, h => by
    rw [kLoop, kLoop, h x List.mem_cons_self, gr_congr (x :: r) i n [] h, kLoop_congr r (i + 1) (fun y hy => h y (List.mem_cons_of_mem _ hy))]
end
theorem kAns_congr {m a : List GObj} {l : List GEdit} {k : Nat} (h : ∀ e, e ∈ l → e.op ≠ 1 → look a e.id = look m e.id) : kAns a l k = kAns m l k := by
  unfold kAns
  rw [kLoop_congr l 0 (fun e he => shows_congr (h e he))]
theorem kFirst_congr {m a : List GObj} {l : List GEdit} (h : ∀ e, e ∈ l → e.op ≠ 1 → look a e.id = look m e.id) : ∀ n k : Nat, kFirst a l n k = kFirst m l n k
  | 0, _ => rfl
  | n + 1, k => by rw [kFirst, kFirst, kAns_congr h, kFirst_congr h n (k + 1)]
theorem nNames_mono : ∀ {l : List GEdit} {N : List ByteArray} {s : ByteArray}, s ∈ N → s ∈ nNames N l
  | [], N, s, h => h
  | e :: l, N, s, h => nNames_mono (l := l) (addAll_mem.2 (.inl h))
theorem nNames_has : ∀ {l : List GEdit} {N : List ByteArray} {e : GEdit} {s : ByteArray}, e ∈ l → s ∈ gNames e → s ∈ nNames N l
  | x :: l, N, e, s, he, hs => by
    rcases List.mem_cons.1 he with rfl | he
    · exact nNames_mono (l := l) (addAll_mem.2 (.inr hs))
    · exact nNames_has (l := l) he hs
/-- The lesser map is closed, and the same evidence is found in it. -/
theorem less_all {m : List GObj} {l : List GEdit} (hc : closedB m = true) (hl : gChange l = true) :
    closedB (nLess m (nRound m (nRound m (nRound m (nNames [] l))))) = true ∧ gFind (nLess m (nRound m (nRound m (nRound m (nNames [] l))))) l = gFind m l := by
  have hg := closed_gMap hc
  have hu := (gMap_iff.1 hg).2.1
  have h1 : closedB (nLess m (nRound m (nRound m (nRound m (nNames [] l))))) = true := less_closed hc (fun o s ho hi hs => need_closed hc ho hi hs)
  refine ⟨h1, ?_⟩
  unfold gFind
  rw [h1, hc, hl]
  have h2 : gFind0 (nLess m (nRound m (nRound m (nRound m (nNames [] l))))) l = gFind0 m l := by
    unfold gFind0
    refine kFirst_congr (fun e he h1 => ?_) 4 1
    have hv : gEditV e = true := by
      rw [gChange, Bool.and_eq_true, Bool.not_eq_true', List.any_eq_false] at hl
      have := hl.2 e he
      simpa using this
    obtain ⟨_, hk, _⟩ := gEditV_iff.1 hv
    exact filter_look hu (nRound_mono (nRound_mono (nRound_mono (nNames_has he ((names_mem hv).2 ⟨.inl rfl, okOf_id hk h1⟩)))))
  rw [h2]
theorem less_same {m : List GObj} {N : List ByteArray} (h : m.length ≤ (nLess m N).length) : nLess m N = m := List.filter_eq_self.2 fun o ho => by
  have h1 : (nLess m N).length = m.length := Nat.le_antisymm (List.length_filter_le _ _) h
  exact List.length_filter_eq_length_iff.1 h1 o ho
end Go.Proofs.YtdcifaldfmpapaaGreat
end
section
set_option linter.unusedVariables false
set_option linter.unusedSimpArgs false
set_option maxRecDepth 100000
namespace Go.Proofs.YtdcifaldfmpapaaGreat
open Go.Abs

instance decGObj : DecidableEq GObj := fun a b => if h : gSameO a b = true then isTrue (gSameO_iff.1 h) else isFalse (fun e => h (gSameO_iff.2 e))
end Go.Proofs.YtdcifaldfmpapaaGreat
end
section
set_option linter.unusedVariables false
set_option linter.unusedSimpArgs false
set_option maxRecDepth 100000
namespace Go.Proofs.YtdcifaldfmpapaaGreat
open Go.Abs

def few12B (m : List GObj) (n : Int) : Bool := decide ((m.length : Int) ≤ n) && !m.any (fun o => bad11 o 40)
def bad21h (e : GEdit) : Bool := ((decide (300 < IntKind.i64.wrap (IntKind.i64.wrap (IntKind.i64.wrap ((e.id.size : Int) + (e.other.size : Int)) + (e.node.size : Int)) + (e.key.size : Int))) || decide (600 < (e.val.size : Int))) || decide (40 < ((e.refs.map encStr).length : Int))) || bad11 e.obj 40
def bad21 (e : GEdit) : Bool := bad21h e || e.refs.any (longS 300)
def few21B (l : List GEdit) (n : Int) : Bool := decide ((l.length : Int) ≤ n) && !l.any bad21
def few21L (m : List GObj) (l : List GEdit) : Bool := few12B m 25 && few21B l 10
end Go.Proofs.YtdcifaldfmpapaaGreat
end
section
set_option linter.unusedVariables false
set_option linter.unusedSimpArgs false
set_option maxRecDepth 100000
namespace Go.Proofs.YtdcifaldfmpapaaGreat
open Go.Abs

def st1 (c : UInt8) : ByteArray := ⟨#[c]⟩
def nodeA (c : UInt8) : GObj := ⟨st1 c, 1, (c.toNat : Int), 0, [], []⟩
def cs3 : List UInt8 := [97, 98, 99]
def wayA : GObj := ⟨st1 119, 2, 0, 0, cs3.map st1, []⟩
def s0 : List GObj := cs3.map nodeA ++ [wayA]
abbrev obN (l : List GObj) : List (List AV) := l.map (fun e => (encObj e).map .pv)
end Go.Proofs.YtdcifaldfmpapaaGreat
end
section
set_option linter.unusedVariables false
set_option linter.unusedSimpArgs false
set_option maxRecDepth 100000
namespace Go.Proofs.YtdcifaldfmpapaaGreat
open Go.Abs

def ed0 (op : Int) (id other node : ByteArray) : GEdit := ⟨op, id, other, node, 0, 0, sNil, sNil, [], zObj⟩
def eS : GEdit := ed0 6 (st1 119) (st1 118) (st1 98)
def eJ : GEdit := ed0 7 (st1 119) (st1 118) sNil
def eB : GEdit := ed0 5 (st1 98) sNil sNil
def eM : GEdit := ed0 2 (st1 119) sNil sNil
def eW : GEdit := ed0 5 (st1 119) sNil sNil
def x1 : List GObj := cs3.map nodeA ++ [⟨st1 118, 2, 0, 0, [st1 98, st1 99], []⟩, ⟨st1 119, 2, 0, 0, [st1 97, st1 98], []⟩]
end Go.Proofs.YtdcifaldfmpapaaGreat
end
section
set_option linter.unusedVariables false
set_option linter.unusedSimpArgs false
set_option maxRecDepth 100000
namespace Go.Proofs.YtdcifaldfmpapaaGreat
open Go.Abs
def isW (n : Int) : Bool := (isLet n || isDig n) || decide (n = 95)
def badW (s : ByteArray) (k : Nat) : Bool := !isW (byteAt s k)
def rName (s : ByteArray) : Bool := !((List.range s.size).any (badW s)) && (decide ((0 : Int) < (s.size : Int)) && decide ((s.size : Int) ≤ 24) && isLet (byteAt s 0))
end Go.Proofs.YtdcifaldfmpapaaGreat
end
section
set_option linter.unusedVariables false
set_option linter.unusedSimpArgs false
set_option maxRecDepth 100000
namespace Go.Proofs.YtdcifaldfmpapaaGreat
open Go.Abs

def gNum (k n : Int) : Bool := if k = 1 then decide (n = 0) else if k = 2 then decide (2 ≤ n) else if k = 3 then decide (3 ≤ n) else if k = 4 then decide (1 ≤ n) else decide (n = 3)
def rRefs (o : GObj) : Bool := (decide ((o.refs.length : Int) ≤ 2000) && !((List.range o.refs.length).any (wrongAt o))) && gNum o.kind (o.refs.length : Int)
def atO (o : GObj) : Bool := if o.kind = 1 then gOn o.x o.y else (decide (o.x = 0) && decide (o.y = 0))
end Go.Proofs.YtdcifaldfmpapaaGreat
end
section
set_option linter.unusedVariables false
set_option linter.unusedSimpArgs false
set_option maxRecDepth 100000
namespace Go.Proofs.YtdcifaldfmpapaaGreat
open Go.Abs
/-- The k-th elements are equal, for all k below n. -/
def eqTo {α : Type} (e : α → α → Bool) (a b : List α) : Bool := decide (a.length = b.length) && (List.range a.length).all fun k => match a[k]?, b[k]? with | some x, some y => e x y | _, _ => true
theorem eqTo_iff {α : Type} {e : α → α → Bool} (he : ∀ x y, e x y = true ↔ x = y) {a b : List α} : eqTo e a b = true ↔ a = b := by
  constructor
  · intro h
    simp only [eqTo, Bool.and_eq_true, decide_eq_true_eq, List.all_eq_true, List.mem_range] at h
    apply List.ext_getElem h.1
    intro k h1 h2
    have := h.2 k h1
    rw [List.getElem?_eq_getElem h1, List.getElem?_eq_getElem h2] at this
    exact (he _ _).1 this
  · rintro rfl
    simp only [eqTo, Bool.and_eq_true, decide_eq_true_eq, List.all_eq_true, List.mem_range, true_and]
    intro k hk
    rw [List.getElem?_eq_getElem hk]
    exact (he _ _).2 rfl
theorem eqTo_bad {α : Type} {e : α → α → Bool} {a b : List α} {k : Nat} {x y : α} (hx : a[k]? = some x) (hy : b[k]? = some y) (h : e x y = false) : eqTo e a b = false := by
  have hk := (List.getElem?_eq_some_iff.1 hx).1
  rw [eqTo, Bool.and_eq_false_iff]
  right
  rw [List.all_eq_false]
  exact ⟨k, List.mem_range.2 hk, by rw [hx, hy]; simp [h]⟩
theorem eqTo_len {α : Type} {e : α → α → Bool} {a b : List α} (h : ¬ a.length = b.length) : eqTo e a b = false := by simp [eqTo, h]
theorem eqTo_good {α : Type} {e : α → α → Bool} {a b : List α} (hl : a.length = b.length) (h : ∀ k, k < a.length → ∀ x y, a[k]? = some x → b[k]? = some y → e x y = true) : eqTo e a b = true := by
  simp only [eqTo, Bool.and_eq_true, decide_eq_true_eq, List.all_eq_true, List.mem_range]
  refine ⟨hl, fun k hk => ?_⟩
  rw [List.getElem?_eq_getElem hk, List.getElem?_eq_getElem (by omega)]
  exact h k hk _ _ (List.getElem?_eq_getElem hk) (List.getElem?_eq_getElem (by omega))
def strEq (a b : ByteArray) : Bool := decide (a = b)
theorem strEq_iff (a b : ByteArray) : strEq a b = true ↔ a = b := by simp [strEq]
def headEq (a b : GObj) : Bool := decide (a.id = b.id) && decide (a.kind = b.kind) && (decide (a.x = b.x) && decide (a.y = b.y)) && decide (a.refs.length = b.refs.length) && decide (a.tags.length = b.tags.length)
def gSameR (a b : GObj) : Bool := headEq a b && (eqTo strEq a.refs b.refs && eqTo tagEq a.tags b.tags)
theorem gSameR_iff {a b : GObj} : gSameR a b = true ↔ a = b := by
  rw [gSameR, Bool.and_eq_true, Bool.and_eq_true, eqTo_iff strEq_iff, eqTo_iff tagEq_iff]
  cases a; cases b
  simp only [headEq, Bool.and_eq_true, decide_eq_true_eq, GObj.mk.injEq]
  constructor
  · rintro ⟨⟨⟨⟨⟨a1, a2⟩, a3, a4⟩, a5⟩, a6⟩, a7, a8⟩
    exact ⟨a1, a2, a3, a4, a7, a8⟩
  · rintro ⟨a1, a2, a3, a4, a7, a8⟩
    exact ⟨⟨⟨⟨⟨a1, a2⟩, a3, a4⟩, by rw [a7]⟩, by rw [a8]⟩, a7, a8⟩
def headNe (a b : GObj) (n1 n2 n3 n4 : Int) : Bool := !decide (a.id = b.id) || !decide (a.kind = b.kind) || !(decide (a.x = b.x) && decide (a.y = b.y)) || !decide (n1 = n2) || !decide (n3 = n4)
theorem headNe_eq (a b : GObj) : headNe a b ((a.refs.map encStr).length : Int) ((b.refs.map encStr).length : Int) ((a.tags.map encTag).length : Int) ((b.tags.map encTag).length : Int) = !headEq a b := by
  simp only [headNe, headEq, List.length_map, Bool.not_and, Int.natCast_inj]
theorem same11_c (a b : GObj) (H : Heap) (ha : a.refs.length < 4611686018427387904) (ha2 : a.tags.length < 4611686018427387904) : ACalls Tryz.prog 50 [av (encObj a), av (encObj b)] H (fun r H' => r = bv (gSameR a b) ∧ H' = H) := by
  refine ACalls.pure ?_ (by simp) H
  have hra : (a.refs.map encStr).length = a.refs.length := List.length_map _
  have hta : (a.tags.map encTag).length = a.tags.length := List.length_map _
  refine ACalls.body Tryz.func50 rfl Tryz.ntmps50 (Nat.le_of_ble_eq_true rfl) ?_
  refine awp_seq ?_
  refine awp_region ?_
  refine al_d rfl rfl rfl (by exact opd_box (id := 2) rfl rfl rfl rfl rfl) ?_
  refine al_d rfl rfl rfl (by exact opd_box (id := 3) rfl rfl rfl rfl rfl) ?_
  refine al_d rfl rfl rfl (by exact opd_assign rfl rfl) ?_
  refine al_nil ?_
  refine awp_seq ?_
  refine awp_seq ?_
  refine awp_bool (t := 43) (n := 41) (X := headNe a b ((a.refs.map encStr).length : Int) ((b.refs.map encStr).length : Int) ((a.tags.map encTag).length : Int) ((b.tags.map encTag).length : Int)) ?_ ?_
  · all_goals (refine al_d rfl rfl rfl (by exact (by exact opd_field_ref rfl fo30_0 rfl rfl rfl rfl)) ?_)
    all_goals (refine al_d rfl rfl rfl (by exact (by exact opd_load1_ref rfl Tryz.isAgg9 rfl rfl rfl rfl rfl)) ?_)
    all_goals (refine al_d rfl rfl rfl (by exact (by exact opd_field_ref rfl fo30_0 rfl rfl rfl rfl)) ?_)
    all_goals (refine al_d rfl rfl rfl (by exact (by exact opd_load1_ref rfl Tryz.isAgg9 rfl rfl rfl rfl rfl)) ?_)
    all_goals (refine al_d rfl rfl rfl (by exact opd_sneq rfl rfl rfl) ?_)
    all_goals (refine al_d rfl rfl rfl (by exact opd_move rfl rfl) ?_)
    all_goals (refine al_split (t := 12) rfl (fun h12 => ?_) (fun h12 => ?_))
    all_goals (try contradiction)
    all_goals (first | refine al_off rfl rfl rfl rfl rfl ?_ | refine al_ond rfl rfl rfl rfl rfl rfl (by exact (by exact opd_field_ref rfl fo30_1 rfl rfl rfl rfl)) ?_)
    all_goals (first | refine al_off rfl rfl rfl rfl rfl ?_ | refine al_ond rfl rfl rfl rfl rfl rfl (by exact (by exact opd_load1_ref rfl Tryz.isAgg3 rfl rfl rfl rfl rfl)) ?_)
    all_goals (first | refine al_off rfl rfl rfl rfl rfl ?_ | refine al_ond rfl rfl rfl rfl rfl rfl (by exact (by exact opd_field_ref rfl fo30_1 rfl rfl rfl rfl)) ?_)
    all_goals (first | refine al_off rfl rfl rfl rfl rfl ?_ | refine al_ond rfl rfl rfl rfl rfl rfl (by exact (by exact opd_load1_ref rfl Tryz.isAgg3 rfl rfl rfl rfl rfl)) ?_)
    all_goals (first | refine al_off rfl rfl rfl rfl rfl ?_ | refine al_ond rfl rfl rfl rfl rfl rfl (by exact opd_neq rfl rfl rfl) ?_)
    all_goals (refine al_d rfl rfl rfl (by exact (by first | exact opd_pick_t rfl rfl rfl | exact opd_pick_f rfl rfl rfl)) ?_)
    all_goals (refine al_d rfl rfl rfl (by exact opd_move rfl rfl) ?_)
    all_goals (refine al_split (t := 19) rfl (fun h19 => ?_) (fun h19 => ?_))
    all_goals (try contradiction)
    all_goals (first | refine al_off rfl rfl rfl rfl rfl ?_ | refine al_ond rfl rfl rfl rfl rfl rfl (by exact (by exact opd_field_ref rfl fo30_2 rfl rfl rfl rfl)) ?_)
    all_goals (first | refine al_off rfl rfl rfl rfl rfl ?_ | refine al_ond rfl rfl rfl rfl rfl rfl (by exact (by exact opd_loadn_ref rfl Tryz.isAgg26 Tryz.sizeOf26 rfl rfl rfl rfl (by simp only [List.drop_succ_cons, List.drop_zero, List.take_succ_cons, List.take_zero, List.take_nil, List.map_cons, List.map_nil, List.set_cons_zero, List.set_cons_succ, List.cons_append, List.nil_append, encTag, encObj, encStr]; rfl) rfl)) ?_)
    all_goals (first | refine al_off rfl rfl rfl rfl rfl ?_ | refine al_ond rfl rfl rfl rfl rfl rfl (by exact (by exact opd_field_ref rfl fo30_2 rfl rfl rfl rfl)) ?_)
    all_goals (first | refine al_off rfl rfl rfl rfl rfl ?_ | refine al_ond rfl rfl rfl rfl rfl rfl (by exact (by exact opd_loadn_ref rfl Tryz.isAgg26 Tryz.sizeOf26 rfl rfl rfl rfl (by simp only [List.drop_succ_cons, List.drop_zero, List.take_succ_cons, List.take_zero, List.take_nil, List.map_cons, List.map_nil, List.set_cons_zero, List.set_cons_succ, List.cons_append, List.nil_append, encTag, encObj, encStr]; rfl) rfl)) ?_)
    all_goals (first | refine al_off rfl rfl rfl rfl rfl ?_ | refine al_ond rfl rfl rfl rfl rfl rfl (by exact opd_aneq rfl rfl rfl rfl rfl Tryz.eqGuardType26 (se26 _ _ _ _)) ?_)
    all_goals (refine al_d rfl rfl rfl (by exact (by first | exact opd_pick_t rfl rfl rfl | exact opd_pick_f rfl rfl rfl)) ?_)
    all_goals (refine al_d rfl rfl rfl (by exact opd_move rfl rfl) ?_)
    all_goals (refine al_split (t := 26) rfl (fun h26 => ?_) (fun h26 => ?_))
    all_goals (try contradiction)
    all_goals (first | refine al_off rfl rfl rfl rfl rfl ?_ | refine al_ond rfl rfl rfl rfl rfl rfl (by exact (by exact opd_field_ref rfl fo30_3 rfl rfl rfl rfl)) ?_)
    all_goals (first | refine al_off rfl rfl rfl rfl rfl ?_ | refine al_ond rfl rfl rfl rfl rfl rfl (by exact (by exact opd_load1_ref rfl Tryz.isAgg27 rfl rfl rfl rfl rfl)) ?_)
    all_goals (first | refine al_off rfl rfl rfl rfl rfl ?_ | refine al_ond rfl rfl rfl rfl rfl rfl (by exact (by exact opd_len_sl rfl Tryz.underlying27 rfl)) ?_)
    all_goals (first | refine al_off rfl rfl rfl rfl rfl ?_ | refine al_ond rfl rfl rfl rfl rfl rfl (by exact (by exact opd_field_ref rfl fo30_3 rfl rfl rfl rfl)) ?_)
    all_goals (first | refine al_off rfl rfl rfl rfl rfl ?_ | refine al_ond rfl rfl rfl rfl rfl rfl (by exact (by exact opd_load1_ref rfl Tryz.isAgg27 rfl rfl rfl rfl rfl)) ?_)
    all_goals (first | refine al_off rfl rfl rfl rfl rfl ?_ | refine al_ond rfl rfl rfl rfl rfl rfl (by exact (by exact opd_len_sl rfl Tryz.underlying27 rfl)) ?_)
    all_goals (first | refine al_off rfl rfl rfl rfl rfl ?_ | refine al_ond rfl rfl rfl rfl rfl rfl (by exact opd_neq rfl rfl rfl) ?_)
    all_goals (refine al_d rfl rfl rfl (by exact (by first | exact opd_pick_t rfl rfl rfl | exact opd_pick_f rfl rfl rfl)) ?_)
    all_goals (refine al_d rfl rfl rfl (by exact opd_move rfl rfl) ?_)
    all_goals (refine al_split (t := 35) rfl (fun h35 => ?_) (fun h35 => ?_))
    all_goals (try contradiction)
    all_goals (first | refine al_off rfl rfl rfl rfl rfl ?_ | refine al_ond rfl rfl rfl rfl rfl rfl (by exact (by exact opd_field_ref rfl fo30_4 rfl rfl rfl rfl)) ?_)
    all_goals (first | refine al_off rfl rfl rfl rfl rfl ?_ | refine al_ond rfl rfl rfl rfl rfl rfl (by exact (by exact opd_load1_ref rfl Tryz.isAgg28 rfl rfl rfl rfl rfl)) ?_)
    all_goals (first | refine al_off rfl rfl rfl rfl rfl ?_ | refine al_ond rfl rfl rfl rfl rfl rfl (by exact (by exact opd_len_sl rfl Tryz.underlying28 rfl)) ?_)
    all_goals (first | refine al_off rfl rfl rfl rfl rfl ?_ | refine al_ond rfl rfl rfl rfl rfl rfl (by exact (by exact opd_field_ref rfl fo30_4 rfl rfl rfl rfl)) ?_)
    all_goals (first | refine al_off rfl rfl rfl rfl rfl ?_ | refine al_ond rfl rfl rfl rfl rfl rfl (by exact (by exact opd_load1_ref rfl Tryz.isAgg28 rfl rfl rfl rfl rfl)) ?_)
    all_goals (first | refine al_off rfl rfl rfl rfl rfl ?_ | refine al_ond rfl rfl rfl rfl rfl rfl (by exact (by exact opd_len_sl rfl Tryz.underlying28 rfl)) ?_)
    all_goals (first | refine al_off rfl rfl rfl rfl rfl ?_ | refine al_ond rfl rfl rfl rfl rfl rfl (by exact opd_neq rfl rfl rfl) ?_)
    all_goals (refine al_d rfl rfl rfl (by exact (by first | exact opd_pick_t rfl rfl rfl | exact opd_pick_f rfl rfl rfl)) ?_)
    all_goals (refine al_nil ?_)
    all_goals (exact ⟨⟨_, rfl, by first | (simp only [headNe, *]; rfl) | (simp_all [headNe]; done)⟩, rfl, rfl, rfl⟩)
  refine awp_cond rfl (fun hc1 => ?_) (fun hc1 => ?_)
  -- cond 1
  · rw [headNe_eq] at hc1
    refine awp_seq ?_
    refine awp_region ?_
    refine al_d rfl rfl rfl (by exact opd_assign rfl rfl) ?_
    refine al_nil ?_
    refine awp_ret ?_
    -- return
    refine aret1 (H' := []) (by exact .inr rfl) rfl (rval_tmp rfl) (Fin.wk (by simp) trivial trivial) ?_
    refine ⟨?_, rfl⟩
    have : headEq a b = false := by simpa using hc1
    rw [gSameR, this]; rfl
  · rw [headNe_eq] at hc1
    have hh : headEq a b = true := by simpa using hc1
    have hlens : a.refs.length = b.refs.length ∧ a.tags.length = b.tags.length := by
      simp only [headEq, Bool.and_eq_true, decide_eq_true_eq] at hh
      exact ⟨hh.1.2, hh.2⟩
    obtain ⟨hl1, hl2⟩ := hlens
    rw [gSameR, hh, Bool.true_and]
    refine awp_skip ?_
    refine awp_seq ?_
    refine awp_seq ?_
    refine awp_region ?_
    refine al_d rfl rfl rfl (by exact opd_assign rfl rfl) ?_
    refine al_nil ?_
    refine awp_block ?_
    -- loop
    refine awp_loop (σ := Nat) (fun k => ([(2, .ref 2 0 0 0), (3, .ref 3 0 0 0), (5, iv (k : Int))], [(3, bx 6 30 ((encObj b).map .pv)), (2, bx 6 30 ((encObj a).map .pv))])) (fun k => k ≤ a.refs.length ∧ ∀ j, j < k → ∀ x y, a.refs[j]? = some x → b.refs[j]? = some y → strEq x y = true) (fun k => a.refs.length - k) 0 ⟨by omega, by omega⟩ ?_ ?_
    · exact (Ent.wk ⟨⟨_, rfl, rfl⟩, (by (simp; rfl)), ⟨_, rfl, rfl⟩, (by (simp; rfl)), ⟨_, rfl, rfl⟩, (by (simp; done)), trivial⟩ ⟨⟨_, rfl, rfl⟩, (by (simp; done)), ⟨_, rfl, rfl⟩, (by (simp; done)), trivial⟩ trivial)
    · rintro k ⟨hk, hall⟩
      refine awp_seq ?_
      refine awp_seq ?_
      refine awp_region ?_
      refine al_d rfl rfl rfl (by exact opd_move rfl rfl) ?_
      refine al_d rfl rfl rfl (by exact (by exact opd_field_ref rfl fo30_3 rfl rfl rfl rfl)) ?_
      refine al_d rfl rfl rfl (by exact (by exact opd_load1_ref rfl Tryz.isAgg27 rfl rfl rfl rfl rfl)) ?_
      refine al_d rfl rfl rfl (by exact (by exact opd_len_sl rfl Tryz.underlying27 rfl)) ?_
      refine al_d rfl rfl rfl (by exact opd_lss rfl rfl rfl) ?_
      refine al_nil ?_
      refine awp_cond rfl (fun hc2 => ?_) (fun hc2 => ?_)
      -- cond 2
      · have hlt : k < a.refs.length := by have := of_decide_eq_true hc2; omega
        obtain ⟨x, hx⟩ := get_of_lt hlt
        obtain ⟨y, hy⟩ := get_of_lt (l := b.refs) (k := k) (by omega)
        have hi := map_get (f := encStr) hx
        have hi2 := map_get (f := encStr) hy
        refine awp_skip ?_
        refine awp_seq ?_
        refine awp_block ?_
        refine awp_seq ?_
        refine awp_drawc follows ?_
        refine dc_cons (DStep.q rfl (by exact (by exact opd_field_ref rfl fo30_3 rfl rfl rfl rfl))) rfl ?_
        refine dc_cons (DStep.q rfl (by exact (by exact opd_load1_ref rfl Tryz.isAgg27 rfl rfl rfl rfl rfl))) rfl ?_
        refine dc_cons (DStep.q rfl (by exact opd_move rfl rfl)) rfl ?_
        refine dc_cons (DStep.q rfl (by exact (by exact x_index_pad rfl so27 rfl rfl (by omega) (by exact Int.toNat_natCast _) (by assumption) rfl))) rfl ?_
        refine dc_cons (DStep.q rfl (by exact (by exact opd_load1_pad rfl Tryz.isAgg9 rfl (by omega) rfl))) rfl ?_
        refine dc_cons (DStep.q rfl (by exact (by exact opd_field_ref rfl fo30_3 rfl rfl rfl rfl))) rfl ?_
        refine dc_cons (DStep.q rfl (by exact (by exact opd_load1_ref rfl Tryz.isAgg27 rfl rfl rfl rfl rfl))) rfl ?_
        refine dc_cons (DStep.q rfl (by exact opd_move rfl rfl)) rfl ?_
        refine dc_cons (DStep.q rfl (by exact (by exact x_index_pad rfl so27 rfl rfl (by omega) (by exact Int.toNat_natCast _) (by assumption) rfl))) rfl ?_
        refine dc_cons (DStep.q rfl (by exact (by exact opd_load1_pad rfl Tryz.isAgg9 rfl (by omega) rfl))) rfl ?_
        refine dc_cons (DStep.q rfl (by exact opd_sneq rfl rfl rfl)) rfl ?_
        refine dc_nil ⟨by kernel_rfl, ?_⟩
        refine awp_cond rfl (fun hc3 => ?_) (fun hc3 => ?_)
        -- cond 3
        · have ht : strEq x y = false := by
            have h : (!strEq x y) = true := hc3
            simpa using h
          refine awp_seq ?_
          refine awp_region ?_
          refine al_d rfl rfl rfl (by exact opd_assign rfl rfl) ?_
          refine al_nil ?_
          refine awp_ret ?_
          -- return
          refine aret1 (H' := []) (by exact .inr rfl) rfl (rval_tmp rfl) (Fin.wk (by simp) trivial trivial) ?_
          exact ⟨by rw [eqTo_bad hx hy ht]; rfl, rfl⟩
        · have ht : strEq x y = true := by
            have h : (!strEq x y) = false := hc3
            simpa using h
          refine awp_skip ?_
          refine awp_region ?_
          refine al_d rfl rfl rfl (by exact opd_move rfl rfl) ?_
          refine al_d rfl rfl rfl (by exact opd_add rfl rfl rfl (by exact w64 (by omega) (by omega))) ?_
          refine al_d rfl rfl rfl (by exact opd_assign rfl rfl) ?_
          refine al_nil ?_
          -- end of a round
          refine ⟨k + 1, ⟨by omega, fun j hj x' y' h1 h2 => ?_⟩, by omega, (Ent.wk ⟨⟨_, rfl, rfl⟩, (by (simp; rfl)), ⟨_, rfl, rfl⟩, (by (simp; rfl)), ⟨_, rfl, rfl⟩, (by (simp; done)), trivial⟩ ⟨⟨_, rfl, rfl⟩, (by (simp; done)), ⟨_, rfl, rfl⟩, (by (simp; done)), trivial⟩ trivial)⟩
          by_cases e : j = k
          · subst e; rw [hx] at h1; rw [hy] at h2; cases h1; cases h2; exact ht
          · exact hall j (by omega) x' y' h1 h2
      · have hge : k = a.refs.length := by have := of_decide_eq_false hc2; omega
        subst hge
        rw [eqTo_good hl1 hall, Bool.true_and]
        refine awp_exit ?_
        refine awp_seq ?_
        refine awp_seq ?_
        refine awp_region ?_
        refine al_d rfl rfl rfl (by exact opd_assign rfl rfl) ?_
        refine al_nil ?_
        refine awp_block ?_
        -- loop
        refine awp_loop (σ := Nat) (fun k => ([(2, .ref 2 0 0 0), (3, .ref 3 0 0 0), (6, iv (k : Int))], [(3, bx 6 30 ((encObj b).map .pv)), (2, bx 6 30 ((encObj a).map .pv))])) (fun k => k ≤ a.tags.length ∧ ∀ j, j < k → ∀ x y, a.tags[j]? = some x → b.tags[j]? = some y → tagEq x y = true) (fun k => a.tags.length - k) 0 ⟨by omega, by omega⟩ ?_ ?_
        · exact (Ent.wk ⟨⟨_, rfl, rfl⟩, (by (simp; rfl)), ⟨_, rfl, rfl⟩, (by (simp; rfl)), ⟨_, rfl, rfl⟩, (by (simp; done)), trivial⟩ ⟨⟨_, rfl, rfl⟩, (by (simp; done)), ⟨_, rfl, rfl⟩, (by (simp; done)), trivial⟩ trivial)
        · rintro k ⟨hk, hall2⟩
          refine awp_seq ?_
          refine awp_seq ?_
          refine awp_region ?_
          refine al_d rfl rfl rfl (by exact opd_move rfl rfl) ?_
          refine al_d rfl rfl rfl (by exact (by exact opd_field_ref rfl fo30_4 rfl rfl rfl rfl)) ?_
          refine al_d rfl rfl rfl (by exact (by exact opd_load1_ref rfl Tryz.isAgg28 rfl rfl rfl rfl rfl)) ?_
          refine al_d rfl rfl rfl (by exact (by exact opd_len_sl rfl Tryz.underlying28 rfl)) ?_
          refine al_d rfl rfl rfl (by exact opd_lss rfl rfl rfl) ?_
          refine al_nil ?_
          refine awp_cond rfl (fun hc4 => ?_) (fun hc4 => ?_)
          -- cond 4
          · have hlt : k < a.tags.length := by have := of_decide_eq_true hc4; omega
            obtain ⟨x, hx⟩ := get_of_lt hlt
            obtain ⟨y, hy⟩ := get_of_lt (l := b.tags) (k := k) (by omega)
            have hi := map_get (f := encTag) hx
            have hi2 := map_get (f := encTag) hy
            refine awp_skip ?_
            refine awp_seq ?_
            refine awp_block ?_
            refine awp_seq ?_
            refine awp_drawc follows ?_
            refine dc_cons (DStep.q rfl (by exact (by exact opd_field_ref rfl fo30_4 rfl rfl rfl rfl))) rfl ?_
            refine dc_cons (DStep.q rfl (by exact (by exact opd_load1_ref rfl Tryz.isAgg28 rfl rfl rfl rfl rfl))) rfl ?_
            refine dc_cons (DStep.q rfl (by exact opd_move rfl rfl)) rfl ?_
            refine dc_cons (DStep.q rfl (by exact (by exact x_index_pad rfl so28 rfl rfl (by omega) (by exact Int.toNat_natCast _) (by assumption) rfl))) rfl ?_
            refine dc_cons (DStep.q rfl (by exact (by exact opd_loadn_pad rfl Tryz.isAgg52 Tryz.sizeOf52 rfl (by omega) (by simp only [List.drop_succ_cons, List.drop_zero, List.take_succ_cons, List.take_zero, List.take_nil, List.map_cons, List.map_nil, List.set_cons_zero, List.set_cons_succ, List.cons_append, List.nil_append, encTag, encObj, encStr]; rfl) rfl))) rfl ?_
            refine dc_cons (DStep.q rfl (by exact (by exact opd_field_ref rfl fo30_4 rfl rfl rfl rfl))) rfl ?_
            refine dc_cons (DStep.q rfl (by exact (by exact opd_load1_ref rfl Tryz.isAgg28 rfl rfl rfl rfl rfl))) rfl ?_
            refine dc_cons (DStep.q rfl (by exact opd_move rfl rfl)) rfl ?_
            refine dc_cons (DStep.q rfl (by exact (by exact x_index_pad rfl so28 rfl rfl (by omega) (by exact Int.toNat_natCast _) (by assumption) rfl))) rfl ?_
            refine dc_cons (DStep.q rfl (by exact (by exact opd_loadn_pad rfl Tryz.isAgg52 Tryz.sizeOf52 rfl (by omega) (by simp only [List.drop_succ_cons, List.drop_zero, List.take_succ_cons, List.take_zero, List.take_nil, List.map_cons, List.map_nil, List.set_cons_zero, List.set_cons_succ, List.cons_append, List.nil_append, encTag, encObj, encStr]; rfl) rfl))) rfl ?_
            refine dc_cons (DStep.q rfl (by exact opd_aneq rfl rfl rfl rfl rfl Tryz.eqGuardType52 (se52 _ _ _ _))) rfl ?_
            refine dc_nil ⟨by kernel_rfl, ?_⟩
            refine awp_cond rfl (fun hc5 => ?_) (fun hc5 => ?_)
            -- cond 5
            · have ht : tagEq x y = false := by
                have h : (!tagEq x y) = true := hc5
                simpa using h
              refine awp_seq ?_
              refine awp_region ?_
              refine al_d rfl rfl rfl (by exact opd_assign rfl rfl) ?_
              refine al_nil ?_
              refine awp_ret ?_
              -- return
              refine aret1 (H' := []) (by exact .inr rfl) rfl (rval_tmp rfl) (Fin.wk (by simp) trivial trivial) ?_
              exact ⟨by rw [eqTo_bad hx hy ht], rfl⟩
            · have ht : tagEq x y = true := by
                have h : (!tagEq x y) = false := hc5
                simpa using h
              refine awp_skip ?_
              refine awp_region ?_
              refine al_d rfl rfl rfl (by exact opd_move rfl rfl) ?_
              refine al_d rfl rfl rfl (by exact opd_add rfl rfl rfl (by exact w64 (by omega) (by omega))) ?_
              refine al_d rfl rfl rfl (by exact opd_assign rfl rfl) ?_
              refine al_nil ?_
              -- end of a round
              refine ⟨k + 1, ⟨by omega, fun j hj x' y' h1 h2 => ?_⟩, by omega, (Ent.wk ⟨⟨_, rfl, rfl⟩, (by (simp; rfl)), ⟨_, rfl, rfl⟩, (by (simp; rfl)), ⟨_, rfl, rfl⟩, (by (simp; done)), trivial⟩ ⟨⟨_, rfl, rfl⟩, (by (simp; done)), ⟨_, rfl, rfl⟩, (by (simp; done)), trivial⟩ trivial)⟩
              by_cases e : j = k
              · subst e; rw [hx] at h1; rw [hy] at h2; cases h1; cases h2; exact ht
              · exact hall2 j (by omega) x' y' h1 h2
          · have hge : k = a.tags.length := by have := of_decide_eq_false hc4; omega
            subst hge
            refine awp_exit ?_
            refine awp_seq ?_
            refine awp_region ?_
            refine al_d rfl rfl rfl (by exact opd_assign rfl rfl) ?_
            refine al_nil ?_
            refine awp_ret ?_
            -- return
            refine aret1 (H' := []) (by exact .inr rfl) rfl (rval_tmp rfl) (Fin.wk (by simp) trivial trivial) ?_
            exact ⟨by rw [eqTo_good hl2 hall2], rfl⟩
def gSameM (a b : List GObj) : Bool := eqTo gSameR a b
theorem gSameM_iff {a b : List GObj} : gSameM a b = true ↔ a = b := eqTo_iff (fun _ _ => gSameR_iff)
def okL (m : List GObj) : Prop := m.length < 4611686018427387904 ∧ ∀ o ∈ m, o.refs.length < 4611686018427387904 ∧ o.tags.length < 4611686018427387904
theorem same12_c (a b : List GObj) (H : Heap) (ha : okL a) : ACalls Tryz.prog 19 [.agg [.pv (slObjs a)], .agg [.pv (slObjs b)]] H (fun r H' => r = bv (gSameM a b) ∧ H' = H) := by
  refine ACalls.pure ?_ (by simp) H
  have hma : (a.map encObj).length = a.length := List.length_map _
  have hmb : (b.map encObj).length = b.length := List.length_map _
  have hl := ha.1
  rw [gSameM]
  refine ACalls.body Tryz.func19 rfl Tryz.ntmps19 (Nat.le_of_ble_eq_true rfl) ?_
  refine awp_seq ?_
  refine awp_region ?_
  refine al_d rfl rfl rfl (by exact opd_box (id := 2) rfl rfl rfl rfl rfl) ?_
  refine al_d rfl rfl rfl (by exact opd_box (id := 3) rfl rfl rfl rfl rfl) ?_
  refine al_d rfl rfl rfl (by exact opd_assign rfl rfl) ?_
  refine al_nil ?_
  refine awp_seq ?_
  refine awp_seq ?_
  refine awp_region ?_
  refine al_d rfl rfl rfl (by exact (by exact opd_field_ref rfl fo24_0 rfl rfl rfl rfl)) ?_
  refine al_d rfl rfl rfl (by exact (by exact opd_load1_ref rfl Tryz.isAgg22 rfl rfl rfl rfl rfl)) ?_
  refine al_d rfl rfl rfl (by exact (by exact opd_len_sl rfl Tryz.underlying22 rfl)) ?_
  refine al_d rfl rfl rfl (by exact (by exact opd_field_ref rfl fo24_0 rfl rfl rfl rfl)) ?_
  refine al_d rfl rfl rfl (by exact (by exact opd_load1_ref rfl Tryz.isAgg22 rfl rfl rfl rfl rfl)) ?_
  refine al_d rfl rfl rfl (by exact (by exact opd_len_sl rfl Tryz.underlying22 rfl)) ?_
  refine al_d rfl rfl rfl (by exact opd_neq rfl rfl rfl) ?_
  refine al_nil ?_
  refine awp_cond rfl (fun hc1 => ?_) (fun hc1 => ?_)
  -- cond 1
  · have hne : ¬ a.length = b.length := by
      simp only [hma, hmb, Bool.not_eq_true', decide_eq_false_iff_not] at hc1
      omega
    refine awp_seq ?_
    refine awp_region ?_
    refine al_d rfl rfl rfl (by exact opd_assign rfl rfl) ?_
    refine al_nil ?_
    refine awp_ret ?_
    -- return
    refine aret1 (H' := []) (by exact .inr rfl) rfl (rval_tmp rfl) (Fin.wk (by simp) trivial trivial) ?_
    exact ⟨by rw [eqTo_len hne], rfl⟩
  · have heq : a.length = b.length := by
      simp only [hma, hmb, Bool.not_eq_false', decide_eq_true_eq] at hc1
      omega
    refine awp_skip ?_
    refine awp_seq ?_
    refine awp_seq ?_
    refine awp_region ?_
    refine al_d rfl rfl rfl (by exact opd_assign rfl rfl) ?_
    refine al_nil ?_
    refine awp_block ?_
    -- loop
    refine awp_loop (σ := Nat) (fun k => ([(2, .ref 2 0 0 0), (3, .ref 3 0 0 0), (5, iv (k : Int))], [(3, bx 1 24 [.pv (slObjs b)]), (2, bx 1 24 [.pv (slObjs a)])])) (fun k => k ≤ a.length ∧ ∀ j, j < k → ∀ x y, a[j]? = some x → b[j]? = some y → gSameR x y = true) (fun k => a.length - k) 0 ⟨by omega, by omega⟩ ?_ ?_
    · exact (Ent.wk ⟨⟨_, rfl, rfl⟩, (by (simp; rfl)), ⟨_, rfl, rfl⟩, (by (simp; rfl)), ⟨_, rfl, rfl⟩, (by (simp; done)), trivial⟩ ⟨⟨_, rfl, rfl⟩, (by (simp; done)), ⟨_, rfl, rfl⟩, (by (simp; done)), trivial⟩ trivial)
    · rintro k ⟨hk, hall⟩
      refine awp_seq ?_
      refine awp_seq ?_
      refine awp_region ?_
      refine al_d rfl rfl rfl (by exact opd_move rfl rfl) ?_
      refine al_d rfl rfl rfl (by exact (by exact opd_field_ref rfl fo24_0 rfl rfl rfl rfl)) ?_
      refine al_d rfl rfl rfl (by exact (by exact opd_load1_ref rfl Tryz.isAgg22 rfl rfl rfl rfl rfl)) ?_
      refine al_d rfl rfl rfl (by exact (by exact opd_len_sl rfl Tryz.underlying22 rfl)) ?_
      refine al_d rfl rfl rfl (by exact opd_lss rfl rfl rfl) ?_
      refine al_nil ?_
      refine awp_cond rfl (fun hc2 => ?_) (fun hc2 => ?_)
      -- cond 2
      · have hlt : k < a.length := by have := of_decide_eq_true hc2; omega
        obtain ⟨x, hx⟩ := get_of_lt hlt
        obtain ⟨y, hy⟩ := get_of_lt (l := b) (k := k) (by omega)
        have hi := map_get (f := encObj) hx
        have hi2 := map_get (f := encObj) hy
        have hox := ha.2 x (List.mem_of_getElem? hx)
        refine awp_skip ?_
        refine awp_seq ?_
        refine awp_block ?_
        refine awp_seq ?_
        refine awp_drawc follows ?_
        refine dc_cons (DStep.q rfl (by exact (by exact opd_field_ref rfl fo24_0 rfl rfl rfl rfl))) rfl ?_
        refine dc_cons (DStep.q rfl (by exact (by exact opd_load1_ref rfl Tryz.isAgg22 rfl rfl rfl rfl rfl))) rfl ?_
        refine dc_cons (DStep.q rfl (by exact opd_move rfl rfl)) rfl ?_
        refine dc_cons (DStep.q rfl (by exact (by exact x_index_pad rfl so22 rfl rfl (by omega) (by exact Int.toNat_natCast _) (by assumption) rfl))) rfl ?_
        refine dc_cons (DStep.q rfl (by exact (by exact opd_loadn_pad rfl Tryz.isAgg30 Tryz.sizeOf30 rfl (by omega) (by simp only [List.drop_succ_cons, List.drop_zero, List.take_succ_cons, List.take_zero, List.take_nil, List.map_cons, List.map_nil, List.set_cons_zero, List.set_cons_succ, List.cons_append, List.nil_append, encTag, encObj, encStr]; rfl) rfl))) rfl ?_
        refine dc_cons (DStep.q rfl (by exact (by exact opd_field_ref rfl fo24_0 rfl rfl rfl rfl))) rfl ?_
        refine dc_cons (DStep.q rfl (by exact (by exact opd_load1_ref rfl Tryz.isAgg22 rfl rfl rfl rfl rfl))) rfl ?_
        refine dc_cons (DStep.q rfl (by exact opd_move rfl rfl)) rfl ?_
        refine dc_cons (DStep.q rfl (by exact (by exact x_index_pad rfl so22 rfl rfl (by omega) (by exact Int.toNat_natCast _) (by assumption) rfl))) rfl ?_
        refine dc_cons (DStep.q rfl (by exact (by exact opd_loadn_pad rfl Tryz.isAgg30 Tryz.sizeOf30 rfl (by omega) (by simp only [List.drop_succ_cons, List.drop_zero, List.take_succ_cons, List.take_zero, List.take_nil, List.map_cons, List.map_nil, List.set_cons_zero, List.set_cons_succ, List.cons_append, List.nil_append, encTag, encObj, encStr]; rfl) rfl))) rfl ?_
        refine dc_cons (DStep.q rfl (by exact opr_call rfl rfl Tryz.call50 rfl (same11_c x y _ hox.1 hox.2))) rfl ?_
        refine dc_cons (DStep.q rfl (by exact opd_not rfl rfl)) rfl ?_
        refine dc_nil ⟨by kernel_rfl, ?_⟩
        refine awp_cond rfl (fun hc3 => ?_) (fun hc3 => ?_)
        -- cond 3
        · have ht : gSameR x y = false := by
            have h : (!gSameR x y) = true := hc3
            simpa using h
          refine awp_seq ?_
          refine awp_region ?_
          refine al_d rfl rfl rfl (by exact opd_assign rfl rfl) ?_
          refine al_nil ?_
          refine awp_ret ?_
          -- return
          refine aret1 (H' := []) (by exact .inr rfl) rfl (rval_tmp rfl) (Fin.wk (by simp) trivial trivial) ?_
          exact ⟨by rw [eqTo_bad hx hy ht], rfl⟩
        · have ht : gSameR x y = true := by
            have h : (!gSameR x y) = false := hc3
            simpa using h
          refine awp_skip ?_
          refine awp_region ?_
          refine al_d rfl rfl rfl (by exact opd_move rfl rfl) ?_
          refine al_d rfl rfl rfl (by exact opd_add rfl rfl rfl (by exact w64 (by omega) (by omega))) ?_
          refine al_d rfl rfl rfl (by exact opd_assign rfl rfl) ?_
          refine al_nil ?_
          -- end of a round
          refine ⟨k + 1, ⟨by omega, fun j hj x' y' h1 h2 => ?_⟩, by omega, (Ent.wk ⟨⟨_, rfl, rfl⟩, (by (simp; rfl)), ⟨_, rfl, rfl⟩, (by (simp; rfl)), ⟨_, rfl, rfl⟩, (by (simp; done)), trivial⟩ ⟨⟨_, rfl, rfl⟩, (by (simp; done)), ⟨_, rfl, rfl⟩, (by (simp; done)), trivial⟩ trivial)⟩
          by_cases e : j = k
          · subst e; rw [hx] at h1; rw [hy] at h2; cases h1; cases h2; exact ht
          · exact hall j (by omega) x' y' h1 h2
      · have hge : k = a.length := by have := of_decide_eq_false hc2; omega
        subst hge
        refine awp_exit ?_
        refine awp_seq ?_
        refine awp_region ?_
        refine al_d rfl rfl rfl (by exact opd_assign rfl rfl) ?_
        refine al_nil ?_
        refine awp_ret ?_
        -- return
        refine aret1 (H' := []) (by exact .inr rfl) rfl (rval_tmp rfl) (Fin.wk (by simp) trivial trivial) ?_
        exact ⟨by rw [eqTo_good heq hall], rfl⟩
end Go.Proofs.YtdcifaldfmpapaaGreat
end
section
set_option linter.unusedVariables false
set_option linter.unusedSimpArgs false
set_option maxRecDepth 100000
namespace Go.Proofs.YtdcifaldfmpapaaGreat
open Go.Abs

theorem same12_t {a b : List GObj} (h : a = b) (H : Heap) (ha : okL a) : ACalls Tryz.prog 19 [.agg [.pv (slObjs a)], .agg [.pv (slObjs b)]] H (fun r H' => r = bv true ∧ H' = H) := by
  have := same12_c a b H ha
  rwa [gSameM_iff.2 h] at this
end Go.Proofs.YtdcifaldfmpapaaGreat
end
section
set_option linter.unusedVariables false
set_option linter.unusedSimpArgs false
namespace Go.Abs
def SubG (H' H : Heap) : Prop := ∀ j o', H'.get j = some o' → ∃ o, H.get j = some o ∧ o'.g = o.g ∧ o'.sz = o.sz ∧ o'.rows.length = o.rows.length
theorem VRel.restrictG {w : World} {I : Nat → Prop} {ι : Plc} {H H' : Heap} (hs : SubG H' H) {v : Value} {a : AV} (h : VRel w I ι H v a) : Clo H' a → VRel w I ι H' v a := by
  induction h with
  | any v => exact fun _ => .any v
  | pv h => exact fun _ => .pv h
  | ref o h1 h2 h3 h4 =>
    intro hc
    cases hc with
    | ref hc =>
      obtain ⟨o', ho'⟩ := Option.isSome_iff_exists.1 hc
      obtain ⟨o2, e1, e2, e3, e4⟩ := hs _ _ ho'
      rw [h1] at e1; cases e1
      exact .ref o' ho' (by omega) h3 (fun hg => by rw [e3]; exact h4 (by omega))
  | pad b off cap sz h1 h2 h3 cs h4 h5 h6 => exact fun _ => .pad b off cap sz h1 h2 h3 cs h4 h5 h6
  | osl o h1 h2 h3 h4 =>
    intro hc
    cases hc with
    | osl hc =>
      obtain ⟨o', ho'⟩ := Option.isSome_iff_exists.1 hc
      obtain ⟨o2, e1, e2, e3, e4⟩ := hs _ _ ho'
      rw [h1] at e1; cases e1
      exact .osl o' ho' (by omega) h3 (fun hg => by rw [e3, e4]; exact h4 (by omega))
  | clo hl h ih =>
    intro hc
    cases hc with | clo hc => exact .clo hl fun i v a hv ha => ih i v a hv ha (hc a (List.mem_of_getElem? ha))
  | agg hl h1 h ih =>
    intro hc
    cases hc with | agg hc => exact .agg hl h1 fun i v a hv ha => ih i v a hv ha (hc a (List.mem_of_getElem? ha))
  | tup hl h ih =>
    intro hc
    cases hc with | tup hc => exact .tup hl fun i v a hv ha => ih i v a hv ha (hc a (List.mem_of_getElem? ha))
  | mp o h1 h2 h3 h4 =>
    intro hc
    cases hc with
    | mp hc =>
      obtain ⟨o', ho'⟩ := Option.isSome_iff_exists.1 hc
      obtain ⟨o2, e1, e2, e3, e4⟩ := hs _ _ ho'
      rw [h1] at e1; cases e1
      exact .mp o' ho' (by omega) h3 (fun hg => by rw [e3]; exact h4 (by omega))
  | it o h1 h2 h3 h4 =>
    intro hc
    cases hc with
    | it hc =>
      obtain ⟨o', ho'⟩ := Option.isSome_iff_exists.1 hc
      obtain ⟨o2, e1, e2, e3, e4⟩ := hs _ _ ho'
      rw [h1] at e1; cases e1
      exact .it o' ho' (by omega) h3 (fun hg => by rw [e3]; exact h4 (by omega))
  | osc o h1 h2 h3 h4 =>
    intro hc
    cases hc with
    | osc hc =>
      obtain ⟨o', ho'⟩ := Option.isSome_iff_exists.1 hc
      obtain ⟨o2, e1, e2, e3, e4⟩ := hs _ _ ho'
      rw [h1] at e1; cases e1
      exact .osc o' ho' (by omega) h3 (fun hg => by rw [e3]; exact h4 (by omega))
theorem VRel.freezeG {w : World} {I : Nat → Prop} {ι : Plc} {H H' : Heap} {id : Nat} {ob : Ob} {ps : List (List PV)} (hr : Rel I ι H w) (hs : SubG H' H) (hH : H.get id = some ob) (hps : ob.rows = ps.map (·.map .pv)) {a a' : AV} (hf : Fz H' id ob.g ps a a') :
    ∀ {v : Value}, VRel w I ι H v a → VRel w (ImmPlus I ι id) ι H' v a' := by
  induction hf with
  | same h => exact fun hv => (hv.restrictG hs h).mono' (fun _ _ => rfl) (fun _ h => .inl h) (fun _ o h => ⟨o, h, Nat.le_refl _, fun _ => ⟨rfl, rfl, fun _ => Nat.le_refl _⟩⟩)
  | osl hq =>
    intro v hv
    subst hq
    exact .pv (freeze_prep hr hH hps hv)
  | agg hl h ih =>
    intro v hv
    cases hv with
    | agg h1 h2 h3 =>
      refine .agg (h1.trans hl) h2 fun i u a' hu ha' => ?_
      have hi := (List.getElem?_eq_some_iff.1 ha').1
      exact ih i _ a' (List.getElem?_eq_getElem (by omega)) ha' (h3 i u _ hu (List.getElem?_eq_getElem (by omega)))
  | tup hl h ih =>
    intro v hv
    cases hv with
    | tup h1 h3 =>
      refine .tup (h1.trans hl) fun i u a' hu ha' => ?_
      have hi := (List.getElem?_eq_some_iff.1 ha').1
      exact ih i _ a' (List.getElem?_eq_getElem (by omega)) ha' (h3 i u _ hu (List.getElem?_eq_getElem (by omega)))
/-- Rows that become other rows, a slice in them frozen. -/
def FzRows (H' : Heap) (id g : Nat) (ps : List (List PV)) (rows rows' : List (List AV)) : Prop :=
  rows'.length = rows.length ∧ ∀ (i : Nat) (r' : List AV), rows'[i]? = some r' → ∃ r, rows[i]? = some r ∧ r.length = r'.length ∧ ∀ (k : Nat) (a a' : AV), r[k]? = some a → r'[k]? = some a' → Fz H' id g ps a a'
theorem fzr_same {H' : Heap} {id g : Nat} {ps : List (List PV)} {rows : List (List AV)} (h : ∀ r ∈ rows, ∀ a ∈ r, Clo H' a) : FzRows H' id g ps rows rows :=
  ⟨rfl, fun i r hi => ⟨r, hi, rfl, fun k a a' h1 h2 => by rw [h1] at h2; cases h2; exact .same (h r (List.mem_of_getElem? hi) a (List.mem_of_getElem? h1))⟩⟩
theorem fzr_one {H' : Heap} {id g : Nat} {ps : List (List PV)} {r r' : List AV} (hl : r.length = r'.length) (h : ∀ (k : Nat) (a a' : AV), r[k]? = some a → r'[k]? = some a' → Fz H' id g ps a a') : FzRows H' id g ps [r] [r'] :=
  ⟨rfl, fun i x hi => by
    match i, hi with
    | 0, hi => cases hi; exact ⟨r, rfl, hl, h⟩⟩
def FOk (H H' : Heap) (id g : Nat) (ps : List (List PV)) : Heap → Prop
  | [] => True
  | (j, o') :: r => (∃ o, H.get j = some o ∧ o'.g = o.g ∧ o'.sz = o.sz ∧ o'.ty = o.ty ∧ FzRows H' id g ps o.rows o'.rows) ∧ FOk H H' id g ps r
theorem FOk.spec {H H' : Heap} {id g : Nat} {ps : List (List PV)} {L : Heap} (h : FOk H H' id g ps L) : ∀ p ∈ L, ∃ o, H.get p.1 = some o ∧ p.2.g = o.g ∧ p.2.sz = o.sz ∧ p.2.ty = o.ty ∧ FzRows H' id g ps o.rows p.2.rows := by
  induction L with
  | nil => simp
  | cons x r ih =>
    obtain ⟨t, v⟩ := x
    obtain ⟨h1, h2⟩ := h
    intro p hp
    rcases List.mem_cons.1 hp with e | e
    · subst e; exact h1
    · exact ih h2 p e
theorem Ent.fzG {G0 : Heap} {E E' : Env} {H H' : Heap} {id : Nat} {ob : Ob} (ps : List (List PV)) (hH : H.get id = some ob) (hps : ob.rows = ps.map (·.map .pv)) (hE : ∀ p ∈ E', ∃ v0, E.get p.1 = some v0 ∧ Fz H' id ob.g ps v0 p.2) (hno : H'.get id = none)
    (hF : FOk H H' id ob.g ps H') (hk : KOk H' H G0) : Ent G0 E H E' H' := by
  intro G hG N a w hs
  obtain ⟨I, ι, hr, hst, he⟩ := hs.rel
  subst hG
  have hf : ∀ j o', H'.get j = some o' → ∃ o, H.get j = some o ∧ o'.g = o.g ∧ o'.sz = o.sz ∧ o'.ty = o.ty ∧ FzRows H' id ob.g ps o.rows o'.rows := fun j o' hj => hF.spec _ (mem_of_hget hj)
  have hsub : SubG H' H := fun j o' hj => by
    obtain ⟨o, e1, e2, e3, _, e5⟩ := hf j o' hj
    exact ⟨o, e1, e2, e3, e5.1⟩
  have hown : ∀ b, Own ι H' b → Own ι H b := fun b ⟨j, o', c, h1, h2⟩ => by
    obtain ⟨o, e1, _⟩ := hf j o' h1
    exact ⟨j, o, c, e1, h2⟩
  have hrel : Rel (ImmPlus I ι id) ι H' w := by
    refine ⟨fun b hb => ?_, fun j o' hj => ?_, fun j j' o o' b c c' h1 h2 => ?_⟩
    · rcases hb with hb | ⟨cap, hb⟩
      · exact hr.imm b hb
      · exact hr.lt ⟨id, ob, cap, hH, hb⟩
    · obtain ⟨o, e1, e2, e3, e4, e5, e6⟩ := hf j o' hj
      refine (hr.obj j o e1).keepG e3 e4 e5 rfl (fun b' cap' q1 _ => ⟨rfl, fun q3 => ?_⟩) (fun i r' hi => ?_)
      · rintro (h | ⟨cap, h⟩)
        · exact q3 h
        · have : j = id := hr.inj j id o ob b' cap' cap e1 hH q1 h
          rw [this, hno] at hj
          cases hj
      · obtain ⟨r, z1, z2, z3⟩ := e6 i r' hi
        exact ⟨r, z1, z2, fun k a a' h1 h2 v hv => VRel.freezeG hr hsub hH hps (z3 k a a' h1 h2) hv⟩
    · obtain ⟨p, e1, _⟩ := hf j o h1
      obtain ⟨p', e1', _⟩ := hf j' o' h2
      exact hr.inj j j' p p' b c c' e1 e1'
  have hstep : Step G.I G.ι G.H G.w (ImmPlus I ι id) ι H' w :=
    { os := hst.os, tape := hst.tape, output := hst.output, size := hst.size, froz := hst.froz, keep := hst.keep
      imm := fun b hb => .inl (hst.imm b hb)
      immNew := fun b hb => by
        rcases hb with hb | ⟨cap, hb⟩
        · exact hst.immNew b hb
        · rcases hst.own b ⟨id, ob, cap, hH, hb⟩ with h1 | h1
          · exact .inr (.inl h1)
          · exact .inr (.inr h1)
      own := fun b hb => hst.own b (hown b hb)
      objs := fun j o ho => by
        obtain ⟨o', h1, h2⟩ := hst.objs j o ho
        exact ⟨o', (hk.kept j (by simp [ho])).trans h1, h2⟩ }
  refine ⟨hs.defers, hs.size, _, ι, hrel, hstep, fun t v ht => ?_⟩
  obtain ⟨v0, h1, h2⟩ := hE _ (mem_of_get ht)
  obtain ⟨c, hc, hv⟩ := he t v0 h1
  exact ⟨c, hc, VRel.freezeG hr hsub hH hps h2 hv⟩
end Go.Abs
end
section
set_option linter.unusedVariables false
set_option linter.unusedSimpArgs false
set_option maxRecDepth 100000
namespace Go.Proofs.YtdcifaldfmpapaaGreat
open Go.Abs

def nIter (m : List GObj) (N : List ByteArray) : Nat → List ByteArray
  | 0 => N
  | r + 1 => nRound m (nIter m N r)
theorem nNames_snoc {N : List ByteArray} {l : List GEdit} {i : Nat} {e : GEdit} (h : l[i]? = some e) : nNames N (l.take (i + 1)) = addAll (nNames N (l.take i)) (gNames e) := by
  rw [nNames, List.take_add_one, h, List.foldl_append]; rfl
theorem addAll_snoc {N l : List ByteArray} {k : Nat} {s : ByteArray} (h : l[k]? = some s) : addAll N (l.take (k + 1)) = sput (addAll N (l.take k)) s := by
  rw [addAll, List.take_add_one, h, List.foldl_append]; rfl
theorem nRound_snoc {m : List GObj} {N : List ByteArray} {i : Nat} {o : GObj} (h : m[i]? = some o) : nRound (m.take (i + 1)) N = nStep (nRound (m.take i) N) o := by
  rw [nRound, List.take_add_one, h, List.foldl_append]; rfl
theorem nLess_snoc {m : List GObj} {N : List ByteArray} {i : Nat} {o : GObj} (h : m[i]? = some o) : nLess (m.take (i + 1)) N = nLess (m.take i) N ++ (if inB N o.id then [o] else []) := by
  rw [nLess, nLess, List.take_add_one, h, List.filter_append]
  congr 1
  show List.filter _ [o] = _
  rw [List.filter_cons, List.filter_nil]
theorem names_lenE {e : GEdit} (h : e.refs.length + e.obj.refs.length < 1099511627776) : (gNames e).length < 4611686018427387904 := by
  unfold gNames
  split
  · rw [sortS_length]
    have h1 := List.length_filter_le nonE (idsOf e)
    have h2 := addAll_len e.obj.refs (addAll (addAll [] [e.id, e.other, e.node, e.obj.id]) e.refs)
    have h3 := addAll_len e.refs (addAll [] [e.id, e.other, e.node, e.obj.id])
    have h4 := addAll_len [e.id, e.other, e.node, e.obj.id] []
    have h5 : ([e.id, e.other, e.node, e.obj.id] : List ByteArray).length = 4 := rfl
    have h6 : ([] : List ByteArray).length = 0 := rfl
    have h7 : (idsOf e).length = (addAll (addAll (addAll [] [e.id, e.other, e.node, e.obj.id]) e.refs) e.obj.refs).length := rfl
    omega
  · show 0 < _; omega
theorem find31_t {m : List GObj} {l : List GEdit} (h : okEv m l) {k : Int} {e : List Int} (hf : gFind m l = (k, e)) (H : Heap) : ACalls Tryz.prog 28 [.agg [.pv (slObjs m)], .pv (slEdits l)] H (fun r H' => r = .agg [iv k, .pv (slInts e)] ∧ H' = H) := by
  have := evFind_c m l H h.1 h.2.2.1 h.2.2.2
  rwa [hf] at this
theorem closed31_t {m : List GObj} (hc : closedB m = true) (h : okM m) (H : Heap) : ACalls Tryz.prog 25 [.agg [.pv (slObjs m)]] H (fun r H' => r = bv true ∧ H' = H) := by
  have := closed31_c m H h
  rwa [hc] at this
theorem evidenceOthers_c (m : List GObj) (l : List GEdit) (H : Heap) (h : okEv m l) (hs : ∀ e, e ∈ l → e.refs.length + e.obj.refs.length < 1099511627776) : ACalls Tryz.prog 8 [.agg [.pv (slObjs m)], .pv (slEdits l)] H (fun r H' => r = bv true ∧ H' = H) := by
  refine ACalls.pure ?_ (by simp) H
  have hlm : (l.map encEdit).length = l.length := List.length_map _
  have hmm : (m.map encObj).length = m.length := List.length_map _
  have hl1 := h.2.1
  have hl2 := h.2.2.1
  have hC := fun H => closed31_c m H h.1
  have hV := fun H => changeValid_c l H (by have := h.2.2.1; omega) h.2.2.2
  refine ACalls.body Tryz.func8 rfl Tryz.ntmps8 (Nat.le_of_ble_eq_true rfl) ?_
  refine awp_seq ?_
  refine awp_region ?_
  refine al_d rfl rfl rfl (by exact opd_box (id := 2) rfl rfl rfl rfl rfl) ?_
  refine al_d rfl rfl rfl (by exact opd_assign rfl rfl) ?_
  refine al_nil ?_
  refine awp_seq ?_
  refine awp_region ?_
  refine al_d rfl rfl rfl (by exact opr_call rfl rfl Tryz.call23 rfl (head31_c _)) ?_
  refine al_d rfl rfl rfl (by exact opd_assign rfl rfl) ?_
  refine al_nil ?_
  refine awp_seq ?_
  refine awp_seq ?_
  refine awp_bool (t := 29) (n := 16) (X := (!gFew31 m l || !closedB m) || !gChange l) ?_ ?_
  · all_goals (refine al_d rfl rfl rfl (by exact (by exact opd_loadn_ref rfl Tryz.isAgg24 Tryz.sizeOf24 rfl rfl rfl rfl (by simp only [List.drop_succ_cons, List.drop_zero, List.take_succ_cons, List.take_zero, List.take_nil, List.map_cons, List.map_nil, List.set_cons_zero, List.set_cons_succ, List.cons_append, List.nil_append, encTag, encObj, encStr, encEdit, encInt]; rfl) rfl)) ?_)
    all_goals (refine al_d rfl rfl rfl (by exact opd_move rfl rfl) ?_)
    all_goals (refine al_d rfl rfl rfl (by exact opr_call rfl rfl Tryz.call24 rfl (okEv_few h _)) ?_)
    all_goals (refine al_d rfl rfl rfl (by exact opd_not rfl rfl) ?_)
    all_goals (refine al_d rfl rfl rfl (by exact opd_move rfl rfl) ?_)
    all_goals (refine al_split (t := 20) rfl (fun h20 => ?_) (fun h20 => ?_))
    all_goals (try contradiction)
    all_goals (first | refine al_off rfl rfl rfl rfl rfl ?_ | refine al_ond rfl rfl rfl rfl rfl rfl (by exact (by exact opd_loadn_ref rfl Tryz.isAgg24 Tryz.sizeOf24 rfl rfl rfl rfl (by simp only [List.drop_succ_cons, List.drop_zero, List.take_succ_cons, List.take_zero, List.take_nil, List.map_cons, List.map_nil, List.set_cons_zero, List.set_cons_succ, List.cons_append, List.nil_append, encTag, encObj, encStr, encEdit, encInt]; rfl) rfl)) ?_)
    all_goals (first | refine al_off rfl rfl rfl rfl rfl ?_ | refine al_ond rfl rfl rfl rfl rfl rfl (by exact opr_call rfl rfl Tryz.call25 rfl (hC _)) ?_)
    all_goals (first | refine al_off rfl rfl rfl rfl rfl ?_ | refine al_ond rfl rfl rfl rfl rfl rfl (by exact opd_not rfl rfl) ?_)
    all_goals (refine al_d rfl rfl rfl (by exact (by first | exact opd_pick_t rfl rfl rfl | exact opd_pick_f rfl rfl rfl)) ?_)
    all_goals (refine al_d rfl rfl rfl (by exact opd_move rfl rfl) ?_)
    all_goals (refine al_split (t := 25) rfl (fun h25 => ?_) (fun h25 => ?_))
    all_goals (try contradiction)
    all_goals (first | refine al_off rfl rfl rfl rfl rfl ?_ | refine al_ond rfl rfl rfl rfl rfl rfl (by exact opd_move rfl rfl) ?_)
    all_goals (first | refine al_off rfl rfl rfl rfl rfl ?_ | refine al_ond rfl rfl rfl rfl rfl rfl (by exact opr_call rfl rfl Tryz.call26 rfl (hV _)) ?_)
    all_goals (first | refine al_off rfl rfl rfl rfl rfl ?_ | refine al_ond rfl rfl rfl rfl rfl rfl (by exact opd_not rfl rfl) ?_)
    all_goals (refine al_d rfl rfl rfl (by exact (by first | exact opd_pick_t rfl rfl rfl | exact opd_pick_f rfl rfl rfl)) ?_)
    all_goals (refine al_nil ?_)
    all_goals (exact ⟨⟨_, rfl, by (simp only [*, Bool.false_and, Bool.true_and, Bool.and_false, Bool.and_true, Bool.true_or, Bool.false_or, Bool.or_true, Bool.or_false, Bool.not_true, Bool.not_false]; done)⟩, rfl, rfl, rfl⟩)
  refine awp_cond rfl (fun hc1 => ?_) (fun hc1 => ?_)
  -- cond 1
  · skip
    refine awp_seq ?_
    refine awp_region ?_
    refine al_d rfl rfl rfl (by exact opd_move rfl rfl) ?_
    refine al_d rfl rfl rfl (by exact opd_assign rfl rfl) ?_
    refine al_nil ?_
    refine awp_ret ?_
    -- return
    refine aret1 (H' := []) (by exact .inr rfl) rfl (rval_tmp rfl) (Fin.wk (by simp) trivial trivial) ?_
    exact ⟨rfl, rfl⟩
  · have hcc : closedB m = true ∧ gChange l = true := by
      have h := hc1
      rw [Bool.or_eq_false_iff, Bool.or_eq_false_iff, Bool.not_eq_false', Bool.not_eq_false', Bool.not_eq_false'] at h
      exact ⟨h.1.2, h.2⟩
    obtain ⟨hcl, hch⟩ := hcc
    obtain ⟨k1, k2⟩ := less_all hcl hch
    refine awp_skip ?_
    refine awp_seq ?_
    refine awp_region ?_
    refine al_d rfl rfl rfl (by exact opd_makeMap (id := 31) strK rfl rfl) ?_
    refine al_d rfl rfl rfl (by exact opd_assign rfl rfl) ?_
    refine al_nil ?_
    refine awp_seq ?_
    refine awp_seq ?_
    refine awp_region ?_
    refine al_d rfl rfl rfl (by exact opd_assign rfl rfl) ?_
    refine al_nil ?_
    refine awp_block ?_
    -- loop
    refine awp_loop (σ := Nat) (fun i => ([(1, .pv (slEdits l)), (2, .ref 2 0 0 0), (5, bv true), (6, .mp 31 0), (7, iv (i : Int))], [(31, sob (nNames [] (l.take i))), (2, bx 1 24 [.pv (slObjs m)])])) (fun i => i ≤ l.length) (fun i => l.length - i) 0 (by omega) ?_ ?_
    · exact (Ent.wk ⟨⟨_, rfl, rfl⟩, (by (simp; done)), ⟨_, rfl, rfl⟩, (by (simp; rfl)), ⟨_, rfl, rfl⟩, (by (simp; done)), ⟨_, rfl, rfl⟩, (by (simp; rfl)), ⟨_, rfl, rfl⟩, (by (simp; done)), trivial⟩ ⟨⟨_, rfl, rfl⟩, (by exact sobN_clo _ _), ⟨_, rfl, rfl⟩, (by (simp; done)), trivial⟩ trivial)
    · rintro i hi
      refine awp_seq ?_
      refine awp_seq ?_
      refine awp_region ?_
      refine al_d rfl rfl rfl (by exact opd_move rfl rfl) ?_
      refine al_d rfl rfl rfl (by exact opd_move rfl rfl) ?_
      refine al_d rfl rfl rfl (by exact (by exact opd_len_sl rfl Tryz.underlying46 rfl)) ?_
      refine al_d rfl rfl rfl (by exact opd_lss rfl rfl rfl) ?_
      refine al_nil ?_
      refine awp_cond rfl (fun hc2 => ?_) (fun hc2 => ?_)
      -- cond 2
      · have hil : i < l.length := by have := of_decide_eq_true hc2; omega
        obtain ⟨e, he⟩ := get_of_lt hil
        have hi1 := map_get (f := encEdit) he
        have hem := List.mem_of_getElem? he
        have hnl := names_lenE (hs e hem)
        have hnm : ((gNames e).map encStr).length = (gNames e).length := List.length_map _
        refine awp_skip ?_
        refine awp_seq ?_
        refine awp_block ?_
        refine awp_seq ?_
        refine awp_region ?_
        refine al_d rfl rfl rfl (by exact opd_move rfl rfl) ?_
        refine al_d rfl rfl rfl (by exact opd_move rfl rfl) ?_
        refine al_d rfl rfl rfl (by exact (by exact x_index_pad rfl so46 rfl rfl (by omega) (by exact Int.toNat_natCast _) hi1 rfl)) ?_
        refine al_d rfl rfl rfl (by exact (by exact opd_loadn_pad rfl Tryz.isAgg32 Tryz.sizeOf32 rfl hi1 (by simp only [List.drop_succ_cons, List.drop_zero, List.take_succ_cons, List.take_zero, List.take_nil, List.map_cons, List.map_nil, List.set_cons_zero, List.set_cons_succ, List.cons_append, List.nil_append, encTag, encObj, encStr, encEdit, encInt]; rfl) rfl)) ?_
        refine al_d rfl rfl rfl (by exact opr_call rfl rfl Tryz.call17 rfl (names_cE e _ (h.2.2.2 e hem) (hs e hem))) ?_
        refine al_d rfl rfl rfl (by exact opd_assign rfl rfl) ?_
        refine al_nil ?_
        refine awp_seq ?_
        refine awp_region ?_
        refine al_d rfl rfl rfl (by exact opd_assign rfl rfl) ?_
        refine al_nil ?_
        refine awp_block ?_
        -- loop
        refine awp_loop (σ := Nat) (fun k => ([(1, .pv (slEdits l)), (2, .ref 2 0 0 0), (5, bv true), (6, .mp 31 0), (7, iv (i : Int)), (8, .pv (slStrs (gNames e))), (9, iv (k : Int))], [(31, sob (addAll (nNames [] (l.take i)) ((gNames e).take k))), (2, bx 1 24 [.pv (slObjs m)])])) (fun k => k ≤ (gNames e).length) (fun k => (gNames e).length - k) 0 (by omega) ?_ ?_
        · exact (Ent.wk ⟨⟨_, rfl, rfl⟩, (by (simp; done)), ⟨_, rfl, rfl⟩, (by (simp; rfl)), ⟨_, rfl, rfl⟩, (by (simp; done)), ⟨_, rfl, rfl⟩, (by (simp; rfl)), ⟨_, rfl, rfl⟩, (by (simp; done)), ⟨_, rfl, rfl⟩, (by (simp; done)), ⟨_, rfl, rfl⟩, (by (simp; done)), trivial⟩ ⟨⟨_, rfl, rfl⟩, (by exact sobN_clo _ _), ⟨_, rfl, rfl⟩, (by (simp; done)), trivial⟩ trivial)
        · rintro k hk
          refine awp_seq ?_
          refine awp_seq ?_
          refine awp_region ?_
          refine al_d rfl rfl rfl (by exact opd_move rfl rfl) ?_
          refine al_d rfl rfl rfl (by exact opd_move rfl rfl) ?_
          refine al_d rfl rfl rfl (by exact (by exact opd_len_sl rfl Tryz.underlying27 rfl)) ?_
          refine al_d rfl rfl rfl (by exact opd_lss rfl rfl rfl) ?_
          refine al_nil ?_
          refine awp_cond rfl (fun hc3 => ?_) (fun hc3 => ?_)
          -- cond 3
          · have hkl : k < (gNames e).length := by have := of_decide_eq_true hc3; omega
            obtain ⟨s, hsk⟩ := get_of_lt hkl
            have hi2 := map_get (f := encStr) hsk
            refine awp_skip ?_
            refine awp_seq ?_
            refine awp_block ?_
            refine awp_region ?_
            refine al_d rfl rfl rfl (by exact opd_move rfl rfl) ?_
            refine al_d rfl rfl rfl (by exact opd_move rfl rfl) ?_
            refine al_d rfl rfl rfl (by exact opd_move rfl rfl) ?_
            refine al_d rfl rfl rfl (by exact (by exact x_index_pad rfl so27 rfl rfl (by omega) (by exact Int.toNat_natCast _) hi2 rfl)) ?_
            refine al_d rfl rfl rfl (by exact (by exact opd_load1_pad rfl Tryz.isAgg9 rfl hi2 rfl)) ?_
            refine al_n rfl rfl (by exact x_put_set (.inl rfl) Tryz.underlying59 Tryz.underlying9 rfl rfl rfl rfl rfl rfl rfl) ?_
            refine al_nil ?_
            refine awp_region ?_
            refine al_d rfl rfl rfl (by exact opd_move rfl rfl) ?_
            refine al_d rfl rfl rfl (by exact opd_add rfl rfl rfl (by exact w64 (by omega) (by omega))) ?_
            refine al_d rfl rfl rfl (by exact opd_assign rfl rfl) ?_
            refine al_nil ?_
            -- end of a round
            refine ⟨k + 1, by omega, by omega, ?_⟩
            rw [addAll_snoc hsk]
            exact (Ent.wk ⟨⟨_, rfl, rfl⟩, (by (simp; done)), ⟨_, rfl, rfl⟩, (by (simp; rfl)), ⟨_, rfl, rfl⟩, (by (simp; done)), ⟨_, rfl, rfl⟩, (by (simp; rfl)), ⟨_, rfl, rfl⟩, (by (simp; done)), ⟨_, rfl, rfl⟩, (by (simp; done)), ⟨_, rfl, rfl⟩, (by (simp; done)), trivial⟩ ⟨⟨_, rfl, rfl⟩, (by exact sobN_clo _ _), ⟨_, rfl, rfl⟩, (by (simp; done)), trivial⟩ trivial)
          · have hge : k = (gNames e).length := by have := of_decide_eq_false hc3; omega
            subst hge
            rw [List.take_length]
            refine awp_exit ?_
            refine awp_region ?_
            refine al_d rfl rfl rfl (by exact opd_move rfl rfl) ?_
            refine al_d rfl rfl rfl (by exact opd_add rfl rfl rfl (by exact w64 (by omega) (by omega))) ?_
            refine al_d rfl rfl rfl (by exact opd_assign rfl rfl) ?_
            refine al_nil ?_
            -- end of a round
            refine ⟨i + 1, by omega, by omega, ?_⟩
            rw [nNames_snoc he]
            exact (Ent.wk ⟨⟨_, rfl, rfl⟩, (by (simp; done)), ⟨_, rfl, rfl⟩, (by (simp; rfl)), ⟨_, rfl, rfl⟩, (by (simp; done)), ⟨_, rfl, rfl⟩, (by (simp; rfl)), ⟨_, rfl, rfl⟩, (by (simp; done)), trivial⟩ ⟨⟨_, rfl, rfl⟩, (by exact sobN_clo _ _), ⟨_, rfl, rfl⟩, (by (simp; done)), trivial⟩ trivial)
      · have hge : i = l.length := by have := of_decide_eq_false hc2; omega
        subst hge
        rw [List.take_length]
        refine awp_exit ?_
        refine awp_seq ?_
        refine awp_seq ?_
        refine awp_region ?_
        refine al_d rfl rfl rfl (by exact opd_assign rfl rfl) ?_
        refine al_nil ?_
        refine awp_block ?_
        -- loop
        refine awp_loop (σ := Nat) (fun r => ([(1, .pv (slEdits l)), (2, .ref 2 0 0 0), (5, bv true), (6, .mp 31 0), (10, iv (r : Int))], [(31, sob (nIter m (nNames [] l) r)), (2, bx 1 24 [.pv (slObjs m)])])) (fun r => r ≤ 3) (fun r => 3 - r) 0 (by omega) ?_ ?_
        · exact (Ent.wk ⟨⟨_, rfl, rfl⟩, (by (simp; done)), ⟨_, rfl, rfl⟩, (by (simp; rfl)), ⟨_, rfl, rfl⟩, (by (simp; done)), ⟨_, rfl, rfl⟩, (by (simp; rfl)), ⟨_, rfl, rfl⟩, (by (simp; done)), trivial⟩ ⟨⟨_, rfl, rfl⟩, (by exact sobN_clo _ _), ⟨_, rfl, rfl⟩, (by (simp; done)), trivial⟩ trivial)
        · rintro r hr
          refine awp_seq ?_
          refine awp_seq ?_
          refine awp_region ?_
          refine al_d rfl rfl rfl (by exact opd_move rfl rfl) ?_
          refine al_d rfl rfl rfl (by exact opd_lss rfl rfl rfl) ?_
          refine al_nil ?_
          refine awp_cond rfl (fun hc4 => ?_) (fun hc4 => ?_)
          -- cond 4
          · have hr3 : r < 3 := by have := of_decide_eq_true hc4; omega
            refine awp_skip ?_
            refine awp_seq ?_
            refine awp_block ?_
            refine awp_seq ?_
            refine awp_region ?_
            refine al_d rfl rfl rfl (by exact opd_assign rfl rfl) ?_
            refine al_nil ?_
            refine awp_block ?_
            -- loop
            refine awp_loop (σ := Nat) (fun i => ([(1, .pv (slEdits l)), (2, .ref 2 0 0 0), (5, bv true), (6, .mp 31 0), (10, iv (r : Int)), (11, iv (i : Int))], [(31, sob (nRound (m.take i) (nIter m (nNames [] l) r))), (2, bx 1 24 [.pv (slObjs m)])])) (fun i => i ≤ m.length) (fun i => m.length - i) 0 (by omega) ?_ ?_
            · exact (Ent.wk ⟨⟨_, rfl, rfl⟩, (by (simp; done)), ⟨_, rfl, rfl⟩, (by (simp; rfl)), ⟨_, rfl, rfl⟩, (by (simp; done)), ⟨_, rfl, rfl⟩, (by (simp; rfl)), ⟨_, rfl, rfl⟩, (by (simp; done)), ⟨_, rfl, rfl⟩, (by (simp; done)), trivial⟩ ⟨⟨_, rfl, rfl⟩, (by exact sobN_clo _ _), ⟨_, rfl, rfl⟩, (by (simp; done)), trivial⟩ trivial)
            · rintro i hi
              refine awp_seq ?_
              refine awp_seq ?_
              refine awp_region ?_
              refine al_d rfl rfl rfl (by exact opd_move rfl rfl) ?_
              refine al_d rfl rfl rfl (by exact (by exact opd_field_ref rfl fo24_0 rfl rfl rfl rfl)) ?_
              refine al_d rfl rfl rfl (by exact (by exact opd_load1_ref rfl Tryz.isAgg22 rfl rfl rfl rfl rfl)) ?_
              refine al_d rfl rfl rfl (by exact (by exact opd_len_sl rfl Tryz.underlying22 rfl)) ?_
              refine al_d rfl rfl rfl (by exact opd_lss rfl rfl rfl) ?_
              refine al_nil ?_
              refine awp_cond rfl (fun hc5 => ?_) (fun hc5 => ?_)
              -- cond 5
              · have hil : i < m.length := by have := of_decide_eq_true hc5; omega
                obtain ⟨o, ho⟩ := get_of_lt hil
                have hi1 := map_get (f := encObj) ho
                have hom := List.mem_of_getElem? ho
                have hrl := (h.1.2 o hom).2.2.1
                have hrm : (o.refs.map encStr).length = o.refs.length := List.length_map _
                obtain ⟨N, hN⟩ : ∃ N, N = nRound (m.take i) (nIter m (nNames [] l) r) := ⟨_, rfl⟩
                rw [← hN]
                have hnext := nRound_snoc (N := nIter m (nNames [] l) r) ho
                rw [← hN] at hnext
                cases hin : inB N o.id
                · rw [nStep, hin, if_neg (by decide)] at hnext
                  refine awp_skip ?_
                  refine awp_seq ?_
                  refine awp_block ?_
                  refine awp_seq ?_
                  refine awp_region ?_
                  refine al_d rfl rfl rfl (by exact opd_assign rfl rfl) ?_
                  refine al_nil ?_
                  refine awp_block ?_
                  -- loop
                  refine awp_loop (σ := Nat) (fun k => ([(1, .pv (slEdits l)), (2, .ref 2 0 0 0), (5, bv true), (6, .mp 31 0), (10, iv (r : Int)), (11, iv (i : Int)), (12, iv (k : Int))], [(31, sob N), (2, bx 1 24 [.pv (slObjs m)])])) (fun k => k = 0) (fun k => 0) 0 (by omega) ?_ ?_
                  · exact (Ent.wk ⟨⟨_, rfl, rfl⟩, (by (simp; done)), ⟨_, rfl, rfl⟩, (by (simp; rfl)), ⟨_, rfl, rfl⟩, (by (simp; done)), ⟨_, rfl, rfl⟩, (by (simp; rfl)), ⟨_, rfl, rfl⟩, (by (simp; done)), ⟨_, rfl, rfl⟩, (by (simp; done)), ⟨_, rfl, rfl⟩, (by (simp; done)), trivial⟩ ⟨⟨_, rfl, rfl⟩, (by exact sobN_clo _ _), ⟨_, rfl, rfl⟩, (by (simp; done)), trivial⟩ trivial)
                  · rintro k hk
                    refine awp_seq ?_
                    refine awp_seq ?_
                    refine awp_bool (t := 83) (n := 20) (X := decide ((k : Int) < ((o.refs.map encStr).length : Int)) && inB N o.id) ?_ ?_
                    · all_goals (refine al_d rfl rfl rfl (by exact opd_move rfl rfl) ?_)
                      all_goals (refine al_d rfl rfl rfl (by exact (by exact opd_field_ref rfl fo24_0 rfl rfl rfl rfl)) ?_)
                      all_goals (refine al_d rfl rfl rfl (by exact (by exact opd_load1_ref rfl Tryz.isAgg22 rfl rfl rfl rfl rfl)) ?_)
                      all_goals (refine al_d rfl rfl rfl (by exact opd_move rfl rfl) ?_)
                      all_goals (refine al_d rfl rfl rfl (by exact (by exact x_index_pad rfl so22 rfl rfl (by omega) (by exact Int.toNat_natCast _) hi1 rfl)) ?_)
                      all_goals (refine al_d rfl rfl rfl (by exact (by exact opd_field_pad rfl fo30_3 rfl rfl)) ?_)
                      all_goals (refine al_d rfl rfl rfl (by exact (by exact opd_load1_pad rfl Tryz.isAgg27 rfl hi1 rfl)) ?_)
                      all_goals (refine al_d rfl rfl rfl (by exact (by exact opd_len_sl rfl Tryz.underlying27 rfl)) ?_)
                      all_goals (refine al_d rfl rfl rfl (by exact opd_lss rfl rfl rfl) ?_)
                      all_goals (refine al_d rfl rfl rfl (by exact opd_move rfl rfl) ?_)
                      all_goals (refine al_split (t := 74) rfl (fun h74 => ?_) (fun h74 => ?_))
                      all_goals (try contradiction)
                      all_goals (first | refine al_off rfl rfl rfl rfl rfl ?_ | refine al_ond rfl rfl rfl rfl rfl rfl (by exact opd_move rfl rfl) ?_)
                      all_goals (first | refine al_off rfl rfl rfl rfl rfl ?_ | refine al_ond rfl rfl rfl rfl rfl rfl (by exact (by exact opd_field_ref rfl fo24_0 rfl rfl rfl rfl)) ?_)
                      all_goals (first | refine al_off rfl rfl rfl rfl rfl ?_ | refine al_ond rfl rfl rfl rfl rfl rfl (by exact (by exact opd_load1_ref rfl Tryz.isAgg22 rfl rfl rfl rfl rfl)) ?_)
                      all_goals (first | refine al_off rfl rfl rfl rfl rfl ?_ | refine al_ond rfl rfl rfl rfl rfl rfl (by exact opd_move rfl rfl) ?_)
                      all_goals (first | refine al_off rfl rfl rfl rfl rfl ?_ | refine al_ond rfl rfl rfl rfl rfl rfl (by exact (by exact x_index_pad rfl so22 rfl rfl (by omega) (by exact Int.toNat_natCast _) hi1 rfl)) ?_)
                      all_goals (first | refine al_off rfl rfl rfl rfl rfl ?_ | refine al_ond rfl rfl rfl rfl rfl rfl (by exact (by exact opd_field_pad rfl fo30_0 rfl rfl)) ?_)
                      all_goals (first | refine al_off rfl rfl rfl rfl rfl ?_ | refine al_ond rfl rfl rfl rfl rfl rfl (by exact (by exact opd_load1_pad rfl Tryz.isAgg9 rfl hi1 rfl)) ?_)
                      all_goals (first | refine al_off rfl rfl rfl rfl rfl ?_ | refine al_ond rfl rfl rfl rfl rfl rfl (by exact x_lookup_set rfl Tryz.underlying59 Tryz.underlying9 rfl rfl rfl rfl rfl Tryz.zeroValue4 (.inl rfl)) ?_)
                      all_goals (refine al_d rfl rfl rfl (by exact (by first | exact opd_pick_t rfl rfl rfl | exact opd_pick_f rfl rfl rfl)) ?_)
                      all_goals (refine al_nil ?_)
                      all_goals (exact ⟨⟨_, rfl, by (simp_all; done)⟩, rfl, rfl, rfl⟩)
                    refine awp_cond rfl (fun hc6 => ?_) (fun hc6 => ?_)
                    -- cond 6
                    · have hx := hc6
                      rw [hin, Bool.and_false] at hx
                      cases hx
                    · skip
                      refine awp_exit ?_
                      refine awp_region ?_
                      refine al_d rfl rfl rfl (by exact opd_move rfl rfl) ?_
                      refine al_d rfl rfl rfl (by exact opd_add rfl rfl rfl (by exact w64 (by omega) (by omega))) ?_
                      refine al_d rfl rfl rfl (by exact opd_assign rfl rfl) ?_
                      refine al_nil ?_
                      -- end of a round
                      refine ⟨i + 1, by omega, by omega, ?_⟩
                      rw [hnext]
                      exact (Ent.wk ⟨⟨_, rfl, rfl⟩, (by (simp; done)), ⟨_, rfl, rfl⟩, (by (simp; rfl)), ⟨_, rfl, rfl⟩, (by (simp; done)), ⟨_, rfl, rfl⟩, (by (simp; rfl)), ⟨_, rfl, rfl⟩, (by (simp; done)), ⟨_, rfl, rfl⟩, (by (simp; done)), trivial⟩ ⟨⟨_, rfl, rfl⟩, (by exact sobN_clo _ _), ⟨_, rfl, rfl⟩, (by (simp; done)), trivial⟩ trivial)
                · rw [nStep, hin, if_pos rfl] at hnext
                  refine awp_skip ?_
                  refine awp_seq ?_
                  refine awp_block ?_
                  refine awp_seq ?_
                  refine awp_region ?_
                  refine al_d rfl rfl rfl (by exact opd_assign rfl rfl) ?_
                  refine al_nil ?_
                  refine awp_block ?_
                  -- loop
                  refine awp_loop (σ := Nat) (fun k => ([(1, .pv (slEdits l)), (2, .ref 2 0 0 0), (5, bv true), (6, .mp 31 0), (10, iv (r : Int)), (11, iv (i : Int)), (12, iv (k : Int))], [(31, sob (addAll N (o.refs.take k))), (2, bx 1 24 [.pv (slObjs m)])])) (fun k => k ≤ o.refs.length) (fun k => o.refs.length - k) 0 (by omega) ?_ ?_
                  · exact (Ent.wk ⟨⟨_, rfl, rfl⟩, (by (simp; done)), ⟨_, rfl, rfl⟩, (by (simp; rfl)), ⟨_, rfl, rfl⟩, (by (simp; done)), ⟨_, rfl, rfl⟩, (by (simp; rfl)), ⟨_, rfl, rfl⟩, (by (simp; done)), ⟨_, rfl, rfl⟩, (by (simp; done)), ⟨_, rfl, rfl⟩, (by (simp; done)), trivial⟩ ⟨⟨_, rfl, rfl⟩, (by exact sobN_clo _ _), ⟨_, rfl, rfl⟩, (by (simp; done)), trivial⟩ trivial)
                  · rintro k hk
                    have hin2 : inB (addAll N (o.refs.take k)) o.id = true := inB_iff.2 (addAll_mem.2 (.inl (inB_iff.1 hin)))
                    refine awp_seq ?_
                    refine awp_seq ?_
                    refine awp_bool (t := 83) (n := 20) (X := decide ((k : Int) < ((o.refs.map encStr).length : Int)) && inB (addAll N (o.refs.take k)) o.id) ?_ ?_
                    · all_goals (refine al_d rfl rfl rfl (by exact opd_move rfl rfl) ?_)
                      all_goals (refine al_d rfl rfl rfl (by exact (by exact opd_field_ref rfl fo24_0 rfl rfl rfl rfl)) ?_)
                      all_goals (refine al_d rfl rfl rfl (by exact (by exact opd_load1_ref rfl Tryz.isAgg22 rfl rfl rfl rfl rfl)) ?_)
                      all_goals (refine al_d rfl rfl rfl (by exact opd_move rfl rfl) ?_)
                      all_goals (refine al_d rfl rfl rfl (by exact (by exact x_index_pad rfl so22 rfl rfl (by omega) (by exact Int.toNat_natCast _) hi1 rfl)) ?_)
                      all_goals (refine al_d rfl rfl rfl (by exact (by exact opd_field_pad rfl fo30_3 rfl rfl)) ?_)
                      all_goals (refine al_d rfl rfl rfl (by exact (by exact opd_load1_pad rfl Tryz.isAgg27 rfl hi1 rfl)) ?_)
                      all_goals (refine al_d rfl rfl rfl (by exact (by exact opd_len_sl rfl Tryz.underlying27 rfl)) ?_)
                      all_goals (refine al_d rfl rfl rfl (by exact opd_lss rfl rfl rfl) ?_)
                      all_goals (refine al_d rfl rfl rfl (by exact opd_move rfl rfl) ?_)
                      all_goals (refine al_split (t := 74) rfl (fun h74 => ?_) (fun h74 => ?_))
                      all_goals (try contradiction)
                      all_goals (first | refine al_off rfl rfl rfl rfl rfl ?_ | refine al_ond rfl rfl rfl rfl rfl rfl (by exact opd_move rfl rfl) ?_)
                      all_goals (first | refine al_off rfl rfl rfl rfl rfl ?_ | refine al_ond rfl rfl rfl rfl rfl rfl (by exact (by exact opd_field_ref rfl fo24_0 rfl rfl rfl rfl)) ?_)
                      all_goals (first | refine al_off rfl rfl rfl rfl rfl ?_ | refine al_ond rfl rfl rfl rfl rfl rfl (by exact (by exact opd_load1_ref rfl Tryz.isAgg22 rfl rfl rfl rfl rfl)) ?_)
                      all_goals (first | refine al_off rfl rfl rfl rfl rfl ?_ | refine al_ond rfl rfl rfl rfl rfl rfl (by exact opd_move rfl rfl) ?_)
                      all_goals (first | refine al_off rfl rfl rfl rfl rfl ?_ | refine al_ond rfl rfl rfl rfl rfl rfl (by exact (by exact x_index_pad rfl so22 rfl rfl (by omega) (by exact Int.toNat_natCast _) hi1 rfl)) ?_)
                      all_goals (first | refine al_off rfl rfl rfl rfl rfl ?_ | refine al_ond rfl rfl rfl rfl rfl rfl (by exact (by exact opd_field_pad rfl fo30_0 rfl rfl)) ?_)
                      all_goals (first | refine al_off rfl rfl rfl rfl rfl ?_ | refine al_ond rfl rfl rfl rfl rfl rfl (by exact (by exact opd_load1_pad rfl Tryz.isAgg9 rfl hi1 rfl)) ?_)
                      all_goals (first | refine al_off rfl rfl rfl rfl rfl ?_ | refine al_ond rfl rfl rfl rfl rfl rfl (by exact x_lookup_set rfl Tryz.underlying59 Tryz.underlying9 rfl rfl rfl rfl rfl Tryz.zeroValue4 (.inl rfl)) ?_)
                      all_goals (refine al_d rfl rfl rfl (by exact (by first | exact opd_pick_t rfl rfl rfl | exact opd_pick_f rfl rfl rfl)) ?_)
                      all_goals (refine al_nil ?_)
                      all_goals (exact ⟨⟨_, rfl, by (simp_all; done)⟩, rfl, rfl, rfl⟩)
                    refine awp_cond rfl (fun hc7 => ?_) (fun hc7 => ?_)
                    -- cond 7
                    · have hkl : k < o.refs.length := by
                        have hx := hc7
                        rw [Bool.and_eq_true, decide_eq_true_eq] at hx
                        omega
                      obtain ⟨s, hsk⟩ := get_of_lt hkl
                      have hi2 := map_get (f := encStr) hsk
                      refine awp_skip ?_
                      refine awp_seq ?_
                      refine awp_block ?_
                      refine awp_region ?_
                      refine al_d rfl rfl rfl (by exact opd_move rfl rfl) ?_
                      refine al_d rfl rfl rfl (by exact (by exact opd_field_ref rfl fo24_0 rfl rfl rfl rfl)) ?_
                      refine al_d rfl rfl rfl (by exact (by exact opd_load1_ref rfl Tryz.isAgg22 rfl rfl rfl rfl rfl)) ?_
                      refine al_d rfl rfl rfl (by exact opd_move rfl rfl) ?_
                      refine al_d rfl rfl rfl (by exact (by exact x_index_pad rfl so22 rfl rfl (by omega) (by exact Int.toNat_natCast _) hi1 rfl)) ?_
                      refine al_d rfl rfl rfl (by exact (by exact opd_field_pad rfl fo30_3 rfl rfl)) ?_
                      refine al_d rfl rfl rfl (by exact (by exact opd_load1_pad rfl Tryz.isAgg27 rfl hi1 rfl)) ?_
                      refine al_d rfl rfl rfl (by exact opd_move rfl rfl) ?_
                      refine al_d rfl rfl rfl (by exact (by exact x_index_pad rfl so27 rfl rfl (by omega) (by exact Int.toNat_natCast _) hi2 rfl)) ?_
                      refine al_d rfl rfl rfl (by exact (by exact opd_load1_pad rfl Tryz.isAgg9 rfl hi2 rfl)) ?_
                      refine al_n rfl rfl (by exact x_put_set (.inl rfl) Tryz.underlying59 Tryz.underlying9 rfl rfl rfl rfl rfl rfl rfl) ?_
                      refine al_nil ?_
                      refine awp_region ?_
                      refine al_d rfl rfl rfl (by exact opd_move rfl rfl) ?_
                      refine al_d rfl rfl rfl (by exact opd_add rfl rfl rfl (by exact w64 (by omega) (by omega))) ?_
                      refine al_d rfl rfl rfl (by exact opd_assign rfl rfl) ?_
                      refine al_nil ?_
                      -- end of a round
                      refine ⟨k + 1, by omega, by omega, ?_⟩
                      rw [addAll_snoc hsk]
                      exact (Ent.wk ⟨⟨_, rfl, rfl⟩, (by (simp; done)), ⟨_, rfl, rfl⟩, (by (simp; rfl)), ⟨_, rfl, rfl⟩, (by (simp; done)), ⟨_, rfl, rfl⟩, (by (simp; rfl)), ⟨_, rfl, rfl⟩, (by (simp; done)), ⟨_, rfl, rfl⟩, (by (simp; done)), ⟨_, rfl, rfl⟩, (by (simp; done)), trivial⟩ ⟨⟨_, rfl, rfl⟩, (by exact sobN_clo _ _), ⟨_, rfl, rfl⟩, (by (simp; done)), trivial⟩ trivial)
                    · have hge : k = o.refs.length := by
                        have hx := hc7
                        rw [hin2, Bool.and_true, decide_eq_false_iff_not] at hx
                        omega
                      subst hge
                      rw [List.take_length]
                      refine awp_exit ?_
                      refine awp_region ?_
                      refine al_d rfl rfl rfl (by exact opd_move rfl rfl) ?_
                      refine al_d rfl rfl rfl (by exact opd_add rfl rfl rfl (by exact w64 (by omega) (by omega))) ?_
                      refine al_d rfl rfl rfl (by exact opd_assign rfl rfl) ?_
                      refine al_nil ?_
                      -- end of a round
                      refine ⟨i + 1, by omega, by omega, ?_⟩
                      rw [hnext]
                      exact (Ent.wk ⟨⟨_, rfl, rfl⟩, (by (simp; done)), ⟨_, rfl, rfl⟩, (by (simp; rfl)), ⟨_, rfl, rfl⟩, (by (simp; done)), ⟨_, rfl, rfl⟩, (by (simp; rfl)), ⟨_, rfl, rfl⟩, (by (simp; done)), ⟨_, rfl, rfl⟩, (by (simp; done)), trivial⟩ ⟨⟨_, rfl, rfl⟩, (by exact sobN_clo _ _), ⟨_, rfl, rfl⟩, (by (simp; done)), trivial⟩ trivial)
              · have hge : i = m.length := by have := of_decide_eq_false hc5; omega
                subst hge
                rw [List.take_length]
                refine awp_exit ?_
                refine awp_region ?_
                refine al_d rfl rfl rfl (by exact opd_move rfl rfl) ?_
                refine al_d rfl rfl rfl (by exact opd_add rfl rfl rfl (by exact w64 (by omega) (by omega))) ?_
                refine al_d rfl rfl rfl (by exact opd_assign rfl rfl) ?_
                refine al_nil ?_
                -- end of a round
                exact ⟨r + 1, by omega, by omega, (Ent.wk ⟨⟨_, rfl, rfl⟩, (by (simp; done)), ⟨_, rfl, rfl⟩, (by (simp; rfl)), ⟨_, rfl, rfl⟩, (by (simp; done)), ⟨_, rfl, rfl⟩, (by (simp; rfl)), ⟨_, rfl, rfl⟩, (by (simp; done)), trivial⟩ ⟨⟨_, rfl, rfl⟩, (by exact sobN_clo _ _), ⟨_, rfl, rfl⟩, (by (simp; done)), trivial⟩ trivial)⟩
          · have hge : r = 3 := by have := of_decide_eq_false hc4; omega
            subst hge
            obtain ⟨N, hN⟩ : ∃ N, N = nIter m (nNames [] l) 3 := ⟨_, rfl⟩
            have hN2 : N = nRound m (nRound m (nRound m (nNames [] l))) := hN
            rw [← hN2] at k1 k2
            rw [← hN]
            clear hN hN2
            refine awp_exit ?_
            refine awp_seq ?_
            refine awp_region ?_
            refine al_d rfl rfl rfl (by exact x_alloc (id := 13) rfl zoN24 rfl rfl) ?_
            refine al_nil ?_
            refine awp_seq ?_
            refine awp_seq ?_
            refine awp_region ?_
            refine al_d rfl rfl rfl (by exact opd_assign rfl rfl) ?_
            refine al_nil ?_
            refine awp_block ?_
            -- loop
            refine awp_loop2 (fun (i : Nat) (g : Nat) => ([(1, .pv (slEdits l)), (2, .ref 2 0 0 0), (5, bv true), (6, .mp 31 0), (13, .ref 13 0 0 0), (14, iv (i : Int))], [(900, ⟨g, 6, 30, obRows (nLess (m.take i) N)⟩), (13, bx 1 24 [.osl 900 g 0 (nLess (m.take i) N).length]), (31, sob N), (2, bx 1 24 [.pv (slObjs m)])])) (fun i g => i ≤ m.length) (fun i g => m.length - i) 0 0 (by omega) ?_ ?_
            · exact (Ent.nz 900 6 30 rfl rfl ⟨⟨_, rfl, (by exact Nz.same (by (simp; done)))⟩, ⟨_, rfl, (by exact Nz.same (by (simp; rfl)))⟩, ⟨_, rfl, (by exact Nz.same (by (simp; done)))⟩, ⟨_, rfl, (by exact Nz.same (by (simp; rfl)))⟩, ⟨_, rfl, (by exact Nz.same (by (simp; rfl)))⟩, ⟨_, rfl, (by exact Nz.same (by (simp; done)))⟩, trivial⟩ ⟨⟨_, rfl, rfl, rfl, rfl, (by exact .inr ⟨_, _, rfl, rfl, (by repeat (first | exact trivial | refine ⟨(by exact Nz.own), ?_⟩))⟩)⟩, ⟨_, rfl, rfl, rfl, rfl, (by exact .inl ⟨rfl, (by exact sobN_clo _ _)⟩)⟩, ⟨_, rfl, rfl, rfl, rfl, (by exact .inl ⟨rfl, (by (simp; done))⟩)⟩, trivial⟩ trivial)
            · rintro i g hi
              have hfl : (nLess (m.take i) N).length ≤ i := Nat.le_trans (List.length_filter_le _ _) (by simp; omega)
              refine awp_seq ?_
              refine awp_seq ?_
              refine awp_region ?_
              refine al_d rfl rfl rfl (by exact opd_move rfl rfl) ?_
              refine al_d rfl rfl rfl (by exact (by exact opd_field_ref rfl fo24_0 rfl rfl rfl rfl)) ?_
              refine al_d rfl rfl rfl (by exact (by exact opd_load1_ref rfl Tryz.isAgg22 rfl rfl rfl rfl rfl)) ?_
              refine al_d rfl rfl rfl (by exact (by exact opd_len_sl rfl Tryz.underlying22 rfl)) ?_
              refine al_d rfl rfl rfl (by exact opd_lss rfl rfl rfl) ?_
              refine al_nil ?_
              refine awp_cond rfl (fun hc8 => ?_) (fun hc8 => ?_)
              -- cond 8
              · have hil : i < m.length := by have := of_decide_eq_true hc8; omega
                obtain ⟨o, ho⟩ := get_of_lt hil
                have hi1 := map_get (f := encObj) ho
                have hft := nLess_snoc (N := N) ho
                refine awp_skip ?_
                refine awp_seq ?_
                refine awp_block ?_
                refine awp_seq ?_
                refine awp_region ?_
                refine al_d rfl rfl rfl (by exact opd_move rfl rfl) ?_
                refine al_d rfl rfl rfl (by exact (by exact opd_field_ref rfl fo24_0 rfl rfl rfl rfl)) ?_
                refine al_d rfl rfl rfl (by exact (by exact opd_load1_ref rfl Tryz.isAgg22 rfl rfl rfl rfl rfl)) ?_
                refine al_d rfl rfl rfl (by exact opd_move rfl rfl) ?_
                refine al_d rfl rfl rfl (by exact (by exact x_index_pad rfl so22 rfl rfl (by omega) (by exact Int.toNat_natCast _) hi1 rfl)) ?_
                refine al_d rfl rfl rfl (by exact (by exact opd_field_pad rfl fo30_0 rfl rfl)) ?_
                refine al_d rfl rfl rfl (by exact (by exact opd_load1_pad rfl Tryz.isAgg9 rfl hi1 rfl)) ?_
                refine al_d rfl rfl rfl (by exact x_lookup_set rfl Tryz.underlying59 Tryz.underlying9 rfl rfl rfl rfl rfl Tryz.zeroValue4 (.inl rfl)) ?_
                refine al_nil ?_
                refine awp_cond rfl (fun hc9 => ?_) (fun hc9 => ?_)
                -- cond 9
                · rw [hc9, if_pos rfl] at hft
                  refine awp_drawc follows ?_
                  refine dc_cons (r := ⟨_, some [13], []⟩) (DStep.plain rfl (fun H1 hH => by exact (by exact opd_field_ref rfl fo24_0 rfl ((hH _ rfl).trans rfl) rfl rfl))) rfl ?_
                  refine dc_cons (r := ⟨_, some [13], []⟩) (DStep.plain rfl (fun H1 hH => by exact (by exact opd_load1_ref rfl Tryz.isAgg22 rfl ((hH _ rfl).trans rfl) rfl rfl rfl))) rfl ?_
                  refine dc_cons (r := ⟨_, some [2], []⟩) (DStep.plain rfl (fun H1 hH => by exact (by exact opd_field_ref rfl fo24_0 rfl ((hH _ rfl).trans rfl) rfl rfl))) rfl ?_
                  refine dc_cons (r := ⟨_, some [2], []⟩) (DStep.plain rfl (fun H1 hH => by exact (by exact opd_load1_ref rfl Tryz.isAgg22 rfl ((hH _ rfl).trans rfl) rfl rfl rfl))) rfl ?_
                  refine dc_cons (r := ⟨_, some [], []⟩) (DStep.plain rfl (fun H1 hH => by exact opd_move rfl rfl)) rfl ?_
                  refine dc_cons (r := ⟨_, some [], []⟩) (DStep.plain rfl (fun H1 hH => by exact (by exact x_index_pad rfl so22 rfl rfl (by omega) (by exact Int.toNat_natCast _) hi1 rfl))) rfl ?_
                  refine dc_cons (r := ⟨_, some [], []⟩) (DStep.plain rfl (fun H1 hH => by exact (by exact opd_loadn_pad rfl Tryz.isAgg30 Tryz.sizeOf30 rfl hi1 (by simp only [List.drop_succ_cons, List.drop_zero, List.take_succ_cons, List.take_zero, List.take_nil, List.map_cons, List.map_nil, List.set_cons_zero, List.set_cons_succ, List.cons_append, List.nil_append, encObj]; rfl) rfl))) rfl ?_
                  refine dc_cons (r := ⟨_, some [], []⟩) (DStep.plain rfl (fun H1 hH => by exact (by exact x_buildSlice [encObj o] rfl so22 rfl rfl rfl rfl rfl (by simp [encObj])))) rfl ?_
                  refine dc_cons (r := ⟨_, some [900], [_]⟩) (DStep.plain rfl (fun H1 hH => by exact (by exact x_append rfl so22 ei30 rfl ((hH _ rfl).trans rfl) rfl rfl rfl (List.length_map _) rfl (by simp [encObj]) (rfl : _ = 1) (by omega) (len_snoc _ o) (List.map_append (l₂ := [o])).symm))) rfl ?_
                  refine dc_cons (r := ⟨_, some [13], []⟩) (DStep.plain rfl (fun H1 hH => by exact (by exact opd_field_ref rfl fo24_0 rfl ((hH _ rfl).trans rfl) rfl rfl))) rfl ?_
                  refine dc_cons (r := ⟨_, some [13], [_]⟩) (DStep.plain rfl (fun H1 hH => by exact (by exact x_store_all rfl Tryz.sizeOf22 rfl rfl rfl rfl ((hH _ rfl).trans rfl) rfl rfl rfl))) rfl ?_
                  refine dc_nil ⟨by kernel_rfl, ?_⟩
                  refine awp_region ?_
                  refine al_d rfl rfl rfl (by exact opd_move rfl rfl) ?_
                  refine al_d rfl rfl rfl (by exact opd_add rfl rfl rfl (by exact w64 (by omega) (by omega))) ?_
                  refine al_d rfl rfl rfl (by exact opd_assign rfl rfl) ?_
                  refine al_nil ?_
                  -- end of a round
                  refine ⟨i + 1, g + 1, by omega, by omega, ?_⟩
                  rw [hft]
                  exact (Ent.wk ⟨⟨_, rfl, rfl⟩, (by (simp; done)), ⟨_, rfl, rfl⟩, (by (simp; rfl)), ⟨_, rfl, rfl⟩, (by (simp; done)), ⟨_, rfl, rfl⟩, (by (simp; rfl)), ⟨_, rfl, rfl⟩, (by (simp; rfl)), ⟨_, rfl, rfl⟩, (by (simp; done)), trivial⟩ ⟨⟨_, rfl, rfl⟩, (by exact clo_map _ _ _), ⟨_, rfl, rfl⟩, (by (simp; rfl)), ⟨_, rfl, rfl⟩, (by exact sobN_clo _ _), ⟨_, rfl, rfl⟩, (by (simp; done)), trivial⟩ trivial)
                · rw [hc9, if_neg (by simp), List.append_nil] at hft
                  refine awp_skip ?_
                  refine awp_region ?_
                  refine al_d rfl rfl rfl (by exact opd_move rfl rfl) ?_
                  refine al_d rfl rfl rfl (by exact opd_add rfl rfl rfl (by exact w64 (by omega) (by omega))) ?_
                  refine al_d rfl rfl rfl (by exact opd_assign rfl rfl) ?_
                  refine al_nil ?_
                  -- end of a round
                  refine ⟨i + 1, g, by omega, by omega, ?_⟩
                  rw [hft]
                  exact (Ent.wk ⟨⟨_, rfl, rfl⟩, (by (simp; done)), ⟨_, rfl, rfl⟩, (by (simp; rfl)), ⟨_, rfl, rfl⟩, (by (simp; done)), ⟨_, rfl, rfl⟩, (by (simp; rfl)), ⟨_, rfl, rfl⟩, (by (simp; rfl)), ⟨_, rfl, rfl⟩, (by (simp; done)), trivial⟩ ⟨⟨_, rfl, rfl⟩, (by (simp; done)), ⟨_, rfl, rfl⟩, (by (simp; rfl)), ⟨_, rfl, rfl⟩, (by exact sobN_clo _ _), ⟨_, rfl, rfl⟩, (by (simp; done)), trivial⟩ trivial)
              · have hge : i = m.length := by have := of_decide_eq_false hc8; omega
                subst hge
                rw [List.take_length]
                refine awp_exit ?_
                refine awp_seq ?_
                -- before the slot
                obtain ⟨lm, hlm2⟩ : ∃ x, x = nLess m N := ⟨_, rfl⟩
                have hsub : lm.length ≤ m.length := by rw [hlm2]; exact List.length_filter_le _ _
                have hsame : m.length ≤ lm.length → lm = m := by rw [hlm2]; exact less_same
                have hokl : okEv lm l := by
                  rw [hlm2]
                  exact ⟨okM_subl h.1 List.filter_sublist, by have := List.length_filter_le (fun o => inB N o.id) m; show (m.filter _).length < _; omega, h.2.2.1, h.2.2.2⟩
                rw [← hlm2] at k1 k2 ⊢
                clear hlm2
                have hll : (lm.map encObj).length = lm.length := List.length_map _
                refine AWp.ent (Ent.fzG (id := 900) (E' := [(1, .pv (slEdits l)), (2, .ref 2 0 0 0), (5, bv true), (13, .ref 13 0 0 0)]) (H' := [(13, bx 1 24 [.pv (slObjs lm)]), (2, bx 1 24 [.pv (slObjs m)])]) (lm.map encObj) rfl (rows_of encObj lm) ?_ rfl ?_ ?_) ?_
                · intro p hp
                  simp only [List.mem_cons, List.not_mem_nil, or_false] at hp
                  rcases hp with rfl | rfl | rfl | rfl
                  · exact ⟨_, rfl, .same (by simp)⟩
                  · exact ⟨_, rfl, .same (by simp; rfl)⟩
                  · exact ⟨_, rfl, .same (by simp)⟩
                  · exact ⟨_, rfl, .same (by simp; rfl)⟩
                · refine ⟨⟨_, rfl, rfl, rfl, rfl, fzr_one rfl (fz_cons (.osl ?_) fz_nil)⟩, ⟨_, rfl, rfl, rfl, rfl, fzr_same (by simp)⟩, trivial⟩
                  rw [Nat.zero_add, List.drop_zero, ← List.length_map (f := encObj), List.take_length]
                · exact trivial
                obtain ⟨fk, hfk⟩ : ∃ x, x = gFind m l := ⟨_, rfl⟩
                rw [← hfk] at k2
                obtain ⟨ka, ea⟩ := fk
                have hel : ea.length ≤ 5 := by
                  rcases fnd_cases m l with hf | ⟨_, _, k, e, hf, _, hv⟩
                  · rw [← hfk] at hf
                    cases hf
                    exact Nat.zero_le _
                  · rw [← hfk] at hf
                    cases hf
                    have h1 : (toI e).length = e.length := List.length_map _
                    have h2 := (ev_len hv).2
                    omega
                cases hlt : decide (((lm.map encObj).length : Int) < ((m.map encObj).length : Int))
                · have hge := of_decide_eq_false hlt
                  have heq := hsame (by omega)
                  have hLm : okL lm := ⟨hokl.1.1, fun o ho => ⟨(hokl.1.2 o ho).2.2.1, (hokl.1.2 o ho).2.1.1⟩⟩
                  refine awp_drawc follows ?_
                  refine dc_cons (DStep.q rfl (by exact opd_move rfl rfl)) rfl ?_
                  refine dc_cons (DStep.q rfl (by exact opd_move rfl rfl)) rfl ?_
                  refine dc_cons (q_on_t rfl rfl rfl (by rfl) (by exact (by exact opd_loadn_ref rfl Tryz.isAgg24 Tryz.sizeOf24 rfl rfl rfl rfl (by simp only [List.drop_succ_cons, List.drop_zero, List.take_succ_cons, List.take_zero, List.take_nil, List.map_cons, List.map_nil, List.set_cons_zero, List.set_cons_succ, List.cons_append, List.nil_append, encTag, encObj, encStr, encEdit, encInt]; rfl) rfl))) rfl ?_
                  refine dc_cons (q_on_t rfl rfl rfl (by rfl) (by exact opr_call rfl rfl Tryz.call25 rfl (closed31_t k1 hokl.1 _))) rfl ?_
                  refine dc_cons (DStep.q rfl (by exact (by exact opd_pick_t rfl rfl rfl))) rfl ?_
                  refine dc_cons (DStep.q rfl (by exact opd_move rfl rfl)) rfl ?_
                  refine dc_cons (q_on_t rfl rfl rfl (by rfl) (by exact (by exact opd_loadn_ref rfl Tryz.isAgg24 Tryz.sizeOf24 rfl rfl rfl rfl (by simp only [List.drop_succ_cons, List.drop_zero, List.take_succ_cons, List.take_zero, List.take_nil, List.map_cons, List.map_nil, List.set_cons_zero, List.set_cons_succ, List.cons_append, List.nil_append, encTag, encObj, encStr, encEdit, encInt]; rfl) rfl))) rfl ?_
                  refine dc_cons (q_on_t rfl rfl rfl (by rfl) (by exact opd_move rfl rfl)) rfl ?_
                  refine dc_cons (q_on_t rfl rfl rfl (by rfl) (by exact opr_call rfl rfl Tryz.call28 rfl (find31_t h hfk.symm _))) rfl ?_
                  refine dc_cons (q_on_t rfl rfl rfl (by rfl) (by exact (by exact opd_loadn_ref rfl Tryz.isAgg24 Tryz.sizeOf24 rfl rfl rfl rfl (by simp only [List.drop_succ_cons, List.drop_zero, List.take_succ_cons, List.take_zero, List.take_nil, List.map_cons, List.map_nil, List.set_cons_zero, List.set_cons_succ, List.cons_append, List.nil_append, encTag, encObj, encStr, encEdit, encInt]; rfl) rfl))) rfl ?_
                  refine dc_cons (q_on_t rfl rfl rfl (by rfl) (by exact opd_move rfl rfl)) rfl ?_
                  refine dc_cons (q_on_t rfl rfl rfl (by rfl) (by exact opr_call rfl rfl Tryz.call28 rfl (find31_t hokl k2 _))) rfl ?_
                  refine dc_cons (q_on_t rfl rfl rfl (by rfl) (by exact opr_call rfl rfl Tryz.call27 rfl (same_v rfl rfl _ (by omega)))) rfl ?_
                  refine dc_cons (DStep.q rfl (by exact (by exact opd_pick_t rfl rfl rfl))) rfl ?_
                  refine dc_cons (DStep.q rfl (by exact opd_move rfl rfl)) rfl ?_
                  refine dc_cons (q_on_t rfl rfl rfl (by rfl) (by exact (by exact opd_field_ref rfl fo24_0 rfl rfl rfl rfl))) rfl ?_
                  refine dc_cons (q_on_t rfl rfl rfl (by rfl) (by exact (by exact opd_load1_ref rfl Tryz.isAgg22 rfl rfl rfl rfl rfl))) rfl ?_
                  refine dc_cons (q_on_t rfl rfl rfl (by rfl) (by exact (by exact opd_len_sl rfl Tryz.underlying22 rfl))) rfl ?_
                  refine dc_cons (q_on_t rfl rfl rfl (by rfl) (by exact (by exact opd_field_ref rfl fo24_0 rfl rfl rfl rfl))) rfl ?_
                  refine dc_cons (q_on_t rfl rfl rfl (by rfl) (by exact (by exact opd_load1_ref rfl Tryz.isAgg22 rfl rfl rfl rfl rfl))) rfl ?_
                  refine dc_cons (q_on_t rfl rfl rfl (by rfl) (by exact (by exact opd_len_sl rfl Tryz.underlying22 rfl))) rfl ?_
                  refine dc_cons (q_on_t rfl rfl rfl (by rfl) (by exact opd_lss rfl rfl rfl)) rfl ?_
                  refine dc_cons (q_on_t rfl rfl rfl (by rfl) (by exact opd_move rfl rfl)) rfl ?_
                  refine dc_cons (q_on_f rfl rfl rfl (by assumption) (by exact (by exact opd_loadn_ref rfl Tryz.isAgg24 Tryz.sizeOf24 rfl rfl rfl rfl (by simp only [List.drop_succ_cons, List.drop_zero, List.take_succ_cons, List.take_zero, List.take_nil, List.map_cons, List.map_nil, List.set_cons_zero, List.set_cons_succ, List.cons_append, List.nil_append, encTag, encObj, encStr, encEdit, encInt]; rfl) rfl))) rfl ?_
                  refine dc_cons (q_on_f rfl rfl rfl (by assumption) (by exact (by exact opd_loadn_ref rfl Tryz.isAgg24 Tryz.sizeOf24 rfl rfl rfl rfl (by simp only [List.drop_succ_cons, List.drop_zero, List.take_succ_cons, List.take_zero, List.take_nil, List.map_cons, List.map_nil, List.set_cons_zero, List.set_cons_succ, List.cons_append, List.nil_append, encTag, encObj, encStr, encEdit, encInt]; rfl) rfl))) rfl ?_
                  refine dc_cons (q_on_f rfl rfl rfl (by assumption) (by exact opr_call rfl rfl Tryz.call19 rfl (same12_t heq _ hLm))) rfl ?_
                  refine dc_cons (q_on_t rfl rfl rfl (by rfl) (by exact (by exact opd_pickf rfl rfl (by assumption) rfl))) rfl ?_
                  refine dc_cons (DStep.q rfl (by exact (by exact opd_pick_t rfl rfl rfl))) rfl ?_
                  refine dc_cons (DStep.q rfl (by exact opd_assign rfl rfl)) rfl ?_
                  refine dc_nil ⟨by kernel_rfl, ?_⟩
                  refine awp_ret ?_
                  -- return
                  refine aret1 (H' := []) (by exact .inr rfl) rfl (rval_tmp rfl) (Fin.wk (by simp) trivial trivial) ?_
                  exact ⟨rfl, rfl⟩
                · skip
                  refine awp_drawc follows ?_
                  refine dc_cons (DStep.q rfl (by exact opd_move rfl rfl)) rfl ?_
                  refine dc_cons (DStep.q rfl (by exact opd_move rfl rfl)) rfl ?_
                  refine dc_cons (q_on_t rfl rfl rfl (by rfl) (by exact (by exact opd_loadn_ref rfl Tryz.isAgg24 Tryz.sizeOf24 rfl rfl rfl rfl (by simp only [List.drop_succ_cons, List.drop_zero, List.take_succ_cons, List.take_zero, List.take_nil, List.map_cons, List.map_nil, List.set_cons_zero, List.set_cons_succ, List.cons_append, List.nil_append, encTag, encObj, encStr, encEdit, encInt]; rfl) rfl))) rfl ?_
                  refine dc_cons (q_on_t rfl rfl rfl (by rfl) (by exact opr_call rfl rfl Tryz.call25 rfl (closed31_t k1 hokl.1 _))) rfl ?_
                  refine dc_cons (DStep.q rfl (by exact (by exact opd_pick_t rfl rfl rfl))) rfl ?_
                  refine dc_cons (DStep.q rfl (by exact opd_move rfl rfl)) rfl ?_
                  refine dc_cons (q_on_t rfl rfl rfl (by rfl) (by exact (by exact opd_loadn_ref rfl Tryz.isAgg24 Tryz.sizeOf24 rfl rfl rfl rfl (by simp only [List.drop_succ_cons, List.drop_zero, List.take_succ_cons, List.take_zero, List.take_nil, List.map_cons, List.map_nil, List.set_cons_zero, List.set_cons_succ, List.cons_append, List.nil_append, encTag, encObj, encStr, encEdit, encInt]; rfl) rfl))) rfl ?_
                  refine dc_cons (q_on_t rfl rfl rfl (by rfl) (by exact opd_move rfl rfl)) rfl ?_
                  refine dc_cons (q_on_t rfl rfl rfl (by rfl) (by exact opr_call rfl rfl Tryz.call28 rfl (find31_t h hfk.symm _))) rfl ?_
                  refine dc_cons (q_on_t rfl rfl rfl (by rfl) (by exact (by exact opd_loadn_ref rfl Tryz.isAgg24 Tryz.sizeOf24 rfl rfl rfl rfl (by simp only [List.drop_succ_cons, List.drop_zero, List.take_succ_cons, List.take_zero, List.take_nil, List.map_cons, List.map_nil, List.set_cons_zero, List.set_cons_succ, List.cons_append, List.nil_append, encTag, encObj, encStr, encEdit, encInt]; rfl) rfl))) rfl ?_
                  refine dc_cons (q_on_t rfl rfl rfl (by rfl) (by exact opd_move rfl rfl)) rfl ?_
                  refine dc_cons (q_on_t rfl rfl rfl (by rfl) (by exact opr_call rfl rfl Tryz.call28 rfl (find31_t hokl k2 _))) rfl ?_
                  refine dc_cons (q_on_t rfl rfl rfl (by rfl) (by exact opr_call rfl rfl Tryz.call27 rfl (same_v rfl rfl _ (by omega)))) rfl ?_
                  refine dc_cons (DStep.q rfl (by exact (by exact opd_pick_t rfl rfl rfl))) rfl ?_
                  refine dc_cons (DStep.q rfl (by exact opd_move rfl rfl)) rfl ?_
                  refine dc_cons (q_on_t rfl rfl rfl (by rfl) (by exact (by exact opd_field_ref rfl fo24_0 rfl rfl rfl rfl))) rfl ?_
                  refine dc_cons (q_on_t rfl rfl rfl (by rfl) (by exact (by exact opd_load1_ref rfl Tryz.isAgg22 rfl rfl rfl rfl rfl))) rfl ?_
                  refine dc_cons (q_on_t rfl rfl rfl (by rfl) (by exact (by exact opd_len_sl rfl Tryz.underlying22 rfl))) rfl ?_
                  refine dc_cons (q_on_t rfl rfl rfl (by rfl) (by exact (by exact opd_field_ref rfl fo24_0 rfl rfl rfl rfl))) rfl ?_
                  refine dc_cons (q_on_t rfl rfl rfl (by rfl) (by exact (by exact opd_load1_ref rfl Tryz.isAgg22 rfl rfl rfl rfl rfl))) rfl ?_
                  refine dc_cons (q_on_t rfl rfl rfl (by rfl) (by exact (by exact opd_len_sl rfl Tryz.underlying22 rfl))) rfl ?_
                  refine dc_cons (q_on_t rfl rfl rfl (by rfl) (by exact opd_lss rfl rfl rfl)) rfl ?_
                  refine dc_cons (q_on_t rfl rfl rfl (by rfl) (by exact opd_move rfl rfl)) rfl ?_
                  refine dc_cons (q_off_f rfl rfl rfl (by assumption)) rfl ?_
                  refine dc_cons (q_off_f rfl rfl rfl (by assumption)) rfl ?_
                  refine dc_cons (q_off_f rfl rfl rfl (by assumption)) rfl ?_
                  refine dc_cons (q_on_t rfl rfl rfl (by rfl) (by exact (by exact opd_pickt rfl rfl (by assumption) rfl))) rfl ?_
                  refine dc_cons (DStep.q rfl (by exact (by exact opd_pick_t rfl rfl rfl))) rfl ?_
                  refine dc_cons (DStep.q rfl (by exact opd_assign rfl rfl)) rfl ?_
                  refine dc_nil ⟨by kernel_rfl, ?_⟩
                  refine awp_ret ?_
                  -- return
                  refine aret1 (H' := []) (by exact .inr rfl) rfl (rval_tmp rfl) (Fin.wk (by simp) trivial trivial) ?_
                  exact ⟨rfl, rfl⟩
end Go.Proofs.YtdcifaldfmpapaaGreat
end
