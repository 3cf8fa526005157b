/-
  CONTRACT: view.Names of a valid map. Conditions: lengths below 2^40.
-/
import Derived.Test.YtdgoodjhndeojaaE18
import Derived.Test.YtdgoodjhndeojaaS1
set_option linter.unusedVariables false
set_option linter.unusedSimpArgs false
set_option maxRecDepth 100000
namespace Go.Proofs.Ytdgoodjhndeojaa
open Go.Abs

theorem irows_clo {H : Heap} {id g : Nat} (h : (H.get id).isSome = true) (a b : Nat) (l : List Nat) : ∀ r ∈ irows (.mp id g) a b l, ∀ x ∈ r, Clo H x := by
  intro r hr x hx
  rw [irows] at hr
  rcases List.mem_cons.1 hr with rfl | hr
  · simp only [List.mem_cons, List.not_mem_nil, or_false] at hx
    rcases hx with rfl | rfl | rfl
    · exact .mp h
    · exact .pv _
    · exact .pv _
  · obtain ⟨n, _, rfl⟩ := List.mem_map.1 hr
    rw [List.mem_singleton] at hx
    subst hx
    exact .pv _
theorem seenV_len (l : List GObj) : ∀ k, (seenV l k).length ≤ k
  | 0 => Nat.le_refl _
  | k + 1 => by
    have := seenV_len l k
    rw [seenV]
    split
    · split
      · unfold sput
        split
        · omega
        · simp only [List.length_append, List.length_cons, List.length_nil]; omega
      · omega
    · omega
theorem pick_rows {L : List ByteArray} {seen : List Nat} {i : Nat} {s : ByteArray} (h : L[i]? = some s) : strR (pick L seen) ++ [[sv s]] = strR (pick L (seen ++ [i])) := by
  simp only [strR, pick, List.map_append, List.map_cons, List.map_nil, h, Option.getD_some]; rfl
theorem names_c (m : List GObj) (H : Heap) (hm : okM m) (hl : m.length < 1099511627776) (hg : gMap m = true) : ACalls Try.prog 42 [.agg [.pv (slObjs m)]] H (fun r H' => r = .pv (slStrs (sortS (seenV m m.length))) ∧ H' = H) := by
  refine ACalls.pure ?_ (by simp) H
  have hsl := seenV_len m m.length
  refine ACalls.body Try.func42 rfl Try.ntmps42 (Nat.le_of_ble_eq_true rfl) ?_
  refine awp_seq ?_
  refine awp_region ?_
  refine al_d rfl rfl rfl (by exact opd_box (id := 1) rfl rfl rfl rfl rfl) ?_
  refine al_d rfl rfl rfl (by exact opd_assign rfl rfl) ?_
  refine al_nil ?_
  refine awp_seq_to ([(1, .ref 1 0 0 0), (3, .ref 3 0 0 0)]) ([(3, bx 1 110 [.mp 6 0]), (6, sob []), (1, bx 1 24 [.pv (slObjs m)])]) ?_ ?_
  -- seqto
  · skip
    refine awp_region ?_
    refine al_d rfl rfl rfl (by exact opd_makeMap (id := 6) strK rfl rfl) ?_
    refine al_d rfl rfl rfl (by exact x_alloc (id := 3) rfl zo110 rfl rfl) ?_
    refine al_n rfl rfl (by exact (by first | exact x_store_all rfl Try.sizeOf110 rfl rfl rfl rfl rfl rfl rfl rfl | exact x_store1 rfl Try.sizeOf110 rfl rfl rfl rfl rfl rfl (by simp only [List.length_cons, List.length_nil]; omega) (by simp only [List.drop_succ_cons, List.drop_zero, List.take_succ_cons, List.take_zero, List.take_nil, List.map_cons, List.map_nil, List.set_cons_zero, List.set_cons_succ, List.cons_append, List.nil_append, encTag, encObj]; rfl) (by simp only [List.drop_succ_cons, List.drop_zero, List.take_succ_cons, List.take_zero, List.take_nil, List.map_cons, List.map_nil, List.set_cons_zero, List.set_cons_succ, List.cons_append, List.nil_append, encTag, encObj]; rfl))) ?_
    refine al_nil ?_
    -- end of the piece
    exact (Ent.wk ⟨⟨_, rfl, rfl⟩, (by first | (simp; done) | (simp; rfl) | exact clo_map _ _ _ | exact sob_clo _ _ | exact irows_clo rfl _ _ _), ⟨_, rfl, rfl⟩, (by first | (simp; done) | (simp; rfl) | exact clo_map _ _ _ | exact sob_clo _ _ | exact irows_clo rfl _ _ _), trivial⟩ ⟨⟨_, rfl, rfl⟩, (by first | (simp; done) | (simp; rfl) | exact clo_map _ _ _ | exact sob_clo _ _ | exact irows_clo rfl _ _ _), ⟨_, rfl, rfl⟩, (by first | (simp; done) | (simp; rfl) | exact clo_map _ _ _ | exact sob_clo _ _ | exact irows_clo rfl _ _ _), ⟨_, rfl, rfl⟩, (by first | (simp; done) | (simp; rfl) | exact clo_map _ _ _ | exact sob_clo _ _ | exact irows_clo rfl _ _ _), trivial⟩ trivial)
  · skip
    refine awp_seq ?_
    refine awp_region ?_
    refine al_d rfl rfl rfl (by exact (by first | exact opd_loadn_ref rfl Try.isAgg24 Try.sizeOf24 rfl rfl rfl rfl (by simp only [List.drop_succ_cons, List.drop_zero, List.take_succ_cons, List.take_zero, List.take_nil, List.map_cons, List.map_nil, List.set_cons_zero, List.set_cons_succ, List.cons_append, List.nil_append, encTag, encObj]; rfl) rfl | exact opd_loadn_pad rfl Try.isAgg24 Try.sizeOf24 rfl (by first | omega | assumption) (by simp only [List.drop_succ_cons, List.drop_zero, List.take_succ_cons, List.take_zero, List.take_nil, List.map_cons, List.map_nil, List.set_cons_zero, List.set_cons_succ, List.cons_append, List.nil_append, encTag, encObj]; rfl) rfl)) ?_
    refine al_d rfl rfl rfl (by exact opd_makeFunc rfl rfl) ?_
    refine al_d rfl rfl rfl (by exact opr_call rfl rfl Try.call44 rfl (objectsN_c m hm hl hg)) ?_
    refine al_nil ?_
    refine awp_seq ?_
    refine awp_region ?_
    refine al_d rfl rfl rfl (by exact opd_assign_own (id := 4) (sz := 1) (ty := 9) rfl rfl rfl) ?_
    refine al_nil ?_
    refine awp_seq ?_
    refine awp_seq ?_
    refine awp_region ?_
    refine al_d rfl rfl rfl (by exact (by first | exact opd_load1_ref rfl Try.isAgg110 rfl rfl rfl rfl rfl | exact opd_load1_pad rfl Try.isAgg110 rfl (by first | omega | assumption) rfl)) ?_
    refine al_d rfl rfl rfl (by exact opd_range (q := 11) (κ := strK) rfl Try.underlying110 rfl rfl rfl rfl rfl rfl) ?_
    refine al_nil ?_
    refine awp_block ?_
    -- loop
    obtain ⟨L, hL⟩ : ∃ L, L = seenV m m.length := ⟨_, rfl⟩
    rw [← hL] at hsl ⊢
    refine awp_loop2 (fun (seen : List Nat) (g : Nat) => ([(4, .osl 4 g 0 seen.length), (11, .it 11 0)], [(11, ⟨0, 0, 0, irows (.mp 6 0) (sets L).length (sets L).length seen⟩), (4, ⟨g, 1, 9, strR (pick L seen)⟩), (6, sob L)])) (fun seen g => seen.Nodup ∧ ∀ i ∈ seen, i < L.length) (fun seen g => L.length - seen.length) [] 0 ⟨.nil, by simp⟩ ?_ ?_
    · exact (Ent.wk ⟨⟨_, rfl, rfl⟩, (by first | (simp; done) | (simp; rfl) | exact clo_map _ _ _ | exact sob_clo _ _ | exact irows_clo rfl _ _ _), ⟨_, rfl, rfl⟩, (by first | (simp; done) | (simp; rfl) | exact clo_map _ _ _ | exact sob_clo _ _ | exact irows_clo rfl _ _ _), trivial⟩ ⟨⟨_, rfl, rfl⟩, (by first | (simp; done) | (simp; rfl) | exact clo_map _ _ _ | exact sob_clo _ _ | exact irows_clo rfl _ _ _), ⟨_, rfl, rfl⟩, (by first | (simp; done) | (simp; rfl) | exact clo_map _ _ _ | exact sob_clo _ _ | exact irows_clo rfl _ _ _), ⟨_, rfl, rfl⟩, (by first | (simp; done) | (simp; rfl) | exact clo_map _ _ _ | exact sob_clo _ _ | exact irows_clo rfl _ _ _), trivial⟩ trivial)
    · rintro seen g ⟨hnd, hlt⟩
      have hse := nodup_le L.length seen hnd hlt
      refine awp_seq ?_
      refine awp_region ?_
      refine al_r rfl rfl (opr_next (κ := strK) rfl rfl rfl rfl rfl rfl rfl rfl rfl (by omega) (by omega)) ?_
      rintro _ _ (⟨rfl, rfl, hn0⟩ | ⟨hni, hnp, hn1, hn2, rfl, rfl⟩)
      -- next at 
      · skip
        refine al_d rfl rfl rfl (by exact opd_extract rfl rfl rfl) ?_
        refine al_nil ?_
        refine awp_seq ?_
        refine awp_cond rfl (fun hc1 => ?_) (fun hc1 => ?_)
        -- cond 1
        · cases hc1
        · skip
          have hpm := pick_all (L := L) hnd hlt (fun i hi => hn0 i (by rw [sets_length]; exact hi))
          have hsl2 : (pick L seen).length = seen.length := by rw [pick, List.length_map]
          refine awp_exit ?_
          refine awp_seq ?_
          refine awp_region ?_
          refine al_d rfl rfl rfl (by exact opd_move rfl rfl) ?_
          refine al_d rfl rfl rfl (by exact opr_call rfl rfl Try.call79 rfl (sortStr_c (pick L seen) (id := 4) (g := g) (ty := 9) rfl hsl2.symm (by omega))) ?_
          refine al_nil ?_
          refine awp_seq ?_
          refine awp_region ?_
          refine al_d rfl rfl rfl (by exact opd_move rfl rfl) ?_
          refine al_d rfl rfl rfl (by exact opd_assign rfl rfl) ?_
          refine al_nil ?_
          refine awp_ret ?_
          -- return
          rw [← sortS_eq hpm]
          refine aret1 (H' := []) (.inr rfl) rfl (rval_tmp rfl) (Fin.slice [(4, ⟨g, 1, 9, strRows (sortS (pick L seen))⟩), (11, ⟨0, 0, 0, irows (.mp 6 0) (sets L).length (sets L).length seen⟩), (4, ⟨g, 1, 9, strR (pick L seen)⟩), (6, sob L)] ((sortS (pick L seen)).map encStr) rfl rfl (rows_of encStr _) (by rw [List.length_map, sortS_length, hsl2]) (Closed.of (by simp)) (by simp [Heap.get]) (by simp [Heap.get]) rfl) ⟨rfl, rfl⟩
      · skip
        refine al_d rfl rfl rfl (by exact opd_extract rfl rfl rfl) ?_
        refine al_nil ?_
        refine awp_seq ?_
        refine awp_cond rfl (fun hc2 => ?_) (fun hc2 => ?_)
        -- cond 2
        · have hlen := (List.getElem?_eq_some_iff.1 hn1).1
          rw [sets_length] at hlen
          obtain ⟨s, hs⟩ := get_of_lt hlen
          have hp : hnp = (s, bv true) := by
            rw [sets, List.getElem?_map, hs] at hn1
            exact (Option.some.inj hn1).symm
          subst hp
          refine awp_skip ?_
          refine awp_block ?_
          refine awp_seq ?_
          refine awp_region ?_
          refine al_d rfl rfl rfl (by exact opd_entry rfl rfl rfl rfl rfl rfl rfl rfl rfl hn1) ?_
          refine al_d rfl rfl rfl (by exact opd_extract rfl rfl rfl) ?_
          refine al_d rfl rfl rfl (by exact opd_assign rfl rfl) ?_
          refine al_nil ?_
          refine awp_region ?_
          refine al_d rfl rfl rfl (by exact opd_move rfl rfl) ?_
          refine al_d rfl rfl rfl (by exact opd_move rfl rfl) ?_
          refine al_d rfl rfl rfl (by exact x_buildSlice [encStr s] rfl so28 rfl rfl rfl rfl rfl (by simp [encStr])) ?_
          refine al_d rfl rfl rfl (by exact (by first | exact x_append rfl so28 ei9 rfl rfl rfl rfl rfl (by rw [List.length_map, pick, List.length_map]) rfl (by simp [encStr]) (rfl : _ = 1) (by omega) (len_snoc seen hni) (pick_rows hs) | exact x_append_osl rfl so28 ei9 rfl rfl rfl rfl rfl (by rw [List.length_map, pick, List.length_map]) rfl rfl rfl rfl (by simp [encStr]) (rfl : _ = 1) (by omega) (len_snoc seen hni) (pick_rows hs))) ?_
          refine al_d rfl rfl rfl (by exact opd_assign rfl rfl) ?_
          refine al_nil ?_
          -- end of a round
          refine ⟨seen ++ [hni], g + 1, ⟨?_, ?_⟩, ?_, ?_⟩
          · exact List.nodup_append.2 ⟨hnd, by simp, fun a ha b hb e => by rw [List.mem_singleton] at hb; subst hb; subst e; exact hn2 ha⟩
          · intro i hi
            rcases List.mem_append.1 hi with hi | hi
            · exact hlt i hi
            · rw [List.mem_singleton] at hi; subst hi; exact hlen
          · have := nodup_le L.length (seen ++ [hni]) (List.nodup_append.2 ⟨hnd, by simp, fun a ha b hb e => by rw [List.mem_singleton] at hb; subst hb; subst e; exact hn2 ha⟩) (fun i hi => by
              rcases List.mem_append.1 hi with hi | hi
              · exact hlt i hi
              · rw [List.mem_singleton] at hi; subst hi; exact hlen)
            simp only [List.length_append, List.length_cons, List.length_nil] at this ⊢
            omega
          · exact (Ent.wk ⟨⟨_, rfl, rfl⟩, (by first | (simp; done) | (simp; rfl) | exact clo_map _ _ _ | exact sob_clo _ _ | exact irows_clo rfl _ _ _), ⟨_, rfl, rfl⟩, (by first | (simp; done) | (simp; rfl) | exact clo_map _ _ _ | exact sob_clo _ _ | exact irows_clo rfl _ _ _), trivial⟩ ⟨⟨_, rfl, rfl⟩, (by first | (simp; done) | (simp; rfl) | exact clo_map _ _ _ | exact sob_clo _ _ | exact irows_clo rfl _ _ _), ⟨_, rfl, rfl⟩, (by first | (simp; done) | (simp; rfl) | exact clo_map _ _ _ | exact sob_clo _ _ | exact irows_clo rfl _ _ _), ⟨_, rfl, rfl⟩, (by first | (simp; done) | (simp; rfl) | exact clo_map _ _ _ | exact sob_clo _ _ | exact irows_clo rfl _ _ _), trivial⟩ trivial)
        · cases hc2
end Go.Proofs.Ytdgoodjhndeojaa
