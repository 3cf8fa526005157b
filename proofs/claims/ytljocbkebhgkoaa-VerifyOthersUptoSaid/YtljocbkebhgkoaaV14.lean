/-
  CONTRACT: planispherelaw32.VerifyOthers answers true. Conditions: lengths up to 2^20.
-/
import Derived.Test.YtljocbkebhgkoaaV13
set_option linter.unusedVariables false
set_option linter.unusedSimpArgs false
set_option maxRecDepth 100000
namespace Go.Proofs.Ytljocbkebhgkoaa
open Go.Abs
theorem takeL {α : Type} (f : α → List PV) (l : List α) : ((l.map f).take (0 + l.length)).drop 0 = l.map f := by rw [Nat.zero_add, List.drop_zero, ← List.length_map (f := f), List.take_length]
/-- Accept is lent an owned map. -/
theorem lentMap_c (m : List GObj) (l : List GEdit) (kind : Int) (idx : List Int) (b : Bool) (H : Heap) (id g n : Nat) (ob : Ob) (hH : H.get id = some ob) (hg : ob.g = g) (hrows : ob.rows = (m.map encObj).map (·.map .pv)) (hn : n = m.length) (hm : okMap m) (hl : okEdits l) (hx : idx.length < 4611686018427387904) (hb : gAccept m l kind idx = b) :
    ACalls Try.prog 16 [.agg [.osl id g 0 n], .pv (slEdits l), .agg [iv kind, .pv (slInts idx)]] H (fun r H' => r = bv b ∧ H' = H) := by
  subst hb hn hg
  exact RO.calls (RO.lend (id := id) (m.map encObj) (RO.of (accept_c m l kind idx [] hm hl hx) rfl) hH hrows rfl
    (fz_cons (.agg (by rfl) (fz_cons (.osl (takeL _ _)) fz_nil)) (fz_cons (.same (by simp)) (fz_cons (.same (by simp)) fz_nil))) (fun _ _ h => by cases h) (fun _ _ h => by cases h) rfl)
/-- Accept is lent owned edits. -/
theorem lentEd_c (m : List GObj) (l : List GEdit) (kind : Int) (idx : List Int) (b : Bool) (H : Heap) (id g n : Nat) (ob : Ob) (hH : H.get id = some ob) (hg : ob.g = g) (hrows : ob.rows = (l.map encEdit).map (·.map .pv)) (hn : n = l.length) (hm : okMap m) (hl : okEdits l) (hx : idx.length < 4611686018427387904) (hb : gAccept m l kind idx = b) :
    ACalls Try.prog 16 [.agg [.pv (slObjs m)], .osl id g 0 n, .agg [iv kind, .pv (slInts idx)]] H (fun r H' => r = bv b ∧ H' = H) := by
  subst hb hn hg
  exact RO.calls (RO.lend (id := id) (l.map encEdit) (RO.of (accept_c m l kind idx [] hm hl hx) rfl) hH hrows rfl
    (fz_cons (.same (by simp)) (fz_cons (.osl (takeL _ _)) (fz_cons (.same (by simp)) fz_nil))) (fun _ _ h => by cases h) (fun _ _ h => by cases h) rfl)
def lessL (n : Nat) (i : Int) : Bool := decide (i < (n : Int))
theorem all_take {α : Type} (p : α → Bool) {l : List α} {i : Nat} {a : α} (h : l[i]? = some a) : (l.take (i + 1)).all p = (p a && (l.take i).all p) := by
  rw [take_snoc h, List.all_append, Bool.and_comm]; simp
theorem filter_take {α : Type} (p : α → Bool) {l : List α} {i : Nat} {a : α} (h : l[i]? = some a) : (l.take (i + 1)).filter p = (l.take i).filter p ++ (if p a then [a] else []) := by
  rw [take_snoc h, List.filter_append]; congr 1
  cases e : p a <;> simp [e]
theorem verifyOthers_c (m : List GObj) (l : List GEdit) (kind : Int) (idx : List Int) (x : GEdit) (H : Heap) (hm : okMap m) (hm2 : m.length ≤ 1048576) (hmo : ∀ o, o ∈ m → okObj o) (hl : okEdits l) (hl2 : l.length ≤ 1048576) (hle : ∀ e, e ∈ l → okEdit e) (hx : idx.length ≤ 1048576) (hxe : okEdit x) :
    ACalls Try.prog 5 [.agg [.pv (slObjs m)], .pv (slEdits l), .agg [iv kind, .pv (slInts idx)], av (encEdit x)] H (fun r H' => r = bv true ∧ H' = H) := by
  refine ACalls.pure ?_ (by simp) H
  have hll := hl.1
  have hml : (l.map encEdit).length = l.length := List.length_map _
  have hmm : (m.map encObj).length = m.length := List.length_map _
  have hmi : (idx.map encInt).length = idx.length := List.length_map _
  have hnl := gNames_len l idx
  refine ACalls.body Try.func5 rfl Try.ntmps5 (Nat.le_of_ble_eq_true rfl) ?_
  refine awp_seq ?_
  refine awp_region ?_
  refine al_d rfl rfl rfl (by exact opd_box (id := 4) rfl rfl rfl rfl rfl) ?_
  refine al_d rfl rfl rfl (by exact opd_box (id := 6) rfl rfl rfl rfl rfl) ?_
  refine al_d rfl rfl rfl (by exact opd_box (id := 7) rfl rfl rfl rfl rfl) ?_
  refine al_d rfl rfl rfl (by exact opd_assign rfl rfl) ?_
  refine al_nil ?_
  refine awp_seq ?_
  refine awp_region ?_
  refine al_d rfl rfl rfl (by exact opr_call rfl rfl Try.call14 rfl (head_c _)) ?_
  refine al_d rfl rfl rfl (by exact opd_assign rfl rfl) ?_
  refine al_nil ?_
  refine awp_seq ?_
  refine awp_seq ?_
  refine awp_bool (t := 30) (n := 12) (X := !gFew m l idx || !few22 [x] 1) ?_ ?_
  · all_goals (refine al_d rfl rfl rfl (by exact (by first | exact opd_loadn_ref rfl Try.isAgg24 Try.sizeOf24 rfl rfl rfl rfl (by simp only [List.drop_succ_cons, List.drop_zero, List.take_succ_cons, List.take_zero, List.take_nil, List.map_cons, List.map_nil, List.set_cons_zero, List.set_cons_succ, List.cons_append, List.nil_append, encTag, encObj, encEdit]; rfl) rfl | exact opd_loadn_pad rfl Try.isAgg24 Try.sizeOf24 rfl (by first | omega | assumption) (by simp only [List.drop_succ_cons, List.drop_zero, List.take_succ_cons, List.take_zero, List.take_nil, List.map_cons, List.map_nil, List.set_cons_zero, List.set_cons_succ, List.cons_append, List.nil_append, encTag, encObj, encEdit]; rfl) rfl)) ?_)
    all_goals (refine al_d rfl rfl rfl (by exact opd_move rfl rfl) ?_)
    all_goals (refine al_d rfl rfl rfl (by exact (by first | exact opd_loadn_ref rfl Try.isAgg28 Try.sizeOf28 rfl rfl rfl rfl (by simp only [List.drop_succ_cons, List.drop_zero, List.take_succ_cons, List.take_zero, List.take_nil, List.map_cons, List.map_nil, List.set_cons_zero, List.set_cons_succ, List.cons_append, List.nil_append, encTag, encObj, encEdit]; rfl) rfl | exact opd_loadn_pad rfl Try.isAgg28 Try.sizeOf28 rfl (by first | omega | assumption) (by simp only [List.drop_succ_cons, List.drop_zero, List.take_succ_cons, List.take_zero, List.take_nil, List.map_cons, List.map_nil, List.set_cons_zero, List.set_cons_succ, List.cons_append, List.nil_append, encTag, encObj, encEdit]; rfl) rfl)) ?_)
    all_goals (refine al_d rfl rfl rfl (by exact opr_call rfl rfl Try.call15 rfl (few_c m l kind idx _ hm.1 hmo (by omega) hle)) ?_)
    all_goals (refine al_d rfl rfl rfl (by exact opd_not rfl rfl) ?_)
    all_goals (refine al_d rfl rfl rfl (by exact opd_move rfl rfl) ?_)
    all_goals (first | refine al_split (t := 25) rfl (fun h25 => ?_) (fun h25 => ?_) | skip)
    all_goals (try contradiction)
    all_goals (first | refine al_off rfl rfl rfl rfl rfl ?_ | refine al_offu rfl rfl rfl rfl ?_ | refine al_ond rfl rfl rfl rfl rfl rfl (by exact (by first | exact opd_loadn_ref rfl Try.isAgg39 Try.sizeOf39 rfl rfl rfl rfl (by simp only [List.drop_succ_cons, List.drop_zero, List.take_succ_cons, List.take_zero, List.take_nil, List.map_cons, List.map_nil, List.set_cons_zero, List.set_cons_succ, List.cons_append, List.nil_append, encTag, encObj, encEdit]; rfl) rfl | exact opd_loadn_pad rfl Try.isAgg39 Try.sizeOf39 rfl (by first | omega | assumption) (by simp only [List.drop_succ_cons, List.drop_zero, List.take_succ_cons, List.take_zero, List.take_nil, List.map_cons, List.map_nil, List.set_cons_zero, List.set_cons_succ, List.cons_append, List.nil_append, encTag, encObj, encEdit]; rfl) rfl)) ?_)
    all_goals (first | refine al_off rfl rfl rfl rfl rfl ?_ | refine al_offu rfl rfl rfl rfl ?_ | refine al_ond rfl rfl rfl rfl rfl rfl (by exact x_buildSlice [encEdit x] rfl so25 rfl rfl rfl rfl rfl (by simp [encEdit])) ?_)
    all_goals (first | refine al_off rfl rfl rfl rfl rfl ?_ | refine al_offu rfl rfl rfl rfl ?_ | refine al_ond rfl rfl rfl rfl rfl rfl (by exact opr_call rfl rfl Try.call18 rfl (few22_c [x] 1 _ (by simp) (fun e he => by rw [List.mem_singleton.1 he]; exact hxe))) ?_)
    all_goals (first | refine al_off rfl rfl rfl rfl rfl ?_ | refine al_offu rfl rfl rfl rfl ?_ | refine al_ond rfl rfl rfl rfl rfl rfl (by exact opd_not rfl rfl) ?_)
    all_goals (refine al_d rfl rfl rfl (by exact (by first | exact opd_pick_t rfl rfl rfl | exact opd_pick_f rfl rfl rfl | exact opd_pickt rfl rfl (by assumption) rfl | exact opd_pickf rfl rfl (by assumption) rfl | exact opd_pick rfl rfl rfl)) ?_)
    all_goals (refine al_nil ?_)
    all_goals (exact ⟨⟨_, rfl, by first | rfl | (simp only [*, Bool.false_and, Bool.true_and, Bool.and_false, Bool.and_true, Bool.true_or, Bool.false_or, Bool.or_true, Bool.or_false, Bool.not_true, Bool.not_false]; done) | (simp_all; done) | (simp_all; omega)⟩, rfl, rfl, rfl⟩)
  refine awp_cond rfl (fun hc1 => ?_) (fun hc1 => ?_)
  -- cond 1
  · skip
    refine awp_seq ?_
    refine awp_region ?_
    refine al_d rfl rfl rfl (by exact opd_move rfl rfl) ?_
    refine al_d rfl rfl rfl (by exact opd_assign rfl rfl) ?_
    refine al_nil ?_
    refine awp_ret ?_
    -- return
    refine aret1 (H' := []) (by first | exact .inr rfl | exact .inl rfl) rfl (rval_tmp rfl) (Fin.wk (by simp) trivial trivial) ?_
    exact ⟨rfl, rfl⟩
  · skip
    refine awp_skip ?_
    refine awp_seq ?_
    refine awp_region ?_
    refine al_d rfl rfl rfl (by exact (by first | exact opd_loadn_ref rfl Try.isAgg24 Try.sizeOf24 rfl rfl rfl rfl (by simp only [List.drop_succ_cons, List.drop_zero, List.take_succ_cons, List.take_zero, List.take_nil, List.map_cons, List.map_nil, List.set_cons_zero, List.set_cons_succ, List.cons_append, List.nil_append, encTag, encObj, encEdit]; rfl) rfl | exact opd_loadn_pad rfl Try.isAgg24 Try.sizeOf24 rfl (by first | omega | assumption) (by simp only [List.drop_succ_cons, List.drop_zero, List.take_succ_cons, List.take_zero, List.take_nil, List.map_cons, List.map_nil, List.set_cons_zero, List.set_cons_succ, List.cons_append, List.nil_append, encTag, encObj, encEdit]; rfl) rfl)) ?_
    refine al_d rfl rfl rfl (by exact opd_move rfl rfl) ?_
    refine al_d rfl rfl rfl (by exact (by first | exact opd_loadn_ref rfl Try.isAgg28 Try.sizeOf28 rfl rfl rfl rfl (by simp only [List.drop_succ_cons, List.drop_zero, List.take_succ_cons, List.take_zero, List.take_nil, List.map_cons, List.map_nil, List.set_cons_zero, List.set_cons_succ, List.cons_append, List.nil_append, encTag, encObj, encEdit]; rfl) rfl | exact opd_loadn_pad rfl Try.isAgg28 Try.sizeOf28 rfl (by first | omega | assumption) (by simp only [List.drop_succ_cons, List.drop_zero, List.take_succ_cons, List.take_zero, List.take_nil, List.map_cons, List.map_nil, List.set_cons_zero, List.set_cons_succ, List.cons_append, List.nil_append, encTag, encObj, encEdit]; rfl) rfl)) ?_
    refine al_d rfl rfl rfl (by exact opr_call rfl rfl Try.call16 rfl (accept_c m l kind idx _ hm hl (by omega))) ?_
    refine al_d rfl rfl rfl (by exact opd_assign rfl rfl) ?_
    refine al_nil ?_
    refine awp_seq ?_
    refine awp_region ?_
    refine al_d rfl rfl rfl (by exact opd_move rfl rfl) ?_
    refine al_d rfl rfl rfl (by exact (by first | exact opd_loadn_ref rfl Try.isAgg28 Try.sizeOf28 rfl rfl rfl rfl (by simp only [List.drop_succ_cons, List.drop_zero, List.take_succ_cons, List.take_zero, List.take_nil, List.map_cons, List.map_nil, List.set_cons_zero, List.set_cons_succ, List.cons_append, List.nil_append, encTag, encObj, encEdit]; rfl) rfl | exact opd_loadn_pad rfl Try.isAgg28 Try.sizeOf28 rfl (by first | omega | assumption) (by simp only [List.drop_succ_cons, List.drop_zero, List.take_succ_cons, List.take_zero, List.take_nil, List.map_cons, List.map_nil, List.set_cons_zero, List.set_cons_succ, List.cons_append, List.nil_append, encTag, encObj, encEdit]; rfl) rfl)) ?_
    refine al_d rfl rfl rfl (by exact opr_call rfl rfl Try.call19 rfl (names_c l kind idx _ (by omega) (by omega))) ?_
    refine al_d rfl rfl rfl (by exact opd_assign rfl rfl) ?_
    refine al_nil ?_
    refine awp_seq ?_
    refine awp_region ?_
    refine al_d rfl rfl rfl (by exact x_alloc (id := 12) rfl zoN24 rfl rfl) ?_
    refine al_nil ?_
    refine awp_seq ?_
    refine awp_seq ?_
    refine awp_region ?_
    refine al_d rfl rfl rfl (by exact opd_assign rfl rfl) ?_
    refine al_nil ?_
    refine awp_block ?_
    -- loop
    obtain ⟨q, hq⟩ : ∃ q : GObj → Bool, q = fun o => (gNames l idx).any (strIs o.id) := ⟨_, rfl⟩
    refine awp_loop2 (fun (i : Nat) (g : Nat) => ([(1, .pv (slEdits l)), (4, .ref 4 0 0 0), (6, .ref 6 0 0 0), (7, .ref 7 0 0 0), (9, bv true), (10, bv (gAccept m l kind idx)), (11, .pv (slStrs (gNames l idx))), (12, .ref 12 0 0 0), (13, iv (i : Int))],
        [(900, ⟨g, 6, 37, obRows ((m.take i).filter q)⟩), (12, bx 1 24 [.osl 900 g 0 ((m.take i).filter q).length]), (7, bx 15 39 ((encEdit x).map .pv)), (6, bx 2 28 [iv kind, .pv (slInts idx)]), (4, bx 1 24 [.pv (slObjs m)])])) (fun i g => i ≤ m.length) (fun i g => m.length - i) 0 0 (by omega) ?_ ?_
    · exact (Ent.nz 900 6 37 rfl rfl ⟨⟨_, rfl, (by first | exact Nz.own | exact Nz.weak | exact Nz.same (by first | (simp; done) | (simp; rfl) | exact clo_map _ _ _))⟩, ⟨_, rfl, (by first | exact Nz.own | exact Nz.weak | exact Nz.same (by first | (simp; done) | (simp; rfl) | exact clo_map _ _ _))⟩, ⟨_, rfl, (by first | exact Nz.own | exact Nz.weak | exact Nz.same (by first | (simp; done) | (simp; rfl) | exact clo_map _ _ _))⟩, ⟨_, rfl, (by first | exact Nz.own | exact Nz.weak | exact Nz.same (by first | (simp; done) | (simp; rfl) | exact clo_map _ _ _))⟩, ⟨_, rfl, (by first | exact Nz.own | exact Nz.weak | exact Nz.same (by first | (simp; done) | (simp; rfl) | exact clo_map _ _ _))⟩, ⟨_, rfl, (by first | exact Nz.own | exact Nz.weak | exact Nz.same (by first | (simp; done) | (simp; rfl) | exact clo_map _ _ _))⟩, ⟨_, rfl, (by first | exact Nz.own | exact Nz.weak | exact Nz.same (by first | (simp; done) | (simp; rfl) | exact clo_map _ _ _))⟩, ⟨_, rfl, (by first | exact Nz.own | exact Nz.weak | exact Nz.same (by first | (simp; done) | (simp; rfl) | exact clo_map _ _ _))⟩, ⟨_, rfl, (by first | exact Nz.own | exact Nz.weak | exact Nz.same (by first | (simp; done) | (simp; rfl) | exact clo_map _ _ _))⟩, trivial⟩ ⟨⟨_, rfl, rfl, rfl, rfl, (by first | exact .inl ⟨rfl, (by first | (simp; done) | (simp; rfl) | exact clo_map _ _ _)⟩ | exact .inr ⟨_, _, rfl, rfl, (by repeat (first | exact trivial | refine ⟨(by first | exact Nz.own | exact Nz.weak | exact Nz.same (by first | (simp; done) | (simp; rfl) | exact clo_map _ _ _)), ?_⟩))⟩)⟩, ⟨_, rfl, rfl, rfl, rfl, (by first | exact .inl ⟨rfl, (by first | (simp; done) | (simp; rfl) | exact clo_map _ _ _)⟩ | exact .inr ⟨_, _, rfl, rfl, (by repeat (first | exact trivial | refine ⟨(by first | exact Nz.own | exact Nz.weak | exact Nz.same (by first | (simp; done) | (simp; rfl) | exact clo_map _ _ _)), ?_⟩))⟩)⟩, ⟨_, rfl, rfl, rfl, rfl, (by first | exact .inl ⟨rfl, (by first | (simp; done) | (simp; rfl) | exact clo_map _ _ _)⟩ | exact .inr ⟨_, _, rfl, rfl, (by repeat (first | exact trivial | refine ⟨(by first | exact Nz.own | exact Nz.weak | exact Nz.same (by first | (simp; done) | (simp; rfl) | exact clo_map _ _ _)), ?_⟩))⟩)⟩, ⟨_, rfl, rfl, rfl, rfl, (by first | exact .inl ⟨rfl, (by first | (simp; done) | (simp; rfl) | exact clo_map _ _ _)⟩ | exact .inr ⟨_, _, rfl, rfl, (by repeat (first | exact trivial | refine ⟨(by first | exact Nz.own | exact Nz.weak | exact Nz.same (by first | (simp; done) | (simp; rfl) | exact clo_map _ _ _)), ?_⟩))⟩)⟩, trivial⟩ trivial)
    · rintro i g hi
      refine awp_seq ?_
      refine awp_seq ?_
      refine awp_region ?_
      refine al_d rfl rfl rfl (by exact opd_move rfl rfl) ?_
      refine al_d rfl rfl rfl (by exact (by first | exact opd_field_ref rfl fo24_0 rfl rfl rfl rfl | exact opd_field_pad rfl fo24_0 rfl rfl)) ?_
      refine al_d rfl rfl rfl (by exact (by first | exact opd_load1_ref rfl Try.isAgg22 rfl rfl rfl rfl rfl | exact opd_load1_pad rfl Try.isAgg22 rfl (by first | omega | assumption) rfl)) ?_
      refine al_d rfl rfl rfl (by exact (by first | exact opd_len_sl rfl Try.underlying22 rfl | exact opd_len_osl rfl Try.underlying22 rfl rfl rfl)) ?_
      refine al_d rfl rfl rfl (by exact opd_lss rfl rfl rfl) ?_
      refine al_nil ?_
      refine awp_cond rfl (fun hc2 => ?_) (fun hc2 => ?_)
      -- cond 2
      · have hlt : i < m.length := by have := of_decide_eq_true hc2; omega
        obtain ⟨o, ho⟩ := get_of_lt hlt
        have hoe := map_get (f := encObj) ho
        have hin : ∀ H, ACalls Try.prog 20 [.pv (slStrs (gNames l idx)), sv o.id] H (fun r H' => r = bv (q o) ∧ H' = H) := fun H => by
          rw [hq]; exact in_c (gNames l idx) o.id H (by omega)
        have hft := filter_take q ho
        have hfl : ((m.take i).filter q).length ≤ i := Nat.le_trans (List.length_filter_le _ _) (by simp; omega)
        refine awp_skip ?_
        refine awp_seq ?_
        refine awp_block ?_
        refine awp_seq ?_
        refine awp_region ?_
        refine al_d rfl rfl rfl (by exact opd_move rfl rfl) ?_
        refine al_d rfl rfl rfl (by exact (by first | exact opd_field_ref rfl fo24_0 rfl rfl rfl rfl | exact opd_field_pad rfl fo24_0 rfl rfl)) ?_
        refine al_d rfl rfl rfl (by exact (by first | exact opd_load1_ref rfl Try.isAgg22 rfl rfl rfl rfl rfl | exact opd_load1_pad rfl Try.isAgg22 rfl (by first | omega | assumption) rfl)) ?_
        refine al_d rfl rfl rfl (by exact opd_move rfl rfl) ?_
        refine al_d rfl rfl rfl (by exact (by first | exact x_index_pad rfl so22 rfl rfl (by omega) (by first | exact Int.toNat_natCast _ | rfl) (by assumption) rfl | exact x_index_osl rfl so22 rfl rfl rfl rfl rfl (by omega) (by first | exact Int.toNat_natCast _ | rfl) (by first | omega | assumption) rfl)) ?_
        refine al_d rfl rfl rfl (by exact (by first | exact opd_field_ref rfl fo37_0 rfl rfl rfl rfl | exact opd_field_pad rfl fo37_0 rfl rfl)) ?_
        refine al_d rfl rfl rfl (by exact (by first | exact opd_load1_ref rfl Try.isAgg9 rfl rfl rfl rfl rfl | exact opd_load1_pad rfl Try.isAgg9 rfl (by first | omega | assumption) rfl)) ?_
        refine al_d rfl rfl rfl (by exact opr_call rfl rfl Try.call20 rfl (hin _)) ?_
        refine al_nil ?_
        refine awp_cond rfl (fun hc3 => ?_) (fun hc3 => ?_)
        -- cond 3
        · rw [hc3, if_pos rfl] at hft
          refine awp_drawc follows ?_
          refine dc_cons (r := ⟨_, some [12], []⟩) (DStep.plain rfl (fun H1 hH => by exact (by first | exact opd_field_ref rfl fo24_0 rfl ((hH _ rfl).trans rfl) rfl rfl | exact opd_field_pad rfl fo24_0 rfl rfl))) rfl ?_
          refine dc_cons (r := ⟨_, some [12], []⟩) (DStep.plain rfl (fun H1 hH => by exact (by first | exact opd_load1_ref rfl Try.isAgg22 rfl ((hH _ rfl).trans rfl) rfl rfl rfl | exact opd_load1_pad rfl Try.isAgg22 rfl (by first | omega | assumption) rfl))) rfl ?_
          refine dc_cons (r := ⟨_, some [4], []⟩) (DStep.plain rfl (fun H1 hH => by exact (by first | exact opd_field_ref rfl fo24_0 rfl ((hH _ rfl).trans rfl) rfl rfl | exact opd_field_pad rfl fo24_0 rfl rfl))) rfl ?_
          refine dc_cons (r := ⟨_, some [4], []⟩) (DStep.plain rfl (fun H1 hH => by exact (by first | exact opd_load1_ref rfl Try.isAgg22 rfl ((hH _ rfl).trans rfl) rfl rfl rfl | exact opd_load1_pad rfl Try.isAgg22 rfl (by first | omega | assumption) rfl))) rfl ?_
          refine dc_cons (r := ⟨_, some [], []⟩) (DStep.plain rfl (fun H1 hH => by exact opd_move rfl rfl)) rfl ?_
          refine dc_cons (r := ⟨_, some [], []⟩) (DStep.plain rfl (fun H1 hH => by exact (by first | exact x_index_pad rfl so22 rfl rfl (by omega) (by first | exact Int.toNat_natCast _ | rfl) (by assumption) rfl | exact x_index_osl rfl so22 rfl ((hH _ rfl).trans rfl) rfl rfl rfl (by omega) (by first | exact Int.toNat_natCast _ | rfl) (by first | omega | assumption) rfl))) rfl ?_
          refine dc_cons (r := ⟨_, some [], []⟩) (DStep.plain rfl (fun H1 hH => by exact (by first | exact opd_loadn_ref rfl Try.isAgg37 Try.sizeOf37 rfl ((hH _ rfl).trans rfl) rfl rfl (by simp only [List.drop_succ_cons, List.drop_zero, List.take_succ_cons, List.take_zero, List.take_nil, List.map_cons, List.map_nil, List.set_cons_zero, List.set_cons_succ, List.cons_append, List.nil_append, encObj]; rfl) rfl | exact opd_loadn_pad rfl Try.isAgg37 Try.sizeOf37 rfl (by first | omega | assumption) (by simp only [List.drop_succ_cons, List.drop_zero, List.take_succ_cons, List.take_zero, List.take_nil, List.map_cons, List.map_nil, List.set_cons_zero, List.set_cons_succ, List.cons_append, List.nil_append, encObj]; rfl) rfl))) rfl ?_
          refine dc_cons (r := ⟨_, some [], []⟩) (DStep.plain rfl (fun H1 hH => by exact x_buildSlice [encObj o] rfl so22 rfl rfl rfl rfl rfl (by simp [encObj]))) rfl ?_
          refine dc_cons (r := ⟨_, some [900], [_]⟩) (DStep.plain rfl (fun H1 hH => by exact (by first | exact x_append rfl so22 ei37 rfl ((hH _ rfl).trans rfl) rfl rfl rfl (List.length_map _) rfl (by simp [encObj]) (rfl : _ = 1) (by omega) (len_snoc _ o) (List.map_append (l₂ := [o])).symm | exact x_append_osl rfl so22 ei37 rfl ((hH _ rfl).trans rfl) rfl rfl rfl (List.length_map _) rfl ((hH _ rfl).trans rfl) rfl rfl (by simp [encObj]) (rfl : _ = 1) (by omega) (len_snoc _ o) (List.map_append (l₂ := [o])).symm))) rfl ?_
          refine dc_cons (r := ⟨_, some [12], []⟩) (DStep.plain rfl (fun H1 hH => by exact (by first | exact opd_field_ref rfl fo24_0 rfl ((hH _ rfl).trans rfl) rfl rfl | exact opd_field_pad rfl fo24_0 rfl rfl))) rfl ?_
          refine dc_cons (r := ⟨_, some [12], [_]⟩) (DStep.plain rfl (fun H1 hH => by exact (by first | exact x_store_all rfl Try.sizeOf22 rfl rfl rfl rfl ((hH _ rfl).trans rfl) rfl rfl rfl | exact x_store1 rfl Try.sizeOf22 rfl rfl rfl ((hH _ rfl).trans rfl) rfl rfl (by simp only [List.length_cons, List.length_nil]; omega) (by simp only [List.drop_succ_cons, List.drop_zero, List.take_succ_cons, List.take_zero, List.take_nil, List.map_cons, List.map_nil, List.set_cons_zero, List.set_cons_succ, List.cons_append, List.nil_append, encTag, encObj, encEdit]; rfl) (by simp only [List.drop_succ_cons, List.drop_zero, List.take_succ_cons, List.take_zero, List.take_nil, List.map_cons, List.map_nil, List.set_cons_zero, List.set_cons_succ, List.cons_append, List.nil_append, encTag, encObj, encEdit]; rfl)))) rfl ?_
          refine dc_nil ⟨by kernel_rfl, ?_⟩
          refine awp_region ?_
          refine al_d rfl rfl rfl (by exact opd_move rfl rfl) ?_
          refine al_d rfl rfl rfl (by exact opd_add rfl rfl rfl (by first | exact w64 (by omega) (by omega) | exact wu8 (by omega) (by omega) | rfl)) ?_
          refine al_d rfl rfl rfl (by exact opd_assign rfl rfl) ?_
          refine al_nil ?_
          -- end of a round
          refine ⟨i + 1, g + 1, by omega, by omega, ?_⟩
          rw [hft]
          exact (Ent.wk ⟨⟨_, rfl, rfl⟩, (by first | (simp; done) | (simp; rfl) | exact clo_map _ _ _), ⟨_, rfl, rfl⟩, (by first | (simp; done) | (simp; rfl) | exact clo_map _ _ _), ⟨_, rfl, rfl⟩, (by first | (simp; done) | (simp; rfl) | exact clo_map _ _ _), ⟨_, rfl, rfl⟩, (by first | (simp; done) | (simp; rfl) | exact clo_map _ _ _), ⟨_, rfl, rfl⟩, (by first | (simp; done) | (simp; rfl) | exact clo_map _ _ _), ⟨_, rfl, rfl⟩, (by first | (simp; done) | (simp; rfl) | exact clo_map _ _ _), ⟨_, rfl, rfl⟩, (by first | (simp; done) | (simp; rfl) | exact clo_map _ _ _), ⟨_, rfl, rfl⟩, (by first | (simp; done) | (simp; rfl) | exact clo_map _ _ _), ⟨_, rfl, rfl⟩, (by first | (simp; done) | (simp; rfl) | exact clo_map _ _ _), trivial⟩ ⟨⟨_, rfl, rfl⟩, (by first | (simp; done) | (simp; rfl) | exact clo_map _ _ _), ⟨_, rfl, rfl⟩, (by first | (simp; done) | (simp; rfl) | exact clo_map _ _ _), ⟨_, rfl, rfl⟩, (by first | (simp; done) | (simp; rfl) | exact clo_map _ _ _), ⟨_, rfl, rfl⟩, (by first | (simp; done) | (simp; rfl) | exact clo_map _ _ _), ⟨_, rfl, rfl⟩, (by first | (simp; done) | (simp; rfl) | exact clo_map _ _ _), trivial⟩ trivial)
        · rw [hc3, if_neg (by simp), List.append_nil] at hft
          refine awp_skip ?_
          refine awp_region ?_
          refine al_d rfl rfl rfl (by exact opd_move rfl rfl) ?_
          refine al_d rfl rfl rfl (by exact opd_add rfl rfl rfl (by first | exact w64 (by omega) (by omega) | exact wu8 (by omega) (by omega) | rfl)) ?_
          refine al_d rfl rfl rfl (by exact opd_assign rfl rfl) ?_
          refine al_nil ?_
          -- end of a round
          refine ⟨i + 1, g, by omega, by omega, ?_⟩
          rw [hft]
          exact (Ent.wk ⟨⟨_, rfl, rfl⟩, (by first | (simp; done) | (simp; rfl) | exact clo_map _ _ _), ⟨_, rfl, rfl⟩, (by first | (simp; done) | (simp; rfl) | exact clo_map _ _ _), ⟨_, rfl, rfl⟩, (by first | (simp; done) | (simp; rfl) | exact clo_map _ _ _), ⟨_, rfl, rfl⟩, (by first | (simp; done) | (simp; rfl) | exact clo_map _ _ _), ⟨_, rfl, rfl⟩, (by first | (simp; done) | (simp; rfl) | exact clo_map _ _ _), ⟨_, rfl, rfl⟩, (by first | (simp; done) | (simp; rfl) | exact clo_map _ _ _), ⟨_, rfl, rfl⟩, (by first | (simp; done) | (simp; rfl) | exact clo_map _ _ _), ⟨_, rfl, rfl⟩, (by first | (simp; done) | (simp; rfl) | exact clo_map _ _ _), ⟨_, rfl, rfl⟩, (by first | (simp; done) | (simp; rfl) | exact clo_map _ _ _), trivial⟩ ⟨⟨_, rfl, rfl⟩, (by first | (simp; done) | (simp; rfl) | exact clo_map _ _ _), ⟨_, rfl, rfl⟩, (by first | (simp; done) | (simp; rfl) | exact clo_map _ _ _), ⟨_, rfl, rfl⟩, (by first | (simp; done) | (simp; rfl) | exact clo_map _ _ _), ⟨_, rfl, rfl⟩, (by first | (simp; done) | (simp; rfl) | exact clo_map _ _ _), ⟨_, rfl, rfl⟩, (by first | (simp; done) | (simp; rfl) | exact clo_map _ _ _), trivial⟩ trivial)
      · have hge : i = m.length := by have : ¬ _ := of_decide_eq_false hc2; omega
        subst hge
        rw [List.take_length]
        have hokf : okMap (m.filter q) := ⟨by have := List.length_filter_le q m; omega, fun o ho => hm.2 o (List.mem_filter.1 ho).1⟩
        have hacf : gAccept (m.filter q) l kind idx = gAccept m l kind idx := acc_filter (fun o ho => by rw [hq]; exact ho)
        refine awp_exit ?_
        refine awp_seq ?_
        refine awp_seq ?_
        refine awp_region ?_
        refine al_d rfl rfl rfl (by exact (by first | exact opd_loadn_ref rfl Try.isAgg24 Try.sizeOf24 rfl rfl rfl rfl (by simp only [List.drop_succ_cons, List.drop_zero, List.take_succ_cons, List.take_zero, List.take_nil, List.map_cons, List.map_nil, List.set_cons_zero, List.set_cons_succ, List.cons_append, List.nil_append, encTag, encObj, encEdit]; rfl) rfl | exact opd_loadn_pad rfl Try.isAgg24 Try.sizeOf24 rfl (by first | omega | assumption) (by simp only [List.drop_succ_cons, List.drop_zero, List.take_succ_cons, List.take_zero, List.take_nil, List.map_cons, List.map_nil, List.set_cons_zero, List.set_cons_succ, List.cons_append, List.nil_append, encTag, encObj, encEdit]; rfl) rfl)) ?_
        refine al_d rfl rfl rfl (by exact opd_move rfl rfl) ?_
        refine al_d rfl rfl rfl (by exact (by first | exact opd_loadn_ref rfl Try.isAgg28 Try.sizeOf28 rfl rfl rfl rfl (by simp only [List.drop_succ_cons, List.drop_zero, List.take_succ_cons, List.take_zero, List.take_nil, List.map_cons, List.map_nil, List.set_cons_zero, List.set_cons_succ, List.cons_append, List.nil_append, encTag, encObj, encEdit]; rfl) rfl | exact opd_loadn_pad rfl Try.isAgg28 Try.sizeOf28 rfl (by first | omega | assumption) (by simp only [List.drop_succ_cons, List.drop_zero, List.take_succ_cons, List.take_zero, List.take_nil, List.map_cons, List.map_nil, List.set_cons_zero, List.set_cons_succ, List.cons_append, List.nil_append, encTag, encObj, encEdit]; rfl) rfl)) ?_
        refine al_d rfl rfl rfl (by exact opr_call rfl rfl Try.call16 rfl (lentMap_c (m.filter q) l kind idx (gAccept m l kind idx) _ 900 _ _ _ (by rfl) (by rfl) (by exact rows_of encObj _) (by rfl) hokf hl (by omega) hacf)) ?_
        refine al_d rfl rfl rfl (by exact opd_move rfl rfl) ?_
        refine al_d rfl rfl rfl (by exact opd_bneq rfl Try.underlying4 rfl rfl) ?_
        refine al_nil ?_
        refine awp_cond rfl (fun hc4 => ?_) (fun hc4 => ?_)
        -- cond 4
        · simp at hc4
        · skip
          refine awp_skip ?_
          refine awp_seq ?_
          refine awp_region ?_
          refine al_d rfl rfl rfl (by exact opd_assign rfl rfl) ?_
          refine al_nil ?_
          refine awp_seq ?_
          refine awp_seq ?_
          refine awp_region ?_
          refine al_d rfl rfl rfl (by exact opd_assign rfl rfl) ?_
          refine al_nil ?_
          refine awp_block ?_
          -- loop
          refine awp_loop (σ := Nat) (fun i => ([(1, .pv (slEdits l)), (4, .ref 4 0 0 0), (6, .ref 6 0 0 0), (7, .ref 7 0 0 0), (9, bv true), (10, bv (gAccept m l kind idx)), (14, bv ((l.take i).all gHarm)), (15, iv (i : Int))],
              [(7, bx 15 39 ((encEdit x).map .pv)), (6, bx 2 28 [iv kind, .pv (slInts idx)]), (4, bx 1 24 [.pv (slObjs m)])])) (fun i => i ≤ l.length) (fun i => l.length - i) 0 (by omega) ?_ ?_
          · exact (Ent.wk ⟨⟨_, rfl, rfl⟩, (by first | (simp; done) | (simp; rfl) | exact clo_map _ _ _), ⟨_, rfl, rfl⟩, (by first | (simp; done) | (simp; rfl) | exact clo_map _ _ _), ⟨_, rfl, rfl⟩, (by first | (simp; done) | (simp; rfl) | exact clo_map _ _ _), ⟨_, rfl, rfl⟩, (by first | (simp; done) | (simp; rfl) | exact clo_map _ _ _), ⟨_, rfl, rfl⟩, (by first | (simp; done) | (simp; rfl) | exact clo_map _ _ _), ⟨_, rfl, rfl⟩, (by first | (simp; done) | (simp; rfl) | exact clo_map _ _ _), ⟨_, rfl, rfl⟩, (by first | (simp; done) | (simp; rfl) | exact clo_map _ _ _), ⟨_, rfl, rfl⟩, (by first | (simp; done) | (simp; rfl) | exact clo_map _ _ _), trivial⟩ ⟨⟨_, rfl, rfl⟩, (by first | (simp; done) | (simp; rfl) | exact clo_map _ _ _), ⟨_, rfl, rfl⟩, (by first | (simp; done) | (simp; rfl) | exact clo_map _ _ _), ⟨_, rfl, rfl⟩, (by first | (simp; done) | (simp; rfl) | exact clo_map _ _ _), trivial⟩ trivial)
          · rintro i hi
            refine awp_seq ?_
            refine awp_seq ?_
            refine awp_region ?_
            refine al_d rfl rfl rfl (by exact opd_move rfl rfl) ?_
            refine al_d rfl rfl rfl (by exact opd_move rfl rfl) ?_
            refine al_d rfl rfl rfl (by exact (by first | exact opd_len_sl rfl Try.underlying25 rfl | exact opd_len_osl rfl Try.underlying25 rfl rfl rfl)) ?_
            refine al_d rfl rfl rfl (by exact opd_lss rfl rfl rfl) ?_
            refine al_nil ?_
            refine awp_cond rfl (fun hc5 => ?_) (fun hc5 => ?_)
            -- cond 5
            · have hlt : i < l.length := by have := of_decide_eq_true hc5; omega
              obtain ⟨y, hy⟩ := get_of_lt hlt
              have hye := map_get (f := encEdit) hy
              have hal := all_take gHarm hy
              refine awp_skip ?_
              refine awp_seq ?_
              refine awp_block ?_
              refine awp_bool (t := 14) (n := 38) (X := gHarm y && (l.take i).all gHarm) ?_ ?_
              · all_goals (refine al_d rfl rfl rfl (by exact opd_move rfl rfl) ?_)
                all_goals (refine al_d rfl rfl rfl (by exact opd_move rfl rfl) ?_)
                all_goals (first | refine al_split (t := 77) rfl (fun h77 => ?_) (fun h77 => ?_) | skip)
                all_goals (try contradiction)
                all_goals (first | refine al_off rfl rfl rfl rfl rfl ?_ | refine al_offu rfl rfl rfl rfl ?_ | refine al_ond rfl rfl rfl rfl rfl rfl (by exact opd_move rfl rfl) ?_)
                all_goals (first | refine al_off rfl rfl rfl rfl rfl ?_ | refine al_offu rfl rfl rfl rfl ?_ | refine al_ond rfl rfl rfl rfl rfl rfl (by exact opd_move rfl rfl) ?_)
                all_goals (first | refine al_off rfl rfl rfl rfl rfl ?_ | refine al_offu rfl rfl rfl rfl ?_ | refine al_ond rfl rfl rfl rfl rfl rfl (by exact (by first | exact x_index_pad rfl so25 rfl rfl (by omega) (by first | exact Int.toNat_natCast _ | rfl) (by assumption) rfl | exact x_index_osl rfl so25 rfl rfl rfl rfl rfl (by omega) (by first | exact Int.toNat_natCast _ | rfl) (by first | omega | assumption) rfl)) ?_)
                all_goals (first | refine al_off rfl rfl rfl rfl rfl ?_ | refine al_offu rfl rfl rfl rfl ?_ | refine al_ond rfl rfl rfl rfl rfl rfl (by exact (by first | exact opd_field_ref rfl fo39_0 rfl rfl rfl rfl | exact opd_field_pad rfl fo39_0 rfl rfl)) ?_)
                all_goals (first | refine al_off rfl rfl rfl rfl rfl ?_ | refine al_offu rfl rfl rfl rfl ?_ | refine al_ond rfl rfl rfl rfl rfl rfl (by exact (by first | exact opd_load1_ref rfl Try.isAgg3 rfl rfl rfl rfl rfl | exact opd_load1_pad rfl Try.isAgg3 rfl (by first | omega | assumption) rfl)) ?_)
                all_goals (first | refine al_off rfl rfl rfl rfl rfl ?_ | refine al_offu rfl rfl rfl rfl ?_ | refine al_ond rfl rfl rfl rfl rfl rfl (by exact opd_neq rfl rfl rfl) ?_)
                all_goals (refine al_d rfl rfl rfl (by exact (by first | exact opd_pick_t rfl rfl rfl | exact opd_pick_f rfl rfl rfl | exact opd_pickt rfl rfl (by assumption) rfl | exact opd_pickf rfl rfl (by assumption) rfl | exact opd_pick rfl rfl rfl)) ?_)
                all_goals (refine al_d rfl rfl rfl (by exact opd_move rfl rfl) ?_)
                all_goals (first | refine al_split (t := 85) rfl (fun h85 => ?_) (fun h85 => ?_) | skip)
                all_goals (try contradiction)
                all_goals (first | refine al_off rfl rfl rfl rfl rfl ?_ | refine al_offu rfl rfl rfl rfl ?_ | refine al_ond rfl rfl rfl rfl rfl rfl (by exact opd_move rfl rfl) ?_)
                all_goals (first | refine al_off rfl rfl rfl rfl rfl ?_ | refine al_offu rfl rfl rfl rfl ?_ | refine al_ond rfl rfl rfl rfl rfl rfl (by exact opd_move rfl rfl) ?_)
                all_goals (first | refine al_off rfl rfl rfl rfl rfl ?_ | refine al_offu rfl rfl rfl rfl ?_ | refine al_ond rfl rfl rfl rfl rfl rfl (by exact (by first | exact x_index_pad rfl so25 rfl rfl (by omega) (by first | exact Int.toNat_natCast _ | rfl) (by assumption) rfl | exact x_index_osl rfl so25 rfl rfl rfl rfl rfl (by omega) (by first | exact Int.toNat_natCast _ | rfl) (by first | omega | assumption) rfl)) ?_)
                all_goals (first | refine al_off rfl rfl rfl rfl rfl ?_ | refine al_offu rfl rfl rfl rfl ?_ | refine al_ond rfl rfl rfl rfl rfl rfl (by exact (by first | exact opd_field_ref rfl fo39_0 rfl rfl rfl rfl | exact opd_field_pad rfl fo39_0 rfl rfl)) ?_)
                all_goals (first | refine al_off rfl rfl rfl rfl rfl ?_ | refine al_offu rfl rfl rfl rfl ?_ | refine al_ond rfl rfl rfl rfl rfl rfl (by exact (by first | exact opd_load1_ref rfl Try.isAgg3 rfl rfl rfl rfl rfl | exact opd_load1_pad rfl Try.isAgg3 rfl (by first | omega | assumption) rfl)) ?_)
                all_goals (first | refine al_off rfl rfl rfl rfl rfl ?_ | refine al_offu rfl rfl rfl rfl ?_ | refine al_ond rfl rfl rfl rfl rfl rfl (by exact opd_neq rfl rfl rfl) ?_)
                all_goals (refine al_d rfl rfl rfl (by exact (by first | exact opd_pick_t rfl rfl rfl | exact opd_pick_f rfl rfl rfl | exact opd_pickt rfl rfl (by assumption) rfl | exact opd_pickf rfl rfl (by assumption) rfl | exact opd_pick rfl rfl rfl)) ?_)
                all_goals (refine al_d rfl rfl rfl (by exact opd_move rfl rfl) ?_)
                all_goals (first | refine al_split (t := 93) rfl (fun h93 => ?_) (fun h93 => ?_) | skip)
                all_goals (try contradiction)
                all_goals (first | refine al_off rfl rfl rfl rfl rfl ?_ | refine al_offu rfl rfl rfl rfl ?_ | refine al_ond rfl rfl rfl rfl rfl rfl (by exact opd_move rfl rfl) ?_)
                all_goals (first | refine al_off rfl rfl rfl rfl rfl ?_ | refine al_offu rfl rfl rfl rfl ?_ | refine al_ond rfl rfl rfl rfl rfl rfl (by exact opd_move rfl rfl) ?_)
                all_goals (first | refine al_off rfl rfl rfl rfl rfl ?_ | refine al_offu rfl rfl rfl rfl ?_ | refine al_ond rfl rfl rfl rfl rfl rfl (by exact (by first | exact x_index_pad rfl so25 rfl rfl (by omega) (by first | exact Int.toNat_natCast _ | rfl) (by assumption) rfl | exact x_index_osl rfl so25 rfl rfl rfl rfl rfl (by omega) (by first | exact Int.toNat_natCast _ | rfl) (by first | omega | assumption) rfl)) ?_)
                all_goals (first | refine al_off rfl rfl rfl rfl rfl ?_ | refine al_offu rfl rfl rfl rfl ?_ | refine al_ond rfl rfl rfl rfl rfl rfl (by exact (by first | exact opd_field_ref rfl fo39_0 rfl rfl rfl rfl | exact opd_field_pad rfl fo39_0 rfl rfl)) ?_)
                all_goals (first | refine al_off rfl rfl rfl rfl rfl ?_ | refine al_offu rfl rfl rfl rfl ?_ | refine al_ond rfl rfl rfl rfl rfl rfl (by exact (by first | exact opd_load1_ref rfl Try.isAgg3 rfl rfl rfl rfl rfl | exact opd_load1_pad rfl Try.isAgg3 rfl (by first | omega | assumption) rfl)) ?_)
                all_goals (first | refine al_off rfl rfl rfl rfl rfl ?_ | refine al_offu rfl rfl rfl rfl ?_ | refine al_ond rfl rfl rfl rfl rfl rfl (by exact opd_neq rfl rfl rfl) ?_)
                all_goals (refine al_d rfl rfl rfl (by exact (by first | exact opd_pick_t rfl rfl rfl | exact opd_pick_f rfl rfl rfl | exact opd_pickt rfl rfl (by assumption) rfl | exact opd_pickf rfl rfl (by assumption) rfl | exact opd_pick rfl rfl rfl)) ?_)
                all_goals (refine al_d rfl rfl rfl (by exact opd_move rfl rfl) ?_)
                all_goals (first | refine al_split (t := 101) rfl (fun h101 => ?_) (fun h101 => ?_) | skip)
                all_goals (try contradiction)
                all_goals (first | refine al_off rfl rfl rfl rfl rfl ?_ | refine al_offu rfl rfl rfl rfl ?_ | refine al_ond rfl rfl rfl rfl rfl rfl (by exact opd_move rfl rfl) ?_)
                all_goals (first | refine al_off rfl rfl rfl rfl rfl ?_ | refine al_offu rfl rfl rfl rfl ?_ | refine al_ond rfl rfl rfl rfl rfl rfl (by exact opd_move rfl rfl) ?_)
                all_goals (first | refine al_off rfl rfl rfl rfl rfl ?_ | refine al_offu rfl rfl rfl rfl ?_ | refine al_ond rfl rfl rfl rfl rfl rfl (by exact (by first | exact x_index_pad rfl so25 rfl rfl (by omega) (by first | exact Int.toNat_natCast _ | rfl) (by assumption) rfl | exact x_index_osl rfl so25 rfl rfl rfl rfl rfl (by omega) (by first | exact Int.toNat_natCast _ | rfl) (by first | omega | assumption) rfl)) ?_)
                all_goals (first | refine al_off rfl rfl rfl rfl rfl ?_ | refine al_offu rfl rfl rfl rfl ?_ | refine al_ond rfl rfl rfl rfl rfl rfl (by exact (by first | exact opd_field_ref rfl fo39_0 rfl rfl rfl rfl | exact opd_field_pad rfl fo39_0 rfl rfl)) ?_)
                all_goals (first | refine al_off rfl rfl rfl rfl rfl ?_ | refine al_offu rfl rfl rfl rfl ?_ | refine al_ond rfl rfl rfl rfl rfl rfl (by exact (by first | exact opd_load1_ref rfl Try.isAgg3 rfl rfl rfl rfl rfl | exact opd_load1_pad rfl Try.isAgg3 rfl (by first | omega | assumption) rfl)) ?_)
                all_goals (first | refine al_off rfl rfl rfl rfl rfl ?_ | refine al_offu rfl rfl rfl rfl ?_ | refine al_ond rfl rfl rfl rfl rfl rfl (by exact opd_neq rfl rfl rfl) ?_)
                all_goals (refine al_d rfl rfl rfl (by exact (by first | exact opd_pick_t rfl rfl rfl | exact opd_pick_f rfl rfl rfl | exact opd_pickt rfl rfl (by assumption) rfl | exact opd_pickf rfl rfl (by assumption) rfl | exact opd_pick rfl rfl rfl)) ?_)
                all_goals (refine al_d rfl rfl rfl (by exact opd_assign rfl rfl) ?_)
                all_goals (refine al_nil ?_)
                all_goals (exact ⟨⟨_, rfl, by first | rfl | (simp only [gHarm, *]; rfl) | (simp_all [gHarm]; done) | (simp only [*, Bool.false_and, Bool.true_and, Bool.and_false, Bool.and_true, Bool.true_or, Bool.false_or, Bool.or_true, Bool.or_false, Bool.not_true, Bool.not_false]; done) | (simp_all; omega) | (simp_all [gHarm]; omega)⟩, rfl, rfl, rfl⟩)
              refine awp_region ?_
              refine al_d rfl rfl rfl (by exact opd_move rfl rfl) ?_
              refine al_d rfl rfl rfl (by exact opd_add rfl rfl rfl (by first | exact w64 (by omega) (by omega) | exact wu8 (by omega) (by omega) | rfl)) ?_
              refine al_d rfl rfl rfl (by exact opd_assign rfl rfl) ?_
              refine al_nil ?_
              -- end of a round
              refine ⟨i + 1, by omega, by omega, ?_⟩
              rw [hal]
              exact (Ent.wk ⟨⟨_, rfl, rfl⟩, (by first | (simp; done) | (simp; rfl) | exact clo_map _ _ _), ⟨_, rfl, rfl⟩, (by first | (simp; done) | (simp; rfl) | exact clo_map _ _ _), ⟨_, rfl, rfl⟩, (by first | (simp; done) | (simp; rfl) | exact clo_map _ _ _), ⟨_, rfl, rfl⟩, (by first | (simp; done) | (simp; rfl) | exact clo_map _ _ _), ⟨_, rfl, rfl⟩, (by first | (simp; done) | (simp; rfl) | exact clo_map _ _ _), ⟨_, rfl, rfl⟩, (by first | (simp; done) | (simp; rfl) | exact clo_map _ _ _), ⟨_, rfl, rfl⟩, (by first | (simp; done) | (simp; rfl) | exact clo_map _ _ _), ⟨_, rfl, rfl⟩, (by first | (simp; done) | (simp; rfl) | exact clo_map _ _ _), trivial⟩ ⟨⟨_, rfl, rfl⟩, (by first | (simp; done) | (simp; rfl) | exact clo_map _ _ _), ⟨_, rfl, rfl⟩, (by first | (simp; done) | (simp; rfl) | exact clo_map _ _ _), ⟨_, rfl, rfl⟩, (by first | (simp; done) | (simp; rfl) | exact clo_map _ _ _), trivial⟩ trivial)
            · have hge : i = l.length := by have : ¬ _ := of_decide_eq_false hc5; omega
              subst hge
              rw [List.take_length]
              refine awp_exit ?_
              refine awp_seq ?_
              refine awp_seq ?_
              refine awp_bool (t := 112) (n := 5) (X := l.all gHarm && gAccept m l kind idx) ?_ ?_
              · all_goals (refine al_d rfl rfl rfl (by exact opd_move rfl rfl) ?_)
                all_goals (refine al_d rfl rfl rfl (by exact opd_move rfl rfl) ?_)
                all_goals (first | refine al_split (t := 110) rfl (fun h110 => ?_) (fun h110 => ?_) | skip)
                all_goals (try contradiction)
                all_goals (first | refine al_off rfl rfl rfl rfl rfl ?_ | refine al_offu rfl rfl rfl rfl ?_ | refine al_ond rfl rfl rfl rfl rfl rfl (by exact opd_move rfl rfl) ?_)
                all_goals (refine al_d rfl rfl rfl (by exact (by first | exact opd_pick_t rfl rfl rfl | exact opd_pick_f rfl rfl rfl | exact opd_pickt rfl rfl (by assumption) rfl | exact opd_pickf rfl rfl (by assumption) rfl | exact opd_pick rfl rfl rfl)) ?_)
                all_goals (refine al_nil ?_)
                all_goals (exact ⟨⟨_, rfl, by first | rfl | (simp only [l, *]; rfl) | (simp_all [l]; done) | (simp only [*, Bool.false_and, Bool.true_and, Bool.and_false, Bool.and_true, Bool.true_or, Bool.false_or, Bool.or_true, Bool.or_false, Bool.not_true, Bool.not_false]; done) | (simp_all; omega) | (simp_all [l]; omega)⟩, rfl, rfl, rfl⟩)
              refine awp_cond rfl (fun hc6 => ?_) (fun hc6 => ?_)
              -- cond 6
              · have := acc_harm (m := m) (kind := kind) (idx := idx) (Bool.and_eq_true _ _ ▸ hc6).1
                rw [this] at hc6
                simp at hc6
              · skip
                refine awp_skip ?_
                refine awp_seq ?_
                refine awp_drawc follows ?_
                refine dc_cons (r := ⟨_, some [113], [_]⟩) (DStep.plain rfl (fun H1 hH => by exact x_buildSlice_own (id := 113) rfl so25 rfl rfl rfl rfl (by simp) ((hH _ rfl).trans rfl))) rfl ?_
                refine dc_cons (r := ⟨_, some [], []⟩) (DStep.plain rfl (fun H1 hH => by exact opd_move rfl rfl)) rfl ?_
                refine dc_cons (r := ⟨_, some [113], [_]⟩) (DStep.plain rfl (fun H1 hH => by exact (by first | exact x_append rfl so25 ei39 rfl ((hH _ rfl).trans rfl) rfl rfl rfl rfl rfl (fun r hr => by obtain ⟨e, _, rfl⟩ := List.mem_map.1 hr; rfl) (List.length_map _) (by omega) (Nat.zero_add _) (rows_of encEdit l).symm | exact x_append_osl rfl so25 ei39 rfl ((hH _ rfl).trans rfl) rfl rfl rfl rfl rfl ((hH _ rfl).trans rfl) rfl rfl (fun r hr => by obtain ⟨e, _, rfl⟩ := List.mem_map.1 hr; rfl) (List.length_map _) (by omega) (Nat.zero_add _) (rows_of encEdit l).symm))) rfl ?_
                refine dc_cons (r := ⟨_, some [7], []⟩) (DStep.plain rfl (fun H1 hH => by exact (by first | exact opd_loadn_ref rfl Try.isAgg39 Try.sizeOf39 rfl ((hH _ rfl).trans rfl) rfl rfl (by simp only [List.drop_succ_cons, List.drop_zero, List.take_succ_cons, List.take_zero, List.take_nil, List.map_cons, List.map_nil, List.set_cons_zero, List.set_cons_succ, List.cons_append, List.nil_append, encTag, encObj, encEdit]; rfl) rfl | exact opd_loadn_pad rfl Try.isAgg39 Try.sizeOf39 rfl (by first | omega | assumption) (by simp only [List.drop_succ_cons, List.drop_zero, List.take_succ_cons, List.take_zero, List.take_nil, List.map_cons, List.map_nil, List.set_cons_zero, List.set_cons_succ, List.cons_append, List.nil_append, encTag, encObj, encEdit]; rfl) rfl))) rfl ?_
                refine dc_cons (r := ⟨_, some [], []⟩) (DStep.plain rfl (fun H1 hH => by exact x_buildSlice [encEdit x] rfl so25 rfl rfl rfl rfl rfl (by simp [encEdit]))) rfl ?_
                refine dc_cons (r := ⟨_, some [113], [_]⟩) (DStep.plain rfl (fun H1 hH => by exact (by first | exact x_append rfl so25 ei39 rfl ((hH _ rfl).trans rfl) rfl rfl rfl (List.length_map _) rfl (by simp [encEdit]) (rfl : _ = 1) (by omega) (len_snoc l x) (List.map_append (l₂ := [x])).symm | exact x_append_osl rfl so25 ei39 rfl ((hH _ rfl).trans rfl) rfl rfl rfl (List.length_map _) rfl ((hH _ rfl).trans rfl) rfl rfl (by simp [encEdit]) (rfl : _ = 1) (by omega) (len_snoc l x) (List.map_append (l₂ := [x])).symm))) rfl ?_
                refine dc_cons (r := ⟨_, some [113], []⟩) (DStep.plain rfl (fun H1 hH => by exact opd_assign rfl rfl)) rfl ?_
                refine dc_nil ⟨by kernel_rfl, ?_⟩
                refine awp_seq ?_
                refine awp_region ?_
                refine al_d rfl rfl rfl (by exact opd_assign rfl rfl) ?_
                refine al_nil ?_
                refine awp_seq ?_
                refine awp_seq ?_
                refine awp_region ?_
                refine al_d rfl rfl rfl (by exact opd_assign rfl rfl) ?_
                refine al_nil ?_
                refine awp_block ?_
                -- loop
                refine awp_loop (σ := Nat) (fun i => ([(1, .pv (slEdits l)), (4, .ref 4 0 0 0), (6, .ref 6 0 0 0), (9, bv true), (10, bv (gAccept m l kind idx)), (16, .osl 113 2 0 (l ++ [x]).length), (17, bv ((idx.take i).all (lessL l.length))), (18, iv (i : Int))],
                    [(113, ⟨2, 15, 39, edRows (l ++ [x])⟩), (6, bx 2 28 [iv kind, .pv (slInts idx)]), (4, bx 1 24 [.pv (slObjs m)])])) (fun i => i ≤ idx.length) (fun i => idx.length - i) 0 (by omega) ?_ ?_
                · exact (Ent.wk ⟨⟨_, rfl, rfl⟩, (by first | (simp; done) | (simp; rfl) | exact clo_map _ _ _), ⟨_, rfl, rfl⟩, (by first | (simp; done) | (simp; rfl) | exact clo_map _ _ _), ⟨_, rfl, rfl⟩, (by first | (simp; done) | (simp; rfl) | exact clo_map _ _ _), ⟨_, rfl, rfl⟩, (by first | (simp; done) | (simp; rfl) | exact clo_map _ _ _), ⟨_, rfl, rfl⟩, (by first | (simp; done) | (simp; rfl) | exact clo_map _ _ _), ⟨_, rfl, rfl⟩, (by first | (simp; done) | (simp; rfl) | exact clo_map _ _ _), ⟨_, rfl, rfl⟩, (by first | (simp; done) | (simp; rfl) | exact clo_map _ _ _), ⟨_, rfl, rfl⟩, (by first | (simp; done) | (simp; rfl) | exact clo_map _ _ _), trivial⟩ ⟨⟨_, rfl, rfl⟩, (by first | (simp; done) | (simp; rfl) | exact clo_map _ _ _), ⟨_, rfl, rfl⟩, (by first | (simp; done) | (simp; rfl) | exact clo_map _ _ _), ⟨_, rfl, rfl⟩, (by first | (simp; done) | (simp; rfl) | exact clo_map _ _ _), trivial⟩ trivial)
                · rintro i hi
                  refine awp_seq ?_
                  refine awp_seq ?_
                  refine awp_region ?_
                  refine al_d rfl rfl rfl (by exact opd_move rfl rfl) ?_
                  refine al_d rfl rfl rfl (by exact (by first | exact opd_field_ref rfl fo28_1 rfl rfl rfl rfl | exact opd_field_pad rfl fo28_1 rfl rfl)) ?_
                  refine al_d rfl rfl rfl (by exact (by first | exact opd_load1_ref rfl Try.isAgg26 rfl rfl rfl rfl rfl | exact opd_load1_pad rfl Try.isAgg26 rfl (by first | omega | assumption) rfl)) ?_
                  refine al_d rfl rfl rfl (by exact (by first | exact opd_len_sl rfl Try.underlying26 rfl | exact opd_len_osl rfl Try.underlying26 rfl rfl rfl)) ?_
                  refine al_d rfl rfl rfl (by exact opd_lss rfl rfl rfl) ?_
                  refine al_nil ?_
                  refine awp_cond rfl (fun hc7 => ?_) (fun hc7 => ?_)
                  -- cond 7
                  · have hlt : i < idx.length := by have := of_decide_eq_true hc7; omega
                    obtain ⟨y, hy⟩ := get_of_lt hlt
                    have hye := map_get (f := encInt) hy
                    have hal := all_take (lessL l.length) hy
                    have hys : lessL l.length y = decide (y < ((l.map encEdit).length : Int)) := by rw [hml]; rfl
                    refine awp_skip ?_
                    refine awp_seq ?_
                    refine awp_block ?_
                    refine awp_bool (t := 17) (n := 13) (X := lessL l.length y && (idx.take i).all (lessL l.length)) ?_ ?_
                    · all_goals (refine al_d rfl rfl rfl (by exact opd_move rfl rfl) ?_)
                      all_goals (refine al_d rfl rfl rfl (by exact opd_move rfl rfl) ?_)
                      all_goals (first | refine al_split (t := 127) rfl (fun h127 => ?_) (fun h127 => ?_) | skip)
                      all_goals (try contradiction)
                      all_goals (first | refine al_off rfl rfl rfl rfl rfl ?_ | refine al_offu rfl rfl rfl rfl ?_ | refine al_ond rfl rfl rfl rfl rfl rfl (by exact (by first | exact opd_field_ref rfl fo28_1 rfl rfl rfl rfl | exact opd_field_pad rfl fo28_1 rfl rfl)) ?_)
                      all_goals (first | refine al_off rfl rfl rfl rfl rfl ?_ | refine al_offu rfl rfl rfl rfl ?_ | refine al_ond rfl rfl rfl rfl rfl rfl (by exact (by first | exact opd_load1_ref rfl Try.isAgg26 rfl rfl rfl rfl rfl | exact opd_load1_pad rfl Try.isAgg26 rfl (by first | omega | assumption) rfl)) ?_)
                      all_goals (first | refine al_off rfl rfl rfl rfl rfl ?_ | refine al_offu rfl rfl rfl rfl ?_ | refine al_ond rfl rfl rfl rfl rfl rfl (by exact opd_move rfl rfl) ?_)
                      all_goals (first | refine al_off rfl rfl rfl rfl rfl ?_ | refine al_offu rfl rfl rfl rfl ?_ | refine al_ond rfl rfl rfl rfl rfl rfl (by exact (by first | exact x_index_pad rfl so26 rfl rfl (by omega) (by first | exact Int.toNat_natCast _ | rfl) (by assumption) rfl | exact x_index_osl rfl so26 rfl rfl rfl rfl rfl (by omega) (by first | exact Int.toNat_natCast _ | rfl) (by first | omega | assumption) rfl)) ?_)
                      all_goals (first | refine al_off rfl rfl rfl rfl rfl ?_ | refine al_offu rfl rfl rfl rfl ?_ | refine al_ond rfl rfl rfl rfl rfl rfl (by exact (by first | exact opd_load1_ref rfl Try.isAgg3 rfl rfl rfl rfl rfl | exact opd_load1_pad rfl Try.isAgg3 rfl (by first | omega | assumption) rfl)) ?_)
                      all_goals (first | refine al_off rfl rfl rfl rfl rfl ?_ | refine al_offu rfl rfl rfl rfl ?_ | refine al_ond rfl rfl rfl rfl rfl rfl (by exact opd_move rfl rfl) ?_)
                      all_goals (first | refine al_off rfl rfl rfl rfl rfl ?_ | refine al_offu rfl rfl rfl rfl ?_ | refine al_ond rfl rfl rfl rfl rfl rfl (by exact (by first | exact opd_len_sl rfl Try.underlying25 rfl | exact opd_len_osl rfl Try.underlying25 rfl rfl rfl)) ?_)
                      all_goals (first | refine al_off rfl rfl rfl rfl rfl ?_ | refine al_offu rfl rfl rfl rfl ?_ | refine al_ond rfl rfl rfl rfl rfl rfl (by exact opd_lss rfl rfl rfl) ?_)
                      all_goals (refine al_d rfl rfl rfl (by exact (by first | exact opd_pick_t rfl rfl rfl | exact opd_pick_f rfl rfl rfl | exact opd_pickt rfl rfl (by assumption) rfl | exact opd_pickf rfl rfl (by assumption) rfl | exact opd_pick rfl rfl rfl)) ?_)
                      all_goals (refine al_d rfl rfl rfl (by exact opd_assign rfl rfl) ?_)
                      all_goals (refine al_nil ?_)
                      all_goals (exact ⟨⟨_, rfl, by rw [hys]; simp_all⟩, rfl, rfl, rfl⟩)
                    refine awp_region ?_
                    refine al_d rfl rfl rfl (by exact opd_move rfl rfl) ?_
                    refine al_d rfl rfl rfl (by exact opd_add rfl rfl rfl (by first | exact w64 (by omega) (by omega) | exact wu8 (by omega) (by omega) | rfl)) ?_
                    refine al_d rfl rfl rfl (by exact opd_assign rfl rfl) ?_
                    refine al_nil ?_
                    -- end of a round
                    refine ⟨i + 1, by omega, by omega, ?_⟩
                    rw [hal]
                    exact (Ent.wk ⟨⟨_, rfl, rfl⟩, (by first | (simp; done) | (simp; rfl) | exact clo_map _ _ _), ⟨_, rfl, rfl⟩, (by first | (simp; done) | (simp; rfl) | exact clo_map _ _ _), ⟨_, rfl, rfl⟩, (by first | (simp; done) | (simp; rfl) | exact clo_map _ _ _), ⟨_, rfl, rfl⟩, (by first | (simp; done) | (simp; rfl) | exact clo_map _ _ _), ⟨_, rfl, rfl⟩, (by first | (simp; done) | (simp; rfl) | exact clo_map _ _ _), ⟨_, rfl, rfl⟩, (by first | (simp; done) | (simp; rfl) | exact clo_map _ _ _), ⟨_, rfl, rfl⟩, (by first | (simp; done) | (simp; rfl) | exact clo_map _ _ _), ⟨_, rfl, rfl⟩, (by first | (simp; done) | (simp; rfl) | exact clo_map _ _ _), trivial⟩ ⟨⟨_, rfl, rfl⟩, (by first | (simp; done) | (simp; rfl) | exact clo_map _ _ _), ⟨_, rfl, rfl⟩, (by first | (simp; done) | (simp; rfl) | exact clo_map _ _ _), ⟨_, rfl, rfl⟩, (by first | (simp; done) | (simp; rfl) | exact clo_map _ _ _), trivial⟩ trivial)
                  · have hge : i = idx.length := by have : ¬ _ := of_decide_eq_false hc7; omega
                    subst hge
                    rw [List.take_length]
                    have hokm : okEdits (l ++ [x]) := ⟨by simp; omega, fun e he => by
                      rcases List.mem_append.1 he with h | h
                      · exact hl.2 e h
                      · rw [List.mem_singleton.1 h]; exact hxe.2.2⟩
                    refine awp_exit ?_
                    refine awp_seq ?_
                    refine awp_bool (t := 8) (n := 22) (X := true) ?_ ?_
                    · all_goals (refine al_d rfl rfl rfl (by exact opd_move rfl rfl) ?_)
                      all_goals (refine al_d rfl rfl rfl (by exact opd_move rfl rfl) ?_)
                      all_goals (first | refine al_split (t := 138) rfl (fun h138 => ?_) (fun h138 => ?_) | skip)
                      all_goals (try contradiction)
                      all_goals (first | refine al_off rfl rfl rfl rfl rfl ?_ | refine al_offu rfl rfl rfl rfl ?_ | refine al_ond rfl rfl rfl rfl rfl rfl (by exact (by first | exact opd_field_ref rfl fo28_0 rfl rfl rfl rfl | exact opd_field_pad rfl fo28_0 rfl rfl)) ?_)
                      all_goals (first | refine al_off rfl rfl rfl rfl rfl ?_ | refine al_offu rfl rfl rfl rfl ?_ | refine al_ond rfl rfl rfl rfl rfl rfl (by exact (by first | exact opd_load1_ref rfl Try.isAgg3 rfl rfl rfl rfl rfl | exact opd_load1_pad rfl Try.isAgg3 rfl (by first | omega | assumption) rfl)) ?_)
                      all_goals (first | refine al_off rfl rfl rfl rfl rfl ?_ | refine al_offu rfl rfl rfl rfl ?_ | refine al_ond rfl rfl rfl rfl rfl rfl (by exact opd_eql rfl rfl rfl) ?_)
                      all_goals (first | refine al_off rfl rfl rfl rfl rfl ?_ | refine al_offu rfl rfl rfl rfl ?_ | refine al_ond rfl rfl rfl rfl rfl rfl (by exact opd_move rfl rfl) ?_)
                      all_goals (first | refine al_split (t := 142) rfl (fun h142 => ?_) (fun h142 => ?_) | skip)
                      all_goals (try contradiction)
                      all_goals (first | refine al_off rfl rfl rfl rfl rfl ?_ | refine al_offu rfl rfl rfl rfl ?_ | refine al_ond rfl rfl rfl rfl rfl rfl (by exact opd_move rfl rfl) ?_)
                      all_goals (first | refine al_off rfl rfl rfl rfl rfl ?_ | refine al_offu rfl rfl rfl rfl ?_ | refine al_ond rfl rfl rfl rfl rfl rfl (by exact opd_not rfl rfl) ?_)
                      all_goals (first | refine al_off rfl rfl rfl rfl rfl ?_ | refine al_offu rfl rfl rfl rfl ?_ | refine al_ond rfl rfl rfl rfl rfl rfl (by exact (by first | exact opd_pick_t rfl rfl rfl | exact opd_pick_f rfl rfl rfl | exact opd_pickt rfl rfl (by assumption) rfl | exact opd_pickf rfl rfl (by assumption) rfl | exact opd_pick rfl rfl rfl)) ?_)
                      all_goals (first | refine al_off rfl rfl rfl rfl rfl ?_ | refine al_offu rfl rfl rfl rfl ?_ | refine al_ond rfl rfl rfl rfl rfl rfl (by exact opd_move rfl rfl) ?_)
                      all_goals (first | refine al_split (t := 146) rfl (fun h146 => ?_) (fun h146 => ?_) | skip)
                      all_goals (try contradiction)
                      all_goals (first | refine al_off rfl rfl rfl rfl rfl ?_ | refine al_offu rfl rfl rfl rfl ?_ | refine al_ond rfl rfl rfl rfl rfl rfl (by exact (by first | exact opd_loadn_ref rfl Try.isAgg24 Try.sizeOf24 rfl rfl rfl rfl (by simp only [List.drop_succ_cons, List.drop_zero, List.take_succ_cons, List.take_zero, List.take_nil, List.map_cons, List.map_nil, List.set_cons_zero, List.set_cons_succ, List.cons_append, List.nil_append, encTag, encObj, encEdit]; rfl) rfl | exact opd_loadn_pad rfl Try.isAgg24 Try.sizeOf24 rfl (by first | omega | assumption) (by simp only [List.drop_succ_cons, List.drop_zero, List.take_succ_cons, List.take_zero, List.take_nil, List.map_cons, List.map_nil, List.set_cons_zero, List.set_cons_succ, List.cons_append, List.nil_append, encTag, encObj, encEdit]; rfl) rfl)) ?_)
                      all_goals (first | refine al_off rfl rfl rfl rfl rfl ?_ | refine al_offu rfl rfl rfl rfl ?_ | refine al_ond rfl rfl rfl rfl rfl rfl (by exact opd_move rfl rfl) ?_)
                      all_goals (first | refine al_off rfl rfl rfl rfl rfl ?_ | refine al_offu rfl rfl rfl rfl ?_ | refine al_ond rfl rfl rfl rfl rfl rfl (by exact (by first | exact opd_loadn_ref rfl Try.isAgg28 Try.sizeOf28 rfl rfl rfl rfl (by simp only [List.drop_succ_cons, List.drop_zero, List.take_succ_cons, List.take_zero, List.take_nil, List.map_cons, List.map_nil, List.set_cons_zero, List.set_cons_succ, List.cons_append, List.nil_append, encTag, encObj, encEdit]; rfl) rfl | exact opd_loadn_pad rfl Try.isAgg28 Try.sizeOf28 rfl (by first | omega | assumption) (by simp only [List.drop_succ_cons, List.drop_zero, List.take_succ_cons, List.take_zero, List.take_nil, List.map_cons, List.map_nil, List.set_cons_zero, List.set_cons_succ, List.cons_append, List.nil_append, encTag, encObj, encEdit]; rfl) rfl)) ?_)
                      all_goals (first | refine al_off rfl rfl rfl rfl rfl ?_ | refine al_offu rfl rfl rfl rfl ?_ | refine al_ond rfl rfl rfl rfl rfl rfl (by exact opr_call rfl rfl Try.call16 rfl (lentEd_c m (l ++ [x]) kind idx (gAccept m l kind idx) _ 113 _ _ _ (by rfl) (by rfl) (by exact rows_of encEdit _) (by rfl) hm hokm (by omega) (acc_more (by simpa using h142) (fun i hi => by have := h146; simp only [Bool.not_eq_false'] at this; have := List.all_eq_true.1 this i hi; simpa [lessL] using this)))) ?_)
                      all_goals (first | refine al_off rfl rfl rfl rfl rfl ?_ | refine al_offu rfl rfl rfl rfl ?_ | refine al_ond rfl rfl rfl rfl rfl rfl (by exact opd_move rfl rfl) ?_)
                      all_goals (first | refine al_off rfl rfl rfl rfl rfl ?_ | refine al_offu rfl rfl rfl rfl ?_ | refine al_ond rfl rfl rfl rfl rfl rfl (by exact opd_beql rfl Try.underlying4 rfl rfl) ?_)
                      all_goals (first | refine al_off rfl rfl rfl rfl rfl ?_ | refine al_offu rfl rfl rfl rfl ?_ | refine al_ond rfl rfl rfl rfl rfl rfl (by exact (by first | exact opd_pick_t rfl rfl rfl | exact opd_pick_f rfl rfl rfl | exact opd_pickt rfl rfl (by assumption) rfl | exact opd_pickf rfl rfl (by assumption) rfl | exact opd_pick rfl rfl rfl)) ?_)
                      all_goals (refine al_d rfl rfl rfl (by exact (by first | exact opd_pick_t rfl rfl rfl | exact opd_pick_f rfl rfl rfl | exact opd_pickt rfl rfl (by assumption) rfl | exact opd_pickf rfl rfl (by assumption) rfl | exact opd_pick rfl rfl rfl)) ?_)
                      all_goals (refine al_d rfl rfl rfl (by exact opd_assign rfl rfl) ?_)
                      all_goals (refine al_nil ?_)
                      all_goals (exact ⟨⟨_, rfl, by first | rfl | simp_all⟩, rfl, rfl, rfl⟩)
                    refine awp_ret ?_
                    -- return
                    refine aret1 (H' := []) (by first | exact .inr rfl | exact .inl rfl) rfl (rval_tmp rfl) (Fin.wk (by simp) trivial trivial) ?_
                    exact ⟨rfl, rfl⟩
end Go.Proofs.Ytljocbkebhgkoaa
