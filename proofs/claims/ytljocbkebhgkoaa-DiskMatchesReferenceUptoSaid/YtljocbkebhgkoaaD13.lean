/-
  CONTRACT: planispherelaw46.DiskReads answers true. Conditions: the arguments' sizes.
-/
import Derived.Test.YtljocbkebhgkoaaD12
set_option linter.unusedVariables false
set_option linter.unusedSimpArgs false
set_option maxRecDepth 100000
namespace Go.Proofs.Ytljocbkebhgkoaa
open Go.Abs

/-- same is lent an owned list. -/
theorem sameLent_c (a b : List ByteArray) (r : Bool) (H : Heap) (id g n : Nat) (ob : Ob) (hH : H.get id = some ob) (hg : ob.g = g) (hrows : ob.rows = (a.map encStr).map (·.map .pv)) (hn : n = a.length) (ha : a.length ≤ 1048576) (hb : b.length ≤ 1048576) (hr : gSame a b = r) :
    ACalls Try.prog 37 [.osl id g 0 n, .pv (slStrs b)] H (fun x H' => x = bv r ∧ H' = H) := by
  subst hr hn hg
  exact RO.calls (RO.lend (id := id) (a.map encStr) (RO.of (same_c a b [] ha hb) rfl) hH hrows rfl
    (fz_cons (.osl (takeL _ _ rfl)) (fz_cons (.same (by simp)) fz_nil)) (fun _ _ h => by cases h) (fun _ _ h => by cases h) rfl)
theorem same_self (a : List ByteArray) (H : Heap) (ha : a.length ≤ 1048576) : ACalls Try.prog 37 [.pv (slStrs a), .pv (slStrs a)] H (fun x H' => x = bv true ∧ H' = H) := by
  have h := same_c a a H ha ha
  rw [gSame, decide_eq_true rfl] at h; exact h
theorem dConts_len (s : DSt) (n : Nat) : (dConts s n).length = n := by simp [dConts]
theorem stRows_set (l : List ByteArray) (i : Nat) (t : ByteArray) : (stRows l).set i [sv t] = stRows (l.set i t) := List.map_set.symm
theorem stRows_get {l : List ByteArray} {i : Nat} {t : ByteArray} (h : l[i]? = some t) : (stRows l)[i]? = some [sv t] := by rw [stRows, List.getElem?_map, h]; rfl
theorem dText_w (s : DSt) (k : Nat) (t : ByteArray) (n : Nat) : dText (wState s k t) n = if n = k then t else dText s n := by
  unfold dText
  show (((s.q ++ [(k, t)]).reverse.find? (isSec n)).map (·.2)).getD _ = _
  rw [List.reverse_append, List.reverse_cons, List.reverse_nil, List.nil_append, List.cons_append, List.nil_append, List.find?_cons]
  by_cases e : n = k
  · subst e; simp [isSec]
  · have : isSec n (k, t) = false := by simpa [isSec] using fun h => e h.symm
    simp only [this, if_neg e]; rfl
theorem dConts_w (s : DSt) (k : Nat) (t : ByteArray) (n : Nat) (hk : k < n) : dConts (wState s k t) n = (dConts s n).set k t := by
  apply List.ext_getElem?
  intro i
  by_cases hi : i < n
  · by_cases e : i = k
    · subst e
      rw [List.getElem?_set_self (by rw [dConts_len]; exact hi), dConts, List.getElem?_map, List.getElem?_range hi]
      simp [dText_w]
    · rw [List.getElem?_set_ne (Ne.symm e), dConts, dConts, List.getElem?_map, List.getElem?_map, List.getElem?_range hi]
      simp [dText_w, e]
  · rw [List.getElem?_eq_none (by rw [dConts_len]; omega), List.getElem?_eq_none (by rw [List.length_set, dConts_len]; omega)]
theorem off_write {s : DSt} (h : s.off = true) (k : Int) (t : ByteArray) : dWrite s k t = s ∧ dWriteE s k t = 22 := by
  constructor
  · simp [dWrite, h]
  · simp [dWriteE, h]
theorem off_read {s : DSt} (h : s.off = true) (k : Int) : dRead s k = sNil ∧ dReadE s k = 22 := by
  constructor
  · simp [dRead, h]
  · simp [dReadE, h]
theorem fail_off {s : DSt} (h : s.off = false) (w b : Int) : (dFail s w b).off = true := by simp [dFail, h]
theorem diskReads_c (raw : Int) (l : List GAct) (x : GAct) (H : Heap) (h0 : 0 ≤ raw) (h1 : raw ≤ 255) (hl : szActs 1048576 l) (hx : szAct 1048576 x) :
    ACalls Try.prog 9 [.pv (.int .u8 raw), .pv (slActs l), av (encAct x)] H (fun r H' => r = bv true ∧ H' = H) := by
  refine ACalls.pure ?_ (by simp) H
  have hml : (l.map encAct).length = l.length := List.length_map _
  have hl1 := hl.1
  have hxt := hx.2.2.2.1
  obtain ⟨n, hn⟩ : ∃ n, n = gSize raw := ⟨_, rfl⟩
  have hsz : ∀ H, ACalls Try.prog 24 [.pv (.int .u8 raw)] H (fun r H' => r = iv (n : Nat) ∧ H' = H) := fun H => by rw [hn]; exact size_c raw H h0 h1
  obtain ⟨hn1, hn2⟩ : 1 ≤ n ∧ n ≤ 12 := by rw [hn]; exact gSize_le raw
  clear hn
  refine ACalls.body Try.func9 rfl Try.ntmps9 (Nat.le_of_ble_eq_true rfl) ?_
  refine awp_seq ?_
  refine awp_region ?_
  refine al_d rfl rfl rfl (by exact opd_box (id := 5) rfl rfl rfl rfl rfl) ?_
  refine al_d rfl rfl rfl (by exact opd_assign rfl rfl) ?_
  refine al_nil ?_
  refine awp_seq ?_
  refine awp_region ?_
  refine al_d rfl rfl rfl (by exact opr_call rfl rfl Try.call21 rfl (head_c _)) ?_
  refine al_d rfl rfl rfl (by exact opd_assign rfl rfl) ?_
  refine al_nil ?_
  refine awp_seq ?_
  refine awp_seq ?_
  refine awp_bool (t := 30) (n := 10) (X := !gOk l || !gOk [x]) ?_ ?_
  · all_goals (refine al_d rfl rfl rfl (by exact opd_move rfl rfl) ?_)
    all_goals (refine al_d rfl rfl rfl (by exact opr_call rfl rfl Try.call22 rfl (ok_c l _ (by omega))) ?_)
    all_goals (refine al_d rfl rfl rfl (by exact opd_not rfl rfl) ?_)
    all_goals (refine al_d rfl rfl rfl (by exact opd_move rfl rfl) ?_)
    all_goals (first | refine al_split (t := 25) rfl (fun h25 => ?_) (fun h25 => ?_) | skip)
    all_goals (try contradiction)
    all_goals (first | refine al_off rfl rfl rfl rfl rfl ?_ | refine al_offu rfl rfl rfl rfl ?_ | refine al_ond rfl rfl rfl rfl rfl rfl (by exact (by first | exact opd_loadn_ref rfl Try.isAgg55 Try.sizeOf55 rfl rfl rfl rfl (by simp only [List.drop_succ_cons, List.drop_zero, List.take_succ_cons, List.take_zero, List.take_nil, List.map_cons, List.map_nil, List.set_cons_zero, List.set_cons_succ, List.cons_append, List.nil_append, encQ, armR, dRow, encAct]; rfl) rfl | exact opd_loadn_pad rfl Try.isAgg55 Try.sizeOf55 rfl (by first | omega | assumption) (by simp only [List.drop_succ_cons, List.drop_zero, List.take_succ_cons, List.take_zero, List.take_nil, List.map_cons, List.map_nil, List.set_cons_zero, List.set_cons_succ, List.cons_append, List.nil_append, encQ, armR, dRow, encAct]; rfl) rfl)) ?_)
    all_goals (first | refine al_off rfl rfl rfl rfl rfl ?_ | refine al_offu rfl rfl rfl rfl ?_ | refine al_ond rfl rfl rfl rfl rfl rfl (by exact x_buildSlice [encAct x] rfl so44 rfl rfl rfl rfl rfl (by simp [encAct])) ?_)
    all_goals (first | refine al_off rfl rfl rfl rfl rfl ?_ | refine al_offu rfl rfl rfl rfl ?_ | refine al_ond rfl rfl rfl rfl rfl rfl (by exact opr_call rfl rfl Try.call22 rfl (ok_c [x] _ (by simp))) ?_)
    all_goals (first | refine al_off rfl rfl rfl rfl rfl ?_ | refine al_offu rfl rfl rfl rfl ?_ | refine al_ond rfl rfl rfl rfl rfl rfl (by exact opd_not rfl rfl) ?_)
    all_goals (refine al_d rfl rfl rfl (by exact (by first | exact opd_pick_t rfl rfl rfl | exact opd_pick_f rfl rfl rfl | exact opd_pickt rfl rfl (by assumption) rfl | exact opd_pickf rfl rfl (by assumption) rfl | exact opd_pick rfl rfl rfl)) ?_)
    all_goals (refine al_nil ?_)
    all_goals (exact ⟨⟨_, rfl, by first | rfl | (simp only [*, Bool.false_and, Bool.true_and, Bool.and_false, Bool.and_true, Bool.true_or, Bool.false_or, Bool.or_true, Bool.or_false, Bool.not_true, Bool.not_false]; done) | (simp_all; done) | (simp_all; omega)⟩, rfl, rfl, rfl⟩)
  refine awp_cond rfl (fun hc1 => ?_) (fun hc1 => ?_)
  -- cond 1
  · skip
    refine awp_seq ?_
    refine awp_region ?_
    refine al_d rfl rfl rfl (by exact opd_move rfl rfl) ?_
    refine al_d rfl rfl rfl (by exact opd_assign rfl rfl) ?_
    refine al_nil ?_
    refine awp_ret ?_
    -- return
    refine aret1 (H' := []) (by first | exact .inr rfl | exact .inl rfl) rfl (rval_tmp rfl) (Fin.wk (by simp) trivial trivial) ?_
    exact ⟨rfl, rfl⟩
  · have hkl : gOk l = true := by
      revert hc1; cases gOk l <;> simp
    have hkl := (gOk_len hkl).1
    obtain ⟨s0, _, hi0, hnew⟩ := new_any n hn1 hn2
    refine awp_skip ?_
    refine awp_seq ?_
    refine awp_region ?_
    refine al_d rfl rfl rfl (by exact opd_move rfl rfl) ?_
    refine al_d rfl rfl rfl (by exact opr_call rfl rfl Try.call24 rfl (hsz _)) ?_
    refine al_d rfl rfl rfl (by exact opd_assign rfl rfl) ?_
    refine al_nil ?_
    refine awp_seq ?_
    refine awp_region ?_
    refine al_d rfl rfl rfl (by exact opd_move rfl rfl) ?_
    refine al_d rfl rfl rfl (by exact opr_call rfl rfl Try.call23 rfl (hnew _ rfl rfl rfl rfl)) ?_
    refine al_d rfl rfl rfl (by exact opd_assign rfl rfl) ?_
    refine al_nil ?_
    refine awp_seq ?_
    refine awp_seq ?_
    refine awp_region ?_
    refine al_d rfl rfl rfl (by exact opd_assign rfl rfl) ?_
    refine al_nil ?_
    refine awp_block ?_
    -- loop
    refine awp_loop (σ := Nat) (fun i => ([(1, .pv (slActs l)), (5, .ref 5 0 0 0), (7, bv true), (8, iv (n : Int)), (9, .ref 1000 0 0 0), (10, iv (i : Int))], (5, bx 6 55 ((encAct x).map .pv)) :: diskH (runAll s0 (l.take i)))) (fun i => i ≤ l.length) (fun i => l.length - i) 0 (by omega) ?_ ?_
    · exact (Ent.wk ⟨⟨_, rfl, rfl⟩, (by first | (simp; done) | (simp; rfl) | exact clo_map _ _ _ | exact clo_brows _ _ | exact disk_clo _ _ rfl rfl rfl | exact arm_clo _ _ | exact clo_bools _ _ | (simp; exact ⟨rfl, rfl⟩) | (simp; exact ⟨rfl, rfl, rfl⟩)), ⟨_, rfl, rfl⟩, (by first | (simp; done) | (simp; rfl) | exact clo_map _ _ _ | exact clo_brows _ _ | exact disk_clo _ _ rfl rfl rfl | exact arm_clo _ _ | exact clo_bools _ _ | (simp; exact ⟨rfl, rfl⟩) | (simp; exact ⟨rfl, rfl, rfl⟩)), ⟨_, rfl, rfl⟩, (by first | (simp; done) | (simp; rfl) | exact clo_map _ _ _ | exact clo_brows _ _ | exact disk_clo _ _ rfl rfl rfl | exact arm_clo _ _ | exact clo_bools _ _ | (simp; exact ⟨rfl, rfl⟩) | (simp; exact ⟨rfl, rfl, rfl⟩)), ⟨_, rfl, rfl⟩, (by first | (simp; done) | (simp; rfl) | exact clo_map _ _ _ | exact clo_brows _ _ | exact disk_clo _ _ rfl rfl rfl | exact arm_clo _ _ | exact clo_bools _ _ | (simp; exact ⟨rfl, rfl⟩) | (simp; exact ⟨rfl, rfl, rfl⟩)), ⟨_, rfl, rfl⟩, (by first | (simp; done) | (simp; rfl) | exact clo_map _ _ _ | exact clo_brows _ _ | exact disk_clo _ _ rfl rfl rfl | exact arm_clo _ _ | exact clo_bools _ _ | (simp; exact ⟨rfl, rfl⟩) | (simp; exact ⟨rfl, rfl, rfl⟩)), ⟨_, rfl, rfl⟩, (by first | (simp; done) | (simp; rfl) | exact clo_map _ _ _ | exact clo_brows _ _ | exact disk_clo _ _ rfl rfl rfl | exact arm_clo _ _ | exact clo_bools _ _ | (simp; exact ⟨rfl, rfl⟩) | (simp; exact ⟨rfl, rfl, rfl⟩)), trivial⟩ ⟨⟨_, rfl, rfl⟩, (by first | (simp; done) | (simp; rfl) | exact clo_map _ _ _ | exact clo_brows _ _ | exact disk_clo _ _ rfl rfl rfl | exact arm_clo _ _ | exact clo_bools _ _ | (simp; exact ⟨rfl, rfl⟩) | (simp; exact ⟨rfl, rfl, rfl⟩)), ⟨_, rfl, rfl⟩, (by first | (simp; done) | (simp; rfl) | exact clo_map _ _ _ | exact clo_brows _ _ | exact disk_clo _ _ rfl rfl rfl | exact arm_clo _ _ | exact clo_bools _ _ | (simp; exact ⟨rfl, rfl⟩) | (simp; exact ⟨rfl, rfl, rfl⟩)), ⟨_, rfl, rfl⟩, (by first | (simp; done) | (simp; rfl) | exact clo_map _ _ _ | exact clo_brows _ _ | exact disk_clo _ _ rfl rfl rfl | exact arm_clo _ _ | exact clo_bools _ _ | (simp; exact ⟨rfl, rfl⟩) | (simp; exact ⟨rfl, rfl, rfl⟩)), ⟨_, rfl, rfl⟩, (by first | (simp; done) | (simp; rfl) | exact clo_map _ _ _ | exact clo_brows _ _ | exact disk_clo _ _ rfl rfl rfl | exact arm_clo _ _ | exact clo_bools _ _ | (simp; exact ⟨rfl, rfl⟩) | (simp; exact ⟨rfl, rfl, rfl⟩)), ⟨_, rfl, rfl⟩, (by first | (simp; done) | (simp; rfl) | exact clo_map _ _ _ | exact clo_brows _ _ | exact disk_clo _ _ rfl rfl rfl | exact arm_clo _ _ | exact clo_bools _ _ | (simp; exact ⟨rfl, rfl⟩) | (simp; exact ⟨rfl, rfl, rfl⟩)), trivial⟩ trivial)
    · intro i hi
      have hinv := run_inv hi0 hkl hl.wf hi
      refine awp_seq ?_
      refine awp_seq ?_
      refine awp_region ?_
      refine al_d rfl rfl rfl (by exact opd_move rfl rfl) ?_
      refine al_d rfl rfl rfl (by exact opd_move rfl rfl) ?_
      refine al_d rfl rfl rfl (by exact (by first | exact opd_len_sl rfl Try.underlying44 rfl | exact opd_len_osl rfl Try.underlying44 rfl rfl rfl)) ?_
      refine al_d rfl rfl rfl (by exact opd_lss rfl rfl rfl) ?_
      refine al_nil ?_
      refine awp_cond rfl (fun hc2 => ?_) (fun hc2 => ?_)
      -- cond 2
      · have hlt : i < l.length := by have := of_decide_eq_true hc2; omega
        obtain ⟨a, hai⟩ := get_of_lt hlt
        have hae := map_get (f := encAct) hai
        have hdo := run_do hinv hai (hl.txt a (List.mem_of_getElem? hai))
        refine awp_skip ?_
        refine awp_seq ?_
        refine awp_block ?_
        refine awp_region ?_
        refine al_d rfl rfl rfl (by exact opd_move rfl rfl) ?_
        refine al_d rfl rfl rfl (by exact opd_move rfl rfl) ?_
        refine al_d rfl rfl rfl (by exact opd_move rfl rfl) ?_
        refine al_d rfl rfl rfl (by exact (by first | exact x_index_pad rfl so44 rfl rfl (by omega) (by first | exact Int.toNat_natCast _ | rfl) (by assumption) rfl | exact x_index_osl rfl so44 rfl rfl rfl rfl rfl (by omega) (by first | exact Int.toNat_natCast _ | rfl) (by first | omega | assumption) rfl)) ?_
        refine al_d rfl rfl rfl (by exact (by first | exact opd_loadn_ref rfl Try.isAgg55 Try.sizeOf55 rfl rfl rfl rfl (by simp only [List.drop_succ_cons, List.drop_zero, List.take_succ_cons, List.take_zero, List.take_nil, List.map_cons, List.map_nil, List.set_cons_zero, List.set_cons_succ, List.cons_append, List.nil_append, encQ, armR, dRow, encAct]; rfl) rfl | exact opd_loadn_pad rfl Try.isAgg55 Try.sizeOf55 rfl (by first | omega | assumption) (by simp only [List.drop_succ_cons, List.drop_zero, List.take_succ_cons, List.take_zero, List.take_nil, List.map_cons, List.map_nil, List.set_cons_zero, List.set_cons_succ, List.cons_append, List.nil_append, encQ, armR, dRow, encAct]; rfl) rfl)) ?_
        refine al_d rfl rfl rfl (by exact opr_call rfl rfl Try.call26 rfl (disk_frame hdo _ ⟨rfl, rfl, rfl, rfl, trivial⟩ (by simp [encAct]; rfl))) ?_
        refine al_nil ?_
        refine awp_region ?_
        refine al_d rfl rfl rfl (by exact opd_move rfl rfl) ?_
        refine al_d rfl rfl rfl (by exact opd_add rfl rfl rfl (by first | exact w64 (by omega) (by omega) | exact wu8 (by omega) (by omega) | rfl)) ?_
        refine al_d rfl rfl rfl (by exact opd_assign rfl rfl) ?_
        refine al_nil ?_
        -- end of a round
        exact ⟨i + 1, by omega, by omega, (Ent.wk ⟨⟨_, rfl, rfl⟩, (by first | (simp; done) | (simp; rfl) | exact clo_map _ _ _ | exact clo_brows _ _ | exact disk_clo _ _ rfl rfl rfl | exact arm_clo _ _ | exact clo_bools _ _ | (simp; exact ⟨rfl, rfl⟩) | (simp; exact ⟨rfl, rfl, rfl⟩)), ⟨_, rfl, rfl⟩, (by first | (simp; done) | (simp; rfl) | exact clo_map _ _ _ | exact clo_brows _ _ | exact disk_clo _ _ rfl rfl rfl | exact arm_clo _ _ | exact clo_bools _ _ | (simp; exact ⟨rfl, rfl⟩) | (simp; exact ⟨rfl, rfl, rfl⟩)), ⟨_, rfl, rfl⟩, (by first | (simp; done) | (simp; rfl) | exact clo_map _ _ _ | exact clo_brows _ _ | exact disk_clo _ _ rfl rfl rfl | exact arm_clo _ _ | exact clo_bools _ _ | (simp; exact ⟨rfl, rfl⟩) | (simp; exact ⟨rfl, rfl, rfl⟩)), ⟨_, rfl, rfl⟩, (by first | (simp; done) | (simp; rfl) | exact clo_map _ _ _ | exact clo_brows _ _ | exact disk_clo _ _ rfl rfl rfl | exact arm_clo _ _ | exact clo_bools _ _ | (simp; exact ⟨rfl, rfl⟩) | (simp; exact ⟨rfl, rfl, rfl⟩)), ⟨_, rfl, rfl⟩, (by first | (simp; done) | (simp; rfl) | exact clo_map _ _ _ | exact clo_brows _ _ | exact disk_clo _ _ rfl rfl rfl | exact arm_clo _ _ | exact clo_bools _ _ | (simp; exact ⟨rfl, rfl⟩) | (simp; exact ⟨rfl, rfl, rfl⟩)), ⟨_, rfl, rfl⟩, (by first | (simp; done) | (simp; rfl) | exact clo_map _ _ _ | exact clo_brows _ _ | exact disk_clo _ _ rfl rfl rfl | exact arm_clo _ _ | exact clo_bools _ _ | (simp; exact ⟨rfl, rfl⟩) | (simp; exact ⟨rfl, rfl, rfl⟩)), trivial⟩ ⟨⟨_, rfl, rfl⟩, (by first | (simp; done) | (simp; rfl) | exact clo_map _ _ _ | exact clo_brows _ _ | exact disk_clo _ _ rfl rfl rfl | exact arm_clo _ _ | exact clo_bools _ _ | (simp; exact ⟨rfl, rfl⟩) | (simp; exact ⟨rfl, rfl, rfl⟩)), ⟨_, rfl, rfl⟩, (by first | (simp; done) | (simp; rfl) | exact clo_map _ _ _ | exact clo_brows _ _ | exact disk_clo _ _ rfl rfl rfl | exact arm_clo _ _ | exact clo_bools _ _ | (simp; exact ⟨rfl, rfl⟩) | (simp; exact ⟨rfl, rfl, rfl⟩)), ⟨_, rfl, rfl⟩, (by first | (simp; done) | (simp; rfl) | exact clo_map _ _ _ | exact clo_brows _ _ | exact disk_clo _ _ rfl rfl rfl | exact arm_clo _ _ | exact clo_bools _ _ | (simp; exact ⟨rfl, rfl⟩) | (simp; exact ⟨rfl, rfl, rfl⟩)), ⟨_, rfl, rfl⟩, (by first | (simp; done) | (simp; rfl) | exact clo_map _ _ _ | exact clo_brows _ _ | exact disk_clo _ _ rfl rfl rfl | exact arm_clo _ _ | exact clo_bools _ _ | (simp; exact ⟨rfl, rfl⟩) | (simp; exact ⟨rfl, rfl, rfl⟩)), ⟨_, rfl, rfl⟩, (by first | (simp; done) | (simp; rfl) | exact clo_map _ _ _ | exact clo_brows _ _ | exact disk_clo _ _ rfl rfl rfl | exact arm_clo _ _ | exact clo_bools _ _ | (simp; exact ⟨rfl, rfl⟩) | (simp; exact ⟨rfl, rfl, rfl⟩)), trivial⟩ trivial)⟩
      · have hge : i = l.length := by have : ¬ _ := of_decide_eq_false hc2; omega
        subst hge
        rw [List.take_length] at hinv ⊢
        obtain ⟨s1, hs1⟩ : ∃ s, s = runAll s0 l := ⟨_, rfl⟩
        rw [← hs1] at hinv ⊢
        clear hs1
        have hi2 := inv_start hinv
        have hca := calm_start s1
        have hstart := start_c s1
        obtain ⟨s2, hs2⟩ : ∃ s, s = dStart s1 := ⟨_, rfl⟩
        rw [← hs2] at hi2 hca hstart
        clear hs2
        have hn2' := hi2.n
        have hco := contentsOwn_c s2 n hi2.ok hca.1 (by omega)
        have hcf : ∀ H, subL H (diskH s2) → H.get 600 = none → ACalls Try.prog 32 [.ref 1000 0 0 0, iv (n : Int)] H (fun r H' => r = .tup [.osl 600 n 0 n, bv true] ∧ H' = ((600, ⟨n, 1, 9, stRows (dConts s2 n)⟩) :: diskH s2) ++ H) := fun H hs h6 =>
          hco.frame hs.sub (diskH_closed s2) (by simp; rfl) (fun id h => by
            simp only [Heap.get] at h
            cases e : Nat.beq 600 id with
            | true => right; rw [← Nat.eq_of_beq_eq_true e]; exact h6
            | false => rw [e] at h; exact disk_keys s2 s2 H id h)
        have hcl := dConts_len s2 n
        refine awp_exit ?_
        refine awp_seq ?_
        refine awp_region ?_
        refine al_d rfl rfl rfl (by exact opd_move rfl rfl) ?_
        refine al_d rfl rfl rfl (by exact opr_call rfl rfl Try.call30 rfl (disk_frame hstart _ ⟨rfl, rfl, rfl, rfl, trivial⟩ (by simp; rfl))) ?_
        refine al_nil ?_
        refine awp_seq ?_
        refine awp_region ?_
        refine al_d rfl rfl rfl (by exact opd_move rfl rfl) ?_
        refine al_d rfl rfl rfl (by exact opd_move rfl rfl) ?_
        refine al_d rfl rfl rfl (by exact opr_call rfl rfl Try.call32 rfl (hcf _ ⟨rfl, rfl, rfl, rfl, trivial⟩ rfl)) ?_
        refine al_d rfl rfl rfl (by exact opd_move rfl rfl) ?_
        refine al_d rfl rfl rfl (by exact opd_extract rfl rfl rfl) ?_
        refine al_d rfl rfl rfl (by exact opd_extract rfl rfl rfl) ?_
        refine al_d rfl rfl rfl (by exact opd_assign rfl rfl) ?_
        refine al_d rfl rfl rfl (by exact opd_assign rfl rfl) ?_
        refine al_nil ?_
        refine awp_seq ?_
        -- before the slot
        rcases wGood_cases s2 x.sector (aText x) with hg | ⟨hg, k, hk, hkn, hk64⟩
        · obtain ⟨e1, e2⟩ := calm_no hca hg
          have hwr := cW hi2 (by omega) e2 e1
          have hco2 := contents_c s2 n hi2.ok hca.1 (by omega)
          refine awp_drawc follows ?_
          refine dc_cons (r := ⟨_, some [1000], []⟩) (DStep.plain rfl (fun H1 hH => by exact opd_move rfl rfl)) rfl ?_
          refine dc_cons (r := ⟨_, some [5], []⟩) (DStep.plain rfl (fun H1 hH => by exact (by first | exact opd_field_ref rfl fo55_1 rfl ((hH _ rfl).trans rfl) rfl rfl | exact opd_field_pad rfl fo55_1 rfl rfl))) rfl ?_
          refine dc_cons (r := ⟨_, some [5], []⟩) (DStep.plain rfl (fun H1 hH => by exact (by first | exact opd_load1_ref rfl Try.isAgg3 rfl ((hH _ rfl).trans rfl) rfl rfl rfl | exact opd_load1_pad rfl Try.isAgg3 rfl (by first | omega | assumption) rfl))) rfl ?_
          refine dc_cons (r := ⟨_, some [5], []⟩) (DStep.plain rfl (fun H1 hH => by exact (by first | exact opd_loadn_ref rfl Try.isAgg55 Try.sizeOf55 rfl ((hH _ rfl).trans rfl) rfl rfl (by simp only [List.drop_succ_cons, List.drop_zero, List.take_succ_cons, List.take_zero, List.take_nil, List.map_cons, List.map_nil, List.set_cons_zero, List.set_cons_succ, List.cons_append, List.nil_append, encQ, armR, dRow, encAct]; rfl) rfl | exact opd_loadn_pad rfl Try.isAgg55 Try.sizeOf55 rfl (by first | omega | assumption) (by simp only [List.drop_succ_cons, List.drop_zero, List.take_succ_cons, List.take_zero, List.take_nil, List.map_cons, List.map_nil, List.set_cons_zero, List.set_cons_succ, List.cons_append, List.nil_append, encQ, armR, dRow, encAct]; rfl) rfl))) rfl ?_
          refine dc_cons (r := ⟨_, some [], []⟩) (DStep.plain rfl (fun H1 hH => by exact opr_call rfl rfl Try.call34 rfl (text_c x _ hxt))) rfl ?_
          refine dc_cons (r := ⟨_, some [1000, 1001, 1002, 1003], _⟩) (DStep.plain rfl (fun H1 hH => by exact opr_call rfl rfl Try.call33 rfl (disk_frame hwr _ ⟨(hH 1000 rfl).trans rfl, (hH 1001 rfl).trans rfl, (hH 1002 rfl).trans rfl, (hH 1003 rfl).trans rfl, trivial⟩ (by simp; rfl)))) rfl ?_
          refine dc_cons (r := ⟨_, some [1000], []⟩) (DStep.plain rfl (fun H1 hH => by exact opd_assign rfl rfl)) rfl ?_
          refine dc_nil ⟨by kernel_rfl, ?_⟩
          refine awp_seq ?_
          refine awp_region ?_
          refine al_d rfl rfl rfl (by exact opd_move rfl rfl) ?_
          refine al_d rfl rfl rfl (by exact opd_move rfl rfl) ?_
          refine al_d rfl rfl rfl (by exact opr_call rfl rfl Try.call32 rfl (disk_frame hco2 _ ⟨rfl, rfl, rfl, rfl, trivial⟩ (by simp; rfl))) ?_
          refine al_d rfl rfl rfl (by exact opd_move rfl rfl) ?_
          refine al_d rfl rfl rfl (by exact opd_extract rfl rfl rfl) ?_
          refine al_d rfl rfl rfl (by exact opd_extract rfl rfl rfl) ?_
          refine al_d rfl rfl rfl (by exact opd_assign rfl rfl) ?_
          refine al_d rfl rfl rfl (by exact opd_assign rfl rfl) ?_
          refine al_nil ?_
          refine awp_seq ?_
          refine awp_region ?_
          refine al_d rfl rfl rfl (by exact opd_move rfl rfl) ?_
          refine al_d rfl rfl rfl (by exact opd_move rfl rfl) ?_
          refine al_d rfl rfl rfl (by exact opr_call rfl rfl Try.call32 rfl (disk_frame hco2 _ ⟨rfl, rfl, rfl, rfl, trivial⟩ (by simp; rfl))) ?_
          refine al_d rfl rfl rfl (by exact opd_move rfl rfl) ?_
          refine al_d rfl rfl rfl (by exact opd_extract rfl rfl rfl) ?_
          refine al_d rfl rfl rfl (by exact opd_extract rfl rfl rfl) ?_
          refine al_d rfl rfl rfl (by exact opd_assign rfl rfl) ?_
          refine al_d rfl rfl rfl (by exact opd_assign rfl rfl) ?_
          refine al_nil ?_
          refine awp_seq ?_
          refine awp_seq ?_
          refine awp_region ?_
          refine al_d rfl rfl rfl (by exact opd_move rfl rfl) ?_
          refine al_d rfl rfl rfl (by exact opd_not rfl rfl) ?_
          refine al_d rfl rfl rfl (by exact opd_move rfl rfl) ?_
          refine al_ond rfl rfl rfl (by first | rfl | assumption) rfl rfl (by exact opd_move rfl rfl) ?_
          refine al_ond rfl rfl rfl (by first | rfl | assumption) rfl rfl (by exact opd_not rfl rfl) ?_
          refine al_d rfl rfl rfl (by exact (by first | exact opd_pick_t rfl rfl rfl | exact opd_pick_f rfl rfl rfl | exact opd_pickt rfl rfl (by assumption) rfl | exact opd_pickf rfl rfl (by assumption) rfl | exact opd_pick rfl rfl rfl)) ?_
          refine al_d rfl rfl rfl (by exact opd_move rfl rfl) ?_
          refine al_ond rfl rfl rfl (by first | rfl | assumption) rfl rfl (by exact opd_move rfl rfl) ?_
          refine al_ond rfl rfl rfl (by first | rfl | assumption) rfl rfl (by exact opd_not rfl rfl) ?_
          refine al_d rfl rfl rfl (by exact (by first | exact opd_pick_t rfl rfl rfl | exact opd_pick_f rfl rfl rfl | exact opd_pickt rfl rfl (by assumption) rfl | exact opd_pickf rfl rfl (by assumption) rfl | exact opd_pick rfl rfl rfl)) ?_
          refine al_d rfl rfl rfl (by exact opd_move rfl rfl) ?_
          refine al_ond rfl rfl rfl (by first | rfl | assumption) rfl rfl (by exact opd_move rfl rfl) ?_
          refine al_ond rfl rfl rfl (by first | rfl | assumption) rfl rfl (by exact opd_move rfl rfl) ?_
          refine al_ond rfl rfl rfl (by first | rfl | assumption) rfl rfl (by exact opr_call rfl rfl Try.call37 rfl (same_self _ _ (by rw [dConts_len]; omega))) ?_
          refine al_ond rfl rfl rfl (by first | rfl | assumption) rfl rfl (by exact opd_not rfl rfl) ?_
          refine al_d rfl rfl rfl (by exact (by first | exact opd_pick_t rfl rfl rfl | exact opd_pick_f rfl rfl rfl | exact opd_pickt rfl rfl (by assumption) rfl | exact opd_pickf rfl rfl (by assumption) rfl | exact opd_pick rfl rfl rfl)) ?_
          refine al_nil ?_
          refine awp_cond rfl (fun hc3 => ?_) (fun hc3 => ?_)
          -- cond 3
          · cases hc3
          · skip
            refine awp_skip ?_
            refine awp_seq ?_
            refine awp_seq ?_
            refine awp_region ?_
            refine al_d rfl rfl rfl (by exact opd_move rfl rfl) ?_
            refine al_d rfl rfl rfl (by exact opd_neq rfl rfl rfl) ?_
            refine al_nil ?_
            refine awp_cond rfl (fun hc4 => ?_) (fun hc4 => ?_)
            -- cond 4
            · skip
              by_cases q1 : x.sector < 0
              · have n1 : decide (x.sector < 0) = true := decide_eq_true q1
                refine awp_seq ?_
                refine awp_region ?_
                refine al_d rfl rfl rfl (by exact opd_move rfl rfl) ?_
                refine al_d rfl rfl rfl (by exact opd_move rfl rfl) ?_
                refine al_ond rfl rfl rfl (by first | rfl | assumption) rfl rfl (by exact opd_move rfl rfl) ?_
                refine al_ond rfl rfl rfl (by first | rfl | assumption) rfl rfl (by exact opd_eql rfl rfl rfl) ?_
                refine al_d rfl rfl rfl (by exact (by first | exact opd_pick_t rfl rfl rfl | exact opd_pick_f rfl rfl rfl | exact opd_pickt rfl rfl (by assumption) rfl | exact opd_pickf rfl rfl (by assumption) rfl | exact opd_pick rfl rfl rfl)) ?_
                refine al_d rfl rfl rfl (by exact opd_move rfl rfl) ?_
                refine al_ond rfl rfl rfl (by first | rfl | assumption) rfl rfl (by exact opd_move rfl rfl) ?_
                refine al_ond rfl rfl rfl (by first | rfl | assumption) rfl rfl (by exact opd_move rfl rfl) ?_
                refine al_ond rfl rfl rfl (by first | rfl | assumption) rfl rfl (by exact opr_call rfl rfl Try.call37 rfl (sameLent_c (dConts s2 n) (dConts s2 n) true _ 600 _ _ _ (by rfl) (by rfl) (by exact rows_of encStr _) (by rw [dConts_len]) (by omega) (by omega) (decide_eq_true rfl))) ?_
                refine al_d rfl rfl rfl (by exact (by first | exact opd_pick_t rfl rfl rfl | exact opd_pick_f rfl rfl rfl | exact opd_pickt rfl rfl (by assumption) rfl | exact opd_pickf rfl rfl (by assumption) rfl | exact opd_pick rfl rfl rfl)) ?_
                refine al_d rfl rfl rfl (by exact opd_move rfl rfl) ?_
                refine al_ond rfl rfl rfl (by first | rfl | assumption) rfl rfl (by exact (by first | exact opd_field_ref rfl fo55_1 rfl rfl rfl rfl | exact opd_field_pad rfl fo55_1 rfl rfl)) ?_
                refine al_ond rfl rfl rfl (by first | rfl | assumption) rfl rfl (by exact (by first | exact opd_load1_ref rfl Try.isAgg3 rfl rfl rfl rfl rfl | exact opd_load1_pad rfl Try.isAgg3 rfl (by first | omega | assumption) rfl)) ?_
                refine al_ond rfl rfl rfl (by first | rfl | assumption) rfl rfl (by exact opd_lss rfl rfl rfl) ?_
                refine al_ond rfl rfl rfl (by first | rfl | assumption) rfl rfl (by exact opd_move rfl rfl) ?_
                refine al_off rfl rfl rfl (by first | rfl | assumption) rfl ?_
                refine al_off rfl rfl rfl (by first | rfl | assumption) rfl ?_
                refine al_off rfl rfl rfl (by first | rfl | assumption) rfl ?_
                refine al_off rfl rfl rfl (by first | rfl | assumption) rfl ?_
                refine al_ond rfl rfl rfl (by first | rfl | assumption) rfl rfl (by exact (by first | exact opd_pick_t rfl rfl rfl | exact opd_pick_f rfl rfl rfl | exact opd_pickt rfl rfl (by assumption) rfl | exact opd_pickf rfl rfl (by assumption) rfl | exact opd_pick rfl rfl rfl)) ?_
                refine al_ond rfl rfl rfl (by first | rfl | assumption) rfl rfl (by exact opd_move rfl rfl) ?_
                refine al_off rfl rfl rfl (by first | rfl | assumption) rfl ?_
                refine al_off rfl rfl rfl (by first | rfl | assumption) rfl ?_
                refine al_off rfl rfl rfl (by first | rfl | assumption) rfl ?_
                refine al_off rfl rfl rfl (by first | rfl | assumption) rfl ?_
                refine al_ond rfl rfl rfl (by first | rfl | assumption) rfl rfl (by exact (by first | exact opd_pick_t rfl rfl rfl | exact opd_pick_f rfl rfl rfl | exact opd_pickt rfl rfl (by assumption) rfl | exact opd_pickf rfl rfl (by assumption) rfl | exact opd_pick rfl rfl rfl)) ?_
                refine al_d rfl rfl rfl (by exact (by first | exact opd_pick_t rfl rfl rfl | exact opd_pick_f rfl rfl rfl | exact opd_pickt rfl rfl (by assumption) rfl | exact opd_pickf rfl rfl (by assumption) rfl | exact opd_pick rfl rfl rfl)) ?_
                refine al_d rfl rfl rfl (by exact opd_assign rfl rfl) ?_
                refine al_nil ?_
                refine awp_ret ?_
                -- return
                refine aret1 (H' := []) (by first | exact .inr rfl | exact .inl rfl) rfl (rval_tmp rfl) (Fin.wk (by simp) trivial trivial) ?_
                exact ⟨rfl, rfl⟩
              · have n1 : decide (x.sector < 0) = false := decide_eq_false q1
                by_cases q2 : (n : Int) ≤ x.sector
                · have n2 : decide ((n : Int) ≤ x.sector) = true := decide_eq_true q2
                  refine awp_seq ?_
                  refine awp_region ?_
                  refine al_d rfl rfl rfl (by exact opd_move rfl rfl) ?_
                  refine al_d rfl rfl rfl (by exact opd_move rfl rfl) ?_
                  refine al_ond rfl rfl rfl (by first | rfl | assumption) rfl rfl (by exact opd_move rfl rfl) ?_
                  refine al_ond rfl rfl rfl (by first | rfl | assumption) rfl rfl (by exact opd_eql rfl rfl rfl) ?_
                  refine al_d rfl rfl rfl (by exact (by first | exact opd_pick_t rfl rfl rfl | exact opd_pick_f rfl rfl rfl | exact opd_pickt rfl rfl (by assumption) rfl | exact opd_pickf rfl rfl (by assumption) rfl | exact opd_pick rfl rfl rfl)) ?_
                  refine al_d rfl rfl rfl (by exact opd_move rfl rfl) ?_
                  refine al_ond rfl rfl rfl (by first | rfl | assumption) rfl rfl (by exact opd_move rfl rfl) ?_
                  refine al_ond rfl rfl rfl (by first | rfl | assumption) rfl rfl (by exact opd_move rfl rfl) ?_
                  refine al_ond rfl rfl rfl (by first | rfl | assumption) rfl rfl (by exact opr_call rfl rfl Try.call37 rfl (sameLent_c (dConts s2 n) (dConts s2 n) true _ 600 _ _ _ (by rfl) (by rfl) (by exact rows_of encStr _) (by rw [dConts_len]) (by omega) (by omega) (decide_eq_true rfl))) ?_
                  refine al_d rfl rfl rfl (by exact (by first | exact opd_pick_t rfl rfl rfl | exact opd_pick_f rfl rfl rfl | exact opd_pickt rfl rfl (by assumption) rfl | exact opd_pickf rfl rfl (by assumption) rfl | exact opd_pick rfl rfl rfl)) ?_
                  refine al_d rfl rfl rfl (by exact opd_move rfl rfl) ?_
                  refine al_ond rfl rfl rfl (by first | rfl | assumption) rfl rfl (by exact (by first | exact opd_field_ref rfl fo55_1 rfl rfl rfl rfl | exact opd_field_pad rfl fo55_1 rfl rfl)) ?_
                  refine al_ond rfl rfl rfl (by first | rfl | assumption) rfl rfl (by exact (by first | exact opd_load1_ref rfl Try.isAgg3 rfl rfl rfl rfl rfl | exact opd_load1_pad rfl Try.isAgg3 rfl (by first | omega | assumption) rfl)) ?_
                  refine al_ond rfl rfl rfl (by first | rfl | assumption) rfl rfl (by exact opd_lss rfl rfl rfl) ?_
                  refine al_ond rfl rfl rfl (by first | rfl | assumption) rfl rfl (by exact opd_move rfl rfl) ?_
                  refine al_ond rfl rfl rfl (by first | rfl | assumption) rfl rfl (by exact (by first | exact opd_field_ref rfl fo55_1 rfl rfl rfl rfl | exact opd_field_pad rfl fo55_1 rfl rfl)) ?_
                  refine al_ond rfl rfl rfl (by first | rfl | assumption) rfl rfl (by exact (by first | exact opd_load1_ref rfl Try.isAgg3 rfl rfl rfl rfl rfl | exact opd_load1_pad rfl Try.isAgg3 rfl (by first | omega | assumption) rfl)) ?_
                  refine al_ond rfl rfl rfl (by first | rfl | assumption) rfl rfl (by exact opd_move rfl rfl) ?_
                  refine al_ond rfl rfl rfl (by first | rfl | assumption) rfl rfl (by exact opd_geq rfl rfl rfl) ?_
                  refine al_ond rfl rfl rfl (by first | rfl | assumption) rfl rfl (by exact (by first | exact opd_pick_t rfl rfl rfl | exact opd_pick_f rfl rfl rfl | exact opd_pickt rfl rfl (by assumption) rfl | exact opd_pickf rfl rfl (by assumption) rfl | exact opd_pick rfl rfl rfl)) ?_
                  refine al_ond rfl rfl rfl (by first | rfl | assumption) rfl rfl (by exact opd_move rfl rfl) ?_
                  refine al_off rfl rfl rfl (by first | rfl | assumption) rfl ?_
                  refine al_off rfl rfl rfl (by first | rfl | assumption) rfl ?_
                  refine al_off rfl rfl rfl (by first | rfl | assumption) rfl ?_
                  refine al_off rfl rfl rfl (by first | rfl | assumption) rfl ?_
                  refine al_ond rfl rfl rfl (by first | rfl | assumption) rfl rfl (by exact (by first | exact opd_pick_t rfl rfl rfl | exact opd_pick_f rfl rfl rfl | exact opd_pickt rfl rfl (by assumption) rfl | exact opd_pickf rfl rfl (by assumption) rfl | exact opd_pick rfl rfl rfl)) ?_
                  refine al_d rfl rfl rfl (by exact (by first | exact opd_pick_t rfl rfl rfl | exact opd_pick_f rfl rfl rfl | exact opd_pickt rfl rfl (by assumption) rfl | exact opd_pickf rfl rfl (by assumption) rfl | exact opd_pick rfl rfl rfl)) ?_
                  refine al_d rfl rfl rfl (by exact opd_assign rfl rfl) ?_
                  refine al_nil ?_
                  refine awp_ret ?_
                  -- return
                  refine aret1 (H' := []) (by first | exact .inr rfl | exact .inl rfl) rfl (rval_tmp rfl) (Fin.wk (by simp) trivial trivial) ?_
                  exact ⟨rfl, rfl⟩
                · have n2 : decide ((n : Int) ≤ x.sector) = false := decide_eq_false q2
                  have n3 : ¬ (aText x).size = 64 := fun h => by
                    have e : wGood s2 x.sector (aText x) = true := by
                      rw [wGood, secOk, hn2', decide_eq_true h, decide_eq_true (show 0 ≤ x.sector by omega), decide_eq_true (show x.sector < (n : Int) by omega)]; rfl
                    rw [hg] at e; cases e
                  refine awp_seq ?_
                  refine awp_region ?_
                  refine al_d rfl rfl rfl (by exact opd_move rfl rfl) ?_
                  refine al_d rfl rfl rfl (by exact opd_move rfl rfl) ?_
                  refine al_ond rfl rfl rfl (by first | rfl | assumption) rfl rfl (by exact opd_move rfl rfl) ?_
                  refine al_ond rfl rfl rfl (by first | rfl | assumption) rfl rfl (by exact opd_eql rfl rfl rfl) ?_
                  refine al_d rfl rfl rfl (by exact (by first | exact opd_pick_t rfl rfl rfl | exact opd_pick_f rfl rfl rfl | exact opd_pickt rfl rfl (by assumption) rfl | exact opd_pickf rfl rfl (by assumption) rfl | exact opd_pick rfl rfl rfl)) ?_
                  refine al_d rfl rfl rfl (by exact opd_move rfl rfl) ?_
                  refine al_ond rfl rfl rfl (by first | rfl | assumption) rfl rfl (by exact opd_move rfl rfl) ?_
                  refine al_ond rfl rfl rfl (by first | rfl | assumption) rfl rfl (by exact opd_move rfl rfl) ?_
                  refine al_ond rfl rfl rfl (by first | rfl | assumption) rfl rfl (by exact opr_call rfl rfl Try.call37 rfl (sameLent_c (dConts s2 n) (dConts s2 n) true _ 600 _ _ _ (by rfl) (by rfl) (by exact rows_of encStr _) (by rw [dConts_len]) (by omega) (by omega) (decide_eq_true rfl))) ?_
                  refine al_d rfl rfl rfl (by exact (by first | exact opd_pick_t rfl rfl rfl | exact opd_pick_f rfl rfl rfl | exact opd_pickt rfl rfl (by assumption) rfl | exact opd_pickf rfl rfl (by assumption) rfl | exact opd_pick rfl rfl rfl)) ?_
                  refine al_d rfl rfl rfl (by exact opd_move rfl rfl) ?_
                  refine al_ond rfl rfl rfl (by first | rfl | assumption) rfl rfl (by exact (by first | exact opd_field_ref rfl fo55_1 rfl rfl rfl rfl | exact opd_field_pad rfl fo55_1 rfl rfl)) ?_
                  refine al_ond rfl rfl rfl (by first | rfl | assumption) rfl rfl (by exact (by first | exact opd_load1_ref rfl Try.isAgg3 rfl rfl rfl rfl rfl | exact opd_load1_pad rfl Try.isAgg3 rfl (by first | omega | assumption) rfl)) ?_
                  refine al_ond rfl rfl rfl (by first | rfl | assumption) rfl rfl (by exact opd_lss rfl rfl rfl) ?_
                  refine al_ond rfl rfl rfl (by first | rfl | assumption) rfl rfl (by exact opd_move rfl rfl) ?_
                  refine al_ond rfl rfl rfl (by first | rfl | assumption) rfl rfl (by exact (by first | exact opd_field_ref rfl fo55_1 rfl rfl rfl rfl | exact opd_field_pad rfl fo55_1 rfl rfl)) ?_
                  refine al_ond rfl rfl rfl (by first | rfl | assumption) rfl rfl (by exact (by first | exact opd_load1_ref rfl Try.isAgg3 rfl rfl rfl rfl rfl | exact opd_load1_pad rfl Try.isAgg3 rfl (by first | omega | assumption) rfl)) ?_
                  refine al_ond rfl rfl rfl (by first | rfl | assumption) rfl rfl (by exact opd_move rfl rfl) ?_
                  refine al_ond rfl rfl rfl (by first | rfl | assumption) rfl rfl (by exact opd_geq rfl rfl rfl) ?_
                  refine al_ond rfl rfl rfl (by first | rfl | assumption) rfl rfl (by exact (by first | exact opd_pick_t rfl rfl rfl | exact opd_pick_f rfl rfl rfl | exact opd_pickt rfl rfl (by assumption) rfl | exact opd_pickf rfl rfl (by assumption) rfl | exact opd_pick rfl rfl rfl)) ?_
                  refine al_ond rfl rfl rfl (by first | rfl | assumption) rfl rfl (by exact opd_move rfl rfl) ?_
                  refine al_ond rfl rfl rfl (by first | rfl | assumption) rfl rfl (by exact (by first | exact opd_loadn_ref rfl Try.isAgg55 Try.sizeOf55 rfl rfl rfl rfl (by simp only [List.drop_succ_cons, List.drop_zero, List.take_succ_cons, List.take_zero, List.take_nil, List.map_cons, List.map_nil, List.set_cons_zero, List.set_cons_succ, List.cons_append, List.nil_append, encQ, armR, dRow, encAct]; rfl) rfl | exact opd_loadn_pad rfl Try.isAgg55 Try.sizeOf55 rfl (by first | omega | assumption) (by simp only [List.drop_succ_cons, List.drop_zero, List.take_succ_cons, List.take_zero, List.take_nil, List.map_cons, List.map_nil, List.set_cons_zero, List.set_cons_succ, List.cons_append, List.nil_append, encQ, armR, dRow, encAct]; rfl) rfl)) ?_
                  refine al_ond rfl rfl rfl (by first | rfl | assumption) rfl rfl (by exact opr_call rfl rfl Try.call34 rfl (text_c x _ hxt)) ?_
                  refine al_ond rfl rfl rfl (by first | rfl | assumption) rfl rfl (by exact opd_len_str rfl Try.underlying9 rfl) ?_
                  refine al_ond rfl rfl rfl (by first | rfl | assumption) rfl rfl (by exact opd_neq rfl rfl rfl) ?_
                  refine al_ond rfl rfl rfl (by first | rfl | assumption) rfl rfl (by exact (by first | exact opd_pick_t rfl rfl rfl | exact opd_pick_f rfl rfl rfl | exact opd_pickt rfl rfl (by assumption) rfl | exact opd_pickf rfl rfl (by assumption) rfl | exact opd_pick rfl rfl rfl)) ?_
                  refine al_d rfl rfl rfl (by exact (by first | exact opd_pick_t rfl rfl rfl | exact opd_pick_f rfl rfl rfl | exact opd_pickt rfl rfl (by assumption) rfl | exact opd_pickf rfl rfl (by assumption) rfl | exact opd_pick rfl rfl rfl)) ?_
                  refine al_d rfl rfl rfl (by exact opd_assign rfl rfl) ?_
                  refine al_nil ?_
                  refine awp_ret ?_
                  -- return
                  refine aret1 (H' := []) (by first | exact .inr rfl | exact .inl rfl) rfl (rval_tmp rfl) (Fin.wk (by simp) trivial trivial) ?_
                  refine ⟨?_, rfl⟩
                  have : decide (((aText x).size : Int) = 64) = false := decide_eq_false (by omega)
                  rw [this]; rfl
            · cases hc4
        · rw [hk] at hg
          obtain ⟨e1, e2⟩ := calm_yes hca hg
          have hwr := cW hi2 (by omega) e2 e1
          rw [← hk] at hwr
          have hkn' : k < n := by omega
          have hi3 := inv_write hi2 (by omega) (k : Int) (aText x)
          rw [e1] at hi3
          have hca3 := calm_w hca k (aText x)
          have hn3 := hi3.n
          have hco2 := contents_c _ n hi3.ok hca3.1 (by omega)
          have hcl3 := dConts_len (wState s2 k (aText x)) n
          have hcw := dConts_w s2 k (aText x) n hkn'
          have hi4 := inv_fail hi3 0 0
          have hof := fail_off hca3.1 0 0
          obtain ⟨f1, f2⟩ := off_write hof 0 (tX 97)
          obtain ⟨f3, f4⟩ := off_read hof 0
          have hfail := fail_c _ 0 0 hi3.ok
          have hw4 := cW hi4 (by omega) f2 f1
          have hr4 := cR hi4 f3 f4
          obtain ⟨s3, hs3⟩ : ∃ s, s = wState s2 k (aText x) := ⟨_, rfl⟩
          rw [← hs3] at hwr hco2 hcl3 hcw hfail hw4 hr4
          obtain ⟨s4, hs4⟩ : ∃ s, s = dFail s3 0 0 := ⟨_, rfl⟩
          rw [← hs4] at hfail hw4 hr4
          obtain ⟨b0, hb0⟩ := get_of_lt (show k < (dConts s2 n).length by omega)
          have hb0 := stRows_get hb0
          have n1 : decide (x.sector < 0) = false := by rw [hk]; simp
          have n2 : ¬ (n : Int) ≤ x.sector := by omega
          have d5 : decide ((⟨#[]⟩ : ByteArray) = ⟨#[]⟩) = true := decide_eq_true rfl
          clear hs3 hs4 e1 e2 f1 f2 f3 f4 hof hca3 hg
          refine awp_drawc follows ?_
          refine dc_cons (r := ⟨_, some [1000], []⟩) (DStep.plain rfl (fun H1 hH => by exact opd_move rfl rfl)) rfl ?_
          refine dc_cons (r := ⟨_, some [5], []⟩) (DStep.plain rfl (fun H1 hH => by exact (by first | exact opd_field_ref rfl fo55_1 rfl ((hH _ rfl).trans rfl) rfl rfl | exact opd_field_pad rfl fo55_1 rfl rfl))) rfl ?_
          refine dc_cons (r := ⟨_, some [5], []⟩) (DStep.plain rfl (fun H1 hH => by exact (by first | exact opd_load1_ref rfl Try.isAgg3 rfl ((hH _ rfl).trans rfl) rfl rfl rfl | exact opd_load1_pad rfl Try.isAgg3 rfl (by first | omega | assumption) rfl))) rfl ?_
          refine dc_cons (r := ⟨_, some [5], []⟩) (DStep.plain rfl (fun H1 hH => by exact (by first | exact opd_loadn_ref rfl Try.isAgg55 Try.sizeOf55 rfl ((hH _ rfl).trans rfl) rfl rfl (by simp only [List.drop_succ_cons, List.drop_zero, List.take_succ_cons, List.take_zero, List.take_nil, List.map_cons, List.map_nil, List.set_cons_zero, List.set_cons_succ, List.cons_append, List.nil_append, encQ, armR, dRow, encAct]; rfl) rfl | exact opd_loadn_pad rfl Try.isAgg55 Try.sizeOf55 rfl (by first | omega | assumption) (by simp only [List.drop_succ_cons, List.drop_zero, List.take_succ_cons, List.take_zero, List.take_nil, List.map_cons, List.map_nil, List.set_cons_zero, List.set_cons_succ, List.cons_append, List.nil_append, encQ, armR, dRow, encAct]; rfl) rfl))) rfl ?_
          refine dc_cons (r := ⟨_, some [], []⟩) (DStep.plain rfl (fun H1 hH => by exact opr_call rfl rfl Try.call34 rfl (text_c x _ hxt))) rfl ?_
          refine dc_cons (r := ⟨_, some [1000, 1001, 1002, 1003], _⟩) (DStep.plain rfl (fun H1 hH => by exact opr_call rfl rfl Try.call33 rfl (disk_frame hwr _ ⟨(hH 1000 rfl).trans rfl, (hH 1001 rfl).trans rfl, (hH 1002 rfl).trans rfl, (hH 1003 rfl).trans rfl, trivial⟩ (by simp; rfl)))) rfl ?_
          refine dc_cons (r := ⟨_, some [1000], []⟩) (DStep.plain rfl (fun H1 hH => by exact opd_assign rfl rfl)) rfl ?_
          refine dc_nil ⟨by kernel_rfl, ?_⟩
          refine awp_seq ?_
          refine awp_region ?_
          refine al_d rfl rfl rfl (by exact opd_move rfl rfl) ?_
          refine al_d rfl rfl rfl (by exact opd_move rfl rfl) ?_
          refine al_d rfl rfl rfl (by exact opr_call rfl rfl Try.call32 rfl (disk_frame hco2 _ ⟨rfl, rfl, rfl, rfl, trivial⟩ (by simp; rfl))) ?_
          refine al_d rfl rfl rfl (by exact opd_move rfl rfl) ?_
          refine al_d rfl rfl rfl (by exact opd_extract rfl rfl rfl) ?_
          refine al_d rfl rfl rfl (by exact opd_extract rfl rfl rfl) ?_
          refine al_d rfl rfl rfl (by exact opd_assign rfl rfl) ?_
          refine al_d rfl rfl rfl (by exact opd_assign rfl rfl) ?_
          refine al_nil ?_
          refine awp_seq ?_
          refine awp_region ?_
          refine al_d rfl rfl rfl (by exact opd_move rfl rfl) ?_
          refine al_d rfl rfl rfl (by exact opd_move rfl rfl) ?_
          refine al_d rfl rfl rfl (by exact opr_call rfl rfl Try.call32 rfl (disk_frame hco2 _ ⟨rfl, rfl, rfl, rfl, trivial⟩ (by simp; rfl))) ?_
          refine al_d rfl rfl rfl (by exact opd_move rfl rfl) ?_
          refine al_d rfl rfl rfl (by exact opd_extract rfl rfl rfl) ?_
          refine al_d rfl rfl rfl (by exact opd_extract rfl rfl rfl) ?_
          refine al_d rfl rfl rfl (by exact opd_assign rfl rfl) ?_
          refine al_d rfl rfl rfl (by exact opd_assign rfl rfl) ?_
          refine al_nil ?_
          refine awp_seq ?_
          refine awp_seq ?_
          refine awp_region ?_
          refine al_d rfl rfl rfl (by exact opd_move rfl rfl) ?_
          refine al_d rfl rfl rfl (by exact opd_not rfl rfl) ?_
          refine al_d rfl rfl rfl (by exact opd_move rfl rfl) ?_
          refine al_ond rfl rfl rfl (by first | rfl | assumption) rfl rfl (by exact opd_move rfl rfl) ?_
          refine al_ond rfl rfl rfl (by first | rfl | assumption) rfl rfl (by exact opd_not rfl rfl) ?_
          refine al_d rfl rfl rfl (by exact (by first | exact opd_pick_t rfl rfl rfl | exact opd_pick_f rfl rfl rfl | exact opd_pickt rfl rfl (by assumption) rfl | exact opd_pickf rfl rfl (by assumption) rfl | exact opd_pick rfl rfl rfl)) ?_
          refine al_d rfl rfl rfl (by exact opd_move rfl rfl) ?_
          refine al_ond rfl rfl rfl (by first | rfl | assumption) rfl rfl (by exact opd_move rfl rfl) ?_
          refine al_ond rfl rfl rfl (by first | rfl | assumption) rfl rfl (by exact opd_not rfl rfl) ?_
          refine al_d rfl rfl rfl (by exact (by first | exact opd_pick_t rfl rfl rfl | exact opd_pick_f rfl rfl rfl | exact opd_pickt rfl rfl (by assumption) rfl | exact opd_pickf rfl rfl (by assumption) rfl | exact opd_pick rfl rfl rfl)) ?_
          refine al_d rfl rfl rfl (by exact opd_move rfl rfl) ?_
          refine al_ond rfl rfl rfl (by first | rfl | assumption) rfl rfl (by exact opd_move rfl rfl) ?_
          refine al_ond rfl rfl rfl (by first | rfl | assumption) rfl rfl (by exact opd_move rfl rfl) ?_
          refine al_ond rfl rfl rfl (by first | rfl | assumption) rfl rfl (by exact opr_call rfl rfl Try.call37 rfl (same_self _ _ (by rw [dConts_len]; omega))) ?_
          refine al_ond rfl rfl rfl (by first | rfl | assumption) rfl rfl (by exact opd_not rfl rfl) ?_
          refine al_d rfl rfl rfl (by exact (by first | exact opd_pick_t rfl rfl rfl | exact opd_pick_f rfl rfl rfl | exact opd_pickt rfl rfl (by assumption) rfl | exact opd_pickf rfl rfl (by assumption) rfl | exact opd_pick rfl rfl rfl)) ?_
          refine al_nil ?_
          refine awp_cond rfl (fun hc5 => ?_) (fun hc5 => ?_)
          -- cond 5
          · cases hc5
          · skip
            refine awp_skip ?_
            refine awp_seq ?_
            refine awp_seq ?_
            refine awp_region ?_
            refine al_d rfl rfl rfl (by exact opd_move rfl rfl) ?_
            refine al_d rfl rfl rfl (by exact opd_neq rfl rfl rfl) ?_
            refine al_nil ?_
            refine awp_cond rfl (fun hc6 => ?_) (fun hc6 => ?_)
            -- cond 6
            · cases hc6
            · skip
              refine awp_skip ?_
              refine awp_seq ?_
              refine awp_seq ?_
              refine awp_region ?_
              refine al_d rfl rfl rfl (by exact (by first | exact opd_field_ref rfl fo55_1 rfl rfl rfl rfl | exact opd_field_pad rfl fo55_1 rfl rfl)) ?_
              refine al_d rfl rfl rfl (by exact (by first | exact opd_load1_ref rfl Try.isAgg3 rfl rfl rfl rfl rfl | exact opd_load1_pad rfl Try.isAgg3 rfl (by first | omega | assumption) rfl)) ?_
              refine al_d rfl rfl rfl (by exact opd_lss rfl rfl rfl) ?_
              refine al_d rfl rfl rfl (by exact opd_move rfl rfl) ?_
              refine al_ond rfl rfl rfl (by first | rfl | assumption) rfl rfl (by exact (by first | exact opd_field_ref rfl fo55_1 rfl rfl rfl rfl | exact opd_field_pad rfl fo55_1 rfl rfl)) ?_
              refine al_ond rfl rfl rfl (by first | rfl | assumption) rfl rfl (by exact (by first | exact opd_load1_ref rfl Try.isAgg3 rfl rfl rfl rfl rfl | exact opd_load1_pad rfl Try.isAgg3 rfl (by first | omega | assumption) rfl)) ?_
              refine al_ond rfl rfl rfl (by first | rfl | assumption) rfl rfl (by exact opd_move rfl rfl) ?_
              refine al_ond rfl rfl rfl (by first | rfl | assumption) rfl rfl (by exact opd_geq rfl rfl rfl) ?_
              refine al_d rfl rfl rfl (by exact (by first | exact opd_pick_t rfl rfl rfl | exact opd_pick_f rfl rfl rfl | exact opd_pickt rfl rfl (by assumption) rfl | exact opd_pickf rfl rfl (by assumption) rfl | exact opd_pick rfl rfl rfl)) ?_
              refine al_nil ?_
              refine awp_cond rfl (fun hc7 => ?_) (fun hc7 => ?_)
              -- cond 7
              · exact absurd (of_decide_eq_true hc7) n2
              · skip
                refine awp_skip ?_
                refine awp_seq ?_
                refine awp_drawc follows ?_
                refine dc_cons (r := ⟨_, some [], []⟩) (DStep.plain rfl (fun H1 hH => by exact opd_move rfl rfl)) rfl ?_
                refine dc_cons (r := ⟨_, some [5], []⟩) (DStep.plain rfl (fun H1 hH => by exact (by first | exact opd_field_ref rfl fo55_1 rfl ((hH _ rfl).trans rfl) rfl rfl | exact opd_field_pad rfl fo55_1 rfl rfl))) rfl ?_
                refine dc_cons (r := ⟨_, some [5], []⟩) (DStep.plain rfl (fun H1 hH => by exact (by first | exact opd_load1_ref rfl Try.isAgg3 rfl ((hH _ rfl).trans rfl) rfl rfl rfl | exact opd_load1_pad rfl Try.isAgg3 rfl (by first | omega | assumption) rfl))) rfl ?_
                refine dc_cons (r := ⟨_, some [5], []⟩) (DStep.plain rfl (fun H1 hH => by exact (by first | exact opd_loadn_ref rfl Try.isAgg55 Try.sizeOf55 rfl ((hH _ rfl).trans rfl) rfl rfl (by simp only [List.drop_succ_cons, List.drop_zero, List.take_succ_cons, List.take_zero, List.take_nil, List.map_cons, List.map_nil, List.set_cons_zero, List.set_cons_succ, List.cons_append, List.nil_append, encQ, armR, dRow, encAct]; rfl) rfl | exact opd_loadn_pad rfl Try.isAgg55 Try.sizeOf55 rfl (by first | omega | assumption) (by simp only [List.drop_succ_cons, List.drop_zero, List.take_succ_cons, List.take_zero, List.take_nil, List.map_cons, List.map_nil, List.set_cons_zero, List.set_cons_succ, List.cons_append, List.nil_append, encQ, armR, dRow, encAct]; rfl) rfl))) rfl ?_
                refine dc_cons (r := ⟨_, some [], []⟩) (DStep.plain rfl (fun H1 hH => by exact opr_call rfl rfl Try.call34 rfl (text_c x _ hxt))) rfl ?_
                refine dc_cons (r := ⟨_, some [600], []⟩) (DStep.plain rfl (fun H1 hH => by exact x_index_osl (m := k) rfl so34 rfl ((hH 600 rfl).trans rfl) rfl rfl rfl (by omega) (by rw [hk]; rfl) (by omega) (Nat.zero_add _))) rfl ?_
                refine dc_cons (r := ⟨_, some [600], [_]⟩) (DStep.plain rfl (fun H1 hH => by exact x_store1 rfl Try.sizeOf9 rfl rfl rfl ((hH 600 rfl).trans rfl) rfl hb0 (by simp) rfl (stRows_set _ _ _))) rfl ?_
                refine dc_nil ⟨by kernel_rfl, ?_⟩
                refine awp_seq ?_
                refine awp_seq ?_
                refine awp_region ?_
                refine al_d rfl rfl rfl (by exact opd_move rfl rfl) ?_
                refine al_d rfl rfl rfl (by exact opd_move rfl rfl) ?_
                refine al_d rfl rfl rfl (by exact opr_call rfl rfl Try.call37 rfl (sameLent_c ((dConts s2 n).set k (aText x)) (dConts s3 n) true _ 600 _ _ _ (by rfl) (by rfl) (by exact rows_of encStr _) (by rw [List.length_set, dConts_len]) (by rw [List.length_set]; omega) (by omega) (by rw [hcw]; exact decide_eq_true rfl))) ?_
                refine al_d rfl rfl rfl (by exact opd_not rfl rfl) ?_
                refine al_nil ?_
                refine awp_cond rfl (fun hc8 => ?_) (fun hc8 => ?_)
                -- cond 8
                · cases hc8
                · skip
                  refine awp_skip ?_
                  refine awp_seq ?_
                  refine awp_region ?_
                  refine al_d rfl rfl rfl (by exact opd_move rfl rfl) ?_
                  refine al_d rfl rfl rfl (by exact opr_call rfl rfl Try.call35 rfl (disk_frame hfail _ ⟨rfl, rfl, rfl, rfl, trivial⟩ (by simp; rfl))) ?_
                  refine al_nil ?_
                  refine awp_seq ?_
                  refine awp_region ?_
                  refine al_d rfl rfl rfl (by exact opd_move rfl rfl) ?_
                  refine al_d rfl rfl rfl (by exact opr_call rfl rfl Try.call38 rfl (fillX_c 97 _)) ?_
                  refine al_d rfl rfl rfl (by exact opr_call rfl rfl Try.call33 rfl (disk_frame hw4 _ ⟨rfl, rfl, rfl, rfl, trivial⟩ (by simp; rfl))) ?_
                  refine al_d rfl rfl rfl (by exact opd_assign rfl rfl) ?_
                  refine al_nil ?_
                  refine awp_seq ?_
                  refine awp_region ?_
                  refine al_d rfl rfl rfl (by exact opd_move rfl rfl) ?_
                  refine al_d rfl rfl rfl (by exact opr_call rfl rfl Try.call28 rfl (disk_frame hr4 _ ⟨rfl, rfl, rfl, rfl, trivial⟩ (by simp; rfl))) ?_
                  refine al_d rfl rfl rfl (by exact opd_move rfl rfl) ?_
                  refine al_d rfl rfl rfl (by exact opd_extract rfl rfl rfl) ?_
                  refine al_d rfl rfl rfl (by exact opd_extract rfl rfl rfl) ?_
                  refine al_d rfl rfl rfl (by exact opd_assign rfl rfl) ?_
                  refine al_d rfl rfl rfl (by exact opd_assign rfl rfl) ?_
                  refine al_nil ?_
                  refine awp_seq ?_
                  refine awp_region ?_
                  refine al_d rfl rfl rfl (by exact opd_move rfl rfl) ?_
                  refine al_d rfl rfl rfl (by exact opd_move rfl rfl) ?_
                  refine al_ond rfl rfl rfl (by first | rfl | assumption) rfl rfl (by exact opd_move rfl rfl) ?_
                  refine al_ond rfl rfl rfl (by first | rfl | assumption) rfl rfl (by exact opd_eql rfl rfl rfl) ?_
                  refine al_d rfl rfl rfl (by exact (by first | exact opd_pick_t rfl rfl rfl | exact opd_pick_f rfl rfl rfl | exact opd_pickt rfl rfl (by assumption) rfl | exact opd_pickf rfl rfl (by assumption) rfl | exact opd_pick rfl rfl rfl)) ?_
                  refine al_d rfl rfl rfl (by exact opd_move rfl rfl) ?_
                  refine al_ond rfl rfl rfl (by first | rfl | assumption) rfl rfl (by exact opd_move rfl rfl) ?_
                  refine al_ond rfl rfl rfl (by first | rfl | assumption) rfl rfl (by exact opd_eql rfl rfl rfl) ?_
                  refine al_d rfl rfl rfl (by exact (by first | exact opd_pick_t rfl rfl rfl | exact opd_pick_f rfl rfl rfl | exact opd_pickt rfl rfl (by assumption) rfl | exact opd_pickf rfl rfl (by assumption) rfl | exact opd_pick rfl rfl rfl)) ?_
                  refine al_d rfl rfl rfl (by exact opd_move rfl rfl) ?_
                  refine al_ond rfl rfl rfl (by first | rfl | assumption) rfl rfl (by exact opd_move rfl rfl) ?_
                  refine al_ond rfl rfl rfl (by first | rfl | assumption) rfl rfl (by exact opd_seql rfl rfl rfl) ?_
                  refine al_d rfl rfl rfl (by exact (by first | exact opd_pick_t rfl rfl rfl | exact opd_pick_f rfl rfl rfl | exact opd_pickt rfl rfl (by assumption) rfl | exact opd_pickf rfl rfl (by assumption) rfl | exact opd_pick rfl rfl rfl)) ?_
                  refine al_d rfl rfl rfl (by exact opd_assign rfl rfl) ?_
                  refine al_nil ?_
                  refine awp_ret ?_
                  -- return
                  refine aret1 (H' := []) (by first | exact .inr rfl | exact .inl rfl) rfl (rval_tmp rfl) (Fin.wk (by simp) trivial trivial) ?_
                  exact ⟨by rw [d5], rfl⟩
end Go.Proofs.Ytljocbkebhgkoaa
