/-
  CONTRACTS: planispherelaw46.prefix; plain laws on torn writes. Conditions: the arguments' sizes.
-/
import Derived.Test.YtljocbkebhgkoaaD14
set_option linter.unusedVariables false
set_option linter.unusedSimpArgs false
set_option maxRecDepth 100000
namespace Go.Proofs.Ytljocbkebhgkoaa
open Go.Abs

theorem ba_app2 (t u : ByteArray) : t ++ u = ⟨(t.data.toList ++ u.data.toList).toArray⟩ := by
  apply ByteArray.ext
  rw [ByteArray.data_append]
  simp
theorem over_eq {t c : ByteArray} {b : Nat} (hb : b ≤ t.size) (ht : t.size = c.size) : over (t.extract 0 b) c = t.extract 0 b ++ c.extract b c.size := by
  rw [ba_app2, over, ext_size hb]
  congr 2
  congr 1
  simp
  rw [List.take_of_length_le (by simp [ba_size])]
theorem conts_get {s : DSt} {n i : Nat} (hi : i < n) : (dConts s n)[i]? = some (dText s i) := by rw [dConts, List.getElem?_map, List.getElem?_range hi]; rfl
theorem conts_nil {s : DSt} {n : Nat} (hq : s.q = []) (hn : s.cells.length = n) : dConts s n = s.cells := by
  apply List.ext_getElem?
  intro i
  by_cases hi : i < n
  · rw [conts_get hi, dText_nil hq]
    obtain ⟨c, hc⟩ := get_of_lt (show i < s.cells.length by omega)
    rw [hc]; rfl
  · rw [List.getElem?_eq_none (by rw [dConts_len]; omega), List.getElem?_eq_none (by omega)]
theorem put_text (cells : List ByteArray) (i : Nat) (hi : i < cells.length) : ∀ r : List (Nat × ByteArray), (putAll cells r.reverse)[i]? = some (((r.find? (isSec i)).map (·.2)).getD ((cells[i]?).getD ⟨#[]⟩))
  | [] => by
    obtain ⟨c, hc⟩ := get_of_lt hi
    show cells[i]? = _
    rw [hc]; rfl
  | p :: r => by
    rw [List.reverse_cons, putAll_snoc, List.find?_cons]
    by_cases e : i = p.1
    · subst e
      have : isSec p.1 p = true := by simp [isSec]
      rw [List.getElem?_set_self (by rw [putAll_len]; exact hi), this]; rfl
    · have : isSec i p = false := by simpa [isSec] using fun h => e h.symm
      rw [List.getElem?_set_ne (Ne.symm e), this]
      exact put_text cells i hi r
theorem conts_put {s : DSt} {n : Nat} (hn : s.cells.length = n) : dConts s n = putAll s.cells s.q := by
  apply List.ext_getElem?
  intro i
  by_cases hi : i < n
  · rw [conts_get hi]
    have := put_text s.cells i (by omega) s.q.reverse
    rw [List.reverse_reverse] at this
    rw [this]; rfl
  · rw [List.getElem?_eq_none (by rw [dConts_len]; omega), List.getElem?_eq_none (by rw [putAll_len]; omega)]
/-- The writes that succeed. -/
def goodA (n : Nat) (a : GAct) : Bool := decide (0 ≤ a.sector) && decide (a.sector < (n : Int)) && decide ((aText a).size = 64)
def wl (n : Nat) (l : List GAct) : List (Nat × ByteArray) := l.filterMap fun a => if goodA n a then some (a.sector.toNat, aText a) else none
theorem wl_app (n : Nat) (a b : List GAct) : wl n (a ++ b) = wl n a ++ wl n b := List.filterMap_append
theorem wl_len (n : Nat) (l : List GAct) : (wl n l).length ≤ l.length := List.length_filterMap_le _ _
theorem wl_no {n : Nat} {a : GAct} (h : goodA n a = false) : wl n [a] = [] := by simp [wl, h]
theorem wl_yes {n : Nat} {a : GAct} (h : goodA n a = true) : wl n [a] = [(a.sector.toNat, aText a)] := by simp [wl, h]
theorem wl_pre (n : Nat) (l : List GAct) (i : Nat) : wl n (l.take i) = (wl n l).take (wl n (l.take i)).length := by
  conv => rhs; rw [← List.take_append_drop i l, wl_app]
  rw [List.take_append_drop, List.take_left]
/-- A calm disk with given pending writes. -/
structure PInv (s3 s : DSt) (n m : Nat) (q : List (Nat × ByteArray)) : Prop where
  inv : DInv s n m
  calm : Calm s
  cells : s.cells = s3.cells
  q : s.q = q
theorem pinv_step {s3 s : DSt} {n m : Nat} {q : List (Nat × ByteArray)} (h : PInv s3 s n m q) (hm : m < 1048576) (a : GAct) :
    ∃ s' : DSt, (∃ e : Int, (decide (e = 0) = goodA n a) ∧ ACalls Try.prog 33 [.ref 1000 0 0 0, iv a.sector, sv (aText a)] (diskH s) (fun r H' => r = iv e ∧ H' = diskH s')) ∧ PInv s3 s' n (m + 1) (q ++ wl n [a]) := by
  have hn := h.inv.n
  have hq := h.inv.q
  rcases wGood_cases s a.sector (aText a) with hg | ⟨hg, k, hk, hkn, hk64⟩
  · obtain ⟨e1, e2⟩ := calm_no h.calm hg
    have hga : goodA n a = false := by
      rw [wGood, secOk, hn] at hg
      exact hg
    exact ⟨s, ⟨1, by rw [hga]; rfl, cW h.inv hm e2 e1⟩, h.inv.mono (Nat.le_succ _), h.calm, h.cells, by rw [wl_no hga, List.append_nil]; exact h.q⟩
  · have hga : goodA n a = true := by
      rw [wGood, secOk, hn] at hg
      exact hg
    have hg' := hg
    rw [hk] at hg'
    obtain ⟨e1, e2⟩ := calm_yes h.calm hg'
    have hw := cW h.inv hm e2 e1
    rw [← hk] at hw
    refine ⟨_, ⟨0, by rw [hga]; rfl, hw⟩, ⟨wState_ok h.inv.ok hkn hk64 (by omega), h.inv.arm, h.inv.n, by show (s.q ++ [_]).length ≤ _; simp; exact hq⟩, h.calm, h.cells, ?_⟩
    rw [wl_yes hga, ← h.q]
    show s.q ++ [(k, aText a)] = _
    rw [hk, Int.toNat_natCast]
abbrev ownOut (n : Nat) (l : List ByteArray) : Heap := [(600, ⟨n, 1, 9, stRows l⟩)]
theorem prefix_c (n : Nat) (l after : List GAct) (m0 : Nat) (hn1 : 1 ≤ n) (hn2 : n ≤ 12) (hl : szActs 1048576 l) (ha : szActs 1048576 after) (hkl : l.length ≤ 60) (hka : after.length ≤ 60) (s3 : DSt) (hs3 : s3 = dSync (dStart (runAll (dNew n) l))) :
    ACalls Try.prog 36 [iv (n : Int), .pv (slActs l), .pv (slActs after), iv (m0 : Int)] [] (fun r H' => r = .tup [.osl 600 n 0 n, bv true] ∧ H' = ownOut n (putAll s3.cells ((wl n after).take m0))) := by
  have hml : (l.map encAct).length = l.length := List.length_map _
  have hma : (after.map encAct).length = after.length := List.length_map _
  obtain ⟨s0, hs0, hi0, hnew⟩ := new_any n hn1 hn2
  rw [← hs0] at hs3
  clear hs0
  refine ACalls.body Try.func36 rfl Try.ntmps36 (Nat.le_of_ble_eq_true rfl) ?_
  refine awp_seq ?_
  refine awp_region ?_
  refine al_d rfl rfl rfl (by exact opd_assign rfl rfl) ?_
  refine al_d rfl rfl rfl (by exact opd_assign rfl rfl) ?_
  refine al_nil ?_
  refine awp_seq ?_
  refine awp_region ?_
  refine al_d rfl rfl rfl (by exact opd_move rfl rfl) ?_
  refine al_d rfl rfl rfl (by exact opr_call rfl rfl Try.call23 rfl (hnew _ rfl rfl rfl rfl)) ?_
  refine al_d rfl rfl rfl (by exact opd_assign rfl rfl) ?_
  refine al_nil ?_
  refine awp_seq ?_
  refine awp_seq ?_
  refine awp_region ?_
  refine al_d rfl rfl rfl (by exact opd_assign rfl rfl) ?_
  refine al_nil ?_
  refine awp_block ?_
  -- loop
  refine awp_loop (σ := Nat) (fun i => ([(0, iv (n : Int)), (1, .pv (slActs l)), (2, .pv (slActs after)), (3, iv (m0 : Int)), (10, .ref 1000 0 0 0), (11, iv (i : Int))], diskH (runAll s0 (l.take i)))) (fun i => i ≤ l.length) (fun i => l.length - i) 0 (by omega) ?_ ?_
  · exact (Ent.wk ⟨⟨_, rfl, rfl⟩, (by first | (simp; done) | (simp; rfl) | exact clo_map _ _ _ | exact clo_brows _ _ | exact disk_clo _ _ rfl rfl rfl | exact arm_clo _ _ | exact clo_bools _ _ | (simp; exact ⟨rfl, rfl⟩) | (simp; exact ⟨rfl, rfl, rfl⟩)), ⟨_, rfl, rfl⟩, (by first | (simp; done) | (simp; rfl) | exact clo_map _ _ _ | exact clo_brows _ _ | exact disk_clo _ _ rfl rfl rfl | exact arm_clo _ _ | exact clo_bools _ _ | (simp; exact ⟨rfl, rfl⟩) | (simp; exact ⟨rfl, rfl, rfl⟩)), ⟨_, rfl, rfl⟩, (by first | (simp; done) | (simp; rfl) | exact clo_map _ _ _ | exact clo_brows _ _ | exact disk_clo _ _ rfl rfl rfl | exact arm_clo _ _ | exact clo_bools _ _ | (simp; exact ⟨rfl, rfl⟩) | (simp; exact ⟨rfl, rfl, rfl⟩)), ⟨_, rfl, rfl⟩, (by first | (simp; done) | (simp; rfl) | exact clo_map _ _ _ | exact clo_brows _ _ | exact disk_clo _ _ rfl rfl rfl | exact arm_clo _ _ | exact clo_bools _ _ | (simp; exact ⟨rfl, rfl⟩) | (simp; exact ⟨rfl, rfl, rfl⟩)), ⟨_, rfl, rfl⟩, (by first | (simp; done) | (simp; rfl) | exact clo_map _ _ _ | exact clo_brows _ _ | exact disk_clo _ _ rfl rfl rfl | exact arm_clo _ _ | exact clo_bools _ _ | (simp; exact ⟨rfl, rfl⟩) | (simp; exact ⟨rfl, rfl, rfl⟩)), ⟨_, rfl, rfl⟩, (by first | (simp; done) | (simp; rfl) | exact clo_map _ _ _ | exact clo_brows _ _ | exact disk_clo _ _ rfl rfl rfl | exact arm_clo _ _ | exact clo_bools _ _ | (simp; exact ⟨rfl, rfl⟩) | (simp; exact ⟨rfl, rfl, rfl⟩)), trivial⟩ ⟨⟨_, rfl, rfl⟩, (by first | (simp; done) | (simp; rfl) | exact clo_map _ _ _ | exact clo_brows _ _ | exact disk_clo _ _ rfl rfl rfl | exact arm_clo _ _ | exact clo_bools _ _ | (simp; exact ⟨rfl, rfl⟩) | (simp; exact ⟨rfl, rfl, rfl⟩)), ⟨_, rfl, rfl⟩, (by first | (simp; done) | (simp; rfl) | exact clo_map _ _ _ | exact clo_brows _ _ | exact disk_clo _ _ rfl rfl rfl | exact arm_clo _ _ | exact clo_bools _ _ | (simp; exact ⟨rfl, rfl⟩) | (simp; exact ⟨rfl, rfl, rfl⟩)), ⟨_, rfl, rfl⟩, (by first | (simp; done) | (simp; rfl) | exact clo_map _ _ _ | exact clo_brows _ _ | exact disk_clo _ _ rfl rfl rfl | exact arm_clo _ _ | exact clo_bools _ _ | (simp; exact ⟨rfl, rfl⟩) | (simp; exact ⟨rfl, rfl, rfl⟩)), ⟨_, rfl, rfl⟩, (by first | (simp; done) | (simp; rfl) | exact clo_map _ _ _ | exact clo_brows _ _ | exact disk_clo _ _ rfl rfl rfl | exact arm_clo _ _ | exact clo_bools _ _ | (simp; exact ⟨rfl, rfl⟩) | (simp; exact ⟨rfl, rfl, rfl⟩)), trivial⟩ trivial)
  · intro i hi
    have hinv := run_inv hi0 hkl hl.wf hi
    refine awp_seq ?_
    refine awp_seq ?_
    refine awp_region ?_
    refine al_d rfl rfl rfl (by exact opd_move rfl rfl) ?_
    refine al_d rfl rfl rfl (by exact opd_move rfl rfl) ?_
    refine al_d rfl rfl rfl (by exact (by first | exact opd_len_sl rfl Try.underlying44 rfl | exact opd_len_osl rfl Try.underlying44 rfl rfl rfl)) ?_
    refine al_d rfl rfl rfl (by exact opd_lss rfl rfl rfl) ?_
    refine al_nil ?_
    refine awp_cond rfl (fun hc1 => ?_) (fun hc1 => ?_)
    -- cond 1
    · have hlt : i < l.length := by have := of_decide_eq_true hc1; omega
      obtain ⟨a, hai⟩ := get_of_lt hlt
      have hae := map_get (f := encAct) hai
      have hdo := run_do hinv hai (hl.txt a (List.mem_of_getElem? hai))
      refine awp_skip ?_
      refine awp_seq ?_
      refine awp_block ?_
      refine awp_region ?_
      refine al_d rfl rfl rfl (by exact opd_move rfl rfl) ?_
      refine al_d rfl rfl rfl (by exact opd_move rfl rfl) ?_
      refine al_d rfl rfl rfl (by exact opd_move rfl rfl) ?_
      refine al_d rfl rfl rfl (by exact (by first | exact x_index_pad rfl so44 rfl rfl (by omega) (by first | exact Int.toNat_natCast _ | rfl) (by assumption) rfl | exact x_index_osl rfl so44 rfl rfl rfl rfl rfl (by omega) (by first | exact Int.toNat_natCast _ | rfl) (by first | omega | assumption) rfl)) ?_
      refine al_d rfl rfl rfl (by exact (by first | exact opd_loadn_ref rfl Try.isAgg55 Try.sizeOf55 rfl rfl rfl rfl (by simp only [List.drop_succ_cons, List.drop_zero, List.take_succ_cons, List.take_zero, List.take_nil, List.map_cons, List.map_nil, List.set_cons_zero, List.set_cons_succ, List.cons_append, List.nil_append, encQ, armR, dRow, encAct]; rfl) rfl | exact opd_loadn_pad rfl Try.isAgg55 Try.sizeOf55 rfl (by first | omega | assumption) (by simp only [List.drop_succ_cons, List.drop_zero, List.take_succ_cons, List.take_zero, List.take_nil, List.map_cons, List.map_nil, List.set_cons_zero, List.set_cons_succ, List.cons_append, List.nil_append, encQ, armR, dRow, encAct]; rfl) rfl)) ?_
      refine al_d rfl rfl rfl (by exact opr_call rfl rfl Try.call26 rfl (disk_frame hdo _ ⟨rfl, rfl, rfl, rfl, trivial⟩ (by simp [encAct]; rfl))) ?_
      refine al_nil ?_
      refine awp_region ?_
      refine al_d rfl rfl rfl (by exact opd_move rfl rfl) ?_
      refine al_d rfl rfl rfl (by exact opd_add rfl rfl rfl (by first | exact w64 (by omega) (by omega) | exact wu8 (by omega) (by omega) | rfl)) ?_
      refine al_d rfl rfl rfl (by exact opd_assign rfl rfl) ?_
      refine al_nil ?_
      -- end of a round
      exact ⟨i + 1, by omega, by omega, (Ent.wk ⟨⟨_, rfl, rfl⟩, (by first | (simp; done) | (simp; rfl) | exact clo_map _ _ _ | exact clo_brows _ _ | exact disk_clo _ _ rfl rfl rfl | exact arm_clo _ _ | exact clo_bools _ _ | (simp; exact ⟨rfl, rfl⟩) | (simp; exact ⟨rfl, rfl, rfl⟩)), ⟨_, rfl, rfl⟩, (by first | (simp; done) | (simp; rfl) | exact clo_map _ _ _ | exact clo_brows _ _ | exact disk_clo _ _ rfl rfl rfl | exact arm_clo _ _ | exact clo_bools _ _ | (simp; exact ⟨rfl, rfl⟩) | (simp; exact ⟨rfl, rfl, rfl⟩)), ⟨_, rfl, rfl⟩, (by first | (simp; done) | (simp; rfl) | exact clo_map _ _ _ | exact clo_brows _ _ | exact disk_clo _ _ rfl rfl rfl | exact arm_clo _ _ | exact clo_bools _ _ | (simp; exact ⟨rfl, rfl⟩) | (simp; exact ⟨rfl, rfl, rfl⟩)), ⟨_, rfl, rfl⟩, (by first | (simp; done) | (simp; rfl) | exact clo_map _ _ _ | exact clo_brows _ _ | exact disk_clo _ _ rfl rfl rfl | exact arm_clo _ _ | exact clo_bools _ _ | (simp; exact ⟨rfl, rfl⟩) | (simp; exact ⟨rfl, rfl, rfl⟩)), ⟨_, rfl, rfl⟩, (by first | (simp; done) | (simp; rfl) | exact clo_map _ _ _ | exact clo_brows _ _ | exact disk_clo _ _ rfl rfl rfl | exact arm_clo _ _ | exact clo_bools _ _ | (simp; exact ⟨rfl, rfl⟩) | (simp; exact ⟨rfl, rfl, rfl⟩)), ⟨_, rfl, rfl⟩, (by first | (simp; done) | (simp; rfl) | exact clo_map _ _ _ | exact clo_brows _ _ | exact disk_clo _ _ rfl rfl rfl | exact arm_clo _ _ | exact clo_bools _ _ | (simp; exact ⟨rfl, rfl⟩) | (simp; exact ⟨rfl, rfl, rfl⟩)), trivial⟩ ⟨⟨_, rfl, rfl⟩, (by first | (simp; done) | (simp; rfl) | exact clo_map _ _ _ | exact clo_brows _ _ | exact disk_clo _ _ rfl rfl rfl | exact arm_clo _ _ | exact clo_bools _ _ | (simp; exact ⟨rfl, rfl⟩) | (simp; exact ⟨rfl, rfl, rfl⟩)), ⟨_, rfl, rfl⟩, (by first | (simp; done) | (simp; rfl) | exact clo_map _ _ _ | exact clo_brows _ _ | exact disk_clo _ _ rfl rfl rfl | exact arm_clo _ _ | exact clo_bools _ _ | (simp; exact ⟨rfl, rfl⟩) | (simp; exact ⟨rfl, rfl, rfl⟩)), ⟨_, rfl, rfl⟩, (by first | (simp; done) | (simp; rfl) | exact clo_map _ _ _ | exact clo_brows _ _ | exact disk_clo _ _ rfl rfl rfl | exact arm_clo _ _ | exact clo_bools _ _ | (simp; exact ⟨rfl, rfl⟩) | (simp; exact ⟨rfl, rfl, rfl⟩)), ⟨_, rfl, rfl⟩, (by first | (simp; done) | (simp; rfl) | exact clo_map _ _ _ | exact clo_brows _ _ | exact disk_clo _ _ rfl rfl rfl | exact arm_clo _ _ | exact clo_bools _ _ | (simp; exact ⟨rfl, rfl⟩) | (simp; exact ⟨rfl, rfl, rfl⟩)), trivial⟩ trivial)⟩
    · have hge : i = l.length := by have : ¬ _ := of_decide_eq_false hc1; omega
      subst hge
      rw [List.take_length] at hinv ⊢
      obtain ⟨s1, hs1⟩ : ∃ s, s = runAll s0 l := ⟨_, rfl⟩
      rw [← hs1] at hinv hs3 ⊢
      clear hs1
      have hi2 := inv_start hinv
      have hca := calm_start s1
      obtain ⟨q1, q2⟩ := calm_sync hca
      have hi3 := inv_sync hi2
      have hsy := cS hi2 q2 rfl
      rw [← hs3] at hi3 hsy q1
      have hca3 : Calm s3 := by rw [q1]; exact calm_flush hca
      have hq3 : s3.q = [] := by rw [q1]; rfl
      clear hs3 q1 q2
      refine awp_exit ?_
      refine awp_seq ?_
      refine awp_region ?_
      refine al_d rfl rfl rfl (by exact opd_move rfl rfl) ?_
      refine al_d rfl rfl rfl (by exact opr_call rfl rfl Try.call30 rfl (disk_frame (start_c s1) _ ⟨rfl, rfl, rfl, rfl, trivial⟩ (by simp; rfl))) ?_
      refine al_nil ?_
      refine awp_seq ?_
      refine awp_region ?_
      refine al_d rfl rfl rfl (by exact opd_move rfl rfl) ?_
      refine al_d rfl rfl rfl (by exact opr_call rfl rfl Try.call31 rfl (disk_frame hsy _ ⟨rfl, rfl, rfl, rfl, trivial⟩ (by simp; rfl))) ?_
      refine al_nil ?_
      refine awp_seq ?_
      refine awp_region ?_
      refine al_d rfl rfl rfl (by exact opd_assign rfl rfl) ?_
      refine al_nil ?_
      refine awp_seq ?_
      refine awp_seq ?_
      refine awp_region ?_
      refine al_d rfl rfl rfl (by exact opd_assign rfl rfl) ?_
      refine al_nil ?_
      refine awp_block ?_
      -- loop
      refine awp_loop2 (fun (i : Nat) (s : DSt) => ([(0, iv (n : Int)), (2, .pv (slActs after)), (3, iv (m0 : Int)), (10, .ref 1000 0 0 0), (12, iv ((wl n (after.take i)).length : Int)), (13, iv (i : Int))], diskH s))
        (fun i s => i ≤ after.length ∧ (wl n (after.take i)).length ≤ m0 ∧ PInv s3 s n (60 + i) (wl n (after.take i))) (fun i _ => after.length - i) 0 s3 ⟨by omega, by simp [wl], hi3.mono (by omega), hca3, rfl, hq3⟩ ?_ ?_
      · exact (Ent.wk ⟨⟨_, rfl, rfl⟩, (by first | (simp; done) | (simp; rfl) | exact clo_map _ _ _ | exact clo_brows _ _ | exact disk_clo _ _ rfl rfl rfl | exact arm_clo _ _ | exact clo_bools _ _ | (simp; exact ⟨rfl, rfl⟩) | (simp; exact ⟨rfl, rfl, rfl⟩)), ⟨_, rfl, rfl⟩, (by first | (simp; done) | (simp; rfl) | exact clo_map _ _ _ | exact clo_brows _ _ | exact disk_clo _ _ rfl rfl rfl | exact arm_clo _ _ | exact clo_bools _ _ | (simp; exact ⟨rfl, rfl⟩) | (simp; exact ⟨rfl, rfl, rfl⟩)), ⟨_, rfl, rfl⟩, (by first | (simp; done) | (simp; rfl) | exact clo_map _ _ _ | exact clo_brows _ _ | exact disk_clo _ _ rfl rfl rfl | exact arm_clo _ _ | exact clo_bools _ _ | (simp; exact ⟨rfl, rfl⟩) | (simp; exact ⟨rfl, rfl, rfl⟩)), ⟨_, rfl, rfl⟩, (by first | (simp; done) | (simp; rfl) | exact clo_map _ _ _ | exact clo_brows _ _ | exact disk_clo _ _ rfl rfl rfl | exact arm_clo _ _ | exact clo_bools _ _ | (simp; exact ⟨rfl, rfl⟩) | (simp; exact ⟨rfl, rfl, rfl⟩)), ⟨_, rfl, rfl⟩, (by first | (simp; done) | (simp; rfl) | exact clo_map _ _ _ | exact clo_brows _ _ | exact disk_clo _ _ rfl rfl rfl | exact arm_clo _ _ | exact clo_bools _ _ | (simp; exact ⟨rfl, rfl⟩) | (simp; exact ⟨rfl, rfl, rfl⟩)), ⟨_, rfl, rfl⟩, (by first | (simp; done) | (simp; rfl) | exact clo_map _ _ _ | exact clo_brows _ _ | exact disk_clo _ _ rfl rfl rfl | exact arm_clo _ _ | exact clo_bools _ _ | (simp; exact ⟨rfl, rfl⟩) | (simp; exact ⟨rfl, rfl, rfl⟩)), trivial⟩ ⟨⟨_, rfl, rfl⟩, (by first | (simp; done) | (simp; rfl) | exact clo_map _ _ _ | exact clo_brows _ _ | exact disk_clo _ _ rfl rfl rfl | exact arm_clo _ _ | exact clo_bools _ _ | (simp; exact ⟨rfl, rfl⟩) | (simp; exact ⟨rfl, rfl, rfl⟩)), ⟨_, rfl, rfl⟩, (by first | (simp; done) | (simp; rfl) | exact clo_map _ _ _ | exact clo_brows _ _ | exact disk_clo _ _ rfl rfl rfl | exact arm_clo _ _ | exact clo_bools _ _ | (simp; exact ⟨rfl, rfl⟩) | (simp; exact ⟨rfl, rfl, rfl⟩)), ⟨_, rfl, rfl⟩, (by first | (simp; done) | (simp; rfl) | exact clo_map _ _ _ | exact clo_brows _ _ | exact disk_clo _ _ rfl rfl rfl | exact arm_clo _ _ | exact clo_bools _ _ | (simp; exact ⟨rfl, rfl⟩) | (simp; exact ⟨rfl, rfl, rfl⟩)), ⟨_, rfl, rfl⟩, (by first | (simp; done) | (simp; rfl) | exact clo_map _ _ _ | exact clo_brows _ _ | exact disk_clo _ _ rfl rfl rfl | exact arm_clo _ _ | exact clo_bools _ _ | (simp; exact ⟨rfl, rfl⟩) | (simp; exact ⟨rfl, rfl, rfl⟩)), trivial⟩ trivial)
      · rintro i s ⟨hi, hm, hp⟩
        have hwl := wl_len n (after.take i)
        have htl : (after.take i).length ≤ i := by simp; omega
        refine awp_seq ?_
        refine awp_seq ?_
        refine awp_bool (t := 40) (n := 10) (X := decide (i < after.length) && decide ((wl n (after.take i)).length < m0)) ?_ ?_
        · all_goals (refine al_d rfl rfl rfl (by exact opd_move rfl rfl) ?_)
          all_goals (refine al_d rfl rfl rfl (by exact opd_move rfl rfl) ?_)
          all_goals (refine al_d rfl rfl rfl (by exact (by first | exact opd_len_sl rfl Try.underlying44 rfl | exact opd_len_osl rfl Try.underlying44 rfl rfl rfl)) ?_)
          all_goals (refine al_d rfl rfl rfl (by exact opd_lss rfl rfl rfl) ?_)
          all_goals (refine al_d rfl rfl rfl (by exact opd_move rfl rfl) ?_)
          all_goals (first | refine al_split (t := 36) rfl (fun h36 => ?_) (fun h36 => ?_) | skip)
          all_goals (try contradiction)
          all_goals (first | refine al_off rfl rfl rfl rfl rfl ?_ | refine al_offu rfl rfl rfl rfl ?_ | refine al_ond rfl rfl rfl rfl rfl rfl (by exact opd_move rfl rfl) ?_)
          all_goals (first | refine al_off rfl rfl rfl rfl rfl ?_ | refine al_offu rfl rfl rfl rfl ?_ | refine al_ond rfl rfl rfl rfl rfl rfl (by exact opd_move rfl rfl) ?_)
          all_goals (first | refine al_off rfl rfl rfl rfl rfl ?_ | refine al_offu rfl rfl rfl rfl ?_ | refine al_ond rfl rfl rfl rfl rfl rfl (by exact opd_lss rfl rfl rfl) ?_)
          all_goals (refine al_d rfl rfl rfl (by exact (by first | exact opd_pick_t rfl rfl rfl | exact opd_pick_f rfl rfl rfl | exact opd_pickt rfl rfl (by assumption) rfl | exact opd_pickf rfl rfl (by assumption) rfl | exact opd_pick rfl rfl rfl)) ?_)
          all_goals (refine al_nil ?_)
          all_goals (exact ⟨⟨_, rfl, by rw [Bool.eq_iff_iff]; simp at h36 ⊢; omega⟩, rfl, rfl, rfl⟩)
        refine awp_cond rfl (fun hc2 => ?_) (fun hc2 => ?_)
        -- cond 2
        · obtain ⟨hlt, hmlt⟩ : i < after.length ∧ (wl n (after.take i)).length < m0 := by simpa using hc2
          obtain ⟨a, hai⟩ := get_of_lt hlt
          have hae := map_get (f := encAct) hai
          have hts := ha.txt a (List.mem_of_getElem? hai)
          obtain ⟨s', ⟨e, he, hw⟩, hp'⟩ := pinv_step hp (by omega) a
          rw [← wl_app, ← take_snoc hai] at hp'
          have hsn : wl n (after.take (i + 1)) = wl n (after.take i) ++ wl n [a] := by rw [take_snoc hai, wl_app]
          refine awp_skip ?_
          refine awp_seq ?_
          refine awp_block ?_
          refine awp_seq ?_
          refine awp_drawc follows ?_
          refine dc_cons (r := ⟨_, some [1000], []⟩) (DStep.plain rfl (fun H1 hH => by exact opd_move rfl rfl)) rfl ?_
          refine dc_cons (r := ⟨_, some [], []⟩) (DStep.plain rfl (fun H1 hH => by exact opd_move rfl rfl)) rfl ?_
          refine dc_cons (r := ⟨_, some [], []⟩) (DStep.plain rfl (fun H1 hH => by exact opd_move rfl rfl)) rfl ?_
          refine dc_cons (r := ⟨_, some [], []⟩) (DStep.plain rfl (fun H1 hH => by exact (by first | exact x_index_pad rfl so44 rfl rfl (by omega) (by first | exact Int.toNat_natCast _ | rfl) (by assumption) rfl | exact x_index_osl rfl so44 rfl ((hH _ rfl).trans rfl) rfl rfl rfl (by omega) (by first | exact Int.toNat_natCast _ | rfl) (by first | omega | assumption) rfl))) rfl ?_
          refine dc_cons (r := ⟨_, some [], []⟩) (DStep.plain rfl (fun H1 hH => by exact (by first | exact opd_field_ref rfl fo55_1 rfl ((hH _ rfl).trans rfl) rfl rfl | exact opd_field_pad rfl fo55_1 rfl rfl))) rfl ?_
          refine dc_cons (r := ⟨_, some [], []⟩) (DStep.plain rfl (fun H1 hH => by exact (by first | exact opd_load1_ref rfl Try.isAgg3 rfl ((hH _ rfl).trans rfl) rfl rfl rfl | exact opd_load1_pad rfl Try.isAgg3 rfl (by first | omega | assumption) rfl))) rfl ?_
          refine dc_cons (r := ⟨_, some [], []⟩) (DStep.plain rfl (fun H1 hH => by exact opd_move rfl rfl)) rfl ?_
          refine dc_cons (r := ⟨_, some [], []⟩) (DStep.plain rfl (fun H1 hH => by exact opd_move rfl rfl)) rfl ?_
          refine dc_cons (r := ⟨_, some [], []⟩) (DStep.plain rfl (fun H1 hH => by exact (by first | exact x_index_pad rfl so44 rfl rfl (by omega) (by first | exact Int.toNat_natCast _ | rfl) (by assumption) rfl | exact x_index_osl rfl so44 rfl ((hH _ rfl).trans rfl) rfl rfl rfl (by omega) (by first | exact Int.toNat_natCast _ | rfl) (by first | omega | assumption) rfl))) rfl ?_
          refine dc_cons (r := ⟨_, some [], []⟩) (DStep.plain rfl (fun H1 hH => by exact (by first | exact opd_loadn_ref rfl Try.isAgg55 Try.sizeOf55 rfl ((hH _ rfl).trans rfl) rfl rfl (by simp only [List.drop_succ_cons, List.drop_zero, List.take_succ_cons, List.take_zero, List.take_nil, List.map_cons, List.map_nil, List.set_cons_zero, List.set_cons_succ, List.cons_append, List.nil_append, encQ, armR, dRow, encAct]; rfl) rfl | exact opd_loadn_pad rfl Try.isAgg55 Try.sizeOf55 rfl (by first | omega | assumption) (by simp only [List.drop_succ_cons, List.drop_zero, List.take_succ_cons, List.take_zero, List.take_nil, List.map_cons, List.map_nil, List.set_cons_zero, List.set_cons_succ, List.cons_append, List.nil_append, encQ, armR, dRow, encAct]; rfl) rfl))) rfl ?_
          refine dc_cons (r := ⟨_, some [], []⟩) (DStep.plain rfl (fun H1 hH => by exact opr_call rfl rfl Try.call34 rfl (text_c a _ hts))) rfl ?_
          refine dc_cons (r := ⟨_, some [1000, 1001, 1002, 1003], _⟩) (DStep.plain rfl (fun H1 hH => by exact opr_call rfl rfl Try.call33 rfl (disk_frame hw _ ⟨(hH 1000 rfl).trans rfl, (hH 1001 rfl).trans rfl, (hH 1002 rfl).trans rfl, (hH 1003 rfl).trans rfl, trivial⟩ (by simp; rfl)))) rfl ?_
          refine dc_cons (r := ⟨_, some [1000], []⟩) (DStep.plain rfl (fun H1 hH => by exact opd_eql rfl rfl rfl)) rfl ?_
          refine dc_nil ⟨by kernel_rfl, ?_⟩
          refine awp_cond rfl (fun hc3 => ?_) (fun hc3 => ?_)
          -- cond 3
          · have hg : goodA n a = true := by rw [← he]; exact hc3
            have hl1 : (wl n (after.take (i + 1))).length = (wl n (after.take i)).length + 1 := by rw [hsn, wl_yes hg]; simp
            have hwr : IntKind.i64.wrap (((wl n (after.take i)).length : Int) + 1) = ((wl n (after.take (i + 1))).length : Int) := by rw [hl1, w64 (by omega) (by omega)]; omega
            refine awp_region ?_
            refine al_d rfl rfl rfl (by exact opd_move rfl rfl) ?_
            refine al_d rfl rfl rfl (by exact opd_add rfl rfl rfl hwr) ?_
            refine al_d rfl rfl rfl (by exact opd_assign rfl rfl) ?_
            refine al_nil ?_
            refine awp_region ?_
            refine al_d rfl rfl rfl (by exact opd_move rfl rfl) ?_
            refine al_d rfl rfl rfl (by exact opd_add rfl rfl rfl (by first | exact w64 (by omega) (by omega) | exact wu8 (by omega) (by omega) | rfl)) ?_
            refine al_d rfl rfl rfl (by exact opd_assign rfl rfl) ?_
            refine al_nil ?_
            -- end of a round
            exact ⟨i + 1, s', ⟨by omega, by omega, hp'⟩, by omega, (Ent.wk ⟨⟨_, rfl, rfl⟩, (by first | (simp; done) | (simp; rfl) | exact clo_map _ _ _ | exact clo_brows _ _ | exact disk_clo _ _ rfl rfl rfl | exact arm_clo _ _ | exact clo_bools _ _ | (simp; exact ⟨rfl, rfl⟩) | (simp; exact ⟨rfl, rfl, rfl⟩)), ⟨_, rfl, rfl⟩, (by first | (simp; done) | (simp; rfl) | exact clo_map _ _ _ | exact clo_brows _ _ | exact disk_clo _ _ rfl rfl rfl | exact arm_clo _ _ | exact clo_bools _ _ | (simp; exact ⟨rfl, rfl⟩) | (simp; exact ⟨rfl, rfl, rfl⟩)), ⟨_, rfl, rfl⟩, (by first | (simp; done) | (simp; rfl) | exact clo_map _ _ _ | exact clo_brows _ _ | exact disk_clo _ _ rfl rfl rfl | exact arm_clo _ _ | exact clo_bools _ _ | (simp; exact ⟨rfl, rfl⟩) | (simp; exact ⟨rfl, rfl, rfl⟩)), ⟨_, rfl, rfl⟩, (by first | (simp; done) | (simp; rfl) | exact clo_map _ _ _ | exact clo_brows _ _ | exact disk_clo _ _ rfl rfl rfl | exact arm_clo _ _ | exact clo_bools _ _ | (simp; exact ⟨rfl, rfl⟩) | (simp; exact ⟨rfl, rfl, rfl⟩)), ⟨_, rfl, rfl⟩, (by first | (simp; done) | (simp; rfl) | exact clo_map _ _ _ | exact clo_brows _ _ | exact disk_clo _ _ rfl rfl rfl | exact arm_clo _ _ | exact clo_bools _ _ | (simp; exact ⟨rfl, rfl⟩) | (simp; exact ⟨rfl, rfl, rfl⟩)), ⟨_, rfl, rfl⟩, (by first | (simp; done) | (simp; rfl) | exact clo_map _ _ _ | exact clo_brows _ _ | exact disk_clo _ _ rfl rfl rfl | exact arm_clo _ _ | exact clo_bools _ _ | (simp; exact ⟨rfl, rfl⟩) | (simp; exact ⟨rfl, rfl, rfl⟩)), trivial⟩ ⟨⟨_, rfl, rfl⟩, (by first | (simp; done) | (simp; rfl) | exact clo_map _ _ _ | exact clo_brows _ _ | exact disk_clo _ _ rfl rfl rfl | exact arm_clo _ _ | exact clo_bools _ _ | (simp; exact ⟨rfl, rfl⟩) | (simp; exact ⟨rfl, rfl, rfl⟩)), ⟨_, rfl, rfl⟩, (by first | (simp; done) | (simp; rfl) | exact clo_map _ _ _ | exact clo_brows _ _ | exact disk_clo _ _ rfl rfl rfl | exact arm_clo _ _ | exact clo_bools _ _ | (simp; exact ⟨rfl, rfl⟩) | (simp; exact ⟨rfl, rfl, rfl⟩)), ⟨_, rfl, rfl⟩, (by first | (simp; done) | (simp; rfl) | exact clo_map _ _ _ | exact clo_brows _ _ | exact disk_clo _ _ rfl rfl rfl | exact arm_clo _ _ | exact clo_bools _ _ | (simp; exact ⟨rfl, rfl⟩) | (simp; exact ⟨rfl, rfl, rfl⟩)), ⟨_, rfl, rfl⟩, (by first | (simp; done) | (simp; rfl) | exact clo_map _ _ _ | exact clo_brows _ _ | exact disk_clo _ _ rfl rfl rfl | exact arm_clo _ _ | exact clo_bools _ _ | (simp; exact ⟨rfl, rfl⟩) | (simp; exact ⟨rfl, rfl, rfl⟩)), trivial⟩ trivial)⟩
          · have hg : goodA n a = false := by rw [← he]; exact hc3
            have hl1 : wl n (after.take (i + 1)) = wl n (after.take i) := by rw [hsn, wl_no hg, List.append_nil]
            refine awp_skip ?_
            refine awp_region ?_
            refine al_d rfl rfl rfl (by exact opd_move rfl rfl) ?_
            refine al_d rfl rfl rfl (by exact opd_add rfl rfl rfl (by first | exact w64 (by omega) (by omega) | exact wu8 (by omega) (by omega) | rfl)) ?_
            refine al_d rfl rfl rfl (by exact opd_assign rfl rfl) ?_
            refine al_nil ?_
            -- end of a round
            refine ⟨i + 1, s', ⟨by omega, by rw [hl1]; exact hm, hp'⟩, by omega, ?_⟩
            rw [hl1]
            exact (Ent.wk ⟨⟨_, rfl, rfl⟩, (by first | (simp; done) | (simp; rfl) | exact clo_map _ _ _ | exact clo_brows _ _ | exact disk_clo _ _ rfl rfl rfl | exact arm_clo _ _ | exact clo_bools _ _ | (simp; exact ⟨rfl, rfl⟩) | (simp; exact ⟨rfl, rfl, rfl⟩)), ⟨_, rfl, rfl⟩, (by first | (simp; done) | (simp; rfl) | exact clo_map _ _ _ | exact clo_brows _ _ | exact disk_clo _ _ rfl rfl rfl | exact arm_clo _ _ | exact clo_bools _ _ | (simp; exact ⟨rfl, rfl⟩) | (simp; exact ⟨rfl, rfl, rfl⟩)), ⟨_, rfl, rfl⟩, (by first | (simp; done) | (simp; rfl) | exact clo_map _ _ _ | exact clo_brows _ _ | exact disk_clo _ _ rfl rfl rfl | exact arm_clo _ _ | exact clo_bools _ _ | (simp; exact ⟨rfl, rfl⟩) | (simp; exact ⟨rfl, rfl, rfl⟩)), ⟨_, rfl, rfl⟩, (by first | (simp; done) | (simp; rfl) | exact clo_map _ _ _ | exact clo_brows _ _ | exact disk_clo _ _ rfl rfl rfl | exact arm_clo _ _ | exact clo_bools _ _ | (simp; exact ⟨rfl, rfl⟩) | (simp; exact ⟨rfl, rfl, rfl⟩)), ⟨_, rfl, rfl⟩, (by first | (simp; done) | (simp; rfl) | exact clo_map _ _ _ | exact clo_brows _ _ | exact disk_clo _ _ rfl rfl rfl | exact arm_clo _ _ | exact clo_bools _ _ | (simp; exact ⟨rfl, rfl⟩) | (simp; exact ⟨rfl, rfl, rfl⟩)), ⟨_, rfl, rfl⟩, (by first | (simp; done) | (simp; rfl) | exact clo_map _ _ _ | exact clo_brows _ _ | exact disk_clo _ _ rfl rfl rfl | exact arm_clo _ _ | exact clo_bools _ _ | (simp; exact ⟨rfl, rfl⟩) | (simp; exact ⟨rfl, rfl, rfl⟩)), trivial⟩ ⟨⟨_, rfl, rfl⟩, (by first | (simp; done) | (simp; rfl) | exact clo_map _ _ _ | exact clo_brows _ _ | exact disk_clo _ _ rfl rfl rfl | exact arm_clo _ _ | exact clo_bools _ _ | (simp; exact ⟨rfl, rfl⟩) | (simp; exact ⟨rfl, rfl, rfl⟩)), ⟨_, rfl, rfl⟩, (by first | (simp; done) | (simp; rfl) | exact clo_map _ _ _ | exact clo_brows _ _ | exact disk_clo _ _ rfl rfl rfl | exact arm_clo _ _ | exact clo_bools _ _ | (simp; exact ⟨rfl, rfl⟩) | (simp; exact ⟨rfl, rfl, rfl⟩)), ⟨_, rfl, rfl⟩, (by first | (simp; done) | (simp; rfl) | exact clo_map _ _ _ | exact clo_brows _ _ | exact disk_clo _ _ rfl rfl rfl | exact arm_clo _ _ | exact clo_bools _ _ | (simp; exact ⟨rfl, rfl⟩) | (simp; exact ⟨rfl, rfl, rfl⟩)), ⟨_, rfl, rfl⟩, (by first | (simp; done) | (simp; rfl) | exact clo_map _ _ _ | exact clo_brows _ _ | exact disk_clo _ _ rfl rfl rfl | exact arm_clo _ _ | exact clo_bools _ _ | (simp; exact ⟨rfl, rfl⟩) | (simp; exact ⟨rfl, rfl, rfl⟩)), trivial⟩ trivial)
        · have hstop : wl n (after.take i) = (wl n after).take m0 := by
            have h1 : ¬ (i < after.length ∧ (wl n (after.take i)).length < m0) := by
              rintro ⟨e1, e2⟩
              rw [decide_eq_true e1, decide_eq_true e2] at hc2; cases hc2
            by_cases hlt : i < after.length
            · have hmm : (wl n (after.take i)).length = m0 := by omega
              rw [wl_pre, hmm]
            · have : after.take i = after := List.take_of_length_le (by omega)
              rw [this] at hm ⊢
              rw [List.take_of_length_le hm]
          have hco := contentsOwn_c s n hp.inv.ok hp.calm.1 (by rw [hp.inv.n]; omega)
          rw [conts_put hp.inv.n, hp.cells, hp.q, hstop] at hco
          have hcf : ∀ H, subL H (diskH s) → H.get 600 = none → ACalls Try.prog 32 [.ref 1000 0 0 0, iv (n : Int)] H (fun r H' => r = .tup [.osl 600 n 0 n, bv true] ∧ H' = ((600, ⟨n, 1, 9, stRows (putAll s3.cells ((wl n after).take m0))⟩) :: diskH s) ++ H) := fun H hs h6 =>
            hco.frame hs.sub (diskH_closed s) (by simp; rfl) (fun id h => by
              simp only [Heap.get] at h
              cases e : Nat.beq 600 id with
              | true => right; rw [← Nat.eq_of_beq_eq_true e]; exact h6
              | false => rw [e] at h; exact disk_keys s s H id h)
          refine awp_exit ?_
          refine awp_seq ?_
          refine awp_region ?_
          refine al_d rfl rfl rfl (by exact opd_move rfl rfl) ?_
          refine al_d rfl rfl rfl (by exact opd_move rfl rfl) ?_
          refine al_d rfl rfl rfl (by exact opr_call rfl rfl Try.call32 rfl (hcf _ ⟨rfl, rfl, rfl, rfl, trivial⟩ rfl)) ?_
          refine al_d rfl rfl rfl (by exact opd_extract rfl rfl rfl) ?_
          refine al_d rfl rfl rfl (by exact opd_extract rfl rfl rfl) ?_
          refine al_d rfl rfl rfl (by exact opd_assign rfl rfl) ?_
          refine al_d rfl rfl rfl (by exact opd_assign rfl rfl) ?_
          refine al_nil ?_
          refine awp_ret ?_
          -- return
          refine aret2 (H' := ownOut n (putAll s3.cells ((wl n after).take m0))) (by first | exact .inr rfl | exact .inl rfl) rfl (rval_tmp rfl) (rval_tmp rfl) (Fin.wk (by first | (simp; done) | (simp; rfl)) ⟨⟨_, rfl, rfl⟩, (by first | (simp; done) | (simp; rfl) | exact clo_map _ _ _ | exact clo_brows _ _ | exact disk_clo _ _ rfl rfl rfl | exact arm_clo _ _ | exact clo_bools _ _ | (simp; exact ⟨rfl, rfl⟩) | (simp; exact ⟨rfl, rfl, rfl⟩)), trivial⟩ trivial) ?_
          exact ⟨rfl, rfl⟩
end Go.Proofs.Ytljocbkebhgkoaa
