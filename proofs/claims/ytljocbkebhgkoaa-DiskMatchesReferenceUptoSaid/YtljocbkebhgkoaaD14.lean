/-
  CONTRACT: planispherelaw46.DiskDamage answers true. Conditions: the arguments' sizes.
-/
import Derived.Test.YtljocbkebhgkoaaD13
set_option linter.unusedVariables false
set_option linter.unusedSimpArgs false
set_option maxRecDepth 100000
namespace Go.Proofs.Ytljocbkebhgkoaa
open Go.Abs

theorem u8_xor_xor (x m : UInt8) : x ^^^ m ^^^ m = x := by rw [UInt8.xor_assoc, UInt8.xor_self, UInt8.xor_zero]
theorem u8_xor_l (x m : UInt8) : x ^^^ (x ^^^ m) = m := by rw [← UInt8.xor_assoc, UInt8.xor_self, UInt8.zero_xor]
theorem set_self {α : Type} {l : List α} {i : Nat} {a : α} (h : l[i]? = some a) : l.set i a = l := by
  obtain ⟨hlt, he⟩ := List.getElem?_eq_some_iff.1 h
  subst he; exact List.set_getElem_self hlt
theorem flip_flip {c : ByteArray} {i m : Nat} (hi : i < c.size) : flip (flip c i m) i m = c := by
  have h := ba_size c
  obtain ⟨x, hx⟩ := get_of_lt (show i < c.data.toList.length by omega)
  have e : (flip c i m).data.toList = c.data.toList.set i (x ^^^ UInt8.ofNat m) := by rw [flip_list, hx]; rfl
  have e2 : (flip c i m).data.toList[i]? = some (x ^^^ UInt8.ofNat m) := by rw [e, List.getElem?_set_self (by omega)]
  rw [flip, e2, e, List.set_set, Option.getD_some, u8_xor_xor, set_self hx]
theorem dConts_cells {s s' : DSt} (hq : s.q = []) (hq' : s'.q = []) (hc : s'.cells = s.cells) (n : Nat) : dConts s' n = dConts s n := by
  unfold dConts
  apply List.map_congr_left
  intro i _
  rw [dText_nil hq, dText_nil hq', hc]
theorem rot_q (s : DSt) (k p m : Int) : (dRot s k p m).q = s.q := by unfold dRot; split <;> rfl
theorem rotOk_rot (s : DSt) (k p m : Int) : rotOk (dRot s k p m) k p m = rotOk s k p m := by
  unfold dRot
  split
  · unfold rotOk secOk; simp only [List.length_set]
  · rfl
theorem rot_rot {s : DSt} {n m : Nat} (h : DInv s n m) (k p x : Int) : (dRot (dRot s k p x) k p x).cells = s.cells := by
  cases e : rotOk s k p x with
  | false =>
    have e1 : dRot s k p x = s := by simp [dRot, e]
    rw [e1, e1]
  | true =>
    have e2 : rotOk (dRot s k p x) k p x = true := by rw [rotOk_rot]; exact e
    have hp : 0 ≤ p ∧ p < 64 := by
      simp only [rotOk, Bool.and_eq_true, decide_eq_true_eq] at e
      exact e.2.1.1
    have hsk : secOk s k = true := by
      rw [rotOk, Bool.and_eq_true] at e; exact e.1
    rcases secOk_cases s k with h1 | ⟨j, rfl, hj⟩
    · rw [hsk] at h1; cases h1
    · obtain ⟨c, hc⟩ := get_of_lt hj
      have hcs := h.ok.c c (List.mem_of_getElem? hc)
      have e1 : (dRot s j p x).cells = s.cells.set j (flip c p.toNat x.toNat) := by simp [dRot, e, hc]
      have e3 : (dRot s j p x).cells[j]? = some (flip c p.toNat x.toNat) := by rw [e1, List.getElem?_set_self hj]
      have e4 : (dRot (dRot s j p x) j p x).cells = (dRot s j p x).cells.set j (flip (flip c p.toNat x.toNat) p.toNat x.toNat) := by
        have : dRot (dRot s j p x) j p x = { dRot s j p x with cells := (dRot s j p x).cells.set j (flip (flip c p.toNat x.toNat) p.toNat x.toNat) } := by
          conv => lhs; unfold dRot
          rw [if_pos (by exact e2)]
          simp only [Int.toNat_natCast]
          rw [show (if rotOk s (j : Int) p x = true then ({ s with cells := s.cells.set j (flip ((s.cells[j]?).getD ⟨#[]⟩) p.toNat x.toNat) } : DSt) else s) = dRot s j p x by simp [dRot]]
          rw [e3]; rfl
        rw [this]
      rw [e4, e1, List.set_set, flip_flip (by omega), set_self hc]
theorem rot_conts {s : DSt} {n m : Nat} (h : DInv s n m) (hq : s.q = []) (k p x : Int) : dConts (dRot (dRot s k p x) k p x) n = dConts s n :=
  dConts_cells hq (by rw [rot_q, rot_q, hq]) (rot_rot h k p x) n
theorem bits_self (x y : UInt8) : bits .xor .u8 (x.toNat : Int) (y.toNat : Int) = ((x ^^^ y).toNat : Int) := by
  have := xor_u8 x y.toNat y.toNat_lt
  rw [this, UInt8.ofNat_toNat]
/-- What the bytes of the sectors before and after say. -/
theorem rot_byte {s : DSt} {n m : Nat} (h : DInv s n m) (hq : s.q = []) (k p x : Int) {i j : Nat} (hi : i < n) (hj : j < 64) :
    bits .xor .u8 (byteAt (dText s i) j) (byteAt (dText (dRot s k p x) i) j) = if rotOk s k p x = true ∧ (i : Int) = k ∧ (j : Int) = p then x else 0 := by
  have hn := h.n
  obtain ⟨c, hc⟩ := get_of_lt (show i < s.cells.length by omega)
  have hcs := h.ok.c c (List.mem_of_getElem? hc)
  obtain ⟨b, hb⟩ := get_of_lt (show j < c.data.toList.length by rw [ba_size]; omega)
  rw [dText_nil hq, hc, Option.getD_some, dText_nil (by rw [rot_q, hq])]
  have same : ∀ d : ByteArray, d.data.toList[j]? = some b → bits .xor .u8 (byteAt c j) (byteAt d j) = 0 := fun d hd => by
    unfold byteAt
    rw [hb, hd, Option.getD_some, bits_self, UInt8.xor_self]; rfl
  cases e : rotOk s k p x with
  | false =>
    have e1 : dRot s k p x = s := by simp [dRot, e]
    rw [e1, hc, Option.getD_some, if_neg (by simp)]
    exact same c hb
  | true =>
    obtain ⟨hsk, ⟨⟨hp0, hp1⟩, hx0⟩, hx1⟩ : secOk s k = true ∧ ((0 ≤ p ∧ p < 64) ∧ 0 < x) ∧ x < 256 := by simpa [rotOk] using e
    rcases secOk_cases s k with h1 | ⟨q, rfl, hql⟩
    · rw [hsk] at h1; cases h1
    · by_cases hiq : i = q
      · subst hiq
        have e1 : (dRot s (i : Int) p x).cells[i]? = some (flip c p.toNat x.toNat) := by
          have : (dRot s (i : Int) p x).cells = s.cells.set i (flip c p.toNat x.toNat) := by simp [dRot, e, hc]
          rw [this, List.getElem?_set_self hql]
        rw [e1, Option.getD_some]
        by_cases hjp : (j : Int) = p
        · rw [if_pos ⟨rfl, rfl, hjp⟩]
          have hjn : p.toNat = j := by omega
          have e2 : (flip c p.toNat x.toNat).data.toList[j]? = some (b ^^^ UInt8.ofNat x.toNat) := by
            rw [flip_list, hjn, hb, List.getElem?_set_self (by rw [ba_size]; omega)]; rfl
          unfold byteAt
          rw [hb, e2, Option.getD_some, Option.getD_some, bits_self, u8_xor_l, UInt8.toNat_ofNat', Nat.mod_eq_of_lt (by omega)]
          omega
        · rw [if_neg (fun h => hjp h.2.2)]
          refine same _ ?_
          rw [flip_list, List.getElem?_set_ne (by omega), hb]
      · have e1 : (dRot s (q : Int) p x).cells[i]? = some c := by
          have : (dRot s (q : Int) p x).cells = s.cells.set q (flip ((s.cells[q]?).getD ⟨#[]⟩) p.toNat x.toNat) := by simp [dRot, e]
          rw [this, List.getElem?_set_ne (Ne.symm hiq), hc]
        rw [e1, Option.getD_some, if_neg (fun h => hiq (by omega))]
        exact same c hb
theorem byteAt_bd (s : ByteArray) (j : Nat) : 0 ≤ byteAt s j ∧ byteAt s j ≤ 255 := by
  unfold byteAt
  have := ((s.data.toList[j]?).getD 0).toNat_lt
  omega
theorem rot_off (s : DSt) (k p m : Int) : (dRot s k p m).off = s.off := by unfold dRot; split <;> rfl
theorem diskDamage_c (raw : Int) (l : List GAct) (sec pos mask : Int) (H : Heap) (h0 : 0 ≤ raw) (h1 : raw ≤ 255) (hl : szActs 1048576 l) (hw1 : wfI sec) (hw2 : wfI pos) (hw3 : wfI mask) :
    ACalls Try.prog 12 [.pv (.int .u8 raw), .pv (slActs l), iv sec, iv pos, iv mask] H (fun r H' => r = bv true ∧ H' = H) := by
  refine ACalls.pure ?_ (by simp) H
  have hml : (l.map encAct).length = l.length := List.length_map _
  have hl1 := hl.1
  obtain ⟨n, hn⟩ : ∃ n, n = gSize raw := ⟨_, rfl⟩
  have hsz : ∀ H, ACalls Try.prog 24 [.pv (.int .u8 raw)] H (fun r H' => r = iv (n : Nat) ∧ H' = H) := fun H => by rw [hn]; exact size_c raw H h0 h1
  obtain ⟨hn1, hn2⟩ : 1 ≤ n ∧ n ≤ 12 := by rw [hn]; exact gSize_le raw
  clear hn
  refine ACalls.body Try.func12 rfl Try.ntmps12 (Nat.le_of_ble_eq_true rfl) ?_
  refine awp_seq ?_
  refine awp_region ?_
  refine al_d rfl rfl rfl (by exact opd_assign rfl rfl) ?_
  refine al_nil ?_
  refine awp_seq ?_
  refine awp_region ?_
  refine al_d rfl rfl rfl (by exact opr_call rfl rfl Try.call21 rfl (head_c _)) ?_
  refine al_d rfl rfl rfl (by exact opd_assign rfl rfl) ?_
  refine al_nil ?_
  refine awp_seq ?_
  refine awp_seq ?_
  refine awp_region ?_
  refine al_d rfl rfl rfl (by exact opd_move rfl rfl) ?_
  refine al_d rfl rfl rfl (by exact opr_call rfl rfl Try.call22 rfl (ok_c l _ (by omega))) ?_
  refine al_d rfl rfl rfl (by exact opd_not rfl rfl) ?_
  refine al_nil ?_
  refine awp_cond rfl (fun hc1 => ?_) (fun hc1 => ?_)
  -- cond 1
  · skip
    refine awp_seq ?_
    refine awp_region ?_
    refine al_d rfl rfl rfl (by exact opd_move rfl rfl) ?_
    refine al_d rfl rfl rfl (by exact opd_assign rfl rfl) ?_
    refine al_nil ?_
    refine awp_ret ?_
    -- return
    refine aret1 (H' := []) (by first | exact .inr rfl | exact .inl rfl) rfl (rval_tmp rfl) (Fin.wk (by simp) trivial trivial) ?_
    exact ⟨rfl, rfl⟩
  · have hkl : gOk l = true := by
      have h : (!gOk l) = false := hc1
      simpa using h
    have hkl := (gOk_len hkl).1
    obtain ⟨s0, _, hi0, hnew⟩ := new_any n hn1 hn2
    refine awp_skip ?_
    refine awp_seq ?_
    refine awp_region ?_
    refine al_d rfl rfl rfl (by exact opd_move rfl rfl) ?_
    refine al_d rfl rfl rfl (by exact opr_call rfl rfl Try.call24 rfl (hsz _)) ?_
    refine al_d rfl rfl rfl (by exact opd_assign rfl rfl) ?_
    refine al_nil ?_
    refine awp_seq ?_
    refine awp_region ?_
    refine al_d rfl rfl rfl (by exact opd_move rfl rfl) ?_
    refine al_d rfl rfl rfl (by exact opr_call rfl rfl Try.call23 rfl (hnew _ rfl rfl rfl rfl)) ?_
    refine al_d rfl rfl rfl (by exact opd_assign rfl rfl) ?_
    refine al_nil ?_
    refine awp_seq ?_
    refine awp_seq ?_
    refine awp_region ?_
    refine al_d rfl rfl rfl (by exact opd_assign rfl rfl) ?_
    refine al_nil ?_
    refine awp_block ?_
    -- loop
    refine awp_loop (σ := Nat) (fun i => ([(1, .pv (slActs l)), (2, iv sec), (3, iv pos), (4, iv mask), (11, bv true), (12, iv (n : Int)), (13, .ref 1000 0 0 0), (14, iv (i : Int))], diskH (runAll s0 (l.take i)))) (fun i => i ≤ l.length) (fun i => l.length - i) 0 (by omega) ?_ ?_
    · exact (Ent.wk ⟨⟨_, rfl, rfl⟩, (by first | (simp; done) | (simp; rfl) | exact clo_map _ _ _ | exact clo_brows _ _ | exact disk_clo _ _ rfl rfl rfl | exact arm_clo _ _ | exact clo_bools _ _ | (simp; exact ⟨rfl, rfl⟩) | (simp; exact ⟨rfl, rfl, rfl⟩)), ⟨_, rfl, rfl⟩, (by first | (simp; done) | (simp; rfl) | exact clo_map _ _ _ | exact clo_brows _ _ | exact disk_clo _ _ rfl rfl rfl | exact arm_clo _ _ | exact clo_bools _ _ | (simp; exact ⟨rfl, rfl⟩) | (simp; exact ⟨rfl, rfl, rfl⟩)), ⟨_, rfl, rfl⟩, (by first | (simp; done) | (simp; rfl) | exact clo_map _ _ _ | exact clo_brows _ _ | exact disk_clo _ _ rfl rfl rfl | exact arm_clo _ _ | exact clo_bools _ _ | (simp; exact ⟨rfl, rfl⟩) | (simp; exact ⟨rfl, rfl, rfl⟩)), ⟨_, rfl, rfl⟩, (by first | (simp; done) | (simp; rfl) | exact clo_map _ _ _ | exact clo_brows _ _ | exact disk_clo _ _ rfl rfl rfl | exact arm_clo _ _ | exact clo_bools _ _ | (simp; exact ⟨rfl, rfl⟩) | (simp; exact ⟨rfl, rfl, rfl⟩)), ⟨_, rfl, rfl⟩, (by first | (simp; done) | (simp; rfl) | exact clo_map _ _ _ | exact clo_brows _ _ | exact disk_clo _ _ rfl rfl rfl | exact arm_clo _ _ | exact clo_bools _ _ | (simp; exact ⟨rfl, rfl⟩) | (simp; exact ⟨rfl, rfl, rfl⟩)), ⟨_, rfl, rfl⟩, (by first | (simp; done) | (simp; rfl) | exact clo_map _ _ _ | exact clo_brows _ _ | exact disk_clo _ _ rfl rfl rfl | exact arm_clo _ _ | exact clo_bools _ _ | (simp; exact ⟨rfl, rfl⟩) | (simp; exact ⟨rfl, rfl, rfl⟩)), ⟨_, rfl, rfl⟩, (by first | (simp; done) | (simp; rfl) | exact clo_map _ _ _ | exact clo_brows _ _ | exact disk_clo _ _ rfl rfl rfl | exact arm_clo _ _ | exact clo_bools _ _ | (simp; exact ⟨rfl, rfl⟩) | (simp; exact ⟨rfl, rfl, rfl⟩)), ⟨_, rfl, rfl⟩, (by first | (simp; done) | (simp; rfl) | exact clo_map _ _ _ | exact clo_brows _ _ | exact disk_clo _ _ rfl rfl rfl | exact arm_clo _ _ | exact clo_bools _ _ | (simp; exact ⟨rfl, rfl⟩) | (simp; exact ⟨rfl, rfl, rfl⟩)), trivial⟩ ⟨⟨_, rfl, rfl⟩, (by first | (simp; done) | (simp; rfl) | exact clo_map _ _ _ | exact clo_brows _ _ | exact disk_clo _ _ rfl rfl rfl | exact arm_clo _ _ | exact clo_bools _ _ | (simp; exact ⟨rfl, rfl⟩) | (simp; exact ⟨rfl, rfl, rfl⟩)), ⟨_, rfl, rfl⟩, (by first | (simp; done) | (simp; rfl) | exact clo_map _ _ _ | exact clo_brows _ _ | exact disk_clo _ _ rfl rfl rfl | exact arm_clo _ _ | exact clo_bools _ _ | (simp; exact ⟨rfl, rfl⟩) | (simp; exact ⟨rfl, rfl, rfl⟩)), ⟨_, rfl, rfl⟩, (by first | (simp; done) | (simp; rfl) | exact clo_map _ _ _ | exact clo_brows _ _ | exact disk_clo _ _ rfl rfl rfl | exact arm_clo _ _ | exact clo_bools _ _ | (simp; exact ⟨rfl, rfl⟩) | (simp; exact ⟨rfl, rfl, rfl⟩)), ⟨_, rfl, rfl⟩, (by first | (simp; done) | (simp; rfl) | exact clo_map _ _ _ | exact clo_brows _ _ | exact disk_clo _ _ rfl rfl rfl | exact arm_clo _ _ | exact clo_bools _ _ | (simp; exact ⟨rfl, rfl⟩) | (simp; exact ⟨rfl, rfl, rfl⟩)), trivial⟩ trivial)
    · intro i hi
      have hinv := run_inv hi0 hkl hl.wf hi
      refine awp_seq ?_
      refine awp_seq ?_
      refine awp_region ?_
      refine al_d rfl rfl rfl (by exact opd_move rfl rfl) ?_
      refine al_d rfl rfl rfl (by exact opd_move rfl rfl) ?_
      refine al_d rfl rfl rfl (by exact (by first | exact opd_len_sl rfl Try.underlying44 rfl | exact opd_len_osl rfl Try.underlying44 rfl rfl rfl)) ?_
      refine al_d rfl rfl rfl (by exact opd_lss rfl rfl rfl) ?_
      refine al_nil ?_
      refine awp_cond rfl (fun hc2 => ?_) (fun hc2 => ?_)
      -- cond 2
      · have hlt : i < l.length := by have := of_decide_eq_true hc2; omega
        obtain ⟨a, hai⟩ := get_of_lt hlt
        have hae := map_get (f := encAct) hai
        have hdo := run_do hinv hai (hl.txt a (List.mem_of_getElem? hai))
        refine awp_skip ?_
        refine awp_seq ?_
        refine awp_block ?_
        refine awp_region ?_
        refine al_d rfl rfl rfl (by exact opd_move rfl rfl) ?_
        refine al_d rfl rfl rfl (by exact opd_move rfl rfl) ?_
        refine al_d rfl rfl rfl (by exact opd_move rfl rfl) ?_
        refine al_d rfl rfl rfl (by exact (by first | exact x_index_pad rfl so44 rfl rfl (by omega) (by first | exact Int.toNat_natCast _ | rfl) (by assumption) rfl | exact x_index_osl rfl so44 rfl rfl rfl rfl rfl (by omega) (by first | exact Int.toNat_natCast _ | rfl) (by first | omega | assumption) rfl)) ?_
        refine al_d rfl rfl rfl (by exact (by first | exact opd_loadn_ref rfl Try.isAgg55 Try.sizeOf55 rfl rfl rfl rfl (by simp only [List.drop_succ_cons, List.drop_zero, List.take_succ_cons, List.take_zero, List.take_nil, List.map_cons, List.map_nil, List.set_cons_zero, List.set_cons_succ, List.cons_append, List.nil_append, encQ, armR, dRow, encAct]; rfl) rfl | exact opd_loadn_pad rfl Try.isAgg55 Try.sizeOf55 rfl (by first | omega | assumption) (by simp only [List.drop_succ_cons, List.drop_zero, List.take_succ_cons, List.take_zero, List.take_nil, List.map_cons, List.map_nil, List.set_cons_zero, List.set_cons_succ, List.cons_append, List.nil_append, encQ, armR, dRow, encAct]; rfl) rfl)) ?_
        refine al_d rfl rfl rfl (by exact opr_call rfl rfl Try.call26 rfl (disk_frame hdo _ ⟨rfl, rfl, rfl, rfl, trivial⟩ (by simp [encAct]; rfl))) ?_
        refine al_nil ?_
        refine awp_region ?_
        refine al_d rfl rfl rfl (by exact opd_move rfl rfl) ?_
        refine al_d rfl rfl rfl (by exact opd_add rfl rfl rfl (by first | exact w64 (by omega) (by omega) | exact wu8 (by omega) (by omega) | rfl)) ?_
        refine al_d rfl rfl rfl (by exact opd_assign rfl rfl) ?_
        refine al_nil ?_
        -- end of a round
        exact ⟨i + 1, by omega, by omega, (Ent.wk ⟨⟨_, rfl, rfl⟩, (by first | (simp; done) | (simp; rfl) | exact clo_map _ _ _ | exact clo_brows _ _ | exact disk_clo _ _ rfl rfl rfl | exact arm_clo _ _ | exact clo_bools _ _ | (simp; exact ⟨rfl, rfl⟩) | (simp; exact ⟨rfl, rfl, rfl⟩)), ⟨_, rfl, rfl⟩, (by first | (simp; done) | (simp; rfl) | exact clo_map _ _ _ | exact clo_brows _ _ | exact disk_clo _ _ rfl rfl rfl | exact arm_clo _ _ | exact clo_bools _ _ | (simp; exact ⟨rfl, rfl⟩) | (simp; exact ⟨rfl, rfl, rfl⟩)), ⟨_, rfl, rfl⟩, (by first | (simp; done) | (simp; rfl) | exact clo_map _ _ _ | exact clo_brows _ _ | exact disk_clo _ _ rfl rfl rfl | exact arm_clo _ _ | exact clo_bools _ _ | (simp; exact ⟨rfl, rfl⟩) | (simp; exact ⟨rfl, rfl, rfl⟩)), ⟨_, rfl, rfl⟩, (by first | (simp; done) | (simp; rfl) | exact clo_map _ _ _ | exact clo_brows _ _ | exact disk_clo _ _ rfl rfl rfl | exact arm_clo _ _ | exact clo_bools _ _ | (simp; exact ⟨rfl, rfl⟩) | (simp; exact ⟨rfl, rfl, rfl⟩)), ⟨_, rfl, rfl⟩, (by first | (simp; done) | (simp; rfl) | exact clo_map _ _ _ | exact clo_brows _ _ | exact disk_clo _ _ rfl rfl rfl | exact arm_clo _ _ | exact clo_bools _ _ | (simp; exact ⟨rfl, rfl⟩) | (simp; exact ⟨rfl, rfl, rfl⟩)), ⟨_, rfl, rfl⟩, (by first | (simp; done) | (simp; rfl) | exact clo_map _ _ _ | exact clo_brows _ _ | exact disk_clo _ _ rfl rfl rfl | exact arm_clo _ _ | exact clo_bools _ _ | (simp; exact ⟨rfl, rfl⟩) | (simp; exact ⟨rfl, rfl, rfl⟩)), ⟨_, rfl, rfl⟩, (by first | (simp; done) | (simp; rfl) | exact clo_map _ _ _ | exact clo_brows _ _ | exact disk_clo _ _ rfl rfl rfl | exact arm_clo _ _ | exact clo_bools _ _ | (simp; exact ⟨rfl, rfl⟩) | (simp; exact ⟨rfl, rfl, rfl⟩)), ⟨_, rfl, rfl⟩, (by first | (simp; done) | (simp; rfl) | exact clo_map _ _ _ | exact clo_brows _ _ | exact disk_clo _ _ rfl rfl rfl | exact arm_clo _ _ | exact clo_bools _ _ | (simp; exact ⟨rfl, rfl⟩) | (simp; exact ⟨rfl, rfl, rfl⟩)), trivial⟩ ⟨⟨_, rfl, rfl⟩, (by first | (simp; done) | (simp; rfl) | exact clo_map _ _ _ | exact clo_brows _ _ | exact disk_clo _ _ rfl rfl rfl | exact arm_clo _ _ | exact clo_bools _ _ | (simp; exact ⟨rfl, rfl⟩) | (simp; exact ⟨rfl, rfl, rfl⟩)), ⟨_, rfl, rfl⟩, (by first | (simp; done) | (simp; rfl) | exact clo_map _ _ _ | exact clo_brows _ _ | exact disk_clo _ _ rfl rfl rfl | exact arm_clo _ _ | exact clo_bools _ _ | (simp; exact ⟨rfl, rfl⟩) | (simp; exact ⟨rfl, rfl, rfl⟩)), ⟨_, rfl, rfl⟩, (by first | (simp; done) | (simp; rfl) | exact clo_map _ _ _ | exact clo_brows _ _ | exact disk_clo _ _ rfl rfl rfl | exact arm_clo _ _ | exact clo_bools _ _ | (simp; exact ⟨rfl, rfl⟩) | (simp; exact ⟨rfl, rfl, rfl⟩)), ⟨_, rfl, rfl⟩, (by first | (simp; done) | (simp; rfl) | exact clo_map _ _ _ | exact clo_brows _ _ | exact disk_clo _ _ rfl rfl rfl | exact arm_clo _ _ | exact clo_bools _ _ | (simp; exact ⟨rfl, rfl⟩) | (simp; exact ⟨rfl, rfl, rfl⟩)), trivial⟩ trivial)⟩
      · have hge : i = l.length := by have : ¬ _ := of_decide_eq_false hc2; omega
        subst hge
        rw [List.take_length] at hinv ⊢
        obtain ⟨s1, hs1⟩ : ∃ s, s = runAll s0 l := ⟨_, rfl⟩
        rw [← hs1] at hinv ⊢
        clear hs1
        have hi2 := inv_start hinv
        have hca := calm_start s1
        obtain ⟨q1, q2⟩ := calm_sync hca
        have hi3 := inv_sync hi2
        rw [q1] at hi3
        have hca3 := calm_flush hca
        have hsy := cS hi2 q2 q1
        obtain ⟨s3, hs3⟩ : ∃ s, s = dFlush (dStart s1) := ⟨_, rfl⟩
        rw [← hs3] at hsy hi3 hca3
        have hq3 : s3.q = [] := by rw [hs3]; rfl
        clear hs3 q1 q2
        have hn3 := hi3.n
        have hi4 := inv_rot hi3 sec pos mask
        have hi5 := inv_rot hi4 sec pos mask
        have ho4 : (dRot s3 sec pos mask).off = false := by rw [rot_off]; exact hca3.1
        have ho5 : (dRot (dRot s3 sec pos mask) sec pos mask).off = false := by rw [rot_off]; exact ho4
        have hr3 := rot_c s3 sec pos mask hi3.ok
        have hr4 := rot_c _ sec pos mask hi4.ok
        have ct3 := contents_c s3 n hi3.ok hca3.1 (by omega)
        have ct4 := contents_c _ n hi4.ok ho4 (by rw [hi4.n]; omega)
        have ct5 := contents_c _ n hi5.ok ho5 (by rw [hi5.n]; omega)
        rw [rot_conts hi3 hq3] at ct5
        have hbyte := fun (i j : Nat) (hi : i < n) (hj : j < 64) => rot_byte hi3 hq3 sec pos mask hi hj
        have hts := fun (i : Nat) (hi : i < n) => dText_size hi3.ok (n := i) (by omega)
        have htr := fun (i : Nat) (hi : i < n) => dText_size hi4.ok (n := i) (by rw [hi4.n]; exact hi)
        have hv : (decide (0 ≤ sec) && decide (sec < (n : Int)) && decide (0 ≤ pos) && decide (pos < 64) && decide (1 ≤ mask) && decide (mask ≤ 255)) = rotOk s3 sec pos mask := by
          unfold rotOk secOk
          rw [hn3, Bool.eq_iff_iff]
          simp
          omega
        obtain ⟨V, hV⟩ : ∃ V, V = rotOk s3 sec pos mask := ⟨_, rfl⟩
        rw [← hV] at hbyte hv
        obtain ⟨s4, hs4⟩ : ∃ s, s = dRot s3 sec pos mask := ⟨_, rfl⟩
        rw [← hs4] at hr3 hr4 ct4 hbyte htr
        obtain ⟨s5, hs5⟩ : ∃ s, s = dRot s4 sec pos mask := ⟨_, rfl⟩
        rw [← hs5] at hr4
        rw [← hs4, ← hs5] at ct5
        clear hs4 hs5 hV ho4 ho5 hi4 hi5
        have hl3 := dConts_len s3 n
        have hl4 := dConts_len s4 n
        refine awp_exit ?_
        refine awp_seq ?_
        refine awp_region ?_
        refine al_d rfl rfl rfl (by exact opd_move rfl rfl) ?_
        refine al_d rfl rfl rfl (by exact opr_call rfl rfl Try.call30 rfl (disk_frame (start_c s1) _ ⟨rfl, rfl, rfl, rfl, trivial⟩ (by simp; rfl))) ?_
        refine al_nil ?_
        refine awp_seq ?_
        refine awp_seq ?_
        refine awp_region ?_
        refine al_d rfl rfl rfl (by exact opd_move rfl rfl) ?_
        refine al_d rfl rfl rfl (by exact opr_call rfl rfl Try.call31 rfl (disk_frame hsy _ ⟨rfl, rfl, rfl, rfl, trivial⟩ (by simp; rfl))) ?_
        refine al_d rfl rfl rfl (by exact opd_neq rfl rfl rfl) ?_
        refine al_nil ?_
        refine awp_cond rfl (fun hc3 => ?_) (fun hc3 => ?_)
        -- cond 3
        · cases hc3
        · skip
          refine awp_skip ?_
          refine awp_seq ?_
          refine awp_region ?_
          refine al_d rfl rfl rfl (by exact opd_move rfl rfl) ?_
          refine al_d rfl rfl rfl (by exact opd_move rfl rfl) ?_
          refine al_d rfl rfl rfl (by exact opr_call rfl rfl Try.call32 rfl (disk_frame ct3 _ ⟨rfl, rfl, rfl, rfl, trivial⟩ (by simp; rfl))) ?_
          refine al_d rfl rfl rfl (by exact opd_move rfl rfl) ?_
          refine al_d rfl rfl rfl (by exact opd_extract rfl rfl rfl) ?_
          refine al_d rfl rfl rfl (by exact opd_extract rfl rfl rfl) ?_
          refine al_d rfl rfl rfl (by exact opd_assign rfl rfl) ?_
          refine al_d rfl rfl rfl (by exact opd_assign rfl rfl) ?_
          refine al_nil ?_
          refine awp_seq ?_
          refine awp_region ?_
          refine al_d rfl rfl rfl (by exact opd_move rfl rfl) ?_
          refine al_d rfl rfl rfl (by exact opd_move rfl rfl) ?_
          refine al_d rfl rfl rfl (by exact opd_move rfl rfl) ?_
          refine al_d rfl rfl rfl (by exact opd_move rfl rfl) ?_
          refine al_d rfl rfl rfl (by exact opr_call rfl rfl Try.call40 rfl (disk_frame hr3 _ ⟨rfl, rfl, rfl, rfl, trivial⟩ (by simp; rfl))) ?_
          refine al_nil ?_
          refine awp_seq ?_
          refine awp_region ?_
          refine al_d rfl rfl rfl (by exact opd_move rfl rfl) ?_
          refine al_d rfl rfl rfl (by exact opd_move rfl rfl) ?_
          refine al_d rfl rfl rfl (by exact opr_call rfl rfl Try.call32 rfl (disk_frame ct4 _ ⟨rfl, rfl, rfl, rfl, trivial⟩ (by simp; rfl))) ?_
          refine al_d rfl rfl rfl (by exact opd_move rfl rfl) ?_
          refine al_d rfl rfl rfl (by exact opd_extract rfl rfl rfl) ?_
          refine al_d rfl rfl rfl (by exact opd_extract rfl rfl rfl) ?_
          refine al_d rfl rfl rfl (by exact opd_assign rfl rfl) ?_
          refine al_d rfl rfl rfl (by exact opd_assign rfl rfl) ?_
          refine al_nil ?_
          refine awp_seq ?_
          refine awp_region ?_
          refine al_d rfl rfl rfl (by exact opd_move rfl rfl) ?_
          refine al_d rfl rfl rfl (by exact opd_move rfl rfl) ?_
          refine al_d rfl rfl rfl (by exact opd_move rfl rfl) ?_
          refine al_d rfl rfl rfl (by exact opd_move rfl rfl) ?_
          refine al_d rfl rfl rfl (by exact opr_call rfl rfl Try.call40 rfl (disk_frame hr4 _ ⟨rfl, rfl, rfl, rfl, trivial⟩ (by simp; rfl))) ?_
          refine al_nil ?_
          refine awp_seq ?_
          refine awp_region ?_
          refine al_d rfl rfl rfl (by exact opd_move rfl rfl) ?_
          refine al_d rfl rfl rfl (by exact opd_move rfl rfl) ?_
          refine al_d rfl rfl rfl (by exact opr_call rfl rfl Try.call32 rfl (disk_frame ct5 _ ⟨rfl, rfl, rfl, rfl, trivial⟩ (by simp; rfl))) ?_
          refine al_d rfl rfl rfl (by exact opd_move rfl rfl) ?_
          refine al_d rfl rfl rfl (by exact opd_extract rfl rfl rfl) ?_
          refine al_d rfl rfl rfl (by exact opd_extract rfl rfl rfl) ?_
          refine al_d rfl rfl rfl (by exact opd_assign rfl rfl) ?_
          refine al_d rfl rfl rfl (by exact opd_assign rfl rfl) ?_
          refine al_nil ?_
          refine awp_seq ?_
          refine awp_seq ?_
          refine awp_region ?_
          refine al_d rfl rfl rfl (by exact opd_move rfl rfl) ?_
          refine al_d rfl rfl rfl (by exact opd_not rfl rfl) ?_
          refine al_d rfl rfl rfl (by exact opd_move rfl rfl) ?_
          refine al_ond rfl rfl rfl (by first | rfl | assumption) rfl rfl (by exact opd_move rfl rfl) ?_
          refine al_ond rfl rfl rfl (by first | rfl | assumption) rfl rfl (by exact opd_not rfl rfl) ?_
          refine al_d rfl rfl rfl (by exact (by first | exact opd_pick_t rfl rfl rfl | exact opd_pick_f rfl rfl rfl | exact opd_pickt rfl rfl (by assumption) rfl | exact opd_pickf rfl rfl (by assumption) rfl | exact opd_pick rfl rfl rfl)) ?_
          refine al_d rfl rfl rfl (by exact opd_move rfl rfl) ?_
          refine al_ond rfl rfl rfl (by first | rfl | assumption) rfl rfl (by exact opd_move rfl rfl) ?_
          refine al_ond rfl rfl rfl (by first | rfl | assumption) rfl rfl (by exact opd_not rfl rfl) ?_
          refine al_d rfl rfl rfl (by exact (by first | exact opd_pick_t rfl rfl rfl | exact opd_pick_f rfl rfl rfl | exact opd_pickt rfl rfl (by assumption) rfl | exact opd_pickf rfl rfl (by assumption) rfl | exact opd_pick rfl rfl rfl)) ?_
          refine al_d rfl rfl rfl (by exact opd_move rfl rfl) ?_
          refine al_ond rfl rfl rfl (by first | rfl | assumption) rfl rfl (by exact opd_move rfl rfl) ?_
          refine al_ond rfl rfl rfl (by first | rfl | assumption) rfl rfl (by exact opd_move rfl rfl) ?_
          refine al_ond rfl rfl rfl (by first | rfl | assumption) rfl rfl (by exact opr_call rfl rfl Try.call37 rfl (same_self _ _ (by omega))) ?_
          refine al_ond rfl rfl rfl (by first | rfl | assumption) rfl rfl (by exact opd_not rfl rfl) ?_
          refine al_d rfl rfl rfl (by exact (by first | exact opd_pick_t rfl rfl rfl | exact opd_pick_f rfl rfl rfl | exact opd_pickt rfl rfl (by assumption) rfl | exact opd_pickf rfl rfl (by assumption) rfl | exact opd_pick rfl rfl rfl)) ?_
          refine al_nil ?_
          refine awp_cond rfl (fun hc4 => ?_) (fun hc4 => ?_)
          -- cond 4
          · cases hc4
          · skip
            refine awp_skip ?_
            refine awp_seq ?_
            refine awp_bool (t := 21) (n := 29) (X := (decide (0 ≤ sec) && decide (sec < (n : Int)) && decide (0 ≤ pos) && decide (pos < 64) && decide (1 ≤ mask) && decide (mask ≤ 255))) ?_ ?_
            · all_goals (refine al_d rfl rfl rfl (by exact opd_move rfl rfl) ?_)
              all_goals (refine al_d rfl rfl rfl (by exact opd_geq rfl rfl rfl) ?_)
              all_goals (refine al_d rfl rfl rfl (by exact opd_move rfl rfl) ?_)
              all_goals (first | refine al_split (t := 97) rfl (fun h97 => ?_) (fun h97 => ?_) | skip)
              all_goals (try contradiction)
              all_goals (first | refine al_off rfl rfl rfl rfl rfl ?_ | refine al_offu rfl rfl rfl rfl ?_ | refine al_ond rfl rfl rfl rfl rfl rfl (by exact opd_move rfl rfl) ?_)
              all_goals (first | refine al_off rfl rfl rfl rfl rfl ?_ | refine al_offu rfl rfl rfl rfl ?_ | refine al_ond rfl rfl rfl rfl rfl rfl (by exact opd_move rfl rfl) ?_)
              all_goals (first | refine al_off rfl rfl rfl rfl rfl ?_ | refine al_offu rfl rfl rfl rfl ?_ | refine al_ond rfl rfl rfl rfl rfl rfl (by exact opd_lss rfl rfl rfl) ?_)
              all_goals (refine al_d rfl rfl rfl (by exact (by first | exact opd_pick_t rfl rfl rfl | exact opd_pick_f rfl rfl rfl | exact opd_pickt rfl rfl (by assumption) rfl | exact opd_pickf rfl rfl (by assumption) rfl | exact opd_pick rfl rfl rfl)) ?_)
              all_goals (refine al_d rfl rfl rfl (by exact opd_move rfl rfl) ?_)
              all_goals (first | refine al_split (t := 102) rfl (fun h102 => ?_) (fun h102 => ?_) | skip)
              all_goals (try contradiction)
              all_goals (first | refine al_off rfl rfl rfl rfl rfl ?_ | refine al_offu rfl rfl rfl rfl ?_ | refine al_ond rfl rfl rfl rfl rfl rfl (by exact opd_move rfl rfl) ?_)
              all_goals (first | refine al_off rfl rfl rfl rfl rfl ?_ | refine al_offu rfl rfl rfl rfl ?_ | refine al_ond rfl rfl rfl rfl rfl rfl (by exact opd_geq rfl rfl rfl) ?_)
              all_goals (refine al_d rfl rfl rfl (by exact (by first | exact opd_pick_t rfl rfl rfl | exact opd_pick_f rfl rfl rfl | exact opd_pickt rfl rfl (by assumption) rfl | exact opd_pickf rfl rfl (by assumption) rfl | exact opd_pick rfl rfl rfl)) ?_)
              all_goals (refine al_d rfl rfl rfl (by exact opd_move rfl rfl) ?_)
              all_goals (first | refine al_split (t := 106) rfl (fun h106 => ?_) (fun h106 => ?_) | skip)
              all_goals (try contradiction)
              all_goals (first | refine al_off rfl rfl rfl rfl rfl ?_ | refine al_offu rfl rfl rfl rfl ?_ | refine al_ond rfl rfl rfl rfl rfl rfl (by exact opd_move rfl rfl) ?_)
              all_goals (first | refine al_off rfl rfl rfl rfl rfl ?_ | refine al_offu rfl rfl rfl rfl ?_ | refine al_ond rfl rfl rfl rfl rfl rfl (by exact opd_lss rfl rfl rfl) ?_)
              all_goals (refine al_d rfl rfl rfl (by exact (by first | exact opd_pick_t rfl rfl rfl | exact opd_pick_f rfl rfl rfl | exact opd_pickt rfl rfl (by assumption) rfl | exact opd_pickf rfl rfl (by assumption) rfl | exact opd_pick rfl rfl rfl)) ?_)
              all_goals (refine al_d rfl rfl rfl (by exact opd_move rfl rfl) ?_)
              all_goals (first | refine al_split (t := 110) rfl (fun h110 => ?_) (fun h110 => ?_) | skip)
              all_goals (try contradiction)
              all_goals (first | refine al_off rfl rfl rfl rfl rfl ?_ | refine al_offu rfl rfl rfl rfl ?_ | refine al_ond rfl rfl rfl rfl rfl rfl (by exact opd_move rfl rfl) ?_)
              all_goals (first | refine al_off rfl rfl rfl rfl rfl ?_ | refine al_offu rfl rfl rfl rfl ?_ | refine al_ond rfl rfl rfl rfl rfl rfl (by exact opd_geq rfl rfl rfl) ?_)
              all_goals (refine al_d rfl rfl rfl (by exact (by first | exact opd_pick_t rfl rfl rfl | exact opd_pick_f rfl rfl rfl | exact opd_pickt rfl rfl (by assumption) rfl | exact opd_pickf rfl rfl (by assumption) rfl | exact opd_pick rfl rfl rfl)) ?_)
              all_goals (refine al_d rfl rfl rfl (by exact opd_move rfl rfl) ?_)
              all_goals (first | refine al_split (t := 114) rfl (fun h114 => ?_) (fun h114 => ?_) | skip)
              all_goals (try contradiction)
              all_goals (first | refine al_off rfl rfl rfl rfl rfl ?_ | refine al_offu rfl rfl rfl rfl ?_ | refine al_ond rfl rfl rfl rfl rfl rfl (by exact opd_move rfl rfl) ?_)
              all_goals (first | refine al_off rfl rfl rfl rfl rfl ?_ | refine al_offu rfl rfl rfl rfl ?_ | refine al_ond rfl rfl rfl rfl rfl rfl (by exact opd_leq rfl rfl rfl) ?_)
              all_goals (refine al_d rfl rfl rfl (by exact (by first | exact opd_pick_t rfl rfl rfl | exact opd_pick_f rfl rfl rfl | exact opd_pickt rfl rfl (by assumption) rfl | exact opd_pickf rfl rfl (by assumption) rfl | exact opd_pick rfl rfl rfl)) ?_)
              all_goals (refine al_d rfl rfl rfl (by exact opd_assign rfl rfl) ?_)
              all_goals (refine al_nil ?_)
              all_goals (exact ⟨⟨_, rfl, by first | rfl | (simp only [*, Bool.false_and, Bool.true_and, Bool.and_false, Bool.and_true, Bool.true_or, Bool.false_or, Bool.or_true, Bool.or_false, Bool.not_true, Bool.not_false]; done) | (simp_all; done) | (simp_all; omega)⟩, rfl, rfl, rfl⟩)
            refine awp_seq ?_
            refine awp_seq ?_
            refine awp_region ?_
            refine al_d rfl rfl rfl (by exact opd_assign rfl rfl) ?_
            refine al_nil ?_
            refine awp_block ?_
            -- loop
            rw [hv]
            refine awp_loop (σ := Nat) (fun i => ([(2, iv sec), (3, iv pos), (4, iv mask), (11, bv true), (12, iv (n : Int)), (15, .pv (slStrs (dConts s3 n))), (17, .pv (slStrs (dConts s4 n))), (21, bv V), (22, iv (i : Int))], [])) (fun i => i ≤ n) (fun i => n - i) 0 (by omega) ?_ ?_
            · exact (Ent.wk ⟨⟨_, rfl, rfl⟩, (by first | (simp; done) | (simp; rfl) | exact clo_map _ _ _ | exact clo_brows _ _ | exact disk_clo _ _ rfl rfl rfl | exact arm_clo _ _ | exact clo_bools _ _ | (simp; exact ⟨rfl, rfl⟩) | (simp; exact ⟨rfl, rfl, rfl⟩)), ⟨_, rfl, rfl⟩, (by first | (simp; done) | (simp; rfl) | exact clo_map _ _ _ | exact clo_brows _ _ | exact disk_clo _ _ rfl rfl rfl | exact arm_clo _ _ | exact clo_bools _ _ | (simp; exact ⟨rfl, rfl⟩) | (simp; exact ⟨rfl, rfl, rfl⟩)), ⟨_, rfl, rfl⟩, (by first | (simp; done) | (simp; rfl) | exact clo_map _ _ _ | exact clo_brows _ _ | exact disk_clo _ _ rfl rfl rfl | exact arm_clo _ _ | exact clo_bools _ _ | (simp; exact ⟨rfl, rfl⟩) | (simp; exact ⟨rfl, rfl, rfl⟩)), ⟨_, rfl, rfl⟩, (by first | (simp; done) | (simp; rfl) | exact clo_map _ _ _ | exact clo_brows _ _ | exact disk_clo _ _ rfl rfl rfl | exact arm_clo _ _ | exact clo_bools _ _ | (simp; exact ⟨rfl, rfl⟩) | (simp; exact ⟨rfl, rfl, rfl⟩)), ⟨_, rfl, rfl⟩, (by first | (simp; done) | (simp; rfl) | exact clo_map _ _ _ | exact clo_brows _ _ | exact disk_clo _ _ rfl rfl rfl | exact arm_clo _ _ | exact clo_bools _ _ | (simp; exact ⟨rfl, rfl⟩) | (simp; exact ⟨rfl, rfl, rfl⟩)), ⟨_, rfl, rfl⟩, (by first | (simp; done) | (simp; rfl) | exact clo_map _ _ _ | exact clo_brows _ _ | exact disk_clo _ _ rfl rfl rfl | exact arm_clo _ _ | exact clo_bools _ _ | (simp; exact ⟨rfl, rfl⟩) | (simp; exact ⟨rfl, rfl, rfl⟩)), ⟨_, rfl, rfl⟩, (by first | (simp; done) | (simp; rfl) | exact clo_map _ _ _ | exact clo_brows _ _ | exact disk_clo _ _ rfl rfl rfl | exact arm_clo _ _ | exact clo_bools _ _ | (simp; exact ⟨rfl, rfl⟩) | (simp; exact ⟨rfl, rfl, rfl⟩)), ⟨_, rfl, rfl⟩, (by first | (simp; done) | (simp; rfl) | exact clo_map _ _ _ | exact clo_brows _ _ | exact disk_clo _ _ rfl rfl rfl | exact arm_clo _ _ | exact clo_bools _ _ | (simp; exact ⟨rfl, rfl⟩) | (simp; exact ⟨rfl, rfl, rfl⟩)), ⟨_, rfl, rfl⟩, (by first | (simp; done) | (simp; rfl) | exact clo_map _ _ _ | exact clo_brows _ _ | exact disk_clo _ _ rfl rfl rfl | exact arm_clo _ _ | exact clo_bools _ _ | (simp; exact ⟨rfl, rfl⟩) | (simp; exact ⟨rfl, rfl, rfl⟩)), trivial⟩ trivial trivial)
            · intro i hi
              refine awp_seq ?_
              refine awp_seq ?_
              refine awp_region ?_
              refine al_d rfl rfl rfl (by exact opd_move rfl rfl) ?_
              refine al_d rfl rfl rfl (by exact opd_move rfl rfl) ?_
              refine al_d rfl rfl rfl (by exact opd_lss rfl rfl rfl) ?_
              refine al_nil ?_
              refine awp_cond rfl (fun hc5 => ?_) (fun hc5 => ?_)
              -- cond 5
              · have hin : i < n := by have := of_decide_eq_true hc5; omega
                have hx : (dConts s3 n)[i]? = some (dText s3 i) := by rw [dConts, List.getElem?_map, List.getElem?_range hin]; rfl
                have hy : (dConts s4 n)[i]? = some (dText s4 i) := by rw [dConts, List.getElem?_map, List.getElem?_range hin]; rfl
                have hxe := map_get (f := encStr) hx
                have hye := map_get (f := encStr) hy
                have hxs := hts i hin
                have hys := htr i hin
                refine awp_skip ?_
                refine awp_seq ?_
                refine awp_block ?_
                refine awp_seq ?_
                refine awp_region ?_
                refine al_d rfl rfl rfl (by exact opd_assign rfl rfl) ?_
                refine al_nil ?_
                refine awp_block ?_
                -- loop
                refine awp_loop (σ := Nat) (fun j => ([(2, iv sec), (3, iv pos), (4, iv mask), (11, bv true), (12, iv (n : Int)), (15, .pv (slStrs (dConts s3 n))), (17, .pv (slStrs (dConts s4 n))), (21, bv V), (22, iv (i : Int)), (23, iv (j : Int))], [])) (fun j => j ≤ 64) (fun j => 64 - j) 0 (by omega) ?_ ?_
                · exact (Ent.wk ⟨⟨_, rfl, rfl⟩, (by first | (simp; done) | (simp; rfl) | exact clo_map _ _ _ | exact clo_brows _ _ | exact disk_clo _ _ rfl rfl rfl | exact arm_clo _ _ | exact clo_bools _ _ | (simp; exact ⟨rfl, rfl⟩) | (simp; exact ⟨rfl, rfl, rfl⟩)), ⟨_, rfl, rfl⟩, (by first | (simp; done) | (simp; rfl) | exact clo_map _ _ _ | exact clo_brows _ _ | exact disk_clo _ _ rfl rfl rfl | exact arm_clo _ _ | exact clo_bools _ _ | (simp; exact ⟨rfl, rfl⟩) | (simp; exact ⟨rfl, rfl, rfl⟩)), ⟨_, rfl, rfl⟩, (by first | (simp; done) | (simp; rfl) | exact clo_map _ _ _ | exact clo_brows _ _ | exact disk_clo _ _ rfl rfl rfl | exact arm_clo _ _ | exact clo_bools _ _ | (simp; exact ⟨rfl, rfl⟩) | (simp; exact ⟨rfl, rfl, rfl⟩)), ⟨_, rfl, rfl⟩, (by first | (simp; done) | (simp; rfl) | exact clo_map _ _ _ | exact clo_brows _ _ | exact disk_clo _ _ rfl rfl rfl | exact arm_clo _ _ | exact clo_bools _ _ | (simp; exact ⟨rfl, rfl⟩) | (simp; exact ⟨rfl, rfl, rfl⟩)), ⟨_, rfl, rfl⟩, (by first | (simp; done) | (simp; rfl) | exact clo_map _ _ _ | exact clo_brows _ _ | exact disk_clo _ _ rfl rfl rfl | exact arm_clo _ _ | exact clo_bools _ _ | (simp; exact ⟨rfl, rfl⟩) | (simp; exact ⟨rfl, rfl, rfl⟩)), ⟨_, rfl, rfl⟩, (by first | (simp; done) | (simp; rfl) | exact clo_map _ _ _ | exact clo_brows _ _ | exact disk_clo _ _ rfl rfl rfl | exact arm_clo _ _ | exact clo_bools _ _ | (simp; exact ⟨rfl, rfl⟩) | (simp; exact ⟨rfl, rfl, rfl⟩)), ⟨_, rfl, rfl⟩, (by first | (simp; done) | (simp; rfl) | exact clo_map _ _ _ | exact clo_brows _ _ | exact disk_clo _ _ rfl rfl rfl | exact arm_clo _ _ | exact clo_bools _ _ | (simp; exact ⟨rfl, rfl⟩) | (simp; exact ⟨rfl, rfl, rfl⟩)), ⟨_, rfl, rfl⟩, (by first | (simp; done) | (simp; rfl) | exact clo_map _ _ _ | exact clo_brows _ _ | exact disk_clo _ _ rfl rfl rfl | exact arm_clo _ _ | exact clo_bools _ _ | (simp; exact ⟨rfl, rfl⟩) | (simp; exact ⟨rfl, rfl, rfl⟩)), ⟨_, rfl, rfl⟩, (by first | (simp; done) | (simp; rfl) | exact clo_map _ _ _ | exact clo_brows _ _ | exact disk_clo _ _ rfl rfl rfl | exact arm_clo _ _ | exact clo_bools _ _ | (simp; exact ⟨rfl, rfl⟩) | (simp; exact ⟨rfl, rfl, rfl⟩)), ⟨_, rfl, rfl⟩, (by first | (simp; done) | (simp; rfl) | exact clo_map _ _ _ | exact clo_brows _ _ | exact disk_clo _ _ rfl rfl rfl | exact arm_clo _ _ | exact clo_bools _ _ | (simp; exact ⟨rfl, rfl⟩) | (simp; exact ⟨rfl, rfl, rfl⟩)), trivial⟩ trivial trivial)
                · intro j hj
                  refine awp_seq ?_
                  refine awp_seq ?_
                  refine awp_region ?_
                  refine al_d rfl rfl rfl (by exact opd_move rfl rfl) ?_
                  refine al_d rfl rfl rfl (by exact opd_lss rfl rfl rfl) ?_
                  refine al_nil ?_
                  refine awp_cond rfl (fun hc6 => ?_) (fun hc6 => ?_)
                  -- cond 6
                  · have hj64 : j < 64 := by have := of_decide_eq_true hc6; omega
                    have hbt := hbyte i j hin hj64
                    obtain ⟨bb, hbb⟩ : ∃ b : Int, b = (if V = true ∧ (i : Int) = sec ∧ (j : Int) = pos then mask else 0) := ⟨_, rfl⟩
                    rw [← hbb] at hbt
                    have hbd : 0 ≤ bb ∧ bb ≤ 255 := by
                      rw [hbb]
                      split
                      · next h =>
                        rw [h.1] at hv
                        simp only [Bool.and_eq_true, decide_eq_true_eq] at hv
                        omega
                      · omega
                    have hcv : IntKind.i64.wrap bb = bb := w64 (by omega) (by omega)
                    refine awp_skip ?_
                    refine awp_seq ?_
                    refine awp_block ?_
                    refine awp_seq ?_
                    refine awp_region ?_
                    refine al_d rfl rfl rfl (by exact opd_assign rfl rfl) ?_
                    refine al_nil ?_
                    refine awp_seq ?_
                    refine awp_seq ?_
                    refine awp_bool (t := 137) (n := 13) (X := V && decide ((i : Int) = sec) && decide ((j : Int) = pos)) ?_ ?_
                    · all_goals (refine al_d rfl rfl rfl (by exact opd_move rfl rfl) ?_)
                      all_goals (refine al_d rfl rfl rfl (by exact opd_move rfl rfl) ?_)
                      all_goals (first | refine al_split (t := 128) rfl (fun h128 => ?_) (fun h128 => ?_) | skip)
                      all_goals (try contradiction)
                      all_goals (first | refine al_off rfl rfl rfl rfl rfl ?_ | refine al_offu rfl rfl rfl rfl ?_ | refine al_ond rfl rfl rfl rfl rfl rfl (by exact opd_move rfl rfl) ?_)
                      all_goals (first | refine al_off rfl rfl rfl rfl rfl ?_ | refine al_offu rfl rfl rfl rfl ?_ | refine al_ond rfl rfl rfl rfl rfl rfl (by exact opd_move rfl rfl) ?_)
                      all_goals (first | refine al_off rfl rfl rfl rfl rfl ?_ | refine al_offu rfl rfl rfl rfl ?_ | refine al_ond rfl rfl rfl rfl rfl rfl (by exact opd_eql rfl rfl rfl) ?_)
                      all_goals (refine al_d rfl rfl rfl (by exact (by first | exact opd_pick_t rfl rfl rfl | exact opd_pick_f rfl rfl rfl | exact opd_pickt rfl rfl (by assumption) rfl | exact opd_pickf rfl rfl (by assumption) rfl | exact opd_pick rfl rfl rfl)) ?_)
                      all_goals (refine al_d rfl rfl rfl (by exact opd_move rfl rfl) ?_)
                      all_goals (first | refine al_split (t := 133) rfl (fun h133 => ?_) (fun h133 => ?_) | skip)
                      all_goals (try contradiction)
                      all_goals (first | refine al_off rfl rfl rfl rfl rfl ?_ | refine al_offu rfl rfl rfl rfl ?_ | refine al_ond rfl rfl rfl rfl rfl rfl (by exact opd_move rfl rfl) ?_)
                      all_goals (first | refine al_off rfl rfl rfl rfl rfl ?_ | refine al_offu rfl rfl rfl rfl ?_ | refine al_ond rfl rfl rfl rfl rfl rfl (by exact opd_move rfl rfl) ?_)
                      all_goals (first | refine al_off rfl rfl rfl rfl rfl ?_ | refine al_offu rfl rfl rfl rfl ?_ | refine al_ond rfl rfl rfl rfl rfl rfl (by exact opd_eql rfl rfl rfl) ?_)
                      all_goals (refine al_d rfl rfl rfl (by exact (by first | exact opd_pick_t rfl rfl rfl | exact opd_pick_f rfl rfl rfl | exact opd_pickt rfl rfl (by assumption) rfl | exact opd_pickf rfl rfl (by assumption) rfl | exact opd_pick rfl rfl rfl)) ?_)
                      all_goals (refine al_nil ?_)
                      all_goals (exact ⟨⟨_, rfl, by first | rfl | (simp_all; done)⟩, rfl, rfl, rfl⟩)
                    refine awp_cond rfl (fun hc7 => ?_) (fun hc7 => ?_)
                    -- cond 7
                    · have hm : bb = mask := by
                        simp only [Bool.and_eq_true, decide_eq_true_eq] at hc7
                        rw [hbb, if_pos ⟨hc7.1.1, hc7.1.2, hc7.2⟩]
                      refine awp_region ?_
                      refine al_d rfl rfl rfl (by exact opd_move rfl rfl) ?_
                      refine al_d rfl rfl rfl (by exact opd_assign rfl rfl) ?_
                      refine al_nil ?_
                      refine awp_seq ?_
                      refine awp_drawc follows ?_
                      refine dc_cons (DStep.q rfl (by exact opd_move rfl rfl)) rfl ?_
                      refine dc_cons (DStep.q rfl (by exact opd_move rfl rfl)) rfl ?_
                      refine dc_cons (DStep.q rfl (by exact (by first | exact x_index_pad rfl so34 rfl rfl (by omega) (by first | exact Int.toNat_natCast _ | rfl) (by assumption) rfl | exact x_index_osl rfl so34 rfl rfl rfl rfl rfl (by omega) (by first | exact Int.toNat_natCast _ | rfl) (by first | omega | assumption) rfl))) rfl ?_
                      refine dc_cons (DStep.q rfl (by exact (by first | exact opd_load1_ref rfl Try.isAgg9 rfl rfl rfl rfl rfl | exact opd_load1_pad rfl Try.isAgg9 rfl (by first | omega | assumption) rfl))) rfl ?_
                      refine dc_cons (DStep.q rfl (by exact opd_move rfl rfl)) rfl ?_
                      refine dc_cons (DStep.q rfl (by exact opd_index_str rfl Try.underlying9 rfl rfl (by omega) (by first | exact Int.toNat_natCast _ | rfl) (by first | omega | assumption) rfl)) rfl ?_
                      refine dc_cons (DStep.q rfl (by exact opd_move rfl rfl)) rfl ?_
                      refine dc_cons (DStep.q rfl (by exact opd_move rfl rfl)) rfl ?_
                      refine dc_cons (DStep.q rfl (by exact (by first | exact x_index_pad rfl so34 rfl rfl (by omega) (by first | exact Int.toNat_natCast _ | rfl) (by assumption) rfl | exact x_index_osl rfl so34 rfl rfl rfl rfl rfl (by omega) (by first | exact Int.toNat_natCast _ | rfl) (by first | omega | assumption) rfl))) rfl ?_
                      refine dc_cons (DStep.q rfl (by exact (by first | exact opd_load1_ref rfl Try.isAgg9 rfl rfl rfl rfl rfl | exact opd_load1_pad rfl Try.isAgg9 rfl (by first | omega | assumption) rfl))) rfl ?_
                      refine dc_cons (DStep.q rfl (by exact opd_move rfl rfl)) rfl ?_
                      refine dc_cons (DStep.q rfl (by exact opd_index_str rfl Try.underlying9 rfl rfl (by omega) (by first | exact Int.toNat_natCast _ | rfl) (by first | omega | assumption) rfl)) rfl ?_
                      refine dc_cons (DStep.q rfl (by exact opd_bits rfl (by simp) rfl rfl hbt)) rfl ?_
                      refine dc_cons (DStep.q rfl (by exact opd_conv_int rfl Try.underlying5 Try.underlying3 rfl hcv)) rfl ?_
                      refine dc_cons (DStep.q rfl (by exact opd_move rfl rfl)) rfl ?_
                      refine dc_cons (DStep.q rfl (by exact opd_neq rfl rfl rfl)) rfl ?_
                      refine dc_nil ⟨by kernel_rfl, ?_⟩
                      refine awp_cond rfl (fun hc8 => ?_) (fun hc8 => ?_)
                      -- cond 8
                      · have h : (!decide (bb = mask)) = true := hc8
                        rw [hm] at h; simp at h
                      · skip
                        refine awp_skip ?_
                        refine awp_region ?_
                        refine al_d rfl rfl rfl (by exact opd_move rfl rfl) ?_
                        refine al_d rfl rfl rfl (by exact opd_add rfl rfl rfl (by first | exact w64 (by omega) (by omega) | exact wu8 (by omega) (by omega) | rfl)) ?_
                        refine al_d rfl rfl rfl (by exact opd_assign rfl rfl) ?_
                        refine al_nil ?_
                        -- end of a round
                        exact ⟨j + 1, by omega, by omega, (Ent.wk ⟨⟨_, rfl, rfl⟩, (by first | (simp; done) | (simp; rfl) | exact clo_map _ _ _ | exact clo_brows _ _ | exact disk_clo _ _ rfl rfl rfl | exact arm_clo _ _ | exact clo_bools _ _ | (simp; exact ⟨rfl, rfl⟩) | (simp; exact ⟨rfl, rfl, rfl⟩)), ⟨_, rfl, rfl⟩, (by first | (simp; done) | (simp; rfl) | exact clo_map _ _ _ | exact clo_brows _ _ | exact disk_clo _ _ rfl rfl rfl | exact arm_clo _ _ | exact clo_bools _ _ | (simp; exact ⟨rfl, rfl⟩) | (simp; exact ⟨rfl, rfl, rfl⟩)), ⟨_, rfl, rfl⟩, (by first | (simp; done) | (simp; rfl) | exact clo_map _ _ _ | exact clo_brows _ _ | exact disk_clo _ _ rfl rfl rfl | exact arm_clo _ _ | exact clo_bools _ _ | (simp; exact ⟨rfl, rfl⟩) | (simp; exact ⟨rfl, rfl, rfl⟩)), ⟨_, rfl, rfl⟩, (by first | (simp; done) | (simp; rfl) | exact clo_map _ _ _ | exact clo_brows _ _ | exact disk_clo _ _ rfl rfl rfl | exact arm_clo _ _ | exact clo_bools _ _ | (simp; exact ⟨rfl, rfl⟩) | (simp; exact ⟨rfl, rfl, rfl⟩)), ⟨_, rfl, rfl⟩, (by first | (simp; done) | (simp; rfl) | exact clo_map _ _ _ | exact clo_brows _ _ | exact disk_clo _ _ rfl rfl rfl | exact arm_clo _ _ | exact clo_bools _ _ | (simp; exact ⟨rfl, rfl⟩) | (simp; exact ⟨rfl, rfl, rfl⟩)), ⟨_, rfl, rfl⟩, (by first | (simp; done) | (simp; rfl) | exact clo_map _ _ _ | exact clo_brows _ _ | exact disk_clo _ _ rfl rfl rfl | exact arm_clo _ _ | exact clo_bools _ _ | (simp; exact ⟨rfl, rfl⟩) | (simp; exact ⟨rfl, rfl, rfl⟩)), ⟨_, rfl, rfl⟩, (by first | (simp; done) | (simp; rfl) | exact clo_map _ _ _ | exact clo_brows _ _ | exact disk_clo _ _ rfl rfl rfl | exact arm_clo _ _ | exact clo_bools _ _ | (simp; exact ⟨rfl, rfl⟩) | (simp; exact ⟨rfl, rfl, rfl⟩)), ⟨_, rfl, rfl⟩, (by first | (simp; done) | (simp; rfl) | exact clo_map _ _ _ | exact clo_brows _ _ | exact disk_clo _ _ rfl rfl rfl | exact arm_clo _ _ | exact clo_bools _ _ | (simp; exact ⟨rfl, rfl⟩) | (simp; exact ⟨rfl, rfl, rfl⟩)), ⟨_, rfl, rfl⟩, (by first | (simp; done) | (simp; rfl) | exact clo_map _ _ _ | exact clo_brows _ _ | exact disk_clo _ _ rfl rfl rfl | exact arm_clo _ _ | exact clo_bools _ _ | (simp; exact ⟨rfl, rfl⟩) | (simp; exact ⟨rfl, rfl, rfl⟩)), ⟨_, rfl, rfl⟩, (by first | (simp; done) | (simp; rfl) | exact clo_map _ _ _ | exact clo_brows _ _ | exact disk_clo _ _ rfl rfl rfl | exact arm_clo _ _ | exact clo_bools _ _ | (simp; exact ⟨rfl, rfl⟩) | (simp; exact ⟨rfl, rfl, rfl⟩)), trivial⟩ trivial trivial)⟩
                    · have hm : bb = 0 := by
                        rw [hbb, if_neg]
                        rintro ⟨e1, e2, e3⟩
                        rw [e1, decide_eq_true e2, decide_eq_true e3] at hc7
                        cases hc7
                      refine awp_skip ?_
                      refine awp_seq ?_
                      refine awp_drawc follows ?_
                      refine dc_cons (DStep.q rfl (by exact opd_move rfl rfl)) rfl ?_
                      refine dc_cons (DStep.q rfl (by exact opd_move rfl rfl)) rfl ?_
                      refine dc_cons (DStep.q rfl (by exact (by first | exact x_index_pad rfl so34 rfl rfl (by omega) (by first | exact Int.toNat_natCast _ | rfl) (by assumption) rfl | exact x_index_osl rfl so34 rfl rfl rfl rfl rfl (by omega) (by first | exact Int.toNat_natCast _ | rfl) (by first | omega | assumption) rfl))) rfl ?_
                      refine dc_cons (DStep.q rfl (by exact (by first | exact opd_load1_ref rfl Try.isAgg9 rfl rfl rfl rfl rfl | exact opd_load1_pad rfl Try.isAgg9 rfl (by first | omega | assumption) rfl))) rfl ?_
                      refine dc_cons (DStep.q rfl (by exact opd_move rfl rfl)) rfl ?_
                      refine dc_cons (DStep.q rfl (by exact opd_index_str rfl Try.underlying9 rfl rfl (by omega) (by first | exact Int.toNat_natCast _ | rfl) (by first | omega | assumption) rfl)) rfl ?_
                      refine dc_cons (DStep.q rfl (by exact opd_move rfl rfl)) rfl ?_
                      refine dc_cons (DStep.q rfl (by exact opd_move rfl rfl)) rfl ?_
                      refine dc_cons (DStep.q rfl (by exact (by first | exact x_index_pad rfl so34 rfl rfl (by omega) (by first | exact Int.toNat_natCast _ | rfl) (by assumption) rfl | exact x_index_osl rfl so34 rfl rfl rfl rfl rfl (by omega) (by first | exact Int.toNat_natCast _ | rfl) (by first | omega | assumption) rfl))) rfl ?_
                      refine dc_cons (DStep.q rfl (by exact (by first | exact opd_load1_ref rfl Try.isAgg9 rfl rfl rfl rfl rfl | exact opd_load1_pad rfl Try.isAgg9 rfl (by first | omega | assumption) rfl))) rfl ?_
                      refine dc_cons (DStep.q rfl (by exact opd_move rfl rfl)) rfl ?_
                      refine dc_cons (DStep.q rfl (by exact opd_index_str rfl Try.underlying9 rfl rfl (by omega) (by first | exact Int.toNat_natCast _ | rfl) (by first | omega | assumption) rfl)) rfl ?_
                      refine dc_cons (DStep.q rfl (by exact opd_bits rfl (by simp) rfl rfl hbt)) rfl ?_
                      refine dc_cons (DStep.q rfl (by exact opd_conv_int rfl Try.underlying5 Try.underlying3 rfl hcv)) rfl ?_
                      refine dc_cons (DStep.q rfl (by exact opd_move rfl rfl)) rfl ?_
                      refine dc_cons (DStep.q rfl (by exact opd_neq rfl rfl rfl)) rfl ?_
                      refine dc_nil ⟨by kernel_rfl, ?_⟩
                      refine awp_cond rfl (fun hc9 => ?_) (fun hc9 => ?_)
                      -- cond 9
                      · have h : (!decide (bb = 0)) = true := hc9
                        rw [hm] at h; simp at h
                      · skip
                        refine awp_skip ?_
                        refine awp_region ?_
                        refine al_d rfl rfl rfl (by exact opd_move rfl rfl) ?_
                        refine al_d rfl rfl rfl (by exact opd_add rfl rfl rfl (by first | exact w64 (by omega) (by omega) | exact wu8 (by omega) (by omega) | rfl)) ?_
                        refine al_d rfl rfl rfl (by exact opd_assign rfl rfl) ?_
                        refine al_nil ?_
                        -- end of a round
                        exact ⟨j + 1, by omega, by omega, (Ent.wk ⟨⟨_, rfl, rfl⟩, (by first | (simp; done) | (simp; rfl) | exact clo_map _ _ _ | exact clo_brows _ _ | exact disk_clo _ _ rfl rfl rfl | exact arm_clo _ _ | exact clo_bools _ _ | (simp; exact ⟨rfl, rfl⟩) | (simp; exact ⟨rfl, rfl, rfl⟩)), ⟨_, rfl, rfl⟩, (by first | (simp; done) | (simp; rfl) | exact clo_map _ _ _ | exact clo_brows _ _ | exact disk_clo _ _ rfl rfl rfl | exact arm_clo _ _ | exact clo_bools _ _ | (simp; exact ⟨rfl, rfl⟩) | (simp; exact ⟨rfl, rfl, rfl⟩)), ⟨_, rfl, rfl⟩, (by first | (simp; done) | (simp; rfl) | exact clo_map _ _ _ | exact clo_brows _ _ | exact disk_clo _ _ rfl rfl rfl | exact arm_clo _ _ | exact clo_bools _ _ | (simp; exact ⟨rfl, rfl⟩) | (simp; exact ⟨rfl, rfl, rfl⟩)), ⟨_, rfl, rfl⟩, (by first | (simp; done) | (simp; rfl) | exact clo_map _ _ _ | exact clo_brows _ _ | exact disk_clo _ _ rfl rfl rfl | exact arm_clo _ _ | exact clo_bools _ _ | (simp; exact ⟨rfl, rfl⟩) | (simp; exact ⟨rfl, rfl, rfl⟩)), ⟨_, rfl, rfl⟩, (by first | (simp; done) | (simp; rfl) | exact clo_map _ _ _ | exact clo_brows _ _ | exact disk_clo _ _ rfl rfl rfl | exact arm_clo _ _ | exact clo_bools _ _ | (simp; exact ⟨rfl, rfl⟩) | (simp; exact ⟨rfl, rfl, rfl⟩)), ⟨_, rfl, rfl⟩, (by first | (simp; done) | (simp; rfl) | exact clo_map _ _ _ | exact clo_brows _ _ | exact disk_clo _ _ rfl rfl rfl | exact arm_clo _ _ | exact clo_bools _ _ | (simp; exact ⟨rfl, rfl⟩) | (simp; exact ⟨rfl, rfl, rfl⟩)), ⟨_, rfl, rfl⟩, (by first | (simp; done) | (simp; rfl) | exact clo_map _ _ _ | exact clo_brows _ _ | exact disk_clo _ _ rfl rfl rfl | exact arm_clo _ _ | exact clo_bools _ _ | (simp; exact ⟨rfl, rfl⟩) | (simp; exact ⟨rfl, rfl, rfl⟩)), ⟨_, rfl, rfl⟩, (by first | (simp; done) | (simp; rfl) | exact clo_map _ _ _ | exact clo_brows _ _ | exact disk_clo _ _ rfl rfl rfl | exact arm_clo _ _ | exact clo_bools _ _ | (simp; exact ⟨rfl, rfl⟩) | (simp; exact ⟨rfl, rfl, rfl⟩)), ⟨_, rfl, rfl⟩, (by first | (simp; done) | (simp; rfl) | exact clo_map _ _ _ | exact clo_brows _ _ | exact disk_clo _ _ rfl rfl rfl | exact arm_clo _ _ | exact clo_bools _ _ | (simp; exact ⟨rfl, rfl⟩) | (simp; exact ⟨rfl, rfl, rfl⟩)), ⟨_, rfl, rfl⟩, (by first | (simp; done) | (simp; rfl) | exact clo_map _ _ _ | exact clo_brows _ _ | exact disk_clo _ _ rfl rfl rfl | exact arm_clo _ _ | exact clo_bools _ _ | (simp; exact ⟨rfl, rfl⟩) | (simp; exact ⟨rfl, rfl, rfl⟩)), trivial⟩ trivial trivial)⟩
                  · skip
                    refine awp_exit ?_
                    refine awp_region ?_
                    refine al_d rfl rfl rfl (by exact opd_move rfl rfl) ?_
                    refine al_d rfl rfl rfl (by exact opd_add rfl rfl rfl (by first | exact w64 (by omega) (by omega) | exact wu8 (by omega) (by omega) | rfl)) ?_
                    refine al_d rfl rfl rfl (by exact opd_assign rfl rfl) ?_
                    refine al_nil ?_
                    -- end of a round
                    exact ⟨i + 1, by omega, by omega, (Ent.wk ⟨⟨_, rfl, rfl⟩, (by first | (simp; done) | (simp; rfl) | exact clo_map _ _ _ | exact clo_brows _ _ | exact disk_clo _ _ rfl rfl rfl | exact arm_clo _ _ | exact clo_bools _ _ | (simp; exact ⟨rfl, rfl⟩) | (simp; exact ⟨rfl, rfl, rfl⟩)), ⟨_, rfl, rfl⟩, (by first | (simp; done) | (simp; rfl) | exact clo_map _ _ _ | exact clo_brows _ _ | exact disk_clo _ _ rfl rfl rfl | exact arm_clo _ _ | exact clo_bools _ _ | (simp; exact ⟨rfl, rfl⟩) | (simp; exact ⟨rfl, rfl, rfl⟩)), ⟨_, rfl, rfl⟩, (by first | (simp; done) | (simp; rfl) | exact clo_map _ _ _ | exact clo_brows _ _ | exact disk_clo _ _ rfl rfl rfl | exact arm_clo _ _ | exact clo_bools _ _ | (simp; exact ⟨rfl, rfl⟩) | (simp; exact ⟨rfl, rfl, rfl⟩)), ⟨_, rfl, rfl⟩, (by first | (simp; done) | (simp; rfl) | exact clo_map _ _ _ | exact clo_brows _ _ | exact disk_clo _ _ rfl rfl rfl | exact arm_clo _ _ | exact clo_bools _ _ | (simp; exact ⟨rfl, rfl⟩) | (simp; exact ⟨rfl, rfl, rfl⟩)), ⟨_, rfl, rfl⟩, (by first | (simp; done) | (simp; rfl) | exact clo_map _ _ _ | exact clo_brows _ _ | exact disk_clo _ _ rfl rfl rfl | exact arm_clo _ _ | exact clo_bools _ _ | (simp; exact ⟨rfl, rfl⟩) | (simp; exact ⟨rfl, rfl, rfl⟩)), ⟨_, rfl, rfl⟩, (by first | (simp; done) | (simp; rfl) | exact clo_map _ _ _ | exact clo_brows _ _ | exact disk_clo _ _ rfl rfl rfl | exact arm_clo _ _ | exact clo_bools _ _ | (simp; exact ⟨rfl, rfl⟩) | (simp; exact ⟨rfl, rfl, rfl⟩)), ⟨_, rfl, rfl⟩, (by first | (simp; done) | (simp; rfl) | exact clo_map _ _ _ | exact clo_brows _ _ | exact disk_clo _ _ rfl rfl rfl | exact arm_clo _ _ | exact clo_bools _ _ | (simp; exact ⟨rfl, rfl⟩) | (simp; exact ⟨rfl, rfl, rfl⟩)), ⟨_, rfl, rfl⟩, (by first | (simp; done) | (simp; rfl) | exact clo_map _ _ _ | exact clo_brows _ _ | exact disk_clo _ _ rfl rfl rfl | exact arm_clo _ _ | exact clo_bools _ _ | (simp; exact ⟨rfl, rfl⟩) | (simp; exact ⟨rfl, rfl, rfl⟩)), ⟨_, rfl, rfl⟩, (by first | (simp; done) | (simp; rfl) | exact clo_map _ _ _ | exact clo_brows _ _ | exact disk_clo _ _ rfl rfl rfl | exact arm_clo _ _ | exact clo_bools _ _ | (simp; exact ⟨rfl, rfl⟩) | (simp; exact ⟨rfl, rfl, rfl⟩)), trivial⟩ trivial trivial)⟩
              · skip
                refine awp_exit ?_
                refine awp_seq ?_
                refine awp_region ?_
                refine al_d rfl rfl rfl (by exact opd_move rfl rfl) ?_
                refine al_d rfl rfl rfl (by exact opd_assign rfl rfl) ?_
                refine al_nil ?_
                refine awp_ret ?_
                -- return
                refine aret1 (H' := []) (by first | exact .inr rfl | exact .inl rfl) rfl (rval_tmp rfl) (Fin.wk (by simp) trivial trivial) ?_
                exact ⟨rfl, rfl⟩
end Go.Proofs.Ytljocbkebhgkoaa
