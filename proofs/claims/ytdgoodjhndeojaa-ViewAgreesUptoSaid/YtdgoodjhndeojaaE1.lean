/-
  CONTRACTS: package lexer's classes of bytes, names. Conditions: lengths below 2^62.
-/
import Derived.Test.YtdgoodjhndeojaaData
import Derived.Test.YtdgoodjhndeojaaAbs19
set_option linter.unusedVariables false
set_option linter.unusedSimpArgs false
set_option maxRecDepth 100000
namespace Go.Proofs.Ytdgoodjhndeojaa
open Go.Abs

theorem slIndexByte_c (s : ByteArray) (c : Int) (H : Heap) : ACalls Try.prog 116 [.pv (.str s), .pv (.int .u8 c)] H (fun r H' => r = .pv (.int .i64 (Lib.indexByte s.data.toList c.toNat.toUInt8)) ∧ H' = H) := by
  refine ACalls.pure ?_ (by simp) H
  refine ACalls.body Try.func116 rfl Try.ntmps116 (Nat.le_of_ble_eq_true rfl) ?_
  refine awp_seq ?_
  refine awp_region ?_
  refine al_d rfl rfl rfl (by exact opd_assign rfl rfl) ?_
  refine al_nil ?_
  refine awp_seq ?_
  refine awp_region ?_
  refine al_d rfl rfl rfl (by exact opd_move rfl rfl) ?_
  refine al_d rfl rfl rfl (by exact opd_move rfl rfl) ?_
  refine al_d rfl rfl rfl (by exact opd_ext rfl rfl Try.func140 rfl rfl rfl rfl rfl (ext_indexByte s c)) ?_
  refine al_d rfl rfl rfl (by exact opd_assign rfl rfl) ?_
  refine al_nil ?_
  refine awp_ret ?_
  -- return
  refine aret1 (H' := []) (by first | exact .inr rfl | exact .inl rfl) rfl (rval_tmp rfl) (Fin.wk (by simp) trivial trivial) ?_
  exact ⟨rfl, rfl⟩
theorem indexByte_c (s : ByteArray) (c : Int) (H : Heap) : ACalls Try.prog 94 [.pv (.str s), .pv (.int .u8 c)] H (fun r H' => r = .pv (.int .i64 (Lib.indexByte s.data.toList c.toNat.toUInt8)) ∧ H' = H) := by
  refine ACalls.pure ?_ (by simp) H
  refine ACalls.body Try.func94 rfl Try.ntmps94 (Nat.le_of_ble_eq_true rfl) ?_
  refine awp_seq ?_
  refine awp_region ?_
  refine al_d rfl rfl rfl (by exact opd_assign rfl rfl) ?_
  refine al_nil ?_
  refine awp_seq ?_
  refine awp_region ?_
  refine al_d rfl rfl rfl (by exact opd_move rfl rfl) ?_
  refine al_d rfl rfl rfl (by exact opd_move rfl rfl) ?_
  refine al_d rfl rfl rfl (by exact opr_call rfl rfl Try.call116 rfl (slIndexByte_c s c _)) ?_
  refine al_d rfl rfl rfl (by exact opd_assign rfl rfl) ?_
  refine al_nil ?_
  refine awp_ret ?_
  -- return
  refine aret1 (H' := []) (by first | exact .inr rfl | exact .inl rfl) rfl (rval_tmp rfl) (Fin.wk (by simp) trivial trivial) ?_
  exact ⟨rfl, rfl⟩

/-! ### the classes of bytes -/
abbrev sBlank : ByteArray := ⟨#[32, 9, 10]⟩
abbrev sSym : ByteArray := ⟨#[59, 44, 46, 58, 40, 41, 123, 125, 91, 93, 61, 60, 62, 47, 45]⟩
def hasB (s : ByteArray) (n : Int) : Bool := decide (0 ≤ Lib.indexByte s.data.toList n.toNat.toUInt8)
def isLet (n : Int) : Bool := (decide (97 ≤ n) && decide (n ≤ 122)) || (decide (65 ≤ n) && decide (n ≤ 90))
def isDig (n : Int) : Bool := decide (48 ≤ n) && decide (n ≤ 57)
def cls1 (n : Int) : Int := if isLet n then 3 else if isDig n then 4 else if hasB sBlank n then 1 else if hasB sSym n then 6 else 0
def cls (n : Int) : Int := if n = 34 then 7 else if n = 95 then 5 else if n = 35 then 2 else cls1 n
def clsRow (c : Nat) : List AV := (List.range 256).map fun (i : Nat) => .pv (.int .u8 (if i < c then cls1 i else 0))
def clsAgg : List AV := (List.range 256).map fun (i : Nat) => .pv (.int .u8 (cls i))
theorem clsRow_length (c : Nat) : (clsRow c).length = 256 := by simp [clsRow]
theorem clsRow_set {c : Nat} (hc : c < 256) {v : Int} (hv : cls1 c = v) : (clsRow c).set c (.pv (.int .u8 v)) = clsRow (c + 1) := by
  apply List.ext_getElem
  · simp [clsRow]
  · intro i h1 h2
    simp only [clsRow, List.length_map, List.length_range] at h2
    rw [List.getElem_set]
    split
    · next e => subst e; simp [clsRow, hv]
    · next e => simp only [clsRow, List.getElem_map, List.getElem_range]; congr 2; by_cases h : i < c <;> by_cases h' : i < c + 1 <;> simp [h, h'] <;> omega
theorem clsRow_same {c : Nat} (hc : c < 256) (hv : cls1 c = 0) : clsRow c = clsRow (c + 1) := by
  rw [← clsRow_set hc hv]
  apply List.ext_getElem
  · simp
  · intro i h1 h2
    rw [List.getElem_set]
    split
    · next e => subst e; simp [clsRow]
    · rfl
theorem clsRow_zero : List.replicate 256 (.pv (.int .u8 0)) = clsRow 0 := by kernel_rfl
theorem clsRow_done : (((clsRow 256).set 35 (.pv (.int .u8 2))).set 95 (.pv (.int .u8 5))).set 34 (.pv (.int .u8 7)) = clsAgg := by kernel_rfl
theorem clsAgg_get {m : Nat} (h : m < 256) : clsAgg[m]? = some (.pv (.int .u8 (cls m))) := by
  simp [clsAgg, h]
theorem cls_clo (c : Nat) (H : Heap) : ∀ r ∈ [clsRow c], ∀ a ∈ r, Clo H a := by
  intro r hr a ha
  rw [List.mem_singleton] at hr
  subst hr
  obtain ⟨i, _, rfl⟩ := List.mem_map.1 ha
  simp
theorem cls_cloA (H : Heap) : Clo H (.agg clsAgg) := by
  rw [clo_agg]
  intro a ha
  obtain ⟨i, _, rfl⟩ := List.mem_map.1 ha
  simp
theorem zoCls : ZeroOf Try.prog 78 (List.replicate 256 (.pv (.int .u8 0))) := ⟨_, .agg (List.replicate 256 (.pv (.int .u8 0))), Try.zeroValue78, .inl (by kernel_rfl), rfl⟩
theorem classes_c (H : Heap) : ACalls Try.prog 54 [] H (fun r H' => r = .agg clsAgg ∧ H' = H) := by
  refine ACalls.pure ?_ (by simp) H
  refine ACalls.body Try.func54 rfl Try.ntmps54 (Nat.le_of_ble_eq_true rfl) ?_
  refine awp_seq ?_
  refine awp_region ?_
  refine al_d rfl rfl rfl (by exact x_alloc (id := 0) rfl zoCls rfl rfl) ?_
  refine al_nil ?_
  refine awp_seq ?_
  refine awp_region ?_
  refine al_d rfl rfl rfl (by exact x_alloc (id := 1) rfl zoCls rfl rfl) ?_
  refine al_nil ?_
  refine awp_seq ?_
  refine awp_seq ?_
  refine awp_region ?_
  refine al_d rfl rfl rfl (by exact opd_move rfl rfl) ?_
  refine al_nil ?_
  refine awp_block ?_
  -- loop
  rw [clsRow_zero]
  refine awp_loop (σ := Nat) (fun c => ([(0, .ref 0 0 0 0), (1, .ref 1 0 0 0), (4, iv (c : Int))], [(1, bx 256 78 (clsRow c)), (0, bx 256 78 (clsRow 0))])) (fun c => c ≤ 256) (fun c => 256 - c) 0 (by omega) ?_ ?_
  · exact (Ent.wk ⟨⟨_, rfl, rfl⟩, (by first | (simp; done) | (simp; rfl) | exact cls_clo _ _), ⟨_, rfl, rfl⟩, (by first | (simp; done) | (simp; rfl) | exact cls_clo _ _), ⟨_, rfl, rfl⟩, (by first | (simp; done) | (simp; rfl) | exact cls_clo _ _), trivial⟩ ⟨⟨_, rfl, rfl⟩, (by first | (simp; done) | (simp; rfl) | exact cls_clo _ _), ⟨_, rfl, rfl⟩, (by first | (simp; done) | (simp; rfl) | exact cls_clo _ _), trivial⟩ trivial)
  · intro c hc
    refine awp_seq ?_
    refine awp_region ?_
    refine al_d rfl rfl rfl (by exact opd_lss rfl rfl rfl) ?_
    refine al_nil ?_
    refine awp_seq ?_
    refine awp_cond rfl (fun hc1 => ?_) (fun hc1 => ?_)
    -- cond 1
    · have hlt : c < 256 := by have := of_decide_eq_true hc1; omega
      refine awp_skip ?_
      refine awp_seq ?_
      refine awp_block ?_
      refine awp_seq ?_
      refine awp_region ?_
      refine al_d rfl rfl rfl (by exact opd_move rfl rfl) ?_
      refine al_d rfl rfl rfl (by exact opd_assign rfl rfl) ?_
      refine al_nil ?_
      refine awp_seq ?_
      refine awp_region ?_
      refine al_d rfl rfl rfl (by exact opd_move rfl rfl) ?_
      refine al_d rfl rfl rfl (by exact opd_conv_int rfl Try.underlying3 Try.underlying5 rfl (by first | exact w64 (by omega) (by omega) | exact wu8 (by omega) (by omega) | rfl)) ?_
      refine al_d rfl rfl rfl (by exact opd_assign rfl rfl) ?_
      refine al_nil ?_
      refine awp_block ?_
      refine awp_seq ?_
      refine awp_seq ?_
      refine awp_bool (t := 9) (n := 8) (X := decide (97 ≤ (c : Int)) && decide ((c : Int) ≤ 122)) ?_ ?_
      · all_goals (refine al_d rfl rfl rfl (by exact opd_move rfl rfl) ?_)
        all_goals (refine al_d rfl rfl rfl (by exact opd_leq rfl rfl rfl) ?_)
        all_goals (refine al_d rfl rfl rfl (by exact opd_move rfl rfl) ?_)
        all_goals (first | refine al_split (t := 12) rfl (fun h12 => ?_) (fun h12 => ?_) | refine al_dup (t := 12) rfl ?_ | skip)
        all_goals (try contradiction)
        all_goals (first | refine al_off rfl rfl rfl rfl rfl ?_ | refine al_offu rfl rfl rfl rfl ?_ | refine al_ond rfl rfl rfl rfl rfl rfl (by exact opd_move rfl rfl) ?_)
        all_goals (first | refine al_off rfl rfl rfl rfl rfl ?_ | refine al_offu rfl rfl rfl rfl ?_ | refine al_ond rfl rfl rfl rfl rfl rfl (by exact opd_leq rfl rfl rfl) ?_)
        all_goals (refine al_d rfl rfl rfl (by exact (by first | exact opd_pick_t rfl rfl rfl | exact opd_pick_f rfl rfl rfl | exact opd_pickt rfl rfl (by assumption) rfl | exact opd_pickf rfl rfl (by assumption) rfl | exact opd_pick rfl rfl rfl)) ?_)
        all_goals (refine al_d rfl rfl rfl (by exact opd_assign rfl rfl) ?_)
        all_goals (refine al_nil ?_)
        all_goals (exact ⟨⟨_, rfl, by first | rfl | (simp only [*, Bool.false_and, Bool.true_and, Bool.and_false, Bool.and_true, Bool.true_or, Bool.false_or, Bool.or_true, Bool.or_false, Bool.not_true, Bool.not_false]; done) | (simp_all; done) | (simp_all; omega)⟩, rfl, rfl, rfl⟩)
      refine awp_cond rfl (fun hc2 => ?_) (fun hc2 => ?_)
      -- cond 2
      · have hv : cls1 c = 3 := by rw [cls1, isLet, hc2]; rfl
        refine awp_skip ?_
        refine awp_cond rfl (fun hc3 => ?_) (fun hc3 => ?_)
        -- cond 3
        · skip
          refine awp_region ?_
          refine al_d rfl rfl rfl (by exact opd_move rfl rfl) ?_
          refine al_d rfl rfl rfl (by exact opd_index_arr (k2 := c) rfl Try.underlying78 Try.sizeOf5 rfl rfl rfl rfl (by omega) (by first | exact Int.toNat_natCast _ | rfl) (by omega) (by omega)) ?_
          refine al_n rfl rfl (by exact x_store1 rfl Try.sizeOf5 rfl rfl rfl rfl rfl rfl (by rw [clsRow_length]; omega) (clsRow_set hlt hv) rfl) ?_
          refine al_nil ?_
          refine awp_region ?_
          refine al_d rfl rfl rfl (by exact opd_add rfl rfl rfl (by first | exact w64 (by omega) (by omega) | exact wu8 (by omega) (by omega) | rfl)) ?_
          refine al_d rfl rfl rfl (by exact opd_move rfl rfl) ?_
          refine al_nil ?_
          -- end of a round
          exact ⟨c + 1, by omega, by omega, (Ent.wk ⟨⟨_, rfl, rfl⟩, (by first | (simp; done) | (simp; rfl) | exact cls_clo _ _), ⟨_, rfl, rfl⟩, (by first | (simp; done) | (simp; rfl) | exact cls_clo _ _), ⟨_, rfl, rfl⟩, (by first | (simp; done) | (simp; rfl) | exact cls_clo _ _), trivial⟩ ⟨⟨_, rfl, rfl⟩, (by first | (simp; done) | (simp; rfl) | exact cls_clo _ _), ⟨_, rfl, rfl⟩, (by first | (simp; done) | (simp; rfl) | exact cls_clo _ _), trivial⟩ trivial)⟩
        · rw [hc2] at hc3; cases hc3
      · skip
        refine awp_bool (t := 9) (n := 8) (X := decide (65 ≤ (c : Int)) && decide ((c : Int) ≤ 90)) ?_ ?_
        · all_goals (refine al_d rfl rfl rfl (by exact opd_move rfl rfl) ?_)
          all_goals (refine al_d rfl rfl rfl (by exact opd_leq rfl rfl rfl) ?_)
          all_goals (refine al_d rfl rfl rfl (by exact opd_move rfl rfl) ?_)
          all_goals (first | refine al_split (t := 18) rfl (fun h18 => ?_) (fun h18 => ?_) | refine al_dup (t := 18) rfl ?_ | skip)
          all_goals (try contradiction)
          all_goals (first | refine al_off rfl rfl rfl rfl rfl ?_ | refine al_offu rfl rfl rfl rfl ?_ | refine al_ond rfl rfl rfl rfl rfl rfl (by exact opd_move rfl rfl) ?_)
          all_goals (first | refine al_off rfl rfl rfl rfl rfl ?_ | refine al_offu rfl rfl rfl rfl ?_ | refine al_ond rfl rfl rfl rfl rfl rfl (by exact opd_leq rfl rfl rfl) ?_)
          all_goals (refine al_d rfl rfl rfl (by exact (by first | exact opd_pick_t rfl rfl rfl | exact opd_pick_f rfl rfl rfl | exact opd_pickt rfl rfl (by assumption) rfl | exact opd_pickf rfl rfl (by assumption) rfl | exact opd_pick rfl rfl rfl)) ?_)
          all_goals (refine al_d rfl rfl rfl (by exact opd_assign rfl rfl) ?_)
          all_goals (refine al_nil ?_)
          all_goals (exact ⟨⟨_, rfl, by first | rfl | (simp only [*, Bool.false_and, Bool.true_and, Bool.and_false, Bool.and_true, Bool.true_or, Bool.false_or, Bool.or_true, Bool.or_false, Bool.not_true, Bool.not_false]; done) | (simp_all; done) | (simp_all; omega)⟩, rfl, rfl, rfl⟩)
        refine awp_cond rfl (fun hc4 => ?_) (fun hc4 => ?_)
        -- cond 4
        · have hv : cls1 c = 3 := by rw [cls1, isLet, hc2, hc4]; rfl
          refine awp_region ?_
          refine al_d rfl rfl rfl (by exact opd_move rfl rfl) ?_
          refine al_d rfl rfl rfl (by exact opd_index_arr (k2 := c) rfl Try.underlying78 Try.sizeOf5 rfl rfl rfl rfl (by omega) (by first | exact Int.toNat_natCast _ | rfl) (by omega) (by omega)) ?_
          refine al_n rfl rfl (by exact x_store1 rfl Try.sizeOf5 rfl rfl rfl rfl rfl rfl (by rw [clsRow_length]; omega) (clsRow_set hlt hv) rfl) ?_
          refine al_nil ?_
          refine awp_region ?_
          refine al_d rfl rfl rfl (by exact opd_add rfl rfl rfl (by first | exact w64 (by omega) (by omega) | exact wu8 (by omega) (by omega) | rfl)) ?_
          refine al_d rfl rfl rfl (by exact opd_move rfl rfl) ?_
          refine al_nil ?_
          -- end of a round
          exact ⟨c + 1, by omega, by omega, (Ent.wk ⟨⟨_, rfl, rfl⟩, (by first | (simp; done) | (simp; rfl) | exact cls_clo _ _), ⟨_, rfl, rfl⟩, (by first | (simp; done) | (simp; rfl) | exact cls_clo _ _), ⟨_, rfl, rfl⟩, (by first | (simp; done) | (simp; rfl) | exact cls_clo _ _), trivial⟩ ⟨⟨_, rfl, rfl⟩, (by first | (simp; done) | (simp; rfl) | exact cls_clo _ _), ⟨_, rfl, rfl⟩, (by first | (simp; done) | (simp; rfl) | exact cls_clo _ _), trivial⟩ trivial)⟩
        · skip
          refine awp_seq ?_
          refine awp_bool (t := 24) (n := 8) (X := decide (48 ≤ (c : Int)) && decide ((c : Int) ≤ 57)) ?_ ?_
          · all_goals (refine al_d rfl rfl rfl (by exact opd_move rfl rfl) ?_)
            all_goals (refine al_d rfl rfl rfl (by exact opd_leq rfl rfl rfl) ?_)
            all_goals (refine al_d rfl rfl rfl (by exact opd_move rfl rfl) ?_)
            all_goals (first | refine al_split (t := 27) rfl (fun h27 => ?_) (fun h27 => ?_) | refine al_dup (t := 27) rfl ?_ | skip)
            all_goals (try contradiction)
            all_goals (first | refine al_off rfl rfl rfl rfl rfl ?_ | refine al_offu rfl rfl rfl rfl ?_ | refine al_ond rfl rfl rfl rfl rfl rfl (by exact opd_move rfl rfl) ?_)
            all_goals (first | refine al_off rfl rfl rfl rfl rfl ?_ | refine al_offu rfl rfl rfl rfl ?_ | refine al_ond rfl rfl rfl rfl rfl rfl (by exact opd_leq rfl rfl rfl) ?_)
            all_goals (refine al_d rfl rfl rfl (by exact (by first | exact opd_pick_t rfl rfl rfl | exact opd_pick_f rfl rfl rfl | exact opd_pickt rfl rfl (by assumption) rfl | exact opd_pickf rfl rfl (by assumption) rfl | exact opd_pick rfl rfl rfl)) ?_)
            all_goals (refine al_d rfl rfl rfl (by exact opd_assign rfl rfl) ?_)
            all_goals (refine al_nil ?_)
            all_goals (exact ⟨⟨_, rfl, by first | rfl | (simp only [*, Bool.false_and, Bool.true_and, Bool.and_false, Bool.and_true, Bool.true_or, Bool.false_or, Bool.or_true, Bool.or_false, Bool.not_true, Bool.not_false]; done) | (simp_all; done) | (simp_all; omega)⟩, rfl, rfl, rfl⟩)
          refine awp_cond rfl (fun hc5 => ?_) (fun hc5 => ?_)
          -- cond 5
          · have hv : cls1 c = 4 := by rw [cls1, isLet, hc2, hc4, isDig, hc5]; rfl
            refine awp_region ?_
            refine al_d rfl rfl rfl (by exact opd_move rfl rfl) ?_
            refine al_d rfl rfl rfl (by exact opd_index_arr (k2 := c) rfl Try.underlying78 Try.sizeOf5 rfl rfl rfl rfl (by omega) (by first | exact Int.toNat_natCast _ | rfl) (by omega) (by omega)) ?_
            refine al_n rfl rfl (by exact x_store1 rfl Try.sizeOf5 rfl rfl rfl rfl rfl rfl (by rw [clsRow_length]; omega) (clsRow_set hlt hv) rfl) ?_
            refine al_nil ?_
            refine awp_region ?_
            refine al_d rfl rfl rfl (by exact opd_add rfl rfl rfl (by first | exact w64 (by omega) (by omega) | exact wu8 (by omega) (by omega) | rfl)) ?_
            refine al_d rfl rfl rfl (by exact opd_move rfl rfl) ?_
            refine al_nil ?_
            -- end of a round
            exact ⟨c + 1, by omega, by omega, (Ent.wk ⟨⟨_, rfl, rfl⟩, (by first | (simp; done) | (simp; rfl) | exact cls_clo _ _), ⟨_, rfl, rfl⟩, (by first | (simp; done) | (simp; rfl) | exact cls_clo _ _), ⟨_, rfl, rfl⟩, (by first | (simp; done) | (simp; rfl) | exact cls_clo _ _), trivial⟩ ⟨⟨_, rfl, rfl⟩, (by first | (simp; done) | (simp; rfl) | exact cls_clo _ _), ⟨_, rfl, rfl⟩, (by first | (simp; done) | (simp; rfl) | exact cls_clo _ _), trivial⟩ trivial)⟩
          · skip
            refine awp_seq ?_
            refine awp_region ?_
            refine al_d rfl rfl rfl (by exact opd_move rfl rfl) ?_
            refine al_d rfl rfl rfl (by exact opr_call rfl rfl Try.call94 rfl (indexByte_c _ _ _)) ?_
            refine al_d rfl rfl rfl (by exact opd_geq rfl rfl rfl) ?_
            refine al_d rfl rfl rfl (by exact opd_assign rfl rfl) ?_
            refine al_nil ?_
            refine awp_cond rfl (fun hc6 => ?_) (fun hc6 => ?_)
            -- cond 6
            · have hv : cls1 c = 1 := by rw [cls1, isLet, hc2, hc4, isDig, hc5, hasB, hc6]; rfl
              refine awp_region ?_
              refine al_d rfl rfl rfl (by exact opd_move rfl rfl) ?_
              refine al_d rfl rfl rfl (by exact opd_index_arr (k2 := c) rfl Try.underlying78 Try.sizeOf5 rfl rfl rfl rfl (by omega) (by first | exact Int.toNat_natCast _ | rfl) (by omega) (by omega)) ?_
              refine al_n rfl rfl (by exact x_store1 rfl Try.sizeOf5 rfl rfl rfl rfl rfl rfl (by rw [clsRow_length]; omega) (clsRow_set hlt hv) rfl) ?_
              refine al_nil ?_
              refine awp_region ?_
              refine al_d rfl rfl rfl (by exact opd_add rfl rfl rfl (by first | exact w64 (by omega) (by omega) | exact wu8 (by omega) (by omega) | rfl)) ?_
              refine al_d rfl rfl rfl (by exact opd_move rfl rfl) ?_
              refine al_nil ?_
              -- end of a round
              exact ⟨c + 1, by omega, by omega, (Ent.wk ⟨⟨_, rfl, rfl⟩, (by first | (simp; done) | (simp; rfl) | exact cls_clo _ _), ⟨_, rfl, rfl⟩, (by first | (simp; done) | (simp; rfl) | exact cls_clo _ _), ⟨_, rfl, rfl⟩, (by first | (simp; done) | (simp; rfl) | exact cls_clo _ _), trivial⟩ ⟨⟨_, rfl, rfl⟩, (by first | (simp; done) | (simp; rfl) | exact cls_clo _ _), ⟨_, rfl, rfl⟩, (by first | (simp; done) | (simp; rfl) | exact cls_clo _ _), trivial⟩ trivial)⟩
            · skip
              refine awp_seq ?_
              refine awp_region ?_
              refine al_d rfl rfl rfl (by exact opd_move rfl rfl) ?_
              refine al_d rfl rfl rfl (by exact opr_call rfl rfl Try.call94 rfl (indexByte_c _ _ _)) ?_
              refine al_d rfl rfl rfl (by exact opd_geq rfl rfl rfl) ?_
              refine al_d rfl rfl rfl (by exact opd_assign rfl rfl) ?_
              refine al_nil ?_
              refine awp_cond rfl (fun hc7 => ?_) (fun hc7 => ?_)
              -- cond 7
              · have hv : cls1 c = 6 := by rw [cls1, isLet, hc2, hc4, isDig, hc5, hasB, hc6, hasB, hc7]; rfl
                refine awp_region ?_
                refine al_d rfl rfl rfl (by exact opd_move rfl rfl) ?_
                refine al_d rfl rfl rfl (by exact opd_index_arr (k2 := c) rfl Try.underlying78 Try.sizeOf5 rfl rfl rfl rfl (by omega) (by first | exact Int.toNat_natCast _ | rfl) (by omega) (by omega)) ?_
                refine al_n rfl rfl (by exact x_store1 rfl Try.sizeOf5 rfl rfl rfl rfl rfl rfl (by rw [clsRow_length]; omega) (clsRow_set hlt hv) rfl) ?_
                refine al_nil ?_
                refine awp_region ?_
                refine al_d rfl rfl rfl (by exact opd_add rfl rfl rfl (by first | exact w64 (by omega) (by omega) | exact wu8 (by omega) (by omega) | rfl)) ?_
                refine al_d rfl rfl rfl (by exact opd_move rfl rfl) ?_
                refine al_nil ?_
                -- end of a round
                exact ⟨c + 1, by omega, by omega, (Ent.wk ⟨⟨_, rfl, rfl⟩, (by first | (simp; done) | (simp; rfl) | exact cls_clo _ _), ⟨_, rfl, rfl⟩, (by first | (simp; done) | (simp; rfl) | exact cls_clo _ _), ⟨_, rfl, rfl⟩, (by first | (simp; done) | (simp; rfl) | exact cls_clo _ _), trivial⟩ ⟨⟨_, rfl, rfl⟩, (by first | (simp; done) | (simp; rfl) | exact cls_clo _ _), ⟨_, rfl, rfl⟩, (by first | (simp; done) | (simp; rfl) | exact cls_clo _ _), trivial⟩ trivial)⟩
              · have hv : cls1 c = 0 := by rw [cls1, isLet, hc2, hc4, isDig, hc5, hasB, hc6, hasB, hc7]; rfl
                refine awp_skip ?_
                refine awp_region ?_
                refine al_d rfl rfl rfl (by exact opd_add rfl rfl rfl (by first | exact w64 (by omega) (by omega) | exact wu8 (by omega) (by omega) | rfl)) ?_
                refine al_d rfl rfl rfl (by exact opd_move rfl rfl) ?_
                refine al_nil ?_
                -- end of a round
                rw [clsRow_same hlt hv]
                exact ⟨c + 1, by omega, by omega, (Ent.wk ⟨⟨_, rfl, rfl⟩, (by first | (simp; done) | (simp; rfl) | exact cls_clo _ _), ⟨_, rfl, rfl⟩, (by first | (simp; done) | (simp; rfl) | exact cls_clo _ _), ⟨_, rfl, rfl⟩, (by first | (simp; done) | (simp; rfl) | exact cls_clo _ _), trivial⟩ ⟨⟨_, rfl, rfl⟩, (by first | (simp; done) | (simp; rfl) | exact cls_clo _ _), ⟨_, rfl, rfl⟩, (by first | (simp; done) | (simp; rfl) | exact cls_clo _ _), trivial⟩ trivial)⟩
    · have : c = 256 := by have : ¬ ((c : Int) < 256) := by simpa using hc1
                           omega
      subst this
      refine awp_exit ?_
      refine awp_seq ?_
      refine awp_region ?_
      refine al_d rfl rfl rfl (by exact opd_index_arr (k2 := 35) rfl Try.underlying78 Try.sizeOf5 rfl rfl rfl rfl (by omega) rfl (by omega) rfl) ?_
      refine al_n rfl rfl (by exact x_store1 rfl Try.sizeOf5 rfl rfl rfl rfl rfl rfl (by simp [clsRow_length]) rfl rfl) ?_
      refine al_d rfl rfl rfl (by exact opd_index_arr (k2 := 95) rfl Try.underlying78 Try.sizeOf5 rfl rfl rfl rfl (by omega) rfl (by omega) rfl) ?_
      refine al_n rfl rfl (by exact x_store1 rfl Try.sizeOf5 rfl rfl rfl rfl rfl rfl (by simp [clsRow_length]) rfl rfl) ?_
      refine al_d rfl rfl rfl (by exact opd_index_arr (k2 := 34) rfl Try.underlying78 Try.sizeOf5 rfl rfl rfl rfl (by omega) rfl (by omega) rfl) ?_
      refine al_n rfl rfl (by exact x_store1 rfl Try.sizeOf5 rfl rfl rfl rfl rfl rfl (by simp [clsRow_length]) rfl rfl) ?_
      refine al_nil ?_
      refine awp_seq ?_
      refine awp_region ?_
      refine al_d rfl rfl rfl (by exact (by first | exact opd_loadn_ref rfl Try.isAgg78 Try.sizeOf78 rfl rfl rfl rfl (show List.take 256 (List.drop 0 _) = clsAgg by rw [← clsRow_done]; rfl) rfl | exact opd_loadn_pad rfl Try.isAgg78 Try.sizeOf78 rfl (by first | omega | assumption) (show List.take 256 (List.drop 0 _) = clsAgg by rw [← clsRow_done]; rfl) rfl)) ?_
      refine al_n rfl rfl (by exact (by first | exact x_store_all rfl Try.sizeOf78 rfl rfl rfl rfl rfl rfl rfl rfl | exact x_store rfl Try.sizeOf78 rfl rfl rfl rfl rfl rfl rfl (by simp only [List.length_cons, List.length_nil]; omega) (by simp only [List.drop_succ_cons, List.drop_zero, List.take_succ_cons, List.take_zero, List.take_nil, List.map_cons, List.map_nil, List.set_cons_zero, List.set_cons_succ, List.cons_append, List.nil_append]; rfl) (by simp only [List.drop_succ_cons, List.drop_zero, List.take_succ_cons, List.take_zero, List.take_nil, List.map_cons, List.map_nil, List.set_cons_zero, List.set_cons_succ, List.cons_append, List.nil_append]; rfl))) ?_
      refine al_nil ?_
      refine awp_ret ?_
      -- return
      refine aret1 (H' := []) (.inr rfl) rfl (rval_cell rfl Try.isAgg78 Try.sizeOf78 rfl rfl rfl (show List.take 256 (List.drop 0 clsAgg) = clsAgg by rfl) rfl) (Fin.wk (by first | (simp; done) | exact cls_cloA _) trivial trivial) ?_
      exact ⟨rfl, rfl⟩
end Go.Proofs.Ytdgoodjhndeojaa
