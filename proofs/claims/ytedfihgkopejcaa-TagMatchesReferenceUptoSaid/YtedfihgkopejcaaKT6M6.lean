/-
  CONTRACTS: lexer.unquoted. Conditions: lengths below 2^40.
  THE ABSTRACT LOGIC, 35: ways that meet in one of several states. Conditions: the rule's own premises.
  CONTRACTS: lexer.tokens and what it yields. Conditions: lengths below 2^40.
  CONTRACTS: lexer.Lex. Conditions: lengths below 2^40.
  CONTRACTS: slices.Chunk, tag.Parse. Conditions: lengths below 2^40.
  slices.Sort OF AN OWNED SLICE OF TEXTS: the library's contract, carried over. Conditions: lengths below 2^62.
  slices.Sort at this program: the library's contract laid. Conditions: lengths below 2^62.
-/
import Derived.Test.YtedfihgkopejcaaKT6M5
import Derived.Shelf.SortM.Plain
import Derived.Shelf.SortM.SortNone
import Derived.Ground.SlgmProg
section
set_option linter.unusedVariables false
set_option linter.unusedSimpArgs false
set_option maxRecDepth 100000
namespace Go.Proofs.Ytedfihgkopejcaa
open Go.Abs

/-- What an escaped byte stands for. -/
def gUnesc (c : UInt8) : Option UInt8 := if c = 92 then some 92 else if c = 34 then some 34 else if c = 110 then some 10 else none
/-- A string behind its opening quote: its bytes, and how many bytes it takes with the closing quote. -/
def unqL : List UInt8 → Option (List UInt8 × Nat)
  | [] => none
  | [c] => if c = 34 then some ([], 1) else none
  | c :: e :: r => if c = 34 then some ([], 1) else if c = 10 then none else if c = 92 then (gUnesc e).bind fun b => (unqL r).map fun p => (b :: p.1, p.2 + 2) else (unqL (e :: r)).map fun p => (c :: p.1, p.2 + 1)
def gUnq (s : ByteArray) : ByteArray × Int := match unqL (s.data.toList.drop 1) with
  | some (d, n) => (⟨d.toArray⟩, ((n + 1 : Nat) : Int))
  | none => (sNil, 0)
theorem unqL_quote {r : List UInt8} : unqL (34 :: r) = some ([], 1) := by cases r <;> rfl
theorem unqL_line {r : List UInt8} : unqL (10 :: r) = none := by cases r <;> rfl
theorem unqL_bs {r : List UInt8} {e : UInt8} : unqL (92 :: e :: r) = (gUnesc e).bind fun b => (unqL r).map fun p => (b :: p.1, p.2 + 2) := rfl
theorem unqL_other {c : UInt8} {r : List UInt8} (h1 : c ≠ 34) (h2 : c ≠ 10) (h3 : c ≠ 92) : unqL (c :: r) = (unqL r).map fun p => (c :: p.1, p.2 + 1) := by
  cases r with
  | nil =>
    show (if c = 34 then some ([], 1) else none) = _
    rw [if_neg h1]; rfl
  | cons e r => rw [unqL, if_neg h1, if_neg h2, if_neg h3]
/-- The whole, from a place inside. -/
def unqAt (o : Option (List UInt8 × Nat)) (w : List UInt8) (i : Nat) : ByteArray × Int := match o with
  | some (d, n) => (⟨(w ++ d).toArray⟩, ((i + n : Nat) : Int))
  | none => (sNil, 0)
theorem unqAt_one {o : Option (List UInt8 × Nat)} {w : List UInt8} {b : UInt8} {i k : Nat} : unqAt (o.map fun p => (b :: p.1, p.2 + k)) w i = unqAt o (w ++ [b]) (i + k) := by
  cases o with
  | none => rfl
  | some p => simp only [unqAt, Option.map_some, List.append_assoc, List.singleton_append]; congr 2; omega
theorem drop_bAt {s : ByteArray} {i : Nat} (h : i < s.size) : s.data.toList.drop i = bAt s i :: s.data.toList.drop (i + 1) := by
  have hk : i < s.data.toList.length := by simpa using h
  rw [List.drop_eq_getElem_cons hk, bAt, List.getElem?_eq_getElem hk]
  rfl
theorem drop_end {s : ByteArray} {i : Nat} (h : s.size ≤ i) : s.data.toList.drop i = [] := List.drop_eq_nil_of_le (by simpa using h)
theorem b_eq {s : ByteArray} {i n : Nat} (hn : n < 256) {b : Bool} (h : decide (byteAt s i = (n : Int)) = b) : decide (bAt s i = UInt8.ofNat n) = b := by rw [← h, byteAt_b, u8_eq hn]
/-- The place of an escaped byte. -/
theorem unesc_at (c : UInt8) : (Lib.indexByte (⟨#[92, 34, 110]⟩ : ByteArray).data.toList ((c.toNat : Int).toNat.toUInt8) = -1 ∧ gUnesc c = none) ∨ ∃ k : Nat, k < 3 ∧ Lib.indexByte (⟨#[92, 34, 110]⟩ : ByteArray).data.toList ((c.toNat : Int).toNat.toUInt8) = (k : Int) ∧ gUnesc c = some (bAt ⟨#[92, 34, 10]⟩ k) := by
  have h0 : ((c.toNat : Int).toNat.toUInt8) = c := by simp
  rw [h0]
  by_cases h1 : c = 92
  · subst h1; exact .inr ⟨0, by decide, by decide, by decide⟩
  · by_cases h2 : c = 34
    · subst h2; exact .inr ⟨1, by decide, by decide, by decide⟩
    · by_cases h3 : c = 110
      · subst h3; exact .inr ⟨2, by decide, by decide, by decide⟩
      · refine .inl ⟨?_, by rw [gUnesc, if_neg h1, if_neg h2, if_neg h3]⟩
        have e1 : ((92 : UInt8) == c) = false := by simp [Ne.symm h1]
        have e2 : ((34 : UInt8) == c) = false := by simp [Ne.symm h2]
        have e3 : ((110 : UInt8) == c) = false := by simp [Ne.symm h3]
        simp only [Lib.indexByte, e1, e2, e3]
        rfl
theorem unquoted_c (s : ByteArray) (H : Heap) (hs : s.size < 1099511627776) : ACalls Try.prog 75 [sv s] H (fun r H' => r = .tup [sv (gUnq s).1, iv (gUnq s).2] ∧ H' = H) := by
  refine ACalls.pure ?_ (by simp) H
  have hG : gUnq s = unqAt (unqL (s.data.toList.drop 1)) [] 1 := by
    unfold gUnq unqAt
    cases unqL (s.data.toList.drop 1) with
    | none => rfl
    | some p =>
      show ((⟨p.1.toArray⟩ : ByteArray), ((p.2 + 1 : Nat) : Int)) = ((⟨([] ++ p.1).toArray⟩ : ByteArray), ((1 + p.2 : Nat) : Int))
      rw [List.nil_append, Nat.add_comm]
  obtain ⟨res, hres⟩ : ∃ res, res = gUnq s := ⟨_, rfl⟩
  rw [← hres] at hG ⊢
  refine ACalls.body Try.func75 rfl Try.ntmps75 (Nat.le_of_ble_eq_true rfl) ?_
  refine awp_seq ?_
  refine awp_region ?_
  refine al_d rfl rfl rfl (by exact opd_assign rfl rfl) ?_
  refine al_d rfl rfl rfl (by exact opd_assign rfl rfl) ?_
  refine al_nil ?_
  refine awp_seq ?_
  refine awp_region ?_
  refine al_d rfl rfl rfl (by exact x_alloc (id := 2001) rfl zoN89 rfl rfl) ?_
  refine al_nil ?_
  refine awp_seq ?_
  refine awp_seq ?_
  -- before the slot
  refine AWp.ent (E' := [(0, sv s), (4, .ref 2001 0 0 0)]) (H' := bld 0 [] false) (Ent.bld0 ⟨⟨_, rfl, .same (by simp)⟩, ⟨_, rfl, .same (by simp; rfl)⟩, trivial⟩) ?_
  refine awp_region ?_
  refine al_d rfl rfl rfl (by exact opd_assign rfl rfl) ?_
  refine al_nil ?_
  refine awp_block ?_
  -- loop
  refine awp_loop4 (fun (i g : Nat) (w : List UInt8) (u : Bool) => ([(0, sv s), (4, .ref 2001 0 0 0), (5, iv (i : Int))], bld g w u)) (fun i g w u => w.length ≤ i ∧ i < 2199023255552 ∧ res = unqAt (unqL (s.data.toList.drop i)) w i) (fun i g w u => s.size + 1 - i) 1 0 [] false ⟨Nat.zero_le _, by decide, hG⟩ ?_ ?_
  · exact (Ent.wk ⟨⟨_, rfl, rfl⟩, (by (simp; done)), ⟨_, rfl, rfl⟩, (by (simp; rfl)), ⟨_, rfl, rfl⟩, (by (simp; done)), trivial⟩ ⟨⟨_, rfl, rfl⟩, (by exact bOb_clo rfl rfl), ⟨_, rfl, rfl⟩, (by exact brows_clo _ _), trivial⟩ trivial)
  · rintro i g w u ⟨hwl, hib, hinv⟩
    refine awp_seq ?_
    refine awp_seq ?_
    refine awp_region ?_
    refine al_d rfl rfl rfl (by exact opd_move rfl rfl) ?_
    refine al_d rfl rfl rfl (by exact opd_move rfl rfl) ?_
    refine al_d rfl rfl rfl (by exact opd_len_str rfl Try.underlying9 rfl) ?_
    refine al_d rfl rfl rfl (by exact opd_lss rfl rfl rfl) ?_
    refine al_nil ?_
    refine awp_cond rfl (fun hc1 => ?_) (fun hc1 => ?_)
    -- cond 1
    · have hlt : i < s.size := by have := of_decide_eq_true hc1; omega
      have hd := drop_bAt hlt
      refine awp_skip ?_
      refine awp_seq ?_
      refine awp_block ?_
      refine awp_seq ?_
      refine awp_region ?_
      refine al_d rfl rfl rfl (by exact opd_move rfl rfl) ?_
      refine al_d rfl rfl rfl (by exact opd_move rfl rfl) ?_
      refine al_d rfl rfl rfl (by exact opd_index_str rfl Try.underlying9 rfl rfl (by omega) (by exact Int.toNat_natCast _) (by omega) rfl) ?_
      refine al_d rfl rfl rfl (by exact opd_assign rfl rfl) ?_
      refine al_nil ?_
      refine awp_seq ?_
      refine awp_region ?_
      refine al_d rfl rfl rfl (by exact opd_move rfl rfl) ?_
      refine al_nil ?_
      refine awp_block ?_
      refine awp_seq ?_
      refine awp_region ?_
      refine al_d rfl rfl rfl (by exact opd_eql rfl rfl rfl) ?_
      refine al_d rfl rfl rfl (by exact opd_assign rfl rfl) ?_
      refine al_nil ?_
      refine awp_cond rfl (fun hc2 => ?_) (fun hc2 => ?_)
      -- cond 2
      · have hb : bAt s i = 34 := of_decide_eq_true (b_eq (n := 34) (by decide) hc2)
        have hr : res = (⟨w.toArray⟩, ((i + 1 : Nat) : Int)) := by rw [hinv, hd, hb, unqL_quote, unqAt, List.append_nil]
        rw [hr]
        refine awp_seq ?_
        refine awp_region ?_
        refine al_d rfl rfl rfl (by exact opr_call rfl rfl Try.call58 rfl (str_c g w u (by omega))) ?_
        refine al_d rfl rfl rfl (by exact opd_move rfl rfl) ?_
        refine al_d rfl rfl rfl (by exact opd_add rfl rfl rfl (by exact w64 (by omega) (by omega))) ?_
        refine al_d rfl rfl rfl (by exact opd_assign rfl rfl) ?_
        refine al_d rfl rfl rfl (by exact opd_assign rfl rfl) ?_
        refine al_nil ?_
        refine awp_ret ?_
        -- return
        refine aret2 (H' := []) (by exact .inr rfl) rfl (rval_tmp rfl) (rval_tmp rfl) (Fin.wk (by simp) trivial trivial) ?_
        exact ⟨rfl, rfl⟩
      · have hb34 : bAt s i ≠ 34 := of_decide_eq_false (b_eq (n := 34) (by decide) hc2)
        refine awp_seq ?_
        refine awp_region ?_
        refine al_d rfl rfl rfl (by exact opd_eql rfl rfl rfl) ?_
        refine al_d rfl rfl rfl (by exact opd_assign rfl rfl) ?_
        refine al_nil ?_
        refine awp_cond rfl (fun hc3 => ?_) (fun hc3 => ?_)
        -- cond 3
        · have hb : bAt s i = 10 := of_decide_eq_true (b_eq (n := 10) (by decide) hc3)
          have hr : res = (sNil, 0) := by rw [hinv, hd, hb, unqL_line, unqAt]
          rw [hr]
          refine awp_seq ?_
          refine awp_region ?_
          refine al_d rfl rfl rfl (by exact opd_assign rfl rfl) ?_
          refine al_d rfl rfl rfl (by exact opd_assign rfl rfl) ?_
          refine al_nil ?_
          refine awp_ret ?_
          -- return
          refine aret2 (H' := []) (by exact .inr rfl) rfl (rval_tmp rfl) (rval_tmp rfl) (Fin.wk (by simp) trivial trivial) ?_
          exact ⟨rfl, rfl⟩
        · have hb10 : bAt s i ≠ 10 := of_decide_eq_false (b_eq (n := 10) (by decide) hc3)
          refine awp_seq ?_
          refine awp_region ?_
          refine al_d rfl rfl rfl (by exact opd_eql rfl rfl rfl) ?_
          refine al_d rfl rfl rfl (by exact opd_assign rfl rfl) ?_
          refine al_nil ?_
          refine awp_cond rfl (fun hc4 => ?_) (fun hc4 => ?_)
          -- cond 4
          · have hb : bAt s i = 92 := of_decide_eq_true (b_eq (n := 92) (by decide) hc4)
            refine awp_seq ?_
            refine awp_region ?_
            refine al_d rfl rfl rfl (by exact opd_move rfl rfl) ?_
            refine al_d rfl rfl rfl (by exact opd_add rfl rfl rfl (by exact w64 (by omega) (by omega))) ?_
            refine al_d rfl rfl rfl (by exact opd_assign rfl rfl) ?_
            refine al_nil ?_
            refine awp_seq ?_
            refine awp_region ?_
            refine al_d rfl rfl rfl (by exact opd_assign rfl rfl) ?_
            refine al_nil ?_
            refine awp_seq ?_
            refine awp_seq ?_
            refine awp_region ?_
            refine al_d rfl rfl rfl (by exact opd_move rfl rfl) ?_
            refine al_d rfl rfl rfl (by exact opd_move rfl rfl) ?_
            refine al_d rfl rfl rfl (by exact opd_len_str rfl Try.underlying9 rfl) ?_
            refine al_d rfl rfl rfl (by exact opd_lss rfl rfl rfl) ?_
            refine al_nil ?_
            refine awp_cond rfl (fun hc5 => ?_) (fun hc5 => ?_)
            -- cond 5
            · have hlt2 : i + 1 < s.size := by have := of_decide_eq_true hc5; omega
              have hd2 := drop_bAt hlt2
              rcases unesc_at (bAt s (i + 1)) with ⟨x1, x2⟩ | ⟨q, hq, x1, x2⟩
              · have hr : res = (sNil, 0) := by rw [hinv, hd, hb, hd2, unqL_bs, x2]; rfl
                have hneg : Lib.indexByte (⟨#[92, 34, 110]⟩ : ByteArray).data.toList (byteAt s (i + 1)).toNat.toUInt8 = -1 := x1
                rw [hr]
                refine awp_region ?_
                refine al_d rfl rfl rfl (by exact opd_move rfl rfl) ?_
                refine al_d rfl rfl rfl (by exact opd_move rfl rfl) ?_
                refine al_d rfl rfl rfl (by exact opd_index_str rfl Try.underlying9 rfl rfl (by omega) (by exact Int.toNat_natCast _) (by omega) rfl) ?_
                refine al_d rfl rfl rfl (by exact opr_call rfl rfl Try.call64 rfl (indexByte_c _ _ _)) ?_
                refine al_d rfl rfl rfl (by exact opd_assign rfl rfl) ?_
                refine al_nil ?_
                refine awp_seq ?_
                refine awp_seq ?_
                refine awp_region ?_
                refine al_d rfl rfl rfl (by exact opd_move rfl rfl) ?_
                refine al_d rfl rfl rfl (by exact opd_lss rfl rfl rfl) ?_
                refine al_nil ?_
                refine awp_cond rfl (fun hc6 => ?_) (fun hc6 => ?_)
                -- cond 6
                · skip
                  refine awp_seq ?_
                  refine awp_region ?_
                  refine al_d rfl rfl rfl (by exact opd_assign rfl rfl) ?_
                  refine al_d rfl rfl rfl (by exact opd_assign rfl rfl) ?_
                  refine al_nil ?_
                  refine awp_ret ?_
                  -- return
                  refine aret2 (H' := []) (by exact .inr rfl) rfl (rval_tmp rfl) (rval_tmp rfl) (Fin.wk (by simp) trivial trivial) ?_
                  exact ⟨rfl, rfl⟩
                · skip
                  exact absurd (of_decide_eq_false hc6) (by rw [hneg]; decide)
              · have hpos : Lib.indexByte (⟨#[92, 34, 110]⟩ : ByteArray).data.toList (byteAt s (i + 1)).toNat.toUInt8 = (q : Int) := x1
                have hq3 : q < (⟨#[92, 34, 10]⟩ : ByteArray).size := hq
                refine awp_region ?_
                refine al_d rfl rfl rfl (by exact opd_move rfl rfl) ?_
                refine al_d rfl rfl rfl (by exact opd_move rfl rfl) ?_
                refine al_d rfl rfl rfl (by exact opd_index_str rfl Try.underlying9 rfl rfl (by omega) (by exact Int.toNat_natCast _) (by omega) rfl) ?_
                refine al_d rfl rfl rfl (by exact opr_call rfl rfl Try.call64 rfl (indexByte_c _ _ _)) ?_
                refine al_d rfl rfl rfl (by exact opd_assign rfl rfl) ?_
                refine al_nil ?_
                refine awp_seq ?_
                refine awp_seq ?_
                refine awp_region ?_
                refine al_d rfl rfl rfl (by exact opd_move rfl rfl) ?_
                refine al_d rfl rfl rfl (by exact opd_lss rfl rfl rfl) ?_
                refine al_nil ?_
                refine awp_cond rfl (fun hc7 => ?_) (fun hc7 => ?_)
                -- cond 7
                · skip
                  exact absurd (of_decide_eq_true hc7) (by rw [hpos]; omega)
                · skip
                  refine awp_skip ?_
                  refine awp_region ?_
                  refine al_d rfl rfl rfl (by exact opd_move rfl rfl) ?_
                  refine al_d rfl rfl rfl (by exact opd_index_str rfl Try.underlying9 rfl rfl (by rw [hpos]; omega) (by rw [hpos]; exact Int.toNat_natCast _) hq3 rfl) ?_
                  refine al_d rfl rfl rfl (by exact opr_call rfl rfl Try.call56 rfl (writeByte_c g w u (bAt ⟨#[92, 34, 10]⟩ q) (by omega))) ?_
                  refine al_nil ?_
                  refine awp_region ?_
                  refine al_d rfl rfl rfl (by exact opd_move rfl rfl) ?_
                  refine al_d rfl rfl rfl (by exact opd_add rfl rfl rfl (by exact w64 (by omega) (by omega))) ?_
                  refine al_d rfl rfl rfl (by exact opd_assign rfl rfl) ?_
                  refine al_nil ?_
                  -- end of a round
                  refine ⟨i + 1 + 1, g + 1, w ++ [bAt ⟨#[92, 34, 10]⟩ q], true, ⟨by rw [List.length_append, List.length_singleton]; omega, by omega, ?_⟩, by omega, (Ent.wk ⟨⟨_, rfl, rfl⟩, (by (simp; done)), ⟨_, rfl, rfl⟩, (by (simp; rfl)), ⟨_, rfl, rfl⟩, (by (simp; done)), trivial⟩ ⟨⟨_, rfl, rfl⟩, (by exact bOb_clo rfl rfl), ⟨_, rfl, rfl⟩, (by exact brows_clo _ _), trivial⟩ trivial)⟩
                  rw [hinv, hd, hb, hd2, unqL_bs, x2]
                  exact unqAt_one
            · have hge : s.size ≤ i + 1 := by have := of_decide_eq_false hc5; omega
              have hr : res = (sNil, 0) := by rw [hinv, hd, hb, drop_end hge]; rfl
              rw [hr]
              refine awp_skip ?_
              refine awp_seq ?_
              refine awp_seq ?_
              refine awp_region ?_
              refine al_d rfl rfl rfl (by exact opd_move rfl rfl) ?_
              refine al_d rfl rfl rfl (by exact opd_lss rfl rfl rfl) ?_
              refine al_nil ?_
              refine awp_cond rfl (fun hc8 => ?_) (fun hc8 => ?_)
              -- cond 8
              · skip
                refine awp_seq ?_
                refine awp_region ?_
                refine al_d rfl rfl rfl (by exact opd_assign rfl rfl) ?_
                refine al_d rfl rfl rfl (by exact opd_assign rfl rfl) ?_
                refine al_nil ?_
                refine awp_ret ?_
                -- return
                refine aret2 (H' := []) (by exact .inr rfl) rfl (rval_tmp rfl) (rval_tmp rfl) (Fin.wk (by simp) trivial trivial) ?_
                exact ⟨rfl, rfl⟩
              · skip
                cases hc8
          · have hb92 : bAt s i ≠ 92 := of_decide_eq_false (b_eq (n := 92) (by decide) hc4)
            refine awp_region ?_
            refine al_d rfl rfl rfl (by exact opd_move rfl rfl) ?_
            refine al_d rfl rfl rfl (by exact opr_call rfl rfl Try.call56 rfl (writeByte_c g w u (bAt s i) (by omega))) ?_
            refine al_nil ?_
            refine awp_region ?_
            refine al_d rfl rfl rfl (by exact opd_move rfl rfl) ?_
            refine al_d rfl rfl rfl (by exact opd_add rfl rfl rfl (by exact w64 (by omega) (by omega))) ?_
            refine al_d rfl rfl rfl (by exact opd_assign rfl rfl) ?_
            refine al_nil ?_
            -- end of a round
            refine ⟨i + 1, g + 1, w ++ [bAt s i], true, ⟨by rw [List.length_append, List.length_singleton]; omega, by omega, ?_⟩, by omega, (Ent.wk ⟨⟨_, rfl, rfl⟩, (by (simp; done)), ⟨_, rfl, rfl⟩, (by (simp; rfl)), ⟨_, rfl, rfl⟩, (by (simp; done)), trivial⟩ ⟨⟨_, rfl, rfl⟩, (by exact bOb_clo rfl rfl), ⟨_, rfl, rfl⟩, (by exact brows_clo _ _), trivial⟩ trivial)⟩
            rw [hinv, hd, unqL_other hb34 hb10 hb92, unqAt_one]
    · have hge : s.size ≤ i := by have := of_decide_eq_false hc1; omega
      have hr : res = (sNil, 0) := by rw [hinv, drop_end hge]; rfl
      rw [hr]
      refine awp_exit ?_
      refine awp_seq ?_
      refine awp_region ?_
      refine al_d rfl rfl rfl (by exact opd_assign rfl rfl) ?_
      refine al_d rfl rfl rfl (by exact opd_assign rfl rfl) ?_
      refine al_nil ?_
      refine awp_ret ?_
      -- return
      refine aret2 (H' := []) (by exact .inr rfl) rfl (rval_tmp rfl) (rval_tmp rfl) (Fin.wk (by simp) trivial trivial) ?_
      exact ⟨rfl, rfl⟩
end Go.Proofs.Ytedfihgkopejcaa
end
section
set_option linter.unusedVariables false
set_option linter.unusedSimpArgs false
namespace Go.Abs
/-- Between two statements: one of the states S a, with J a. -/
theorem awp_seq_ex {P : Program} {G0 : Heap} {N : Nat} {Q : Exit → Env → Heap → Prop} {E : Env} {H : Heap} {x y : Code} {α : Type} (S : α → Env × Heap) (J : α → Prop)
    (h : AWp P G0 N x (AThen (fun E1 H1 => ∃ a, J a ∧ Ent G0 E1 H1 (S a).1 (S a).2) Q) E H) (h' : ∀ a, J a → AWp P G0 N y Q (S a).1 (S a).2) : AWp P G0 N (.seq x y) Q E H :=
  awp_seq (h.mono fun e E1 H1 q => by
    cases e with
    | normal =>
      obtain ⟨a, ha, he⟩ := q
      exact AWp.ent he (h' a ha)
    | _ => exact q)
theorem get_dups {i : Nat} {o : Ob} {K : Heap} : ∀ (D : Heap), (∀ p ∈ D, p.1 = i) → ∀ j, Heap.get ((i, o) :: K) j = Heap.get ((i, o) :: (D ++ K)) j := by
  intro D hD j
  by_cases e : i = j
  · subst e
    simp [Heap.get, beq_self]
  · have h : Heap.get D j = none := by
      cases hg : Heap.get D j with
      | none => rfl
      | some x => exact absurd (hD _ (mem_of_hget hg)).symm e
    rw [get_cons_other _ _ (Ne.symm e), get_cons_other _ _ (Ne.symm e), hget_app, h]
theorem LR_clo {H : Heap} {x : Go.Loop} {E0 : Env} (h : ∀ p ∈ E0, Clo H p.2) : ∀ r ∈ (LR x E0).rows, ∀ a ∈ r, Clo H a := by
  intro r hr a ha
  simp only [LR, List.mem_cons, List.not_mem_nil, or_false] at hr
  rcases hr with rfl | rfl
  · rw [List.mem_singleton] at ha
    subst ha
    simp
  · obtain ⟨p, hp, rfl⟩ := List.mem_map.1 ha
    exact h p hp
def KE (A B : Heap) : List Nat → Prop
  | [] => True
  | j :: r => A.get j = B.get j ∧ KE A B r
theorem KE.spec {A B : Heap} : ∀ {l : List Nat}, KE A B l → ∀ j ∈ l, A.get j = B.get j
  | i :: r, h, j, hj => by
    rcases List.mem_cons.1 hj with rfl | hj
    · exact h.1
    · exact KE.spec h.2 j hj
theorem get_not {D : Heap} {j : Nat} (h : j ∉ D.map (·.1)) : D.get j = none := by
  cases hg : D.get j with
  | none => rfl
  | some o => exact absurd (List.mem_map.2 ⟨_, mem_of_hget hg, rfl⟩) h
/-- Two heaps of which the fronts hold the same. -/
theorem get_same (A B : Heap) {K : Heap} (h : KE A B (A.map (·.1) ++ B.map (·.1))) (j : Nat) : Heap.get (A ++ K) j = Heap.get (B ++ K) j := by
  rw [hget_app, hget_app]
  have e : A.get j = B.get j := by
    by_cases hj : j ∈ A.map (·.1) ++ B.map (·.1)
    · exact h.spec j hj
    · rw [List.mem_append, not_or] at hj
      rw [get_not hj.1, get_not hj.2]
  rw [e]
end Go.Abs
end
section
set_option linter.unusedVariables false
set_option linter.unusedSimpArgs false
set_option maxRecDepth 100000
namespace Go.Proofs.Ytedfihgkopejcaa
open Go.Abs

/-- The class of the byte at a place. -/
def atC (s : ByteArray) (i : Nat) : Int := if i < s.size then cls (byteAt s i) else 0
def tS (s : ByteArray) : Ob := bx 1 9 [sv s]
def tC : Ob := bx 256 79 clsAgg
def tA : Ob := bx 1 111 [.clo 73 [.ref 921 0 0 0, .ref 923 0 0 0]]
theorem at1_c (s : ByteArray) (i : Nat) (H : Heap) (h1 : H.get 921 = some (tS s)) (h2 : H.get 923 = some tC) (hi : i < 4611686018427387904) (hs : s.size < 4611686018427387904) :
    ACalls Try.prog 73 [iv (i : Int), .ref 921 0 0 0, .ref 923 0 0 0] H (fun r H' => r = .pv (.int .u8 (atC s i)) ∧ H' = H) := by
  refine ACalls.body Try.func73 rfl Try.ntmps73 (Nat.le_of_ble_eq_true rfl) ?_
  refine awp_seq ?_
  refine awp_region ?_
  refine al_d rfl rfl rfl (by exact opd_assign rfl rfl) ?_
  refine al_nil ?_
  refine awp_seq ?_
  refine awp_seq ?_
  refine awp_region ?_
  refine al_d rfl rfl rfl (by exact opd_move rfl rfl) ?_
  refine al_d rfl rfl rfl (by exact (by exact opd_load1_ref rfl Try.isAgg9 rfl h1 rfl rfl rfl)) ?_
  refine al_d rfl rfl rfl (by exact opd_len_str rfl Try.underlying9 rfl) ?_
  refine al_d rfl rfl rfl (by exact opd_geq rfl rfl rfl) ?_
  refine al_nil ?_
  refine awp_cond rfl (fun hc1 => ?_) (fun hc1 => ?_)
  -- cond 1
  · have e : atC s i = 0 := by rw [atC, if_neg (by have := of_decide_eq_true hc1; omega)]
    rw [e]
    refine awp_seq ?_
    refine awp_region ?_
    refine al_d rfl rfl rfl (by exact opd_assign rfl rfl) ?_
    refine al_nil ?_
    refine awp_ret ?_
    -- return
    refine aret1 (H' := H) (by exact .inr rfl) rfl (rval_tmp rfl) Fin.refl ?_
    exact ⟨rfl, rfl⟩
  · have hlt : i < s.size := by have := of_decide_eq_false hc1; omega
    have e : atC s i = cls (byteAt s i) := by rw [atC, if_pos hlt]
    rw [e]
    refine awp_skip ?_
    refine awp_seq ?_
    refine awp_region ?_
    refine al_d rfl rfl rfl (by exact (by exact opd_load1_ref rfl Try.isAgg9 rfl h1 rfl rfl rfl)) ?_
    refine al_d rfl rfl rfl (by exact opd_move rfl rfl) ?_
    refine al_d rfl rfl rfl (by exact opd_index_str rfl Try.underlying9 rfl rfl (by omega) (by exact Int.toNat_natCast _) (by omega) rfl) ?_
    refine al_d rfl rfl rfl (by exact opd_index_arr (m := (byteAt s i).toNat) (k2 := (byteAt s i).toNat) rfl Try.underlying79 Try.sizeOf5 rfl h2 rfl rfl (byteAt_nn s i) rfl (byteAt_lt s i) (by omega)) ?_
    refine al_d rfl rfl rfl (by exact opd_load1_ref rfl Try.isAgg5 rfl h2 rfl rfl (clsAt s i)) ?_
    refine al_d rfl rfl rfl (by exact opd_assign rfl rfl) ?_
    refine al_nil ?_
    refine awp_ret ?_
    -- return
    refine aret1 (H' := H) (by exact .inr rfl) rfl (rval_tmp rfl) Fin.refl ?_
    exact ⟨rfl, rfl⟩
theorem tokens_c (s : ByteArray) (H : Heap) (h1 : H.get 921 = none) (h2 : H.get 923 = none) (h3 : H.get 924 = none) (hc : Closed H) :
    ACalls Try.prog 60 [sv s] H (fun r H' => r = .clo 74 [.ref 921 0 0 0, .ref 924 0 0 0] ∧ H' = (924, tA) :: (923, tC) :: (921, tS s) :: H) := by
  have h2' : Heap.get ((921, tS s) :: H) 923 = none := h2
  refine ACalls.body Try.func60 rfl Try.ntmps60 (Nat.le_of_ble_eq_true rfl) ?_
  refine awp_seq ?_
  refine awp_region ?_
  refine al_d rfl rfl rfl (by exact opd_box (id := 921) rfl rfl rfl rfl h1) ?_
  refine al_d rfl rfl rfl (by exact opd_assign rfl rfl) ?_
  refine al_nil ?_
  refine awp_seq ?_
  refine awp_region ?_
  refine al_d rfl rfl rfl (by exact opr_call rfl rfl Try.call46 rfl (classes_c _)) ?_
  refine al_d rfl rfl rfl (by exact x_alloc (id := 923) rfl zoCls rfl h2) ?_
  refine al_n rfl rfl (by exact x_store_all rfl Try.sizeOf79 rfl rfl rfl rfl rfl rfl rfl (by simp)) ?_
  refine al_nil ?_
  refine awp_seq ?_
  refine awp_region ?_
  refine al_d rfl rfl rfl (by exact opd_makeFunc rfl rfl) ?_
  refine al_d rfl rfl rfl (by exact x_alloc (id := 924) rfl zo111 rfl h3) ?_
  refine al_n rfl rfl (by exact (by exact x_store_all rfl Try.sizeOf111 rfl rfl rfl rfl rfl rfl rfl rfl)) ?_
  refine al_nil ?_
  refine awp_seq ?_
  refine awp_region ?_
  refine al_d rfl rfl rfl (by exact opd_makeFunc rfl rfl) ?_
  refine al_d rfl rfl rfl (by exact opd_assign rfl rfl) ?_
  refine al_nil ?_
  refine awp_ret ?_
  -- return
  refine aret1 (H' := ((924, tA) :: (923, tC) :: (921, tS s) :: H)) (by exact .inr rfl) rfl (rval_tmp rfl) (Fin.get' (fun j => by simp only [Heap.get]; cases Nat.beq 924 j <;> cases Nat.beq 923 j <;> rfl)) ?_
  exact ⟨rfl, rfl⟩
/-! ### what is yielded -/
def scan (p : Nat → Bool) : Nat → Nat → Nat
  | 0, i => i
  | n + 1, i => if p i then scan p n (i + 1) else i
theorem scan_le (p : Nat → Bool) : ∀ (n i : Nat), i ≤ scan p n i ∧ scan p n i ≤ i + n
  | 0, i => ⟨Nat.le_refl _, Nat.le_refl _⟩
  | n + 1, i => by
    rw [scan]
    split
    · have := scan_le p n (i + 1)
      omega
    · omega
theorem scan_all (p : Nat → Bool) : ∀ (n i : Nat), ∀ j, i ≤ j → j < scan p n i → p j = true
  | 0, i, j, h1, h2 => by rw [scan] at h2; omega
  | n + 1, i, j, h1, h2 => by
    rw [scan] at h2
    split at h2
    · by_cases e : j = i
      · subst e; assumption
      · exact scan_all p n (i + 1) j (by omega) h2
    · omega
theorem scan_stop (p : Nat → Bool) : ∀ (n i : Nat), scan p n i < i + n → p (scan p n i) = false
  | 0, i, h => by rw [scan] at h; omega
  | n + 1, i, h => by
    rw [scan] at h ⊢
    split at h
    · rename_i hp
      rw [if_pos hp]
      exact scan_stop p n (i + 1) (by omega)
    · rename_i hp
      rw [if_neg hp]
      exact Bool.not_eq_true _ ▸ hp
/-- Where a scan ends. -/
theorem scan_eq (p : Nat → Bool) {n i j : Nat} (h1 : i ≤ j) (h2 : j ≤ i + n) (h3 : ∀ k, i ≤ k → k < j → p k = true) (h4 : p j = false ∨ j = i + n) : scan p n i = j := by
  obtain ⟨l1, l2⟩ := scan_le p n i
  rcases Nat.lt_trichotomy (scan p n i) j with h | h | h
  · have := scan_stop p n i (by omega)
    rw [h3 _ l1 h] at this; cases this
  · exact h
  · have := scan_all p n i j h1 h
    rcases h4 with h4 | h4
    · rw [h4] at this; cases this
    · omega
def pLine (s : ByteArray) (j : Nat) : Bool := decide (j < s.size) && !decide (byteAt s j = 10)
def pWord (s : ByteArray) (j : Nat) : Bool := decide (atC s j = 3) || decide (atC s j = 4) || decide (atC s j = 5)
def pDig (s : ByteArray) (j : Nat) : Bool := decide (atC s j = 4)
def lineEnd (s : ByteArray) (i : Nat) : Nat := scan (pLine s) (s.size - i) i
def wordEnd (s : ByteArray) (i : Nat) : Nat := scan (pWord s) (s.size - i) i
def digEnd (s : ByteArray) (i : Nat) : Nat := scan (pDig s) (s.size - i) i
/-- A token, or an error. -/
structure GFound where
  kind : Int
  text : ByteArray
  pos : Nat
  err : Int
def encFound (f : GFound) : List PV := [.int .i64 f.kind, .str f.text, .int .i64 f.pos, .int .i64 f.err]
def noTok (i : Nat) : GFound := ⟨0, sNil, i, 3⟩
def gWordT (s : ByteArray) (i j : Nat) : GFound := ⟨1, s.extract i j, i, if 24 < j - i then 2 else 0⟩
def gNum (s : ByteArray) (i j : Nat) : GFound := ⟨2, s.extract i j, i, if decide (7 < j - i) || decide (atC s j = 3) || decide (atC s j = 5) then 4 else 0⟩
def gStr (s : ByteArray) (i : Nat) : GFound × Nat := if 0 < (gUnq (s.extract i s.size)).2 then (⟨3, (gUnq (s.extract i s.size)).1, i, 0⟩, i + (gUnq (s.extract i s.size)).2.toNat) else (noTok i, i)
/-- What begins at a place, and where it goes on. -/
def gStep (s : ByteArray) (i : Nat) : Option GFound × Nat :=
  if atC s i = 1 then (none, i + 1) else if atC s i = 2 then (none, lineEnd s i) else if atC s i = 3 then (some (gWordT s i (wordEnd s i)), wordEnd s i)
  else if atC s i = 4 then (some (gNum s i (digEnd s i)), digEnd s i) else if atC s i = 7 then (some (gStr s i).1, (gStr s i).2)
  else if atC s i = 6 then (some ⟨4, s.extract i (i + 1), i, 0⟩, i + 1) else (some (noTok i), i)
def gToks (s : ByteArray) : Nat → Nat → List GFound
  | 0, _ => []
  | n + 1, i => if i < s.size then (match gStep s i with
    | (none, j) => gToks s n j
    | (some f, j) => f :: (if f.err = 0 then gToks s n j else [])) else []
theorem unqL_len : ∀ (l : List UInt8) (p : List UInt8 × Nat), unqL l = some p → p.2 ≤ l.length
  | [], p, h => by cases h
  | [c], p, h => by
    rw [unqL] at h
    split at h
    · cases h; exact Nat.le_refl _
    · cases h
  | c :: e :: r, p, h => by
    rw [unqL] at h
    split at h
    · cases h; exact Nat.le_add_left _ _
    · split at h
      · cases h
      · split at h
        · cases hg : gUnesc e with
          | none => rw [hg] at h; cases h
          | some b =>
            rw [hg] at h
            cases hu : unqL r with
            | none => rw [hu] at h; cases h
            | some q =>
              rw [hu] at h; cases h
              have := unqL_len r q hu
              show q.2 + 2 ≤ r.length + 1 + 1
              omega
        · cases hu : unqL (e :: r) with
          | none => rw [hu] at h; cases h
          | some q =>
            rw [hu] at h; cases h
            have := unqL_len (e :: r) q hu
            show q.2 + 1 ≤ r.length + 1 + 1
            rw [List.length_cons] at this
            omega
theorem gUnq_len (s : ByteArray) : 0 ≤ (gUnq s).2 ∧ (gUnq s).2 ≤ s.size := by
  have hl : s.data.toList.length = s.size := by simp
  unfold gUnq
  cases hu : unqL (s.data.toList.drop 1) with
  | none => exact ⟨Int.le_refl _, Int.natCast_nonneg _⟩
  | some p =>
    have := unqL_len _ p hu
    rw [List.length_drop, hl] at this
    refine ⟨Int.natCast_nonneg _, ?_⟩
    show ((p.2 + 1 : Nat) : Int) ≤ _
    have h0 : 0 < s.size := by
      cases h0 : s.data.toList with
      | nil => rw [h0] at hu; cases hu
      | cons a l => rw [h0] at hl; rw [← hl]; exact Nat.succ_pos _
    omega
theorem atC_range (s : ByteArray) (i : Nat) (h : atC s i ≠ 0) : i < s.size := by
  by_cases e : i < s.size
  · exact e
  · exact absurd (if_neg e) h
def tF (f : GFound) : Ob := bx 4 101 ((encFound f).map .pv)
theorem tF_clo (H : Heap) (f : GFound) : ∀ r ∈ (tF f).rows, ∀ a ∈ r, Clo H a := by
  intro r hr a ha
  simp only [tF, bx, List.mem_singleton] at hr
  subst hr
  obtain ⟨p, _, rfl⟩ := List.mem_map.1 ha
  simp
theorem head_of {α : Type} {l m : List α} {k : Nat} {d : α} (h : l.drop k = d :: m) : l[k]? = some d ∧ l.drop (k + 1) = m := by
  refine ⟨?_, ?_⟩
  · have := congrArg (·[0]?) h
    simpa using this
  · rw [← List.drop_drop, h]; rfl
theorem step_go {s : ByteArray} {i j : Nat} {f : GFound} (h : gStep s i = (some f, j)) (he : f.err = 0) (hi : i < s.size) : i < j ∧ j ≤ s.size := by
  have hfirst : ∀ (p : Nat → Bool), p i = true → i < scan p (s.size - i) i ∧ scan p (s.size - i) i ≤ s.size := fun p hp => by
    obtain ⟨l1, l2⟩ := scan_le p (s.size - i) i
    refine ⟨?_, by omega⟩
    rcases Nat.lt_or_ge i (scan p (s.size - i) i) with h | h
    · exact h
    · have h3 := scan_stop p (s.size - i) i (by omega)
      rw [show scan p (s.size - i) i = i by omega, hp] at h3
      cases h3
  unfold gStep at h
  split at h
  · cases h
  · split at h
    · cases h
    · split at h
      · rename_i e3
        cases h
        exact hfirst _ (by rw [pWord, e3]; rfl)
      · split at h
        · rename_i e4
          cases h
          exact hfirst _ (by rw [pDig, e4]; rfl)
        · split at h
          · have hul := gUnq_len (s.extract i s.size)
            have hexs : (s.extract i s.size).size ≤ s.size - i := by rw [ByteArray.size_extract]; omega
            unfold gStr at h
            split at h
            · rename_i hpos
              cases h
              show i < i + (gUnq (s.extract i s.size)).2.toNat ∧ i + (gUnq (s.extract i s.size)).2.toNat ≤ s.size
              omega
            · cases h
              cases he
          · split at h
            · cases h
              exact ⟨Nat.lt_succ_self _, hi⟩
            · cases h
              cases he
theorem ltD {i n : Nat} (h : decide ((i : Int) < (n : Int)) = true) : i < n := by
  have := of_decide_eq_true h
  omega
theorem tokens2_c (s : ByteArray) (fv : AV) (Hs : Nat → Heap) (cont : Nat → Bool) (m : Nat) (hs : s.size < 1099511627776) (h1 : ∀ k, (Hs k).get 921 = some (tS s)) (h2 : ∀ k, (Hs k).get 923 = some tC) (h3 : ∀ k, (Hs k).get 924 = some tA) (h6 : ∀ k, (Hs k).get 926 = none) (hcl : ∀ k, Closed (Hs k)) (hf : ∀ k, Clo (Hs k) fv)
    (hm : m ≤ (gToks s (s.size + 1) 0).length) (hall : ∀ k, k + 1 < m → cont k = true) (hend : m = (gToks s (s.size + 1) 0).length ∨ (0 < m ∧ cont (m - 1) = false))
    (hy : ∀ k d, (gToks s (s.size + 1) 0)[k]? = some d → k < m → CallsV Try.prog fv [.agg ((encFound d).map .pv)] ((926, tF d) :: Hs k) (fun r H' => r = bv (cont k) ∧ H' = (926, tF d) :: Hs (k + 1))) :
    ACalls Try.prog 74 [fv, .ref 921 0 0 0, .ref 924 0 0 0] (Hs 0) (fun r H' => r = .tup [] ∧ H' = Hs m) := by
  obtain ⟨ds, hds⟩ : ∃ ds, ds = gToks s (s.size + 1) 0 := ⟨_, rfl⟩
  rw [← hds] at hy hm hend
  have hat : ∀ (k i : Nat) (f : GFound), i ≤ s.size + 1 → CallsV Try.prog (.clo 73 [.ref 921 0 0 0, .ref 923 0 0 0]) [iv (i : Int)] ((926, tF f) :: Hs k) (fun r H' => r = .pv (.int .u8 (atC s i)) ∧ H' = (926, tF f) :: Hs k) := fun k i f hi =>
    CallsV.clo Try.call73 (at1_c s i ((926, tF f) :: Hs k) (h1 k) (h2 k) (by omega) (by omega))
  have hfree : ∀ (G0 : Heap) (k i : Nat) (E : Env) (o : Ob), G0 = Hs 0 → E.get 0 = some fv → E.get 1 = some (.ref 921 0 0 0) → E.get 2 = some (.ref 924 0 0 0) → E.get 4 = some (iv (i : Int)) →
      Ent G0 E ((926, o) :: Hs k) [(0, fv), (1, .ref 921 0 0 0), (2, .ref 924 0 0 0), (4, iv (i : Int))] (Hs k) := fun G0 k i E o hG q0 q1 q2 q4 => by
    subst hG
    exact Ent.front (K := Hs k) [(926, o)] [] ⟨⟨_, q0, rfl⟩, hf k, ⟨_, q1, rfl⟩, (by rw [clo_ref]; show ((Hs k).get 921).isSome = true; rw [h1]; rfl), ⟨_, q2, rfl⟩, (by rw [clo_ref]; show ((Hs k).get 924).isSome = true; rw [h3]; rfl), ⟨_, q4, rfl⟩, (by simp), trivial⟩ (by simp [h6]) (by simp) (by simp) (hcl k) (by simp [h6])
  refine ACalls.body Try.func74 rfl Try.ntmps74 (Nat.le_of_ble_eq_true rfl) ?_
  refine awp_scope ?_
  refine awp_seq ?_
  refine awp_region ?_
  refine al_d rfl rfl rfl (by exact opd_assign rfl rfl) ?_
  refine al_nil ?_
  refine awp_seq ?_
  refine awp_label ?_
  refine awp_block ?_
  -- loop
  refine awp_loop2 (fun (i k : Nat) => ([(0, fv), (1, .ref 921 0 0 0), (2, .ref 924 0 0 0), (4, iv (i : Int))], Hs k)) (fun i k => i ≤ s.size ∧ k ≤ m ∧ (k = 0 ∨ cont (k - 1) = true) ∧ ∃ n, s.size - i < n ∧ ds.drop k = gToks s n i) (fun i k => s.size - i) 0 0 ⟨Nat.zero_le _, Nat.zero_le _, .inl rfl, s.size + 1, Nat.lt_succ_self _, by rw [List.drop_zero, hds]⟩ ?_ ?_
  · exact Ent.e0 ⟨⟨_, rfl, rfl⟩, ⟨_, rfl, rfl⟩, ⟨_, rfl, rfl⟩, ⟨_, rfl, rfl⟩, trivial⟩
  · rintro i k ⟨hi, hkm, hkc, n, hn, hinv⟩
    refine awp_seq ?_
    refine awp_seq ?_
    refine awp_region ?_
    refine al_d rfl rfl rfl (by exact opd_move rfl rfl) ?_
    refine al_d rfl rfl rfl (by exact (by exact opd_load1_ref rfl Try.isAgg9 rfl (h1 k) rfl rfl rfl)) ?_
    refine al_d rfl rfl rfl (by exact opd_len_str rfl Try.underlying9 rfl) ?_
    refine al_d rfl rfl rfl (by exact opd_lss rfl rfl rfl) ?_
    refine al_nil ?_
    refine awp_cond rfl (fun hc1 => ?_) (fun hc1 => ?_)
    -- cond 1
    · have hlt : i < s.size := by have := of_decide_eq_true hc1; omega
      obtain ⟨n, rfl⟩ : ∃ n', n = n' + 1 := ⟨n - 1, by omega⟩
      rw [gToks, if_pos hlt] at hinv
      refine awp_skip ?_
      refine awp_block ?_
      refine awp_seq ?_
      refine awp_region ?_
      refine al_d rfl rfl rfl (by exact opd_move rfl rfl) ?_
      refine al_d rfl rfl rfl (by exact opd_assign rfl rfl) ?_
      refine al_nil ?_
      refine awp_seq ?_
      refine awp_region ?_
      refine al_d rfl rfl rfl (by exact opd_move rfl rfl) ?_
      refine al_d rfl rfl rfl (by exact x_build rfl bo78 rfl rfl) ?_
      refine al_d rfl rfl rfl (by exact x_build rfl bo101 rfl rfl) ?_
      refine al_d rfl rfl rfl (by exact x_alloc (id := 926) rfl zo101 rfl (h6 k)) ?_
      refine al_n rfl rfl (by exact (by exact x_store_all rfl Try.sizeOf101 rfl rfl rfl rfl rfl rfl rfl rfl)) ?_
      refine al_nil ?_
      refine awp_seq_ex (fun (a : GFound × Nat) => ([(0, fv), (1, .ref 921 0 0 0), (2, .ref 924 0 0 0), (4, iv (a.2 : Int)), (6, .ref 926 0 0 0)], (926, tF a.1) :: Hs k)) (fun a => gStep s i = (some a.1, a.2)) ?_ ?_
      -- seqex
      · skip
        refine awp_seq ?_
        -- before the slot
        refine AWp.ent (E' := [(0, fv), (1, .ref 921 0 0 0), (2, .ref 924 0 0 0), (4, iv (i : Int)), (5, iv (i : Int)), (6, .ref 926 0 0 0)]) (H' := (926, tF (noTok i)) :: Hs k) (Ent.get' ⟨⟨_, rfl, rfl⟩, ⟨_, rfl, rfl⟩, ⟨_, rfl, rfl⟩, ⟨_, rfl, rfl⟩, ⟨_, rfl, rfl⟩, ⟨_, rfl, rfl⟩, trivial⟩ (fun j => get_dup 926 (tF (noTok i)) _ (Hs k) j)) ?_
        refine awp_region ?_
        refine al_d rfl rfl rfl (by exact (by exact opd_load1_ref rfl Try.isAgg111 rfl (h3 k) rfl rfl rfl)) ?_
        refine al_d rfl rfl rfl (by exact opd_move rfl rfl) ?_
        refine al_d rfl rfl rfl (by exact opr_callV rfl rfl rfl (hat k i (noTok i) (by omega))) ?_
        refine al_nil ?_
        refine awp_block ?_
        refine awp_seq ?_
        refine awp_region ?_
        refine al_d rfl rfl rfl (by exact opd_eql rfl rfl rfl) ?_
        refine al_d rfl rfl rfl (by exact opd_assign rfl rfl) ?_
        refine al_nil ?_
        refine awp_cond rfl (fun hc2 => ?_) (fun hc2 => ?_)
        -- cond 2
        · have e1 : atC s i = 1 := of_decide_eq_true hc2
          have hst : gStep s i = (none, i + 1) := by rw [gStep, if_pos e1]
          rw [hst] at hinv
          refine awp_seq ?_
          refine awp_region ?_
          refine al_d rfl rfl rfl (by exact opd_move rfl rfl) ?_
          refine al_d rfl rfl rfl (by exact opd_add rfl rfl rfl (by exact w64 (by omega) (by omega))) ?_
          refine al_d rfl rfl rfl (by exact opd_assign rfl rfl) ?_
          refine al_nil ?_
          refine awp_exit ?_
          -- end of a round
          exact ⟨i + 1, k, ⟨by omega, hkm, hkc, n, by omega, hinv⟩, by omega, hfree _ _ _ _ _ rfl rfl rfl rfl rfl⟩
        · have n1 : atC s i ≠ 1 := of_decide_eq_false hc2
          refine awp_seq ?_
          refine awp_region ?_
          refine al_d rfl rfl rfl (by exact opd_eql rfl rfl rfl) ?_
          refine al_d rfl rfl rfl (by exact opd_assign rfl rfl) ?_
          refine al_nil ?_
          refine awp_cond rfl (fun hc3 => ?_) (fun hc3 => ?_)
          -- cond 3
          · have e2 : atC s i = 2 := of_decide_eq_true hc3
            have hst : gStep s i = (none, lineEnd s i) := by rw [gStep, if_neg n1, if_pos e2]
            rw [hst] at hinv
            refine awp_seq ?_
            refine awp_block ?_
            -- loop
            refine awp_loop (σ := Nat) (fun j => ([(0, fv), (1, .ref 921 0 0 0), (2, .ref 924 0 0 0), (4, iv (j : Int))], (926, tF (noTok i)) :: Hs k)) (fun j => i ≤ j ∧ j ≤ s.size ∧ ∀ q, i ≤ q → q < j → pLine s q = true) (fun j => s.size - j) i ⟨Nat.le_refl _, hi, fun q h1 h2 => by omega⟩ ?_ ?_
            · exact Ent.e0 ⟨⟨_, rfl, rfl⟩, ⟨_, rfl, rfl⟩, ⟨_, rfl, rfl⟩, ⟨_, rfl, rfl⟩, trivial⟩
            · rintro j ⟨hij, hj, hpre⟩
              refine awp_seq ?_
              refine awp_seq ?_
              refine awp_bool (t := 37) (n := 11) (X := pLine s j) ?_ ?_
              · all_goals (refine al_d rfl rfl rfl (by exact opd_move rfl rfl) ?_)
                all_goals (refine al_d rfl rfl rfl (by exact (by exact opd_load1_ref rfl Try.isAgg9 rfl (h1 k) rfl rfl rfl)) ?_)
                all_goals (refine al_d rfl rfl rfl (by exact opd_len_str rfl Try.underlying9 rfl) ?_)
                all_goals (refine al_d rfl rfl rfl (by exact opd_lss rfl rfl rfl) ?_)
                all_goals (refine al_d rfl rfl rfl (by exact opd_move rfl rfl) ?_)
                all_goals (refine al_split (t := 32) rfl (fun h32 => ?_) (fun h32 => ?_))
                all_goals (try contradiction)
                all_goals (first | refine al_off rfl rfl rfl rfl rfl ?_ | refine al_ond rfl rfl rfl rfl rfl rfl (by exact (by exact opd_load1_ref rfl Try.isAgg9 rfl (h1 k) rfl rfl rfl)) ?_)
                all_goals (first | refine al_off rfl rfl rfl rfl rfl ?_ | refine al_ond rfl rfl rfl rfl rfl rfl (by exact opd_move rfl rfl) ?_)
                all_goals (first | refine al_off rfl rfl rfl rfl rfl ?_ | refine al_ond rfl rfl rfl rfl rfl rfl (by exact opd_index_str rfl Try.underlying9 rfl rfl (by omega) (by exact Int.toNat_natCast _) (ltD h32) rfl) ?_)
                all_goals (first | refine al_off rfl rfl rfl rfl rfl ?_ | refine al_ond rfl rfl rfl rfl rfl rfl (by exact opd_neq rfl rfl rfl) ?_)
                all_goals (refine al_d rfl rfl rfl (by exact (by first | exact opd_pick_t rfl rfl rfl | exact opd_pick_f rfl rfl rfl)) ?_)
                all_goals (refine al_nil ?_)
                all_goals (exact ⟨⟨_, rfl, by first | (simp_all [pLine]; done) | (simp_all [pLine]; omega)⟩, rfl, rfl, rfl⟩)
              refine awp_cond rfl (fun hc4 => ?_) (fun hc4 => ?_)
              -- cond 4
              · have hjs : j < s.size := by
                  have h := hc4
                  rw [pLine, Bool.and_eq_true, decide_eq_true_eq] at h
                  exact h.1
                refine awp_skip ?_
                refine awp_block ?_
                refine awp_region ?_
                refine al_d rfl rfl rfl (by exact opd_move rfl rfl) ?_
                refine al_d rfl rfl rfl (by exact opd_add rfl rfl rfl (by exact w64 (by omega) (by omega))) ?_
                refine al_d rfl rfl rfl (by exact opd_assign rfl rfl) ?_
                refine al_nil ?_
                -- end of a round
                exact ⟨j + 1, ⟨by omega, by omega, fun q q1 q2 => by
                  by_cases e : q = j
                  · subst e; exact hc4
                  · exact hpre q q1 (by omega)⟩, by omega, Ent.e0 ⟨⟨_, rfl, rfl⟩, ⟨_, rfl, rfl⟩, ⟨_, rfl, rfl⟩, ⟨_, rfl, rfl⟩, trivial⟩⟩
              · have hle : lineEnd s i = j := scan_eq _ hij (by omega) hpre (.inl hc4)
                have hgt : i < j := by
                  rcases Nat.lt_or_ge i j with h | h
                  · exact h
                  · have hji : j = i := by omega
                    subst hji
                    rw [pLine, decide_eq_true hlt, Bool.true_and, Bool.not_eq_false', decide_eq_true_eq] at hc4
                    rw [atC, if_pos hlt, hc4] at e2
                    exact absurd e2 (by decide)
                rw [hle] at hinv
                refine awp_exit ?_
                refine awp_exit ?_
                -- end of a round
                exact ⟨j, k, ⟨hj, hkm, hkc, n, by omega, hinv⟩, by omega, hfree _ _ _ _ _ rfl rfl rfl rfl rfl⟩
          · have n2 : atC s i ≠ 2 := of_decide_eq_false hc3
            refine awp_seq ?_
            refine awp_region ?_
            refine al_d rfl rfl rfl (by exact opd_eql rfl rfl rfl) ?_
            refine al_d rfl rfl rfl (by exact opd_assign rfl rfl) ?_
            refine al_nil ?_
            refine awp_cond rfl (fun hc5 => ?_) (fun hc5 => ?_)
            -- cond 5
            · have e3 : atC s i = 3 := of_decide_eq_true hc5
              refine awp_seq ?_
              refine awp_seq ?_
              refine awp_region ?_
              refine al_d rfl rfl rfl (by exact (by exact opd_load1_ref rfl Try.isAgg111 rfl (h3 k) rfl rfl rfl)) ?_
              refine al_d rfl rfl rfl (by exact opd_move rfl rfl) ?_
              refine al_d rfl rfl rfl (by exact opr_callV rfl rfl rfl (hat k i (noTok i) (by omega))) ?_
              refine al_d rfl rfl rfl (by exact opd_assign rfl rfl) ?_
              refine al_nil ?_
              refine awp_block ?_
              -- loop
              refine awp_loop (σ := Nat) (fun j => ([(0, fv), (1, .ref 921 0 0 0), (2, .ref 924 0 0 0), (4, iv (j : Int)), (5, iv (i : Int)), (6, .ref 926 0 0 0), (7, .pv (.int .u8 (atC s j)))], (926, tF (noTok i)) :: Hs k)) (fun j => i ≤ j ∧ j ≤ s.size ∧ ∀ q, i ≤ q → q < j → pWord s q = true) (fun j => s.size - j) i ⟨Nat.le_refl _, hi, fun q h1 h2 => by omega⟩ ?_ ?_
              · exact Ent.e0 ⟨⟨_, rfl, rfl⟩, ⟨_, rfl, rfl⟩, ⟨_, rfl, rfl⟩, ⟨_, rfl, rfl⟩, ⟨_, rfl, rfl⟩, ⟨_, rfl, rfl⟩, ⟨_, rfl, rfl⟩, trivial⟩
              · rintro j ⟨hij, hj, hpre⟩
                refine awp_seq ?_
                refine awp_seq ?_
                refine awp_bool (t := 54) (n := 12) (X := pWord s j) ?_ ?_
                · all_goals (refine al_d rfl rfl rfl (by exact opd_move rfl rfl) ?_)
                  all_goals (refine al_d rfl rfl rfl (by exact opd_eql rfl rfl rfl) ?_)
                  all_goals (refine al_d rfl rfl rfl (by exact opd_move rfl rfl) ?_)
                  all_goals (refine al_split (t := 47) rfl (fun h47 => ?_) (fun h47 => ?_))
                  all_goals (try contradiction)
                  all_goals (first | refine al_off rfl rfl rfl rfl rfl ?_ | refine al_ond rfl rfl rfl rfl rfl rfl (by exact opd_move rfl rfl) ?_)
                  all_goals (first | refine al_off rfl rfl rfl rfl rfl ?_ | refine al_ond rfl rfl rfl rfl rfl rfl (by exact opd_eql rfl rfl rfl) ?_)
                  all_goals (refine al_d rfl rfl rfl (by exact (by first | exact opd_pick_t rfl rfl rfl | exact opd_pick_f rfl rfl rfl)) ?_)
                  all_goals (refine al_d rfl rfl rfl (by exact opd_move rfl rfl) ?_)
                  all_goals (refine al_split (t := 51) rfl (fun h51 => ?_) (fun h51 => ?_))
                  all_goals (try contradiction)
                  all_goals (first | refine al_off rfl rfl rfl rfl rfl ?_ | refine al_ond rfl rfl rfl rfl rfl rfl (by exact opd_move rfl rfl) ?_)
                  all_goals (first | refine al_off rfl rfl rfl rfl rfl ?_ | refine al_ond rfl rfl rfl rfl rfl rfl (by exact opd_eql rfl rfl rfl) ?_)
                  all_goals (refine al_d rfl rfl rfl (by exact (by first | exact opd_pick_t rfl rfl rfl | exact opd_pick_f rfl rfl rfl)) ?_)
                  all_goals (refine al_nil ?_)
                  all_goals (exact ⟨⟨_, rfl, by (simp only [pWord, *]; rfl)⟩, rfl, rfl, rfl⟩)
                refine awp_cond rfl (fun hc6 => ?_) (fun hc6 => ?_)
                -- cond 6
                · have hjs : j < s.size := atC_range s j (fun e => by rw [pWord, e] at hc6; cases hc6)
                  refine awp_skip ?_
                  refine awp_seq ?_
                  refine awp_block ?_
                  refine awp_region ?_
                  refine al_d rfl rfl rfl (by exact opd_move rfl rfl) ?_
                  refine al_d rfl rfl rfl (by exact opd_add rfl rfl rfl (by exact w64 (by omega) (by omega))) ?_
                  refine al_d rfl rfl rfl (by exact opd_assign rfl rfl) ?_
                  refine al_nil ?_
                  refine awp_region ?_
                  refine al_d rfl rfl rfl (by exact (by exact opd_load1_ref rfl Try.isAgg111 rfl (h3 k) rfl rfl rfl)) ?_
                  refine al_d rfl rfl rfl (by exact opd_move rfl rfl) ?_
                  refine al_d rfl rfl rfl (by exact opr_callV rfl rfl rfl (hat k (j + 1) (noTok i) (by omega))) ?_
                  refine al_d rfl rfl rfl (by exact opd_assign rfl rfl) ?_
                  refine al_nil ?_
                  -- end of a round
                  exact ⟨j + 1, ⟨by omega, by omega, fun q q1 q2 => by
                    by_cases e : q = j
                    · subst e; exact hc6
                    · exact hpre q q1 (by omega)⟩, by omega, Ent.e0 ⟨⟨_, rfl, rfl⟩, ⟨_, rfl, rfl⟩, ⟨_, rfl, rfl⟩, ⟨_, rfl, rfl⟩, ⟨_, rfl, rfl⟩, ⟨_, rfl, rfl⟩, ⟨_, rfl, rfl⟩, trivial⟩⟩
                · have hle : wordEnd s i = j := scan_eq _ hij (by omega) hpre (.inl hc6)
                  have hst : gStep s i = (some (gWordT s i j), j) := by rw [gStep, if_neg n1, if_neg n2, if_pos e3, hle]
                  refine awp_exit ?_
                  refine awp_seq ?_
                  refine awp_drawc follows ?_
                  refine dc_cons (r := ⟨_, some [921], []⟩) (DStep.plain rfl (fun H1 hH => by exact (by exact opd_load1_ref rfl Try.isAgg9 rfl ((hH _ rfl).trans (h1 k)) rfl rfl rfl))) rfl ?_
                  refine dc_cons (r := ⟨_, some [], []⟩) (DStep.plain rfl (fun H1 hH => by exact opd_move rfl rfl)) rfl ?_
                  refine dc_cons (r := ⟨_, some [], []⟩) (DStep.plain rfl (fun H1 hH => by exact opd_move rfl rfl)) rfl ?_
                  refine dc_cons (r := ⟨_, some [], []⟩) (DStep.plain rfl (fun H1 hH => by exact opd_slice_str (l := i) (h := j) rfl Try.underlying9 rfl rfl rfl (by omega) (by omega) rfl)) rfl ?_
                  refine dc_cons (r := ⟨_, some [926], []⟩) (DStep.plain rfl (fun H1 hH => by exact (by exact opd_field_ref rfl fo101_0 rfl ((hH _ rfl).trans rfl) rfl rfl))) rfl ?_
                  refine dc_cons (r := ⟨_, some [926], []⟩) (DStep.plain rfl (fun H1 hH => by exact (by exact opd_field_ref rfl fo78_0 rfl ((hH _ rfl).trans rfl) rfl rfl))) rfl ?_
                  refine dc_cons (r := ⟨_, some [926], [_]⟩) (DStep.plain rfl (fun H1 hH => by exact (by exact x_store1 rfl Try.sizeOf3 rfl rfl rfl ((hH _ rfl).trans rfl) rfl rfl (Nat.le_of_ble_eq_true rfl) rfl rfl))) rfl ?_
                  refine dc_cons (r := ⟨_, some [926], []⟩) (DStep.plain rfl (fun H1 hH => by exact (by exact opd_field_ref rfl fo101_0 rfl ((hH _ rfl).trans rfl) rfl rfl))) rfl ?_
                  refine dc_cons (r := ⟨_, some [926], []⟩) (DStep.plain rfl (fun H1 hH => by exact (by exact opd_field_ref rfl fo78_1 rfl ((hH _ rfl).trans rfl) rfl rfl))) rfl ?_
                  refine dc_cons (r := ⟨_, some [926], [_]⟩) (DStep.plain rfl (fun H1 hH => by exact (by exact x_store1 rfl Try.sizeOf9 rfl rfl rfl ((hH _ rfl).trans rfl) rfl rfl (Nat.le_of_ble_eq_true rfl) rfl rfl))) rfl ?_
                  refine dc_cons (r := ⟨_, some [926], []⟩) (DStep.plain rfl (fun H1 hH => by exact (by exact opd_field_ref rfl fo101_1 rfl ((hH _ rfl).trans rfl) rfl rfl))) rfl ?_
                  refine dc_cons (r := ⟨_, some [926], [_]⟩) (DStep.plain rfl (fun H1 hH => by exact (by exact x_store1 rfl Try.sizeOf25 rfl rfl rfl ((hH _ rfl).trans rfl) rfl rfl (Nat.le_of_ble_eq_true rfl) rfl rfl))) rfl ?_
                  refine dc_nil ⟨by kernel_rfl, ?_⟩
                  refine awp_seq ?_
                  refine awp_region ?_
                  refine al_d rfl rfl rfl (by exact opd_move rfl rfl) ?_
                  refine al_d rfl rfl rfl (by exact opd_move rfl rfl) ?_
                  refine al_d rfl rfl rfl (by exact opd_sub rfl rfl rfl (show IntKind.i64.wrap ((j : Int) - (i : Int)) = ((j - i : Nat) : Int) by rw [IntKind.wrap_i64]; omega)) ?_
                  refine al_d rfl rfl rfl (by exact opd_gtr rfl rfl rfl) ?_
                  refine al_nil ?_
                  refine awp_cond rfl (fun hc7 => ?_) (fun hc7 => ?_)
                  -- cond 7
                  · have hE : gWordT s i j = ⟨1, s.extract i j, i, 2⟩ := by rw [gWordT, if_pos (by have := of_decide_eq_true hc7; omega)]
                    rw [hE] at hst
                    refine awp_region ?_
                    refine al_d rfl rfl rfl (by exact (by exact opd_field_ref rfl fo101_1 rfl rfl rfl rfl)) ?_
                    refine al_n rfl rfl (by exact (by exact x_store1 rfl Try.sizeOf25 rfl rfl rfl rfl rfl rfl (Nat.le_of_ble_eq_true rfl) rfl rfl)) ?_
                    refine al_nil ?_
                    -- end of the piece
                    exact ⟨(⟨1, s.extract i j, i, 2⟩, j), hst, Ent.get' ⟨⟨_, rfl, rfl⟩, ⟨_, rfl, rfl⟩, ⟨_, rfl, rfl⟩, ⟨_, rfl, rfl⟩, ⟨_, rfl, rfl⟩, trivial⟩ (fun q => get_dups [_, _, _, _] (by simp) q)⟩
                  · have hE : gWordT s i j = ⟨1, s.extract i j, i, 0⟩ := by rw [gWordT, if_neg (by have := of_decide_eq_false hc7; omega)]
                    rw [hE] at hst
                    refine awp_skip ?_
                    -- end of the piece
                    exact ⟨(⟨1, s.extract i j, i, 0⟩, j), hst, Ent.get' ⟨⟨_, rfl, rfl⟩, ⟨_, rfl, rfl⟩, ⟨_, rfl, rfl⟩, ⟨_, rfl, rfl⟩, ⟨_, rfl, rfl⟩, trivial⟩ (fun q => get_dups [_, _, _] (by simp) q)⟩
            · have n3 : atC s i ≠ 3 := of_decide_eq_false hc5
              refine awp_seq ?_
              refine awp_region ?_
              refine al_d rfl rfl rfl (by exact opd_eql rfl rfl rfl) ?_
              refine al_d rfl rfl rfl (by exact opd_assign rfl rfl) ?_
              refine al_nil ?_
              refine awp_cond rfl (fun hc8 => ?_) (fun hc8 => ?_)
              -- cond 8
              · have e4 : atC s i = 4 := of_decide_eq_true hc8
                refine awp_seq ?_
                refine awp_block ?_
                -- loop
                refine awp_loop (σ := Nat) (fun j => ([(0, fv), (1, .ref 921 0 0 0), (2, .ref 924 0 0 0), (4, iv (j : Int)), (5, iv (i : Int)), (6, .ref 926 0 0 0)], (926, tF (noTok i)) :: Hs k)) (fun j => i ≤ j ∧ j ≤ s.size ∧ ∀ q, i ≤ q → q < j → pDig s q = true) (fun j => s.size - j) i ⟨Nat.le_refl _, hi, fun q h1 h2 => by omega⟩ ?_ ?_
                · exact Ent.e0 ⟨⟨_, rfl, rfl⟩, ⟨_, rfl, rfl⟩, ⟨_, rfl, rfl⟩, ⟨_, rfl, rfl⟩, ⟨_, rfl, rfl⟩, ⟨_, rfl, rfl⟩, trivial⟩
                · rintro j ⟨hij, hj, hpre⟩
                  refine awp_seq ?_
                  refine awp_seq ?_
                  refine awp_region ?_
                  refine al_d rfl rfl rfl (by exact (by exact opd_load1_ref rfl Try.isAgg111 rfl (h3 k) rfl rfl rfl)) ?_
                  refine al_d rfl rfl rfl (by exact opd_move rfl rfl) ?_
                  refine al_d rfl rfl rfl (by exact opr_callV rfl rfl rfl (hat k j (noTok i) (by omega))) ?_
                  refine al_d rfl rfl rfl (by exact opd_eql rfl rfl rfl) ?_
                  refine al_nil ?_
                  refine awp_cond rfl (fun hc9 => ?_) (fun hc9 => ?_)
                  -- cond 9
                  · have hjs : j < s.size := atC_range s j (fun e => by rw [e] at hc9; cases hc9)
                    refine awp_skip ?_
                    refine awp_block ?_
                    refine awp_region ?_
                    refine al_d rfl rfl rfl (by exact opd_move rfl rfl) ?_
                    refine al_d rfl rfl rfl (by exact opd_add rfl rfl rfl (by exact w64 (by omega) (by omega))) ?_
                    refine al_d rfl rfl rfl (by exact opd_assign rfl rfl) ?_
                    refine al_nil ?_
                    -- end of a round
                    exact ⟨j + 1, ⟨by omega, by omega, fun q q1 q2 => by
                      by_cases e : q = j
                      · subst e; exact hc9
                      · exact hpre q q1 (by omega)⟩, by omega, Ent.e0 ⟨⟨_, rfl, rfl⟩, ⟨_, rfl, rfl⟩, ⟨_, rfl, rfl⟩, ⟨_, rfl, rfl⟩, ⟨_, rfl, rfl⟩, ⟨_, rfl, rfl⟩, trivial⟩⟩
                  · have hle : digEnd s i = j := scan_eq _ hij (by omega) hpre (.inl hc9)
                    have hst : gStep s i = (some (gNum s i j), j) := by rw [gStep, if_neg n1, if_neg n2, if_neg n3, if_pos e4, hle]
                    refine awp_exit ?_
                    refine awp_seq ?_
                    refine awp_drawc follows ?_
                    refine dc_cons (r := ⟨_, some [921], []⟩) (DStep.plain rfl (fun H1 hH => by exact (by exact opd_load1_ref rfl Try.isAgg9 rfl ((hH _ rfl).trans (h1 k)) rfl rfl rfl))) rfl ?_
                    refine dc_cons (r := ⟨_, some [], []⟩) (DStep.plain rfl (fun H1 hH => by exact opd_move rfl rfl)) rfl ?_
                    refine dc_cons (r := ⟨_, some [], []⟩) (DStep.plain rfl (fun H1 hH => by exact opd_move rfl rfl)) rfl ?_
                    refine dc_cons (r := ⟨_, some [], []⟩) (DStep.plain rfl (fun H1 hH => by exact opd_slice_str (l := i) (h := j) rfl Try.underlying9 rfl rfl rfl (by omega) (by omega) rfl)) rfl ?_
                    refine dc_cons (r := ⟨_, some [926], []⟩) (DStep.plain rfl (fun H1 hH => by exact (by exact opd_field_ref rfl fo101_0 rfl ((hH _ rfl).trans rfl) rfl rfl))) rfl ?_
                    refine dc_cons (r := ⟨_, some [926], []⟩) (DStep.plain rfl (fun H1 hH => by exact (by exact opd_field_ref rfl fo78_0 rfl ((hH _ rfl).trans rfl) rfl rfl))) rfl ?_
                    refine dc_cons (r := ⟨_, some [926], [_]⟩) (DStep.plain rfl (fun H1 hH => by exact (by exact x_store1 rfl Try.sizeOf3 rfl rfl rfl ((hH _ rfl).trans rfl) rfl rfl (Nat.le_of_ble_eq_true rfl) rfl rfl))) rfl ?_
                    refine dc_cons (r := ⟨_, some [926], []⟩) (DStep.plain rfl (fun H1 hH => by exact (by exact opd_field_ref rfl fo101_0 rfl ((hH _ rfl).trans rfl) rfl rfl))) rfl ?_
                    refine dc_cons (r := ⟨_, some [926], []⟩) (DStep.plain rfl (fun H1 hH => by exact (by exact opd_field_ref rfl fo78_1 rfl ((hH _ rfl).trans rfl) rfl rfl))) rfl ?_
                    refine dc_cons (r := ⟨_, some [926], [_]⟩) (DStep.plain rfl (fun H1 hH => by exact (by exact x_store1 rfl Try.sizeOf9 rfl rfl rfl ((hH _ rfl).trans rfl) rfl rfl (Nat.le_of_ble_eq_true rfl) rfl rfl))) rfl ?_
                    refine dc_cons (r := ⟨_, some [926], []⟩) (DStep.plain rfl (fun H1 hH => by exact (by exact opd_field_ref rfl fo101_1 rfl ((hH _ rfl).trans rfl) rfl rfl))) rfl ?_
                    refine dc_cons (r := ⟨_, some [926], [_]⟩) (DStep.plain rfl (fun H1 hH => by exact (by exact x_store1 rfl Try.sizeOf25 rfl rfl rfl ((hH _ rfl).trans rfl) rfl rfl (Nat.le_of_ble_eq_true rfl) rfl rfl))) rfl ?_
                    refine dc_nil ⟨by kernel_rfl, ?_⟩
                    refine awp_seq ?_
                    -- before the slot
                    refine AWp.ent (E' := [(0, fv), (1, .ref 921 0 0 0), (2, .ref 924 0 0 0), (4, iv (j : Int)), (5, iv (i : Int)), (6, .ref 926 0 0 0)]) (H' := (926, tF ⟨2, s.extract i j, i, 0⟩) :: Hs k) (Ent.get' ⟨⟨_, rfl, rfl⟩, ⟨_, rfl, rfl⟩, ⟨_, rfl, rfl⟩, ⟨_, rfl, rfl⟩, ⟨_, rfl, rfl⟩, ⟨_, rfl, rfl⟩, trivial⟩ (fun q => get_dups [_, _, _] (by simp) q)) ?_
                    have h7 : decide (7 < ((j - i : Nat) : Int)) = decide (7 < j - i) := by rw [Bool.eq_iff_iff, decide_eq_true_eq, decide_eq_true_eq]; omega
                    refine awp_region ?_
                    refine al_d rfl rfl rfl (by exact (by exact opd_load1_ref rfl Try.isAgg111 rfl (h3 k) rfl rfl rfl)) ?_
                    refine al_d rfl rfl rfl (by exact opd_move rfl rfl) ?_
                    refine al_d rfl rfl rfl (by exact opr_callV rfl rfl rfl (hat k j ⟨2, s.extract i j, i, 0⟩ (by omega))) ?_
                    refine al_d rfl rfl rfl (by exact opd_assign rfl rfl) ?_
                    refine al_nil ?_
                    refine awp_seq ?_
                    refine awp_bool (t := 105) (n := 14) (X := decide (7 < ((j - i : Nat) : Int)) || decide (atC s j = 3) || decide (atC s j = 5)) ?_ ?_
                    · all_goals (refine al_d rfl rfl rfl (by exact opd_move rfl rfl) ?_)
                      all_goals (refine al_d rfl rfl rfl (by exact opd_move rfl rfl) ?_)
                      all_goals (refine al_d rfl rfl rfl (by exact opd_sub rfl rfl rfl (show IntKind.i64.wrap ((j : Int) - (i : Int)) = ((j - i : Nat) : Int) by rw [IntKind.wrap_i64]; omega)) ?_)
                      all_goals (refine al_d rfl rfl rfl (by exact opd_gtr rfl rfl rfl) ?_)
                      all_goals (refine al_d rfl rfl rfl (by exact opd_move rfl rfl) ?_)
                      all_goals (refine al_split (t := 98) rfl (fun h98 => ?_) (fun h98 => ?_))
                      all_goals (try contradiction)
                      all_goals (first | refine al_off rfl rfl rfl rfl rfl ?_ | refine al_ond rfl rfl rfl rfl rfl rfl (by exact opd_move rfl rfl) ?_)
                      all_goals (first | refine al_off rfl rfl rfl rfl rfl ?_ | refine al_ond rfl rfl rfl rfl rfl rfl (by exact opd_eql rfl rfl rfl) ?_)
                      all_goals (refine al_d rfl rfl rfl (by exact (by first | exact opd_pick_t rfl rfl rfl | exact opd_pick_f rfl rfl rfl)) ?_)
                      all_goals (refine al_d rfl rfl rfl (by exact opd_move rfl rfl) ?_)
                      all_goals (refine al_split (t := 102) rfl (fun h102 => ?_) (fun h102 => ?_))
                      all_goals (try contradiction)
                      all_goals (first | refine al_off rfl rfl rfl rfl rfl ?_ | refine al_ond rfl rfl rfl rfl rfl rfl (by exact opd_move rfl rfl) ?_)
                      all_goals (first | refine al_off rfl rfl rfl rfl rfl ?_ | refine al_ond rfl rfl rfl rfl rfl rfl (by exact opd_eql rfl rfl rfl) ?_)
                      all_goals (refine al_d rfl rfl rfl (by exact (by first | exact opd_pick_t rfl rfl rfl | exact opd_pick_f rfl rfl rfl)) ?_)
                      all_goals (refine al_nil ?_)
                      all_goals (exact ⟨⟨_, rfl, by first | (simp_all [pWord]; done) | (simp_all; omega)⟩, rfl, rfl, rfl⟩)
                    refine awp_cond rfl (fun hc10 => ?_) (fun hc10 => ?_)
                    -- cond 10
                    · have hE : gNum s i j = ⟨2, s.extract i j, i, 4⟩ := by rw [gNum, ← h7, hc10]; rfl
                      rw [hE] at hst
                      refine awp_region ?_
                      refine al_d rfl rfl rfl (by exact (by exact opd_field_ref rfl fo101_1 rfl rfl rfl rfl)) ?_
                      refine al_n rfl rfl (by exact (by exact x_store1 rfl Try.sizeOf25 rfl rfl rfl rfl rfl rfl (Nat.le_of_ble_eq_true rfl) rfl rfl)) ?_
                      refine al_nil ?_
                      -- end of the piece
                      exact ⟨(⟨2, s.extract i j, i, 4⟩, j), hst, Ent.get' ⟨⟨_, rfl, rfl⟩, ⟨_, rfl, rfl⟩, ⟨_, rfl, rfl⟩, ⟨_, rfl, rfl⟩, ⟨_, rfl, rfl⟩, trivial⟩ (fun q => get_dups [_] (by simp) q)⟩
                    · have hE : gNum s i j = ⟨2, s.extract i j, i, 0⟩ := by rw [gNum, ← h7, hc10]; rfl
                      rw [hE] at hst
                      refine awp_skip ?_
                      -- end of the piece
                      exact ⟨(⟨2, s.extract i j, i, 0⟩, j), hst, Ent.e0 ⟨⟨_, rfl, rfl⟩, ⟨_, rfl, rfl⟩, ⟨_, rfl, rfl⟩, ⟨_, rfl, rfl⟩, ⟨_, rfl, rfl⟩, trivial⟩⟩
              · have n4 : atC s i ≠ 4 := of_decide_eq_false hc8
                refine awp_seq ?_
                refine awp_region ?_
                refine al_d rfl rfl rfl (by exact opd_eql rfl rfl rfl) ?_
                refine al_d rfl rfl rfl (by exact opd_assign rfl rfl) ?_
                refine al_nil ?_
                refine awp_cond rfl (fun hc11 => ?_) (fun hc11 => ?_)
                -- cond 11
                · have e7 : atC s i = 7 := of_decide_eq_true hc11
                  have hst : gStep s i = (some (gStr s i).1, (gStr s i).2) := by rw [gStep, if_neg n1, if_neg n2, if_neg n3, if_neg n4, if_pos e7]
                  have hexs : (s.extract i s.size).size ≤ s.size - i := by rw [ByteArray.size_extract]; omega
                  have hun := fun H => unquoted_c (s.extract i s.size) H (by omega)
                  have hul := gUnq_len (s.extract i s.size)
                  obtain ⟨u, hu⟩ : ∃ u, u = gUnq (s.extract i s.size) := ⟨_, rfl⟩
                  have hgs : gStr s i = if 0 < u.2 then (⟨3, u.1, i, 0⟩, i + u.2.toNat) else (noTok i, i) := by rw [gStr, ← hu]
                  rw [← hu] at hun hul
                  obtain ⟨ut, un⟩ := u
                  simp only at hun hul hgs
                  refine awp_seq ?_
                  refine awp_region ?_
                  refine al_d rfl rfl rfl (by exact (by exact opd_load1_ref rfl Try.isAgg9 rfl (h1 k) rfl rfl rfl)) ?_
                  refine al_d rfl rfl rfl (by exact opd_move rfl rfl) ?_
                  refine al_d rfl rfl rfl (by exact opd_slice_str (l := i) (h := s.size) rfl Try.underlying9 rfl rfl rfl (by omega) (by omega) rfl) ?_
                  refine al_d rfl rfl rfl (by exact opr_call rfl rfl Try.call75 rfl (hun _)) ?_
                  refine al_d rfl rfl rfl (by exact opd_move rfl rfl) ?_
                  refine al_d rfl rfl rfl (by exact opd_extract rfl rfl rfl) ?_
                  refine al_d rfl rfl rfl (by exact opd_extract rfl rfl rfl) ?_
                  refine al_d rfl rfl rfl (by exact opd_assign rfl rfl) ?_
                  refine al_d rfl rfl rfl (by exact opd_assign rfl rfl) ?_
                  refine al_nil ?_
                  refine awp_seq ?_
                  refine awp_seq ?_
                  refine awp_region ?_
                  refine al_d rfl rfl rfl (by exact opd_move rfl rfl) ?_
                  refine al_d rfl rfl rfl (by exact opd_gtr rfl rfl rfl) ?_
                  refine al_nil ?_
                  refine awp_cond rfl (fun hc12 => ?_) (fun hc12 => ?_)
                  -- cond 12
                  · rw [hgs, if_pos (of_decide_eq_true hc12)] at hst
                    refine awp_region ?_
                    refine al_d rfl rfl rfl (by exact opd_move rfl rfl) ?_
                    refine al_d rfl rfl rfl (by exact (by exact opd_field_ref rfl fo101_0 rfl rfl rfl rfl)) ?_
                    refine al_d rfl rfl rfl (by exact (by exact opd_field_ref rfl fo78_0 rfl rfl rfl rfl)) ?_
                    refine al_n rfl rfl (by exact (by exact x_store1 rfl Try.sizeOf3 rfl rfl rfl rfl rfl rfl (Nat.le_of_ble_eq_true rfl) rfl rfl)) ?_
                    refine al_d rfl rfl rfl (by exact (by exact opd_field_ref rfl fo101_0 rfl rfl rfl rfl)) ?_
                    refine al_d rfl rfl rfl (by exact (by exact opd_field_ref rfl fo78_1 rfl rfl rfl rfl)) ?_
                    refine al_n rfl rfl (by exact (by exact x_store1 rfl Try.sizeOf9 rfl rfl rfl rfl rfl rfl (Nat.le_of_ble_eq_true rfl) rfl rfl)) ?_
                    refine al_d rfl rfl rfl (by exact (by exact opd_field_ref rfl fo101_1 rfl rfl rfl rfl)) ?_
                    refine al_n rfl rfl (by exact (by exact x_store1 rfl Try.sizeOf25 rfl rfl rfl rfl rfl rfl (Nat.le_of_ble_eq_true rfl) rfl rfl)) ?_
                    refine al_nil ?_
                    refine awp_region ?_
                    refine al_d rfl rfl rfl (by exact opd_move rfl rfl) ?_
                    refine al_d rfl rfl rfl (by exact opd_move rfl rfl) ?_
                    refine al_d rfl rfl rfl (by exact opd_add rfl rfl rfl (show IntKind.i64.wrap ((i : Int) + un) = ((i + un.toNat : Nat) : Int) by rw [IntKind.wrap_i64]; omega)) ?_
                    refine al_d rfl rfl rfl (by exact opd_assign rfl rfl) ?_
                    refine al_nil ?_
                    -- end of the piece
                    exact ⟨(⟨3, ut, i, 0⟩, i + un.toNat), hst, Ent.get' ⟨⟨_, rfl, rfl⟩, ⟨_, rfl, rfl⟩, ⟨_, rfl, rfl⟩, ⟨_, rfl, rfl⟩, ⟨_, rfl, rfl⟩, trivial⟩ (fun q => get_dups [_, _, _] (by simp) q)⟩
                  · have hu0 := of_decide_eq_false hc12
                    rw [hgs, if_neg hu0] at hst
                    have e0 : i + un.toNat = i := by omega
                    refine awp_skip ?_
                    refine awp_region ?_
                    refine al_d rfl rfl rfl (by exact opd_move rfl rfl) ?_
                    refine al_d rfl rfl rfl (by exact opd_move rfl rfl) ?_
                    refine al_d rfl rfl rfl (by exact opd_add rfl rfl rfl (show IntKind.i64.wrap ((i : Int) + un) = ((i + un.toNat : Nat) : Int) by rw [IntKind.wrap_i64]; omega)) ?_
                    refine al_d rfl rfl rfl (by exact opd_assign rfl rfl) ?_
                    refine al_nil ?_
                    -- end of the piece
                    rw [e0]
                    exact ⟨(noTok i, i), hst, Ent.e0 ⟨⟨_, rfl, rfl⟩, ⟨_, rfl, rfl⟩, ⟨_, rfl, rfl⟩, ⟨_, rfl, rfl⟩, ⟨_, rfl, rfl⟩, trivial⟩⟩
                · have n7 : atC s i ≠ 7 := of_decide_eq_false hc11
                  refine awp_seq ?_
                  refine awp_region ?_
                  refine al_d rfl rfl rfl (by exact opd_eql rfl rfl rfl) ?_
                  refine al_d rfl rfl rfl (by exact opd_assign rfl rfl) ?_
                  refine al_nil ?_
                  refine awp_cond rfl (fun hc13 => ?_) (fun hc13 => ?_)
                  -- cond 13
                  · have e6 : atC s i = 6 := of_decide_eq_true hc13
                    have hst : gStep s i = (some ⟨4, s.extract i (i + 1), i, 0⟩, i + 1) := by rw [gStep, if_neg n1, if_neg n2, if_neg n3, if_neg n4, if_neg n7, if_pos e6]
                    refine awp_seq ?_
                    refine awp_region ?_
                    refine al_d rfl rfl rfl (by exact opd_move rfl rfl) ?_
                    refine al_d rfl rfl rfl (by exact opd_add rfl rfl rfl (by exact w64 (by omega) (by omega))) ?_
                    refine al_d rfl rfl rfl (by exact opd_assign rfl rfl) ?_
                    refine al_nil ?_
                    refine awp_drawc follows ?_
                    refine dc_cons (r := ⟨_, some [921], []⟩) (DStep.plain rfl (fun H1 hH => by exact (by exact opd_load1_ref rfl Try.isAgg9 rfl ((hH _ rfl).trans (h1 k)) rfl rfl rfl))) rfl ?_
                    refine dc_cons (r := ⟨_, some [], []⟩) (DStep.plain rfl (fun H1 hH => by exact opd_move rfl rfl)) rfl ?_
                    refine dc_cons (r := ⟨_, some [], []⟩) (DStep.plain rfl (fun H1 hH => by exact opd_move rfl rfl)) rfl ?_
                    refine dc_cons (r := ⟨_, some [], []⟩) (DStep.plain rfl (fun H1 hH => by exact opd_slice_str (l := i) (h := (i + 1)) rfl Try.underlying9 rfl rfl rfl (by omega) (by omega) rfl)) rfl ?_
                    refine dc_cons (r := ⟨_, some [926], []⟩) (DStep.plain rfl (fun H1 hH => by exact (by exact opd_field_ref rfl fo101_0 rfl ((hH _ rfl).trans rfl) rfl rfl))) rfl ?_
                    refine dc_cons (r := ⟨_, some [926], []⟩) (DStep.plain rfl (fun H1 hH => by exact (by exact opd_field_ref rfl fo78_0 rfl ((hH _ rfl).trans rfl) rfl rfl))) rfl ?_
                    refine dc_cons (r := ⟨_, some [926], [_]⟩) (DStep.plain rfl (fun H1 hH => by exact (by exact x_store1 rfl Try.sizeOf3 rfl rfl rfl ((hH _ rfl).trans rfl) rfl rfl (Nat.le_of_ble_eq_true rfl) rfl rfl))) rfl ?_
                    refine dc_cons (r := ⟨_, some [926], []⟩) (DStep.plain rfl (fun H1 hH => by exact (by exact opd_field_ref rfl fo101_0 rfl ((hH _ rfl).trans rfl) rfl rfl))) rfl ?_
                    refine dc_cons (r := ⟨_, some [926], []⟩) (DStep.plain rfl (fun H1 hH => by exact (by exact opd_field_ref rfl fo78_1 rfl ((hH _ rfl).trans rfl) rfl rfl))) rfl ?_
                    refine dc_cons (r := ⟨_, some [926], [_]⟩) (DStep.plain rfl (fun H1 hH => by exact (by exact x_store1 rfl Try.sizeOf9 rfl rfl rfl ((hH _ rfl).trans rfl) rfl rfl (Nat.le_of_ble_eq_true rfl) rfl rfl))) rfl ?_
                    refine dc_cons (r := ⟨_, some [926], []⟩) (DStep.plain rfl (fun H1 hH => by exact (by exact opd_field_ref rfl fo101_1 rfl ((hH _ rfl).trans rfl) rfl rfl))) rfl ?_
                    refine dc_cons (r := ⟨_, some [926], [_]⟩) (DStep.plain rfl (fun H1 hH => by exact (by exact x_store1 rfl Try.sizeOf25 rfl rfl rfl ((hH _ rfl).trans rfl) rfl rfl (Nat.le_of_ble_eq_true rfl) rfl rfl))) rfl ?_
                    refine dc_nil ⟨by kernel_rfl, ?_⟩
                    -- end of the piece
                    exact ⟨(⟨4, s.extract i (i + 1), i, 0⟩, i + 1), hst, Ent.get' ⟨⟨_, rfl, rfl⟩, ⟨_, rfl, rfl⟩, ⟨_, rfl, rfl⟩, ⟨_, rfl, rfl⟩, ⟨_, rfl, rfl⟩, trivial⟩ (fun q => get_dups [_, _, _] (by simp) q)⟩
                  · have n6 : atC s i ≠ 6 := of_decide_eq_false hc13
                    have hst : gStep s i = (some (noTok i), i) := by rw [gStep, if_neg n1, if_neg n2, if_neg n3, if_neg n4, if_neg n7, if_neg n6]
                    refine awp_skip ?_
                    -- end of the piece
                    exact ⟨(noTok i, i), hst, Ent.e0 ⟨⟨_, rfl, rfl⟩, ⟨_, rfl, rfl⟩, ⟨_, rfl, rfl⟩, ⟨_, rfl, rfl⟩, ⟨_, rfl, rfl⟩, trivial⟩⟩
      · rintro ⟨f, j⟩ hst
        rw [hst] at hinv
        simp only at hinv hst
        obtain ⟨hk1, hk2⟩ := head_of hinv
        have hkl := (List.getElem?_eq_some_iff.1 hk1).1
        have hkm2 : k < m := by
          rcases Nat.lt_or_ge k m with h | h
          · exact h
          · have hkem : k = m := Nat.le_antisymm hkm h
            subst hkem
            rcases hend with h | ⟨h, h'⟩
            · omega
            · rcases hkc with h2 | h2
              · omega
              · rw [h2] at h'; cases h'
        have hstop : ds.length = k + 1 ∨ cont k = false → k + 1 = m := fun h => by
          rcases h with h | h
          · omega
          · rcases Nat.lt_or_ge (k + 1) m with h3 | h3
            · rw [hall k h3] at h; cases h
            · omega
        have hyk := hy k f hk1 hkm2
        cases hck : cont k with
        | false =>
          have hkk := hstop (.inr hck)
          rw [hck] at hyk
          refine awp_seq ?_
          refine awp_region ?_
          refine al_d rfl rfl rfl (by exact opd_move rfl rfl) ?_
          refine al_d rfl rfl rfl (by exact (by exact opd_loadn_ref rfl Try.isAgg101 Try.sizeOf101 rfl rfl rfl rfl rfl rfl)) ?_
          refine al_d rfl rfl rfl (by exact opr_callV rfl rfl rfl (hyk)) ?_
          refine al_d rfl rfl rfl (by exact opd_not rfl rfl) ?_
          refine al_d rfl rfl rfl (by exact opd_move rfl rfl) ?_
          refine al_off rfl rfl rfl (by rfl) rfl ?_
          refine al_off rfl rfl rfl (by rfl) rfl ?_
          refine al_off rfl rfl rfl (by rfl) rfl ?_
          refine al_d rfl rfl rfl (by exact (by exact opd_pick_t rfl rfl rfl)) ?_
          refine al_nil ?_
          refine awp_cond rfl (fun hc14 => ?_) (fun hc14 => ?_)
          -- cond 14
          · skip
            refine awp_ret ?_
            -- return
            rw [← hkk]
            exact aret0 (H' := Hs (k + 1)) (.inr rfl) rfl (Fin.pops' [(926, tF f)] (by simp) (hcl _) (by simp [h6]) (by simp [h6])) ⟨rfl, rfl⟩
          · skip
            cases hc14
        | true =>
          rw [hck] at hyk
          refine awp_seq ?_
          refine awp_region ?_
          refine al_d rfl rfl rfl (by exact opd_move rfl rfl) ?_
          refine al_d rfl rfl rfl (by exact (by exact opd_loadn_ref rfl Try.isAgg101 Try.sizeOf101 rfl rfl rfl rfl rfl rfl)) ?_
          refine al_d rfl rfl rfl (by exact opr_callV rfl rfl rfl (hyk)) ?_
          refine al_d rfl rfl rfl (by exact opd_not rfl rfl) ?_
          refine al_d rfl rfl rfl (by exact opd_move rfl rfl) ?_
          refine al_ond rfl rfl rfl (by rfl) rfl rfl (by exact (by exact opd_field_ref rfl fo101_1 rfl rfl rfl rfl)) ?_
          refine al_ond rfl rfl rfl (by rfl) rfl rfl (by exact (by exact opd_load1_ref rfl Try.isAgg25 rfl rfl rfl rfl rfl)) ?_
          refine al_ond rfl rfl rfl (by rfl) rfl rfl (by exact opd_neq rfl rfl rfl) ?_
          refine al_d rfl rfl rfl (by exact (by exact opd_pick_f rfl rfl rfl)) ?_
          refine al_nil ?_
          refine awp_cond rfl (fun hc15 => ?_) (fun hc15 => ?_)
          -- cond 15
          · have hne : f.err ≠ 0 := by
              have h := hc15
              simpa using h
            rw [if_neg hne] at hk2
            have hkk := hstop (.inl (by have := List.drop_eq_nil_iff.1 hk2; omega))
            refine awp_ret ?_
            -- return
            rw [← hkk]
            exact aret0 (H' := Hs (k + 1)) (.inr rfl) rfl (Fin.pops' [(926, tF f)] (by simp) (hcl _) (by simp [h6]) (by simp [h6])) ⟨rfl, rfl⟩
          · have he0 : f.err = 0 := by
              have h := hc15
              simpa using h
            obtain ⟨g1, g2⟩ := step_go hst he0 hlt
            rw [if_pos he0] at hk2
            refine awp_skip ?_
            -- end of a round
            exact ⟨j, k + 1, ⟨g2, hkm2, .inr hck, n, by omega, hk2⟩, by omega, hfree _ _ _ _ _ rfl rfl rfl rfl rfl⟩
    · have hge : s.size ≤ i := by have := of_decide_eq_false hc1; omega
      have hnil : gToks s n i = [] := by
        cases n with
        | zero => rfl
        | succ n => rw [gToks, if_neg (by omega)]
      rw [hnil] at hinv
      have hkd := List.drop_eq_nil_iff.1 hinv
      have hkk : k = m := by omega
      refine awp_exit ?_
      -- end of the body
      rw [← hkk]
      exact aret0 (H' := Hs k) (.inl rfl) rfl Fin.refl ⟨rfl, rfl⟩
end Go.Proofs.Ytedfihgkopejcaa
end
section
set_option linter.unusedVariables false
set_option linter.unusedSimpArgs false
set_option maxRecDepth 100000
namespace Go.Proofs.Ytedfihgkopejcaa
open Go.Abs
def encTok (f : GFound) : List PV := [.int .i64 f.kind, .str f.text, .int .i64 f.pos]
def slToks (l : List GFound) : PV := .sl (l.map encTok)
def tkRows (l : List GFound) : List (List AV) := l.map fun f => (encTok f).map AV.pv
theorem tkRows_len (l : List GFound) : (tkRows l).length = l.length := List.length_map _
theorem tkRows_app (l : List GFound) (f : GFound) : tkRows l ++ [(encTok f).map AV.pv] = tkRows (l ++ [f]) := by rw [tkRows, tkRows, List.map_append]; rfl
theorem tkRows_clo (H : Heap) (l : List GFound) : ∀ r ∈ tkRows l, ∀ a ∈ r, Clo H a := by
  intro r hr a ha
  obtain ⟨d, _, rfl⟩ := List.mem_map.1 hr
  obtain ⟨p, _, rfl⟩ := List.mem_map.1 ha
  simp
theorem tA_clo {H : Heap} (h1 : (H.get 921).isSome = true) (h2 : (H.get 923).isSome = true) : ∀ r ∈ tA.rows, ∀ a ∈ r, Clo H a := by
  intro r hr a ha
  simp only [tA, bx, List.mem_singleton] at hr
  subst hr
  rw [List.mem_singleton] at ha
  subst ha
  simp [h1, h2]
theorem tS_clo (H : Heap) (s : ByteArray) : ∀ r ∈ (tS s).rows, ∀ a ∈ r, Clo H a := by
  intro r hr a ha
  simp only [tS, bx, List.mem_singleton] at hr
  subst hr
  rw [List.mem_singleton] at ha
  subst ha
  simp

def lexRun : List GFound → List GFound → List GFound × Int × Int
  | acc, [] => (acc, 0, 0)
  | acc, f :: r => if f.err ≠ 0 then ([], f.err, f.pos) else if acc.length = 5000 then ([], 2, f.pos) else lexRun (acc ++ [f]) r
/-- The tokens of a text, or an error and its place. -/
def gLex (s : ByteArray) : List GFound × Int × Int := if 20000 < s.size then ([], 2, -1) else lexRun [] (gToks s (s.size + 1) 0)
def okAt (ds : List GFound) (k : Nat) : Bool := match ds[k]? with
  | some f => decide (f.err = 0) && !decide (k = 5000)
  | none => true
theorem lexRun_to {ds : List GFound} : ∀ {k : Nat}, k ≤ ds.length → (∀ j, j < k → okAt ds j = true) → lexRun [] ds = lexRun (ds.take k) (ds.drop k)
  | 0, _, _ => rfl
  | k + 1, hk, h => by
    rw [lexRun_to (Nat.le_of_succ_le hk) (fun j hj => h j (by omega))]
    have hd : ds.drop k = ds[k] :: ds.drop (k + 1) := List.drop_eq_getElem_cons hk
    have hok := h k (Nat.lt_succ_self k)
    rw [okAt, List.getElem?_eq_getElem hk] at hok
    simp only [Bool.and_eq_true, decide_eq_true_eq, Bool.not_eq_true', decide_eq_false_iff_not] at hok
    have htl : (ds.take k).length = k := by rw [List.length_take]; omega
    rw [hd, lexRun, if_neg (fun h => h hok.1), if_neg (by rw [htl]; exact hok.2), List.take_add_one, List.getElem?_eq_getElem hk]
    rfl
theorem toks_len (s : ByteArray) : ∀ (n i : Nat), (gToks s n i).length ≤ n
  | 0, _ => Nat.zero_le _
  | n + 1, i => by
    rw [gToks]
    split
    · split
      · exact Nat.le_succ_of_le (toks_len s n _)
      · rw [List.length_cons]
        split
        · exact Nat.succ_le_succ (toks_len s n _)
        · exact Nat.succ_le_succ (Nat.zero_le _)
    · exact Nat.zero_le _
def kL (s : ByteArray) (L : List GFound) (a : AV) (e p : Int) : Heap := [(905, ⟨L.length, 3, 78, tkRows L⟩), (5, bx 1 71 [.osl 905 L.length 0 L.length]), (924, tA), (923, tC), (921, tS s), (4, bx 1 3 [iv p]), (3, bx 1 25 [iv e]), (2, bx 1 71 [a])]
theorem kL_app (s : ByteArray) (L : List GFound) (f : GFound) (a : AV) (e p : Int) : kL s (L ++ [f]) a e p = [(905, ⟨L.length + 1, 3, 78, tkRows (L ++ [f])⟩), (5, bx 1 71 [.osl 905 (L.length + 1) 0 (L.length + 1)]), (924, tA), (923, tC), (921, tS s), (4, bx 1 3 [iv p]), (3, bx 1 25 [iv e]), (2, bx 1 71 [a])] := by simp [kL]
/-- What a range over the tokens keeps of the frame. -/
def lexE : Env := [(2, .ref 2 0 0 0), (3, .ref 3 0 0 0), (4, .ref 4 0 0 0), (5, .ref 5 0 0 0)]
theorem okAt_iff {ds : List GFound} {k : Nat} {f : GFound} (h : ds[k]? = some f) : okAt ds k = (decide (f.err = 0) && !decide (k = 5000)) := by rw [okAt, h]
theorem lex_c (s : ByteArray) (H : Heap) (hs : s.size < 1099511627776) : ACalls Try.prog 43 [sv s] H (fun r H' => r = .tup [.pv (slToks (gLex s).1), iv (gLex s).2.1, iv (gLex s).2.2] ∧ H' = H) := by
  refine ACalls.pure ?_ (by simp) H
  refine ACalls.body Try.func43 rfl Try.ntmps43 (Nat.le_of_ble_eq_true rfl) ?_
  refine awp_seq ?_
  refine awp_region ?_
  refine al_d rfl rfl rfl (by exact x_alloc (id := 2) rfl zo71 rfl rfl) ?_
  refine al_d rfl rfl rfl (by exact x_alloc (id := 3) rfl zo25 rfl rfl) ?_
  refine al_d rfl rfl rfl (by exact x_alloc (id := 4) rfl zo3 rfl rfl) ?_
  refine al_nil ?_
  refine awp_seq ?_
  refine awp_seq ?_
  refine awp_region ?_
  refine al_d rfl rfl rfl (by exact opd_move rfl rfl) ?_
  refine al_d rfl rfl rfl (by exact opd_len_str rfl Try.underlying9 rfl) ?_
  refine al_d rfl rfl rfl (by exact opd_gtr rfl rfl rfl) ?_
  refine al_nil ?_
  refine awp_cond rfl (fun hc1 => ?_) (fun hc1 => ?_)
  -- cond 1
  · have e : gLex s = ([], 2, -1) := by rw [gLex, if_pos (by have := of_decide_eq_true hc1; omega)]
    rw [e]
    refine awp_seq ?_
    refine awp_region ?_
    refine al_n rfl rfl (by exact (by exact x_store_all rfl Try.sizeOf71 rfl rfl rfl rfl rfl rfl rfl rfl)) ?_
    refine al_n rfl rfl (by exact (by exact x_store_all rfl Try.sizeOf25 rfl rfl rfl rfl rfl rfl rfl rfl)) ?_
    refine al_n rfl rfl (by exact (by exact x_store_all rfl Try.sizeOf3 rfl rfl rfl rfl rfl rfl rfl rfl)) ?_
    refine al_nil ?_
    refine awp_ret ?_
    -- return
    refine aret3 (H' := []) (by exact .inr rfl) rfl (rval_cell1 rfl Try.isAgg71 rfl rfl rfl rfl) (rval_cell1 rfl Try.isAgg25 rfl rfl rfl rfl) (rval_cell1 rfl Try.isAgg3 rfl rfl rfl rfl) (Fin.wk (by simp) trivial trivial) ?_
    exact ⟨rfl, rfl⟩
  · have hsz : ¬ 20000 < s.size := by have := of_decide_eq_false hc1; omega
    obtain ⟨ds, hds⟩ : ∃ ds, ds = gToks s (s.size + 1) 0 := ⟨_, rfl⟩
    have hg : gLex s = lexRun [] ds := by rw [gLex, if_neg hsz, hds]
    refine awp_skip ?_
    refine awp_seq ?_
    refine awp_region ?_
    refine al_d rfl rfl rfl (by exact x_alloc (id := 5) rfl zoN71 rfl rfl) ?_
    refine al_nil ?_
    refine awp_seq ?_
    refine awp_seq ?_
    refine awp_region ?_
    refine al_d rfl rfl rfl (by exact opd_move rfl rfl) ?_
    refine al_d rfl rfl rfl (by exact opr_call rfl rfl Try.call60 rfl (tokens_c s _ rfl rfl rfl (Closed.ofL ⟨(by (simp; done)), (by (simp; done)), (by (simp; done)), (by (simp; done)), trivial⟩))) ?_
    refine al_nil ?_
    refine awp_block ?_
    -- range
    refine AWp.ent (E' := [(2, .ref 2 0 0 0), (3, .ref 3 0 0 0), (4, .ref 4 0 0 0), (5, .ref 5 0 0 0), (11, .clo 74 [.ref 921 0 0 0, .ref 924 0 0 0])]) (H' := [(905, ⟨0, 3, 78, []⟩), (5, bx 1 71 [.osl 905 0 0 0]), (924, tA), (923, tC), (921, tS s), (4, bx 1 3 [iv 0]), (3, bx 1 25 [iv 0]), (2, bx 1 71 [.pv (.sl [])])]) ?_ ?_
    · exact (Ent.nz 905 3 78 rfl rfl ⟨⟨_, rfl, (by exact Nz.same (by (simp; rfl)))⟩, ⟨_, rfl, (by exact Nz.same (by (simp; rfl)))⟩, ⟨_, rfl, (by exact Nz.same (by (simp; rfl)))⟩, ⟨_, rfl, (by exact Nz.same (by (simp; rfl)))⟩, ⟨_, rfl, (by exact Nz.same (by (simp; exact ⟨rfl, rfl⟩)))⟩, trivial⟩ ⟨⟨_, rfl, rfl, rfl, rfl, (by exact .inr ⟨_, _, rfl, rfl, (by repeat (first | exact trivial | refine ⟨(by exact Nz.own), ?_⟩))⟩)⟩, ⟨_, rfl, rfl, rfl, rfl, (by exact .inl ⟨rfl, (by exact tA_clo rfl rfl)⟩)⟩, ⟨_, rfl, rfl, rfl, rfl, (by exact .inl ⟨rfl, (by exact clsA_clo _)⟩)⟩, ⟨_, rfl, rfl, rfl, rfl, (by exact .inl ⟨rfl, (by exact tS_clo _ _)⟩)⟩, ⟨_, rfl, rfl, rfl, rfl, (by exact .inl ⟨rfl, (by (simp; done))⟩)⟩, ⟨_, rfl, rfl, rfl, rfl, (by exact .inl ⟨rfl, (by (simp; done))⟩)⟩, ⟨_, rfl, rfl, rfl, rfl, (by exact .inl ⟨rfl, (by (simp; done))⟩)⟩, trivial⟩ trivial)
    · have hdl : ds.length ≤ s.size + 1 := by rw [hds]; exact toks_len s _ _
      obtain ⟨j, hj⟩ : ∃ j, j = scan (okAt ds) ds.length 0 := ⟨_, rfl⟩
      have hj1 : j ≤ ds.length := by have := (scan_le (okAt ds) ds.length 0).2; omega
      have hj2 : ∀ k, k < j → okAt ds k = true := fun k hk => scan_all (okAt ds) ds.length 0 k (Nat.zero_le _) (by rw [← hj]; exact hk)
      have hj3 : j < ds.length → okAt ds j = false := fun h => by have := scan_stop (okAt ds) ds.length 0 (by omega); rwa [← hj] at this
      have hrun := lexRun_to hj1 hj2
      refine awp_range (id := 904) (p := 12) lexE rfl Try.call74 rfl rfl (by simp [lexE]; exact ⟨rfl, rfl, rfl, rfl⟩) ?_
      intro x hx1 hx2 hx3 hx4 hx5 hx6
      have hround : ∀ (k : Nat) (d : GFound), ds[k]? = some d → k ≤ j →
          CallsV Try.prog (.yld 904 0) [.agg ((encFound d).map .pv)] ((904, LR x lexE) :: (926, tF d) :: kL s (ds.take k) (.pv (.sl [])) 0 0) (fun r H' => r = bv (okAt ds k) ∧ H' = (if okAt ds k then (904, LR x lexE) :: (926, tF d) :: kL s (ds.take (k + 1)) (.pv (.sl [])) 0 0 else (904, LR (left x .ret) lexE) :: (926, tF d) :: kL s (ds.take k) (.pv (.sl [])) (if d.err ≠ 0 then d.err else 2) d.pos)) := by
        intro k d hd hkj
        have hok := okAt_iff hd
        have hkl : k < ds.length := (List.getElem?_eq_some_iff.1 hd).1
        have htl : (ds.take k).length = k := by rw [List.length_take]; omega
        have hnx : ds.take (k + 1) = ds.take k ++ [d] := by rw [List.take_add_one, hd]; rfl
        refine .inl ⟨904, 0, rfl, ?_⟩
        refine ycalls [(2, .ref 2 0 0 0), (3, .ref 3 0 0 0), (4, .ref 4 0 0 0), (5, .ref 5 0 0 0), (6, .ref 907 0 0 0)] ((907, tF d) :: (926, tF d) :: kL s (ds.take k) (.pv (.sl [])) 0 0) hx1 hx2 hx3 hx4 hx5 hx6 rfl rfl rfl ?_ ?_
        · skip
          refine awp_region ?_
          refine al_d rfl rfl rfl (by exact x_alloc (id := 907) rfl zo101 rfl rfl) ?_
          refine al_n rfl rfl (by exact (by exact x_store_all rfl Try.sizeOf101 rfl rfl rfl rfl rfl rfl rfl rfl)) ?_
          refine al_nil ?_
          -- end of the piece
          exact (Ent.wk ⟨⟨_, rfl, rfl⟩, (by (simp; rfl)), ⟨_, rfl, rfl⟩, (by (simp; rfl)), ⟨_, rfl, rfl⟩, (by (simp; rfl)), ⟨_, rfl, rfl⟩, (by (simp; rfl)), ⟨_, rfl, rfl⟩, (by (simp; rfl)), trivial⟩ ⟨⟨_, rfl, rfl⟩, (by exact LR_clo (by simp [lexE]; exact ⟨rfl, rfl, rfl, rfl⟩)), ⟨_, rfl, rfl⟩, (by exact tF_clo _ _), ⟨_, rfl, rfl⟩, (by exact tF_clo _ _), ⟨_, rfl, rfl⟩, (by exact tkRows_clo _ _), ⟨_, rfl, rfl⟩, (by (simp; rfl)), ⟨_, rfl, rfl⟩, (by exact tA_clo rfl rfl), ⟨_, rfl, rfl⟩, (by exact clsA_clo _), ⟨_, rfl, rfl⟩, (by exact tS_clo _ _), ⟨_, rfl, rfl⟩, (by (simp; done)), ⟨_, rfl, rfl⟩, (by (simp; done)), ⟨_, rfl, rfl⟩, (by (simp; done)), trivial⟩ ⟨rfl, rfl, rfl, rfl, rfl, rfl, rfl, rfl, rfl, rfl, trivial⟩)
        · skip
          refine awp_block ?_
          refine awp_seq ?_
          refine awp_block ?_
          refine awp_seq ?_
          refine awp_region ?_
          refine al_d rfl rfl rfl (by exact (by exact opd_field_ref rfl fo101_1 rfl rfl rfl rfl)) ?_
          refine al_d rfl rfl rfl (by exact (by exact opd_load1_ref rfl Try.isAgg25 rfl rfl rfl rfl rfl)) ?_
          refine al_d rfl rfl rfl (by exact opd_neq rfl rfl rfl) ?_
          refine al_d rfl rfl rfl (by exact opd_assign rfl rfl) ?_
          refine al_nil ?_
          refine awp_cond rfl (fun hc2 => ?_) (fun hc2 => ?_)
          -- cond 2
          · have he : d.err ≠ 0 := by have h := hc2; rw [Bool.not_eq_true', decide_eq_false_iff_not] at h; exact h
            have h0 : okAt ds k = false := by rw [hok, decide_eq_false he]; rfl
            rw [h0, if_neg (by decide), if_pos he]
            refine awp_seq ?_
            refine awp_drawc follows ?_
            refine dc_cons (r := ⟨_, some [907], []⟩) (DStep.plain rfl (fun H1 hH => by exact (by exact opd_field_ref rfl fo101_1 rfl ((hH _ rfl).trans rfl) rfl rfl))) rfl ?_
            refine dc_cons (r := ⟨_, some [907], []⟩) (DStep.plain rfl (fun H1 hH => by exact (by exact opd_load1_ref rfl Try.isAgg25 rfl ((hH _ rfl).trans rfl) rfl rfl rfl))) rfl ?_
            refine dc_cons (r := ⟨_, some [907], []⟩) (DStep.plain rfl (fun H1 hH => by exact (by exact opd_field_ref rfl fo101_0 rfl ((hH _ rfl).trans rfl) rfl rfl))) rfl ?_
            refine dc_cons (r := ⟨_, some [907], []⟩) (DStep.plain rfl (fun H1 hH => by exact (by exact opd_field_ref rfl fo78_2 rfl ((hH _ rfl).trans rfl) rfl rfl))) rfl ?_
            refine dc_cons (r := ⟨_, some [907], []⟩) (DStep.plain rfl (fun H1 hH => by exact (by exact opd_load1_ref rfl Try.isAgg3 rfl ((hH _ rfl).trans rfl) rfl rfl rfl))) rfl ?_
            refine dc_cons (r := ⟨_, some [2], [_]⟩) (DStep.plain rfl (fun H1 hH => by exact (by exact x_store_all rfl Try.sizeOf71 rfl rfl rfl rfl ((hH _ rfl).trans rfl) rfl rfl rfl))) rfl ?_
            refine dc_cons (r := ⟨_, some [3], [_]⟩) (DStep.plain rfl (fun H1 hH => by exact (by exact x_store_all rfl Try.sizeOf25 rfl rfl rfl rfl ((hH _ rfl).trans rfl) rfl rfl rfl))) rfl ?_
            refine dc_cons (r := ⟨_, some [4], [_]⟩) (DStep.plain rfl (fun H1 hH => by exact (by exact x_store_all rfl Try.sizeOf3 rfl rfl rfl rfl ((hH _ rfl).trans rfl) rfl rfl rfl))) rfl ?_
            refine dc_nil ⟨by kernel_rfl, ?_⟩
            refine awp_ret ?_
            -- return
            exact ⟨(926, tF d) :: kL s (ds.take k) (.pv (.sl [])) d.err d.pos, (Ent.wk trivial ⟨⟨_, rfl, rfl⟩, (by exact LR_clo (by simp [lexE]; exact ⟨rfl, rfl, rfl, rfl⟩)), ⟨_, rfl, rfl⟩, (by exact tF_clo _ _), ⟨_, rfl, rfl⟩, (by exact tkRows_clo _ _), ⟨_, rfl, rfl⟩, (by (simp; rfl)), ⟨_, rfl, rfl⟩, (by exact tA_clo rfl rfl), ⟨_, rfl, rfl⟩, (by exact clsA_clo _), ⟨_, rfl, rfl⟩, (by exact tS_clo _ _), ⟨_, rfl, rfl⟩, (by (simp; done)), ⟨_, rfl, rfl⟩, (by (simp; done)), ⟨_, rfl, rfl⟩, (by (simp; done)), trivial⟩ ⟨rfl, rfl, rfl, rfl, rfl, rfl, rfl, rfl, rfl, rfl, trivial⟩), rfl, rfl⟩
          · have he : d.err = 0 := by have h := hc2; rw [Bool.not_eq_false', decide_eq_true_eq] at h; exact h
            refine awp_seq ?_
            refine awp_region ?_
            refine al_d rfl rfl rfl (by exact (by exact opd_load1_ref rfl Try.isAgg71 rfl rfl rfl rfl rfl)) ?_
            refine al_d rfl rfl rfl (by exact (by exact opd_len_osl rfl Try.underlying71 rfl rfl rfl)) ?_
            refine al_d rfl rfl rfl (by exact opd_eql rfl rfl rfl) ?_
            refine al_d rfl rfl rfl (by exact opd_assign rfl rfl) ?_
            refine al_nil ?_
            refine awp_cond rfl (fun hc3 => ?_) (fun hc3 => ?_)
            -- cond 3
            · have hk5 : k = 5000 := by have := of_decide_eq_true hc3; omega
              have h0 : okAt ds k = false := by rw [hok, decide_eq_true he, decide_eq_true hk5]; rfl
              rw [h0, if_neg (by decide), if_neg (fun h => h he)]
              refine awp_seq ?_
              refine awp_drawc follows ?_
              refine dc_cons (r := ⟨_, some [907], []⟩) (DStep.plain rfl (fun H1 hH => by exact (by exact opd_field_ref rfl fo101_0 rfl ((hH _ rfl).trans rfl) rfl rfl))) rfl ?_
              refine dc_cons (r := ⟨_, some [907], []⟩) (DStep.plain rfl (fun H1 hH => by exact (by exact opd_field_ref rfl fo78_2 rfl ((hH _ rfl).trans rfl) rfl rfl))) rfl ?_
              refine dc_cons (r := ⟨_, some [907], []⟩) (DStep.plain rfl (fun H1 hH => by exact (by exact opd_load1_ref rfl Try.isAgg3 rfl ((hH _ rfl).trans rfl) rfl rfl rfl))) rfl ?_
              refine dc_cons (r := ⟨_, some [2], [_]⟩) (DStep.plain rfl (fun H1 hH => by exact (by exact x_store_all rfl Try.sizeOf71 rfl rfl rfl rfl ((hH _ rfl).trans rfl) rfl rfl rfl))) rfl ?_
              refine dc_cons (r := ⟨_, some [3], [_]⟩) (DStep.plain rfl (fun H1 hH => by exact (by exact x_store_all rfl Try.sizeOf25 rfl rfl rfl rfl ((hH _ rfl).trans rfl) rfl rfl rfl))) rfl ?_
              refine dc_cons (r := ⟨_, some [4], [_]⟩) (DStep.plain rfl (fun H1 hH => by exact (by exact x_store_all rfl Try.sizeOf3 rfl rfl rfl rfl ((hH _ rfl).trans rfl) rfl rfl rfl))) rfl ?_
              refine dc_nil ⟨by kernel_rfl, ?_⟩
              refine awp_ret ?_
              -- return
              exact ⟨(926, tF d) :: kL s (ds.take k) (.pv (.sl [])) 2 d.pos, (Ent.wk trivial ⟨⟨_, rfl, rfl⟩, (by exact LR_clo (by simp [lexE]; exact ⟨rfl, rfl, rfl, rfl⟩)), ⟨_, rfl, rfl⟩, (by exact tF_clo _ _), ⟨_, rfl, rfl⟩, (by exact tkRows_clo _ _), ⟨_, rfl, rfl⟩, (by (simp; rfl)), ⟨_, rfl, rfl⟩, (by exact tA_clo rfl rfl), ⟨_, rfl, rfl⟩, (by exact clsA_clo _), ⟨_, rfl, rfl⟩, (by exact tS_clo _ _), ⟨_, rfl, rfl⟩, (by (simp; done)), ⟨_, rfl, rfl⟩, (by (simp; done)), ⟨_, rfl, rfl⟩, (by (simp; done)), trivial⟩ ⟨rfl, rfl, rfl, rfl, rfl, rfl, rfl, rfl, rfl, rfl, trivial⟩), rfl, rfl⟩
            · have hk5 : ¬ k = 5000 := by have := of_decide_eq_false hc3; omega
              have h0 : okAt ds k = true := by rw [hok, decide_eq_true he, decide_eq_false hk5]; rfl
              rw [h0, if_pos rfl, hnx, kL_app]
              refine awp_skip ?_
              refine awp_region ?_
              refine al_d rfl rfl rfl (by exact (by exact opd_load1_ref rfl Try.isAgg71 rfl rfl rfl rfl rfl)) ?_
              refine al_d rfl rfl rfl (by exact (by exact opd_field_ref rfl fo101_0 rfl rfl rfl rfl)) ?_
              refine al_d rfl rfl rfl (by exact (by exact opd_loadn_ref rfl Try.isAgg78 Try.sizeOf78 rfl rfl rfl rfl rfl rfl)) ?_
              refine al_d rfl rfl rfl (by exact (by exact x_buildSlice [encTok d] rfl so71 rfl rfl rfl rfl rfl (by intro r hr; rw [List.mem_singleton] at hr; subst hr; rfl))) ?_
              refine al_d rfl rfl rfl (by exact x_append (ps := [encTok d]) rfl so71 ei78 rfl rfl rfl rfl rfl (tkRows_len _) rfl (by intro r hr; rw [List.mem_singleton] at hr; subst hr; rfl) (m := 1) rfl (by omega) rfl (tkRows_app (ds.take k) d)) ?_
              refine al_n rfl rfl (by exact (by exact x_store_all rfl Try.sizeOf71 rfl rfl rfl rfl rfl rfl rfl rfl)) ?_
              refine al_nil ?_
              -- end of the piece
              exact ⟨(926, tF d) :: [(905, ⟨(ds.take k).length + 1, 3, 78, tkRows (ds.take k ++ [d])⟩), (5, bx 1 71 [.osl 905 ((ds.take k).length + 1) 0 ((ds.take k).length + 1)]), (924, tA), (923, tC), (921, tS s), (4, bx 1 3 [iv 0]), (3, bx 1 25 [iv 0]), (2, bx 1 71 [.pv (.sl [])])], (Ent.wk trivial ⟨⟨_, rfl, rfl⟩, (by exact LR_clo (by simp [lexE]; exact ⟨rfl, rfl, rfl, rfl⟩)), ⟨_, rfl, rfl⟩, (by exact tF_clo _ _), ⟨_, rfl, rfl⟩, (by exact tkRows_clo _ _), ⟨_, rfl, rfl⟩, (by (simp; rfl)), ⟨_, rfl, rfl⟩, (by exact tA_clo rfl rfl), ⟨_, rfl, rfl⟩, (by exact clsA_clo _), ⟨_, rfl, rfl⟩, (by exact tS_clo _ _), ⟨_, rfl, rfl⟩, (by (simp; done)), ⟨_, rfl, rfl⟩, (by (simp; done)), ⟨_, rfl, rfl⟩, (by (simp; done)), trivial⟩ ⟨rfl, rfl, rfl, rfl, rfl, rfl, rfl, rfl, rfl, rfl, trivial⟩), rfl, rfl⟩
      rcases Nat.lt_or_ge j ds.length with hlt | hge
      · obtain ⟨f, hf⟩ := get_of_lt hlt
        have hbad := hj3 hlt
        have hdj : ds.drop j = f :: ds.drop (j + 1) := by
          rw [List.drop_eq_getElem_cons hlt]
          rw [List.getElem?_eq_getElem hlt] at hf
          cases hf; rfl
        have hres : gLex s = ([], (if f.err ≠ 0 then f.err else 2), (f.pos : Int)) := by
          rw [hg, hrun, hdj, lexRun]
          split
          · rfl
          · rename_i he
            have he0 : f.err = 0 := by
              by_cases h : f.err = 0
              · exact h
              · exact absurd h he
            rw [okAt_iff hf, decide_eq_true he0, Bool.true_and, Bool.not_eq_false', decide_eq_true_eq] at hbad
            rw [if_pos (by rw [List.length_take]; omega)]
        rw [hres]
        refine (tokens2_c s (.yld 904 0) (fun k => if k ≤ j then (904, LR x lexE) :: kL s (ds.take k) (.pv (.sl [])) 0 0 else (904, LR (left x .ret) lexE) :: kL s (ds.take j) (.pv (.sl [])) (if f.err ≠ 0 then f.err else 2) f.pos) (okAt ds) (j + 1) hs (fun k => ?_) (fun k => ?_) (fun k => ?_) (fun k => ?_) (fun k => ?_) (fun k => ?_) (by rw [← hds]; exact hlt) (fun k hk => hj2 k (by omega)) (.inr ⟨Nat.succ_pos _, by rw [Nat.add_sub_cancel]; exact hbad⟩) ?_).mono ?_
        · split <;> rfl
        · split <;> rfl
        · split <;> rfl
        · split <;> rfl
        · split
          · exact (Closed.ofL ⟨(by exact LR_clo (by simp [lexE]; exact ⟨rfl, rfl, rfl, rfl⟩)), (by exact tkRows_clo _ _), (by (simp; rfl)), (by exact tA_clo rfl rfl), (by exact clsA_clo _), (by exact tS_clo _ _), (by (simp; done)), (by (simp; done)), (by (simp; done)), trivial⟩)
          · exact (Closed.ofL ⟨(by exact LR_clo (by simp [lexE]; exact ⟨rfl, rfl, rfl, rfl⟩)), (by exact tkRows_clo _ _), (by (simp; rfl)), (by exact tA_clo rfl rfl), (by exact clsA_clo _), (by exact tS_clo _ _), (by (simp; done)), (by (simp; done)), (by (simp; done)), trivial⟩)
        · split <;> (simp; rfl)
        · rw [← hds]
          intro k d hd hk
          have hr := hround k d hd (by omega)
          rw [if_pos (by omega)]
          by_cases hkj : k = j
          · subst hkj
            rw [hf] at hd
            cases hd
            rw [hbad, if_neg (by decide)] at hr
            rw [if_neg (by omega), hbad]
            exact CallsV.congrG hr (fun j => get_swap (by decide) j) (fun j => get_swap (by decide) j)
          · have hok := hj2 k (by omega)
            rw [hok, if_pos rfl] at hr
            rw [if_pos (by omega), hok]
            exact CallsV.congrG hr (fun j => get_swap (by decide) j) (fun j => get_swap (by decide) j)
        · rintro r H' ⟨rfl, rfl⟩
          rw [if_neg (by omega)]
          refine ⟨left x .ret, _, rfl, by simp [left], rfl, fun z => ?_⟩
          show ARet _ _ _ _ _ _ _
          refine aret3 (H' := []) (by exact .inr rfl) rfl (rval_cell1 rfl Try.isAgg71 rfl rfl rfl rfl) (rval_cell1 rfl Try.isAgg25 rfl rfl rfl rfl) (rval_cell1 rfl Try.isAgg3 rfl rfl rfl rfl) (Fin.wk (by simp) trivial trivial) ?_
          exact ⟨rfl, rfl⟩
      · have hje : j = ds.length := Nat.le_antisymm hj1 hge
        rw [hje, List.take_length, List.drop_length] at hrun
        rw [hg, hrun, lexRun]
        refine (tokens2_c s (.yld 904 0) (fun k => (904, LR x lexE) :: kL s (ds.take k) (.pv (.sl [])) 0 0) (okAt ds) ds.length hs (fun k => rfl) (fun k => rfl) (fun k => rfl) (fun k => rfl) (fun k => (Closed.ofL ⟨(by exact LR_clo (by simp [lexE]; exact ⟨rfl, rfl, rfl, rfl⟩)), (by exact tkRows_clo _ _), (by (simp; rfl)), (by exact tA_clo rfl rfl), (by exact clsA_clo _), (by exact tS_clo _ _), (by (simp; done)), (by (simp; done)), (by (simp; done)), trivial⟩)) (fun k => by simp; rfl) (by rw [← hds]; exact Nat.le_refl _) (fun k hk => hj2 k (by omega)) (.inl (by rw [← hds])) ?_).mono ?_
        · rw [← hds]
          intro k d hd hk
          have hr := hround k d hd (by omega)
          have hok := hj2 k (by omega)
          rw [hok, if_pos rfl] at hr
          rw [hok]
          exact CallsV.congrG hr (fun j => get_swap (by decide) j) (fun j => get_swap (by decide) j)
        · rintro r H' ⟨rfl, rfl⟩
          rw [List.take_length]
          refine ⟨x, _, rfl, by rw [hx1]; decide, rfl, fun z => ?_⟩
          rw [hx2]
          refine awp_seq ?_
          refine awp_region ?_
          refine al_d rfl rfl rfl (by exact (by exact opd_load1_ref rfl Try.isAgg71 rfl rfl rfl rfl rfl)) ?_
          refine al_n rfl rfl (by exact (by exact x_store_all rfl Try.sizeOf71 rfl rfl rfl rfl rfl rfl rfl rfl)) ?_
          refine al_n rfl rfl (by exact (by exact x_store_all rfl Try.sizeOf25 rfl rfl rfl rfl rfl rfl rfl rfl)) ?_
          refine al_n rfl rfl (by exact (by exact x_store_all rfl Try.sizeOf3 rfl rfl rfl rfl rfl rfl rfl rfl)) ?_
          refine al_nil ?_
          refine awp_ret ?_
          -- return
          refine aret3 (H' := []) (by exact .inr rfl) rfl (rval_cell1 rfl Try.isAgg71 rfl rfl rfl rfl) (rval_cell1 rfl Try.isAgg25 rfl rfl rfl rfl) (rval_cell1 rfl Try.isAgg3 rfl rfl rfl rfl) (Fin.fz (r' := .tup [.pv (slToks ds), iv 0, iv 0]) (id := 905) (ob := ⟨ds.length, 3, 78, tkRows ds⟩) (ds.map encTok) rfl (by rw [List.map_map]; rfl) (.tup rfl (fz_cons (.osl (qs := ds.map encTok) (by rw [Nat.zero_add, List.drop_zero]; exact List.take_of_length_le (Nat.le_of_eq (List.length_map encTok)))) (fz_cons (.same (by simp)) (fz_cons (.same (by simp)) fz_nil)))) rfl trivial trivial) ?_
          exact ⟨rfl, rfl⟩
end Go.Proofs.Ytedfihgkopejcaa
end
section
set_option linter.unusedVariables false
set_option linter.unusedSimpArgs false
set_option maxRecDepth 100000
namespace Go.Proofs.Ytedfihgkopejcaa
open Go.Abs
theorem encTok_rl (l : List GFound) : ∀ r ∈ l.map encTok, r.length = 3 := fun r hr => by
  obtain ⟨t, _, rfl⟩ := List.mem_map.1 hr
  rfl

def cS (l : List GFound) : Ob := bx 1 71 [.pv (slToks l)]
def cN : Ob := bx 1 3 [iv 3]
theorem chunk_c (l : List GFound) (H : Heap) (h1 : H.get 931 = none) (h2 : H.get 932 = none) :
    ACalls Try.prog 44 [.pv (slToks l), iv 3] H (fun r H' => r = .clo 61 [.ref 931 0 0 0, .ref 932 0 0 0] ∧ H' = (932, cN) :: (931, cS l) :: H) := by
  have h2' : Heap.get ((931, cS l) :: H) 932 = none := h2
  refine ACalls.body Try.func44 rfl Try.ntmps44 (Nat.le_of_ble_eq_true rfl) ?_
  refine awp_seq ?_
  refine awp_region ?_
  refine al_d rfl rfl rfl (by exact opd_box (id := 931) rfl rfl rfl rfl h1) ?_
  refine al_d rfl rfl rfl (by exact opd_box (id := 932) rfl rfl rfl rfl h2') ?_
  refine al_d rfl rfl rfl (by exact opd_assign rfl rfl) ?_
  refine al_nil ?_
  refine awp_seq ?_
  refine awp_seq ?_
  refine awp_region ?_
  refine al_d rfl rfl rfl (by exact (by exact opd_load1_ref rfl Try.isAgg3 rfl rfl rfl rfl rfl)) ?_
  refine al_d rfl rfl rfl (by exact opd_lss rfl rfl rfl) ?_
  refine al_nil ?_
  refine awp_cond rfl (fun hc1 => ?_) (fun hc1 => ?_)
  -- cond 1
  · skip
    cases hc1
  · skip
    refine awp_skip ?_
    refine awp_seq ?_
    refine awp_region ?_
    refine al_d rfl rfl rfl (by exact opd_makeFunc rfl rfl) ?_
    refine al_d rfl rfl rfl (by exact opd_assign rfl rfl) ?_
    refine al_nil ?_
    refine awp_ret ?_
    -- return
    refine aret1 (H' := ((932, cN) :: (931, cS l) :: H)) (by exact .inr rfl) rfl (rval_tmp rfl) Fin.refl ?_
    exact ⟨rfl, rfl⟩
/-- The k-th piece. -/
def piece (l : List GFound) (k : Nat) : List GFound := (l.drop (3 * k)).take 3
theorem piece_enc {l : List GFound} {k c : Nat} (hc : c = min 3 (l.length - 3 * k)) : ((l.map encTok).drop (3 * k)).take c = (piece l k).map encTok := by
  rw [piece, List.map_take, List.map_drop]
  have hdl : ((l.map encTok).drop (3 * k)).length = l.length - 3 * k := by rw [List.length_drop, List.length_map]
  rcases Nat.le_total 3 (l.length - 3 * k) with h | h
  · rw [hc, Nat.min_eq_left h]
  · rw [hc, Nat.min_eq_right h, List.take_of_length_le (by omega), List.take_of_length_le (by omega)]
theorem min_cast (n : Nat) : min (3 : Int) (n : Int) = ((min 3 n : Nat) : Int) := by
  rcases Nat.le_total 3 n with h | h
  · rw [Nat.min_eq_left h]
    exact Int.min_eq_left (by omega)
  · rw [Nat.min_eq_right h]
    exact Int.min_eq_right (by omega)
theorem chunk1_c (l : List GFound) (fv : AV) (Hs : Nat → Heap) (cont : Nat → Bool) (m : Nat) (hl : l.length < 1099511627776) (h1 : ∀ k, (Hs k).get 931 = some (cS l)) (h2 : ∀ k, (Hs k).get 932 = some cN) (hm : m ≤ (l.length + 2) / 3) (hall : ∀ k, k + 1 < m → cont k = true) (hend : m = (l.length + 2) / 3 ∨ (0 < m ∧ cont (m - 1) = false))
    (hy : ∀ k, 3 * k < l.length → k < m → CallsV Try.prog fv [.pv (slToks (piece l k))] (Hs k) (fun r H' => r = bv (cont k) ∧ H' = Hs (k + 1))) :
    ACalls Try.prog 61 [fv, .ref 931 0 0 0, .ref 932 0 0 0] (Hs 0) (fun r H' => r = .tup [] ∧ H' = Hs m) := by
  have hml : (l.map encTok).length = l.length := List.length_map _
  refine ACalls.body Try.func61 rfl Try.ntmps61 (Nat.le_of_ble_eq_true rfl) ?_
  refine awp_seq ?_
  refine awp_region ?_
  refine al_d rfl rfl rfl (by exact opd_assign rfl rfl) ?_
  refine al_nil ?_
  refine awp_block ?_
  -- loop
  refine awp_loop (σ := Nat) (fun k => ([(0, fv), (1, .ref 931 0 0 0), (2, .ref 932 0 0 0), (4, iv ((3 * k : Nat) : Int))], Hs k)) (fun k => k ≤ m ∧ (k = 0 ∨ cont (k - 1) = true)) (fun k => l.length + 3 - 3 * k) 0 ⟨Nat.zero_le _, .inl rfl⟩ ?_ ?_
  · exact Ent.e0 ⟨⟨_, rfl, rfl⟩, ⟨_, rfl, rfl⟩, ⟨_, rfl, rfl⟩, ⟨_, rfl, rfl⟩, trivial⟩
  · rintro k ⟨hkm, hkc⟩
    refine awp_seq ?_
    refine awp_seq ?_
    refine awp_region ?_
    refine al_d rfl rfl rfl (by exact opd_move rfl rfl) ?_
    refine al_d rfl rfl rfl (by exact (by exact opd_load1_ref rfl Try.isAgg71 rfl (h1 k) rfl rfl rfl)) ?_
    refine al_d rfl rfl rfl (by exact (by exact opd_len_sl rfl Try.underlying71 rfl)) ?_
    refine al_d rfl rfl rfl (by exact opd_lss rfl rfl rfl) ?_
    refine al_nil ?_
    refine awp_cond rfl (fun hc1 => ?_) (fun hc1 => ?_)
    -- cond 1
    · have hlt : 3 * k < l.length := by have := of_decide_eq_true hc1; omega
      have hkm2 : k < m := by
        rcases Nat.lt_or_ge k m with h | h
        · exact h
        · have hkem : k = m := Nat.le_antisymm hkm h
          subst hkem
          rcases hend with h | ⟨h, h'⟩
          · omega
          · rcases hkc with h2 | h2
            · omega
            · rw [h2] at h'; cases h'
      have hyk := hy k hlt hkm2
      obtain ⟨c, hc⟩ : ∃ c, c = min 3 (l.length - 3 * k) := ⟨_, rfl⟩
      have hdl : ((l.map encTok).drop (3 * k)).length = l.length - 3 * k := by rw [List.length_drop, hml]
      refine awp_skip ?_
      refine awp_seq ?_
      refine awp_block ?_
      refine awp_seq ?_
      refine awp_drawc follows ?_
      refine dc_cons (DStep.q rfl (by exact (by exact opd_load1_ref rfl Try.isAgg3 rfl (h2 k) rfl rfl rfl))) rfl ?_
      refine dc_cons (DStep.q rfl (by exact (by exact opd_load1_ref rfl Try.isAgg71 rfl (h1 k) rfl rfl rfl))) rfl ?_
      refine dc_cons (DStep.q rfl (by exact opd_move rfl rfl)) rfl ?_
      refine dc_cons (DStep.q rfl (by exact x_slice_sl (l := 3 * k) (h := (l.map encTok).length) (rows' := (l.map encTok).drop (3 * k)) rfl so71 rfl (encTok_rl l) rfl rfl (by omega) (Nat.le_refl _) (by rw [List.take_length]))) rfl ?_
      refine dc_cons (DStep.q rfl (by exact (by exact opd_len_sl rfl Try.underlying71 rfl))) rfl ?_
      refine dc_cons (DStep.q rfl (by exact opd_min (r := (c : Int)) rfl rfl rfl (by rw [hdl, hc]; exact min_cast _))) rfl ?_
      refine dc_cons (DStep.q rfl (by exact opd_assign rfl rfl)) rfl ?_
      refine dc_nil ⟨by kernel_rfl, ?_⟩
      refine awp_seq ?_
      refine awp_region ?_
      refine al_d rfl rfl rfl (by exact opd_move rfl rfl) ?_
      refine al_d rfl rfl rfl (by exact (by exact opd_load1_ref rfl Try.isAgg71 rfl (h1 k) rfl rfl rfl)) ?_
      refine al_d rfl rfl rfl (by exact opd_move rfl rfl) ?_
      refine al_d rfl rfl rfl (by exact opd_move rfl rfl) ?_
      refine al_d rfl rfl rfl (by exact opd_move rfl rfl) ?_
      refine al_d rfl rfl rfl (by exact opd_add rfl rfl rfl (show IntKind.i64.wrap (((3 * k : Nat) : Int) + (c : Int)) = ((3 * k + c : Nat) : Int) by rw [IntKind.wrap_i64]; omega)) ?_
      refine al_d rfl rfl rfl (by exact opd_move rfl rfl) ?_
      refine al_d rfl rfl rfl (by exact opd_move rfl rfl) ?_
      refine al_d rfl rfl rfl (by exact opd_add rfl rfl rfl (show IntKind.i64.wrap (((3 * k : Nat) : Int) + (c : Int)) = ((3 * k + c : Nat) : Int) by rw [IntKind.wrap_i64]; omega)) ?_
      refine al_d rfl rfl rfl (by exact x_slice3 (l := 3 * k) (h := 3 * k + c) (rows' := (piece l k).map encTok) rfl so71 rfl (encTok_rl l) rfl rfl rfl (by omega) (by omega) (by intro h; rw [List.map_eq_nil_iff] at h; rw [h] at hlt; exact absurd hlt (Nat.not_lt_zero _)) (by rw [List.drop_take, Nat.add_sub_cancel_left]; exact piece_enc hc)) ?_
      refine al_d rfl rfl rfl (by exact opr_callV rfl rfl rfl (hyk)) ?_
      refine al_d rfl rfl rfl (by exact opd_not rfl rfl) ?_
      refine al_nil ?_
      refine awp_cond rfl (fun hc2 => ?_) (fun hc2 => ?_)
      -- cond 2
      · have hck : cont k = false := by have h := hc2; rwa [Bool.not_eq_true'] at h
        have hkk : k + 1 = m := by
          rcases Nat.lt_or_ge (k + 1) m with h3 | h3
          · rw [hall k h3] at hck; cases hck
          · omega
        refine awp_ret ?_
        -- return
        rw [← hkk]
        exact aret0 (H' := Hs (k + 1)) (.inr rfl) rfl Fin.refl ⟨rfl, rfl⟩
      · have hck : cont k = true := by have h := hc2; rwa [Bool.not_eq_false'] at h
        refine awp_skip ?_
        refine awp_region ?_
        refine al_d rfl rfl rfl (by exact opd_move rfl rfl) ?_
        refine al_d rfl rfl rfl (by exact (by exact opd_load1_ref rfl Try.isAgg3 rfl (h2 (k + 1)) rfl rfl rfl)) ?_
        refine al_d rfl rfl rfl (by exact opd_add rfl rfl rfl (show IntKind.i64.wrap (((3 * k : Nat) : Int) + 3) = ((3 * (k + 1) : Nat) : Int) by rw [IntKind.wrap_i64]; omega)) ?_
        refine al_d rfl rfl rfl (by exact opd_assign rfl rfl) ?_
        refine al_nil ?_
        -- end of a round
        exact ⟨k + 1, ⟨hkm2, .inr hck⟩, by omega, Ent.e0 ⟨⟨_, rfl, rfl⟩, ⟨_, rfl, rfl⟩, ⟨_, rfl, rfl⟩, ⟨_, rfl, rfl⟩, trivial⟩⟩
    · have hge : l.length ≤ 3 * k := by have := of_decide_eq_false hc1; omega
      have hkk : k = m := by omega
      refine awp_exit ?_
      -- end of the body
      rw [← hkk]
      exact aret0 (H' := Hs k) (.inl rfl) rfl Fin.refl ⟨rfl, rfl⟩
/-- The tags that tokens spell, three by three. -/
def tagsOf : List GFound → Option (List GTag)
  | [] => some []
  | a :: _ :: c :: r => (tagsOf r).map fun l => ⟨a.text, c.text⟩ :: l
  | _ => none
/-- The tags of a text. -/
def gParse (s : ByteArray) : List GTag × Int := if 20000 < s.size then ([], 2) else match tagsOf (gLex s).1 with
  | none => ([], 5)
  | some l => if (gLex s).2.1 ≠ 0 ∨ (gText l).2 ≠ 0 ∨ (gText l).1 ≠ s then ([], 5) else (l, 0)
def tagAt (l : List GFound) (k : Nat) : GTag := ⟨((l[3 * k]?).map GFound.text).getD sNil, ((l[3 * k + 2]?).map GFound.text).getD sNil⟩
/-- The first tags. -/
def firstTags (l : List GFound) (k : Nat) : List GTag := (List.range k).map (tagAt l)
theorem firstTags_next (l : List GFound) (k : Nat) : firstTags l (k + 1) = firstTags l k ++ [tagAt l k] := by rw [firstTags, List.range_succ, List.map_append]; rfl
theorem firstTags_len (l : List GFound) (k : Nat) : (firstTags l k).length = k := by rw [firstTags, List.length_map, List.length_range]
theorem tagsOf_eq : ∀ (l : List GFound), tagsOf l = if l.length % 3 = 0 then some (firstTags l (l.length / 3)) else none
  | [] => rfl
  | [a] => rfl
  | [a, b] => rfl
  | a :: b :: c :: r => by
    rw [tagsOf, tagsOf_eq r]
    have h1 : (a :: b :: c :: r).length = r.length + 3 := rfl
    rw [h1, Nat.add_mod_right, Nat.add_div_right _ (by decide)]
    split
    · rw [Option.map_some, firstTags, firstTags, List.range_succ_eq_map, List.map_cons, List.map_map]
      congr 2
    · rfl
def tgRows (l : List GTag) : List (List AV) := l.map fun t => (encTag t).map AV.pv
theorem tgRows_len (l : List GTag) : (tgRows l).length = l.length := List.length_map _
theorem tgRows_app (l : List GTag) (t : GTag) : tgRows l ++ [(encTag t).map AV.pv] = tgRows (l ++ [t]) := by rw [tgRows, tgRows, List.map_append]; rfl
def pK (T : List GFound) (L : List GTag) (a : AV) (e : Int) : Heap := [(905, ⟨L.length, 2, 46, tgRows L⟩), (7, bx 1 22 [.osl 905 L.length 0 L.length]), (932, cN), (931, cS T), (3, bx 1 25 [iv e]), (2, bx 1 22 [a])]
theorem pK_app (T : List GFound) (L : List GTag) (t : GTag) (a : AV) (e : Int) : pK T (L ++ [t]) a e = [(905, ⟨L.length + 1, 2, 46, tgRows (L ++ [t])⟩), (7, bx 1 22 [.osl 905 (L.length + 1) 0 (L.length + 1)]), (932, cN), (931, cS T), (3, bx 1 25 [iv e]), (2, bx 1 22 [a])] := by simp [pK]
theorem tgRows_clo (H : Heap) (l : List GTag) : ∀ r ∈ tgRows l, ∀ a ∈ r, Clo H a := by
  intro r hr a ha
  obtain ⟨d, _, rfl⟩ := List.mem_map.1 hr
  obtain ⟨p, _, rfl⟩ := List.mem_map.1 ha
  simp
theorem cS_clo (H : Heap) (l : List GFound) : ∀ r ∈ (cS l).rows, ∀ a ∈ r, Clo H a := by
  intro r hr a ha
  simp only [cS, bx, List.mem_singleton] at hr
  subst hr
  rw [List.mem_singleton] at ha
  subst ha
  simp
theorem cN_clo (H : Heap) : ∀ r ∈ cN.rows, ∀ a ∈ r, Clo H a := by
  intro r hr a ha
  simp only [cN, bx, List.mem_singleton] at hr
  subst hr
  rw [List.mem_singleton] at ha
  subst ha
  simp
def parE : Env := [(2, .ref 2 0 0 0), (3, .ref 3 0 0 0), (7, .ref 7 0 0 0)]
theorem piece_full {l : List GFound} {k : Nat} (h : 3 * k + 3 ≤ l.length) : ∃ a b c, piece l k = [a, b, c] ∧ tagAt l k = ⟨a.text, c.text⟩ := by
  have h0 : 3 * k < l.length := by omega
  have h1 : 3 * k + 1 < l.length := by omega
  have h2 : 3 * k + 2 < l.length := by omega
  refine ⟨l[3 * k], l[3 * k + 1], l[3 * k + 2], ?_, ?_⟩
  · rw [piece, List.drop_eq_getElem_cons h0, List.drop_eq_getElem_cons h1, List.drop_eq_getElem_cons h2]
    rfl
  · rw [tagAt, List.getElem?_eq_getElem h0, List.getElem?_eq_getElem h2]
    rfl
theorem piece_len (l : List GFound) (k : Nat) : (piece l k).length = min 3 (l.length - 3 * k) := by rw [piece, List.length_take, List.length_drop]
theorem lexRun_len : ∀ (r acc : List GFound), (lexRun acc r).1.length ≤ acc.length + r.length
  | [], acc => Nat.le_refl _
  | f :: r, acc => by
    rw [lexRun]
    split
    · exact Nat.zero_le _
    · split
      · exact Nat.zero_le _
      · have := lexRun_len r (acc ++ [f])
        rw [List.length_append, List.length_singleton] at this
        rw [List.length_cons]
        omega
theorem lex_toks_len (s : ByteArray) (h : s.size < 1099511627776) : (gLex s).1.length < 549755813888 := by
  unfold gLex
  split
  · decide
  · have h1 := lexRun_len (gToks s (s.size + 1) 0) []
    have h2 := toks_len s (s.size + 1) 0
    rw [List.length_nil] at h1
    omega
theorem parse_c (s : ByteArray) (H : Heap) (hs : s.size < 1099511627776) (hN : ∀ l, tagsOf (gLex s).1 = some l → okTags l) : ACalls Try.prog 17 [sv s] H (fun r H' => r = .tup [.pv (slTags (gParse s).1), iv (gParse s).2] ∧ H' = H) := by
  refine ACalls.pure ?_ (by simp) H
  refine ACalls.body Try.func17 rfl Try.ntmps17 (Nat.le_of_ble_eq_true rfl) ?_
  refine awp_seq ?_
  refine awp_region ?_
  refine al_d rfl rfl rfl (by exact x_alloc (id := 2) rfl zo22 rfl rfl) ?_
  refine al_d rfl rfl rfl (by exact x_alloc (id := 3) rfl zo25 rfl rfl) ?_
  refine al_nil ?_
  refine awp_seq ?_
  refine awp_seq ?_
  refine awp_region ?_
  refine al_d rfl rfl rfl (by exact opd_move rfl rfl) ?_
  refine al_d rfl rfl rfl (by exact opd_len_str rfl Try.underlying9 rfl) ?_
  refine al_d rfl rfl rfl (by exact opd_gtr rfl rfl rfl) ?_
  refine al_nil ?_
  refine awp_cond rfl (fun hc1 => ?_) (fun hc1 => ?_)
  -- cond 1
  · have e : gParse s = ([], 2) := by rw [gParse, if_pos (by have := of_decide_eq_true hc1; omega)]
    rw [e]
    refine awp_seq ?_
    refine awp_region ?_
    refine al_n rfl rfl (by exact (by exact x_store_all rfl Try.sizeOf22 rfl rfl rfl rfl rfl rfl rfl rfl)) ?_
    refine al_n rfl rfl (by exact (by exact x_store_all rfl Try.sizeOf25 rfl rfl rfl rfl rfl rfl rfl rfl)) ?_
    refine al_nil ?_
    refine awp_ret ?_
    -- return
    refine aret2 (H' := []) (by exact .inr rfl) rfl (rval_cell1 rfl Try.isAgg22 rfl rfl rfl rfl) (rval_cell1 rfl Try.isAgg25 rfl rfl rfl rfl) (Fin.wk (by simp) trivial trivial) ?_
    exact ⟨rfl, rfl⟩
  · have hsz : ¬ 20000 < s.size := by have := of_decide_eq_false hc1; omega
    have hTl := lex_toks_len s hs
    have hpar : gParse s = match tagsOf (gLex s).1 with
      | none => ([], 5)
      | some l => if (gLex s).2.1 ≠ 0 ∨ (gText l).2 ≠ 0 ∨ (gText l).1 ≠ s then ([], 5) else (l, 0) := by rw [gParse, if_neg hsz]
    obtain ⟨g, hg⟩ : ∃ g, g = gLex s := ⟨_, rfl⟩
    rw [← hg] at hpar hTl hN
    obtain ⟨T, e, ep⟩ := g
    simp only at hpar hTl hN
    have hTe : (gLex s).1 = T ∧ (gLex s).2.1 = e ∧ (gLex s).2.2 = ep := by rw [← hg]; exact ⟨rfl, rfl, rfl⟩
    have hlx := fun H => lex_c s H hs
    rw [hTe.1, hTe.2.1, hTe.2.2] at hlx
    obtain ⟨res, hres⟩ : ∃ res, res = gParse s := ⟨_, rfl⟩
    rw [← hres] at hpar ⊢
    clear hTe hg
    refine awp_skip ?_
    refine awp_seq ?_
    refine awp_region ?_
    refine al_d rfl rfl rfl (by exact opd_move rfl rfl) ?_
    refine al_d rfl rfl rfl (by exact opr_call rfl rfl Try.call43 rfl (hlx _)) ?_
    refine al_d rfl rfl rfl (by exact opd_move rfl rfl) ?_
    refine al_d rfl rfl rfl (by exact opd_extract rfl rfl rfl) ?_
    refine al_d rfl rfl rfl (by exact opd_extract rfl rfl rfl) ?_
    refine al_d rfl rfl rfl (by exact opd_extract rfl rfl rfl) ?_
    refine al_d rfl rfl rfl (by exact opd_assign rfl rfl) ?_
    refine al_d rfl rfl rfl (by exact opd_assign rfl rfl) ?_
    refine al_d rfl rfl rfl (by exact opd_assign rfl rfl) ?_
    refine al_nil ?_
    refine awp_seq ?_
    refine awp_region ?_
    refine al_d rfl rfl rfl (by exact x_alloc (id := 7) rfl zoN22 rfl rfl) ?_
    refine al_nil ?_
    refine awp_seq ?_
    refine awp_seq ?_
    refine awp_region ?_
    refine al_d rfl rfl rfl (by exact opd_move rfl rfl) ?_
    refine al_d rfl rfl rfl (by exact opr_call rfl rfl Try.call44 rfl (chunk_c T _ rfl rfl)) ?_
    refine al_nil ?_
    refine awp_block ?_
    -- range
    refine AWp.ent (E' := [(0, sv s), (2, .ref 2 0 0 0), (3, .ref 3 0 0 0), (5, iv e), (7, .ref 7 0 0 0), (21, .clo 61 [.ref 931 0 0 0, .ref 932 0 0 0])]) (H' := [(905, ⟨0, 2, 46, []⟩), (7, bx 1 22 [.osl 905 0 0 0]), (932, cN), (931, cS T), (3, bx 1 25 [iv 0]), (2, bx 1 22 [.pv (.sl [])])]) ?_ ?_
    · exact (Ent.nz 905 2 46 rfl rfl ⟨⟨_, rfl, (by exact Nz.same (by (simp; done)))⟩, ⟨_, rfl, (by exact Nz.same (by (simp; rfl)))⟩, ⟨_, rfl, (by exact Nz.same (by (simp; rfl)))⟩, ⟨_, rfl, (by exact Nz.same (by (simp; done)))⟩, ⟨_, rfl, (by exact Nz.same (by (simp; rfl)))⟩, ⟨_, rfl, (by exact Nz.same (by (simp; exact ⟨rfl, rfl⟩)))⟩, trivial⟩ ⟨⟨_, rfl, rfl, rfl, rfl, (by exact .inr ⟨_, _, rfl, rfl, (by repeat (first | exact trivial | refine ⟨(by exact Nz.own), ?_⟩))⟩)⟩, ⟨_, rfl, rfl, rfl, rfl, (by exact .inl ⟨rfl, (by exact cN_clo _)⟩)⟩, ⟨_, rfl, rfl, rfl, rfl, (by exact .inl ⟨rfl, (by exact cS_clo _ _)⟩)⟩, ⟨_, rfl, rfl, rfl, rfl, (by exact .inl ⟨rfl, (by (simp; done))⟩)⟩, ⟨_, rfl, rfl, rfl, rfl, (by exact .inl ⟨rfl, (by (simp; done))⟩)⟩, trivial⟩ trivial)
    · refine awp_range (id := 904) (p := 22) parE rfl Try.call61 rfl rfl (by simp [parE]; exact ⟨rfl, rfl, rfl⟩) ?_
      intro x hx1 hx2 hx3 hx4 hx5 hx6
      have hround : ∀ (k : Nat), 3 * k < T.length →
          CallsV Try.prog (.yld 904 0) [.pv (slToks (piece T k))] ((904, LR x parE) :: pK T (firstTags T k) (.pv (.sl [])) 0) (fun r H' => r = bv (decide (3 * k + 3 ≤ T.length)) ∧ H' = (if 3 * k + 3 ≤ T.length then (904, LR x parE) :: pK T (firstTags T (k + 1)) (.pv (.sl [])) 0 else (904, LR (left x .ret) parE) :: pK T (firstTags T k) (.pv (.sl [])) 5)) := by
        intro k hk
        have hpl := piece_len T k
        refine .inl ⟨904, 0, rfl, ?_⟩
        refine ycalls [(2, .ref 2 0 0 0), (3, .ref 3 0 0 0), (7, .ref 7 0 0 0), (8, .pv (slToks (piece T k)))] (pK T (firstTags T k) (.pv (.sl [])) 0) hx1 hx2 hx3 hx4 hx5 hx6 rfl rfl rfl ?_ ?_
        · skip
          refine awp_region ?_
          refine al_d rfl rfl rfl (by exact opd_assign rfl rfl) ?_
          refine al_nil ?_
          -- end of the piece
          exact (Ent.wk ⟨⟨_, rfl, rfl⟩, (by (simp; rfl)), ⟨_, rfl, rfl⟩, (by (simp; rfl)), ⟨_, rfl, rfl⟩, (by (simp; rfl)), ⟨_, rfl, rfl⟩, (by (simp; done)), trivial⟩ ⟨⟨_, rfl, rfl⟩, (by exact LR_clo (by simp [parE]; exact ⟨rfl, rfl, rfl⟩)), ⟨_, rfl, rfl⟩, (by exact tgRows_clo _ _), ⟨_, rfl, rfl⟩, (by (simp; rfl)), ⟨_, rfl, rfl⟩, (by exact cN_clo _), ⟨_, rfl, rfl⟩, (by exact cS_clo _ _), ⟨_, rfl, rfl⟩, (by (simp; done)), ⟨_, rfl, rfl⟩, (by (simp; done)), trivial⟩ ⟨rfl, rfl, rfl, rfl, rfl, rfl, rfl, trivial⟩)
        · skip
          refine awp_block ?_
          refine awp_seq ?_
          refine awp_seq ?_
          refine awp_region ?_
          refine al_d rfl rfl rfl (by exact opd_move rfl rfl) ?_
          refine al_d rfl rfl rfl (by exact (by exact opd_len_sl rfl Try.underlying71 rfl)) ?_
          refine al_d rfl rfl rfl (by exact opd_lss rfl rfl rfl) ?_
          refine al_nil ?_
          refine awp_cond rfl (fun hc2 => ?_) (fun hc2 => ?_)
          -- cond 2
          · have h3 : ¬ 3 * k + 3 ≤ T.length := by have h := of_decide_eq_true hc2; rw [List.length_map, hpl] at h; omega
            rw [decide_eq_false h3, if_neg h3]
            refine awp_seq ?_
            refine awp_region ?_
            refine al_n rfl rfl (by exact (by exact x_store_all rfl Try.sizeOf22 rfl rfl rfl rfl rfl rfl rfl rfl)) ?_
            refine al_n rfl rfl (by exact (by exact x_store_all rfl Try.sizeOf25 rfl rfl rfl rfl rfl rfl rfl rfl)) ?_
            refine al_nil ?_
            refine awp_ret ?_
            -- return
            exact ⟨pK T (firstTags T k) (.pv (.sl [])) 5, (Ent.wk trivial ⟨⟨_, rfl, rfl⟩, (by exact LR_clo (by simp [parE]; exact ⟨rfl, rfl, rfl⟩)), ⟨_, rfl, rfl⟩, (by exact tgRows_clo _ _), ⟨_, rfl, rfl⟩, (by (simp; rfl)), ⟨_, rfl, rfl⟩, (by exact cN_clo _), ⟨_, rfl, rfl⟩, (by exact cS_clo _ _), ⟨_, rfl, rfl⟩, (by (simp; done)), ⟨_, rfl, rfl⟩, (by (simp; done)), trivial⟩ ⟨rfl, rfl, rfl, rfl, rfl, rfl, rfl, trivial⟩), rfl, rfl⟩
          · have h3 : 3 * k + 3 ≤ T.length := by have h := of_decide_eq_false hc2; rw [List.length_map, hpl] at h; omega
            rw [decide_eq_true h3, if_pos h3, firstTags_next, pK_app]
            obtain ⟨a, b, c, hp, ht⟩ := piece_full h3
            have hi0 : ((piece T k).map encTok)[0]? = some (encTok a) := by rw [hp]; rfl
            have hi2 : ((piece T k).map encTok)[2]? = some (encTok c) := by rw [hp]; rfl
            have hfl := firstTags_len T k
            rw [ht]
            refine awp_skip ?_
            refine awp_drawc follows ?_
            refine dc_cons (r := ⟨_, some [7], []⟩) (DStep.plain rfl (fun H1 hH => by exact (by exact opd_load1_ref rfl Try.isAgg22 rfl ((hH _ rfl).trans rfl) rfl rfl rfl))) rfl ?_
            refine dc_cons (r := ⟨_, some [], []⟩) (DStep.plain rfl (fun H1 hH => by exact opd_move rfl rfl)) rfl ?_
            refine dc_cons (r := ⟨_, some [], []⟩) (DStep.plain rfl (fun H1 hH => by exact (by exact x_index_pad rfl so71 rfl rfl (by omega) (by exact Int.toNat_natCast _) hi0 rfl))) rfl ?_
            refine dc_cons (r := ⟨_, some [], []⟩) (DStep.plain rfl (fun H1 hH => by exact (by exact opd_field_pad rfl fo78_1 rfl rfl))) rfl ?_
            refine dc_cons (r := ⟨_, some [], []⟩) (DStep.plain rfl (fun H1 hH => by exact (by exact opd_load1_pad rfl Try.isAgg9 rfl hi0 rfl))) rfl ?_
            refine dc_cons (r := ⟨_, some [], []⟩) (DStep.plain rfl (fun H1 hH => by exact opd_move rfl rfl)) rfl ?_
            refine dc_cons (r := ⟨_, some [], []⟩) (DStep.plain rfl (fun H1 hH => by exact (by exact x_index_pad rfl so71 rfl rfl (by omega) (by exact Int.toNat_natCast _) hi2 rfl))) rfl ?_
            refine dc_cons (r := ⟨_, some [], []⟩) (DStep.plain rfl (fun H1 hH => by exact (by exact opd_field_pad rfl fo78_1 rfl rfl))) rfl ?_
            refine dc_cons (r := ⟨_, some [], []⟩) (DStep.plain rfl (fun H1 hH => by exact (by exact opd_load1_pad rfl Try.isAgg9 rfl hi2 rfl))) rfl ?_
            refine dc_cons (r := ⟨_, some [], []⟩) (DStep.plain rfl (fun H1 hH => by exact x_build rfl bo46 rfl rfl)) rfl ?_
            refine dc_cons (r := ⟨_, some [], []⟩) (DStep.plain rfl (fun H1 hH => by exact (by exact x_buildSlice [encTag ⟨a.text, c.text⟩] rfl so22 rfl rfl rfl rfl rfl (by intro r hr; rw [List.mem_singleton] at hr; subst hr; rfl)))) rfl ?_
            refine dc_cons (r := ⟨_, some [905], [_]⟩) (DStep.plain rfl (fun H1 hH => by exact x_append (ps := [encTag ⟨a.text, c.text⟩]) rfl so22 ei46 rfl ((hH _ rfl).trans rfl) rfl rfl rfl (tgRows_len _) rfl (by intro r hr; rw [List.mem_singleton] at hr; subst hr; rfl) (m := 1) rfl (by omega) rfl (tgRows_app (firstTags T k) ⟨a.text, c.text⟩))) rfl ?_
            refine dc_cons (r := ⟨_, some [7], [_]⟩) (DStep.plain rfl (fun H1 hH => by exact (by exact x_store_all rfl Try.sizeOf22 rfl rfl rfl rfl ((hH _ rfl).trans rfl) rfl rfl rfl))) rfl ?_
            refine dc_nil ⟨by kernel_rfl, ?_⟩
            -- end of the piece
            exact ⟨[(905, ⟨(firstTags T k).length + 1, 2, 46, tgRows (firstTags T k ++ [⟨a.text, c.text⟩])⟩), (7, bx 1 22 [.osl 905 ((firstTags T k).length + 1) 0 ((firstTags T k).length + 1)]), (932, cN), (931, cS T), (3, bx 1 25 [iv 0]), (2, bx 1 22 [.pv (.sl [])])], (Ent.wk trivial ⟨⟨_, rfl, rfl⟩, (by exact LR_clo (by simp [parE]; exact ⟨rfl, rfl, rfl⟩)), ⟨_, rfl, rfl⟩, (by exact tgRows_clo _ _), ⟨_, rfl, rfl⟩, (by (simp; rfl)), ⟨_, rfl, rfl⟩, (by exact cN_clo _), ⟨_, rfl, rfl⟩, (by exact cS_clo _ _), ⟨_, rfl, rfl⟩, (by (simp; done)), ⟨_, rfl, rfl⟩, (by (simp; done)), trivial⟩ ⟨rfl, rfl, rfl, rfl, rfl, rfl, rfl, trivial⟩), rfl, rfl⟩
      by_cases h0 : T.length % 3 = 0
      · have hto : tagsOf T = some (firstTags T (T.length / 3)) := by rw [tagsOf_eq, if_pos h0]
        have hok := hN _ hto
        rw [hto] at hpar
        refine (chunk1_c T (.yld 904 0) (fun k => (904, LR x parE) :: pK T (firstTags T k) (.pv (.sl [])) 0) (fun _ => true) (T.length / 3) (by omega) (fun k => rfl) (fun k => rfl) (by omega) (fun k hk => rfl) (.inl (by omega)) ?_).mono ?_
        · intro k hk _
          have hr := hround k hk
          have h3 : 3 * k + 3 ≤ T.length := by omega
          rw [decide_eq_true h3, if_pos h3] at hr
          exact hr
        · rintro r H' ⟨rfl, rfl⟩
          obtain ⟨out, hout⟩ : ∃ out, out = firstTags T (T.length / 3) := ⟨_, rfl⟩
          rw [← hout] at hpar hok ⊢
          refine ⟨x, _, rfl, by rw [hx1]; decide, rfl, fun z => ?_⟩
          rw [hx2]
          have hol : (out.map encTag).length = out.length := List.length_map _
          have hgt := tagText_c out [(7, bx 1 22 [.pv (slTags out)]), (3, bx 1 25 [iv 0]), (2, bx 1 22 [.pv (.sl [])])] hok
          have hpar : res = (if e ≠ 0 ∨ (gText out).2 ≠ 0 ∨ (gText out).1 ≠ s then ([], 5) else (out, 0)) := hpar
          generalize gText out = go at hpar hgt
          obtain ⟨own, f⟩ := go
          simp only at hpar hgt
          refine AWp.ent (Ent.fzG (id := 905) (E' := [(0, sv s), (2, .ref 2 0 0 0), (3, .ref 3 0 0 0), (5, iv e), (7, .ref 7 0 0 0)]) (H' := [(7, bx 1 22 [.pv (slTags out)]), (3, bx 1 25 [iv 0]), (2, bx 1 22 [.pv (.sl [])])]) (out.map encTag) rfl (by rw [List.map_map]; rfl) ?_ rfl ?_ ?_) ?_
          · intro p hp
            simp only [List.mem_cons, List.not_mem_nil, or_false] at hp
            rcases hp with rfl | rfl | rfl | rfl | rfl
            · exact ⟨_, rfl, .same (by simp)⟩
            · exact ⟨_, rfl, .same (by simp; rfl)⟩
            · exact ⟨_, rfl, .same (by simp; rfl)⟩
            · exact ⟨_, rfl, .same (by simp)⟩
            · exact ⟨_, rfl, .same (by simp; rfl)⟩
          · refine ⟨⟨_, rfl, rfl, rfl, rfl, fzr_one rfl (fz_cons (.osl ?_) fz_nil)⟩, ⟨_, rfl, rfl, rfl, rfl, fzr_same (by simp)⟩, ⟨_, rfl, rfl, rfl, rfl, fzr_same (by simp)⟩, trivial⟩
            rw [Nat.zero_add, List.drop_zero, ← hol, List.take_length]
          · exact trivial
          · skip
            refine awp_seq ?_
            refine awp_seq ?_
            refine awp_region ?_
            refine al_d rfl rfl rfl (by exact (by exact opd_load1_ref rfl Try.isAgg22 rfl rfl rfl rfl rfl)) ?_
            refine al_d rfl rfl rfl (by exact opr_call rfl rfl Try.call15 rfl (hgt)) ?_
            refine al_d rfl rfl rfl (by exact opd_move rfl rfl) ?_
            refine al_d rfl rfl rfl (by exact opd_extract rfl rfl rfl) ?_
            refine al_d rfl rfl rfl (by exact opd_extract rfl rfl rfl) ?_
            refine al_d rfl rfl rfl (by exact opd_assign rfl rfl) ?_
            refine al_d rfl rfl rfl (by exact opd_assign rfl rfl) ?_
            refine al_nil ?_
            refine awp_seq ?_
            refine awp_bool (t := 53) (n := 13) (X := (!decide (e = 0) || !decide (f = 0)) || !decide (own = s)) ?_ ?_
            · all_goals (refine al_d rfl rfl rfl (by exact opd_move rfl rfl) ?_)
              all_goals (refine al_d rfl rfl rfl (by exact opd_neq rfl rfl rfl) ?_)
              all_goals (refine al_d rfl rfl rfl (by exact opd_move rfl rfl) ?_)
              all_goals (refine al_split (t := 45) rfl (fun h45 => ?_) (fun h45 => ?_))
              all_goals (try contradiction)
              all_goals (first | refine al_off rfl rfl rfl rfl rfl ?_ | refine al_ond rfl rfl rfl rfl rfl rfl (by exact opd_move rfl rfl) ?_)
              all_goals (first | refine al_off rfl rfl rfl rfl rfl ?_ | refine al_ond rfl rfl rfl rfl rfl rfl (by exact opd_neq rfl rfl rfl) ?_)
              all_goals (refine al_d rfl rfl rfl (by exact (by first | exact opd_pick_t rfl rfl rfl | exact opd_pick_f rfl rfl rfl)) ?_)
              all_goals (refine al_d rfl rfl rfl (by exact opd_move rfl rfl) ?_)
              all_goals (refine al_split (t := 49) rfl (fun h49 => ?_) (fun h49 => ?_))
              all_goals (try contradiction)
              all_goals (first | refine al_off rfl rfl rfl rfl rfl ?_ | refine al_ond rfl rfl rfl rfl rfl rfl (by exact opd_move rfl rfl) ?_)
              all_goals (first | refine al_off rfl rfl rfl rfl rfl ?_ | refine al_ond rfl rfl rfl rfl rfl rfl (by exact opd_move rfl rfl) ?_)
              all_goals (first | refine al_off rfl rfl rfl rfl rfl ?_ | refine al_ond rfl rfl rfl rfl rfl rfl (by exact opd_sneq rfl rfl rfl) ?_)
              all_goals (refine al_d rfl rfl rfl (by exact (by first | exact opd_pick_t rfl rfl rfl | exact opd_pick_f rfl rfl rfl)) ?_)
              all_goals (refine al_nil ?_)
              all_goals (exact ⟨⟨_, rfl, by (simp only [*, Bool.false_and, Bool.true_and, Bool.and_false, Bool.and_true, Bool.true_or, Bool.false_or, Bool.or_true, Bool.or_false, Bool.not_true, Bool.not_false]; done)⟩, rfl, rfl, rfl⟩)
            refine awp_cond rfl (fun hc3 => ?_) (fun hc3 => ?_)
            -- cond 3
            · have h := hc3
              have hr : res = ([], 5) := by
                rw [hpar, if_pos]
                simp only [Bool.or_eq_true, Bool.not_eq_true', decide_eq_false_iff_not] at h
                rcases h with (h | h) | h
                · exact .inl h
                · exact .inr (.inl h)
                · exact .inr (.inr h)
              rw [hr]
              refine awp_seq ?_
              refine awp_region ?_
              refine al_n rfl rfl (by exact (by exact x_store_all rfl Try.sizeOf22 rfl rfl rfl rfl rfl rfl rfl rfl)) ?_
              refine al_n rfl rfl (by exact (by exact x_store_all rfl Try.sizeOf25 rfl rfl rfl rfl rfl rfl rfl rfl)) ?_
              refine al_nil ?_
              refine awp_ret ?_
              -- return
              refine aret2 (H' := []) (by exact .inr rfl) rfl (rval_cell1 rfl Try.isAgg22 rfl rfl rfl rfl) (rval_cell1 rfl Try.isAgg25 rfl rfl rfl rfl) (Fin.wk (by simp) trivial trivial) ?_
              exact ⟨rfl, rfl⟩
            · have h := hc3
              have hr : res = (out, 0) := by
                rw [hpar, if_neg]
                simp only [Bool.or_eq_false_iff, Bool.not_eq_false', decide_eq_true_eq] at h
                rintro (h1 | h1 | h1)
                · exact h1 h.1.1
                · exact h1 h.1.2
                · exact h1 h.2
              rw [hr]
              refine awp_skip ?_
              refine awp_seq ?_
              refine awp_region ?_
              refine al_d rfl rfl rfl (by exact (by exact opd_load1_ref rfl Try.isAgg22 rfl rfl rfl rfl rfl)) ?_
              refine al_n rfl rfl (by exact (by exact x_store_all rfl Try.sizeOf22 rfl rfl rfl rfl rfl rfl rfl rfl)) ?_
              refine al_n rfl rfl (by exact (by exact x_store_all rfl Try.sizeOf25 rfl rfl rfl rfl rfl rfl rfl rfl)) ?_
              refine al_nil ?_
              refine awp_ret ?_
              -- return
              refine aret2 (H' := []) (by exact .inr rfl) rfl (rval_cell1 rfl Try.isAgg22 rfl rfl rfl rfl) (rval_cell1 rfl Try.isAgg25 rfl rfl rfl rfl) (Fin.wk (by simp) trivial trivial) ?_
              exact ⟨rfl, rfl⟩
      · have hto : tagsOf T = none := by rw [tagsOf_eq, if_neg h0]
        rw [hto] at hpar
        refine (chunk1_c T (.yld 904 0) (fun k => if k ≤ T.length / 3 then (904, LR x parE) :: pK T (firstTags T k) (.pv (.sl [])) 0 else (904, LR (left x .ret) parE) :: pK T (firstTags T (T.length / 3)) (.pv (.sl [])) 5) (fun k => decide (3 * k + 3 ≤ T.length)) (T.length / 3 + 1) (by omega) (fun k => ?_) (fun k => ?_) (by omega) (fun k hk => decide_eq_true (by omega)) (.inl (by omega)) ?_).mono ?_
        · split <;> rfl
        · split <;> rfl
        · intro k hk hkm
          have hr := hround k hk
          rw [if_pos (by omega)]
          by_cases h3 : 3 * k + 3 ≤ T.length
          · rw [if_pos (by omega)]
            rw [if_pos h3] at hr
            exact hr
          · have hkk : k = T.length / 3 := by omega
            rw [if_neg (by omega), ← hkk]
            rw [if_neg h3] at hr
            exact hr
        · rintro r H' ⟨rfl, rfl⟩
          rw [if_neg (by omega)]
          refine ⟨left x .ret, _, rfl, by simp [left], rfl, fun z => ?_⟩
          show ARet _ _ _ _ _ _ _
          rw [hpar]
          refine aret2 (H' := []) (by exact .inr rfl) rfl (rval_cell1 rfl Try.isAgg22 rfl rfl rfl rfl) (rval_cell1 rfl Try.isAgg25 rfl rfl rfl rfl) (Fin.wk (by simp) trivial trivial) ?_
          exact ⟨rfl, rfl⟩
end Go.Proofs.Ytedfihgkopejcaa
end
section
set_option linter.unusedVariables false
set_option linter.unusedSimpArgs false
namespace Go.Abs
open Go.Proofs
/-- New blocks behind all others. -/
theorem Rel.grown {I : Nat → Prop} {ι : Plc} {H : Heap} {w : World} (os : Array Obj) (hr : Rel I ι H w) : Rel I ι H (Sort.grow w os) ∧ Step I ι H w I ι H (Sort.grow w os) := by
  have hk : ∀ b, b < w.heap.size → (Sort.grow w os).heap[b]? = w.heap[b]? := fun b hb => by
    show (w.heap ++ os)[b]? = _
    rw [Array.getElem?_append_left hb]
  have hst : Step I ι H w I ι H (Sort.grow w os) := by
    refine ⟨rfl, rfl, rfl, ?_, fun a ha _ => ?_, fun _ h => h, fun _ h => .inl h, fun _ h => .inl h, fun b hb _ => hk b hb, fun _ o h => ⟨o, h, Nat.le_refl _, fun _ => ⟨rfl, rfl, fun _ => Nat.le_refl _⟩⟩⟩
    · show w.heap.size ≤ (w.heap ++ os).size
      simp
    · unfold World.frozen?
      rw [hk _ ha]
  refine ⟨⟨fun b hb => ?_, fun j o hj => ?_, hr.inj⟩, hst⟩
  · have := hr.imm b hb
    show b < (w.heap ++ os).size
    simp; omega
  · exact (hr.obj j o hj).keep rfl (fun b c _ hb => ⟨hk b hb, fun h => h⟩) (fun r _ a _ v hv => hv.mono hr hst)
def strRows (l : List ByteArray) : List (List AV) := l.map fun s => [.pv (.str s)]
def toU (s : ByteArray) : List UInt8 := s.data.toList
def ofU (l : List UInt8) : ByteArray := ⟨l.toArray⟩
theorem ofU_toU (s : ByteArray) : ofU (toU s) = s := by
  cases s; simp [ofU, toU]
/-- The texts in order. -/
def sortS (l : List ByteArray) : List ByteArray := ((l.map toU).mergeSort fun x y => decide (x ≤ y)).map ofU
theorem sortS_length (l : List ByteArray) : (sortS l).length = l.length := by simp [sortS, List.length_mergeSort]
theorem map_toU (l : List ByteArray) : (l.map toU).map ofU = l := by
  rw [List.map_map]
  conv => rhs; rw [← List.map_id l]
  exact List.map_congr_left fun s _ => ofU_toU s
theorem sortS_perm (l : List ByteArray) : (sortS l).Perm l := by
  have h := (List.mergeSort_perm (l.map toU) (fun x y => decide (x ≤ y))).map ofU
  rw [map_toU] at h
  exact h
theorem heap_putRow {w : World} {b : Nat} {cs : Array Value} {t : TypeId} {f : Nat × Nat} (h : w.heap[b]? = some (.cells cs t f)) (d : Array (List UInt8)) : (Sort.putRow Proofs.encStr w b 0 d) = w.setRow b (Sort.putCells Proofs.encStr 0 d cs) := by
  unfold Sort.putRow Sort.mapBlock World.setRow
  congr 1
  apply Array.ext_getElem?
  intro k
  simp only [Array.getElem?_modify]
  by_cases e : b = k
  · subst e
    simp [h, Sort.onCells]
  · simp [e]
theorem sort_c {P : Program} {ρ : Shelf.Ren} (Ly : SlLaysM.n6 P ρ) (ss : List ByteArray) {id g n ty : Nat} {H : Heap} (hH : H.get id = some ⟨g, 1, ty, strRows ss⟩) (hn : n = ss.length) (hl : ss.length < 4611686018427387904) :
    ACalls P (ρ.f 6) [.osl id g 0 n] H (fun r H' => r = .tup [] ∧ H' = (id, ⟨g, 1, ty, strRows (sortS ss)⟩) :: H) := by
  subst hn
  intro I ι w vs hr hvl hv
  obtain ⟨v, rfl⟩ : ∃ v, vs = #[v] := by
    match vs, hvl with
    | ⟨[v]⟩, _ => exact ⟨v, rfl⟩
  have h1 := hv 0 v _ rfl rfl
  obtain ⟨_, hcase⟩ := osl_slice h1 hH rfl
  have hrowlen : ∀ r ∈ strRows (sortS ss), r.length = 1 := fun r hr => by
    obtain ⟨s, _, rfl⟩ := List.mem_map.1 hr; rfl
  have g1 : Heap.get ((id, ⟨g, 1, ty, strRows (sortS ss)⟩) :: H) id = some ⟨g, 1, ty, strRows (sortS ss)⟩ := by simp [Heap.get, beq_self]
  have g2 : ∀ j, j ≠ id → Heap.get ((id, ⟨g, 1, ty, strRows (sortS ss)⟩) :: H) j = H.get j := fun j hj => by simp [Heap.get, beq_ne (Ne.symm hj)]
  rcases hcase with ⟨b, cap, oo, c1, c2, c3⟩ | ⟨c1, c2, _, c4⟩
  · have hoo : oo = 0 := by rw [c3 (.inr rfl)]; simp
    subst hoo c2
    have hobj := (hr.obj id _ hH).cells (Nat.succ_pos 0)
    obtain ⟨p1, p2, ⟨b', cap', cs, e1, e2, e3, e4, e5, e5', e6⟩ | ⟨e1, _⟩⟩ := hobj
    · rw [c1] at e1; cases e1
      simp only [Nat.mul_one] at e4 e6
      have hlen : (strRows ss).length = ss.length := by simp [strRows]
      simp only [hlen] at e5
      have hcs : ∀ (i : Nat) (s : ByteArray), ss[i]? = some s → cs[i]? = some (.string s) := fun i s hs => by
        obtain ⟨u, q1, q2, q3⟩ := e6 i [.pv (.str s)] (by rw [strRows, List.getElem?_map, hs]; rfl) 0 _ rfl
        rw [q3.str_inv] at q1
        exact q1
      have hholds : Sort.Holds Proofs.encStr w b 0 (ss.map toU).toArray := by
        intro j hj
        simp only [List.size_toArray, List.length_map] at hj
        refine ⟨?_, ?_⟩
        · have := hcs j _ (List.getElem?_eq_getElem hj)
          rw [Nat.zero_add]
          simp only [World.cell?, e2, this]
          congr 1
          rw [getElem!_pos _ _ (by simpa using hj)]
          simp only [List.getElem_toArray, List.getElem_map]
          show some (Value.string ss[j]) = some (Value.string (ofU (toU ss[j])))
          rw [ofU_toU]
        · simp [World.frozen?, e2]
      have hrun := AnyM.slices_Sort_string Ly b 0 (cap - 0) (ss.map toU) w hholds (Array.getElem?_eq_some_iff.1 e2).1 (by rw [List.length_map]; exact hl)
      rw [List.length_map] at hrun
      refine hrun.mono ?_
      rintro e w' ⟨rfl, n, os, rfl⟩
      obtain ⟨k1, k2⟩ := Rel.drawn (w' := Sort.ahead w n) hr rfl rfl rfl rfl
      have e2' : (Sort.ahead w n).heap[b]? = some (.cells cs ty (0, 0)) := e2
      rw [heap_putRow e2']
      obtain ⟨m1, m2⟩ := Rel.update (H' := (id, ⟨g, 1, ty, strRows (sortS ss)⟩) :: H) (ob' := ⟨g, 1, ty, strRows (sortS ss)⟩) (cs' := Sort.putCells Proofs.encStr 0 ((ss.map toU).mergeSort fun x y => decide (x ≤ y)).toArray cs) k1 hH c1 e2' (Nat.le_refl _) rfl rfl
        (fun _ => by simp [strRows, sortS_length]) (by rw [Sort.putCells]; simp; omega) (by simp only [strRows, List.length_map, sortS_length]; omega) hrowlen (fun i r hi k a hk => by
          rw [strRows, List.getElem?_map] at hi
          obtain ⟨s, hs, rfl⟩ := Option.map_eq_some_iff.1 hi
          cases k with
          | succ k => simp at hk
          | zero =>
            cases hk
            have hil := (List.getElem?_eq_some_iff.1 hs).1
            rw [sortS_length] at hil
            have hics : i < cs.size := by omega
            refine ⟨.string s, ?_, rfl, .pv (.str s)⟩
            rw [Nat.mul_one, Nat.add_zero, Sort.putCells, Array.getElem?_mapIdx, Array.getElem?_eq_getElem hics, Option.map_some]
            have hsz : i < ((ss.map toU).mergeSort fun x y => decide (x ≤ y)).length := by rw [List.length_mergeSort, List.length_map]; exact hil
            rw [if_pos ⟨Nat.zero_le _, by simpa using hsz⟩]
            congr 1
            rw [Nat.sub_zero, getElem!_pos _ _ (by simpa using hsz)]
            rw [sortS, List.getElem?_map] at hs
            obtain ⟨u, hu, rfl⟩ := Option.map_eq_some_iff.1 hs
            simp only [List.getElem_toArray]
            rw [(List.getElem?_eq_some_iff.1 hu).2]
            rfl) g1 g2
      obtain ⟨n1, n2⟩ := Rel.grown os m1
      exact ⟨_, _, I, ι, .tuple #[], rfl, ⟨rfl, rfl⟩, .tup rfl (by simp), n1, (k2.trans m2).trans n2⟩
    · rw [c1] at e1; cases e1
  · subst c2
    have h0 : ss = [] := List.eq_nil_of_length_eq_zero c4
    subst h0
    refine (AnyM.slices_Sort_string_none Ly none 0 w).mono ?_
    rintro e w' ⟨rfl, rfl⟩
    have hg : ∀ j, Heap.get ((id, ⟨g, 1, ty, strRows (sortS [])⟩) :: H) j = H.get j := fun j => by
      by_cases e : j = id
      · subst e
        rw [g1, hH, show sortS [] = [] by simp [sortS]]
      · exact g2 j e
    obtain ⟨k1, k2⟩ := hr.congr hg
    exact ⟨_, _, I, ι, .tuple #[], rfl, ⟨rfl, rfl⟩, .tup rfl (by simp), k1, k2⟩
end Go.Abs
end
section
set_option linter.unusedVariables false
set_option linter.unusedSimpArgs false
namespace Go.Proofs
open Go.RowKit Go.Sort Go.Shelf
def Try.sortStr_ren : Go.Shelf.Ren := ⟨fun | 6 => 53 | 8 => 70 | 9 => 69 | 19 => 89 | 20 => 90 | 21 => 80 | 22 => 81 | 23 => 82 | 24 => 83 | 25 => 84 | 26 => 85 | 27 => 86 | 28 => 87 | 29 => 88 | 36 => 94 | 31 => 95 | 32 => 96 | 37 => 97 | 38 => 98 | 39 => 99 | 41 => 100 | n => n, fun | 27 => 28 | 29 => 9 | 3 => 3 | 32 => 81 | 26 => 28 | 0 => 0 | 44 => 128 | 46 => 130 | 4 => 4 | 36 => 121 | 35 => 120 | 41 => 50 | 5 => 5 | 9 => 9 | 53 => 134 | 57 => 138 | 63 => 140 | 64 => 141 | n => n, fun | n => n⟩
theorem Try.sortStr : Go.Proofs.SlLaysM.n6 Try.prog Try.sortStr_ren := {
  mixed := by kernel_rfl
  f6 := ⟨Try.f53.name, by decide, Try.func53.trans (congrArg some (by kernel_rfl))⟩
  f8 := Try.func70.trans (congrArg some (by kernel_rfl))
  f9 := ⟨Try.f69.name, by decide, Try.func69.trans (congrArg some (by kernel_rfl))⟩
  f19 := Try.func89.trans (congrArg some (by kernel_rfl))
  f20 := Try.func90.trans (congrArg some (by kernel_rfl))
  f21 := ⟨Try.f80.name, by decide, Try.func80.trans (congrArg some (by kernel_rfl))⟩
  f22 := ⟨Try.f81.name, by decide, Try.func81.trans (congrArg some (by kernel_rfl))⟩
  f23 := ⟨Try.f82.name, by decide, Try.func82.trans (congrArg some (by kernel_rfl))⟩
  f24 := ⟨Try.f83.name, by decide, Try.func83.trans (congrArg some (by kernel_rfl))⟩
  f25 := ⟨Try.f84.name, by decide, Try.func84.trans (congrArg some (by kernel_rfl))⟩
  f26 := ⟨Try.f85.name, by decide, Try.func85.trans (congrArg some (by kernel_rfl))⟩
  f27 := ⟨Try.f86.name, by decide, Try.func86.trans (congrArg some (by kernel_rfl))⟩
  f28 := ⟨Try.f87.name, by decide, Try.func87.trans (congrArg some (by kernel_rfl))⟩
  f29 := ⟨Try.f88.name, by decide, Try.func88.trans (congrArg some (by kernel_rfl))⟩
  f31 := Try.func95.trans (congrArg some (by kernel_rfl))
  f32 := Try.func96.trans (congrArg some (by kernel_rfl))
  f36 := ⟨Try.f94.name, by decide, Try.func94.trans (congrArg some (by kernel_rfl))⟩
  f37 := ⟨Try.f97.name, by decide, Try.func97.trans (congrArg some (by kernel_rfl))⟩
  f38 := ⟨Try.f98.name, by decide, Try.func98.trans (congrArg some (by kernel_rfl))⟩
  f39 := ⟨Try.f99.name, by decide, Try.func99.trans (congrArg some (by kernel_rfl))⟩
  f41 := ⟨Try.f100.name, by decide, Try.func100.trans (congrArg some (by kernel_rfl))⟩
  t0 := Try.underlying0
  a0 := Try.isAgg0
  z0 := Try.sizeOf0
  v0 := Try.zeroValue0
  t3 := Try.underlying3
  a3 := Try.isAgg3
  z3 := Try.sizeOf3
  v3 := Try.zeroValue3
  t4 := Try.underlying4
  a4 := Try.isAgg4
  z4 := Try.sizeOf4
  v4 := Try.zeroValue4
  t5 := Try.underlying5
  a5 := Try.isAgg5
  z5 := Try.sizeOf5
  v5 := Try.zeroValue5
  t9 := Try.underlying9
  a9 := Try.isAgg9
  z9 := Try.sizeOf9
  v9 := Try.zeroValue9
  t26 := Try.underlying28
  a26 := Try.isAgg28
  z26 := Try.sizeOf28
  v26 := Try.zeroValue28
  t27 := Try.underlying28
  a27 := Try.isAgg28
  z27 := Try.sizeOf28
  v27 := Try.zeroValue28
  t29 := Try.underlying9
  a29 := Try.isAgg9
  z29 := Try.sizeOf9
  v29 := Try.zeroValue9
  t32 := Try.underlying81
  a32 := Try.isAgg81
  z32 := Try.sizeOf81
  v32 := Try.zeroValue81
  t35 := Try.underlying120
  a35 := Try.isAgg120
  z35 := Try.sizeOf120
  v35 := Try.zeroValue120
  t36 := Try.underlying121
  a36 := Try.isAgg121
  z36 := Try.sizeOf121
  v36 := Try.zeroValue121
  t41 := Try.underlying50
  a41 := Try.isAgg50
  z41 := Try.sizeOf50
  v41 := Try.zeroValue50
  t44 := Try.underlying128
  a44 := Try.isAgg128
  z44 := Try.sizeOf128
  v44 := Try.zeroValue128
  t46 := Try.underlying130
  a46 := Try.isAgg130
  z46 := Try.sizeOf130
  v46 := Try.zeroValue130
  t53 := Try.underlying134
  a53 := Try.isAgg134
  z53 := Try.sizeOf134
  v53 := Try.zeroValue134
  t57 := Try.underlying138
  a57 := Try.isAgg138
  z57 := Try.sizeOf138
  v57 := Try.zeroValue138
  t63 := Try.underlying140
  a63 := Try.isAgg140
  z63 := Try.sizeOf140
  v63 := Try.zeroValue140
  t64 := Try.underlying141
  a64 := Try.isAgg141
  z64 := Try.sizeOf141
  v64 := Try.zeroValue141 }
end Go.Proofs
namespace Go.Proofs.Ytedfihgkopejcaa
open Go.Abs
theorem sortStr_c (ss : List ByteArray) {id g n ty : Nat} {H : Heap} (hH : H.get id = some ⟨g, 1, ty, strRows ss⟩) (hn : n = ss.length) (hl : ss.length < 4611686018427387904) :
    ACalls Try.prog 53 [.osl id g 0 n] H (fun r H' => r = .tup [] ∧ H' = (id, ⟨g, 1, ty, strRows (sortS ss)⟩) :: H) := sort_c Try.sortStr ss hH hn hl
theorem nodup_le : ∀ (n : Nat) (l : List Nat), l.Nodup → (∀ i ∈ l, i < n) → l.length ≤ n
  | 0, l, _, h => by
    cases l with
    | nil => simp
    | cons a l => have := h a (by simp); omega
  | n + 1, l, hd, h => by
    by_cases e : n ∈ l
    · have h1 := nodup_le n (l.erase n) (hd.erase n) (fun i hi => by
        rw [hd.mem_erase_iff] at hi
        have := h i hi.2
        omega)
      rw [List.length_erase_of_mem e] at h1
      have := List.length_pos_of_mem e
      omega
    · have := nodup_le n l hd (fun i hi => by
        have h2 := h i hi
        have : i ≠ n := fun e2 => e (e2 ▸ hi)
        omega)
      omega
/-- What has come of a list, by places. -/
def pick (L : List ByteArray) (seen : List Nat) : List ByteArray := seen.map fun i => (L[i]?).getD ⟨#[]⟩
theorem pick_all {L : List ByteArray} {seen : List Nat} (hd : seen.Nodup) (h1 : ∀ i ∈ seen, i < L.length) (h2 : ∀ i, i < L.length → i ∈ seen) : (pick L seen).Perm L := by
  have hp : seen.Perm (List.range L.length) := (List.perm_ext_iff_of_nodup hd List.nodup_range).2 fun a => ⟨fun h => List.mem_range.2 (h1 a h), fun h => h2 a (List.mem_range.1 h)⟩
  have h3 := hp.map (fun i => (L[i]?).getD ⟨#[]⟩)
  have h4 : (List.range L.length).map (fun i => (L[i]?).getD ⟨#[]⟩) = L := by
    apply List.ext_getElem
    · simp
    · intro i h5 h6
      simp [h6]
  rw [h4] at h3
  exact h3
theorem u8_le_total (a b : List UInt8) : decide (a ≤ b) || decide (b ≤ a) := by
  rcases List.le_total a b with h | h <;> simp [h]
theorem sortS_eq {a b : List ByteArray} (h : a.Perm b) : sortS a = sortS b := by
  unfold sortS
  congr 1
  have hs : ∀ l : List ByteArray, ((l.map toU).mergeSort fun x y => decide (x ≤ y)).Pairwise (fun x y => decide (x ≤ y) = true) := fun l =>
    List.pairwise_mergeSort (le := fun (x y : List UInt8) => decide (x ≤ y)) (fun a b c h1 h2 => decide_eq_true (List.le_trans (of_decide_eq_true h1) (of_decide_eq_true h2))) u8_le_total _
  exact List.Perm.eq_of_pairwise (fun x y _ _ h3 h4 => List.le_antisymm (of_decide_eq_true h3) (of_decide_eq_true h4)) (hs a) (hs b) (((List.mergeSort_perm _ _).trans (h.map toU)).trans (List.mergeSort_perm _ _).symm)
end Go.Proofs.Ytedfihgkopejcaa
end
