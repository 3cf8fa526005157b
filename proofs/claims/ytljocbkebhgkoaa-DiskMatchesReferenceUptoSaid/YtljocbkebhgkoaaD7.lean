/-
  THE DISK, contracts: Read, Raw, Rot. Conditions: a disk's state as DOk tells.
-/
import Derived.Test.YtljocbkebhgkoaaD6
set_option linter.unusedVariables false
set_option linter.unusedSimpArgs false
set_option maxRecDepth 100000
namespace Go.Proofs.Ytljocbkebhgkoaa
open Go.Abs

def isSec (n : Nat) (p : Nat × ByteArray) : Bool := decide (p.1 = n)
def dText (s : DSt) (n : Nat) : ByteArray := ((s.q.reverse.find? (isSec n)).map (·.2)).getD ((s.cells[n]?).getD ⟨#[]⟩)
theorem find_rev {q : List (Nat × ByteArray)} {n j : Nat} {p : Nat × ByteArray} (hp : q[j]? = some p) (h1 : isSec n p = true) (h2 : ∀ i, j < i → ∀ x, q[i]? = some x → isSec n x = false) : q.reverse.find? (isSec n) = some p := by
  obtain ⟨hlt, he⟩ := List.getElem?_eq_some_iff.1 hp
  have hs : q = q.take j ++ (p :: q.drop (j + 1)) := by
    conv => lhs; rw [← List.take_append_drop j q, List.drop_eq_getElem_cons hlt, he]
  have hn : (q.drop (j + 1)).reverse.find? (isSec n) = none := by
    rw [List.find?_eq_none]
    intro x hx
    rw [List.mem_reverse] at hx
    obtain ⟨i, hi⟩ := List.mem_iff_getElem?.1 hx
    rw [List.getElem?_drop] at hi
    simp [h2 (j + 1 + i) (by omega) x hi]
  rw [hs, List.reverse_append, List.reverse_cons, List.append_assoc, List.find?_append, hn]
  simp [h1]
theorem find_rev_none {q : List (Nat × ByteArray)} {n : Nat} (h2 : ∀ (i : Nat) (x : Nat × ByteArray), q[i]? = some x → isSec n x = false) : q.reverse.find? (isSec n) = none := by
  rw [List.find?_eq_none]
  intro x hx
  rw [List.mem_reverse] at hx
  obtain ⟨i, hi⟩ := List.mem_iff_getElem?.1 hx
  simp [h2 i x hi]
theorem ba_eta (c : ByteArray) : (⟨c.data.toList.toArray⟩ : ByteArray) = c := by cases c; simp
def dRead (s : DSt) (k : Int) : ByteArray := if s.off then ⟨#[]⟩ else if secOk s k then dText s k.toNat else ⟨#[]⟩
def dReadE (s : DSt) (k : Int) : Int := if s.off then 22 else if secOk s k then 0 else 1
theorem read_c (s : DSt) (k : Int) (hs : DOk s) :
    ACalls Try.prog 28 [.ref 1000 0 0 0, iv k] (diskH s) (fun r H' => r = .tup [sv (dRead s k), iv (dReadE s k)] ∧ H' = diskH s) := by
  have hql := hs.ql
  refine ACalls.body Try.func28 rfl Try.ntmps28 (Nat.le_of_ble_eq_true rfl) ?_
  cases e : s.off with
  | true =>
    refine awp_seq ?_
    refine awp_region ?_
    refine al_d rfl rfl rfl (by exact opd_assign rfl rfl) ?_
    refine al_d rfl rfl rfl (by exact opd_assign rfl rfl) ?_
    refine al_nil ?_
    refine awp_seq ?_
    refine awp_region ?_
    refine al_d rfl rfl rfl (by exact opd_move rfl rfl) ?_
    refine al_d rfl rfl rfl (by exact opd_move rfl rfl) ?_
    refine al_d rfl rfl rfl (by exact opr_call rfl rfl Try.call58 rfl (disk_frame (at_off s k hs e) _ ⟨rfl, rfl, rfl, rfl, trivial⟩ (by simp; rfl))) ?_
    refine al_d rfl rfl rfl (by exact opd_move rfl rfl) ?_
    refine al_d rfl rfl rfl (by exact opd_extract rfl rfl rfl) ?_
    refine al_d rfl rfl rfl (by exact opd_extract rfl rfl rfl) ?_
    refine al_d rfl rfl rfl (by exact x_alloc (id := 6) rfl zo100 rfl rfl) ?_
    refine al_n rfl rfl (by exact (by first | exact x_store_all rfl Try.sizeOf100 rfl rfl rfl rfl rfl rfl rfl rfl | exact x_store rfl Try.sizeOf100 rfl rfl rfl rfl rfl rfl rfl (by simp only [List.length_cons, List.length_nil]; omega) (by simp only [List.drop_succ_cons, List.drop_zero, List.take_succ_cons, List.take_zero, List.take_nil, List.map_cons, List.map_nil, List.set_cons_zero, List.set_cons_succ, List.cons_append, List.nil_append, encQ, armR, dRow]; rfl) (by simp only [List.drop_succ_cons, List.drop_zero, List.take_succ_cons, List.take_zero, List.take_nil, List.map_cons, List.map_nil, List.set_cons_zero, List.set_cons_succ, List.cons_append, List.nil_append, encQ, armR, dRow]; rfl))) ?_
    refine al_d rfl rfl rfl (by exact opd_assign rfl rfl) ?_
    refine al_nil ?_
    refine awp_seq ?_
    refine awp_seq ?_
    refine awp_region ?_
    refine al_d rfl rfl rfl (by exact opd_move rfl rfl) ?_
    refine al_d rfl rfl rfl (by exact opd_neq rfl rfl rfl) ?_
    refine al_nil ?_
    refine awp_cond rfl (fun hc1 => ?_) (fun hc1 => ?_)
    -- cond 1
    · skip
      refine awp_seq ?_
      refine awp_region ?_
      refine al_d rfl rfl rfl (by exact opd_move rfl rfl) ?_
      refine al_d rfl rfl rfl (by exact opd_assign rfl rfl) ?_
      refine al_d rfl rfl rfl (by exact opd_assign rfl rfl) ?_
      refine al_nil ?_
      refine awp_ret ?_
      -- return
      refine aret2 (H' := diskH s) (by first | exact .inr rfl | exact .inl rfl) rfl (rval_tmp rfl) (rval_tmp rfl) (Fin.wk (by first | (simp; done) | (simp; rfl)) ⟨⟨_, rfl, rfl⟩, (by first | (simp; done) | (simp; rfl) | exact clo_map _ _ _ | exact clo_brows _ _ | exact disk_clo _ _ rfl rfl rfl | exact arm_clo _ _ | (simp; exact ⟨rfl, rfl⟩) | (simp; exact ⟨rfl, rfl, rfl⟩) | exact arm_clo .never _ | exact arm_clo (.off _ _ _) _ | exact arm_clo (.on _ _ _) _), ⟨_, rfl, rfl⟩, (by first | (simp; done) | (simp; rfl) | exact clo_map _ _ _ | exact clo_brows _ _ | exact disk_clo _ _ rfl rfl rfl | exact arm_clo _ _ | (simp; exact ⟨rfl, rfl⟩) | (simp; exact ⟨rfl, rfl, rfl⟩) | exact arm_clo .never _ | exact arm_clo (.off _ _ _) _ | exact arm_clo (.on _ _ _) _), ⟨_, rfl, rfl⟩, (by first | (simp; done) | (simp; rfl) | exact clo_map _ _ _ | exact clo_brows _ _ | exact disk_clo _ _ rfl rfl rfl | exact arm_clo _ _ | (simp; exact ⟨rfl, rfl⟩) | (simp; exact ⟨rfl, rfl, rfl⟩) | exact arm_clo .never _ | exact arm_clo (.off _ _ _) _ | exact arm_clo (.on _ _ _) _), ⟨_, rfl, rfl⟩, (by first | (simp; done) | (simp; rfl) | exact clo_map _ _ _ | exact clo_brows _ _ | exact disk_clo _ _ rfl rfl rfl | exact arm_clo _ _ | (simp; exact ⟨rfl, rfl⟩) | (simp; exact ⟨rfl, rfl, rfl⟩) | exact arm_clo .never _ | exact arm_clo (.off _ _ _) _ | exact arm_clo (.on _ _ _) _), trivial⟩ ⟨rfl, rfl, rfl, rfl, trivial⟩) ?_
      exact ⟨by simp [dRead, dReadE, e], rfl⟩
    · cases hc1
  | false =>
    rcases secOk_cases s k with e2 | ⟨n, rfl, hn⟩
    · skip
      refine awp_seq ?_
      refine awp_region ?_
      refine al_d rfl rfl rfl (by exact opd_assign rfl rfl) ?_
      refine al_d rfl rfl rfl (by exact opd_assign rfl rfl) ?_
      refine al_nil ?_
      refine awp_seq ?_
      refine awp_region ?_
      refine al_d rfl rfl rfl (by exact opd_move rfl rfl) ?_
      refine al_d rfl rfl rfl (by exact opd_move rfl rfl) ?_
      refine al_d rfl rfl rfl (by exact opr_call rfl rfl Try.call58 rfl (disk_frame (at_no s k hs e e2) _ ⟨rfl, rfl, rfl, rfl, trivial⟩ (by simp; rfl))) ?_
      refine al_d rfl rfl rfl (by exact opd_move rfl rfl) ?_
      refine al_d rfl rfl rfl (by exact opd_extract rfl rfl rfl) ?_
      refine al_d rfl rfl rfl (by exact opd_extract rfl rfl rfl) ?_
      refine al_d rfl rfl rfl (by exact x_alloc (id := 6) rfl zo100 rfl rfl) ?_
      refine al_n rfl rfl (by exact (by first | exact x_store_all rfl Try.sizeOf100 rfl rfl rfl rfl rfl rfl rfl rfl | exact x_store rfl Try.sizeOf100 rfl rfl rfl rfl rfl rfl rfl (by simp only [List.length_cons, List.length_nil]; omega) (by simp only [List.drop_succ_cons, List.drop_zero, List.take_succ_cons, List.take_zero, List.take_nil, List.map_cons, List.map_nil, List.set_cons_zero, List.set_cons_succ, List.cons_append, List.nil_append, encQ, armR, dRow]; rfl) (by simp only [List.drop_succ_cons, List.drop_zero, List.take_succ_cons, List.take_zero, List.take_nil, List.map_cons, List.map_nil, List.set_cons_zero, List.set_cons_succ, List.cons_append, List.nil_append, encQ, armR, dRow]; rfl))) ?_
      refine al_d rfl rfl rfl (by exact opd_assign rfl rfl) ?_
      refine al_nil ?_
      refine awp_seq ?_
      refine awp_seq ?_
      refine awp_region ?_
      refine al_d rfl rfl rfl (by exact opd_move rfl rfl) ?_
      refine al_d rfl rfl rfl (by exact opd_neq rfl rfl rfl) ?_
      refine al_nil ?_
      refine awp_cond rfl (fun hc2 => ?_) (fun hc2 => ?_)
      -- cond 2
      · skip
        refine awp_seq ?_
        refine awp_region ?_
        refine al_d rfl rfl rfl (by exact opd_move rfl rfl) ?_
        refine al_d rfl rfl rfl (by exact opd_assign rfl rfl) ?_
        refine al_d rfl rfl rfl (by exact opd_assign rfl rfl) ?_
        refine al_nil ?_
        refine awp_ret ?_
        -- return
        refine aret2 (H' := diskH s) (by first | exact .inr rfl | exact .inl rfl) rfl (rval_tmp rfl) (rval_tmp rfl) (Fin.wk (by first | (simp; done) | (simp; rfl)) ⟨⟨_, rfl, rfl⟩, (by first | (simp; done) | (simp; rfl) | exact clo_map _ _ _ | exact clo_brows _ _ | exact disk_clo _ _ rfl rfl rfl | exact arm_clo _ _ | (simp; exact ⟨rfl, rfl⟩) | (simp; exact ⟨rfl, rfl, rfl⟩) | exact arm_clo .never _ | exact arm_clo (.off _ _ _) _ | exact arm_clo (.on _ _ _) _), ⟨_, rfl, rfl⟩, (by first | (simp; done) | (simp; rfl) | exact clo_map _ _ _ | exact clo_brows _ _ | exact disk_clo _ _ rfl rfl rfl | exact arm_clo _ _ | (simp; exact ⟨rfl, rfl⟩) | (simp; exact ⟨rfl, rfl, rfl⟩) | exact arm_clo .never _ | exact arm_clo (.off _ _ _) _ | exact arm_clo (.on _ _ _) _), ⟨_, rfl, rfl⟩, (by first | (simp; done) | (simp; rfl) | exact clo_map _ _ _ | exact clo_brows _ _ | exact disk_clo _ _ rfl rfl rfl | exact arm_clo _ _ | (simp; exact ⟨rfl, rfl⟩) | (simp; exact ⟨rfl, rfl, rfl⟩) | exact arm_clo .never _ | exact arm_clo (.off _ _ _) _ | exact arm_clo (.on _ _ _) _), ⟨_, rfl, rfl⟩, (by first | (simp; done) | (simp; rfl) | exact clo_map _ _ _ | exact clo_brows _ _ | exact disk_clo _ _ rfl rfl rfl | exact arm_clo _ _ | (simp; exact ⟨rfl, rfl⟩) | (simp; exact ⟨rfl, rfl, rfl⟩) | exact arm_clo .never _ | exact arm_clo (.off _ _ _) _ | exact arm_clo (.on _ _ _) _), trivial⟩ ⟨rfl, rfl, rfl, rfl, trivial⟩) ?_
        exact ⟨by simp [dRead, dReadE, e, e2], rfl⟩
      · cases hc2
    · have e2 : secOk s (n : Int) = true := by rw [secOk_nat]; simpa using hn
      have h1 : dRead s n = dText s n := by simp [dRead, e, e2]
      have h2 : dReadE s n = 0 := by simp [dReadE, e, e2]
      rw [h1, h2]
      refine awp_seq ?_
      refine awp_region ?_
      refine al_d rfl rfl rfl (by exact opd_assign rfl rfl) ?_
      refine al_d rfl rfl rfl (by exact opd_assign rfl rfl) ?_
      refine al_nil ?_
      refine awp_seq ?_
      refine awp_region ?_
      refine al_d rfl rfl rfl (by exact opd_move rfl rfl) ?_
      refine al_d rfl rfl rfl (by exact opd_move rfl rfl) ?_
      refine al_d rfl rfl rfl (by exact opr_call rfl rfl Try.call58 rfl (disk_frame (at_yes s n hs e hn) _ ⟨rfl, rfl, rfl, rfl, trivial⟩ (by simp; rfl))) ?_
      refine al_d rfl rfl rfl (by exact opd_move rfl rfl) ?_
      refine al_d rfl rfl rfl (by exact opd_extract rfl rfl rfl) ?_
      refine al_d rfl rfl rfl (by exact opd_extract rfl rfl rfl) ?_
      refine al_d rfl rfl rfl (by exact x_alloc (id := 6) rfl zo100 rfl rfl) ?_
      refine al_n rfl rfl (by exact (by first | exact x_store_all rfl Try.sizeOf100 rfl rfl rfl rfl rfl rfl rfl rfl | exact x_store rfl Try.sizeOf100 rfl rfl rfl rfl rfl rfl rfl (by simp only [List.length_cons, List.length_nil]; omega) (by simp only [List.drop_succ_cons, List.drop_zero, List.take_succ_cons, List.take_zero, List.take_nil, List.map_cons, List.map_nil, List.set_cons_zero, List.set_cons_succ, List.cons_append, List.nil_append, encQ, armR, dRow]; rfl) (by simp only [List.drop_succ_cons, List.drop_zero, List.take_succ_cons, List.take_zero, List.take_nil, List.map_cons, List.map_nil, List.set_cons_zero, List.set_cons_succ, List.cons_append, List.nil_append, encQ, armR, dRow]; rfl))) ?_
      refine al_d rfl rfl rfl (by exact opd_assign rfl rfl) ?_
      refine al_nil ?_
      refine awp_seq ?_
      refine awp_seq ?_
      refine awp_region ?_
      refine al_d rfl rfl rfl (by exact opd_move rfl rfl) ?_
      refine al_d rfl rfl rfl (by exact opd_neq rfl rfl rfl) ?_
      refine al_nil ?_
      refine awp_cond rfl (fun hc3 => ?_) (fun hc3 => ?_)
      -- cond 3
      · cases hc3
      · skip
        refine awp_skip ?_
        refine awp_seq ?_
        refine awp_seq ?_
        refine awp_region ?_
        refine al_d rfl rfl rfl (by exact opd_move rfl rfl) ?_
        refine al_d rfl rfl rfl (by exact (by first | exact opd_nilCheck_ref rfl rfl rfl rfl | exact opd_nilCheck_fn rfl rfl)) ?_
        refine al_d rfl rfl rfl (by exact (by first | exact opd_field_ref rfl fo94_1 rfl rfl rfl rfl | exact opd_field_pad rfl fo94_1 rfl rfl)) ?_
        refine al_d rfl rfl rfl (by exact (by first | exact opd_load1_ref rfl Try.isAgg91 rfl rfl rfl rfl rfl | exact opd_load1_pad rfl Try.isAgg91 rfl (by first | omega | assumption) rfl)) ?_
        refine al_d rfl rfl rfl (by exact (by first | exact opd_len_sl rfl Try.underlying91 rfl | exact opd_len_osl rfl Try.underlying91 rfl rfl rfl)) ?_
        refine al_d rfl rfl rfl (by exact opd_sub rfl rfl rfl (by first | exact w64 (by omega) (by omega) | exact wu8 (by omega) (by omega) | rfl)) ?_
        refine al_d rfl rfl rfl (by exact opd_assign rfl rfl) ?_
        refine al_nil ?_
        refine awp_block ?_
        -- loop
        refine awp_loop (σ := Nat) (fun j => ([(0, .ref 1000 0 0 0), (6, .ref 6 0 0 0), (8, iv ((j : Int) - 1))], (6, bx 2 100 (spotN n)) :: diskH s)) (fun j => j ≤ s.q.length ∧ ∀ i, j ≤ i → ∀ x, s.q[i]? = some x → isSec n x = false) (fun j => j) s.q.length
          ⟨Nat.le_refl _, fun i hi x hx => by have := (List.getElem?_eq_some_iff.1 hx).1; omega⟩ ?_ ?_
        · exact (Ent.wk ⟨⟨_, rfl, rfl⟩, (by first | (simp; done) | (simp; rfl) | exact clo_map _ _ _ | exact clo_brows _ _ | exact disk_clo _ _ rfl rfl rfl | exact arm_clo _ _ | (simp; exact ⟨rfl, rfl⟩) | (simp; exact ⟨rfl, rfl, rfl⟩) | exact arm_clo .never _ | exact arm_clo (.off _ _ _) _ | exact arm_clo (.on _ _ _) _), ⟨_, rfl, rfl⟩, (by first | (simp; done) | (simp; rfl) | exact clo_map _ _ _ | exact clo_brows _ _ | exact disk_clo _ _ rfl rfl rfl | exact arm_clo _ _ | (simp; exact ⟨rfl, rfl⟩) | (simp; exact ⟨rfl, rfl, rfl⟩) | exact arm_clo .never _ | exact arm_clo (.off _ _ _) _ | exact arm_clo (.on _ _ _) _), ⟨_, rfl, rfl⟩, (by first | (simp; done) | (simp; rfl) | exact clo_map _ _ _ | exact clo_brows _ _ | exact disk_clo _ _ rfl rfl rfl | exact arm_clo _ _ | (simp; exact ⟨rfl, rfl⟩) | (simp; exact ⟨rfl, rfl, rfl⟩) | exact arm_clo .never _ | exact arm_clo (.off _ _ _) _ | exact arm_clo (.on _ _ _) _), trivial⟩ ⟨⟨_, rfl, rfl⟩, (by first | (simp; done) | (simp; rfl) | exact clo_map _ _ _ | exact clo_brows _ _ | exact disk_clo _ _ rfl rfl rfl | exact arm_clo _ _ | (simp; exact ⟨rfl, rfl⟩) | (simp; exact ⟨rfl, rfl, rfl⟩) | exact arm_clo .never _ | exact arm_clo (.off _ _ _) _ | exact arm_clo (.on _ _ _) _), ⟨_, rfl, rfl⟩, (by first | (simp; done) | (simp; rfl) | exact clo_map _ _ _ | exact clo_brows _ _ | exact disk_clo _ _ rfl rfl rfl | exact arm_clo _ _ | (simp; exact ⟨rfl, rfl⟩) | (simp; exact ⟨rfl, rfl, rfl⟩) | exact arm_clo .never _ | exact arm_clo (.off _ _ _) _ | exact arm_clo (.on _ _ _) _), ⟨_, rfl, rfl⟩, (by first | (simp; done) | (simp; rfl) | exact clo_map _ _ _ | exact clo_brows _ _ | exact disk_clo _ _ rfl rfl rfl | exact arm_clo _ _ | (simp; exact ⟨rfl, rfl⟩) | (simp; exact ⟨rfl, rfl, rfl⟩) | exact arm_clo .never _ | exact arm_clo (.off _ _ _) _ | exact arm_clo (.on _ _ _) _), ⟨_, rfl, rfl⟩, (by first | (simp; done) | (simp; rfl) | exact clo_map _ _ _ | exact clo_brows _ _ | exact disk_clo _ _ rfl rfl rfl | exact arm_clo _ _ | (simp; exact ⟨rfl, rfl⟩) | (simp; exact ⟨rfl, rfl, rfl⟩) | exact arm_clo .never _ | exact arm_clo (.off _ _ _) _ | exact arm_clo (.on _ _ _) _), ⟨_, rfl, rfl⟩, (by first | (simp; done) | (simp; rfl) | exact clo_map _ _ _ | exact clo_brows _ _ | exact disk_clo _ _ rfl rfl rfl | exact arm_clo _ _ | (simp; exact ⟨rfl, rfl⟩) | (simp; exact ⟨rfl, rfl, rfl⟩) | exact arm_clo .never _ | exact arm_clo (.off _ _ _) _ | exact arm_clo (.on _ _ _) _), trivial⟩ ⟨rfl, rfl, rfl, rfl, trivial⟩)
        · rintro j ⟨hj, hpre⟩
          cases j with
          | succ j =>
            have ej : ((j + 1 : Nat) : Int) - 1 = (j : Int) := by omega
            rw [ej]
            refine awp_seq ?_
            refine awp_seq ?_
            refine awp_region ?_
            refine al_d rfl rfl rfl (by exact opd_move rfl rfl) ?_
            refine al_d rfl rfl rfl (by exact opd_geq rfl rfl rfl) ?_
            refine al_nil ?_
            refine awp_cond rfl (fun hc4 => ?_) (fun hc4 => ?_)
            -- cond 4
            · obtain ⟨p, hp⟩ := get_of_lt (show j < s.q.length by omega)
              have hpe : (qRows s.q)[j]? = some ((encQ p).map .pv) := by rw [List.getElem?_map, hp]; rfl
              have hm : decide (((64 * p.1 : Nat) : Int) = ((64 * n : Nat) : Int)) = isSec n p := by
                unfold isSec; rw [Bool.eq_iff_iff]; simp; omega
              refine awp_skip ?_
              refine awp_seq ?_
              refine awp_block ?_
              refine awp_seq ?_
              refine awp_drawc follows ?_
              refine dc_cons (DStep.q rfl (by exact opd_move rfl rfl)) rfl ?_
              refine dc_cons (DStep.q rfl (by exact (by first | exact opd_nilCheck_ref rfl rfl rfl rfl | exact opd_nilCheck_fn rfl rfl))) rfl ?_
              refine dc_cons (DStep.q rfl (by exact (by first | exact opd_field_ref rfl fo94_1 rfl rfl rfl rfl | exact opd_field_pad rfl fo94_1 rfl rfl))) rfl ?_
              refine dc_cons (DStep.q rfl (by exact (by first | exact opd_load1_ref rfl Try.isAgg91 rfl rfl rfl rfl rfl | exact opd_load1_pad rfl Try.isAgg91 rfl (by first | omega | assumption) rfl))) rfl ?_
              refine dc_cons (DStep.q rfl (by exact opd_move rfl rfl)) rfl ?_
              refine dc_cons (DStep.q rfl (by exact (by first | exact x_index_pad rfl so91 rfl rfl (by omega) (by first | exact Int.toNat_natCast _ | rfl) (by assumption) rfl | exact x_index_osl rfl so91 rfl rfl rfl rfl rfl (by omega) (by first | exact Int.toNat_natCast _ | rfl) (by first | omega | assumption) (Nat.zero_add _)))) rfl ?_
              refine dc_cons (DStep.q rfl (by exact (by first | exact opd_field_ref rfl fo104_0 rfl rfl rfl rfl | exact opd_field_pad rfl fo104_0 rfl rfl))) rfl ?_
              refine dc_cons (DStep.q rfl (by exact (by first | exact opd_field_ref rfl fo100_0 rfl rfl rfl rfl | exact opd_field_pad rfl fo100_0 rfl rfl))) rfl ?_
              refine dc_cons (DStep.q rfl (by exact (by first | exact opd_load1_ref rfl Try.isAgg3 rfl rfl rfl hpe rfl | exact opd_load1_pad rfl Try.isAgg3 rfl hpe rfl))) rfl ?_
              refine dc_cons (DStep.q rfl (by exact (by first | exact opd_field_ref rfl fo100_0 rfl rfl rfl rfl | exact opd_field_pad rfl fo100_0 rfl rfl))) rfl ?_
              refine dc_cons (DStep.q rfl (by exact (by first | exact opd_load1_ref rfl Try.isAgg3 rfl rfl rfl rfl rfl | exact opd_load1_pad rfl Try.isAgg3 rfl (by first | omega | assumption) rfl))) rfl ?_
              refine dc_cons (DStep.q rfl (by exact opd_eql rfl rfl rfl)) rfl ?_
              refine dc_nil ⟨by kernel_rfl, ?_⟩
              refine awp_cond rfl (fun hc5 => ?_) (fun hc5 => ?_)
              -- cond 5
              · rw [hm] at hc5
                refine awp_seq ?_
                refine awp_region ?_
                refine al_d rfl rfl rfl (by exact opd_move rfl rfl) ?_
                refine al_d rfl rfl rfl (by exact (by first | exact opd_nilCheck_ref rfl rfl rfl rfl | exact opd_nilCheck_fn rfl rfl)) ?_
                refine al_d rfl rfl rfl (by exact (by first | exact opd_field_ref rfl fo94_1 rfl rfl rfl rfl | exact opd_field_pad rfl fo94_1 rfl rfl)) ?_
                refine al_d rfl rfl rfl (by exact (by first | exact opd_load1_ref rfl Try.isAgg91 rfl rfl rfl rfl rfl | exact opd_load1_pad rfl Try.isAgg91 rfl (by first | omega | assumption) rfl)) ?_
                refine al_d rfl rfl rfl (by exact opd_move rfl rfl) ?_
                refine al_d rfl rfl rfl (by exact (by first | exact x_index_pad rfl so91 rfl rfl (by omega) (by first | exact Int.toNat_natCast _ | rfl) (by assumption) rfl | exact x_index_osl rfl so91 rfl rfl rfl rfl rfl (by omega) (by first | exact Int.toNat_natCast _ | rfl) (by first | omega | assumption) (Nat.zero_add _))) ?_
                refine al_d rfl rfl rfl (by exact (by first | exact opd_field_ref rfl fo104_1 rfl rfl rfl rfl | exact opd_field_pad rfl fo104_1 rfl rfl)) ?_
                refine al_d rfl rfl rfl (by exact (by first | exact opd_load1_ref rfl Try.isAgg9 rfl rfl rfl hpe rfl | exact opd_load1_pad rfl Try.isAgg9 rfl hpe rfl)) ?_
                refine al_d rfl rfl rfl (by exact opd_assign rfl rfl) ?_
                refine al_d rfl rfl rfl (by exact opd_assign rfl rfl) ?_
                refine al_nil ?_
                refine awp_ret ?_
                -- return
                refine aret2 (H' := diskH s) (by first | exact .inr rfl | exact .inl rfl) rfl (rval_tmp rfl) (rval_tmp rfl) (Fin.wk (by first | (simp; done) | (simp; rfl)) ⟨⟨_, rfl, rfl⟩, (by first | (simp; done) | (simp; rfl) | exact clo_map _ _ _ | exact clo_brows _ _ | exact disk_clo _ _ rfl rfl rfl | exact arm_clo _ _ | (simp; exact ⟨rfl, rfl⟩) | (simp; exact ⟨rfl, rfl, rfl⟩) | exact arm_clo .never _ | exact arm_clo (.off _ _ _) _ | exact arm_clo (.on _ _ _) _), ⟨_, rfl, rfl⟩, (by first | (simp; done) | (simp; rfl) | exact clo_map _ _ _ | exact clo_brows _ _ | exact disk_clo _ _ rfl rfl rfl | exact arm_clo _ _ | (simp; exact ⟨rfl, rfl⟩) | (simp; exact ⟨rfl, rfl, rfl⟩) | exact arm_clo .never _ | exact arm_clo (.off _ _ _) _ | exact arm_clo (.on _ _ _) _), ⟨_, rfl, rfl⟩, (by first | (simp; done) | (simp; rfl) | exact clo_map _ _ _ | exact clo_brows _ _ | exact disk_clo _ _ rfl rfl rfl | exact arm_clo _ _ | (simp; exact ⟨rfl, rfl⟩) | (simp; exact ⟨rfl, rfl, rfl⟩) | exact arm_clo .never _ | exact arm_clo (.off _ _ _) _ | exact arm_clo (.on _ _ _) _), ⟨_, rfl, rfl⟩, (by first | (simp; done) | (simp; rfl) | exact clo_map _ _ _ | exact clo_brows _ _ | exact disk_clo _ _ rfl rfl rfl | exact arm_clo _ _ | (simp; exact ⟨rfl, rfl⟩) | (simp; exact ⟨rfl, rfl, rfl⟩) | exact arm_clo .never _ | exact arm_clo (.off _ _ _) _ | exact arm_clo (.on _ _ _) _), trivial⟩ ⟨rfl, rfl, rfl, rfl, trivial⟩) ?_
                refine ⟨?_, rfl⟩
                rw [dText, find_rev hp hc5 (fun i hi x hx => hpre i (by omega) x hx)]; rfl
              · rw [hm] at hc5
                refine awp_skip ?_
                refine awp_region ?_
                refine al_d rfl rfl rfl (by exact opd_move rfl rfl) ?_
                refine al_d rfl rfl rfl (by exact opd_sub rfl rfl rfl (w64 (by omega) (by omega))) ?_
                refine al_d rfl rfl rfl (by exact opd_assign rfl rfl) ?_
                refine al_nil ?_
                -- end of a round
                refine ⟨j, ⟨by omega, fun i hi x hx => ?_⟩, by omega, (Ent.wk ⟨⟨_, rfl, rfl⟩, (by first | (simp; done) | (simp; rfl) | exact clo_map _ _ _ | exact clo_brows _ _ | exact disk_clo _ _ rfl rfl rfl | exact arm_clo _ _ | (simp; exact ⟨rfl, rfl⟩) | (simp; exact ⟨rfl, rfl, rfl⟩) | exact arm_clo .never _ | exact arm_clo (.off _ _ _) _ | exact arm_clo (.on _ _ _) _), ⟨_, rfl, rfl⟩, (by first | (simp; done) | (simp; rfl) | exact clo_map _ _ _ | exact clo_brows _ _ | exact disk_clo _ _ rfl rfl rfl | exact arm_clo _ _ | (simp; exact ⟨rfl, rfl⟩) | (simp; exact ⟨rfl, rfl, rfl⟩) | exact arm_clo .never _ | exact arm_clo (.off _ _ _) _ | exact arm_clo (.on _ _ _) _), ⟨_, rfl, rfl⟩, (by first | (simp; done) | (simp; rfl) | exact clo_map _ _ _ | exact clo_brows _ _ | exact disk_clo _ _ rfl rfl rfl | exact arm_clo _ _ | (simp; exact ⟨rfl, rfl⟩) | (simp; exact ⟨rfl, rfl, rfl⟩) | exact arm_clo .never _ | exact arm_clo (.off _ _ _) _ | exact arm_clo (.on _ _ _) _), trivial⟩ ⟨⟨_, rfl, rfl⟩, (by first | (simp; done) | (simp; rfl) | exact clo_map _ _ _ | exact clo_brows _ _ | exact disk_clo _ _ rfl rfl rfl | exact arm_clo _ _ | (simp; exact ⟨rfl, rfl⟩) | (simp; exact ⟨rfl, rfl, rfl⟩) | exact arm_clo .never _ | exact arm_clo (.off _ _ _) _ | exact arm_clo (.on _ _ _) _), ⟨_, rfl, rfl⟩, (by first | (simp; done) | (simp; rfl) | exact clo_map _ _ _ | exact clo_brows _ _ | exact disk_clo _ _ rfl rfl rfl | exact arm_clo _ _ | (simp; exact ⟨rfl, rfl⟩) | (simp; exact ⟨rfl, rfl, rfl⟩) | exact arm_clo .never _ | exact arm_clo (.off _ _ _) _ | exact arm_clo (.on _ _ _) _), ⟨_, rfl, rfl⟩, (by first | (simp; done) | (simp; rfl) | exact clo_map _ _ _ | exact clo_brows _ _ | exact disk_clo _ _ rfl rfl rfl | exact arm_clo _ _ | (simp; exact ⟨rfl, rfl⟩) | (simp; exact ⟨rfl, rfl, rfl⟩) | exact arm_clo .never _ | exact arm_clo (.off _ _ _) _ | exact arm_clo (.on _ _ _) _), ⟨_, rfl, rfl⟩, (by first | (simp; done) | (simp; rfl) | exact clo_map _ _ _ | exact clo_brows _ _ | exact disk_clo _ _ rfl rfl rfl | exact arm_clo _ _ | (simp; exact ⟨rfl, rfl⟩) | (simp; exact ⟨rfl, rfl, rfl⟩) | exact arm_clo .never _ | exact arm_clo (.off _ _ _) _ | exact arm_clo (.on _ _ _) _), ⟨_, rfl, rfl⟩, (by first | (simp; done) | (simp; rfl) | exact clo_map _ _ _ | exact clo_brows _ _ | exact disk_clo _ _ rfl rfl rfl | exact arm_clo _ _ | (simp; exact ⟨rfl, rfl⟩) | (simp; exact ⟨rfl, rfl, rfl⟩) | exact arm_clo .never _ | exact arm_clo (.off _ _ _) _ | exact arm_clo (.on _ _ _) _), trivial⟩ ⟨rfl, rfl, rfl, rfl, trivial⟩)⟩
                by_cases he : i = j
                · subst he; rw [hp] at hx; cases hx; exact hc5
                · exact hpre i (by omega) x hx
            · have : ¬ (0 : Int) ≤ (j : Int) := of_decide_eq_false hc4
              omega
          | zero =>
            have hz : s.q.reverse.find? (isSec n) = none := find_rev_none (fun i x hx => hpre i (Nat.zero_le _) x hx)
            obtain ⟨c, hc⟩ := get_of_lt hn
            have hd : dText s n = c := by rw [dText, hz, hc]; rfl
            obtain ⟨_, p2, _⟩ := flat_part hs.c hc
            have hb : ((brows (flat s.cells)).drop (0 + 64 * n)).take (64 * (n + 1) - 64 * n) = brows c.data.toList := by
              rw [← p2, Nat.zero_add, show 64 * (n + 1) - 64 * n = 64 by omega]
              simp only [brows, List.map_take, List.map_drop]
            have hfl := flat_len hs.c
            rw [hd]
            refine awp_seq ?_
            refine awp_seq ?_
            refine awp_region ?_
            refine al_d rfl rfl rfl (by exact opd_move rfl rfl) ?_
            refine al_d rfl rfl rfl (by exact opd_geq rfl rfl rfl) ?_
            refine al_nil ?_
            refine awp_cond rfl (fun hc6 => ?_) (fun hc6 => ?_)
            -- cond 6
            · have : (0 : Int) ≤ ((0 : Nat) : Int) - 1 := of_decide_eq_true hc6
              omega
            · skip
              refine awp_exit ?_
              refine awp_seq ?_
              refine awp_drawc follows ?_
              refine dc_cons (DStep.q rfl (by exact opd_move rfl rfl)) rfl ?_
              refine dc_cons (DStep.q rfl (by exact (by first | exact opd_nilCheck_ref rfl rfl rfl rfl | exact opd_nilCheck_fn rfl rfl))) rfl ?_
              refine dc_cons (DStep.q rfl (by exact (by first | exact opd_field_ref rfl fo94_0 rfl rfl rfl rfl | exact opd_field_pad rfl fo94_0 rfl rfl))) rfl ?_
              refine dc_cons (DStep.q rfl (by exact (by first | exact opd_load1_ref rfl Try.isAgg90 rfl rfl rfl rfl rfl | exact opd_load1_pad rfl Try.isAgg90 rfl (by first | omega | assumption) rfl))) rfl ?_
              refine dc_cons (DStep.q rfl (by exact (by first | exact opd_field_ref rfl fo100_0 rfl rfl rfl rfl | exact opd_field_pad rfl fo100_0 rfl rfl))) rfl ?_
              refine dc_cons (DStep.q rfl (by exact (by first | exact opd_load1_ref rfl Try.isAgg3 rfl rfl rfl rfl rfl | exact opd_load1_pad rfl Try.isAgg3 rfl (by first | omega | assumption) rfl))) rfl ?_
              refine dc_cons (DStep.q rfl (by exact (by first | exact opd_field_ref rfl fo100_1 rfl rfl rfl rfl | exact opd_field_pad rfl fo100_1 rfl rfl))) rfl ?_
              refine dc_cons (DStep.q rfl (by exact (by first | exact opd_load1_ref rfl Try.isAgg3 rfl rfl rfl rfl rfl | exact opd_load1_pad rfl Try.isAgg3 rfl (by first | omega | assumption) rfl))) rfl ?_
              refine dc_cons (DStep.q rfl (by exact (by first | exact x_slice_sl (l := (64 * n)) (h := (64 * (n + 1))) rfl so90 rfl (by assumption) rfl rfl (by first | omega | assumption) (by first | omega | assumption) rfl | exact x_slice_osl (l := (64 * n)) (h := (64 * (n + 1))) rfl so90 rfl rfl rfl rfl rfl rfl (by first | omega | assumption) (by first | omega | assumption) rfl rfl))) rfl ?_
              refine dc_cons (DStep.q rfl (by exact opd_bytes_str rfl Try.underlying90 Try.underlying5 Try.underlying9 rfl rfl rfl rfl hb rfl)) rfl ?_
              refine dc_cons (DStep.q rfl (by exact opd_assign rfl rfl)) rfl ?_
              refine dc_cons (DStep.q rfl (by exact opd_assign rfl rfl)) rfl ?_
              refine dc_nil ⟨by kernel_rfl, ?_⟩
              refine awp_ret ?_
              -- return
              refine aret2 (H' := diskH s) (by first | exact .inr rfl | exact .inl rfl) rfl (rval_tmp rfl) (rval_tmp rfl) (Fin.wk (by first | (simp; done) | (simp; rfl)) ⟨⟨_, rfl, rfl⟩, (by first | (simp; done) | (simp; rfl) | exact clo_map _ _ _ | exact clo_brows _ _ | exact disk_clo _ _ rfl rfl rfl | exact arm_clo _ _ | (simp; exact ⟨rfl, rfl⟩) | (simp; exact ⟨rfl, rfl, rfl⟩) | exact arm_clo .never _ | exact arm_clo (.off _ _ _) _ | exact arm_clo (.on _ _ _) _), ⟨_, rfl, rfl⟩, (by first | (simp; done) | (simp; rfl) | exact clo_map _ _ _ | exact clo_brows _ _ | exact disk_clo _ _ rfl rfl rfl | exact arm_clo _ _ | (simp; exact ⟨rfl, rfl⟩) | (simp; exact ⟨rfl, rfl, rfl⟩) | exact arm_clo .never _ | exact arm_clo (.off _ _ _) _ | exact arm_clo (.on _ _ _) _), ⟨_, rfl, rfl⟩, (by first | (simp; done) | (simp; rfl) | exact clo_map _ _ _ | exact clo_brows _ _ | exact disk_clo _ _ rfl rfl rfl | exact arm_clo _ _ | (simp; exact ⟨rfl, rfl⟩) | (simp; exact ⟨rfl, rfl, rfl⟩) | exact arm_clo .never _ | exact arm_clo (.off _ _ _) _ | exact arm_clo (.on _ _ _) _), ⟨_, rfl, rfl⟩, (by first | (simp; done) | (simp; rfl) | exact clo_map _ _ _ | exact clo_brows _ _ | exact disk_clo _ _ rfl rfl rfl | exact arm_clo _ _ | (simp; exact ⟨rfl, rfl⟩) | (simp; exact ⟨rfl, rfl, rfl⟩) | exact arm_clo .never _ | exact arm_clo (.off _ _ _) _ | exact arm_clo (.on _ _ _) _), trivial⟩ ⟨rfl, rfl, rfl, rfl, trivial⟩) ?_
              exact ⟨by rw [ba_eta], rfl⟩
def dRaw (s : DSt) : ByteArray := ⟨(flat s.cells).toArray⟩
theorem raw_c (s : DSt) (hs : DOk s) : ACalls Try.prog 41 [.ref 1000 0 0 0] (diskH s) (fun r H' => r = sv (dRaw s) ∧ H' = diskH s) := by
  have hb : ((brows (flat s.cells)).drop 0).take (64 * s.cells.length) = brows (flat s.cells) := by
    rw [List.drop_zero, List.take_of_length_le (by simp [brows, flat_len hs.c])]
  refine ACalls.body Try.func41 rfl Try.ntmps41 (Nat.le_of_ble_eq_true rfl) ?_
  refine awp_seq ?_
  refine awp_region ?_
  refine al_d rfl rfl rfl (by exact opd_assign rfl rfl) ?_
  refine al_nil ?_
  refine awp_seq ?_
  refine awp_seq ?_
  refine awp_region ?_
  refine al_d rfl rfl rfl (by exact opd_move rfl rfl) ?_
  refine al_d rfl rfl rfl (by exact (by first | exact opd_peq_ref rfl Try.underlying46 rfl rfl rfl rfl | exact opd_peq_nil rfl Try.underlying46 rfl rfl)) ?_
  refine al_nil ?_
  refine awp_cond rfl (fun hc1 => ?_) (fun hc1 => ?_)
  -- cond 1
  · cases hc1
  · skip
    refine awp_skip ?_
    refine awp_seq ?_
    refine awp_region ?_
    refine al_d rfl rfl rfl (by exact opd_move rfl rfl) ?_
    refine al_d rfl rfl rfl (by exact (by first | exact opd_nilCheck_ref rfl rfl rfl rfl | exact opd_nilCheck_fn rfl rfl)) ?_
    refine al_d rfl rfl rfl (by exact (by first | exact opd_field_ref rfl fo94_0 rfl rfl rfl rfl | exact opd_field_pad rfl fo94_0 rfl rfl)) ?_
    refine al_d rfl rfl rfl (by exact (by first | exact opd_load1_ref rfl Try.isAgg90 rfl rfl rfl rfl rfl | exact opd_load1_pad rfl Try.isAgg90 rfl (by first | omega | assumption) rfl)) ?_
    refine al_d rfl rfl rfl (by exact opd_bytes_str rfl Try.underlying90 Try.underlying5 Try.underlying9 rfl rfl rfl rfl hb rfl) ?_
    refine al_d rfl rfl rfl (by exact opd_assign rfl rfl) ?_
    refine al_nil ?_
    refine awp_ret ?_
    -- return
    refine aret1 (H' := diskH s) (by first | exact .inr rfl | exact .inl rfl) rfl (rval_tmp rfl) (Fin.wk (by first | (simp; done) | (simp; rfl)) ⟨⟨_, rfl, rfl⟩, (by first | (simp; done) | (simp; rfl) | exact clo_map _ _ _ | exact clo_brows _ _ | exact disk_clo _ _ rfl rfl rfl | exact arm_clo _ _ | (simp; exact ⟨rfl, rfl⟩) | (simp; exact ⟨rfl, rfl, rfl⟩) | exact arm_clo .never _ | exact arm_clo (.off _ _ _) _ | exact arm_clo (.on _ _ _) _), ⟨_, rfl, rfl⟩, (by first | (simp; done) | (simp; rfl) | exact clo_map _ _ _ | exact clo_brows _ _ | exact disk_clo _ _ rfl rfl rfl | exact arm_clo _ _ | (simp; exact ⟨rfl, rfl⟩) | (simp; exact ⟨rfl, rfl, rfl⟩) | exact arm_clo .never _ | exact arm_clo (.off _ _ _) _ | exact arm_clo (.on _ _ _) _), ⟨_, rfl, rfl⟩, (by first | (simp; done) | (simp; rfl) | exact clo_map _ _ _ | exact clo_brows _ _ | exact disk_clo _ _ rfl rfl rfl | exact arm_clo _ _ | (simp; exact ⟨rfl, rfl⟩) | (simp; exact ⟨rfl, rfl, rfl⟩) | exact arm_clo .never _ | exact arm_clo (.off _ _ _) _ | exact arm_clo (.on _ _ _) _), ⟨_, rfl, rfl⟩, (by first | (simp; done) | (simp; rfl) | exact clo_map _ _ _ | exact clo_brows _ _ | exact disk_clo _ _ rfl rfl rfl | exact arm_clo _ _ | (simp; exact ⟨rfl, rfl⟩) | (simp; exact ⟨rfl, rfl, rfl⟩) | exact arm_clo .never _ | exact arm_clo (.off _ _ _) _ | exact arm_clo (.on _ _ _) _), trivial⟩ ⟨rfl, rfl, rfl, rfl, trivial⟩) ?_
    exact ⟨rfl, rfl⟩
/-! ### Rot -/
def flip (c : ByteArray) (i m : Nat) : ByteArray := ⟨(c.data.toList.set i (((c.data.toList[i]?).getD 0) ^^^ UInt8.ofNat m)).toArray⟩
theorem flip_size (c : ByteArray) (i m : Nat) : (flip c i m).size = c.size := by
  show (List.toArray _).size = _
  rw [List.size_toArray, List.length_set, ba_size]
theorem flip_list (c : ByteArray) (i m : Nat) : (flip c i m).data.toList = c.data.toList.set i (((c.data.toList[i]?).getD 0) ^^^ UInt8.ofNat m) := by simp [flip]
theorem xor_u8 (x : UInt8) (m : Nat) (hm : m < 256) : bits .xor .u8 (x.toNat : Int) (m : Int) = ((x ^^^ UInt8.ofNat m).toNat : Int) := by
  have h1 : x.toNat < 2 ^ 8 := x.toNat_lt
  have h2 : (x.toNat ^^^ m) < 2 ^ 8 := Nat.xor_lt_two_pow h1 (by omega)
  have e1 : (BitVec.ofInt 8 (x.toNat : Int) ^^^ BitVec.ofInt 8 (m : Int)).toNat = x.toNat ^^^ m := by
    rw [BitVec.ofInt_natCast, BitVec.ofInt_natCast, BitVec.toNat_xor, BitVec.toNat_ofNat, BitVec.toNat_ofNat, Nat.mod_eq_of_lt h1, Nat.mod_eq_of_lt (by omega)]
  have e2 : (x ^^^ UInt8.ofNat m).toNat = x.toNat ^^^ m := by
    rw [UInt8.toNat_xor, UInt8.toNat_ofNat', Nat.mod_eq_of_lt (by omega)]
  unfold bits
  show IntKind.u8.wrap ((BitVec.ofInt 8 (x.toNat : Int) ^^^ BitVec.ofInt 8 (m : Int)).toNat : Int) = _
  rw [e1, e2, wu8 (by omega) (by omega)]
def rotOk (s : DSt) (k p m : Int) : Bool := secOk s k && (decide (0 ≤ p) && decide (p < 64) && decide (0 < m) && decide (m < 256))
def dRot (s : DSt) (k p m : Int) : DSt := if rotOk s k p m then { s with cells := s.cells.set k.toNat (flip ((s.cells[k.toNat]?).getD ⟨#[]⟩) p.toNat m.toNat) } else s
theorem set_part {l : List ByteArray} (h : ∀ c, c ∈ l → c.size = 64) {k i : Nat} {c : ByteArray} (hk : l[k]? = some c) (hi : i < 64) (b : UInt8) (d : ByteArray) (hd : d.data.toList = c.data.toList.set i b) :
    (flat l).set (64 * k + i) b = flat (l.set k d) ∧ (flat l)[64 * k + i]? = c.data.toList[i]? := by
  obtain ⟨hlt, he⟩ := List.getElem?_eq_some_iff.1 hk
  have hsplit : flat l = flat (l.take k) ++ (c.data.toList ++ flat (l.drop (k + 1))) := by
    conv => lhs; rw [← List.take_append_drop k l, List.drop_eq_getElem_cons hlt, he]
    rw [flat_app, flat_cons]
  have h1 : (flat (l.take k)).length = 64 * k := by
    rw [flat_len (fun c hc => h c (List.mem_of_mem_take hc)), List.length_take]; congr 1; omega
  have h2 : c.data.toList.length = 64 := by rw [ba_size]; exact h c (List.mem_of_getElem? hk)
  have hset : l.set k d = l.take k ++ (d :: l.drop (k + 1)) := by rw [List.set_eq_take_append_cons_drop, if_pos hlt]
  constructor
  · rw [hset, flat_app, flat_cons, hsplit, List.set_append_right _ _ (by omega), h1, List.set_append_left _ _ (by omega), hd, show 64 * k + i - 64 * k = i by omega]
  · rw [hsplit, List.getElem?_append_right (by omega), h1, List.getElem?_append_left (by omega), show 64 * k + i - 64 * k = i by omega]
theorem place_yesN (s : DSt) (n : Nat) (hs : DOk s) (e : n < s.cells.length) : ACalls Try.prog 62 [.ref 1000 0 0 0, iv (n : Int)] (diskH s) (fun r H' => r = .tup [.agg (spotN n), bv true] ∧ H' = diskH s) := by
  have h := place_yes s n hs (by rw [secOk_nat]; simpa using e)
  rw [spotN_eq] at h; exact h
theorem rot_c (s : DSt) (k p m : Int) (hs : DOk s) :
    ACalls Try.prog 40 [.ref 1000 0 0 0, iv k, iv p, iv m] (diskH s) (fun r H' => r = .tup [] ∧ H' = diskH (dRot s k p m)) := by
  refine ACalls.body Try.func40 rfl Try.ntmps40 (Nat.le_of_ble_eq_true rfl) ?_
  rcases secOk_cases s k with e | ⟨n, rfl, hn⟩
  · skip
    refine awp_seq ?_
    refine awp_region ?_
    refine al_d rfl rfl rfl (by exact opd_move rfl rfl) ?_
    refine al_d rfl rfl rfl (by exact opd_move rfl rfl) ?_
    refine al_d rfl rfl rfl (by exact opr_call rfl rfl Try.call62 rfl (disk_frame (place_no s k hs e) _ ⟨rfl, rfl, rfl, rfl, trivial⟩ (by simp; rfl))) ?_
    refine al_d rfl rfl rfl (by exact opd_move rfl rfl) ?_
    refine al_d rfl rfl rfl (by exact opd_extract rfl rfl rfl) ?_
    refine al_d rfl rfl rfl (by exact opd_extract rfl rfl rfl) ?_
    refine al_d rfl rfl rfl (by exact x_alloc (id := 8) rfl zo100 rfl rfl) ?_
    refine al_n rfl rfl (by exact (by first | exact x_store_all rfl Try.sizeOf100 rfl rfl rfl rfl rfl rfl rfl rfl | exact x_store rfl Try.sizeOf100 rfl rfl rfl rfl rfl rfl rfl (by simp only [List.length_cons, List.length_nil]; omega) (by simp only [List.drop_succ_cons, List.drop_zero, List.take_succ_cons, List.take_zero, List.take_nil, List.map_cons, List.map_nil, List.set_cons_zero, List.set_cons_succ, List.cons_append, List.nil_append, encQ, armR, dRow]; rfl) (by simp only [List.drop_succ_cons, List.drop_zero, List.take_succ_cons, List.take_zero, List.take_nil, List.map_cons, List.map_nil, List.set_cons_zero, List.set_cons_succ, List.cons_append, List.nil_append, encQ, armR, dRow]; rfl))) ?_
    refine al_d rfl rfl rfl (by exact opd_assign rfl rfl) ?_
    refine al_nil ?_
    refine awp_seq ?_
    refine awp_bool (t := 32) (n := 21) (X := false) ?_ ?_
    · all_goals (refine al_d rfl rfl rfl (by exact opd_move rfl rfl) ?_)
      all_goals (refine al_d rfl rfl rfl (by exact opd_move rfl rfl) ?_)
      all_goals (first | refine al_split (t := 17) rfl (fun h17 => ?_) (fun h17 => ?_) | skip)
      all_goals (try contradiction)
      all_goals (first | refine al_off rfl rfl rfl rfl rfl ?_ | refine al_offu rfl rfl rfl rfl ?_ | refine al_ond rfl rfl rfl rfl rfl rfl (by exact opd_move rfl rfl) ?_)
      all_goals (first | refine al_off rfl rfl rfl rfl rfl ?_ | refine al_offu rfl rfl rfl rfl ?_ | refine al_ond rfl rfl rfl rfl rfl rfl (by exact opd_geq rfl rfl rfl) ?_)
      all_goals (refine al_d rfl rfl rfl (by exact (by first | exact opd_pick_t rfl rfl rfl | exact opd_pick_f rfl rfl rfl | exact opd_pickt rfl rfl (by assumption) rfl | exact opd_pickf rfl rfl (by assumption) rfl | exact opd_pick rfl rfl rfl)) ?_)
      all_goals (refine al_d rfl rfl rfl (by exact opd_move rfl rfl) ?_)
      all_goals (first | refine al_split (t := 21) rfl (fun h21 => ?_) (fun h21 => ?_) | skip)
      all_goals (try contradiction)
      all_goals (first | refine al_off rfl rfl rfl rfl rfl ?_ | refine al_offu rfl rfl rfl rfl ?_ | refine al_ond rfl rfl rfl rfl rfl rfl (by exact opd_move rfl rfl) ?_)
      all_goals (first | refine al_off rfl rfl rfl rfl rfl ?_ | refine al_offu rfl rfl rfl rfl ?_ | refine al_ond rfl rfl rfl rfl rfl rfl (by exact opd_lss rfl rfl rfl) ?_)
      all_goals (refine al_d rfl rfl rfl (by exact (by first | exact opd_pick_t rfl rfl rfl | exact opd_pick_f rfl rfl rfl | exact opd_pickt rfl rfl (by assumption) rfl | exact opd_pickf rfl rfl (by assumption) rfl | exact opd_pick rfl rfl rfl)) ?_)
      all_goals (refine al_d rfl rfl rfl (by exact opd_move rfl rfl) ?_)
      all_goals (first | refine al_split (t := 25) rfl (fun h25 => ?_) (fun h25 => ?_) | skip)
      all_goals (try contradiction)
      all_goals (first | refine al_off rfl rfl rfl rfl rfl ?_ | refine al_offu rfl rfl rfl rfl ?_ | refine al_ond rfl rfl rfl rfl rfl rfl (by exact opd_move rfl rfl) ?_)
      all_goals (first | refine al_off rfl rfl rfl rfl rfl ?_ | refine al_offu rfl rfl rfl rfl ?_ | refine al_ond rfl rfl rfl rfl rfl rfl (by exact opd_gtr rfl rfl rfl) ?_)
      all_goals (refine al_d rfl rfl rfl (by exact (by first | exact opd_pick_t rfl rfl rfl | exact opd_pick_f rfl rfl rfl | exact opd_pickt rfl rfl (by assumption) rfl | exact opd_pickf rfl rfl (by assumption) rfl | exact opd_pick rfl rfl rfl)) ?_)
      all_goals (refine al_d rfl rfl rfl (by exact opd_move rfl rfl) ?_)
      all_goals (first | refine al_split (t := 29) rfl (fun h29 => ?_) (fun h29 => ?_) | skip)
      all_goals (try contradiction)
      all_goals (first | refine al_off rfl rfl rfl rfl rfl ?_ | refine al_offu rfl rfl rfl rfl ?_ | refine al_ond rfl rfl rfl rfl rfl rfl (by exact opd_move rfl rfl) ?_)
      all_goals (first | refine al_off rfl rfl rfl rfl rfl ?_ | refine al_offu rfl rfl rfl rfl ?_ | refine al_ond rfl rfl rfl rfl rfl rfl (by exact opd_lss rfl rfl rfl) ?_)
      all_goals (refine al_d rfl rfl rfl (by exact (by first | exact opd_pick_t rfl rfl rfl | exact opd_pick_f rfl rfl rfl | exact opd_pickt rfl rfl (by assumption) rfl | exact opd_pickf rfl rfl (by assumption) rfl | exact opd_pick rfl rfl rfl)) ?_)
      all_goals (refine al_nil ?_)
      all_goals (exact ⟨⟨_, rfl, by first | rfl | (simp only [*, Bool.false_and, Bool.true_and, Bool.and_false, Bool.and_true, Bool.true_or, Bool.false_or, Bool.or_true, Bool.or_false, Bool.not_true, Bool.not_false]; done) | (simp_all; done) | (simp_all; omega)⟩, rfl, rfl, rfl⟩)
    refine awp_cond rfl (fun hc1 => ?_) (fun hc1 => ?_)
    -- cond 1
    · cases hc1
    · skip
      refine awp_skip ?_
      -- end of the body
      refine aret0 (H' := diskH s) (by first | exact .inr rfl | exact .inl rfl) rfl  (Fin.wk (by first | (simp; done) | (simp; rfl)) ⟨⟨_, rfl, rfl⟩, (by first | (simp; done) | (simp; rfl) | exact clo_map _ _ _ | exact clo_brows _ _ | exact disk_clo _ _ rfl rfl rfl | exact arm_clo _ _ | (simp; exact ⟨rfl, rfl⟩) | (simp; exact ⟨rfl, rfl, rfl⟩) | exact arm_clo .never _ | exact arm_clo (.off _ _ _) _ | exact arm_clo (.on _ _ _) _), ⟨_, rfl, rfl⟩, (by first | (simp; done) | (simp; rfl) | exact clo_map _ _ _ | exact clo_brows _ _ | exact disk_clo _ _ rfl rfl rfl | exact arm_clo _ _ | (simp; exact ⟨rfl, rfl⟩) | (simp; exact ⟨rfl, rfl, rfl⟩) | exact arm_clo .never _ | exact arm_clo (.off _ _ _) _ | exact arm_clo (.on _ _ _) _), ⟨_, rfl, rfl⟩, (by first | (simp; done) | (simp; rfl) | exact clo_map _ _ _ | exact clo_brows _ _ | exact disk_clo _ _ rfl rfl rfl | exact arm_clo _ _ | (simp; exact ⟨rfl, rfl⟩) | (simp; exact ⟨rfl, rfl, rfl⟩) | exact arm_clo .never _ | exact arm_clo (.off _ _ _) _ | exact arm_clo (.on _ _ _) _), ⟨_, rfl, rfl⟩, (by first | (simp; done) | (simp; rfl) | exact clo_map _ _ _ | exact clo_brows _ _ | exact disk_clo _ _ rfl rfl rfl | exact arm_clo _ _ | (simp; exact ⟨rfl, rfl⟩) | (simp; exact ⟨rfl, rfl, rfl⟩) | exact arm_clo .never _ | exact arm_clo (.off _ _ _) _ | exact arm_clo (.on _ _ _) _), trivial⟩ ⟨rfl, rfl, rfl, rfl, trivial⟩) ?_
      exact ⟨rfl, by simp [dRot, rotOk, e]⟩
  · have e : secOk s (n : Int) = true := by rw [secOk_nat]; simpa using hn
    refine awp_seq ?_
    refine awp_region ?_
    refine al_d rfl rfl rfl (by exact opd_move rfl rfl) ?_
    refine al_d rfl rfl rfl (by exact opd_move rfl rfl) ?_
    refine al_d rfl rfl rfl (by exact opr_call rfl rfl Try.call62 rfl (disk_frame (place_yesN s n hs hn) _ ⟨rfl, rfl, rfl, rfl, trivial⟩ (by simp; rfl))) ?_
    refine al_d rfl rfl rfl (by exact opd_move rfl rfl) ?_
    refine al_d rfl rfl rfl (by exact opd_extract rfl rfl rfl) ?_
    refine al_d rfl rfl rfl (by exact opd_extract rfl rfl rfl) ?_
    refine al_d rfl rfl rfl (by exact x_alloc (id := 8) rfl zo100 rfl rfl) ?_
    refine al_n rfl rfl (by exact (by first | exact x_store_all rfl Try.sizeOf100 rfl rfl rfl rfl rfl rfl rfl rfl | exact x_store rfl Try.sizeOf100 rfl rfl rfl rfl rfl rfl rfl (by simp only [List.length_cons, List.length_nil]; omega) (by simp only [List.drop_succ_cons, List.drop_zero, List.take_succ_cons, List.take_zero, List.take_nil, List.map_cons, List.map_nil, List.set_cons_zero, List.set_cons_succ, List.cons_append, List.nil_append, encQ, armR, dRow]; rfl) (by simp only [List.drop_succ_cons, List.drop_zero, List.take_succ_cons, List.take_zero, List.take_nil, List.map_cons, List.map_nil, List.set_cons_zero, List.set_cons_succ, List.cons_append, List.nil_append, encQ, armR, dRow]; rfl))) ?_
    refine al_d rfl rfl rfl (by exact opd_assign rfl rfl) ?_
    refine al_nil ?_
    refine awp_seq ?_
    refine awp_bool (t := 32) (n := 21) (X := decide (0 ≤ p) && decide (p < 64) && decide (0 < m) && decide (m < 256)) ?_ ?_
    · all_goals (refine al_d rfl rfl rfl (by exact opd_move rfl rfl) ?_)
      all_goals (refine al_d rfl rfl rfl (by exact opd_move rfl rfl) ?_)
      all_goals (first | refine al_split (t := 17) rfl (fun h17 => ?_) (fun h17 => ?_) | skip)
      all_goals (try contradiction)
      all_goals (first | refine al_off rfl rfl rfl rfl rfl ?_ | refine al_offu rfl rfl rfl rfl ?_ | refine al_ond rfl rfl rfl rfl rfl rfl (by exact opd_move rfl rfl) ?_)
      all_goals (first | refine al_off rfl rfl rfl rfl rfl ?_ | refine al_offu rfl rfl rfl rfl ?_ | refine al_ond rfl rfl rfl rfl rfl rfl (by exact opd_geq rfl rfl rfl) ?_)
      all_goals (refine al_d rfl rfl rfl (by exact (by first | exact opd_pick_t rfl rfl rfl | exact opd_pick_f rfl rfl rfl | exact opd_pickt rfl rfl (by assumption) rfl | exact opd_pickf rfl rfl (by assumption) rfl | exact opd_pick rfl rfl rfl)) ?_)
      all_goals (refine al_d rfl rfl rfl (by exact opd_move rfl rfl) ?_)
      all_goals (first | refine al_split (t := 21) rfl (fun h21 => ?_) (fun h21 => ?_) | skip)
      all_goals (try contradiction)
      all_goals (first | refine al_off rfl rfl rfl rfl rfl ?_ | refine al_offu rfl rfl rfl rfl ?_ | refine al_ond rfl rfl rfl rfl rfl rfl (by exact opd_move rfl rfl) ?_)
      all_goals (first | refine al_off rfl rfl rfl rfl rfl ?_ | refine al_offu rfl rfl rfl rfl ?_ | refine al_ond rfl rfl rfl rfl rfl rfl (by exact opd_lss rfl rfl rfl) ?_)
      all_goals (refine al_d rfl rfl rfl (by exact (by first | exact opd_pick_t rfl rfl rfl | exact opd_pick_f rfl rfl rfl | exact opd_pickt rfl rfl (by assumption) rfl | exact opd_pickf rfl rfl (by assumption) rfl | exact opd_pick rfl rfl rfl)) ?_)
      all_goals (refine al_d rfl rfl rfl (by exact opd_move rfl rfl) ?_)
      all_goals (first | refine al_split (t := 25) rfl (fun h25 => ?_) (fun h25 => ?_) | skip)
      all_goals (try contradiction)
      all_goals (first | refine al_off rfl rfl rfl rfl rfl ?_ | refine al_offu rfl rfl rfl rfl ?_ | refine al_ond rfl rfl rfl rfl rfl rfl (by exact opd_move rfl rfl) ?_)
      all_goals (first | refine al_off rfl rfl rfl rfl rfl ?_ | refine al_offu rfl rfl rfl rfl ?_ | refine al_ond rfl rfl rfl rfl rfl rfl (by exact opd_gtr rfl rfl rfl) ?_)
      all_goals (refine al_d rfl rfl rfl (by exact (by first | exact opd_pick_t rfl rfl rfl | exact opd_pick_f rfl rfl rfl | exact opd_pickt rfl rfl (by assumption) rfl | exact opd_pickf rfl rfl (by assumption) rfl | exact opd_pick rfl rfl rfl)) ?_)
      all_goals (refine al_d rfl rfl rfl (by exact opd_move rfl rfl) ?_)
      all_goals (first | refine al_split (t := 29) rfl (fun h29 => ?_) (fun h29 => ?_) | skip)
      all_goals (try contradiction)
      all_goals (first | refine al_off rfl rfl rfl rfl rfl ?_ | refine al_offu rfl rfl rfl rfl ?_ | refine al_ond rfl rfl rfl rfl rfl rfl (by exact opd_move rfl rfl) ?_)
      all_goals (first | refine al_off rfl rfl rfl rfl rfl ?_ | refine al_offu rfl rfl rfl rfl ?_ | refine al_ond rfl rfl rfl rfl rfl rfl (by exact opd_lss rfl rfl rfl) ?_)
      all_goals (refine al_d rfl rfl rfl (by exact (by first | exact opd_pick_t rfl rfl rfl | exact opd_pick_f rfl rfl rfl | exact opd_pickt rfl rfl (by assumption) rfl | exact opd_pickf rfl rfl (by assumption) rfl | exact opd_pick rfl rfl rfl)) ?_)
      all_goals (refine al_nil ?_)
      all_goals (exact ⟨⟨_, rfl, by first | rfl | (simp only [*, Bool.false_and, Bool.true_and, Bool.and_false, Bool.and_true, Bool.true_or, Bool.false_or, Bool.or_true, Bool.or_false, Bool.not_true, Bool.not_false]; done) | (simp_all; done) | (simp_all; omega)⟩, rfl, rfl, rfl⟩)
    refine awp_cond rfl (fun hc2 => ?_) (fun hc2 => ?_)
    -- cond 2
    · have hro : rotOk s n p m = true := by rw [rotOk, e, hc2]; rfl
      obtain ⟨⟨⟨h1, h2⟩, h3⟩, h4⟩ : ((0 ≤ p ∧ p < 64) ∧ 0 < m) ∧ m < 256 := by simpa using hc2
      obtain ⟨i, rfl⟩ : ∃ i : Nat, p = (i : Int) := ⟨p.toNat, by omega⟩
      obtain ⟨x, rfl⟩ : ∃ x : Nat, m = (x : Int) := ⟨m.toNat, by omega⟩
      obtain ⟨c, hc⟩ := get_of_lt hn
      have hcs := hs.c c (List.mem_of_getElem? hc)
      have hfl := flat_len hs.c
      obtain ⟨y, hy⟩ := get_of_lt (l := c.data.toList) (k := i) (by rw [ba_size]; omega)
      have hfl2 := flip_list c i x
      rw [hy, Option.getD_some] at hfl2
      obtain ⟨p1, p2⟩ := set_part hs.c hc (show i < 64 by omega) (y ^^^ UInt8.ofNat x) (flip c i x) hfl2
      have hw : IntKind.i64.wrap (((64 * n : Nat) : Int) + (i : Int)) = ((64 * n + i : Nat) : Int) := by
        have := hs.n2
        rw [w64 (by omega) (by omega)]; omega
      have hrow : (brows (flat s.cells))[64 * n + i]? = some [.pv (.int .u8 y.toNat)] := by
        rw [brows, List.getElem?_map, p2, hy]; rfl
      have hx := xor_u8 y x (by omega)
      have hset : (brows (flat s.cells)).set (64 * n + i) [.pv (.int .u8 (y ^^^ UInt8.ofNat x).toNat)] = brows (flat (s.cells.set n (flip c i x))) := by
        rw [← p1]; exact List.map_set.symm
      have hlen : (s.cells.set n (flip c i x)).length = s.cells.length := List.length_set
      have hu : IntKind.u8.wrap (x : Int) = (x : Int) := wu8 (by omega) (by omega)
      have hdr : dRot s n i x = { s with cells := s.cells.set n (flip c i x) } := by simp [dRot, hro, hc]
      refine awp_drawc follows ?_
      refine dc_cons (r := ⟨_, some [1000], []⟩) (DStep.plain rfl (fun H1 hH => by exact opd_move rfl rfl)) rfl ?_
      refine dc_cons (r := ⟨_, some [1000], []⟩) (DStep.plain rfl (fun H1 hH => by exact (by first | exact opd_nilCheck_ref rfl rfl ((hH _ rfl).trans rfl) rfl | exact opd_nilCheck_fn rfl rfl))) rfl ?_
      refine dc_cons (r := ⟨_, some [1000], []⟩) (DStep.plain rfl (fun H1 hH => by exact (by first | exact opd_field_ref rfl fo94_0 rfl ((hH _ rfl).trans rfl) rfl rfl | exact opd_field_pad rfl fo94_0 rfl rfl))) rfl ?_
      refine dc_cons (r := ⟨_, some [1000], []⟩) (DStep.plain rfl (fun H1 hH => by exact (by first | exact opd_load1_ref rfl Try.isAgg90 rfl ((hH _ rfl).trans rfl) rfl rfl rfl | exact opd_load1_pad rfl Try.isAgg90 rfl (by first | omega | assumption) rfl))) rfl ?_
      refine dc_cons (r := ⟨_, some [8], []⟩) (DStep.plain rfl (fun H1 hH => by exact (by first | exact opd_field_ref rfl fo100_0 rfl ((hH _ rfl).trans rfl) rfl rfl | exact opd_field_pad rfl fo100_0 rfl rfl))) rfl ?_
      refine dc_cons (r := ⟨_, some [8], []⟩) (DStep.plain rfl (fun H1 hH => by exact (by first | exact opd_load1_ref rfl Try.isAgg3 rfl ((hH _ rfl).trans rfl) rfl rfl rfl | exact opd_load1_pad rfl Try.isAgg3 rfl (by first | omega | assumption) rfl))) rfl ?_
      refine dc_cons (r := ⟨_, some [], []⟩) (DStep.plain rfl (fun H1 hH => by exact opd_move rfl rfl)) rfl ?_
      refine dc_cons (r := ⟨_, some [], []⟩) (DStep.plain rfl (fun H1 hH => by exact opd_add rfl rfl rfl hw)) rfl ?_
      refine dc_cons (r := ⟨_, some [1001], []⟩) (DStep.plain rfl (fun H1 hH => by exact (by first | exact x_index_pad rfl so90 rfl rfl (by omega) (by first | exact Int.toNat_natCast _ | rfl) (by assumption) rfl | exact x_index_osl rfl so90 rfl ((hH _ rfl).trans rfl) rfl rfl rfl (by omega) (by first | exact Int.toNat_natCast _ | rfl) (by first | omega | assumption) (Nat.zero_add _)))) rfl ?_
      refine dc_cons (r := ⟨_, some [1001], []⟩) (DStep.plain rfl (fun H1 hH => by exact (by first | exact opd_load1_ref rfl Try.isAgg5 rfl ((hH _ rfl).trans rfl) rfl hrow rfl | exact opd_load1_pad rfl Try.isAgg5 rfl hrow rfl))) rfl ?_
      refine dc_cons (r := ⟨_, some [], []⟩) (DStep.plain rfl (fun H1 hH => by exact opd_move rfl rfl)) rfl ?_
      refine dc_cons (r := ⟨_, some [], []⟩) (DStep.plain rfl (fun H1 hH => by exact opd_conv_int rfl Try.underlying3 Try.underlying5 rfl hu)) rfl ?_
      refine dc_cons (r := ⟨_, some [], []⟩) (DStep.plain rfl (fun H1 hH => by exact opd_bits rfl (by simp) rfl rfl hx)) rfl ?_
      refine dc_cons (r := ⟨_, some [1001], []⟩) (DStep.plain rfl (fun H1 hH => by exact (by first | exact x_index_pad rfl so90 rfl rfl (by omega) (by first | exact Int.toNat_natCast _ | rfl) (by assumption) rfl | exact x_index_osl rfl so90 rfl ((hH _ rfl).trans rfl) rfl rfl rfl (by omega) (by first | exact Int.toNat_natCast _ | rfl) (by first | omega | assumption) (Nat.zero_add _)))) rfl ?_
      refine dc_cons (r := ⟨_, some [1001], [_]⟩) (DStep.plain rfl (fun H1 hH => by exact x_store1 rfl Try.sizeOf5 rfl rfl rfl ((hH 1001 rfl).trans rfl) rfl hrow (by simp) rfl hset)) rfl ?_
      refine dc_nil ⟨by kernel_rfl, ?_⟩
      -- end of the body
      refine aret0 (H' := dH (dRow s) (s.cells.set n (flip c i x)) s) (by first | exact .inr rfl | exact .inl rfl) rfl  (Fin.wk (by first | (simp; done) | (simp; rfl)) ⟨⟨_, rfl, rfl⟩, (by first | (simp; done) | (simp; rfl) | exact clo_map _ _ _ | exact clo_brows _ _ | exact disk_clo _ _ rfl rfl rfl | exact arm_clo _ _ | (simp; exact ⟨rfl, rfl⟩) | (simp; exact ⟨rfl, rfl, rfl⟩) | exact arm_clo .never _ | exact arm_clo (.off _ _ _) _ | exact arm_clo (.on _ _ _) _), ⟨_, rfl, rfl⟩, (by first | (simp; done) | (simp; rfl) | exact clo_map _ _ _ | exact clo_brows _ _ | exact disk_clo _ _ rfl rfl rfl | exact arm_clo _ _ | (simp; exact ⟨rfl, rfl⟩) | (simp; exact ⟨rfl, rfl, rfl⟩) | exact arm_clo .never _ | exact arm_clo (.off _ _ _) _ | exact arm_clo (.on _ _ _) _), ⟨_, rfl, rfl⟩, (by first | (simp; done) | (simp; rfl) | exact clo_map _ _ _ | exact clo_brows _ _ | exact disk_clo _ _ rfl rfl rfl | exact arm_clo _ _ | (simp; exact ⟨rfl, rfl⟩) | (simp; exact ⟨rfl, rfl, rfl⟩) | exact arm_clo .never _ | exact arm_clo (.off _ _ _) _ | exact arm_clo (.on _ _ _) _), ⟨_, rfl, rfl⟩, (by first | (simp; done) | (simp; rfl) | exact clo_map _ _ _ | exact clo_brows _ _ | exact disk_clo _ _ rfl rfl rfl | exact arm_clo _ _ | (simp; exact ⟨rfl, rfl⟩) | (simp; exact ⟨rfl, rfl, rfl⟩) | exact arm_clo .never _ | exact arm_clo (.off _ _ _) _ | exact arm_clo (.on _ _ _) _), trivial⟩ ⟨rfl, rfl, rfl, rfl, trivial⟩) ?_
      exact ⟨rfl, by rw [hdr]; simp only [diskH, dH, dRow, hlen]⟩
    · have hro : rotOk s n p m = false := by rw [rotOk, e, hc2]; rfl
      refine awp_skip ?_
      -- end of the body
      refine aret0 (H' := diskH s) (by first | exact .inr rfl | exact .inl rfl) rfl  (Fin.wk (by first | (simp; done) | (simp; rfl)) ⟨⟨_, rfl, rfl⟩, (by first | (simp; done) | (simp; rfl) | exact clo_map _ _ _ | exact clo_brows _ _ | exact disk_clo _ _ rfl rfl rfl | exact arm_clo _ _ | (simp; exact ⟨rfl, rfl⟩) | (simp; exact ⟨rfl, rfl, rfl⟩) | exact arm_clo .never _ | exact arm_clo (.off _ _ _) _ | exact arm_clo (.on _ _ _) _), ⟨_, rfl, rfl⟩, (by first | (simp; done) | (simp; rfl) | exact clo_map _ _ _ | exact clo_brows _ _ | exact disk_clo _ _ rfl rfl rfl | exact arm_clo _ _ | (simp; exact ⟨rfl, rfl⟩) | (simp; exact ⟨rfl, rfl, rfl⟩) | exact arm_clo .never _ | exact arm_clo (.off _ _ _) _ | exact arm_clo (.on _ _ _) _), ⟨_, rfl, rfl⟩, (by first | (simp; done) | (simp; rfl) | exact clo_map _ _ _ | exact clo_brows _ _ | exact disk_clo _ _ rfl rfl rfl | exact arm_clo _ _ | (simp; exact ⟨rfl, rfl⟩) | (simp; exact ⟨rfl, rfl, rfl⟩) | exact arm_clo .never _ | exact arm_clo (.off _ _ _) _ | exact arm_clo (.on _ _ _) _), ⟨_, rfl, rfl⟩, (by first | (simp; done) | (simp; rfl) | exact clo_map _ _ _ | exact clo_brows _ _ | exact disk_clo _ _ rfl rfl rfl | exact arm_clo _ _ | (simp; exact ⟨rfl, rfl⟩) | (simp; exact ⟨rfl, rfl, rfl⟩) | exact arm_clo .never _ | exact arm_clo (.off _ _ _) _ | exact arm_clo (.on _ _ _) _), trivial⟩ ⟨rfl, rfl, rfl, rfl, trivial⟩) ?_
      exact ⟨rfl, by simp [dRot, hro]⟩
end Go.Proofs.Ytljocbkebhgkoaa
