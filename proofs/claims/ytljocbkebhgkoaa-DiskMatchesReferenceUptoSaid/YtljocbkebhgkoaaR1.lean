/-
  THE REFERENCE DISK: its state in memory; contracts: set, settle, Fail, count. Conditions: a disk's state as DOk tells.
-/
import Derived.Test.YtljocbkebhgkoaaD17
set_option linter.unusedVariables false
set_option linter.unusedSimpArgs false
set_option maxRecDepth 100000
namespace Go.Proofs.Ytljocbkebhgkoaa
open Go.Abs

structure RX where
  gs : Nat
  gq : Nat
  a : Int
  w : Int
  b : Int
def armB (s : DSt) : Bool := match s.arm with | .on _ _ _ => true | _ => false
def armA (s : DSt) (x : RX) : Int := match s.arm with | .on a _ _ => a | _ => x.a
def armW (s : DSt) (x : RX) : Int := match s.arm with | .on _ w _ => w | _ => x.w
def armY (s : DSt) (x : RX) : Int := match s.arm with | .on _ _ b => b | _ => x.b
/-- What the alarm's numbers are when it is off. -/
def xDis (s : DSt) (x : RX) : RX := match s.arm with | .on a w b => { x with a := a, w := w, b := b } | _ => x
def encRQ (p : Nat × ByteArray) : List PV := [.int .i64 (p.1 : Int), .str p.2]
abbrev rqRows (l : List (Nat × ByteArray)) : List (List AV) := l.map (fun e => (encRQ e).map .pv)
abbrev rRow (s : DSt) (x : RX) : List AV := [.osl 1101 x.gs 0 s.cells.length, .osl 1102 x.gq 0 s.q.length, bv (!s.off), bv (armB s), iv (armA s x), iv (armW s x), iv (armY s x)]
abbrev refH (s : DSt) (x : RX) : Heap := [(1100, ⟨0, 7, 97, [rRow s x]⟩), (1101, ⟨x.gs, 1, 9, stRows s.cells⟩), (1102, ⟨x.gq, 2, 106, rqRows s.q⟩)]
theorem ref_clo (s : DSt) (x : RX) (H : Heap) (h1 : (H.get 1101).isSome = true) (h2 : (H.get 1102).isSome = true) : ∀ r ∈ [rRow s x], ∀ a ∈ r, Clo H a := by
  intro r hr a ha
  rw [List.mem_singleton.1 hr] at ha
  simp only [rRow, List.mem_cons, List.not_mem_nil, or_false] at ha
  rcases ha with rfl | rfl | rfl | rfl | rfl | rfl | rfl
  · exact .osl h1
  · exact .osl h2
  all_goals exact .pv _
theorem refH_closed (s : DSt) (x : RX) : Closed (refH s x) := Closed.of (fun p hp => by
  simp only [refH, List.mem_cons, List.not_mem_nil, or_false] at hp
  rcases hp with rfl | rfl | rfl
  · exact ref_clo s x _ rfl rfl
  · exact clo_map _ _ _
  · exact clo_map _ _ _)
theorem ref_keys (s s' : DSt) (x x' : RX) (H : Heap) : ∀ id, ((refH s' x').get id).isSome = true → ((refH s x).get id).isSome = true ∨ H.get id = none := by
  intro id h
  left
  simp only [refH, Heap.get] at h ⊢
  cases e0 : Nat.beq 1100 id <;> cases e1 : Nat.beq 1101 id <;> cases e2 : Nat.beq 1102 id <;> simp [e0, e1, e2] at h ⊢
/-- A reference disk's call in a greater heap. -/
theorem ref_frame {f : FuncId} {args : List AV} {s s' : DSt} {x x' : RX} {r0 : AV} (h : ACalls Try.prog f args (refH s x) (fun r H' => r = r0 ∧ H' = refH s' x')) (H : Heap) (hs : subL H (refH s x)) (ha : ∀ a ∈ args, Clo (refH s x) a) :
    ACalls Try.prog f args H (fun r H' => r = r0 ∧ H' = refH s' x' ++ H) := h.frame hs.sub (refH_closed s x) ha (ref_keys s s' x x' H)
/-- The heap of a reference disk, with the row and the contents told apart. -/
abbrev rH (r : List AV) (l : List ByteArray) (s : DSt) (x : RX) : Heap := [(1100, ⟨0, 7, 97, [r]⟩), (1101, ⟨x.gs, 1, 9, stRows l⟩), (1102, ⟨x.gq, 2, 106, rqRows s.q⟩)]
theorem rset_c (s : DSt) (x : RX) (n : Nat) (t : ByteArray) (hn : n < s.cells.length) :
    ACalls Try.prog 76 [.ref 1100 0 0 0, iv (n : Int), sv t] (refH s x) (fun r H' => r = .tup [] ∧ H' = refH { s with cells := s.cells.set n t } x) := by
  obtain ⟨c, hc⟩ := get_of_lt hn
  have hcr := stRows_get hc
  have hlen : (s.cells.set n t).length = s.cells.length := List.length_set
  refine ACalls.body Try.func76 rfl Try.ntmps76 (Nat.le_of_ble_eq_true rfl) ?_
  refine awp_region ?_
  refine al_d rfl rfl rfl (by exact opd_move rfl rfl) ?_
  refine al_d rfl rfl rfl (by exact (by first | exact opd_nilCheck_ref rfl rfl rfl rfl | exact opd_nilCheck_fn rfl rfl)) ?_
  refine al_d rfl rfl rfl (by exact (by first | exact opd_field_ref rfl fo97_0 rfl rfl rfl rfl | exact opd_field_pad rfl fo97_0 rfl rfl)) ?_
  refine al_d rfl rfl rfl (by exact (by first | exact opd_load1_ref rfl Try.isAgg34 rfl rfl rfl rfl rfl | exact opd_load1_pad rfl Try.isAgg34 rfl (by first | omega | assumption) rfl)) ?_
  refine al_d rfl rfl rfl (by exact opd_move rfl rfl) ?_
  refine al_d rfl rfl rfl (by exact opd_move rfl rfl) ?_
  refine al_d rfl rfl rfl (by exact (by first | exact x_index_pad rfl so34 rfl rfl (by omega) (by first | exact Int.toNat_natCast _ | rfl) (by assumption) rfl | exact x_index_osl rfl so34 rfl rfl rfl rfl rfl (by omega) (by first | exact Int.toNat_natCast _ | rfl) (by first | omega | assumption) (Nat.zero_add _))) ?_
  refine al_n rfl rfl (by exact x_store1 rfl Try.sizeOf9 rfl rfl rfl rfl rfl hcr (by simp) rfl (stRows_set _ _ _)) ?_
  refine al_nil ?_
  -- end of the body
  refine aret0 (H' := rH (rRow s x) (s.cells.set n t) s x) (by first | exact .inr rfl | exact .inl rfl) rfl  (Fin.wk (by first | (simp; done) | (simp; rfl)) ⟨⟨_, rfl, rfl⟩, (by first | (simp; done) | (simp; rfl) | exact clo_map _ _ _ | exact ref_clo _ _ _ rfl rfl | (simp; exact ⟨rfl, rfl⟩) | (simp; exact ⟨rfl, rfl, rfl⟩)), ⟨_, rfl, rfl⟩, (by first | (simp; done) | (simp; rfl) | exact clo_map _ _ _ | exact ref_clo _ _ _ rfl rfl | (simp; exact ⟨rfl, rfl⟩) | (simp; exact ⟨rfl, rfl, rfl⟩)), ⟨_, rfl, rfl⟩, (by first | (simp; done) | (simp; rfl) | exact clo_map _ _ _ | exact ref_clo _ _ _ rfl rfl | (simp; exact ⟨rfl, rfl⟩) | (simp; exact ⟨rfl, rfl, rfl⟩)), trivial⟩ ⟨rfl, rfl, rfl, trivial⟩) ?_
  exact ⟨rfl, by simp only [refH, rH, rRow, hlen]; rfl⟩
theorem rsettle_c (s : DSt) (x : RX) (m : Nat) (hs : DOk s) (hm : m ≤ s.q.length) :
    ACalls Try.prog 75 [.ref 1100 0 0 0, iv (m : Int)] (refH s x) (fun r H' => r = .tup [] ∧ H' = refH { s with cells := putAll s.cells (s.q.take m) } x) := by
  have hql := hs.ql
  refine ACalls.body Try.func75 rfl Try.ntmps75 (Nat.le_of_ble_eq_true rfl) ?_
  refine awp_seq ?_
  refine awp_region ?_
  refine al_d rfl rfl rfl (by exact opd_assign rfl rfl) ?_
  refine al_nil ?_
  refine awp_block ?_
  -- loop
  refine awp_loop (σ := Nat) (fun i => ([(0, .ref 1100 0 0 0), (1, iv (m : Int)), (4, iv (i : Int))], refH { s with cells := putAll s.cells (s.q.take i) } x)) (fun i => i ≤ m) (fun i => m - i) 0 (by omega) ?_ ?_
  · exact (Ent.wk ⟨⟨_, rfl, rfl⟩, (by first | (simp; done) | (simp; rfl) | exact clo_map _ _ _ | exact ref_clo _ _ _ rfl rfl | (simp; exact ⟨rfl, rfl⟩) | (simp; exact ⟨rfl, rfl, rfl⟩)), ⟨_, rfl, rfl⟩, (by first | (simp; done) | (simp; rfl) | exact clo_map _ _ _ | exact ref_clo _ _ _ rfl rfl | (simp; exact ⟨rfl, rfl⟩) | (simp; exact ⟨rfl, rfl, rfl⟩)), ⟨_, rfl, rfl⟩, (by first | (simp; done) | (simp; rfl) | exact clo_map _ _ _ | exact ref_clo _ _ _ rfl rfl | (simp; exact ⟨rfl, rfl⟩) | (simp; exact ⟨rfl, rfl, rfl⟩)), trivial⟩ ⟨⟨_, rfl, rfl⟩, (by first | (simp; done) | (simp; rfl) | exact clo_map _ _ _ | exact ref_clo _ _ _ rfl rfl | (simp; exact ⟨rfl, rfl⟩) | (simp; exact ⟨rfl, rfl, rfl⟩)), ⟨_, rfl, rfl⟩, (by first | (simp; done) | (simp; rfl) | exact clo_map _ _ _ | exact ref_clo _ _ _ rfl rfl | (simp; exact ⟨rfl, rfl⟩) | (simp; exact ⟨rfl, rfl, rfl⟩)), ⟨_, rfl, rfl⟩, (by first | (simp; done) | (simp; rfl) | exact clo_map _ _ _ | exact ref_clo _ _ _ rfl rfl | (simp; exact ⟨rfl, rfl⟩) | (simp; exact ⟨rfl, rfl, rfl⟩)), trivial⟩ ⟨rfl, rfl, rfl, trivial⟩)
  · rintro i hi
    refine awp_seq ?_
    refine awp_seq ?_
    refine awp_region ?_
    refine al_d rfl rfl rfl (by exact opd_move rfl rfl) ?_
    refine al_d rfl rfl rfl (by exact opd_move rfl rfl) ?_
    refine al_d rfl rfl rfl (by exact opd_lss rfl rfl rfl) ?_
    refine al_nil ?_
    refine awp_cond rfl (fun hc1 => ?_) (fun hc1 => ?_)
    -- cond 1
    · have hlt : i < m := by have := of_decide_eq_true hc1; omega
      obtain ⟨p, hp⟩ := get_of_lt (show i < s.q.length by omega)
      have hpe : (rqRows s.q)[i]? = some ((encRQ p).map .pv) := by rw [List.getElem?_map, hp]; rfl
      obtain ⟨hp1, hp2⟩ := hs.q p (List.mem_of_getElem? hp)
      have hset := rset_c { s with cells := putAll s.cells (s.q.take i) } x p.1 p.2 (by simpa [putAll_len] using hp1)
      have hn : putAll s.cells (s.q.take (i + 1)) = (putAll s.cells (s.q.take i)).set p.1 p.2 := by rw [take_snoc hp, putAll_snoc]
      rw [← hn] at hset
      refine awp_skip ?_
      refine awp_seq ?_
      refine awp_block ?_
      refine awp_drawc follows ?_
      refine dc_cons (r := ⟨_, some [1100], []⟩) (DStep.plain rfl (fun H1 hH => by exact opd_move rfl rfl)) rfl ?_
      refine dc_cons (r := ⟨_, some [1100], []⟩) (DStep.plain rfl (fun H1 hH => by exact opd_move rfl rfl)) rfl ?_
      refine dc_cons (r := ⟨_, some [1100], []⟩) (DStep.plain rfl (fun H1 hH => by exact (by first | exact opd_nilCheck_ref rfl rfl ((hH _ rfl).trans rfl) rfl | exact opd_nilCheck_fn rfl rfl))) rfl ?_
      refine dc_cons (r := ⟨_, some [1100], []⟩) (DStep.plain rfl (fun H1 hH => by exact (by first | exact opd_field_ref rfl fo97_1 rfl ((hH _ rfl).trans rfl) rfl rfl | exact opd_field_pad rfl fo97_1 rfl rfl))) rfl ?_
      refine dc_cons (r := ⟨_, some [1100], []⟩) (DStep.plain rfl (fun H1 hH => by exact (by first | exact opd_load1_ref rfl Try.isAgg95 rfl ((hH _ rfl).trans rfl) rfl rfl rfl | exact opd_load1_pad rfl Try.isAgg95 rfl (by first | omega | assumption) rfl))) rfl ?_
      refine dc_cons (r := ⟨_, some [], []⟩) (DStep.plain rfl (fun H1 hH => by exact opd_move rfl rfl)) rfl ?_
      refine dc_cons (r := ⟨_, some [1102], []⟩) (DStep.plain rfl (fun H1 hH => by exact (by first | exact x_index_pad rfl so95 rfl rfl (by omega) (by first | exact Int.toNat_natCast _ | rfl) (Nat.lt_of_lt_of_le hlt hm) rfl | exact x_index_osl rfl so95 rfl ((hH _ rfl).trans rfl) rfl rfl rfl (by omega) (by first | exact Int.toNat_natCast _ | rfl) (Nat.lt_of_lt_of_le hlt hm) (Nat.zero_add _)))) rfl ?_
      refine dc_cons (r := ⟨_, some [1102], []⟩) (DStep.plain rfl (fun H1 hH => by exact (by first | exact opd_field_ref rfl fo106_0 rfl ((hH _ rfl).trans rfl) rfl rfl | exact opd_field_pad rfl fo106_0 rfl rfl))) rfl ?_
      refine dc_cons (r := ⟨_, some [1102], []⟩) (DStep.plain rfl (fun H1 hH => by exact (by first | exact opd_load1_ref rfl Try.isAgg3 rfl ((hH _ rfl).trans rfl) rfl hpe rfl | exact opd_load1_pad rfl Try.isAgg3 rfl hpe rfl))) rfl ?_
      refine dc_cons (r := ⟨_, some [1100], []⟩) (DStep.plain rfl (fun H1 hH => by exact opd_move rfl rfl)) rfl ?_
      refine dc_cons (r := ⟨_, some [1100], []⟩) (DStep.plain rfl (fun H1 hH => by exact (by first | exact opd_nilCheck_ref rfl rfl ((hH _ rfl).trans rfl) rfl | exact opd_nilCheck_fn rfl rfl))) rfl ?_
      refine dc_cons (r := ⟨_, some [1100], []⟩) (DStep.plain rfl (fun H1 hH => by exact (by first | exact opd_field_ref rfl fo97_1 rfl ((hH _ rfl).trans rfl) rfl rfl | exact opd_field_pad rfl fo97_1 rfl rfl))) rfl ?_
      refine dc_cons (r := ⟨_, some [1100], []⟩) (DStep.plain rfl (fun H1 hH => by exact (by first | exact opd_load1_ref rfl Try.isAgg95 rfl ((hH _ rfl).trans rfl) rfl rfl rfl | exact opd_load1_pad rfl Try.isAgg95 rfl (by first | omega | assumption) rfl))) rfl ?_
      refine dc_cons (r := ⟨_, some [], []⟩) (DStep.plain rfl (fun H1 hH => by exact opd_move rfl rfl)) rfl ?_
      refine dc_cons (r := ⟨_, some [1102], []⟩) (DStep.plain rfl (fun H1 hH => by exact (by first | exact x_index_pad rfl so95 rfl rfl (by omega) (by first | exact Int.toNat_natCast _ | rfl) (Nat.lt_of_lt_of_le hlt hm) rfl | exact x_index_osl rfl so95 rfl ((hH _ rfl).trans rfl) rfl rfl rfl (by omega) (by first | exact Int.toNat_natCast _ | rfl) (Nat.lt_of_lt_of_le hlt hm) (Nat.zero_add _)))) rfl ?_
      refine dc_cons (r := ⟨_, some [1102], []⟩) (DStep.plain rfl (fun H1 hH => by exact (by first | exact opd_field_ref rfl fo106_1 rfl ((hH _ rfl).trans rfl) rfl rfl | exact opd_field_pad rfl fo106_1 rfl rfl))) rfl ?_
      refine dc_cons (r := ⟨_, some [1102], []⟩) (DStep.plain rfl (fun H1 hH => by exact (by first | exact opd_load1_ref rfl Try.isAgg9 rfl ((hH _ rfl).trans rfl) rfl hpe rfl | exact opd_load1_pad rfl Try.isAgg9 rfl hpe rfl))) rfl ?_
      refine dc_cons (r := ⟨_, some [1100, 1101, 1102], _⟩) (DStep.plain rfl (fun H1 hH => by exact opr_call rfl rfl Try.call76 rfl (ref_frame hset _ ⟨(hH 1100 rfl).trans rfl, (hH 1101 rfl).trans rfl, (hH 1102 rfl).trans rfl, trivial⟩ (by simp; rfl)))) rfl ?_
      refine dc_nil ⟨by kernel_rfl, ?_⟩
      refine awp_region ?_
      refine al_d rfl rfl rfl (by exact opd_move rfl rfl) ?_
      refine al_d rfl rfl rfl (by exact opd_add rfl rfl rfl (by first | exact w64 (by omega) (by omega) | exact wu8 (by omega) (by omega) | rfl)) ?_
      refine al_d rfl rfl rfl (by exact opd_assign rfl rfl) ?_
      refine al_nil ?_
      -- end of a round
      refine ⟨i + 1, by omega, by omega, ?_⟩
      exact (Ent.wk ⟨⟨_, rfl, rfl⟩, (by first | (simp; done) | (simp; rfl) | exact clo_map _ _ _ | exact ref_clo _ _ _ rfl rfl | (simp; exact ⟨rfl, rfl⟩) | (simp; exact ⟨rfl, rfl, rfl⟩)), ⟨_, rfl, rfl⟩, (by first | (simp; done) | (simp; rfl) | exact clo_map _ _ _ | exact ref_clo _ _ _ rfl rfl | (simp; exact ⟨rfl, rfl⟩) | (simp; exact ⟨rfl, rfl, rfl⟩)), ⟨_, rfl, rfl⟩, (by first | (simp; done) | (simp; rfl) | exact clo_map _ _ _ | exact ref_clo _ _ _ rfl rfl | (simp; exact ⟨rfl, rfl⟩) | (simp; exact ⟨rfl, rfl, rfl⟩)), trivial⟩ ⟨⟨_, rfl, rfl⟩, (by first | (simp; done) | (simp; rfl) | exact clo_map _ _ _ | exact ref_clo _ _ _ rfl rfl | (simp; exact ⟨rfl, rfl⟩) | (simp; exact ⟨rfl, rfl, rfl⟩)), ⟨_, rfl, rfl⟩, (by first | (simp; done) | (simp; rfl) | exact clo_map _ _ _ | exact ref_clo _ _ _ rfl rfl | (simp; exact ⟨rfl, rfl⟩) | (simp; exact ⟨rfl, rfl, rfl⟩)), ⟨_, rfl, rfl⟩, (by first | (simp; done) | (simp; rfl) | exact clo_map _ _ _ | exact ref_clo _ _ _ rfl rfl | (simp; exact ⟨rfl, rfl⟩) | (simp; exact ⟨rfl, rfl, rfl⟩)), trivial⟩ ⟨rfl, rfl, rfl, trivial⟩)
    · have hge : i = m := by have : ¬ _ := of_decide_eq_false hc1; omega
      subst hge
      refine awp_exit ?_
      -- end of the body
      refine aret0 (H' := refH { s with cells := putAll s.cells (s.q.take i) } x) (by first | exact .inr rfl | exact .inl rfl) rfl  (Fin.wk (by first | (simp; done) | (simp; rfl)) ⟨⟨_, rfl, rfl⟩, (by first | (simp; done) | (simp; rfl) | exact clo_map _ _ _ | exact ref_clo _ _ _ rfl rfl | (simp; exact ⟨rfl, rfl⟩) | (simp; exact ⟨rfl, rfl, rfl⟩)), ⟨_, rfl, rfl⟩, (by first | (simp; done) | (simp; rfl) | exact clo_map _ _ _ | exact ref_clo _ _ _ rfl rfl | (simp; exact ⟨rfl, rfl⟩) | (simp; exact ⟨rfl, rfl, rfl⟩)), ⟨_, rfl, rfl⟩, (by first | (simp; done) | (simp; rfl) | exact clo_map _ _ _ | exact ref_clo _ _ _ rfl rfl | (simp; exact ⟨rfl, rfl⟩) | (simp; exact ⟨rfl, rfl, rfl⟩)), trivial⟩ ⟨rfl, rfl, rfl, trivial⟩) ?_
      exact ⟨rfl, rfl⟩
def xFail (s : DSt) (x : RX) : RX := if s.off then x else { xDis s x with gq := x.gq + 1 }
abbrev rfailH (s : DSt) (x : RX) (l : List ByteArray) : Heap := [(1100, ⟨0, 7, 97, [[.osl 1101 x.gs 0 l.length, .osl 1102 (x.gq + 1) 0 0, bv false, bv false, iv (armA s x), iv (armW s x), iv (armY s x)]]⟩), (1101, ⟨x.gs, 1, 9, stRows l⟩), (1102, ⟨x.gq + 1, 2, 106, []⟩)]
theorem rfailH_eq (s : DSt) (x : RX) (w b : Int) (h : s.off = false) : rfailH s x (failC s w b) = refH (dFail s w b) (xFail s x) := by
  have e1 : dFail s w b = { s with cells := failC s w b, q := [], off := true, arm := disarm s.arm, gq := s.gq + 1 } := by simp [dFail, h]
  have e2 : xFail s x = { xDis s x with gq := x.gq + 1 } := by simp [xFail, h]
  rw [e1, e2]
  unfold xDis
  cases e : s.arm <;> simp [refH, rRow, armB, armA, armW, armY, disarm, e]
theorem rfail_c (s : DSt) (x : RX) (w b : Int) (hs : DOk s) :
    ACalls Try.prog 53 [.ref 1100 0 0 0, iv w, iv b] (refH s x) (fun r H' => r = .tup [] ∧ H' = refH (dFail s w b) (xFail s x)) := by
  have hql := hs.ql
  obtain ⟨m, hm⟩ : ∃ m, m = failN s w := ⟨_, rfl⟩
  have hmw : max 0 (min w (s.q.length : Int)) = (m : Int) := by rw [hm]; unfold failN; omega
  have hml : m ≤ s.q.length := by rw [hm]; unfold failN; omega
  have hpo := put_ok hs m
  refine ACalls.body Try.func53 rfl Try.ntmps53 (Nat.le_of_ble_eq_true rfl) ?_
  refine awp_seq ?_
  refine awp_seq ?_
  refine awp_region ?_
  refine al_d rfl rfl rfl (by exact opd_move rfl rfl) ?_
  refine al_d rfl rfl rfl (by exact (by first | exact opd_peq_ref rfl Try.underlying49 rfl rfl rfl rfl | exact opd_peq_nil rfl Try.underlying49 rfl rfl)) ?_
  refine al_nil ?_
  refine awp_cond rfl (fun hc1 => ?_) (fun hc1 => ?_)
  -- cond 1
  · skip
    (first | (cases hc1; done) | (revert hc1; simp; done) | (revert hc1; simp_all; done) | (revert hc1; simp_all; omega))
  · skip
    refine awp_skip ?_
    refine awp_seq ?_
    refine awp_seq ?_
    refine awp_region ?_
    refine al_d rfl rfl rfl (by exact opd_move rfl rfl) ?_
    refine al_d rfl rfl rfl (by exact (by first | exact opd_nilCheck_ref rfl rfl rfl rfl | exact opd_nilCheck_fn rfl rfl)) ?_
    refine al_d rfl rfl rfl (by exact (by first | exact opd_field_ref rfl fo97_2 rfl rfl rfl rfl | exact opd_field_pad rfl fo97_2 rfl rfl)) ?_
    refine al_d rfl rfl rfl (by exact (by first | exact opd_load1_ref rfl Try.isAgg4 rfl rfl rfl rfl rfl | exact opd_load1_pad rfl Try.isAgg4 rfl (by first | omega | assumption) rfl)) ?_
    refine al_d rfl rfl rfl (by exact opd_not rfl rfl) ?_
    refine al_nil ?_
    refine awp_cond rfl (fun hc2 => ?_) (fun hc2 => ?_)
    -- cond 2
    · have ho : s.off = true := by simpa using hc2
      refine awp_ret ?_
      -- return
      refine aret0 (H' := refH s x) (by first | exact .inr rfl | exact .inl rfl) rfl  (Fin.wk (by first | (simp; done) | (simp; rfl)) ⟨⟨_, rfl, rfl⟩, (by first | (simp; done) | (simp; rfl) | exact clo_map _ _ _ | exact ref_clo _ _ _ rfl rfl | (simp; exact ⟨rfl, rfl⟩) | (simp; exact ⟨rfl, rfl, rfl⟩)), ⟨_, rfl, rfl⟩, (by first | (simp; done) | (simp; rfl) | exact clo_map _ _ _ | exact ref_clo _ _ _ rfl rfl | (simp; exact ⟨rfl, rfl⟩) | (simp; exact ⟨rfl, rfl, rfl⟩)), ⟨_, rfl, rfl⟩, (by first | (simp; done) | (simp; rfl) | exact clo_map _ _ _ | exact ref_clo _ _ _ rfl rfl | (simp; exact ⟨rfl, rfl⟩) | (simp; exact ⟨rfl, rfl, rfl⟩)), trivial⟩ ⟨rfl, rfl, rfl, trivial⟩) ?_
      exact ⟨rfl, by simp [dFail, xFail, ho]⟩
    · have ho : s.off = false := by simpa using hc2
      have hdf := rfailH_eq s x w b ho
      refine awp_skip ?_
      refine awp_seq ?_
      refine awp_region ?_
      refine al_d rfl rfl rfl (by exact opd_move rfl rfl) ?_
      refine al_d rfl rfl rfl (by exact opd_move rfl rfl) ?_
      refine al_d rfl rfl rfl (by exact (by first | exact opd_nilCheck_ref rfl rfl rfl rfl | exact opd_nilCheck_fn rfl rfl)) ?_
      refine al_d rfl rfl rfl (by exact (by first | exact opd_field_ref rfl fo97_1 rfl rfl rfl rfl | exact opd_field_pad rfl fo97_1 rfl rfl)) ?_
      refine al_d rfl rfl rfl (by exact (by first | exact opd_load1_ref rfl Try.isAgg95 rfl rfl rfl rfl rfl | exact opd_load1_pad rfl Try.isAgg95 rfl (by first | omega | assumption) rfl)) ?_
      refine al_d rfl rfl rfl (by exact (by first | exact opd_len_sl rfl Try.underlying95 rfl | exact opd_len_osl rfl Try.underlying95 rfl rfl rfl)) ?_
      refine al_d rfl rfl rfl (by exact opd_min rfl rfl rfl rfl) ?_
      refine al_d rfl rfl rfl (by exact opd_max rfl rfl rfl hmw) ?_
      refine al_d rfl rfl rfl (by exact opd_assign rfl rfl) ?_
      refine al_nil ?_
      refine awp_seq ?_
      refine awp_region ?_
      refine al_d rfl rfl rfl (by exact opd_move rfl rfl) ?_
      refine al_d rfl rfl rfl (by exact opd_move rfl rfl) ?_
      refine al_d rfl rfl rfl (by exact opr_call rfl rfl Try.call75 rfl (ref_frame (rsettle_c s x m hs hml) _ ⟨rfl, rfl, rfl, trivial⟩ (by simp; rfl))) ?_
      refine al_nil ?_
      refine awp_seq ?_
      refine awp_seq ?_
      refine awp_region ?_
      refine al_d rfl rfl rfl (by exact opd_move rfl rfl) ?_
      refine al_d rfl rfl rfl (by exact opd_move rfl rfl) ?_
      refine al_d rfl rfl rfl (by exact (by first | exact opd_nilCheck_ref rfl rfl rfl rfl | exact opd_nilCheck_fn rfl rfl)) ?_
      refine al_d rfl rfl rfl (by exact (by first | exact opd_field_ref rfl fo97_1 rfl rfl rfl rfl | exact opd_field_pad rfl fo97_1 rfl rfl)) ?_
      refine al_d rfl rfl rfl (by exact (by first | exact opd_load1_ref rfl Try.isAgg95 rfl rfl rfl rfl rfl | exact opd_load1_pad rfl Try.isAgg95 rfl (by first | omega | assumption) rfl)) ?_
      refine al_d rfl rfl rfl (by exact (by first | exact opd_len_sl rfl Try.underlying95 rfl | exact opd_len_osl rfl Try.underlying95 rfl rfl rfl)) ?_
      refine al_d rfl rfl rfl (by exact opd_lss rfl rfl rfl) ?_
      refine al_nil ?_
      refine awp_cond rfl (fun hc3 => ?_) (fun hc3 => ?_)
      -- cond 3
      · have hlt : m < s.q.length := Int.ofNat_lt.1 (of_decide_eq_true hc3)
        obtain ⟨p, hp⟩ := get_of_lt hlt
        have hpe : (rqRows s.q)[m]? = some ((encRQ p).map .pv) := by rw [List.getElem?_map, hp]; rfl
        obtain ⟨hp1, hp2⟩ := hs.q p (List.mem_of_getElem? hp)
        have hkm : max 0 (min b 64) = ((min b 64).toNat : Int) := by omega
        have hkl : (min b 64).toNat ≤ 64 := by omega
        refine awp_seq ?_
        refine awp_region ?_
        refine al_d rfl rfl rfl (by exact opd_move rfl rfl) ?_
        refine al_d rfl rfl rfl (by exact (by first | exact opd_nilCheck_ref rfl rfl rfl rfl | exact opd_nilCheck_fn rfl rfl)) ?_
        refine al_d rfl rfl rfl (by exact (by first | exact opd_field_ref rfl fo97_1 rfl rfl rfl rfl | exact opd_field_pad rfl fo97_1 rfl rfl)) ?_
        refine al_d rfl rfl rfl (by exact (by first | exact opd_load1_ref rfl Try.isAgg95 rfl rfl rfl rfl rfl | exact opd_load1_pad rfl Try.isAgg95 rfl (by first | omega | assumption) rfl)) ?_
        refine al_d rfl rfl rfl (by exact opd_move rfl rfl) ?_
        refine al_d rfl rfl rfl (by exact (by first | exact x_index_pad rfl so95 rfl rfl (by omega) (by first | exact Int.toNat_natCast _ | rfl) (by assumption) rfl | exact x_index_osl rfl so95 rfl rfl rfl rfl rfl (by omega) (by first | exact Int.toNat_natCast _ | rfl) (by first | omega | assumption) (Nat.zero_add _))) ?_
        refine al_d rfl rfl rfl (by exact (by first | exact opd_loadn_ref rfl Try.isAgg106 Try.sizeOf106 rfl rfl rfl hpe (by simp only [List.drop_succ_cons, List.drop_zero, List.take_succ_cons, List.take_zero, List.take_nil, List.map_cons, List.map_nil, List.set_cons_zero, List.set_cons_succ, List.cons_append, List.nil_append, encRQ, rRow]; rfl) rfl | exact opd_loadn_pad rfl Try.isAgg106 Try.sizeOf106 rfl hpe (by simp only [List.drop_succ_cons, List.drop_zero, List.take_succ_cons, List.take_zero, List.take_nil, List.map_cons, List.map_nil, List.set_cons_zero, List.set_cons_succ, List.cons_append, List.nil_append, encRQ, rRow]; rfl) rfl)) ?_
        refine al_d rfl rfl rfl (by exact x_alloc (id := 7) rfl zo106 rfl rfl) ?_
        refine al_n rfl rfl (by exact (by first | exact x_store_all rfl Try.sizeOf106 rfl rfl rfl rfl rfl rfl rfl rfl | exact x_store rfl Try.sizeOf106 rfl rfl rfl rfl rfl rfl rfl (by simp only [List.length_cons, List.length_nil]; omega) (by simp only [List.drop_succ_cons, List.drop_zero, List.take_succ_cons, List.take_zero, List.take_nil, List.map_cons, List.map_nil, List.set_cons_zero, List.set_cons_succ, List.cons_append, List.nil_append, encRQ, rRow]; rfl) (by simp only [List.drop_succ_cons, List.drop_zero, List.take_succ_cons, List.take_zero, List.take_nil, List.map_cons, List.map_nil, List.set_cons_zero, List.set_cons_succ, List.cons_append, List.nil_append, encRQ, rRow]; rfl))) ?_
        refine al_nil ?_
        refine awp_seq ?_
        refine awp_region ?_
        refine al_d rfl rfl rfl (by exact opd_move rfl rfl) ?_
        refine al_d rfl rfl rfl (by exact opd_min rfl rfl rfl rfl) ?_
        refine al_d rfl rfl rfl (by exact opd_max rfl rfl rfl hkm) ?_
        refine al_d rfl rfl rfl (by exact opd_assign rfl rfl) ?_
        refine al_nil ?_
        refine awp_seq ?_
        refine awp_region ?_
        refine al_d rfl rfl rfl (by exact opd_move rfl rfl) ?_
        refine al_d rfl rfl rfl (by exact opd_gtr rfl rfl rfl) ?_
        refine al_nil ?_
        refine awp_cond rfl (fun hc4 => ?_) (fun hc4 => ?_)
        -- cond 4
        · have hb : 0 < b := by have := of_decide_eq_true hc4; omega
          have hp1' : p.1 < (putAll s.cells (s.q.take m)).length := by rw [putAll_len]; exact hp1
          obtain ⟨c, hc⟩ := get_of_lt hp1'
          have hcs := hpo.c c (List.mem_of_getElem? hc)
          have hcs : c.size = 64 := hcs
          have hcr := stRows_get hc
          have hset := rset_c { s with cells := putAll s.cells (s.q.take m) } x p.1 (p.2.extract 0 (min b 64).toNat ++ c.extract (min b 64).toNat c.size) hp1'
          have hfc : failC s w b = (putAll s.cells (s.q.take m)).set p.1 (p.2.extract 0 (min b 64).toNat ++ c.extract (min b 64).toNat c.size) := by
            rw [failC, ← hm, hp]; simp only [torn, if_pos hb, hc, Option.getD_some]
            rw [over_eq (by omega) (by omega)]
          rw [hfc] at hdf
          have hz1 : (p.2.extract 0 (min b 64).toNat).size + (c.extract (min b 64).toNat c.size).size ≤ 9223372036854775807 := by
            have e1 : (p.2.extract 0 (min b 64).toNat).size ≤ 64 := by rw [ByteArray.size_extract]; omega
            have e2 : (c.extract (min b 64).toNat c.size).size ≤ 64 := by rw [ByteArray.size_extract]; omega
            omega
          refine awp_drawc follows ?_
          refine dc_cons (r := ⟨_, some [1100], []⟩) (DStep.plain rfl (fun H1 hH => by exact opd_move rfl rfl)) rfl ?_
          refine dc_cons (r := ⟨_, some [7], []⟩) (DStep.plain rfl (fun H1 hH => by exact (by first | exact opd_field_ref rfl fo106_0 rfl ((hH _ rfl).trans rfl) rfl rfl | exact opd_field_pad rfl fo106_0 rfl rfl))) rfl ?_
          refine dc_cons (r := ⟨_, some [7], []⟩) (DStep.plain rfl (fun H1 hH => by exact (by first | exact opd_load1_ref rfl Try.isAgg3 rfl ((hH _ rfl).trans rfl) rfl rfl rfl | exact opd_load1_pad rfl Try.isAgg3 rfl (by first | omega | assumption) rfl))) rfl ?_
          refine dc_cons (r := ⟨_, some [7], []⟩) (DStep.plain rfl (fun H1 hH => by exact (by first | exact opd_field_ref rfl fo106_1 rfl ((hH _ rfl).trans rfl) rfl rfl | exact opd_field_pad rfl fo106_1 rfl rfl))) rfl ?_
          refine dc_cons (r := ⟨_, some [7], []⟩) (DStep.plain rfl (fun H1 hH => by exact (by first | exact opd_load1_ref rfl Try.isAgg9 rfl ((hH _ rfl).trans rfl) rfl rfl rfl | exact opd_load1_pad rfl Try.isAgg9 rfl (by first | omega | assumption) rfl))) rfl ?_
          refine dc_cons (r := ⟨_, some [], []⟩) (DStep.plain rfl (fun H1 hH => by exact opd_move rfl rfl)) rfl ?_
          refine dc_cons (r := ⟨_, some [], []⟩) (DStep.plain rfl (fun H1 hH => by exact opd_slice_str (l := 0) (h := (min b 64).toNat) rfl Try.underlying9 rfl rfl rfl (by omega) (by omega) rfl)) rfl ?_
          refine dc_cons (r := ⟨_, some [1100], []⟩) (DStep.plain rfl (fun H1 hH => by exact opd_move rfl rfl)) rfl ?_
          refine dc_cons (r := ⟨_, some [1100], []⟩) (DStep.plain rfl (fun H1 hH => by exact (by first | exact opd_nilCheck_ref rfl rfl ((hH _ rfl).trans rfl) rfl | exact opd_nilCheck_fn rfl rfl))) rfl ?_
          refine dc_cons (r := ⟨_, some [1100], []⟩) (DStep.plain rfl (fun H1 hH => by exact (by first | exact opd_field_ref rfl fo97_0 rfl ((hH _ rfl).trans rfl) rfl rfl | exact opd_field_pad rfl fo97_0 rfl rfl))) rfl ?_
          refine dc_cons (r := ⟨_, some [1100], []⟩) (DStep.plain rfl (fun H1 hH => by exact (by first | exact opd_load1_ref rfl Try.isAgg34 rfl ((hH _ rfl).trans rfl) rfl rfl rfl | exact opd_load1_pad rfl Try.isAgg34 rfl (by first | omega | assumption) rfl))) rfl ?_
          refine dc_cons (r := ⟨_, some [7], []⟩) (DStep.plain rfl (fun H1 hH => by exact (by first | exact opd_field_ref rfl fo106_0 rfl ((hH _ rfl).trans rfl) rfl rfl | exact opd_field_pad rfl fo106_0 rfl rfl))) rfl ?_
          refine dc_cons (r := ⟨_, some [7], []⟩) (DStep.plain rfl (fun H1 hH => by exact (by first | exact opd_load1_ref rfl Try.isAgg3 rfl ((hH _ rfl).trans rfl) rfl rfl rfl | exact opd_load1_pad rfl Try.isAgg3 rfl (by first | omega | assumption) rfl))) rfl ?_
          refine dc_cons (r := ⟨_, some [1101], []⟩) (DStep.plain rfl (fun H1 hH => by exact (by first | exact x_index_pad rfl so34 rfl rfl (by omega) (by first | exact Int.toNat_natCast _ | rfl) (by assumption) rfl | exact x_index_osl rfl so34 rfl ((hH _ rfl).trans rfl) rfl rfl rfl (by omega) (by first | exact Int.toNat_natCast _ | rfl) (by first | omega | assumption) (Nat.zero_add _)))) rfl ?_
          refine dc_cons (r := ⟨_, some [1101], []⟩) (DStep.plain rfl (fun H1 hH => by exact (by first | exact opd_load1_ref rfl Try.isAgg9 rfl ((hH _ rfl).trans rfl) rfl hcr rfl | exact opd_load1_pad rfl Try.isAgg9 rfl hcr rfl))) rfl ?_
          refine dc_cons (r := ⟨_, some [], []⟩) (DStep.plain rfl (fun H1 hH => by exact opd_move rfl rfl)) rfl ?_
          refine dc_cons (r := ⟨_, some [], []⟩) (DStep.plain rfl (fun H1 hH => by exact opd_slice_str (l := (min b 64).toNat) (h := c.size) rfl Try.underlying9 rfl rfl rfl (by omega) (by omega) rfl)) rfl ?_
          refine dc_cons (r := ⟨_, some [], []⟩) (DStep.plain rfl (fun H1 hH => by exact opd_sadd rfl rfl rfl hz1 rfl)) rfl ?_
          refine dc_cons (r := ⟨_, some [1100, 1101, 1102], _⟩) (DStep.plain rfl (fun H1 hH => by exact opr_call rfl rfl Try.call76 rfl (ref_frame hset _ ⟨(hH 1100 rfl).trans rfl, (hH 1101 rfl).trans rfl, (hH 1102 rfl).trans rfl, trivial⟩ (by simp; rfl)))) rfl ?_
          refine dc_nil ⟨by kernel_rfl, ?_⟩
          refine awp_seq ?_
          refine awp_region ?_
          refine al_d rfl rfl rfl (by exact opd_move rfl rfl) ?_
          refine al_d rfl rfl rfl (by exact (by first | exact opd_nilCheck_ref rfl rfl rfl rfl | exact opd_nilCheck_fn rfl rfl)) ?_
          refine al_d rfl rfl rfl (by exact (by first | exact opd_field_ref rfl fo97_1 rfl rfl rfl rfl | exact opd_field_pad rfl fo97_1 rfl rfl)) ?_
          refine al_n rfl rfl (by exact opd_store_nil (q := 1102) (sz := 2) (ty := 106) rfl Try.sizeOf95 rfl rfl rfl rfl rfl rfl rfl rfl (by simp) (by simp only [rRow, List.set_cons_succ, List.set_cons_zero]; rfl) (by simp only [List.set_cons_zero]; rfl)) ?_
          refine al_nil ?_
          refine awp_seq ?_
          refine awp_region ?_
          refine al_d rfl rfl rfl (by exact opd_move rfl rfl) ?_
          refine al_d rfl rfl rfl (by exact (by first | exact opd_nilCheck_ref rfl rfl rfl rfl | exact opd_nilCheck_fn rfl rfl)) ?_
          refine al_d rfl rfl rfl (by exact (by first | exact opd_field_ref rfl fo97_2 rfl rfl rfl rfl | exact opd_field_pad rfl fo97_2 rfl rfl)) ?_
          refine al_n rfl rfl (by exact (by first | exact x_store_all rfl Try.sizeOf4 rfl rfl rfl rfl rfl rfl rfl rfl | exact x_store1 rfl Try.sizeOf4 rfl rfl rfl rfl rfl rfl (by simp only [List.length_cons, List.length_nil]; omega) (by simp only [List.drop_succ_cons, List.drop_zero, List.take_succ_cons, List.take_zero, List.take_nil, List.map_cons, List.map_nil, List.set_cons_zero, List.set_cons_succ, List.cons_append, List.nil_append, encRQ, rRow]; rfl) (by simp only [List.drop_succ_cons, List.drop_zero, List.take_succ_cons, List.take_zero, List.take_nil, List.map_cons, List.map_nil, List.set_cons_zero, List.set_cons_succ, List.cons_append, List.nil_append, encRQ, rRow]; rfl))) ?_
          refine al_nil ?_
          refine awp_region ?_
          refine al_d rfl rfl rfl (by exact opd_move rfl rfl) ?_
          refine al_d rfl rfl rfl (by exact (by first | exact opd_nilCheck_ref rfl rfl rfl rfl | exact opd_nilCheck_fn rfl rfl)) ?_
          refine al_d rfl rfl rfl (by exact (by first | exact opd_field_ref rfl fo97_3 rfl rfl rfl rfl | exact opd_field_pad rfl fo97_3 rfl rfl)) ?_
          refine al_n rfl rfl (by exact (by first | exact x_store_all rfl Try.sizeOf4 rfl rfl rfl rfl rfl rfl rfl rfl | exact x_store1 rfl Try.sizeOf4 rfl rfl rfl rfl rfl rfl (by simp only [List.length_cons, List.length_nil]; omega) (by simp only [List.drop_succ_cons, List.drop_zero, List.take_succ_cons, List.take_zero, List.take_nil, List.map_cons, List.map_nil, List.set_cons_zero, List.set_cons_succ, List.cons_append, List.nil_append, encRQ, rRow]; rfl) (by simp only [List.drop_succ_cons, List.drop_zero, List.take_succ_cons, List.take_zero, List.take_nil, List.map_cons, List.map_nil, List.set_cons_zero, List.set_cons_succ, List.cons_append, List.nil_append, encRQ, rRow]; rfl))) ?_
          refine al_nil ?_
          -- end of the body
          refine aret0 (H' := rfailH s x ((putAll s.cells (s.q.take m)).set p.1 (p.2.extract 0 (min b 64).toNat ++ c.extract (min b 64).toNat c.size))) (by first | exact .inr rfl | exact .inl rfl) rfl  (Fin.wk (by first | (simp; done) | (simp; rfl)) ⟨⟨_, rfl, rfl⟩, (by first | (simp; done) | (simp; rfl) | exact clo_map _ _ _ | exact ref_clo _ _ _ rfl rfl | (simp; exact ⟨rfl, rfl⟩) | (simp; exact ⟨rfl, rfl, rfl⟩)), ⟨_, rfl, rfl⟩, (by first | (simp; done) | (simp; rfl) | exact clo_map _ _ _ | exact ref_clo _ _ _ rfl rfl | (simp; exact ⟨rfl, rfl⟩) | (simp; exact ⟨rfl, rfl, rfl⟩)), ⟨_, rfl, rfl⟩, (by first | (simp; done) | (simp; rfl) | exact clo_map _ _ _ | exact ref_clo _ _ _ rfl rfl | (simp; exact ⟨rfl, rfl⟩) | (simp; exact ⟨rfl, rfl, rfl⟩)), trivial⟩ ⟨rfl, rfl, rfl, trivial⟩) ?_
          exact ⟨rfl, hdf⟩
        · have hb : ¬ 0 < b := by have : ¬ _ := of_decide_eq_false hc4; omega
          have hfc : failC s w b = putAll s.cells (s.q.take m) := by
            rw [failC, ← hm, hp]; simp only [torn, if_neg hb]
          rw [hfc] at hdf
          refine awp_skip ?_
          refine awp_seq ?_
          refine awp_region ?_
          refine al_d rfl rfl rfl (by exact opd_move rfl rfl) ?_
          refine al_d rfl rfl rfl (by exact (by first | exact opd_nilCheck_ref rfl rfl rfl rfl | exact opd_nilCheck_fn rfl rfl)) ?_
          refine al_d rfl rfl rfl (by exact (by first | exact opd_field_ref rfl fo97_1 rfl rfl rfl rfl | exact opd_field_pad rfl fo97_1 rfl rfl)) ?_
          refine al_n rfl rfl (by exact opd_store_nil (q := 1102) (sz := 2) (ty := 106) rfl Try.sizeOf95 rfl rfl rfl rfl rfl rfl rfl rfl (by simp) (by simp only [rRow, List.set_cons_succ, List.set_cons_zero]; rfl) (by simp only [List.set_cons_zero]; rfl)) ?_
          refine al_nil ?_
          refine awp_seq ?_
          refine awp_region ?_
          refine al_d rfl rfl rfl (by exact opd_move rfl rfl) ?_
          refine al_d rfl rfl rfl (by exact (by first | exact opd_nilCheck_ref rfl rfl rfl rfl | exact opd_nilCheck_fn rfl rfl)) ?_
          refine al_d rfl rfl rfl (by exact (by first | exact opd_field_ref rfl fo97_2 rfl rfl rfl rfl | exact opd_field_pad rfl fo97_2 rfl rfl)) ?_
          refine al_n rfl rfl (by exact (by first | exact x_store_all rfl Try.sizeOf4 rfl rfl rfl rfl rfl rfl rfl rfl | exact x_store1 rfl Try.sizeOf4 rfl rfl rfl rfl rfl rfl (by simp only [List.length_cons, List.length_nil]; omega) (by simp only [List.drop_succ_cons, List.drop_zero, List.take_succ_cons, List.take_zero, List.take_nil, List.map_cons, List.map_nil, List.set_cons_zero, List.set_cons_succ, List.cons_append, List.nil_append, encRQ, rRow]; rfl) (by simp only [List.drop_succ_cons, List.drop_zero, List.take_succ_cons, List.take_zero, List.take_nil, List.map_cons, List.map_nil, List.set_cons_zero, List.set_cons_succ, List.cons_append, List.nil_append, encRQ, rRow]; rfl))) ?_
          refine al_nil ?_
          refine awp_region ?_
          refine al_d rfl rfl rfl (by exact opd_move rfl rfl) ?_
          refine al_d rfl rfl rfl (by exact (by first | exact opd_nilCheck_ref rfl rfl rfl rfl | exact opd_nilCheck_fn rfl rfl)) ?_
          refine al_d rfl rfl rfl (by exact (by first | exact opd_field_ref rfl fo97_3 rfl rfl rfl rfl | exact opd_field_pad rfl fo97_3 rfl rfl)) ?_
          refine al_n rfl rfl (by exact (by first | exact x_store_all rfl Try.sizeOf4 rfl rfl rfl rfl rfl rfl rfl rfl | exact x_store1 rfl Try.sizeOf4 rfl rfl rfl rfl rfl rfl (by simp only [List.length_cons, List.length_nil]; omega) (by simp only [List.drop_succ_cons, List.drop_zero, List.take_succ_cons, List.take_zero, List.take_nil, List.map_cons, List.map_nil, List.set_cons_zero, List.set_cons_succ, List.cons_append, List.nil_append, encRQ, rRow]; rfl) (by simp only [List.drop_succ_cons, List.drop_zero, List.take_succ_cons, List.take_zero, List.take_nil, List.map_cons, List.map_nil, List.set_cons_zero, List.set_cons_succ, List.cons_append, List.nil_append, encRQ, rRow]; rfl))) ?_
          refine al_nil ?_
          -- end of the body
          refine aret0 (H' := rfailH s x (putAll s.cells (s.q.take m))) (by first | exact .inr rfl | exact .inl rfl) rfl  (Fin.wk (by first | (simp; done) | (simp; rfl)) ⟨⟨_, rfl, rfl⟩, (by first | (simp; done) | (simp; rfl) | exact clo_map _ _ _ | exact ref_clo _ _ _ rfl rfl | (simp; exact ⟨rfl, rfl⟩) | (simp; exact ⟨rfl, rfl, rfl⟩)), ⟨_, rfl, rfl⟩, (by first | (simp; done) | (simp; rfl) | exact clo_map _ _ _ | exact ref_clo _ _ _ rfl rfl | (simp; exact ⟨rfl, rfl⟩) | (simp; exact ⟨rfl, rfl, rfl⟩)), ⟨_, rfl, rfl⟩, (by first | (simp; done) | (simp; rfl) | exact clo_map _ _ _ | exact ref_clo _ _ _ rfl rfl | (simp; exact ⟨rfl, rfl⟩) | (simp; exact ⟨rfl, rfl, rfl⟩)), trivial⟩ ⟨rfl, rfl, rfl, trivial⟩) ?_
          exact ⟨rfl, hdf⟩
      · have hge : s.q.length ≤ m := Nat.not_lt.1 (fun h => of_decide_eq_false hc3 (Int.ofNat_lt.2 h))
        have hfc : failC s w b = putAll s.cells (s.q.take m) := by
          rw [failC, ← hm, List.getElem?_eq_none hge]; rfl
        rw [hfc] at hdf
        refine awp_skip ?_
        refine awp_seq ?_
        refine awp_region ?_
        refine al_d rfl rfl rfl (by exact opd_move rfl rfl) ?_
        refine al_d rfl rfl rfl (by exact (by first | exact opd_nilCheck_ref rfl rfl rfl rfl | exact opd_nilCheck_fn rfl rfl)) ?_
        refine al_d rfl rfl rfl (by exact (by first | exact opd_field_ref rfl fo97_1 rfl rfl rfl rfl | exact opd_field_pad rfl fo97_1 rfl rfl)) ?_
        refine al_n rfl rfl (by exact opd_store_nil (q := 1102) (sz := 2) (ty := 106) rfl Try.sizeOf95 rfl rfl rfl rfl rfl rfl rfl rfl (by simp) (by simp only [rRow, List.set_cons_succ, List.set_cons_zero]; rfl) (by simp only [List.set_cons_zero]; rfl)) ?_
        refine al_nil ?_
        refine awp_seq ?_
        refine awp_region ?_
        refine al_d rfl rfl rfl (by exact opd_move rfl rfl) ?_
        refine al_d rfl rfl rfl (by exact (by first | exact opd_nilCheck_ref rfl rfl rfl rfl | exact opd_nilCheck_fn rfl rfl)) ?_
        refine al_d rfl rfl rfl (by exact (by first | exact opd_field_ref rfl fo97_2 rfl rfl rfl rfl | exact opd_field_pad rfl fo97_2 rfl rfl)) ?_
        refine al_n rfl rfl (by exact (by first | exact x_store_all rfl Try.sizeOf4 rfl rfl rfl rfl rfl rfl rfl rfl | exact x_store1 rfl Try.sizeOf4 rfl rfl rfl rfl rfl rfl (by simp only [List.length_cons, List.length_nil]; omega) (by simp only [List.drop_succ_cons, List.drop_zero, List.take_succ_cons, List.take_zero, List.take_nil, List.map_cons, List.map_nil, List.set_cons_zero, List.set_cons_succ, List.cons_append, List.nil_append, encRQ, rRow]; rfl) (by simp only [List.drop_succ_cons, List.drop_zero, List.take_succ_cons, List.take_zero, List.take_nil, List.map_cons, List.map_nil, List.set_cons_zero, List.set_cons_succ, List.cons_append, List.nil_append, encRQ, rRow]; rfl))) ?_
        refine al_nil ?_
        refine awp_region ?_
        refine al_d rfl rfl rfl (by exact opd_move rfl rfl) ?_
        refine al_d rfl rfl rfl (by exact (by first | exact opd_nilCheck_ref rfl rfl rfl rfl | exact opd_nilCheck_fn rfl rfl)) ?_
        refine al_d rfl rfl rfl (by exact (by first | exact opd_field_ref rfl fo97_3 rfl rfl rfl rfl | exact opd_field_pad rfl fo97_3 rfl rfl)) ?_
        refine al_n rfl rfl (by exact (by first | exact x_store_all rfl Try.sizeOf4 rfl rfl rfl rfl rfl rfl rfl rfl | exact x_store1 rfl Try.sizeOf4 rfl rfl rfl rfl rfl rfl (by simp only [List.length_cons, List.length_nil]; omega) (by simp only [List.drop_succ_cons, List.drop_zero, List.take_succ_cons, List.take_zero, List.take_nil, List.map_cons, List.map_nil, List.set_cons_zero, List.set_cons_succ, List.cons_append, List.nil_append, encRQ, rRow]; rfl) (by simp only [List.drop_succ_cons, List.drop_zero, List.take_succ_cons, List.take_zero, List.take_nil, List.map_cons, List.map_nil, List.set_cons_zero, List.set_cons_succ, List.cons_append, List.nil_append, encRQ, rRow]; rfl))) ?_
        refine al_nil ?_
        -- end of the body
        refine aret0 (H' := rfailH s x (putAll s.cells (s.q.take m))) (by first | exact .inr rfl | exact .inl rfl) rfl  (Fin.wk (by first | (simp; done) | (simp; rfl)) ⟨⟨_, rfl, rfl⟩, (by first | (simp; done) | (simp; rfl) | exact clo_map _ _ _ | exact ref_clo _ _ _ rfl rfl | (simp; exact ⟨rfl, rfl⟩) | (simp; exact ⟨rfl, rfl, rfl⟩)), ⟨_, rfl, rfl⟩, (by first | (simp; done) | (simp; rfl) | exact clo_map _ _ _ | exact ref_clo _ _ _ rfl rfl | (simp; exact ⟨rfl, rfl⟩) | (simp; exact ⟨rfl, rfl, rfl⟩)), ⟨_, rfl, rfl⟩, (by first | (simp; done) | (simp; rfl) | exact clo_map _ _ _ | exact ref_clo _ _ _ rfl rfl | (simp; exact ⟨rfl, rfl⟩) | (simp; exact ⟨rfl, rfl, rfl⟩)), trivial⟩ ⟨rfl, rfl, rfl, trivial⟩) ?_
        exact ⟨rfl, hdf⟩
end Go.Proofs.Ytljocbkebhgkoaa
