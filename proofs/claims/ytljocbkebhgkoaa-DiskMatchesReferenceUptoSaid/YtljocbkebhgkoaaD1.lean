/-
  THE DISK: its state in plain Lean, how it lies in memory; contracts: place, at, set, settle. Conditions: numbers of sectors up to 8000.
-/
import Derived.Test.YtljocbkebhgkoaaData
import Derived.Test.YtljocbkebhgkoaaAbs16
set_option linter.unusedVariables false
set_option linter.unusedSimpArgs false
set_option maxRecDepth 100000
namespace Go.Proofs.Ytljocbkebhgkoaa
open Go.Abs

inductive Arm where
  | never
  | off (a w b : Int)
  | on (a w b : Int)
structure DSt where
  cells : List ByteArray
  q : List (Nat × ByteArray)
  off : Bool
  arm : Arm
  gq : Nat
  ga : Nat
def encQ (p : Nat × ByteArray) : List PV := [.int .i64 ((64 * p.1 : Nat) : Int), .int .i64 ((64 * (p.1 + 1) : Nat) : Int), .str p.2]
def flat (l : List ByteArray) : List UInt8 := l.flatMap (fun c => c.data.toList)
abbrev qRows (l : List (Nat × ByteArray)) : List (List AV) := l.map (fun e => (encQ e).map .pv)
def armV (ga : Nat) : Arm → AV
  | .never => .pv .nilp
  | .off _ _ _ => .pv .nilp
  | .on _ _ _ => .ref 1003 ga 0 0
def armR : Arm → List (List AV)
  | .never => []
  | .off a w b => [[iv a, iv w, iv b]]
  | .on a w b => [[iv a, iv w, iv b]]
abbrev dRow (s : DSt) : List AV := [.osl 1001 0 0 (64 * s.cells.length), .osl 1002 s.gq 0 s.q.length, bv s.off, armV s.ga s.arm]
abbrev tDisk : Nat := 94
abbrev tPend : Nat := 104
abbrev tAlarm : Nat := 110
abbrev diskH (s : DSt) : Heap := [(1000, ⟨0, 4, 94, [dRow s]⟩), (1001, ⟨0, 1, 5, brows (flat s.cells)⟩), (1002, ⟨s.gq, 3, 104, qRows s.q⟩), (1003, ⟨s.ga, 3, 110, armR s.arm⟩)]
theorem clo_brows (s : List UInt8) (H : Heap) : ∀ r ∈ brows s, ∀ a ∈ r, Clo H a := by
  intro r hr a ha
  obtain ⟨b, _, rfl⟩ := List.mem_map.1 hr
  rw [List.mem_singleton.1 ha]; exact .pv _
theorem arm_clo (a : Arm) (H : Heap) : ∀ r ∈ armR a, ∀ x ∈ r, Clo H x := by
  intro r hr x hx
  cases a <;> simp [armR] at hr <;> subst hr <;> simp at hx <;> (rcases hx with rfl | rfl | rfl <;> exact .pv _)
theorem disk_clo (s : DSt) (H : Heap) (h1 : (H.get 1001).isSome = true) (h2 : (H.get 1002).isSome = true) (h3 : (H.get 1003).isSome = true) : ∀ r ∈ [dRow s], ∀ a ∈ r, Clo H a := by
  intro r hr a ha
  rw [List.mem_singleton.1 hr] at ha
  simp only [dRow, List.mem_cons, List.not_mem_nil, or_false] at ha
  rcases ha with rfl | rfl | rfl | rfl
  · exact .osl h1
  · exact .osl h2
  · exact .pv _
  · cases s.arm <;> first | exact .pv _ | exact .ref h3
theorem diskH_closed (s : DSt) : Closed (diskH s) := Closed.of (fun p hp => by
  simp only [diskH, List.mem_cons, List.not_mem_nil, or_false] at hp
  rcases hp with rfl | rfl | rfl | rfl
  · exact disk_clo s _ rfl rfl rfl
  · exact clo_brows _ _
  · exact clo_map _ _ _
  · exact arm_clo _ _)
/-- What holds of a disk's state. -/
structure DOk (s : DSt) : Prop where
  n1 : 1 ≤ s.cells.length
  n2 : s.cells.length ≤ 8000
  c : ∀ c, c ∈ s.cells → c.size = 64
  q : ∀ p, p ∈ s.q → p.1 < s.cells.length ∧ p.2.size = 64
  ql : s.q.length ≤ 1048576
/-! ### the flat bytes -/
theorem ba_size (c : ByteArray) : c.data.toList.length = c.size := Array.length_toList
theorem flat_cons (c : ByteArray) (l : List ByteArray) : flat (c :: l) = c.data.toList ++ flat l := rfl
theorem flat_len {l : List ByteArray} (h : ∀ c, c ∈ l → c.size = 64) : (flat l).length = 64 * l.length := by
  induction l with
  | nil => rfl
  | cons c l ih =>
    rw [flat_cons, List.length_append, ba_size, h c (by simp), ih (fun c hc => h c (by simp [hc])), List.length_cons]; omega
theorem flat_app (a b : List ByteArray) : flat (a ++ b) = flat a ++ flat b := List.flatMap_append
theorem flat_part {l : List ByteArray} (h : ∀ c, c ∈ l → c.size = 64) {k : Nat} {c : ByteArray} (hk : l[k]? = some c) :
    (flat l).take (64 * k) = flat (l.take k) ∧ ((flat l).drop (64 * k)).take 64 = c.data.toList ∧ (flat l).drop (64 * k + 64) = flat (l.drop (k + 1)) := by
  obtain ⟨hlt, he⟩ := List.getElem?_eq_some_iff.1 hk
  have hsplit : flat l = flat (l.take k) ++ (c.data.toList ++ flat (l.drop (k + 1))) := by
    conv => lhs; rw [← List.take_append_drop k l, List.drop_eq_getElem_cons hlt, he]
    rw [flat_app, flat_cons]
  have h1 : (flat (l.take k)).length = 64 * k := by
    rw [flat_len (fun c hc => h c (List.mem_of_mem_take hc)), List.length_take]; congr 1; omega
  have h2 : c.data.toList.length = 64 := by rw [ba_size]; exact h c (List.mem_of_getElem? hk)
  refine ⟨?_, ?_, ?_⟩
  · rw [hsplit, ← h1, List.take_left]
  · rw [hsplit, ← h1, List.drop_left, ← h2, List.take_left]
  · rw [hsplit, ← List.drop_drop, ← h1, List.drop_left, ← h2, List.drop_left]
/-- The first bytes of a sector are replaced. -/
def over (t c : ByteArray) : ByteArray := ⟨(t.data.toList ++ c.data.toList.drop t.size).toArray⟩
theorem over_size {t c : ByteArray} (ht : t.size ≤ c.size) : (over t c).size = c.size := by
  show (t.data.toList ++ c.data.toList.drop t.size).toArray.size = c.size
  rw [List.size_toArray, List.length_append, List.length_drop, ba_size, ba_size]; omega
theorem over_full {t c : ByteArray} (ht : t.size = 64) (hc : c.size = 64) : over t c = t := by
  unfold over
  rw [List.drop_of_length_le (by rw [ba_size]; omega), List.append_nil]
theorem set_flat {l : List ByteArray} (h : ∀ c, c ∈ l → c.size = 64) {k : Nat} {c t : ByteArray} (hk : l[k]? = some c) (ht : t.size ≤ 64) :
    (flat l).take (64 * k) ++ (t.data.toList.take t.size ++ (flat l).drop (64 * k + t.size)) = flat (l.set k (over t c)) := by
  obtain ⟨hlt, he⟩ := List.getElem?_eq_some_iff.1 hk
  obtain ⟨p1, p2, p3⟩ := flat_part h hk
  have hset : l.set k (over t c) = l.take k ++ (over t c :: l.drop (k + 1)) := by rw [List.set_eq_take_append_cons_drop, if_pos hlt]
  rw [hset, flat_app, flat_cons, p1]
  congr 1
  rw [show t.data.toList.take t.size = t.data.toList from List.take_of_length_le (by rw [ba_size]; omega)]
  show _ = (t.data.toList ++ c.data.toList.drop t.size) ++ flat (l.drop (k + 1))
  rw [List.append_assoc]
  congr 1
  have e1 : (flat l).drop (64 * k) = c.data.toList ++ flat (l.drop (k + 1)) := by
    rw [← List.take_append_drop 64 ((flat l).drop (64 * k)), p2, List.drop_drop, p3]
  have h2 : c.data.toList.length = 64 := by rw [ba_size]; exact h c (List.mem_of_getElem? hk)
  rw [← List.drop_drop, e1, List.drop_append_of_le_length (by omega)]
theorem brows_map (l : List UInt8) : ∀ r, r ∈ brows l → r.length = 1 := fun r hr => by
  obtain ⟨i, _, rfl⟩ := List.mem_map.1 hr; rfl
/-! ### place, at -/
def secOk (s : DSt) (k : Int) : Bool := decide (0 ≤ k) && decide (k < (s.cells.length : Int))
def spotOf (s : DSt) (k : Int) : List AV := if secOk s k then [iv (64 * k), iv (64 * (k + 1))] else [iv 0, iv 0]
theorem place_c (s : DSt) (k : Int) (hs : DOk s) :
    ACalls Try.prog 62 [.ref 1000 0 0 0, iv k] (diskH s) (fun r H' => r = .tup [.agg (spotOf s k), bv (secOk s k)] ∧ H' = diskH s) := by
  have hq : IntKind.i64.wrap (((64 * s.cells.length : Nat) : Int).tdiv 64) = (s.cells.length : Int) := by
    have h2 := hs.n2
    have e : ((64 * s.cells.length : Nat) : Int).tdiv 64 = (s.cells.length : Int) := by
      rw [Int.tdiv_eq_ediv_of_nonneg (by omega)]; omega
    rw [e, w64 (by omega) (by omega)]
  have h2 := hs.n2
  refine ACalls.body Try.func62 rfl Try.ntmps62 (Nat.le_of_ble_eq_true rfl) ?_
  refine awp_seq ?_
  refine awp_region ?_
  refine al_d rfl rfl rfl (by exact x_alloc (id := 4) rfl zo100 rfl rfl) ?_
  refine al_d rfl rfl rfl (by exact opd_assign rfl rfl) ?_
  refine al_nil ?_
  refine awp_seq ?_
  refine awp_seq ?_
  refine awp_bool (t := 21) (n := 18) (X := !secOk s k) ?_ ?_
  · all_goals (refine al_d rfl rfl rfl (by exact opd_move rfl rfl) ?_)
    all_goals (refine al_d rfl rfl rfl (by exact (by first | exact opd_peq_ref rfl Try.underlying46 rfl rfl rfl rfl | exact opd_peq_nil rfl Try.underlying46 rfl rfl)) ?_)
    all_goals (refine al_d rfl rfl rfl (by exact opd_move rfl rfl) ?_)
    all_goals (first | refine al_split (t := 8) rfl (fun h8 => ?_) (fun h8 => ?_) | skip)
    all_goals (try contradiction)
    all_goals (first | refine al_off rfl rfl rfl rfl rfl ?_ | refine al_offu rfl rfl rfl rfl ?_ | refine al_ond rfl rfl rfl rfl rfl rfl (by exact opd_move rfl rfl) ?_)
    all_goals (first | refine al_off rfl rfl rfl rfl rfl ?_ | refine al_offu rfl rfl rfl rfl ?_ | refine al_ond rfl rfl rfl rfl rfl rfl (by exact opd_lss rfl rfl rfl) ?_)
    all_goals (refine al_d rfl rfl rfl (by exact (by first | exact opd_pick_t rfl rfl rfl | exact opd_pick_f rfl rfl rfl | exact opd_pickt rfl rfl (by assumption) rfl | exact opd_pickf rfl rfl (by assumption) rfl | exact opd_pick rfl rfl rfl)) ?_)
    all_goals (refine al_d rfl rfl rfl (by exact opd_move rfl rfl) ?_)
    all_goals (first | refine al_split (t := 12) rfl (fun h12 => ?_) (fun h12 => ?_) | skip)
    all_goals (try contradiction)
    all_goals (first | refine al_off rfl rfl rfl rfl rfl ?_ | refine al_offu rfl rfl rfl rfl ?_ | refine al_ond rfl rfl rfl rfl rfl rfl (by exact opd_move rfl rfl) ?_)
    all_goals (first | refine al_off rfl rfl rfl rfl rfl ?_ | refine al_offu rfl rfl rfl rfl ?_ | refine al_ond rfl rfl rfl rfl rfl rfl (by exact opd_move rfl rfl) ?_)
    all_goals (first | refine al_off rfl rfl rfl rfl rfl ?_ | refine al_offu rfl rfl rfl rfl ?_ | refine al_ond rfl rfl rfl rfl rfl rfl (by exact (by first | exact opd_nilCheck_ref rfl rfl rfl rfl | exact opd_nilCheck_fn rfl rfl)) ?_)
    all_goals (first | refine al_off rfl rfl rfl rfl rfl ?_ | refine al_offu rfl rfl rfl rfl ?_ | refine al_ond rfl rfl rfl rfl rfl rfl (by exact (by first | exact opd_field_ref rfl fo94_0 rfl rfl rfl rfl | exact opd_field_pad rfl fo94_0 rfl rfl)) ?_)
    all_goals (first | refine al_off rfl rfl rfl rfl rfl ?_ | refine al_offu rfl rfl rfl rfl ?_ | refine al_ond rfl rfl rfl rfl rfl rfl (by exact (by first | exact opd_load1_ref rfl Try.isAgg90 rfl rfl rfl rfl rfl | exact opd_load1_pad rfl Try.isAgg90 rfl (by first | omega | assumption) rfl)) ?_)
    all_goals (first | refine al_off rfl rfl rfl rfl rfl ?_ | refine al_offu rfl rfl rfl rfl ?_ | refine al_ond rfl rfl rfl rfl rfl rfl (by exact (by first | exact opd_len_sl rfl Try.underlying90 rfl | exact opd_len_osl rfl Try.underlying90 rfl rfl rfl)) ?_)
    all_goals (first | refine al_off rfl rfl rfl rfl rfl ?_ | refine al_offu rfl rfl rfl rfl ?_ | refine al_ond rfl rfl rfl rfl rfl rfl (by exact opd_quo rfl rfl rfl (by decide) hq) ?_)
    all_goals (first | refine al_off rfl rfl rfl rfl rfl ?_ | refine al_offu rfl rfl rfl rfl ?_ | refine al_ond rfl rfl rfl rfl rfl rfl (by exact opd_geq rfl rfl rfl) ?_)
    all_goals (refine al_d rfl rfl rfl (by exact (by first | exact opd_pick_t rfl rfl rfl | exact opd_pick_f rfl rfl rfl | exact opd_pickt rfl rfl (by assumption) rfl | exact opd_pickf rfl rfl (by assumption) rfl | exact opd_pick rfl rfl rfl)) ?_)
    all_goals (refine al_nil ?_)
    all_goals (exact ⟨⟨_, rfl, by first | rfl | (rw [secOk, Bool.eq_iff_iff]; simp at h12 ⊢; omega)⟩, rfl, rfl, rfl⟩)
  refine awp_cond rfl (fun hc1 => ?_) (fun hc1 => ?_)
  -- cond 1
  · have e : secOk s k = false := by simpa using hc1
    refine awp_seq ?_
    refine awp_region ?_
    refine al_d rfl rfl rfl (by exact x_build rfl bo100 rfl rfl) ?_
    refine al_n rfl rfl (by exact (by first | exact x_store_all rfl Try.sizeOf100 rfl rfl rfl rfl rfl rfl rfl rfl | exact x_store rfl Try.sizeOf100 rfl rfl rfl rfl rfl rfl rfl (by simp only [List.length_cons, List.length_nil]; omega) (by simp only [List.drop_succ_cons, List.drop_zero, List.take_succ_cons, List.take_zero, List.take_nil, List.map_cons, List.map_nil, List.set_cons_zero, List.set_cons_succ, List.cons_append, List.nil_append]; rfl) (by simp only [List.drop_succ_cons, List.drop_zero, List.take_succ_cons, List.take_zero, List.take_nil, List.map_cons, List.map_nil, List.set_cons_zero, List.set_cons_succ, List.cons_append, List.nil_append]; rfl))) ?_
    refine al_d rfl rfl rfl (by exact opd_assign rfl rfl) ?_
    refine al_nil ?_
    refine awp_ret ?_
    -- return
    refine aret2 (H' := diskH s) (by first | exact .inr rfl | exact .inl rfl) rfl (rval_cell rfl Try.isAgg100 Try.sizeOf100 rfl rfl rfl (by simp only [List.drop_succ_cons, List.drop_zero, List.take_succ_cons, List.take_zero, List.take_nil, List.map_cons, List.map_nil, List.set_cons_zero, List.set_cons_succ, List.cons_append, List.nil_append]; rfl) rfl) (rval_tmp rfl) (Fin.wk (by first | (simp; done) | (simp; rfl)) ⟨⟨_, rfl, rfl⟩, (by first | (simp; done) | (simp; rfl) | exact clo_map _ _ _ | exact clo_brows _ _ | exact disk_clo _ _ rfl rfl rfl | exact arm_clo _ _), ⟨_, rfl, rfl⟩, (by first | (simp; done) | (simp; rfl) | exact clo_map _ _ _ | exact clo_brows _ _ | exact disk_clo _ _ rfl rfl rfl | exact arm_clo _ _), ⟨_, rfl, rfl⟩, (by first | (simp; done) | (simp; rfl) | exact clo_map _ _ _ | exact clo_brows _ _ | exact disk_clo _ _ rfl rfl rfl | exact arm_clo _ _), ⟨_, rfl, rfl⟩, (by first | (simp; done) | (simp; rfl) | exact clo_map _ _ _ | exact clo_brows _ _ | exact disk_clo _ _ rfl rfl rfl | exact arm_clo _ _), trivial⟩ ⟨rfl, rfl, rfl, rfl, trivial⟩) ?_
    exact ⟨by simp [spotOf, e], rfl⟩
  · have e : secOk s k = true := by simpa using hc1
    obtain ⟨h0, h1⟩ : 0 ≤ k ∧ k < (s.cells.length : Int) := by simpa [secOk] using e
    have m1 : IntKind.i64.wrap (k * 64) = 64 * k := by rw [w64 (by omega) (by omega)]; omega
    have m2 : IntKind.i64.wrap ((k + 1) * 64) = 64 * (k + 1) := by rw [w64 (by omega) (by omega)]; omega
    refine awp_skip ?_
    refine awp_seq ?_
    refine awp_region ?_
    refine al_d rfl rfl rfl (by exact opd_move rfl rfl) ?_
    refine al_d rfl rfl rfl (by exact opd_mul rfl rfl rfl m1) ?_
    refine al_d rfl rfl rfl (by exact opd_move rfl rfl) ?_
    refine al_d rfl rfl rfl (by exact opd_add rfl rfl rfl (by first | exact w64 (by omega) (by omega) | exact wu8 (by omega) (by omega) | rfl)) ?_
    refine al_d rfl rfl rfl (by exact opd_mul rfl rfl rfl m2) ?_
    refine al_d rfl rfl rfl (by exact x_build rfl bo100 rfl (rfl : _ = some [iv (64 * k), iv (64 * (k + 1))])) ?_
    refine al_n rfl rfl (by exact (by first | exact x_store_all rfl Try.sizeOf100 rfl rfl rfl rfl rfl rfl rfl rfl | exact x_store rfl Try.sizeOf100 rfl rfl rfl rfl rfl rfl rfl (by simp only [List.length_cons, List.length_nil]; omega) (by simp only [List.drop_succ_cons, List.drop_zero, List.take_succ_cons, List.take_zero, List.take_nil, List.map_cons, List.map_nil, List.set_cons_zero, List.set_cons_succ, List.cons_append, List.nil_append]; rfl) (by simp only [List.drop_succ_cons, List.drop_zero, List.take_succ_cons, List.take_zero, List.take_nil, List.map_cons, List.map_nil, List.set_cons_zero, List.set_cons_succ, List.cons_append, List.nil_append]; rfl))) ?_
    refine al_d rfl rfl rfl (by exact opd_assign rfl rfl) ?_
    refine al_nil ?_
    refine awp_ret ?_
    -- return
    refine aret2 (H' := diskH s) (by first | exact .inr rfl | exact .inl rfl) rfl (rval_cell rfl Try.isAgg100 Try.sizeOf100 rfl rfl rfl (by simp only [List.drop_succ_cons, List.drop_zero, List.take_succ_cons, List.take_zero, List.take_nil, List.map_cons, List.map_nil, List.set_cons_zero, List.set_cons_succ, List.cons_append, List.nil_append]; rfl) rfl) (rval_tmp rfl) (Fin.wk (by first | (simp; done) | (simp; rfl)) ⟨⟨_, rfl, rfl⟩, (by first | (simp; done) | (simp; rfl) | exact clo_map _ _ _ | exact clo_brows _ _ | exact disk_clo _ _ rfl rfl rfl | exact arm_clo _ _), ⟨_, rfl, rfl⟩, (by first | (simp; done) | (simp; rfl) | exact clo_map _ _ _ | exact clo_brows _ _ | exact disk_clo _ _ rfl rfl rfl | exact arm_clo _ _), ⟨_, rfl, rfl⟩, (by first | (simp; done) | (simp; rfl) | exact clo_map _ _ _ | exact clo_brows _ _ | exact disk_clo _ _ rfl rfl rfl | exact arm_clo _ _), ⟨_, rfl, rfl⟩, (by first | (simp; done) | (simp; rfl) | exact clo_map _ _ _ | exact clo_brows _ _ | exact disk_clo _ _ rfl rfl rfl | exact arm_clo _ _), trivial⟩ ⟨rfl, rfl, rfl, rfl, trivial⟩) ?_
    exact ⟨by simp [spotOf, e], rfl⟩
def atE (s : DSt) (k : Int) : Int := if s.off then 22 else if secOk s k then 0 else 1
def atS (s : DSt) (k : Int) : List AV := if s.off then [iv 0, iv 0] else spotOf s k
theorem disk_sub (s : DSt) (H : Heap) (h : subL H (diskH s)) : Sub (diskH s) H := h.sub
theorem disk_keys (s s' : DSt) (H : Heap) : ∀ id, ((diskH s').get id).isSome = true → ((diskH s).get id).isSome = true ∨ H.get id = none := by
  intro id h
  left
  simp only [diskH, Heap.get] at h ⊢
  cases e0 : Nat.beq 1000 id <;> cases e1 : Nat.beq 1001 id <;> cases e2 : Nat.beq 1002 id <;> cases e3 : Nat.beq 1003 id <;> simp [e0, e1, e2, e3] at h ⊢
/-- A disk's call in a greater heap. -/
theorem disk_frame {f : FuncId} {args : List AV} {s s' : DSt} {r0 : AV} (h : ACalls Try.prog f args (diskH s) (fun r H' => r = r0 ∧ H' = diskH s')) (H : Heap) (hs : subL H (diskH s)) (ha : ∀ a ∈ args, Clo (diskH s) a) :
    ACalls Try.prog f args H (fun r H' => r = r0 ∧ H' = diskH s' ++ H) := h.frame hs.sub (diskH_closed s) ha (disk_keys s s' H)
theorem place_no (s : DSt) (k : Int) (hs : DOk s) (e : secOk s k = false) : ACalls Try.prog 62 [.ref 1000 0 0 0, iv k] (diskH s) (fun r H' => r = .tup [.agg [iv 0, iv 0], bv false] ∧ H' = diskH s) := by
  have h := place_c s k hs
  have es : spotOf s k = [iv 0, iv 0] := by simp [spotOf, e]
  rw [es, e] at h; exact h
theorem place_yes (s : DSt) (k : Int) (hs : DOk s) (e : secOk s k = true) : ACalls Try.prog 62 [.ref 1000 0 0 0, iv k] (diskH s) (fun r H' => r = .tup [.agg [iv (64 * k), iv (64 * (k + 1))], bv true] ∧ H' = diskH s) := by
  have h := place_c s k hs
  have es : spotOf s k = [iv (64 * k), iv (64 * (k + 1))] := by simp [spotOf, e]
  rw [es, e] at h; exact h
theorem at_c (s : DSt) (k : Int) (hs : DOk s) :
    ACalls Try.prog 58 [.ref 1000 0 0 0, iv k] (diskH s) (fun r H' => r = .tup [.agg (atS s k), iv (atE s k)] ∧ H' = diskH s) := by
  refine ACalls.body Try.func58 rfl Try.ntmps58 (Nat.le_of_ble_eq_true rfl) ?_
  refine awp_seq ?_
  refine awp_region ?_
  refine al_d rfl rfl rfl (by exact x_alloc (id := 4) rfl zo100 rfl rfl) ?_
  refine al_d rfl rfl rfl (by exact opd_assign rfl rfl) ?_
  refine al_nil ?_
  refine awp_seq ?_
  refine awp_seq ?_
  refine awp_bool (t := 15) (n := 9) (X := s.off) ?_ ?_
  · all_goals (refine al_d rfl rfl rfl (by exact opd_move rfl rfl) ?_)
    all_goals (refine al_d rfl rfl rfl (by exact (by first | exact opd_pne_ref rfl Try.underlying46 rfl rfl rfl rfl | exact opd_pne_nil rfl Try.underlying46 rfl rfl)) ?_)
    all_goals (refine al_d rfl rfl rfl (by exact opd_move rfl rfl) ?_)
    all_goals (first | refine al_split (t := 10) rfl (fun h10 => ?_) (fun h10 => ?_) | skip)
    all_goals (try contradiction)
    all_goals (first | refine al_off rfl rfl rfl rfl rfl ?_ | refine al_offu rfl rfl rfl rfl ?_ | refine al_ond rfl rfl rfl rfl rfl rfl (by exact opd_move rfl rfl) ?_)
    all_goals (first | refine al_off rfl rfl rfl rfl rfl ?_ | refine al_offu rfl rfl rfl rfl ?_ | refine al_ond rfl rfl rfl rfl rfl rfl (by exact (by first | exact opd_nilCheck_ref rfl rfl rfl rfl | exact opd_nilCheck_fn rfl rfl)) ?_)
    all_goals (first | refine al_off rfl rfl rfl rfl rfl ?_ | refine al_offu rfl rfl rfl rfl ?_ | refine al_ond rfl rfl rfl rfl rfl rfl (by exact (by first | exact opd_field_ref rfl fo94_2 rfl rfl rfl rfl | exact opd_field_pad rfl fo94_2 rfl rfl)) ?_)
    all_goals (first | refine al_off rfl rfl rfl rfl rfl ?_ | refine al_offu rfl rfl rfl rfl ?_ | refine al_ond rfl rfl rfl rfl rfl rfl (by exact (by first | exact opd_load1_ref rfl Try.isAgg4 rfl rfl rfl rfl rfl | exact opd_load1_pad rfl Try.isAgg4 rfl (by first | omega | assumption) rfl)) ?_)
    all_goals (refine al_d rfl rfl rfl (by exact (by first | exact opd_pick_t rfl rfl rfl | exact opd_pick_f rfl rfl rfl | exact opd_pickt rfl rfl (by assumption) rfl | exact opd_pickf rfl rfl (by assumption) rfl | exact opd_pick rfl rfl rfl)) ?_)
    all_goals (refine al_nil ?_)
    all_goals (exact ⟨⟨_, rfl, by first | rfl | (simp only [s, *]; rfl) | (simp_all [s]; done) | (simp only [*, Bool.false_and, Bool.true_and, Bool.and_false, Bool.and_true, Bool.true_or, Bool.false_or, Bool.or_true, Bool.or_false, Bool.not_true, Bool.not_false]; done) | (simp_all; omega) | (simp_all [s]; omega)⟩, rfl, rfl, rfl⟩)
  refine awp_cond rfl (fun hc1 => ?_) (fun hc1 => ?_)
  -- cond 1
  · skip
    refine awp_seq ?_
    refine awp_region ?_
    refine al_d rfl rfl rfl (by exact x_build rfl bo100 rfl rfl) ?_
    refine al_n rfl rfl (by exact (by first | exact x_store_all rfl Try.sizeOf100 rfl rfl rfl rfl rfl rfl rfl rfl | exact x_store rfl Try.sizeOf100 rfl rfl rfl rfl rfl rfl rfl (by simp only [List.length_cons, List.length_nil]; omega) (by simp only [List.drop_succ_cons, List.drop_zero, List.take_succ_cons, List.take_zero, List.take_nil, List.map_cons, List.map_nil, List.set_cons_zero, List.set_cons_succ, List.cons_append, List.nil_append]; rfl) (by simp only [List.drop_succ_cons, List.drop_zero, List.take_succ_cons, List.take_zero, List.take_nil, List.map_cons, List.map_nil, List.set_cons_zero, List.set_cons_succ, List.cons_append, List.nil_append]; rfl))) ?_
    refine al_d rfl rfl rfl (by exact opd_assign rfl rfl) ?_
    refine al_nil ?_
    refine awp_ret ?_
    -- return
    refine aret2 (H' := diskH s) (by first | exact .inr rfl | exact .inl rfl) rfl (rval_cell rfl Try.isAgg100 Try.sizeOf100 rfl rfl rfl (by simp only [List.drop_succ_cons, List.drop_zero, List.take_succ_cons, List.take_zero, List.take_nil, List.map_cons, List.map_nil, List.set_cons_zero, List.set_cons_succ, List.cons_append, List.nil_append]; rfl) rfl) (rval_tmp rfl) (Fin.wk (by first | (simp; done) | (simp; rfl)) ⟨⟨_, rfl, rfl⟩, (by first | (simp; done) | (simp; rfl) | exact clo_map _ _ _ | exact clo_brows _ _ | exact disk_clo _ _ rfl rfl rfl | exact arm_clo _ _), ⟨_, rfl, rfl⟩, (by first | (simp; done) | (simp; rfl) | exact clo_map _ _ _ | exact clo_brows _ _ | exact disk_clo _ _ rfl rfl rfl | exact arm_clo _ _), ⟨_, rfl, rfl⟩, (by first | (simp; done) | (simp; rfl) | exact clo_map _ _ _ | exact clo_brows _ _ | exact disk_clo _ _ rfl rfl rfl | exact arm_clo _ _), ⟨_, rfl, rfl⟩, (by first | (simp; done) | (simp; rfl) | exact clo_map _ _ _ | exact clo_brows _ _ | exact disk_clo _ _ rfl rfl rfl | exact arm_clo _ _), trivial⟩ ⟨rfl, rfl, rfl, rfl, trivial⟩) ?_
    exact ⟨by simp [atS, atE, hc1], rfl⟩
  · skip
    cases e : secOk s k
    · skip
      refine awp_skip ?_
      refine awp_seq ?_
      refine awp_region ?_
      refine al_d rfl rfl rfl (by exact opd_move rfl rfl) ?_
      refine al_d rfl rfl rfl (by exact opd_move rfl rfl) ?_
      refine al_d rfl rfl rfl (by exact opr_call rfl rfl Try.call62 rfl (disk_frame (place_no s k hs e) _ ⟨rfl, rfl, rfl, rfl, trivial⟩ (by simp; rfl))) ?_
      refine al_d rfl rfl rfl (by exact opd_move rfl rfl) ?_
      refine al_d rfl rfl rfl (by exact opd_extract rfl rfl rfl) ?_
      refine al_d rfl rfl rfl (by exact opd_extract rfl rfl rfl) ?_
      refine al_d rfl rfl rfl (by exact x_alloc (id := 6) rfl zo100 rfl rfl) ?_
      refine al_n rfl rfl (by exact (by first | exact x_store_all rfl Try.sizeOf100 rfl rfl rfl rfl rfl rfl rfl rfl | exact x_store rfl Try.sizeOf100 rfl rfl rfl rfl rfl rfl rfl (by simp only [List.length_cons, List.length_nil]; omega) (by simp only [List.drop_succ_cons, List.drop_zero, List.take_succ_cons, List.take_zero, List.take_nil, List.map_cons, List.map_nil, List.set_cons_zero, List.set_cons_succ, List.cons_append, List.nil_append]; rfl) (by simp only [List.drop_succ_cons, List.drop_zero, List.take_succ_cons, List.take_zero, List.take_nil, List.map_cons, List.map_nil, List.set_cons_zero, List.set_cons_succ, List.cons_append, List.nil_append]; rfl))) ?_
      refine al_d rfl rfl rfl (by exact opd_assign rfl rfl) ?_
      refine al_nil ?_
      refine awp_seq ?_
      refine awp_seq ?_
      refine awp_region ?_
      refine al_d rfl rfl rfl (by exact opd_move rfl rfl) ?_
      refine al_d rfl rfl rfl (by exact opd_not rfl rfl) ?_
      refine al_nil ?_
      refine awp_cond rfl (fun hc2 => ?_) (fun hc2 => ?_)
      -- cond 2
      · skip
        refine awp_seq ?_
        refine awp_region ?_
        refine al_d rfl rfl rfl (by exact x_build rfl bo100 rfl rfl) ?_
        refine al_n rfl rfl (by exact (by first | exact x_store_all rfl Try.sizeOf100 rfl rfl rfl rfl rfl rfl rfl rfl | exact x_store rfl Try.sizeOf100 rfl rfl rfl rfl rfl rfl rfl (by simp only [List.length_cons, List.length_nil]; omega) (by simp only [List.drop_succ_cons, List.drop_zero, List.take_succ_cons, List.take_zero, List.take_nil, List.map_cons, List.map_nil, List.set_cons_zero, List.set_cons_succ, List.cons_append, List.nil_append]; rfl) (by simp only [List.drop_succ_cons, List.drop_zero, List.take_succ_cons, List.take_zero, List.take_nil, List.map_cons, List.map_nil, List.set_cons_zero, List.set_cons_succ, List.cons_append, List.nil_append]; rfl))) ?_
        refine al_d rfl rfl rfl (by exact opd_assign rfl rfl) ?_
        refine al_nil ?_
        refine awp_ret ?_
        -- return
        refine aret2 (H' := diskH s) (by first | exact .inr rfl | exact .inl rfl) rfl (rval_cell rfl Try.isAgg100 Try.sizeOf100 rfl rfl rfl (by simp only [List.drop_succ_cons, List.drop_zero, List.take_succ_cons, List.take_zero, List.take_nil, List.map_cons, List.map_nil, List.set_cons_zero, List.set_cons_succ, List.cons_append, List.nil_append]; rfl) rfl) (rval_tmp rfl) (Fin.wk (by first | (simp; done) | (simp; rfl)) ⟨⟨_, rfl, rfl⟩, (by first | (simp; done) | (simp; rfl) | exact clo_map _ _ _ | exact clo_brows _ _ | exact disk_clo _ _ rfl rfl rfl | exact arm_clo _ _), ⟨_, rfl, rfl⟩, (by first | (simp; done) | (simp; rfl) | exact clo_map _ _ _ | exact clo_brows _ _ | exact disk_clo _ _ rfl rfl rfl | exact arm_clo _ _), ⟨_, rfl, rfl⟩, (by first | (simp; done) | (simp; rfl) | exact clo_map _ _ _ | exact clo_brows _ _ | exact disk_clo _ _ rfl rfl rfl | exact arm_clo _ _), ⟨_, rfl, rfl⟩, (by first | (simp; done) | (simp; rfl) | exact clo_map _ _ _ | exact clo_brows _ _ | exact disk_clo _ _ rfl rfl rfl | exact arm_clo _ _), trivial⟩ ⟨rfl, rfl, rfl, rfl, trivial⟩) ?_
        exact ⟨by simp [atS, atE, hc1, e, spotOf], rfl⟩
      · cases hc2
    · skip
      refine awp_skip ?_
      refine awp_seq ?_
      refine awp_region ?_
      refine al_d rfl rfl rfl (by exact opd_move rfl rfl) ?_
      refine al_d rfl rfl rfl (by exact opd_move rfl rfl) ?_
      refine al_d rfl rfl rfl (by exact opr_call rfl rfl Try.call62 rfl (disk_frame (place_yes s k hs e) _ ⟨rfl, rfl, rfl, rfl, trivial⟩ (by simp; rfl))) ?_
      refine al_d rfl rfl rfl (by exact opd_move rfl rfl) ?_
      refine al_d rfl rfl rfl (by exact opd_extract rfl rfl rfl) ?_
      refine al_d rfl rfl rfl (by exact opd_extract rfl rfl rfl) ?_
      refine al_d rfl rfl rfl (by exact x_alloc (id := 6) rfl zo100 rfl rfl) ?_
      refine al_n rfl rfl (by exact (by first | exact x_store_all rfl Try.sizeOf100 rfl rfl rfl rfl rfl rfl rfl rfl | exact x_store rfl Try.sizeOf100 rfl rfl rfl rfl rfl rfl rfl (by simp only [List.length_cons, List.length_nil]; omega) (by simp only [List.drop_succ_cons, List.drop_zero, List.take_succ_cons, List.take_zero, List.take_nil, List.map_cons, List.map_nil, List.set_cons_zero, List.set_cons_succ, List.cons_append, List.nil_append]; rfl) (by simp only [List.drop_succ_cons, List.drop_zero, List.take_succ_cons, List.take_zero, List.take_nil, List.map_cons, List.map_nil, List.set_cons_zero, List.set_cons_succ, List.cons_append, List.nil_append]; rfl))) ?_
      refine al_d rfl rfl rfl (by exact opd_assign rfl rfl) ?_
      refine al_nil ?_
      refine awp_seq ?_
      refine awp_seq ?_
      refine awp_region ?_
      refine al_d rfl rfl rfl (by exact opd_move rfl rfl) ?_
      refine al_d rfl rfl rfl (by exact opd_not rfl rfl) ?_
      refine al_nil ?_
      refine awp_cond rfl (fun hc3 => ?_) (fun hc3 => ?_)
      -- cond 3
      · cases hc3
      · skip
        refine awp_skip ?_
        refine awp_seq ?_
        refine awp_region ?_
        refine al_d rfl rfl rfl (by exact (by first | exact opd_loadn_ref rfl Try.isAgg100 Try.sizeOf100 rfl rfl rfl rfl (by simp only [List.drop_succ_cons, List.drop_zero, List.take_succ_cons, List.take_zero, List.take_nil, List.map_cons, List.map_nil, List.set_cons_zero, List.set_cons_succ, List.cons_append, List.nil_append]; rfl) rfl | exact opd_loadn_pad rfl Try.isAgg100 Try.sizeOf100 rfl (by first | omega | assumption) (by simp only [List.drop_succ_cons, List.drop_zero, List.take_succ_cons, List.take_zero, List.take_nil, List.map_cons, List.map_nil, List.set_cons_zero, List.set_cons_succ, List.cons_append, List.nil_append]; rfl) rfl)) ?_
        refine al_n rfl rfl (by exact (by first | exact x_store_all rfl Try.sizeOf100 rfl rfl rfl rfl rfl rfl rfl rfl | exact x_store rfl Try.sizeOf100 rfl rfl rfl rfl rfl rfl rfl (by simp only [List.length_cons, List.length_nil]; omega) (by simp only [List.drop_succ_cons, List.drop_zero, List.take_succ_cons, List.take_zero, List.take_nil, List.map_cons, List.map_nil, List.set_cons_zero, List.set_cons_succ, List.cons_append, List.nil_append]; rfl) (by simp only [List.drop_succ_cons, List.drop_zero, List.take_succ_cons, List.take_zero, List.take_nil, List.map_cons, List.map_nil, List.set_cons_zero, List.set_cons_succ, List.cons_append, List.nil_append]; rfl))) ?_
        refine al_d rfl rfl rfl (by exact opd_assign rfl rfl) ?_
        refine al_nil ?_
        refine awp_ret ?_
        -- return
        refine aret2 (H' := diskH s) (by first | exact .inr rfl | exact .inl rfl) rfl (rval_cell rfl Try.isAgg100 Try.sizeOf100 rfl rfl rfl (by simp only [List.drop_succ_cons, List.drop_zero, List.take_succ_cons, List.take_zero, List.take_nil, List.map_cons, List.map_nil, List.set_cons_zero, List.set_cons_succ, List.cons_append, List.nil_append]; rfl) rfl) (rval_tmp rfl) (Fin.wk (by first | (simp; done) | (simp; rfl)) ⟨⟨_, rfl, rfl⟩, (by first | (simp; done) | (simp; rfl) | exact clo_map _ _ _ | exact clo_brows _ _ | exact disk_clo _ _ rfl rfl rfl | exact arm_clo _ _), ⟨_, rfl, rfl⟩, (by first | (simp; done) | (simp; rfl) | exact clo_map _ _ _ | exact clo_brows _ _ | exact disk_clo _ _ rfl rfl rfl | exact arm_clo _ _), ⟨_, rfl, rfl⟩, (by first | (simp; done) | (simp; rfl) | exact clo_map _ _ _ | exact clo_brows _ _ | exact disk_clo _ _ rfl rfl rfl | exact arm_clo _ _), ⟨_, rfl, rfl⟩, (by first | (simp; done) | (simp; rfl) | exact clo_map _ _ _ | exact clo_brows _ _ | exact disk_clo _ _ rfl rfl rfl | exact arm_clo _ _), trivial⟩ ⟨rfl, rfl, rfl, rfl, trivial⟩) ?_
        exact ⟨by simp [atS, atE, hc1, e, spotOf], rfl⟩
end Go.Proofs.Ytljocbkebhgkoaa
