/-
  CONTRACTS: evidence.Find's closures, evidence.first. Conditions: lengths below 2^40.
  CONTRACT: evidence.Find. Conditions: lengths below 2^40.
  PLAIN LAWS: the law's own test of evidence says what evidence is. Conditions: none.
  CONTRACTS: package planispherelaw31: what is moderate, evidence compared, drops counted, one edit, lists of indices. Conditions: lengths below 2^62.
  CONTRACTS: planispherelaw31.holds: evidence that holds. Conditions: lengths below 2^62.
  CONTRACTS: package planispherelaw32: nodes, head. Conditions: none.
  A SLICE WITHOUT ROOM behind it (s[:n:n]): what is appended to it lies in a new block. Conditions: each rule's own premises.
  CONTRACT: planispherelaw31.head: the chapter's examples hold. Conditions: none.
  EvidenceHolds, EvidenceFirst answer true. Conditions: the arguments' sizes.
  WHAT THE ARGUMENTS OF THE LAWS HOLD: maps and edits, as the contracts of layer 31 ask. Conditions: none.
  A SLICE OF ONE'S OWN WHOSE CAPACITY IS KNOWN ('osc'): cap, cuts up to the capacity, appending within it or beyond it, copies inside of an object and from others, clear.
  Conditions: each rule's own premises.
  A SLICE OF ONE'S OWN WHOSE CAPACITY IS KNOWN: append within the capacity (it writes over what is there), append beyond it (a new object), clear, cuts with a bound.
  Conditions: each rule's own premises.
  AN OWNED SLICE IS LENT FOR GOOD: a call reads it as a slice that never changes; behind the call the object is empty.
  Conditions: each rule's own premises.
  A SLICE COMPARED WITH nil; copies in the form of the walks; an owned slice that ends with a call and is handed on as one that never changes.
  Conditions: each rule's own premises.
  CONTRACTS: strings.Compare; slices.BinarySearchFunc at lists in strict order, slices.Clone, Insert, Delete at the lists of the map. Conditions: lengths below 2^40.
  CONTRACTS: slices.Clone, Insert, Delete at the lists of the map: the clone is the caller's own object 901; what is put in is object 902; behind Insert and Delete object 901 is dead and the result never changes. Conditions: lengths below 2^40.
  CONTRACTS: tag.Set. Conditions: lengths below 2^40.
  CONTRACTS: atlas.valid, at, Put, Drop. Conditions: lengths below 2^40.
  CONTRACTS: slices.Index, Contains at strings and ints, Clone and Concat at strings; package edit: inner, referred, get. Conditions: lengths below 2^40.
  CONTRACTS: package edit: referred, get. Conditions: lengths below 2^40.
  CONTRACTS: slices.Clone, Grow, Concat at strings: what is returned never changes. Conditions: lengths below 2^40.
  CONTRACTS: atlas.Drop; package edit: split, join. Conditions: lengths below 2^40.
  CONTRACTS: package edit: join. Conditions: lengths below 2^40.
  CONTRACTS: package edit: perform. Conditions: lengths below 2^39.
  PLAIN: what a valid object's lists are at most; the sizes of what an edit puts. CONTRACT: perform. Conditions: sizes.
  CONTRACTS: package edit: after, Apply. Conditions: lengths below 2^39.
  PLAIN: maps by their lookups. Conditions: none.
  PLAIN: closed maps stay closed under edits; what an edit leads to, by operations. Conditions: none.
  CONTRACT: edit.All. Conditions: lengths below 2^39.
  slices.Sort OF AN OWNED SLICE OF TEXTS: the library's contract, carried over. Conditions: lengths below 2^62.
  slices.Sort at this program: the library's contract laid. Conditions: lengths below 2^62.
-/
import Derived.Test.YtdcifaldfmpapaaGreatKN5M6
import Derived.Lib.Overlaps
import Derived.WalkSpells
import Derived.Lib.SliceRun
import Derived.Shelf.SortM.Plain
import Derived.Shelf.SortM.SortNone
import Derived.Ground.SlgmProg
section
set_option linter.unusedVariables false
set_option linter.unusedSimpArgs false
set_option maxRecDepth 100000
namespace Go.Proofs.YtdcifaldfmpapaaGreat
open Go.Abs
theorem SusH.cons {m : List GObj} {H : Heap} {i : Nat} {o : Ob} (h : SusH m H) (h1 : Nat.beq i 801 = false) (h2 : Nat.beq i 803 = false) (h3 : Nat.beq i 971 = false) (h4 : Nat.beq i 973 = false) (h5 : Nat.beq i 974 = false) (hc : ∀ r ∈ o.rows, ∀ a ∈ r, Clo ((i, o) :: H) a) : SusH m ((i, o) :: H) where
  m := by simp only [Heap.get, h1]; exact h.m
  f := by simp only [Heap.get, h2]; exact h.f
  f1 := by simp only [Heap.get, h3]; exact h.f1
  f2 := by simp only [Heap.get, h4]; exact h.f2
  f3 := by simp only [Heap.get, h5]; exact h.f3
  c := Closed.cons hc h.c
theorem find11_c (k : Nat) (x e : GEdit) (H : Heap) (h12 : H.get 12 = some (bx 4 96 (susRow k))) (h83 : H.get 983 = some (bEd e)) (h84 : H.get 984 = none) (hc : Closed H) (hx : x.obj.tags.length < 4611686018427387904) (h1 : 1 ≤ k) (h4 : k ≤ 4) :
    ACalls Tryz.prog 65 [av (encEdit x), .ref 12 0 0 0, .ref 983 0 0 0] H (fun r H' => r = bv (!eTog k x e) ∧ H' = H) := by
  have h12' : Heap.get ((984, bEd x) :: H) 12 = some (bx 4 96 (susRow k)) := h12
  have h83' : Heap.get ((984, bEd x) :: H) 983 = some (bEd e) := h83
  have htog := fun H => etog_c k x e H hx h1 h4
  refine ACalls.body Tryz.func65 rfl Tryz.ntmps65 (Nat.le_of_ble_eq_true rfl) ?_
  refine awp_seq ?_
  refine awp_region ?_
  refine al_d rfl rfl rfl (by exact opd_box (id := 984) rfl rfl rfl rfl h84) ?_
  refine al_d rfl rfl rfl (by exact opd_assign rfl rfl) ?_
  refine al_nil ?_
  refine awp_seq ?_
  refine awp_region ?_
  refine al_d rfl rfl rfl (by exact opd_field_ref rfl fo96_3 rfl h12' rfl rfl) ?_
  refine al_d rfl rfl rfl (by exact opd_load1_ref rfl Tryz.isAgg77 rfl h12' rfl rfl rfl) ?_
  refine al_d rfl rfl rfl (by exact (by exact opd_loadn_ref rfl Tryz.isAgg32 Tryz.sizeOf32 rfl rfl rfl rfl (by simp only [List.drop_succ_cons, List.drop_zero, List.take_succ_cons, List.take_zero, List.take_nil, List.map_cons, List.map_nil, List.set_cons_zero, List.set_cons_succ, List.cons_append, List.nil_append, encTag, encObj, encStr, encEdit, encInt]; rfl) rfl)) ?_
  refine al_d rfl rfl rfl (by exact (by exact opd_loadn_ref rfl Tryz.isAgg32 Tryz.sizeOf32 rfl h83' rfl rfl (by simp only [List.drop_succ_cons, List.drop_zero, List.take_succ_cons, List.take_zero, List.take_nil, List.map_cons, List.map_nil, List.set_cons_zero, List.set_cons_succ, List.cons_append, List.nil_append, encTag, encObj, encStr, encEdit, encInt]; rfl) rfl)) ?_
  refine al_d rfl rfl rfl (by exact opr_callV rfl rfl rfl (htog _)) ?_
  refine al_d rfl rfl rfl (by exact opd_not rfl rfl) ?_
  refine al_d rfl rfl rfl (by exact opd_assign rfl rfl) ?_
  refine al_nil ?_
  refine awp_ret ?_
  -- return
  refine aret1 (H' := H) (.inr rfl) rfl (rval_tmp rfl) (Fin.pops [(984, bEd x)] (by simp) hc (by simp [h84])) ⟨rfl, rfl⟩
theorem findC_c (k : Nat) (m : List GObj) (e : GEdit) (tk : List GEdit) (g : Nat) (H : Heap) (hm : okM m) (hS : SusH m H) (h12 : H.get 12 = some (bx 4 96 (susRow k))) (h10 : H.get 910 = some ⟨g, 15, 32, edRows tk⟩)
    (h83 : H.get 983 = none) (h84 : H.get 984 = none) (ht : tk.length < 4611686018427387904) (htk : ∀ x ∈ tk, x.obj.tags.length < 4611686018427387904) (h1 : 1 ≤ k) (h4 : k ≤ 4) :
    ACalls Tryz.prog 64 [av (encEdit e), .osl 910 g 0 tk.length, .ref 12 0 0 0] H (fun r H' => r = bv (eShows k m e && !(tk.any fun y => !eTog k y e)) ∧ H' = H) := by
  have h12' : Heap.get ((983, bEd e) :: H) 12 = some (bx 4 96 (susRow k)) := h12
  have h10' : Heap.get ((983, bEd e) :: H) 910 = some ⟨g, 15, 32, edRows tk⟩ := h10
  have hS' : SusH m ((983, bEd e) :: H) := hS.cons rfl rfl rfl rfl rfl (by simp [encEdit])
  have hsh := eshows_c k m e _ hm hS' h1 h4
  refine ACalls.body Tryz.func64 rfl Tryz.ntmps64 (Nat.le_of_ble_eq_true rfl) ?_
  refine awp_seq ?_
  refine awp_region ?_
  refine al_d rfl rfl rfl (by exact opd_box (id := 983) rfl rfl rfl rfl h83) ?_
  refine al_d rfl rfl rfl (by exact opd_assign rfl rfl) ?_
  refine al_nil ?_
  refine awp_seq ?_
  refine awp_bool (t := 5) (n := 12) (X := eShows k m e && !(tk.any fun y => !eTog k y e)) ?_ ?_
  · all_goals (refine al_d rfl rfl rfl (by exact opd_field_ref rfl fo96_2 rfl h12' rfl rfl) ?_)
    all_goals (refine al_d rfl rfl rfl (by exact opd_load1_ref rfl Tryz.isAgg39 rfl h12' rfl rfl rfl) ?_)
    all_goals (refine al_d rfl rfl rfl (by exact (by exact opd_loadn_ref rfl Tryz.isAgg32 Tryz.sizeOf32 rfl rfl rfl rfl (by simp only [List.drop_succ_cons, List.drop_zero, List.take_succ_cons, List.take_zero, List.take_nil, List.map_cons, List.map_nil, List.set_cons_zero, List.set_cons_succ, List.cons_append, List.nil_append, encTag, encObj, encStr, encEdit, encInt]; rfl) rfl)) ?_)
    all_goals (refine al_d rfl rfl rfl (by exact opr_callV rfl rfl rfl (hsh)) ?_)
    all_goals (refine al_d rfl rfl rfl (by exact opd_move rfl rfl) ?_)
    all_goals (refine al_split (t := 10) rfl (fun h10 => ?_) (fun h10 => ?_))
    all_goals (try contradiction)
    all_goals (first | refine al_off rfl rfl rfl rfl rfl ?_ | refine al_ond rfl rfl rfl rfl rfl rfl (by exact opd_move rfl rfl) ?_)
    all_goals (first | refine al_off rfl rfl rfl rfl rfl ?_ | refine al_ond rfl rfl rfl rfl rfl rfl (by exact opd_makeFunc rfl rfl) ?_)
    all_goals (first | refine al_off rfl rfl rfl rfl rfl ?_ | refine al_ond rfl rfl rfl rfl rfl rfl (by exact opr_call rfl rfl Tryz.call60 rfl (containsOwn_GEdit (.clo 65 [.ref 12 0 0 0, .ref 983 0 0 0]) tk (fun y => !eTog k y e) _ 910 g 15 _ h10' rfl rfl rfl rfl ht (fun x hx => CallsV.clo Tryz.call65 (find11_c k x e _ h12' rfl h84 hS'.c (htk x hx) h1 h4)))) ?_)
    all_goals (first | refine al_off rfl rfl rfl rfl rfl ?_ | refine al_ond rfl rfl rfl rfl rfl rfl (by exact opd_not rfl rfl) ?_)
    all_goals (refine al_d rfl rfl rfl (by exact (by first | exact opd_pick_t rfl rfl rfl | exact opd_pick_f rfl rfl rfl)) ?_)
    all_goals (refine al_d rfl rfl rfl (by exact opd_assign rfl rfl) ?_)
    all_goals (refine al_nil ?_)
    all_goals (exact ⟨⟨_, rfl, by (simp_all [eShows]; done)⟩, rfl, rfl, rfl⟩)
  refine awp_ret ?_
  -- return
  refine aret1 (H' := H) (.inr rfl) rfl (rval_tmp rfl) (Fin.pops [(983, bEd e)] (by simp) hS.c (by simp [h83])) ⟨rfl, rfl⟩
abbrev inRows (l : List Int) : List (List AV) := l.map (fun e => (encInt e).map .pv)
theorem gr_zero {α : Type} (S : α → Bool) (T : α → α → Bool) (l : List α) (i : Nat) (tk : List α) : gr S T l i 0 tk = [] := by
  cases l <;> rfl
theorem rows_of {α : Type} (f : α → List PV) (l : List α) : l.map (fun e => (f e).map AV.pv) = (l.map f).map (·.map .pv) := by rw [List.map_map]; rfl
theorem in_snoc (outs : List Nat) (i : Nat) : inRows (toI outs) ++ [[iv (i : Int)]] = inRows (toI (outs ++ [i])) := by simp [inRows, encInt]
theorem first_c (S : GEdit → Bool) (T : GEdit → GEdit → Bool) (fv : AV) (l : List GEdit) (frm n : Nat) (K : Heap) (hl : l.length < 1099511627776) (hn : n ≤ 5) (hfr : frm ≤ l.length) (h9 : K.get 909 = none) (h10 : K.get 910 = none) (hc : Closed K) (hfc : Clo K fv)
    (hf : ∀ x, x ∈ l → ∀ (tk : List GEdit) (g : Nat) (o9 : Ob), tk.length ≤ 5 → (∀ y ∈ tk, y ∈ l) → (∀ r ∈ o9.rows, ∀ a ∈ r, ∃ p, a = .pv p) → CallsV Tryz.prog fv [av (encEdit x), .osl 910 g 0 tk.length] ((910, ⟨g, 15, 32, edRows tk⟩) :: (909, o9) :: K) (fun r H' => r = bv (S x && !(tk.any fun y => !T y x)) ∧ H' = (910, ⟨g, 15, 32, edRows tk⟩) :: (909, o9) :: K)) :
    ACalls Tryz.prog 63 [.pv (slEdits l), iv (frm : Int), iv (n : Int), fv] K (fun r H' => r = .pv (slInts (toI (gr S T (l.drop frm) frm n []))) ∧ H' = K) := by
  have hml : (l.map encEdit).length = l.length := List.length_map _
  have h10' : Heap.get ((909, (⟨0, 1, 3, []⟩ : Ob)) :: K) 910 = none := h10
  refine ACalls.body Tryz.func63 rfl Tryz.ntmps63 (Nat.le_of_ble_eq_true rfl) ?_
  refine awp_seq ?_
  refine awp_region ?_
  refine al_d rfl rfl rfl (by exact opd_assign rfl rfl) ?_
  refine al_nil ?_
  refine awp_seq ?_
  refine awp_region ?_
  refine al_d rfl rfl rfl (by exact opd_assign_own (id := 909) (sz := 1) (ty := 3) rfl h9 rfl) ?_
  refine al_nil ?_
  refine awp_seq ?_
  refine awp_region ?_
  refine al_d rfl rfl rfl (by exact opd_assign_own (id := 910) (sz := 15) (ty := 32) rfl h10' rfl) ?_
  refine al_nil ?_
  refine awp_seq ?_
  refine awp_seq ?_
  refine awp_region ?_
  refine al_d rfl rfl rfl (by exact opd_move rfl rfl) ?_
  refine al_d rfl rfl rfl (by exact opd_assign rfl rfl) ?_
  refine al_nil ?_
  refine awp_block ?_
  -- loop
  refine awp_loop5 (fun (i : Nat) (outs : List Nat) (tk : List GEdit) (g : Nat) (g2 : Nat) => ([(0, .pv (slEdits l)), (2, iv (n : Int)), (3, fv), (9, .osl 909 g 0 outs.length), (10, .osl 910 g2 0 tk.length), (11, iv (i : Int))], (910, ⟨g2, 15, 32, edRows tk⟩) :: (909, ⟨g, 1, 3, inRows (toI outs)⟩) :: K))
    (fun i outs tk g g2 => i ≤ l.length ∧ outs.length = tk.length ∧ outs.length ≤ n ∧ (∀ y ∈ tk, y ∈ l) ∧ gr S T (l.drop frm) frm n [] = outs ++ gr S T (l.drop i) i (n - outs.length) tk) (fun i _ _ _ _ => l.length - i) frm [] [] 0 0 ⟨hfr, rfl, by simp, by simp, by simp⟩ ?_ ?_
  · exact Ent.e0 ⟨⟨_, rfl, rfl⟩, ⟨_, rfl, rfl⟩, ⟨_, rfl, rfl⟩, ⟨_, rfl, rfl⟩, ⟨_, rfl, rfl⟩, ⟨_, rfl, rfl⟩, trivial⟩
  · rintro i outs tk g g2 ⟨hi, hlen, hon, htl, hinv⟩
    refine awp_seq ?_
    refine awp_seq ?_
    refine awp_bool (t := 22) (n := 11) (X := decide ((i : Int) < ((l.map encEdit).length : Int)) && decide ((outs.length : Int) < (n : Int))) ?_ ?_
    · all_goals (refine al_d rfl rfl rfl (by exact opd_move rfl rfl) ?_)
      all_goals (refine al_d rfl rfl rfl (by exact opd_move rfl rfl) ?_)
      all_goals (refine al_d rfl rfl rfl (by exact (by exact opd_len_sl rfl Tryz.underlying46 rfl)) ?_)
      all_goals (refine al_d rfl rfl rfl (by exact opd_lss rfl rfl rfl) ?_)
      all_goals (refine al_d rfl rfl rfl (by exact opd_move rfl rfl) ?_)
      all_goals (refine al_split (t := 17) rfl (fun h17 => ?_) (fun h17 => ?_))
      all_goals (try contradiction)
      all_goals (first | refine al_off rfl rfl rfl rfl rfl ?_ | refine al_ond rfl rfl rfl rfl rfl rfl (by exact opd_move rfl rfl) ?_)
      all_goals (first | refine al_off rfl rfl rfl rfl rfl ?_ | refine al_ond rfl rfl rfl rfl rfl rfl (by exact (by exact opd_len_osl rfl Tryz.underlying61 rfl rfl rfl)) ?_)
      all_goals (first | refine al_off rfl rfl rfl rfl rfl ?_ | refine al_ond rfl rfl rfl rfl rfl rfl (by exact opd_move rfl rfl) ?_)
      all_goals (first | refine al_off rfl rfl rfl rfl rfl ?_ | refine al_ond rfl rfl rfl rfl rfl rfl (by exact opd_lss rfl rfl rfl) ?_)
      all_goals (refine al_d rfl rfl rfl (by exact (by first | exact opd_pick_t rfl rfl rfl | exact opd_pick_f rfl rfl rfl)) ?_)
      all_goals (refine al_nil ?_)
      all_goals (exact ⟨⟨_, rfl, by first | (simp_all; done) | (simp_all; omega)⟩, rfl, rfl, rfl⟩)
    refine awp_cond rfl (fun hc1 => ?_) (fun hc1 => ?_)
    -- cond 1
    · have hlt : i < l.length ∧ outs.length < n := by
        simp only [Bool.and_eq_true, decide_eq_true_eq] at hc1
        omega
      obtain ⟨x, hx⟩ := get_of_lt hlt.1
      have hxi := map_get (f := encEdit) hx
      have hxm := List.mem_of_getElem? hx
      have hdr : l.drop i = x :: l.drop (i + 1) := by
        obtain ⟨hl1, he1⟩ := List.getElem?_eq_some_iff.1 hx
        rw [List.drop_eq_getElem_cons hl1, he1]
      obtain ⟨d, hd⟩ : ∃ d, n - outs.length = d + 1 := ⟨n - outs.length - 1, by omega⟩
      rw [hdr, hd, gr] at hinv
      have hcl : ∀ r ∈ inRows (toI outs), ∀ a ∈ r, ∃ p, a = AV.pv p := by
        intro r hr a ha
        obtain ⟨z, _, rfl⟩ := List.mem_map.1 hr
        obtain ⟨p, _, rfl⟩ := List.mem_map.1 ha
        exact ⟨p, rfl⟩
      refine awp_skip ?_
      refine awp_seq ?_
      refine awp_block ?_
      refine awp_seq ?_
      refine awp_region ?_
      refine al_d rfl rfl rfl (by exact opd_move rfl rfl) ?_
      refine al_d rfl rfl rfl (by exact opd_move rfl rfl) ?_
      refine al_d rfl rfl rfl (by exact opd_move rfl rfl) ?_
      refine al_d rfl rfl rfl (by exact (by exact x_index_pad rfl so46 rfl rfl (by omega) (by exact Int.toNat_natCast _) (by assumption) rfl)) ?_
      refine al_d rfl rfl rfl (by exact (by exact opd_loadn_pad rfl Tryz.isAgg32 Tryz.sizeOf32 rfl (by omega) (by simp only [List.drop_succ_cons, List.drop_zero, List.take_succ_cons, List.take_zero, List.take_nil, List.map_cons, List.map_nil, List.set_cons_zero, List.set_cons_succ, List.cons_append, List.nil_append, encTag, encObj, encStr, encEdit, encInt]; rfl) rfl)) ?_
      refine al_d rfl rfl rfl (by exact opd_move rfl rfl) ?_
      refine al_d rfl rfl rfl (by exact opr_callV rfl rfl rfl (hf x hxm tk g2 ⟨g, 1, 3, inRows (toI outs)⟩ (by omega) htl hcl)) ?_
      refine al_nil ?_
      refine awp_cond rfl (fun hc2 => ?_) (fun hc2 => ?_)
      -- cond 2
      · rw [if_pos hc2] at hinv
        refine awp_drawc follows ?_
        refine dc_cons (r := ⟨_, some [909], []⟩) (DStep.plain rfl (fun H1 hH => by exact opd_move rfl rfl)) rfl ?_
        refine dc_cons (r := ⟨_, some [], []⟩) (DStep.plain rfl (fun H1 hH => by exact opd_move rfl rfl)) rfl ?_
        refine dc_cons (r := ⟨_, some [], []⟩) (DStep.plain rfl (fun H1 hH => by exact (by exact x_buildSlice [encInt (i : Int)] rfl so61 rfl rfl rfl rfl rfl (by simp [encInt])))) rfl ?_
        refine dc_cons (r := ⟨_, some [909], [_]⟩) (DStep.plain rfl (fun H1 hH => by exact (by exact x_append rfl so61 ei3 rfl ((hH _ rfl).trans rfl) rfl rfl rfl (by simp : _ = outs.length) rfl (by simp [encInt]) (rfl : _ = 1) (by omega) (len_snoc outs i) (in_snoc outs i)))) rfl ?_
        refine dc_cons (r := ⟨_, some [910], []⟩) (DStep.plain rfl (fun H1 hH => by exact opd_move rfl rfl)) rfl ?_
        refine dc_cons (r := ⟨_, some [], []⟩) (DStep.plain rfl (fun H1 hH => by exact opd_move rfl rfl)) rfl ?_
        refine dc_cons (r := ⟨_, some [], []⟩) (DStep.plain rfl (fun H1 hH => by exact opd_move rfl rfl)) rfl ?_
        refine dc_cons (r := ⟨_, some [], []⟩) (DStep.plain rfl (fun H1 hH => by exact (by exact x_index_pad rfl so46 rfl rfl (by omega) (by exact Int.toNat_natCast _) (by assumption) rfl))) rfl ?_
        refine dc_cons (r := ⟨_, some [], []⟩) (DStep.plain rfl (fun H1 hH => by exact (by exact opd_loadn_pad rfl Tryz.isAgg32 Tryz.sizeOf32 rfl (by omega) (by simp only [List.drop_succ_cons, List.drop_zero, List.take_succ_cons, List.take_zero, List.take_nil, List.map_cons, List.map_nil, List.set_cons_zero, List.set_cons_succ, List.cons_append, List.nil_append, encTag, encObj, encStr, encEdit, encInt]; rfl) rfl))) rfl ?_
        refine dc_cons (r := ⟨_, some [], []⟩) (DStep.plain rfl (fun H1 hH => by exact (by exact x_buildSlice [encEdit x] rfl so46 rfl rfl rfl rfl rfl (by simp [encEdit])))) rfl ?_
        refine dc_cons (r := ⟨_, some [910], [_]⟩) (DStep.plain rfl (fun H1 hH => by exact (by exact x_append rfl so46 ei32 rfl ((hH _ rfl).trans rfl) rfl rfl rfl (List.length_map _) rfl (by simp [encEdit]) (rfl : _ = 1) (by omega) (len_snoc tk x) ((List.map_append (l₂ := [x])).symm)))) rfl ?_
        refine dc_cons (r := ⟨_, some [909], []⟩) (DStep.plain rfl (fun H1 hH => by exact opd_assign rfl rfl)) rfl ?_
        refine dc_cons (r := ⟨_, some [910], []⟩) (DStep.plain rfl (fun H1 hH => by exact opd_assign rfl rfl)) rfl ?_
        refine dc_nil ⟨by kernel_rfl, ?_⟩
        refine awp_region ?_
        refine al_d rfl rfl rfl (by exact opd_move rfl rfl) ?_
        refine al_d rfl rfl rfl (by exact opd_add rfl rfl rfl (by exact w64 (by omega) (by omega))) ?_
        refine al_d rfl rfl rfl (by exact opd_assign rfl rfl) ?_
        refine al_nil ?_
        -- end of a round
        refine ⟨i + 1, outs ++ [i], tk ++ [x], g + 1, g2 + 1, ⟨by omega, by simp [hlen], by simp; omega, ?_, ?_⟩, by omega, ?_⟩
        · intro y hy
          rcases List.mem_append.1 hy with h | h
          · exact htl y h
          · rw [List.mem_singleton] at h; subst h; exact hxm
        · rw [hinv, List.append_assoc]
          congr 1
          rw [show n - (outs ++ [i]).length = d by simp; omega]
          rfl
        · exact Ent.front' [(910, ⟨g2 + 1, 15, 32, edRows (tk ++ [x])⟩), (909, ⟨g + 1, 1, 3, inRows (toI (outs ++ [i]))⟩), (910, ⟨g2, 15, 32, edRows tk⟩), (909, ⟨g, 1, 3, inRows (toI outs)⟩)] [(910, ⟨g2 + 1, 15, 32, edRows (tk ++ [x])⟩), (909, ⟨g + 1, 1, 3, inRows (toI (outs ++ [i]))⟩)]
            ⟨⟨_, rfl, rfl⟩, (by (simp; done)), ⟨_, rfl, rfl⟩, (by (simp; done)), ⟨_, rfl, rfl⟩, (by exact hfc.cons.cons), ⟨_, rfl, rfl⟩, (by exact .osl rfl), ⟨_, rfl, rfl⟩, (by exact .osl rfl), ⟨_, rfl, rfl⟩, (by (simp; done)), trivial⟩ (by intro p hp; simp only [List.mem_cons, List.not_mem_nil, or_false] at hp; rcases hp with rfl | rfl | rfl | rfl <;> exact .inl rfl) (by intro p hp; simp only [List.mem_cons, List.not_mem_nil, or_false] at hp; rcases hp with rfl | rfl <;> rfl) (by intro p hp; simp only [List.mem_cons, List.not_mem_nil, or_false] at hp; rcases hp with rfl | rfl <;> exact clo_map _ _ _) hc (by intro p hp; simp only [List.mem_cons, List.not_mem_nil, or_false] at hp; rcases hp with rfl | rfl | rfl | rfl <;> exact .inl rfl)
      · rw [if_neg (by rw [hc2]; simp)] at hinv
        refine awp_skip ?_
        refine awp_region ?_
        refine al_d rfl rfl rfl (by exact opd_move rfl rfl) ?_
        refine al_d rfl rfl rfl (by exact opd_add rfl rfl rfl (by exact w64 (by omega) (by omega))) ?_
        refine al_d rfl rfl rfl (by exact opd_assign rfl rfl) ?_
        refine al_nil ?_
        -- end of a round
        refine ⟨i + 1, outs, tk, g, g2, ⟨by omega, hlen, hon, htl, by rw [hd]; exact hinv⟩, by omega, Ent.e0 ⟨⟨_, rfl, rfl⟩, ⟨_, rfl, rfl⟩, ⟨_, rfl, rfl⟩, ⟨_, rfl, rfl⟩, ⟨_, rfl, rfl⟩, ⟨_, rfl, rfl⟩, trivial⟩⟩
    · have hge : gr S T (l.drop i) i (n - outs.length) tk = [] := by
        simp only [Bool.and_eq_false_iff, decide_eq_false_iff_not] at hc1
        rcases hc1 with h | h
        · rw [List.drop_eq_nil_of_le (by omega)]; rfl
        · rw [show n - outs.length = 0 by omega]; exact gr_zero _ _ _ _ _
      rw [hge, List.append_nil] at hinv
      rw [hinv]
      refine awp_exit ?_
      refine awp_seq ?_
      refine awp_region ?_
      refine al_d rfl rfl rfl (by exact opd_move rfl rfl) ?_
      refine al_d rfl rfl rfl (by exact opd_assign rfl rfl) ?_
      refine al_nil ?_
      refine awp_ret ?_
      -- return
      refine aret1 (H' := K) (.inr rfl) rfl (rval_tmp rfl) (Fin.slice [(910, ⟨g2, 15, 32, edRows tk⟩), (909, ⟨g, 1, 3, inRows (toI outs)⟩)] ((toI outs).map encInt) rfl rfl (rows_of encInt _) (by simp) hc (by simp [h9, h10]) (by simp [h9, h10]) h9) ⟨rfl, rfl⟩
end Go.Proofs.YtdcifaldfmpapaaGreat
end
section
set_option linter.unusedVariables false
set_option linter.unusedSimpArgs false
set_option maxRecDepth 100000
namespace Go.Proofs.YtdcifaldfmpapaaGreat
open Go.Abs

theorem susBox_clo (k : Nat) {H : Heap} (h : (H.get 803).isSome = true) : ∀ r ∈ [susRow k], ∀ a ∈ r, Clo H a := by
  intro r hr
  rw [List.mem_singleton] at hr
  subst hr
  exact susRow_clo k h
theorem allT_c (m : List GObj) (H : Heap) (hm : okM m) (hcl : closedB m = true) : ACalls Tryz.prog 20 [.agg [.pv (slObjs m)], lv []] H (fun r H' => r = .tup [.agg [.pv (slObjs m)], iv (-1), iv 0] ∧ H' = H) := by
  have h := allNil_c m H hm
  simp only [hcl, if_true] at h
  exact h
theorem allF_c (m : List GObj) (H : Heap) (hm : okM m) (hcl : closedB m = false) : ACalls Tryz.prog 20 [.agg [.pv (slObjs m)], lv []] H (fun r H' => r = .tup [.agg [lv []], iv (-1), iv 1] ∧ H' = H) := by
  have h := allNil_c m H hm
  simp only [hcl, Bool.false_eq_true, if_false] at h
  exact h
theorem susF_c (m : List GObj) (H : Heap) (h1 : H.get 812 = none) (h2 : H.get 803 = none) (h3 : H.get 801 = none) : ACalls Tryz.prog 62 [.agg [.pv (slObjs m)]] H (fun r H' => r = .osl 812 0 0 4 ∧ H' = sH m ++ H) :=
  ACalls.frame (suspicions_c m) (fun _ _ h => by cases h) (fun _ _ h => by cases h) (by simp) (fun id hi => by
    right
    have : id = 812 ∨ id = 803 ∨ id = 801 := by
      simp only [Heap.get] at hi
      cases e1 : Nat.beq 812 id with
      | true => exact .inl (Nat.eq_of_beq_eq_true e1).symm
      | false =>
        cases e2 : Nat.beq 803 id with
        | true => exact .inr (.inl (Nat.eq_of_beq_eq_true e2).symm)
        | false =>
          cases e3 : Nat.beq 801 id with
          | true => exact .inr (.inr (Nat.eq_of_beq_eq_true e3).symm)
          | false => rw [e1, e2, e3] at hi; cases hi
    rcases this with rfl | rfl | rfl
    · exact h1
    · exact h2
    · exact h3)
def gFind (m : List GObj) (l : List GEdit) : Int × List Int := if closedB m && gChange l then ((((gFind0 m l).1 : Nat) : Int), toI (gFind0 m l).2) else (0, [])
abbrev ev0 : Ob := bx 2 63 [iv 0, lv []]
theorem evFind_c (m : List GObj) (l : List GEdit) (H : Heap) (hm : okM m) (hl : l.length < 1099511627776) (he : ∀ e ∈ l, okE e) : ACalls Tryz.prog 28 [.agg [.pv (slObjs m)], .pv (slEdits l)] H (fun r H' => r = .agg [iv (gFind m l).1, .pv (slInts (gFind m l).2)] ∧ H' = H) := by
  refine ACalls.pure ?_ (by simp) H
  have hml : (l.map encEdit).length = l.length := List.length_map _
  have het : ∀ y ∈ l, y.obj.tags.length < 4611686018427387904 := fun y hy => (he y hy).2.2.2.1.1
  refine ACalls.body Tryz.func28 rfl Tryz.ntmps28 (Nat.le_of_ble_eq_true rfl) ?_
  cases hcl : closedB m with
  | false =>
    have hg : gFind m l = (0, []) := by rw [gFind, hcl]; rfl
    rw [hg]
    refine awp_seq ?_
    refine awp_region ?_
    refine al_d rfl rfl rfl (by exact opd_box (id := 2) rfl rfl rfl rfl rfl) ?_
    refine al_d rfl rfl rfl (by exact x_alloc (id := 4) rfl zo63 rfl rfl) ?_
    refine al_nil ?_
    refine awp_scope ?_
    refine awp_seq ?_
    refine awp_seq ?_
    refine awp_region ?_
    refine al_d rfl rfl rfl (by exact (by exact opd_loadn_ref rfl Tryz.isAgg24 Tryz.sizeOf24 rfl rfl rfl rfl (by simp only [List.drop_succ_cons, List.drop_zero, List.take_succ_cons, List.take_zero, List.take_nil, List.map_cons, List.map_nil, List.set_cons_zero, List.set_cons_succ, List.cons_append, List.nil_append, encTag, encObj, encStr, encEdit, encInt]; rfl) rfl)) ?_
    refine al_d rfl rfl rfl (by exact opr_call rfl rfl Tryz.call20 rfl (allF_c m _ hm hcl)) ?_
    refine al_d rfl rfl rfl (by exact opd_move rfl rfl) ?_
    refine al_d rfl rfl rfl (by exact opd_extract rfl rfl rfl) ?_
    refine al_d rfl rfl rfl (by exact opd_extract rfl rfl rfl) ?_
    refine al_d rfl rfl rfl (by exact opd_extract rfl rfl rfl) ?_
    refine al_d rfl rfl rfl (by exact x_alloc (id := 5) rfl zo24 rfl rfl) ?_
    refine al_n rfl rfl (by exact (by exact x_store_all rfl Tryz.sizeOf24 rfl rfl rfl rfl rfl rfl rfl rfl)) ?_
    refine al_d rfl rfl rfl (by exact opd_assign rfl rfl) ?_
    refine al_d rfl rfl rfl (by exact opd_assign rfl rfl) ?_
    refine al_nil ?_
    refine awp_seq ?_
    refine awp_bool (t := 28) (n := 8) (X := true) ?_ ?_
    · all_goals (refine al_d rfl rfl rfl (by exact opd_move rfl rfl) ?_)
      all_goals (refine al_d rfl rfl rfl (by exact opd_neq rfl rfl rfl) ?_)
      all_goals (refine al_d rfl rfl rfl (by exact opd_move rfl rfl) ?_)
      all_goals (refine al_split (t := 24) rfl (fun h24 => ?_) (fun h24 => ?_))
      all_goals (try contradiction)
      all_goals (refine al_off rfl rfl rfl rfl rfl ?_)
      all_goals (refine al_off rfl rfl rfl rfl rfl ?_)
      all_goals (refine al_off rfl rfl rfl rfl rfl ?_)
      all_goals (refine al_d rfl rfl rfl (by exact (by exact opd_pick_t rfl rfl rfl)) ?_)
      all_goals (refine al_nil ?_)
      all_goals (exact ⟨⟨_, rfl, by rfl⟩, rfl, rfl, rfl⟩)
    refine awp_cond rfl (fun hc1 => ?_) (fun hc1 => ?_)
    -- cond 1
    · skip
      refine awp_seq ?_
      refine awp_region ?_
      refine al_d rfl rfl rfl (by exact x_build rfl bo63 rfl rfl) ?_
      refine al_n rfl rfl (by exact (by exact x_store_all rfl Tryz.sizeOf63 rfl rfl rfl rfl rfl rfl rfl rfl)) ?_
      refine al_nil ?_
      refine awp_ret ?_
      -- return
      refine aret1 (H' := []) (by exact .inr rfl) rfl (rval_cell rfl Tryz.isAgg63 Tryz.sizeOf63 rfl rfl rfl rfl rfl) (Fin.wk (r := .agg [iv 0, lv []]) (by simp) trivial trivial) ?_
      exact ⟨rfl, rfl⟩
    · cases hc1
  | true =>
    refine awp_seq ?_
    refine awp_region ?_
    refine al_d rfl rfl rfl (by exact opd_box (id := 2) rfl rfl rfl rfl rfl) ?_
    refine al_d rfl rfl rfl (by exact x_alloc (id := 4) rfl zo63 rfl rfl) ?_
    refine al_nil ?_
    refine awp_scope ?_
    refine awp_seq ?_
    refine awp_seq ?_
    refine awp_region ?_
    refine al_d rfl rfl rfl (by exact (by exact opd_loadn_ref rfl Tryz.isAgg24 Tryz.sizeOf24 rfl rfl rfl rfl (by simp only [List.drop_succ_cons, List.drop_zero, List.take_succ_cons, List.take_zero, List.take_nil, List.map_cons, List.map_nil, List.set_cons_zero, List.set_cons_succ, List.cons_append, List.nil_append, encTag, encObj, encStr, encEdit, encInt]; rfl) rfl)) ?_
    refine al_d rfl rfl rfl (by exact opr_call rfl rfl Tryz.call20 rfl (allT_c m _ hm hcl)) ?_
    refine al_d rfl rfl rfl (by exact opd_move rfl rfl) ?_
    refine al_d rfl rfl rfl (by exact opd_extract rfl rfl rfl) ?_
    refine al_d rfl rfl rfl (by exact opd_extract rfl rfl rfl) ?_
    refine al_d rfl rfl rfl (by exact opd_extract rfl rfl rfl) ?_
    refine al_d rfl rfl rfl (by exact x_alloc (id := 5) rfl zo24 rfl rfl) ?_
    refine al_n rfl rfl (by exact (by exact x_store_all rfl Tryz.sizeOf24 rfl rfl rfl rfl rfl rfl rfl rfl)) ?_
    refine al_d rfl rfl rfl (by exact opd_assign rfl rfl) ?_
    refine al_d rfl rfl rfl (by exact opd_assign rfl rfl) ?_
    refine al_nil ?_
    refine awp_seq ?_
    refine awp_bool (t := 28) (n := 8) (X := !gChange l) ?_ ?_
    · all_goals (refine al_d rfl rfl rfl (by exact opd_move rfl rfl) ?_)
      all_goals (refine al_d rfl rfl rfl (by exact opd_neq rfl rfl rfl) ?_)
      all_goals (refine al_d rfl rfl rfl (by exact opd_move rfl rfl) ?_)
      all_goals (refine al_split (t := 24) rfl (fun h24 => ?_) (fun h24 => ?_))
      all_goals (try contradiction)
      all_goals (refine al_ond rfl rfl rfl rfl rfl rfl (by exact opd_move rfl rfl) ?_)
      all_goals (refine al_ond rfl rfl rfl rfl rfl rfl (by exact opr_call rfl rfl Tryz.call26 rfl (changeValid_c l _ (by omega) he)) ?_)
      all_goals (refine al_ond rfl rfl rfl rfl rfl rfl (by exact opd_not rfl rfl) ?_)
      all_goals (refine al_d rfl rfl rfl (by exact (by exact opd_pick_f rfl rfl rfl)) ?_)
      all_goals (refine al_nil ?_)
      all_goals (exact ⟨⟨_, rfl, by rfl⟩, rfl, rfl, rfl⟩)
    refine awp_cond rfl (fun hc2 => ?_) (fun hc2 => ?_)
    -- cond 2
    · have hch : gChange l = false := by simpa using hc2
      have hg : gFind m l = (0, []) := by rw [gFind, hcl, hch]; rfl
      rw [hg]
      refine awp_seq ?_
      refine awp_region ?_
      refine al_d rfl rfl rfl (by exact x_build rfl bo63 rfl rfl) ?_
      refine al_n rfl rfl (by exact (by exact x_store_all rfl Tryz.sizeOf63 rfl rfl rfl rfl rfl rfl rfl rfl)) ?_
      refine al_nil ?_
      refine awp_ret ?_
      -- return
      refine aret1 (H' := []) (by exact .inr rfl) rfl (rval_cell rfl Tryz.isAgg63 Tryz.sizeOf63 rfl rfl rfl rfl rfl) (Fin.wk (r := .agg [iv 0, lv []]) (by simp) trivial trivial) ?_
      exact ⟨rfl, rfl⟩
    · have hch : gChange l = true := by simpa using hc2
      have hg : gFind m l = ((((gFind0 m l).1 : Nat) : Int), toI (gFind0 m l).2) := by rw [gFind, hcl, hch]; rfl
      rw [hg]
      refine awp_skip ?_
      refine awp_seq ?_
      refine awp_region ?_
      refine al_d rfl rfl rfl (by exact opd_assign rfl rfl) ?_
      refine al_nil ?_
      refine awp_seq ?_
      refine awp_seq ?_
      refine awp_region ?_
      refine al_d rfl rfl rfl (by exact opd_move rfl rfl) ?_
      refine al_d rfl rfl rfl (by exact (by exact opd_len_sl rfl Tryz.underlying46 rfl)) ?_
      refine al_d rfl rfl rfl (by exact opd_move rfl rfl) ?_
      refine al_nil ?_
      refine awp_block ?_
      -- loop
      refine awp_loop (σ := Nat) (fun k => ([(1, .pv (slEdits l)), (2, .ref 2 0 0 0), (4, .ref 4 0 0 0), (8, iv (nDrops (l.take k) : Nat)), (30, .pv (slEdits l)), (31, iv ((l.map encEdit).length : Int)), (32, iv (k : Int))], [(4, ev0), (2, bx 1 24 [.pv (slObjs m)])])) (fun k => k ≤ l.length) (fun k => l.length - k) 0 (by omega) ?_ ?_
      · exact (Ent.wk ⟨⟨_, rfl, rfl⟩, (by (simp; done)), ⟨_, rfl, rfl⟩, (by (simp; rfl)), ⟨_, rfl, rfl⟩, (by (simp; rfl)), ⟨_, rfl, rfl⟩, (by (simp; done)), ⟨_, rfl, rfl⟩, (by (simp; done)), ⟨_, rfl, rfl⟩, (by (simp; done)), ⟨_, rfl, rfl⟩, (by (simp; done)), trivial⟩ ⟨⟨_, rfl, rfl⟩, (by (simp; done)), ⟨_, rfl, rfl⟩, (by (simp; done)), trivial⟩ trivial)
      · intro k hk
        refine awp_seq ?_
        refine awp_region ?_
        refine al_d rfl rfl rfl (by exact opd_lss rfl rfl rfl) ?_
        refine al_nil ?_
        refine awp_seq ?_
        refine awp_cond rfl (fun hc3 => ?_) (fun hc3 => ?_)
        -- cond 3
        · have hlt : k < l.length := by have := of_decide_eq_true hc3; omega
          obtain ⟨e, hke⟩ := get_of_lt hlt
          have hi := map_get (f := encEdit) hke
          have hct : nDrops (l.take (k + 1)) = nDrops (l.take k) + (if isDrop e then 1 else 0) := countP_take isDrop hke
          have hcb : nDrops (l.take k) ≤ (l.take k).length := List.countP_le_length
          rw [List.length_take] at hcb
          refine awp_skip ?_
          refine awp_seq ?_
          refine awp_block ?_
          refine awp_seq ?_
          refine awp_region ?_
          refine al_d rfl rfl rfl (by exact (by exact x_index_pad rfl so46 rfl rfl (by omega) (by exact Int.toNat_natCast _) (by assumption) rfl)) ?_
          refine al_d rfl rfl rfl (by exact (by exact opd_loadn_pad rfl Tryz.isAgg32 Tryz.sizeOf32 rfl (by omega) (by simp only [List.drop_succ_cons, List.drop_zero, List.take_succ_cons, List.take_zero, List.take_nil, List.map_cons, List.map_nil, List.set_cons_zero, List.set_cons_succ, List.cons_append, List.nil_append, encTag, encObj, encStr, encEdit, encInt]; rfl) rfl)) ?_
          refine al_d rfl rfl rfl (by exact x_alloc (id := 10) rfl zo32 rfl rfl) ?_
          refine al_n rfl rfl (by exact (by exact x_store_all rfl Tryz.sizeOf32 rfl rfl rfl rfl rfl rfl rfl rfl)) ?_
          refine al_nil ?_
          refine awp_seq ?_
          refine awp_region ?_
          refine al_d rfl rfl rfl (by exact (by exact opd_field_ref rfl fo32_0 rfl rfl rfl rfl)) ?_
          refine al_d rfl rfl rfl (by exact (by exact opd_load1_ref rfl Tryz.isAgg3 rfl rfl rfl rfl rfl)) ?_
          refine al_d rfl rfl rfl (by exact opd_eql rfl rfl rfl) ?_
          refine al_nil ?_
          refine awp_cond rfl (fun hc4 => ?_) (fun hc4 => ?_)
          -- cond 4
          · have hd : isDrop e = true := hc4
            rw [hd] at hct
            refine awp_region ?_
            refine al_d rfl rfl rfl (by exact opd_move rfl rfl) ?_
            refine al_d rfl rfl rfl (by exact opd_add rfl rfl rfl (by exact w64 (by omega) (by omega))) ?_
            refine al_d rfl rfl rfl (by exact opd_assign rfl rfl) ?_
            refine al_nil ?_
            refine awp_region ?_
            refine al_d rfl rfl rfl (by exact opd_add rfl rfl rfl (by exact w64 (by omega) (by omega))) ?_
            refine al_d rfl rfl rfl (by exact opd_move rfl rfl) ?_
            refine al_nil ?_
            -- end of a round
            refine ⟨k + 1, by omega, by omega, ?_⟩
            rw [hct]
            exact (Ent.wk ⟨⟨_, rfl, rfl⟩, (by (simp; done)), ⟨_, rfl, rfl⟩, (by (simp; rfl)), ⟨_, rfl, rfl⟩, (by (simp; rfl)), ⟨_, rfl, rfl⟩, (by (simp; done)), ⟨_, rfl, rfl⟩, (by (simp; done)), ⟨_, rfl, rfl⟩, (by (simp; done)), ⟨_, rfl, rfl⟩, (by (simp; done)), trivial⟩ ⟨⟨_, rfl, rfl⟩, (by (simp; done)), ⟨_, rfl, rfl⟩, (by (simp; done)), trivial⟩ trivial)
          · have hd : isDrop e = false := hc4
            rw [hd] at hct
            refine awp_skip ?_
            refine awp_region ?_
            refine al_d rfl rfl rfl (by exact opd_add rfl rfl rfl (by exact w64 (by omega) (by omega))) ?_
            refine al_d rfl rfl rfl (by exact opd_move rfl rfl) ?_
            refine al_nil ?_
            -- end of a round
            refine ⟨k + 1, by omega, by omega, ?_⟩
            rw [hct]
            exact (Ent.wk ⟨⟨_, rfl, rfl⟩, (by (simp; done)), ⟨_, rfl, rfl⟩, (by (simp; rfl)), ⟨_, rfl, rfl⟩, (by (simp; rfl)), ⟨_, rfl, rfl⟩, (by (simp; done)), ⟨_, rfl, rfl⟩, (by (simp; done)), ⟨_, rfl, rfl⟩, (by (simp; done)), ⟨_, rfl, rfl⟩, (by (simp; done)), trivial⟩ ⟨⟨_, rfl, rfl⟩, (by (simp; done)), ⟨_, rfl, rfl⟩, (by (simp; done)), trivial⟩ trivial)
        · have hge : k = l.length := by have := of_decide_eq_false hc3; omega
          subst hge
          rw [List.take_length]
          have hnd : nDrops l ≤ l.length := List.countP_le_length
          refine awp_exit ?_
          refine awp_seq ?_
          refine awp_label ?_
          refine awp_seq ?_
          refine awp_seq ?_
          refine awp_region ?_
          refine al_d rfl rfl rfl (by exact (by exact opd_loadn_ref rfl Tryz.isAgg24 Tryz.sizeOf24 rfl rfl rfl rfl (by simp only [List.drop_succ_cons, List.drop_zero, List.take_succ_cons, List.take_zero, List.take_nil, List.map_cons, List.map_nil, List.set_cons_zero, List.set_cons_succ, List.cons_append, List.nil_append, encTag, encObj, encStr, encEdit, encInt]; rfl) rfl)) ?_
          refine al_d rfl rfl rfl (by exact opr_call rfl rfl Tryz.call62 rfl (susF_c m _ rfl rfl rfl)) ?_
          refine al_d rfl rfl rfl (by exact (by exact opd_len_osl rfl Tryz.underlying93 rfl rfl rfl)) ?_
          refine al_d rfl rfl rfl (by exact opd_move rfl rfl) ?_
          refine al_nil ?_
          refine awp_block ?_
          -- loop
          refine awp_loop (σ := Nat) (fun i => ([(1, .pv (slEdits l)), (4, .ref 4 0 0 0), (8, iv (nDrops l : Nat)), (43, .osl 812 0 0 4), (44, iv 4), (45, iv (i : Int))], sH m ++ [(4, ev0)])) (fun i => i ≤ 4 ∧ kFirst m l (4 - i) (i + 1) = gFind0 m l) (fun i => 4 - i) 0 ⟨by omega, rfl⟩ ?_ ?_
          · exact (Ent.wk ⟨⟨_, rfl, rfl⟩, (by (simp; done)), ⟨_, rfl, rfl⟩, (by (simp; rfl)), ⟨_, rfl, rfl⟩, (by (simp; done)), ⟨_, rfl, rfl⟩, (by (simp; rfl)), ⟨_, rfl, rfl⟩, (by (simp; done)), ⟨_, rfl, rfl⟩, (by (simp; done)), trivial⟩ ⟨⟨_, rfl, rfl⟩, (by exact susRows_clo rfl), ⟨_, rfl, rfl⟩, (by (simp; rfl)), ⟨_, rfl, rfl⟩, (by (simp; done)), ⟨_, rfl, rfl⟩, (by (simp; done)), trivial⟩ trivial)
          · rintro i ⟨hi4, hinv⟩
            refine awp_seq ?_
            refine awp_region ?_
            refine al_d rfl rfl rfl (by exact opd_lss rfl rfl rfl) ?_
            refine al_nil ?_
            refine awp_seq ?_
            refine awp_cond rfl (fun hc5 => ?_) (fun hc5 => ?_)
            -- cond 5
            · have hi : i < 4 := by have := of_decide_eq_true hc5; omega
              obtain ⟨d, hd⟩ : ∃ d, 4 - i = d + 1 := ⟨4 - i - 1, by omega⟩
              have hd2 : 4 - (i + 1) = d := by omega
              rw [hd, kFirst] at hinv
              have hrow : susRows[0 + i]? = some (susRow (i + 1)) := by rw [Nat.zero_add]; exact susRow_at hi
              have hw : (((i + 1 : Nat) : Int) = 1) ↔ (i + 1 = 1) := by omega
              refine awp_skip ?_
              refine awp_seq ?_
              refine awp_block ?_
              refine awp_seq ?_
              refine awp_region ?_
              refine al_d rfl rfl rfl (by exact x_index_osl rfl so93 rfl rfl rfl rfl rfl (by omega) (Int.toNat_natCast _) hi rfl) ?_
              refine al_d rfl rfl rfl (by exact opd_loadn_ref (r := susRow (i + 1)) (cs := susRow (i + 1)) rfl Tryz.isAgg96 Tryz.sizeOf96 rfl rfl rfl hrow rfl rfl) ?_
              refine al_d rfl rfl rfl (by exact x_alloc (id := 12) rfl zo96 rfl rfl) ?_
              refine al_n rfl rfl (by exact (by exact x_store_all rfl Tryz.sizeOf96 rfl rfl rfl rfl rfl rfl rfl rfl)) ?_
              refine al_nil ?_
              refine awp_seq ?_
              refine awp_seq ?_
              refine awp_bool (t := 58) (n := 11) (X := decide (((i + 1 : Nat) : Int) = 1) && decide (2 * (nDrops l : Int) ≤ ((l.map encEdit).length : Int))) ?_ ?_
              · all_goals (refine al_d rfl rfl rfl (by exact (by exact opd_field_ref rfl fo96_0 rfl rfl rfl rfl)) ?_)
                all_goals (refine al_d rfl rfl rfl (by exact (by exact opd_load1_ref rfl Tryz.isAgg3 rfl rfl rfl rfl rfl)) ?_)
                all_goals (refine al_d rfl rfl rfl (by exact opd_eql rfl rfl rfl) ?_)
                all_goals (refine al_d rfl rfl rfl (by exact opd_move rfl rfl) ?_)
                all_goals (refine al_split (t := 52) rfl (fun h52 => ?_) (fun h52 => ?_))
                all_goals (try contradiction)
                all_goals (first | refine al_off rfl rfl rfl rfl rfl ?_ | refine al_ond rfl rfl rfl rfl rfl rfl (by exact opd_move rfl rfl) ?_)
                all_goals (first | refine al_off rfl rfl rfl rfl rfl ?_ | refine al_ond rfl rfl rfl rfl rfl rfl (by exact opd_mul rfl rfl rfl (by exact w64 (by omega) (by omega))) ?_)
                all_goals (first | refine al_off rfl rfl rfl rfl rfl ?_ | refine al_ond rfl rfl rfl rfl rfl rfl (by exact opd_move rfl rfl) ?_)
                all_goals (first | refine al_off rfl rfl rfl rfl rfl ?_ | refine al_ond rfl rfl rfl rfl rfl rfl (by exact (by exact opd_len_sl rfl Tryz.underlying46 rfl)) ?_)
                all_goals (first | refine al_off rfl rfl rfl rfl rfl ?_ | refine al_ond rfl rfl rfl rfl rfl rfl (by exact opd_leq rfl rfl rfl) ?_)
                all_goals (refine al_d rfl rfl rfl (by exact (by first | exact opd_pick_t rfl rfl rfl | exact opd_pick_f rfl rfl rfl)) ?_)
                all_goals (refine al_nil ?_)
                all_goals (exact ⟨⟨_, rfl, by (simp_all; done)⟩, rfl, rfl, rfl⟩)
              refine awp_cond rfl (fun hc6 => ?_) (fun hc6 => ?_)
              -- cond 6
              · have hk1 : i + 1 = 1 ∧ 2 * nDrops l ≤ l.length := by
                  simp only [Bool.and_eq_true, decide_eq_true_eq, hml] at hc6
                  omega
                have hno : kAns m l (i + 1) = none := by rw [kAns, if_pos hk1]
                rw [hno] at hinv
                refine awp_exit ?_
                refine awp_region ?_
                refine al_d rfl rfl rfl (by exact opd_add rfl rfl rfl (by exact w64 (by omega) (by omega))) ?_
                refine al_d rfl rfl rfl (by exact opd_move rfl rfl) ?_
                refine al_nil ?_
                -- end of a round
                refine ⟨i + 1, ⟨by omega, ?_⟩, by omega, (Ent.wk ⟨⟨_, rfl, rfl⟩, (by (simp; done)), ⟨_, rfl, rfl⟩, (by (simp; rfl)), ⟨_, rfl, rfl⟩, (by (simp; done)), ⟨_, rfl, rfl⟩, (by (simp; rfl)), ⟨_, rfl, rfl⟩, (by (simp; done)), ⟨_, rfl, rfl⟩, (by (simp; done)), trivial⟩ ⟨⟨_, rfl, rfl⟩, (by exact susRows_clo rfl), ⟨_, rfl, rfl⟩, (by (simp; rfl)), ⟨_, rfl, rfl⟩, (by (simp; done)), ⟨_, rfl, rfl⟩, (by (simp; done)), trivial⟩ trivial)⟩
                rw [hd2]; exact hinv
              · have hk1 : ¬ (i + 1 = 1 ∧ 2 * nDrops l ≤ l.length) := by
                  intro h
                  simp only [Bool.and_eq_false_iff, decide_eq_false_iff_not, hml] at hc6
                  omega
                have hans : kAns m l (i + 1) = kLoop (decide (i + 1 ≠ 4)) (eShows (i + 1) m) (eTog (i + 1)) (nMany (i + 1)) l 0 := by rw [kAns, if_neg hk1]
                have hnm := nMany_pos (i + 1)
                refine awp_skip ?_
                refine awp_seq ?_
                refine awp_region ?_
                refine al_d rfl rfl rfl (by exact opd_move rfl rfl) ?_
                refine al_d rfl rfl rfl (by exact (by exact opd_len_sl rfl Tryz.underlying46 rfl)) ?_
                refine al_d rfl rfl rfl (by exact opd_move rfl rfl) ?_
                refine al_nil ?_
                refine awp_block ?_
                -- loop
                refine awp_loop (σ := Nat) (fun j => ([(1, .pv (slEdits l)), (4, .ref 4 0 0 0), (8, iv (nDrops l : Nat)), (43, .osl 812 0 0 4), (44, iv 4), (45, iv (i : Int)), (12, .ref 12 0 0 0), (59, .pv (slEdits l)), (60, iv ((l.map encEdit).length : Int)), (61, iv (j : Int))], (12, bx 4 96 (susRow (i + 1))) :: (sH m ++ [(4, ev0)])))
                  (fun j => j ≤ l.length ∧ kLoop (decide (i + 1 ≠ 4)) (eShows (i + 1) m) (eTog (i + 1)) (nMany (i + 1)) (l.drop j) j = kAns m l (i + 1)) (fun j => l.length - j) 0 ⟨by omega, by rw [hans]; rfl⟩ ?_ ?_
                · exact (Ent.wk ⟨⟨_, rfl, rfl⟩, (by (simp; done)), ⟨_, rfl, rfl⟩, (by (simp; rfl)), ⟨_, rfl, rfl⟩, (by (simp; done)), ⟨_, rfl, rfl⟩, (by (simp; rfl)), ⟨_, rfl, rfl⟩, (by (simp; done)), ⟨_, rfl, rfl⟩, (by (simp; done)), ⟨_, rfl, rfl⟩, (by (simp; rfl)), ⟨_, rfl, rfl⟩, (by (simp; done)), ⟨_, rfl, rfl⟩, (by (simp; done)), ⟨_, rfl, rfl⟩, (by (simp; done)), trivial⟩ ⟨⟨_, rfl, rfl⟩, (by exact susBox_clo _ rfl), ⟨_, rfl, rfl⟩, (by exact susRows_clo rfl), ⟨_, rfl, rfl⟩, (by (simp; rfl)), ⟨_, rfl, rfl⟩, (by (simp; done)), ⟨_, rfl, rfl⟩, (by (simp; done)), trivial⟩ trivial)
                · rintro j ⟨hj, hjv⟩
                  refine awp_seq ?_
                  refine awp_region ?_
                  refine al_d rfl rfl rfl (by exact opd_lss rfl rfl rfl) ?_
                  refine al_nil ?_
                  refine awp_seq ?_
                  refine awp_cond rfl (fun hc7 => ?_) (fun hc7 => ?_)
                  -- cond 7
                  · have hlt : j < l.length := by have := of_decide_eq_true hc7; omega
                    obtain ⟨x, hx⟩ := get_of_lt hlt
                    have hxi := map_get (f := encEdit) hx
                    have hxm := List.mem_of_getElem? hx
                    have hdr : l.drop j = x :: l.drop (j + 1) := drop_of_get hx
                    rw [hdr, kLoop] at hjv
                    have hsh := fun H hH => eshows_c (i + 1) m x H hm hH (by omega) (by omega)
                    refine awp_skip ?_
                    refine awp_seq ?_
                    refine awp_block ?_
                    refine awp_seq ?_
                    refine awp_region ?_
                    refine al_d rfl rfl rfl (by exact opd_move rfl rfl) ?_
                    refine al_d rfl rfl rfl (by exact (by exact x_index_pad rfl so46 rfl rfl (by omega) (by exact Int.toNat_natCast _) (by assumption) rfl)) ?_
                    refine al_d rfl rfl rfl (by exact (by exact opd_loadn_pad rfl Tryz.isAgg32 Tryz.sizeOf32 rfl (by omega) (by simp only [List.drop_succ_cons, List.drop_zero, List.take_succ_cons, List.take_zero, List.take_nil, List.map_cons, List.map_nil, List.set_cons_zero, List.set_cons_succ, List.cons_append, List.nil_append, encTag, encObj, encStr, encEdit, encInt]; rfl) rfl)) ?_
                    refine al_d rfl rfl rfl (by exact x_alloc (id := 14) rfl zo32 rfl rfl) ?_
                    refine al_d rfl rfl rfl (by exact opd_assign rfl rfl) ?_
                    refine al_n rfl rfl (by exact (by exact x_store_all rfl Tryz.sizeOf32 rfl rfl rfl rfl rfl rfl rfl rfl)) ?_
                    refine al_nil ?_
                    refine awp_seq ?_
                    refine awp_seq ?_
                    refine awp_region ?_
                    refine al_d rfl rfl rfl (by exact (by exact opd_field_ref rfl fo96_2 rfl rfl rfl rfl)) ?_
                    refine al_d rfl rfl rfl (by exact (by exact opd_load1_ref rfl Tryz.isAgg39 rfl rfl rfl rfl rfl)) ?_
                    refine al_d rfl rfl rfl (by exact (by exact opd_loadn_ref rfl Tryz.isAgg32 Tryz.sizeOf32 rfl rfl rfl rfl (by simp only [List.drop_succ_cons, List.drop_zero, List.take_succ_cons, List.take_zero, List.take_nil, List.map_cons, List.map_nil, List.set_cons_zero, List.set_cons_succ, List.cons_append, List.nil_append, encTag, encObj, encStr, encEdit, encInt]; rfl) rfl)) ?_
                    refine al_d rfl rfl rfl (by exact opr_callV rfl rfl rfl (hsh _ ⟨rfl, rfl, rfl, rfl, rfl, (Closed.ofL ⟨(by (simp; done)), (by (simp; done)), (by exact susBox_clo _ rfl), (by exact susRows_clo rfl), (by (simp; rfl)), (by (simp; done)), (by (simp; done)), trivial⟩)⟩)) ?_
                    refine al_d rfl rfl rfl (by exact opd_not rfl rfl) ?_
                    refine al_nil ?_
                    refine awp_cond rfl (fun hc8 => ?_) (fun hc8 => ?_)
                    -- cond 8
                    · have hs : eShows (i + 1) m x = false := by simpa using hc8
                      rw [hs, if_neg (by simp)] at hjv
                      refine awp_exit ?_
                      refine awp_region ?_
                      refine al_d rfl rfl rfl (by exact opd_add rfl rfl rfl (by exact w64 (by omega) (by omega))) ?_
                      refine al_d rfl rfl rfl (by exact opd_move rfl rfl) ?_
                      refine al_nil ?_
                      -- end of a round
                      exact ⟨j + 1, ⟨by omega, hjv⟩, by omega, (Ent.wk ⟨⟨_, rfl, rfl⟩, (by (simp; done)), ⟨_, rfl, rfl⟩, (by (simp; rfl)), ⟨_, rfl, rfl⟩, (by (simp; done)), ⟨_, rfl, rfl⟩, (by (simp; rfl)), ⟨_, rfl, rfl⟩, (by (simp; done)), ⟨_, rfl, rfl⟩, (by (simp; done)), ⟨_, rfl, rfl⟩, (by (simp; rfl)), ⟨_, rfl, rfl⟩, (by (simp; done)), ⟨_, rfl, rfl⟩, (by (simp; done)), ⟨_, rfl, rfl⟩, (by (simp; done)), trivial⟩ ⟨⟨_, rfl, rfl⟩, (by exact susBox_clo _ rfl), ⟨_, rfl, rfl⟩, (by exact susRows_clo rfl), ⟨_, rfl, rfl⟩, (by (simp; rfl)), ⟨_, rfl, rfl⟩, (by (simp; done)), ⟨_, rfl, rfl⟩, (by (simp; done)), trivial⟩ trivial)⟩
                    · have hs : eShows (i + 1) m x = true := by simpa using hc8
                      rw [hs, if_pos rfl, ← hdr] at hjv
                      have hnp : nMany (i + 1) ≤ 5 := hnm.2
                      have hpl : ((toI (gr (eShows (i + 1) m) (eTog (i + 1)) (l.drop j) j (nMany (i + 1)) [])).map encInt).length = (gr (eShows (i + 1) m) (eTog (i + 1)) (l.drop j) j (nMany (i + 1)) []).length := by simp
                      refine awp_skip ?_
                      refine awp_seq ?_
                      refine awp_region ?_
                      refine al_d rfl rfl rfl (by exact opd_move rfl rfl) ?_
                      refine al_d rfl rfl rfl (by exact opd_move rfl rfl) ?_
                      refine al_d rfl rfl rfl (by exact (by exact opd_field_ref rfl fo96_1 rfl rfl rfl rfl)) ?_
                      refine al_d rfl rfl rfl (by exact (by exact opd_load1_ref rfl Tryz.isAgg3 rfl rfl rfl rfl rfl)) ?_
                      refine al_d rfl rfl rfl (by exact opd_makeFunc rfl rfl) ?_
                      refine al_d rfl rfl rfl (by exact opr_call rfl rfl Tryz.call63 rfl (first_c (eShows (i + 1) m) (eTog (i + 1)) (.clo 64 [.ref 12 0 0 0]) l j (nMany (i + 1)) _ hl hnp hj rfl rfl (Closed.ofL ⟨(by (simp; done)), (by (simp; done)), (by exact susBox_clo _ rfl), (by exact susRows_clo rfl), (by (simp; rfl)), (by (simp; done)), (by (simp; done)), trivial⟩) (.clo (by intro a ha; simp only [List.mem_cons, List.not_mem_nil, or_false] at ha; subst ha; exact .ref rfl)) (fun y hy tk g o9 htl htk ho9 => CallsV.clo Tryz.call64 (findC_c (i + 1) m y tk g _ hm ⟨rfl, rfl, rfl, rfl, rfl, Closed.cons (clo_map _ _ _) (Closed.cons (fun r hr a ha => by obtain ⟨q, rfl⟩ := ho9 r hr a ha; exact .pv q) (Closed.ofL ⟨(by (simp; done)), (by (simp; done)), (by exact susBox_clo _ rfl), (by exact susRows_clo rfl), (by (simp; rfl)), (by (simp; done)), (by (simp; done)), trivial⟩))⟩ rfl rfl rfl rfl (by omega) (fun z hz => het z (htk z hz)) (by omega) (by omega))))) ?_
                      refine al_d rfl rfl rfl (by exact opd_assign rfl rfl) ?_
                      refine al_nil ?_
                      refine awp_seq ?_
                      refine awp_seq ?_
                      refine awp_region ?_
                      refine al_d rfl rfl rfl (by exact opd_move rfl rfl) ?_
                      refine al_d rfl rfl rfl (by exact (by exact opd_len_sl rfl Tryz.underlying61 rfl)) ?_
                      refine al_d rfl rfl rfl (by exact (by exact opd_field_ref rfl fo96_1 rfl rfl rfl rfl)) ?_
                      refine al_d rfl rfl rfl (by exact (by exact opd_load1_ref rfl Tryz.isAgg3 rfl rfl rfl rfl rfl)) ?_
                      refine al_d rfl rfl rfl (by exact opd_eql rfl rfl rfl) ?_
                      refine al_nil ?_
                      refine awp_cond rfl (fun hc9 => ?_) (fun hc9 => ?_)
                      -- cond 9
                      · have hpe : (gr (eShows (i + 1) m) (eTog (i + 1)) (l.drop j) j (nMany (i + 1)) []).length = nMany (i + 1) := by
                          have h := of_decide_eq_true hc9
                          rw [hpl] at h
                          omega
                        rw [if_pos hpe] at hjv
                        rw [← hjv] at hinv
                        have hinv : (i + 1, gr (eShows (i + 1) m) (eTog (i + 1)) (l.drop j) j (nMany (i + 1)) []) = gFind0 m l := hinv
                        rw [← hinv]
                        refine awp_seq ?_
                        refine awp_region ?_
                        refine al_d rfl rfl rfl (by exact (by exact opd_field_ref rfl fo96_0 rfl rfl rfl rfl)) ?_
                        refine al_d rfl rfl rfl (by exact (by exact opd_load1_ref rfl Tryz.isAgg3 rfl rfl rfl rfl rfl)) ?_
                        refine al_d rfl rfl rfl (by exact opd_move rfl rfl) ?_
                        refine al_d rfl rfl rfl (by exact x_build rfl bo63 rfl rfl) ?_
                        refine al_n rfl rfl (by exact (by exact x_store_all rfl Tryz.sizeOf63 rfl rfl rfl rfl rfl rfl rfl rfl)) ?_
                        refine al_nil ?_
                        refine awp_ret ?_
                        -- return
                        refine aret1 (H' := []) (by exact .inr rfl) rfl (rval_cell rfl Tryz.isAgg63 Tryz.sizeOf63 rfl rfl rfl rfl rfl) (Fin.wk (r := .agg [iv ((i + 1 : Nat) : Int), .pv (slInts (toI (gr (eShows (i + 1) m) (eTog (i + 1)) (l.drop j) j (nMany (i + 1)) [])))]) (by simp) trivial trivial) ?_
                        exact ⟨rfl, rfl⟩
                      · have hpe : ¬ (gr (eShows (i + 1) m) (eTog (i + 1)) (l.drop j) j (nMany (i + 1)) []).length = nMany (i + 1) := by
                          have h := of_decide_eq_false hc9
                          rw [hpl] at h
                          omega
                        rw [if_neg hpe] at hjv
                        refine awp_skip ?_
                        refine awp_seq ?_
                        refine awp_region ?_
                        refine al_d rfl rfl rfl (by exact (by exact opd_field_ref rfl fo96_0 rfl rfl rfl rfl)) ?_
                        refine al_d rfl rfl rfl (by exact (by exact opd_load1_ref rfl Tryz.isAgg3 rfl rfl rfl rfl rfl)) ?_
                        refine al_d rfl rfl rfl (by exact opd_neq rfl rfl rfl) ?_
                        refine al_nil ?_
                        refine awp_cond rfl (fun hc10 => ?_) (fun hc10 => ?_)
                        -- cond 10
                        · have h4 : i + 1 ≠ 4 := by
                            have h : (!decide (((i + 1 : Nat) : Int) = 4)) = true := hc10
                            simp only [Bool.not_eq_true', decide_eq_false_iff_not] at h
                            omega
                          rw [if_pos (decide_eq_true h4)] at hjv
                          rw [← hjv] at hinv
                          have hinv : kFirst m l d (i + 1 + 1) = gFind0 m l := hinv
                          refine awp_exit ?_
                          refine awp_region ?_
                          refine al_d rfl rfl rfl (by exact opd_add rfl rfl rfl (by exact w64 (by omega) (by omega))) ?_
                          refine al_d rfl rfl rfl (by exact opd_move rfl rfl) ?_
                          refine al_nil ?_
                          -- end of a round
                          exact ⟨i + 1, ⟨by omega, by rw [hd2]; exact hinv⟩, by omega, (Ent.wk ⟨⟨_, rfl, rfl⟩, (by (simp; done)), ⟨_, rfl, rfl⟩, (by (simp; rfl)), ⟨_, rfl, rfl⟩, (by (simp; done)), ⟨_, rfl, rfl⟩, (by (simp; rfl)), ⟨_, rfl, rfl⟩, (by (simp; done)), ⟨_, rfl, rfl⟩, (by (simp; done)), trivial⟩ ⟨⟨_, rfl, rfl⟩, (by exact susRows_clo rfl), ⟨_, rfl, rfl⟩, (by (simp; rfl)), ⟨_, rfl, rfl⟩, (by (simp; done)), ⟨_, rfl, rfl⟩, (by (simp; done)), trivial⟩ trivial)⟩
                        · have h4 : i + 1 = 4 := by
                            have h : (!decide (((i + 1 : Nat) : Int) = 4)) = false := hc10
                            simp only [Bool.not_eq_false', decide_eq_true_eq] at h
                            omega
                          rw [if_neg (by simp; omega)] at hjv
                          refine awp_skip ?_
                          refine awp_region ?_
                          refine al_d rfl rfl rfl (by exact opd_add rfl rfl rfl (by exact w64 (by omega) (by omega))) ?_
                          refine al_d rfl rfl rfl (by exact opd_move rfl rfl) ?_
                          refine al_nil ?_
                          -- end of a round
                          exact ⟨j + 1, ⟨by omega, hjv⟩, by omega, (Ent.wk ⟨⟨_, rfl, rfl⟩, (by (simp; done)), ⟨_, rfl, rfl⟩, (by (simp; rfl)), ⟨_, rfl, rfl⟩, (by (simp; done)), ⟨_, rfl, rfl⟩, (by (simp; rfl)), ⟨_, rfl, rfl⟩, (by (simp; done)), ⟨_, rfl, rfl⟩, (by (simp; done)), ⟨_, rfl, rfl⟩, (by (simp; rfl)), ⟨_, rfl, rfl⟩, (by (simp; done)), ⟨_, rfl, rfl⟩, (by (simp; done)), ⟨_, rfl, rfl⟩, (by (simp; done)), trivial⟩ ⟨⟨_, rfl, rfl⟩, (by exact susBox_clo _ rfl), ⟨_, rfl, rfl⟩, (by exact susRows_clo rfl), ⟨_, rfl, rfl⟩, (by (simp; rfl)), ⟨_, rfl, rfl⟩, (by (simp; done)), ⟨_, rfl, rfl⟩, (by (simp; done)), trivial⟩ trivial)⟩
                  · have hge : j = l.length := by have := of_decide_eq_false hc7; omega
                    rw [hge, List.drop_length, kLoop] at hjv
                    rw [← hjv] at hinv
                    have hinv : kFirst m l d (i + 1 + 1) = gFind0 m l := hinv
                    refine awp_exit ?_
                    refine awp_region ?_
                    refine al_d rfl rfl rfl (by exact opd_add rfl rfl rfl (by exact w64 (by omega) (by omega))) ?_
                    refine al_d rfl rfl rfl (by exact opd_move rfl rfl) ?_
                    refine al_nil ?_
                    -- end of a round
                    exact ⟨i + 1, ⟨by omega, by rw [hd2]; exact hinv⟩, by omega, (Ent.wk ⟨⟨_, rfl, rfl⟩, (by (simp; done)), ⟨_, rfl, rfl⟩, (by (simp; rfl)), ⟨_, rfl, rfl⟩, (by (simp; done)), ⟨_, rfl, rfl⟩, (by (simp; rfl)), ⟨_, rfl, rfl⟩, (by (simp; done)), ⟨_, rfl, rfl⟩, (by (simp; done)), trivial⟩ ⟨⟨_, rfl, rfl⟩, (by exact susRows_clo rfl), ⟨_, rfl, rfl⟩, (by (simp; rfl)), ⟨_, rfl, rfl⟩, (by (simp; done)), ⟨_, rfl, rfl⟩, (by (simp; done)), trivial⟩ trivial)⟩
            · have hi : i = 4 := by have := of_decide_eq_false hc5; omega
              subst hi
              have hinv : (0, []) = gFind0 m l := hinv
              rw [← hinv]
              refine awp_exit ?_
              refine awp_seq ?_
              refine awp_region ?_
              refine al_d rfl rfl rfl (by exact x_build rfl bo63 rfl rfl) ?_
              refine al_n rfl rfl (by exact (by exact x_store_all rfl Tryz.sizeOf63 rfl rfl rfl rfl rfl rfl rfl rfl)) ?_
              refine al_nil ?_
              refine awp_ret ?_
              -- return
              refine aret1 (H' := []) (by exact .inr rfl) rfl (rval_cell rfl Tryz.isAgg63 Tryz.sizeOf63 rfl rfl rfl rfl rfl) (Fin.wk (r := .agg [iv 0, lv []]) (by simp) trivial trivial) ?_
              exact ⟨rfl, rfl⟩
end Go.Proofs.YtdcifaldfmpapaaGreat
end
section
set_option linter.unusedVariables false
set_option linter.unusedSimpArgs false
namespace Go.Proofs.YtdcifaldfmpapaaGreat
open Go.Abs
def zEdit : GEdit := ⟨0, sNil, sNil, sNil, 0, 0, sNil, sNil, [], zObj⟩
def eKey (k : Nat) (e : GEdit) : ByteArray := if k = 4 then e.obj.id else e.id
def edAt (l : List GEdit) (x : Int) : GEdit := (l[x.toNat]?).getD zEdit
def prevI (idx : List Int) : Nat → Int
  | 0 => -1
  | k + 1 => (idx[k]?).getD 0
def eSame (a b : GEdit) : Bool := (decide (a.obj.x = b.obj.x) && decide (a.obj.y = b.obj.y)) && tagsEq a.obj.tags b.obj.tags
/-- What is wrong with the index at a place. -/
def badH (m : List GObj) (l : List GEdit) (k : Nat) (idx : List Int) (i : Nat) : Bool := match idx[i]? with
  | none => false
  | some x => (decide (x < 0) || decide ((l.length : Int) ≤ x) || (decide ((0 : Int) < (i : Int)) && decide (x ≤ prevI idx i)) || !eShows k m (edAt l x)) || (decide (k = 4) && !eSame (edAt l x) (edAt l ((idx[0]?).getD 0)))
def gHolds (m : List GObj) (l : List GEdit) (kind : Int) (idx : List Int) : Bool :=
  (decide (1 ≤ kind) && decide (kind ≤ 4) && decide (idx.length = nMany kind.toNat) && !(decide (kind = 1) && decide ((nDrops l : Int) ≤ (l.length : Int) - (nDrops l : Int)))) &&
    (!((List.range idx.length).any (badH m l kind.toNat idx)) && decide ((((idx.map (fun x => eKey kind.toNat (edAt l x))).foldl sput []).length : Int) = (idx.length : Int)))
end Go.Proofs.YtdcifaldfmpapaaGreat
end
section
set_option linter.unusedVariables false
set_option linter.unusedSimpArgs false
set_option maxRecDepth 100000
namespace Go.Proofs.YtdcifaldfmpapaaGreat
open Go.Abs
def gFew31 (m : List GObj) (l : List GEdit) : Bool := few13 m 24 && few22 l 20
theorem few31_c (m : List GObj) (l : List GEdit) (H : Heap) (hm : m.length < 4611686018427387904) (ho : ∀ o, o ∈ m → okObj o) (hl : l.length < 4611686018427387904) (he : ∀ e, e ∈ l → okEdit e) :
    ACalls Tryz.prog 24 [.agg [.pv (slObjs m)], .pv (slEdits l)] H (fun r H' => r = bv (gFew31 m l) ∧ H' = H) := by
  refine ACalls.pure ?_ (by simp) H
  refine ACalls.body Tryz.func24 rfl Tryz.ntmps24 (Nat.le_of_ble_eq_true rfl) ?_
  refine awp_seq ?_
  refine awp_region ?_
  refine al_d rfl rfl rfl (by exact opd_box (id := 2) rfl rfl rfl rfl rfl) ?_
  refine al_d rfl rfl rfl (by exact opd_assign rfl rfl) ?_
  refine al_nil ?_
  refine awp_seq ?_
  refine awp_bool (t := 4) (n := 8) (X := gFew31 m l) ?_ ?_
  · all_goals (refine al_d rfl rfl rfl (by exact (by exact opd_loadn_ref rfl Tryz.isAgg24 Tryz.sizeOf24 rfl rfl rfl rfl (by simp only [List.drop_succ_cons, List.drop_zero, List.take_succ_cons, List.take_zero, List.take_nil, List.map_cons, List.map_nil, List.set_cons_zero, List.set_cons_succ, List.cons_append, List.nil_append, encTag, encObj, encStr, encEdit, encInt]; rfl) rfl)) ?_)
    all_goals (refine al_d rfl rfl rfl (by exact opr_call rfl rfl Tryz.call58 rfl (few13_c m 24 _ hm ho)) ?_)
    all_goals (refine al_d rfl rfl rfl (by exact opd_move rfl rfl) ?_)
    all_goals (refine al_split (t := 7) rfl (fun h7 => ?_) (fun h7 => ?_))
    all_goals (try contradiction)
    all_goals (first | refine al_off rfl rfl rfl rfl rfl ?_ | refine al_ond rfl rfl rfl rfl rfl rfl (by exact opd_move rfl rfl) ?_)
    all_goals (first | refine al_off rfl rfl rfl rfl rfl ?_ | refine al_ond rfl rfl rfl rfl rfl rfl (by exact opr_call rfl rfl Tryz.call59 rfl (few22_c l 20 _ hl he)) ?_)
    all_goals (refine al_d rfl rfl rfl (by exact (by first | exact opd_pick_t rfl rfl rfl | exact opd_pick_f rfl rfl rfl)) ?_)
    all_goals (refine al_d rfl rfl rfl (by exact opd_assign rfl rfl) ?_)
    all_goals (refine al_nil ?_)
    all_goals (exact ⟨⟨_, rfl, by (simp only [gFew31, *]; rfl)⟩, rfl, rfl, rfl⟩)
  refine awp_ret ?_
  -- return
  refine aret1 (H' := []) (by exact .inr rfl) rfl (rval_tmp rfl) (Fin.wk (by simp) trivial trivial) ?_
  exact ⟨rfl, rfl⟩
theorem same31_c (k1 k2 : Int) (a b : List Int) (H : Heap) (ha : a.length < 4611686018427387904) :
    ACalls Tryz.prog 27 [.agg [iv k1, .pv (slInts a)], .agg [iv k2, .pv (slInts b)]] H (fun r H' => r = bv (decide (k1 = k2) && decide (a = b)) ∧ H' = H) := by
  refine ACalls.pure ?_ (by simp) H
  have hma : (a.map encInt).length = a.length := List.length_map _
  have hmb : (b.map encInt).length = b.length := List.length_map _
  refine ACalls.body Tryz.func27 rfl Tryz.ntmps27 (Nat.le_of_ble_eq_true rfl) ?_
  refine awp_seq ?_
  refine awp_region ?_
  refine al_d rfl rfl rfl (by exact opd_box (id := 2) rfl rfl rfl rfl rfl) ?_
  refine al_d rfl rfl rfl (by exact opd_box (id := 3) rfl rfl rfl rfl rfl) ?_
  refine al_d rfl rfl rfl (by exact opd_assign rfl rfl) ?_
  refine al_nil ?_
  refine awp_seq ?_
  refine awp_seq ?_
  refine awp_bool (t := 19) (n := 15) (X := !decide (k1 = k2) || !decide (((a.map encInt).length : Int) = ((b.map encInt).length : Int))) ?_ ?_
  · all_goals (refine al_d rfl rfl rfl (by exact (by exact opd_field_ref rfl fo63_0 rfl rfl rfl rfl)) ?_)
    all_goals (refine al_d rfl rfl rfl (by exact (by exact opd_load1_ref rfl Tryz.isAgg3 rfl rfl rfl rfl rfl)) ?_)
    all_goals (refine al_d rfl rfl rfl (by exact (by exact opd_field_ref rfl fo63_0 rfl rfl rfl rfl)) ?_)
    all_goals (refine al_d rfl rfl rfl (by exact (by exact opd_load1_ref rfl Tryz.isAgg3 rfl rfl rfl rfl rfl)) ?_)
    all_goals (refine al_d rfl rfl rfl (by exact opd_neq rfl rfl rfl) ?_)
    all_goals (refine al_d rfl rfl rfl (by exact opd_move rfl rfl) ?_)
    all_goals (refine al_split (t := 11) rfl (fun h11 => ?_) (fun h11 => ?_))
    all_goals (try contradiction)
    all_goals (first | refine al_off rfl rfl rfl rfl rfl ?_ | refine al_ond rfl rfl rfl rfl rfl rfl (by exact (by exact opd_field_ref rfl fo63_1 rfl rfl rfl rfl)) ?_)
    all_goals (first | refine al_off rfl rfl rfl rfl rfl ?_ | refine al_ond rfl rfl rfl rfl rfl rfl (by exact (by exact opd_load1_ref rfl Tryz.isAgg61 rfl rfl rfl rfl rfl)) ?_)
    all_goals (first | refine al_off rfl rfl rfl rfl rfl ?_ | refine al_ond rfl rfl rfl rfl rfl rfl (by exact (by exact opd_len_sl rfl Tryz.underlying61 rfl)) ?_)
    all_goals (first | refine al_off rfl rfl rfl rfl rfl ?_ | refine al_ond rfl rfl rfl rfl rfl rfl (by exact (by exact opd_field_ref rfl fo63_1 rfl rfl rfl rfl)) ?_)
    all_goals (first | refine al_off rfl rfl rfl rfl rfl ?_ | refine al_ond rfl rfl rfl rfl rfl rfl (by exact (by exact opd_load1_ref rfl Tryz.isAgg61 rfl rfl rfl rfl rfl)) ?_)
    all_goals (first | refine al_off rfl rfl rfl rfl rfl ?_ | refine al_ond rfl rfl rfl rfl rfl rfl (by exact (by exact opd_len_sl rfl Tryz.underlying61 rfl)) ?_)
    all_goals (first | refine al_off rfl rfl rfl rfl rfl ?_ | refine al_ond rfl rfl rfl rfl rfl rfl (by exact opd_neq rfl rfl rfl) ?_)
    all_goals (refine al_d rfl rfl rfl (by exact (by first | exact opd_pick_t rfl rfl rfl | exact opd_pick_f rfl rfl rfl)) ?_)
    all_goals (refine al_nil ?_)
    all_goals (exact ⟨⟨_, rfl, by (simp only [*, Bool.false_and, Bool.true_and, Bool.and_false, Bool.and_true, Bool.true_or, Bool.false_or, Bool.or_true, Bool.or_false, Bool.not_true, Bool.not_false]; done)⟩, rfl, rfl, rfl⟩)
  refine awp_cond rfl (fun hc1 => ?_) (fun hc1 => ?_)
  -- cond 1
  · have hne : (decide (k1 = k2) && decide (a = b)) = false := by
      rw [Bool.and_eq_false_iff, decide_eq_false_iff_not, decide_eq_false_iff_not]
      by_cases h1 : k1 = k2
      · right
        rintro rfl
        simp [h1] at hc1
      · exact .inl h1
    refine awp_seq ?_
    refine awp_region ?_
    refine al_d rfl rfl rfl (by exact opd_assign rfl rfl) ?_
    refine al_nil ?_
    refine awp_ret ?_
    -- return
    refine aret1 (H' := []) (by exact .inr rfl) rfl (rval_tmp rfl) (Fin.wk (by simp) trivial trivial) ?_
    exact ⟨by rw [hne], rfl⟩
  · have h1 : k1 = k2 := by
      simp only [Bool.or_eq_false_iff, Bool.not_eq_false', decide_eq_true_eq] at hc1
      exact hc1.1
    have heq : a.length = b.length := by
      simp only [Bool.or_eq_false_iff, Bool.not_eq_false', decide_eq_true_eq, hma, hmb] at hc1
      have := hc1.2
      omega
    refine awp_skip ?_
    refine awp_seq ?_
    refine awp_seq ?_
    refine awp_region ?_
    refine al_d rfl rfl rfl (by exact opd_assign rfl rfl) ?_
    refine al_nil ?_
    refine awp_block ?_
    -- loop
    refine awp_loop (σ := Nat) (fun k => ([(2, .ref 2 0 0 0), (3, .ref 3 0 0 0), (5, iv (k : Int))], [(3, bx 2 63 [iv k2, .pv (slInts b)]), (2, bx 2 63 [iv k1, .pv (slInts a)])])) (fun k => k ≤ a.length ∧ a.take k = b.take k) (fun k => a.length - k) 0 ⟨by omega, by simp⟩ ?_ ?_
    · exact (Ent.wk ⟨⟨_, rfl, rfl⟩, (by (simp; rfl)), ⟨_, rfl, rfl⟩, (by (simp; rfl)), ⟨_, rfl, rfl⟩, (by (simp; done)), trivial⟩ ⟨⟨_, rfl, rfl⟩, (by (simp; done)), ⟨_, rfl, rfl⟩, (by (simp; done)), trivial⟩ trivial)
    · rintro k ⟨hk, hall⟩
      refine awp_seq ?_
      refine awp_seq ?_
      refine awp_region ?_
      refine al_d rfl rfl rfl (by exact opd_move rfl rfl) ?_
      refine al_d rfl rfl rfl (by exact (by exact opd_field_ref rfl fo63_1 rfl rfl rfl rfl)) ?_
      refine al_d rfl rfl rfl (by exact (by exact opd_load1_ref rfl Tryz.isAgg61 rfl rfl rfl rfl rfl)) ?_
      refine al_d rfl rfl rfl (by exact (by exact opd_len_sl rfl Tryz.underlying61 rfl)) ?_
      refine al_d rfl rfl rfl (by exact opd_lss rfl rfl rfl) ?_
      refine al_nil ?_
      refine awp_cond rfl (fun hc2 => ?_) (fun hc2 => ?_)
      -- cond 2
      · have hlt : k < a.length := by have := of_decide_eq_true hc2; omega
        obtain ⟨x, hx⟩ := get_of_lt hlt
        obtain ⟨y, hy⟩ := get_of_lt (l := b) (k := k) (by omega)
        have hi := map_get (f := encInt) hx
        have hi2 := map_get (f := encInt) hy
        refine awp_skip ?_
        refine awp_seq ?_
        refine awp_block ?_
        refine awp_seq ?_
        refine awp_drawc follows ?_
        refine dc_cons (DStep.q rfl (by exact (by exact opd_field_ref rfl fo63_1 rfl rfl rfl rfl))) rfl ?_
        refine dc_cons (DStep.q rfl (by exact (by exact opd_load1_ref rfl Tryz.isAgg61 rfl rfl rfl rfl rfl))) rfl ?_
        refine dc_cons (DStep.q rfl (by exact opd_move rfl rfl)) rfl ?_
        refine dc_cons (DStep.q rfl (by exact (by exact x_index_pad rfl so61 rfl rfl (by omega) (by exact Int.toNat_natCast _) (by assumption) rfl))) rfl ?_
        refine dc_cons (DStep.q rfl (by exact (by exact opd_load1_pad rfl Tryz.isAgg3 rfl (by omega) rfl))) rfl ?_
        refine dc_cons (DStep.q rfl (by exact (by exact opd_field_ref rfl fo63_1 rfl rfl rfl rfl))) rfl ?_
        refine dc_cons (DStep.q rfl (by exact (by exact opd_load1_ref rfl Tryz.isAgg61 rfl rfl rfl rfl rfl))) rfl ?_
        refine dc_cons (DStep.q rfl (by exact opd_move rfl rfl)) rfl ?_
        refine dc_cons (DStep.q rfl (by exact (by exact x_index_pad rfl so61 rfl rfl (by omega) (by exact Int.toNat_natCast _) (by assumption) rfl))) rfl ?_
        refine dc_cons (DStep.q rfl (by exact (by exact opd_load1_pad rfl Tryz.isAgg3 rfl (by omega) rfl))) rfl ?_
        refine dc_cons (DStep.q rfl (by exact opd_neq rfl rfl rfl)) rfl ?_
        refine dc_nil ⟨by kernel_rfl, ?_⟩
        refine awp_cond rfl (fun hc3 => ?_) (fun hc3 => ?_)
        -- cond 3
        · have ht : ¬ x = y := by
            have h : (!decide (x = y)) = true := hc3
            simpa using h
          have hne : ¬ a = b := by
            intro e
            subst e
            rw [hx] at hy
            exact ht (Option.some.inj hy)
          refine awp_seq ?_
          refine awp_region ?_
          refine al_d rfl rfl rfl (by exact opd_assign rfl rfl) ?_
          refine al_nil ?_
          refine awp_ret ?_
          -- return
          refine aret1 (H' := []) (by exact .inr rfl) rfl (rval_tmp rfl) (Fin.wk (by simp) trivial trivial) ?_
          exact ⟨by rw [decide_eq_false hne, Bool.and_false], rfl⟩
        · have ht : x = y := by
            have h : (!decide (x = y)) = false := hc3
            simpa using h
          refine awp_skip ?_
          refine awp_region ?_
          refine al_d rfl rfl rfl (by exact opd_move rfl rfl) ?_
          refine al_d rfl rfl rfl (by exact opd_add rfl rfl rfl (by exact w64 (by omega) (by omega))) ?_
          refine al_d rfl rfl rfl (by exact opd_assign rfl rfl) ?_
          refine al_nil ?_
          -- end of a round
          refine ⟨k + 1, ⟨by omega, ?_⟩, by omega, (Ent.wk ⟨⟨_, rfl, rfl⟩, (by (simp; rfl)), ⟨_, rfl, rfl⟩, (by (simp; rfl)), ⟨_, rfl, rfl⟩, (by (simp; done)), trivial⟩ ⟨⟨_, rfl, rfl⟩, (by (simp; done)), ⟨_, rfl, rfl⟩, (by (simp; done)), trivial⟩ trivial)⟩
          rw [List.take_add_one, List.take_add_one, hx, hy, hall, ht]
      · have hge : k = a.length := by have := of_decide_eq_false hc2; omega
        have he : a = b := by
          have h := hall
          rw [hge, List.take_length, heq, List.take_length] at h
          exact h
        refine awp_exit ?_
        refine awp_seq ?_
        refine awp_region ?_
        refine al_d rfl rfl rfl (by exact opd_assign rfl rfl) ?_
        refine al_nil ?_
        refine awp_ret ?_
        -- return
        refine aret1 (H' := []) (by exact .inr rfl) rfl (rval_tmp rfl) (Fin.wk (by simp) trivial trivial) ?_
        exact ⟨by rw [decide_eq_true he, decide_eq_true h1]; rfl, rfl⟩
end Go.Proofs.YtdcifaldfmpapaaGreat
end
section
set_option linter.unusedVariables false
set_option linter.unusedSimpArgs false
set_option maxRecDepth 100000
namespace Go.Proofs.YtdcifaldfmpapaaGreat
open Go.Abs

def accH (l : List GEdit) (k : Nat) (idx : List Int) : List ByteArray := (idx.map (fun x => eKey k (edAt l x))).foldl sput []
end Go.Proofs.YtdcifaldfmpapaaGreat
end
section
set_option linter.unusedVariables false
set_option linter.unusedSimpArgs false
set_option maxRecDepth 100000
namespace Go.Proofs.YtdcifaldfmpapaaGreat
open Go.Abs
def nm (i : Nat) : ByteArray := ⟨#[110, 49 + UInt8.ofNat i]⟩
def nodeO (i : Nat) : GObj := ⟨nm i, 1, (i : Int), 0, [], []⟩
def names5 : List ByteArray := (List.range 5).map nm
def nodes5 : List GObj := (List.range 5).map nodeO
abbrev obRows (l : List GObj) : List (List AV) := l.map (fun e => (encObj e).map .pv)
end Go.Proofs.YtdcifaldfmpapaaGreat
end
section
set_option linter.unusedVariables false
set_option linter.unusedSimpArgs false
namespace Go.Abs
section
variable {P : Program} {N : Nat} {o : Oper} {E : Env} {H : Heap} {T : TypeId} {x y hi mx : Operand}
theorem slf_inv {w : World} {I : Nat → Prop} {ι : Plc} {v : Value} {rows : List (List PV)} (h : VRel w I ι H v (.pv (.slf rows))) : ∃ a n, v = .slice (some a) n n ∧ PRep w I v (.sl rows) := by
  cases h with
  | pv h => cases h with
    | slf a n _ h => exact ⟨a, n, rfl, h⟩
theorem x_slice_full {e : TypeId} {rows : List (List PV)} {sz n : Nat} (ho : o.op = .slice T x none (some hi) (some mx)) (hS : SliceOf P T e sz) (hx : aeval E x = some (.pv (.sl rows))) (hrows : ∀ r ∈ rows, r.length = sz) (hne : rows ≠ []) (hn : rows.length = n)
    (hhi : aeval E hi = some (.pv (.int .i64 n))) (hmx : aeval E mx = some (.pv (.int .i64 n))) : OpD P N o E H (.pv (.slf rows)) H := by
  subst hn
  exact .of_run fun a w I ι _ he => by
    have hv := (aeval_rel he hx).pv_inv
    have e1 := (aeval_rel he hhi).int_inv
    have e2 := (aeval_rel he hmx).int_inv
    generalize hc : a.eval x = c at hv
    have hT := hS.1
    have hTe : P.elem T = e := by simp [Program.elem, hT]
    have hT' : P.underlying T = some (.slice (P.elem T)) := by rw [hTe, hT]
    cases hv with
    | nilsl => exact absurd rfl hne
    | empsl a0 => exact absurd rfl hne
    | sl b off cap sz' _ cs hI hsz hlen hcap hcc hpp =>
      have hb : (Instr.sliceBounds true rows.length cap none (some (.int .i64 rows.length)) (some (.int .i64 rows.length))).run P w = .ok (0, rows.length, rows.length) w := by
        have hsb : ∀ (n y : Nat) (c : BoundsCode), n ≤ y → (Instr.sliceBound (.int .i64 n) y c).run P w = .ok n w := fun n y c hn => by
          have := run_sliceBound (P := P) w .i64 n y c (by omega) (by omega)
          simpa using this
        simp [Instr.sliceBounds, hsb _ _ _ hcap, hsb _ _ _ (Nat.le_refl rows.length)]
      have hlt : 0 < rows.length := List.length_pos_iff.2 hne
      refine ⟨.slice (some ⟨b, off, none⟩) rows.length rows.length, ?_, .pv (.slf _ _ _ (.sl b off rows.length sz' rows cs hI hsz hlen (Nat.le_refl _) hcc hpp))⟩
      simp only [execOp, ho, hc]
      have := run_slice_any (P := P) w T (some ⟨b, off, none⟩) rows.length cap hT' none (some (.int .i64 rows.length)) (some (.int .i64 rows.length))
      have hsz2 := hS.2.1
      have hne0 : ¬ rows.length = 0 := by omega
      simp [run_sliceAt_slice w T _ _ _ _ hT', e1, e2, this, hb, hTe, hsz2, sliced, Addr.add_zero', hne0]
theorem opd_append_full {e : TypeId} {id n m sz bytes : Nat} {rows : List (List PV)} {rows2 : List (List AV)} (ho : o.op = .call { callee := .builtin .append, args := #[x, y], argTypes := #[T, T] }) (hT : P.underlying T = some (.slice e)) (hinf : EInfo P e sz bytes)
    (hx : aeval E x = some (.pv (.slf rows))) (hne : rows ≠ []) (hrl : ∀ r ∈ rows, r.length = sz) (hn : rows.length = n) (hid : H.get id = none)
    (hsrc : ∀ (a : Act) (w : World) (I : Nat → Prop) (ι : Plc), Rel I ι H w → ERel w I ι H E a → Src w I ι H sz (a.eval y) rows2) (hrl2 : ∀ r ∈ rows2, r.length = sz) (hm : rows2.length = m) (hpos : 0 < m) (hbytes : (n + m) * bytes ≤ 140737488355328) (hmax : n + m ≤ 9223372036854775807) :
    OpD P N o E H (.osl id 0 0 (n + m)) ((id, ⟨0, sz, e, rows.map (·.map .pv) ++ rows2⟩) :: H) := by
  intro a w I ι _ _ hr he K Q hk
  obtain ⟨i, z, hi, hz, hsize, hby, hzs, hsz0⟩ := hinf
  subst hn hm
  obtain ⟨ad, n, hv, hp⟩ := slf_inv (aeval_rel he hx)
  have hml : rows.length + rows2.length ≤ maxLen := by simp only [maxLen]; omega
  rcases src_pure (ι := ι) (H := H) (.pv hp) hsz0 hrl with ⟨ad1, c1, olds, s1, s2, s3, s4, s5⟩ | ⟨s1, _⟩
  · rw [hv] at s1
    injection s1 with q1 q2 q3
    injection q1 with q1
    subst q1
    simp only [List.length_map] at q2 s2
    subst q2
    rcases hsrc a w I ι hr he with ⟨ad2, c2, news, t1, t2, t3, t4, t5⟩ | ⟨_, t2⟩
    · have hrun := run_append_grow (P := P) w T o.type e i z hT hi hz ad rows.length rows.length olds (by rw [hsize]; exact s2) s3 ad2 rows2.length c2 news (by rw [hsize]; exact t2) t3 (by omega) (by omega) (growslice_fits (by omega) (by rw [hby]; exact hbytes))
      have hge := grownCap_ge w (rows.length + rows2.length) rows.length e
      have hcm := grownCap_le_maxLen w (rows.length + rows2.length) rows.length e hml
      have h1 : Heap.get ((id, (⟨0, sz, e, rows.map (·.map .pv) ++ rows2⟩ : Ob)) :: H) id = some ⟨0, sz, e, rows.map (·.map .pv) ++ rows2⟩ := by simp [Heap.get, beq_self]
      have h2 : ∀ j, j ≠ id → Heap.get ((id, (⟨0, sz, e, rows.map (·.map .pv) ++ rows2⟩ : Ob)) :: H) j = H.get j := fun j hj => by simp [Heap.get, beq_ne (Ne.symm hj)]
      have hrl3 : ∀ r ∈ rows.map (·.map AV.pv) ++ rows2, r.length = sz := fun r hr' => by
        rcases List.mem_append.1 hr' with h | h
        · obtain ⟨q, hq, rfl⟩ := List.mem_map.1 h
          rw [List.length_map]; exact hrl q hq
        · exact hrl2 r h
      obtain ⟨k2, k3⟩ := Rel.place (H' := (id, ⟨0, sz, e, rows.map (·.map .pv) ++ rows2⟩) :: H) (id := id) (cap := grownCap w (rows.length + rows2.length) rows.length e) (ob' := ⟨0, sz, e, rows.map (·.map .pv) ++ rows2⟩)
        (cs' := olds.toArray ++ news.toArray ++ Builtin.zeroCells z.cells (grownCap w (rows.length + rows2.length) rows.length e - (rows.length + rows2.length)))
        (w' := w.drew.alloc (.cells (olds.toArray ++ news.toArray ++ Builtin.zeroCells z.cells (grownCap w (rows.length + rows2.length) rows.length e - (rows.length + rows2.length))) e)) hr rfl rfl rfl rfl
        (fun o' ho' => by rw [hid] at ho'; cases ho') hsz0 (by
          simp only [Array.size_append, List.size_toArray, size_zeroCells, hzs, s2, t2, ← Nat.add_mul]
          congr 1
          omega) (by simpa using hge) hcm hrl3 (fun i' r hi' k a' hk' => by
            obtain ⟨u, q1, q2, q3⟩ := LRel.app (l3 := (Builtin.zeroCells z.cells (grownCap w (rows.length + rows2.length) rows.length e - (rows.length + rows2.length))).toList) s5 (by simpa using s2) t5 i' r hi' k a' hk'
            refine ⟨u, ?_, q2, q3⟩
            rw [← Array.getElem?_toList]
            simpa [List.append_assoc] using q1) h1 h2
      unfold Oper.wp execOp
      simp only [ho, resolve, invoke, builtin, Sem.run_bind, Sem.run_pure, Result.andThen_ok, List.map_toArray, List.map_cons, List.map_nil, hv, t1, hrun]
      exact hk _ _ I _ _ _ ⟨rfl, rfl⟩ (.osl _ h1 (Nat.le_refl _) rfl fun _ => ⟨hsz0, by simp, .inl ⟨w.heap.size, _, 0, by simp; rfl, by simp, fun _ => by simp⟩⟩) k2 k3
    · rw [t2] at hpos; simp at hpos
  · rw [hv] at s1; cases s1
theorem x_append_full {e : TypeId} {id id' g' off' n m k sz bytes : Nat} {ob' : Ob} {rows : List (List PV)} {rows' : List (List AV)} (ho : o.op = .call { callee := .builtin .append, args := #[x, y], argTypes := #[T, T] }) (hS : SliceOf P T e sz) (hinf : EI P e sz bytes)
    (hx : aeval E x = some (.pv (.slf rows))) (hne : rows ≠ []) (hrl : ∀ r ∈ rows, r.length = sz) (hn : rows.length = n) (hid : H.get id = none)
    (hy : aeval E y = some (.osl id' g' off' m)) (hH' : H.get id' = some ob') (hg' : ob'.g = g') (hsz' : ob'.sz = sz) (hrl2 : ∀ r ∈ ob'.rows, r.length = sz) (hm : off' + m ≤ ob'.rows.length) (hpos : 0 < m) (hbytes : (n + m) * bytes ≤ 140737488355328) (hk : n + m = k)
    (hrows : rows.map (·.map .pv) ++ (ob'.rows.drop off').take m = rows') : OpD P N o E H (.osl id 0 0 k) ((id, ⟨0, sz, e, rows'⟩) :: H) := by
  subst hk hrows
  refine opd_append_full ho hS.1 hinf.1 hx hne hrl hn hid (fun a w I ι hr he => src_osl hr (aeval_rel he hy) hH' hg' hsz') (fun r hr => hrl2 r (List.mem_of_mem_drop (List.mem_of_mem_take hr))) (by rw [List.length_take, List.length_drop]; omega) hpos hbytes (small_of hinf.2 hbytes)
end
end Go.Abs
end
section
set_option linter.unusedVariables false
set_option linter.unusedSimpArgs false
set_option maxRecDepth 100000
namespace Go.Proofs.YtdcifaldfmpapaaGreat
open Go.Abs
theorem slt_data (a b : ByteArray) : slt a b = decide (a.data.toList < b.data.toList) := by
  unfold slt
  rw [bytesLess_eq, ByteArray.toList_eq, ByteArray.toList_eq]
abbrev nA : ByteArray := ⟨#[97]⟩
abbrev nB : ByteArray := ⟨#[98]⟩
abbrev nC : ByteArray := ⟨#[99]⟩
abbrev nD : ByteArray := ⟨#[100]⟩
abbrev nE : ByteArray := ⟨#[101]⟩
abbrev nX : ByteArray := ⟨#[120]⟩
def nodeN (id v : ByteArray) : GObj := ⟨id, 1, 0, 0, [], if v = sNil then [] else [⟨sName, v⟩]⟩
def m5 : List GObj := [nodeN nA nX, nodeN nB nX, nodeN nC nX, nodeN nD sNil, nodeN nE sNil]
def dropN (id : ByteArray) : GEdit := ⟨5, id, sNil, sNil, 0, 0, sNil, sNil, [], zObj⟩
def moveN (id : ByteArray) : GEdit := ⟨2, id, sNil, sNil, 0, 0, sNil, sNil, [], zObj⟩
def blankN (id : ByteArray) : GEdit := ⟨3, id, sNil, sNil, 0, 0, sName, sNil, [], zObj⟩
def ids5 : List ByteArray := [nA, nB, nC, nD, nE]
abbrev dropsN : List GEdit := ids5.map dropN
abbrev movesN : List GEdit := ids5.map moveN
abbrev blanksN : List GEdit := [blankN nC, blankN nA, blankN nB]
theorem tagsN {t : GTag} (h1 : gName t.key = true) (h2 : t.val ≠ sNil) (h3 : t.val.size ≤ 200) : gTags [t] = true := by
  simp only [gTags, List.length_cons, List.length_nil, List.range_succ, List.range_zero, List.nil_append, List.any_cons, List.any_nil, badAt, before, List.getElem?_cons_zero, badTag, sle, slt_nil, Bool.or_false, Bool.false_or, h1, Bool.not_true]
  have h4 := gName_ne h1
  simp [h4, h2]
  omega
theorem gObj_nodeN {id v : ByteArray} (h1 : gName id = true) (h2 : v.size ≤ 200) : gObj (nodeN id v) = true := by
  have ht : gTags (nodeN id v).tags = true := by
    rw [nodeN]
    by_cases e : v = sNil
    · simp only [if_pos e]; kernel_rfl
    · simp only [if_neg e]
      exact tagsN (by kernel_rfl) e h2
  simp only [gObj, gHead, gHeadN, ht]
  simp only [nodeN, h1]
  rfl
theorem map5 : gMap m5 = true := by
  rw [gMap_iff]
  refine ⟨?_, ?_, by decide⟩
  · intro o ho
    simp only [m5, List.mem_cons, List.not_mem_nil, or_false] at ho
    rcases ho with rfl | rfl | rfl | rfl | rfl <;> exact gObj_nodeN (by kernel_rfl) (by decide)
  · rw [ups, m5]
    simp only [slt_data, nodeN]
    decide
theorem closed5 : closedB m5 = true := by rw [closedB, map5]; kernel_rfl
theorem ok5 : okM m5 := by
  refine ⟨by decide, fun o ho => ?_⟩
  simp only [m5, List.mem_cons, List.not_mem_nil, or_false] at ho
  have key : ∀ id v : ByteArray, id.size < 10 → v.size < 10 → okO (nodeN id v) := fun id v h1 h2 => by
    refine ⟨by show id.size < _; omega, ?_, by show 0 < _; omega, fun s hs => by cases hs⟩
    rw [nodeN]
    by_cases e : v = sNil
    · simp only [if_pos e]
      exact ⟨by decide, fun t ht => by cases ht⟩
    · simp only [if_neg e]
      refine ⟨by show 1 < _; omega, fun t ht => ?_⟩
      rw [List.mem_singleton] at ht
      subst ht
      exact ⟨by show 4 < _; omega, by show v.size < _; omega⟩
  rcases ho with rfl | rfl | rfl | rfl | rfl <;> exact key _ _ (by decide) (by decide)
theorem fnd_of {m : List GObj} {l : List GEdit} (hc : closedB m = true) (hg : gChange l = true) : gFind m l = ((((gFind0 m l).1 : Nat) : Int), toI (gFind0 m l).2) := by rw [gFind, hc, hg]; rfl
theorem fnd1 : gFind m5 dropsN = (1, [0, 1, 2, 3, 4]) := by rw [fnd_of closed5 (by kernel_rfl)]; kernel_rfl
theorem fnd2 : gFind m5 (dropsN ++ movesN) = (0, []) := by rw [fnd_of closed5 (by kernel_rfl)]; kernel_rfl
theorem fnd3 : gFind m5 blanksN = (2, [0, 1, 2]) := by rw [fnd_of closed5 (by kernel_rfl)]; kernel_rfl
theorem okE_plain {e : GEdit} (h1 : e.id.size < 10) (h2 : e.other.size < 10) (h3 : e.node.size < 10) (h4 : e.key.size < 10) (h5 : e.refs = []) (h6 : e.obj = zObj) : okE e :=
  ⟨⟨by omega, by omega, by omega, by omega⟩, by rw [h5]; exact ⟨by decide, fun s hs => by cases hs⟩, by rw [h6]; exact okO_z⟩
theorem ids5_small : ∀ s ∈ ids5, s.size < 10 := by decide
theorem okN (f : ByteArray → GEdit) (h : ∀ s, s.size < 10 → okE (f s)) : ∀ e ∈ ids5.map f, okE e := fun e he => by
  obtain ⟨s, hs, rfl⟩ := List.mem_map.1 he
  exact h s (ids5_small s hs)
theorem find_v {m : List GObj} {l : List GEdit} {k : Int} {e : List Int} (h : gFind m l = (k, e)) (H : Heap) (hm : okM m) (hl : l.length < 1099511627776) (he : ∀ e ∈ l, okE e) : ACalls Tryz.prog 28 [.agg [.pv (slObjs m)], .pv (slEdits l)] H (fun r H' => r = .agg [iv k, .pv (slInts e)] ∧ H' = H) := by
  have h2 := evFind_c m l H hm hl he
  rw [h] at h2
  exact h2
theorem same_v {k1 k2 : Int} {a b : List Int} (h1 : k1 = k2) (h2 : a = b) (H : Heap) (ha : a.length < 4611686018427387904) : ACalls Tryz.prog 27 [.agg [iv k1, .pv (slInts a)], .agg [iv k2, .pv (slInts b)]] H (fun r H' => r = bv true ∧ H' = H) := by
  have h := same31_c k1 k2 a b H ha
  rw [decide_eq_true h1, decide_eq_true h2] at h
  exact h
theorem nodeN_c (id v : ByteArray) (H : Heap) : ACalls Tryz.prog 56 [sv id, sv v] H (fun r H' => r = av (encObj (nodeN id v)) ∧ H' = H) := by
  refine ACalls.pure ?_ (by simp) H
  refine ACalls.body Tryz.func56 rfl Tryz.ntmps56 (Nat.le_of_ble_eq_true rfl) ?_
  refine awp_seq ?_
  refine awp_region ?_
  refine al_d rfl rfl rfl (by exact x_alloc (id := 4) rfl zo30 rfl rfl) ?_
  refine al_nil ?_
  refine awp_seq ?_
  refine awp_region ?_
  refine al_d rfl rfl rfl (by exact opd_move rfl rfl) ?_
  refine al_d rfl rfl rfl (by exact x_build rfl bo30 rfl rfl) ?_
  refine al_d rfl rfl rfl (by exact x_alloc (id := 5) rfl zo30 rfl rfl) ?_
  refine al_n rfl rfl (by exact (by exact x_store_all rfl Tryz.sizeOf30 rfl rfl rfl rfl rfl rfl rfl rfl)) ?_
  refine al_nil ?_
  refine awp_seq ?_
  refine awp_seq ?_
  refine awp_region ?_
  refine al_d rfl rfl rfl (by exact opd_move rfl rfl) ?_
  refine al_d rfl rfl rfl (by exact opd_sneq rfl rfl rfl) ?_
  refine al_nil ?_
  refine awp_cond rfl (fun hc1 => ?_) (fun hc1 => ?_)
  -- cond 1
  · have hv : ¬ v = sNil := by
      have h : (!decide (v = sNil)) = true := hc1
      simpa using h
    have e : nodeN id v = ⟨id, 1, 0, 0, [], [⟨sName, v⟩]⟩ := by rw [nodeN, if_neg hv]
    rw [e]
    refine awp_region ?_
    refine al_d rfl rfl rfl (by exact opd_move rfl rfl) ?_
    refine al_d rfl rfl rfl (by exact x_build rfl bo52 rfl rfl) ?_
    refine al_d rfl rfl rfl (by exact (by exact x_buildSlice [encTag ⟨sName, v⟩] rfl so28 rfl rfl rfl rfl rfl (by simp [encTag]))) ?_
    refine al_d rfl rfl rfl (by exact (by exact opd_field_ref rfl fo30_4 rfl rfl rfl rfl)) ?_
    refine al_n rfl rfl (by exact x_store1 rfl Tryz.sizeOf28 rfl rfl rfl rfl rfl rfl (Nat.lt_succ_self 5) rfl rfl) ?_
    refine al_nil ?_
    refine awp_seq ?_
    refine awp_region ?_
    refine al_d rfl rfl rfl (by exact (by exact opd_loadn_ref rfl Tryz.isAgg30 Tryz.sizeOf30 rfl rfl rfl rfl (by simp only [List.drop_succ_cons, List.drop_zero, List.take_succ_cons, List.take_zero, List.take_nil, List.map_cons, List.map_nil, List.set_cons_zero, List.set_cons_succ, List.cons_append, List.nil_append, encTag, encObj, encStr, encEdit, encInt]; rfl) rfl)) ?_
    refine al_n rfl rfl (by exact (by exact x_store_all rfl Tryz.sizeOf30 rfl rfl rfl rfl rfl rfl rfl rfl)) ?_
    refine al_nil ?_
    refine awp_ret ?_
    -- return
    refine aret1 (H' := []) (by exact .inr rfl) rfl (rval_cell rfl Tryz.isAgg30 Tryz.sizeOf30 rfl rfl rfl (by simp only [List.drop_succ_cons, List.drop_zero, List.take_succ_cons, List.take_zero, List.take_nil, List.map_cons, List.map_nil, List.set_cons_zero, List.set_cons_succ, List.cons_append, List.nil_append, encTag, encObj, encStr, encEdit, encInt]; rfl) rfl) (Fin.wk (r := av (encObj ⟨id, 1, 0, 0, [], [⟨sName, v⟩]⟩)) (by simp [encObj]) trivial trivial) ?_
    exact ⟨rfl, rfl⟩
  · have hv : v = sNil := by
      have h : (!decide (v = sNil)) = false := hc1
      simpa using h
    have e : nodeN id v = ⟨id, 1, 0, 0, [], []⟩ := by rw [nodeN, if_pos hv]
    rw [e]
    refine awp_skip ?_
    refine awp_seq ?_
    refine awp_region ?_
    refine al_d rfl rfl rfl (by exact (by exact opd_loadn_ref rfl Tryz.isAgg30 Tryz.sizeOf30 rfl rfl rfl rfl (by simp only [List.drop_succ_cons, List.drop_zero, List.take_succ_cons, List.take_zero, List.take_nil, List.map_cons, List.map_nil, List.set_cons_zero, List.set_cons_succ, List.cons_append, List.nil_append, encTag, encObj, encStr, encEdit, encInt]; rfl) rfl)) ?_
    refine al_n rfl rfl (by exact (by exact x_store_all rfl Tryz.sizeOf30 rfl rfl rfl rfl rfl rfl rfl rfl)) ?_
    refine al_nil ?_
    refine awp_ret ?_
    -- return
    refine aret1 (H' := []) (by exact .inr rfl) rfl (rval_cell rfl Tryz.isAgg30 Tryz.sizeOf30 rfl rfl rfl (by simp only [List.drop_succ_cons, List.drop_zero, List.take_succ_cons, List.take_zero, List.take_nil, List.map_cons, List.map_nil, List.set_cons_zero, List.set_cons_succ, List.cons_append, List.nil_append, encTag, encObj, encStr, encEdit, encInt]; rfl) rfl) (Fin.wk (r := av (encObj ⟨id, 1, 0, 0, [], []⟩)) (by simp [encObj]) trivial trivial) ?_
    exact ⟨rfl, rfl⟩
theorem blank_c (id : ByteArray) (H : Heap) : ACalls Tryz.prog 57 [sv id] H (fun r H' => r = av (encEdit (blankN id)) ∧ H' = H) := by
  refine ACalls.pure ?_ (by simp) H
  refine ACalls.body Tryz.func57 rfl Tryz.ntmps57 (Nat.le_of_ble_eq_true rfl) ?_
  refine awp_seq ?_
  refine awp_region ?_
  refine al_d rfl rfl rfl (by exact x_alloc (id := 2) rfl zo32 rfl rfl) ?_
  refine al_nil ?_
  refine awp_seq ?_
  refine awp_region ?_
  refine al_d rfl rfl rfl (by exact opd_move rfl rfl) ?_
  refine al_d rfl rfl rfl (by exact x_build rfl bo32 rfl rfl) ?_
  refine al_n rfl rfl (by exact (by exact x_store_all rfl Tryz.sizeOf32 rfl rfl rfl rfl rfl rfl rfl rfl)) ?_
  refine al_nil ?_
  refine awp_ret ?_
  -- return
  refine aret1 (H' := []) (by exact .inr rfl) rfl (rval_cell rfl Tryz.isAgg32 Tryz.sizeOf32 rfl rfl rfl (by simp only [List.drop_succ_cons, List.drop_zero, List.take_succ_cons, List.take_zero, List.take_nil, List.map_cons, List.map_nil, List.set_cons_zero, List.set_cons_succ, List.cons_append, List.nil_append, encTag, encObj, encStr, encEdit, encInt]; rfl) rfl) (Fin.wk (r := av (encEdit (blankN id))) (by simp [encEdit]) trivial trivial) ?_
  exact ⟨rfl, rfl⟩
theorem m5_at {i : Nat} (h : i < 5) : ∃ o, (m5.map encObj)[i]? = some (encObj o) ∧ ids5.take (i + 1) = ids5.take i ++ [o.id] := by
  match i, h with
  | 0, _ => exact ⟨_, rfl, rfl⟩
  | 1, _ => exact ⟨_, rfl, rfl⟩
  | 2, _ => exact ⟨_, rfl, rfl⟩
  | 3, _ => exact ⟨_, rfl, rfl⟩
  | 4, _ => exact ⟨_, rfl, rfl⟩
  | n + 5, h => exact absurd h (by omega)
theorem len15 (l : List GEdit) : ∀ r ∈ l.map encEdit, r.length = 15 := fun r hr => by
  obtain ⟨o, _, rfl⟩ := List.mem_map.1 hr; rfl
theorem len15' (l : List GEdit) : ∀ r ∈ edRows l, r.length = 15 := fun r hr => by
  obtain ⟨o, _, rfl⟩ := List.mem_map.1 hr; rfl
theorem head31_c (H : Heap) : ACalls Tryz.prog 23 [] H (fun r H' => r = bv true ∧ H' = H) := by
  refine ACalls.pure ?_ (by simp) H
  have q1 : ∀ e ∈ dropsN, okE e := okN dropN (fun s h => okE_plain h (show (0 : Nat) < 10 by decide) (show (0 : Nat) < 10 by decide) (show (0 : Nat) < 10 by decide) rfl rfl)
  have q2 : ∀ e ∈ movesN, okE e := okN moveN (fun s h => okE_plain h (show (0 : Nat) < 10 by decide) (show (0 : Nat) < 10 by decide) (show (0 : Nat) < 10 by decide) rfl rfl)
  have q3 : ∀ e ∈ dropsN ++ movesN, okE e := fun e he => by
    rcases List.mem_append.1 he with h | h
    · exact q1 e h
    · exact q2 e h
  have q4 : ∀ e ∈ blanksN, okE e := fun e he => by
    simp only [List.mem_cons, List.not_mem_nil, or_false] at he
    rcases he with rfl | rfl | rfl <;> exact okE_plain (by decide) (by decide) (by decide) (by decide) rfl rfl
  have hml : (m5.map encObj).length = 5 := rfl
  refine ACalls.body Tryz.func23 rfl Tryz.ntmps23 (Nat.le_of_ble_eq_true rfl) ?_
  refine awp_seq ?_
  refine awp_region ?_
  refine al_d rfl rfl rfl (by exact opd_assign rfl rfl) ?_
  refine al_nil ?_
  refine awp_seq ?_
  refine awp_region ?_
  refine al_d rfl rfl rfl (by exact opr_call rfl rfl Tryz.call56 rfl (nodeN_c nA nX _)) ?_
  refine al_d rfl rfl rfl (by exact opr_call rfl rfl Tryz.call56 rfl (nodeN_c nB nX _)) ?_
  refine al_d rfl rfl rfl (by exact opr_call rfl rfl Tryz.call56 rfl (nodeN_c nC nX _)) ?_
  refine al_d rfl rfl rfl (by exact opr_call rfl rfl Tryz.call56 rfl (nodeN_c nD sNil _)) ?_
  refine al_d rfl rfl rfl (by exact opr_call rfl rfl Tryz.call56 rfl (nodeN_c nE sNil _)) ?_
  refine al_d rfl rfl rfl (by exact (by exact x_buildSlice (m5.map encObj) rfl so22 rfl rfl rfl rfl rfl (by intro r hr; obtain ⟨o, _, rfl⟩ := List.mem_map.1 hr; rfl))) ?_
  refine al_d rfl rfl rfl (by exact x_build rfl bo24 rfl rfl) ?_
  refine al_d rfl rfl rfl (by exact x_alloc (id := 1) rfl zo24 rfl rfl) ?_
  refine al_n rfl rfl (by exact (by exact x_store_all rfl Tryz.sizeOf24 rfl rfl rfl rfl rfl rfl rfl rfl)) ?_
  refine al_nil ?_
  refine awp_seq ?_
  refine awp_region ?_
  refine al_d rfl rfl rfl (by exact opd_assign_own (id := 2) (sz := 15) (ty := 32) rfl rfl rfl) ?_
  refine al_d rfl rfl rfl (by exact opd_assign_own (id := 3) (sz := 15) (ty := 32) rfl rfl rfl) ?_
  refine al_nil ?_
  refine awp_seq ?_
  refine awp_seq ?_
  refine awp_region ?_
  refine al_d rfl rfl rfl (by exact opd_assign rfl rfl) ?_
  refine al_nil ?_
  refine awp_block ?_
  -- loop
  refine awp_loop (σ := Nat) (fun i => ([(1, .ref 1 0 0 0), (2, .osl 2 i 0 i), (3, .osl 3 i 0 i), (4, iv (i : Int))],
    [(2, ⟨i, 15, 32, edRows ((ids5.take i).map dropN)⟩), (3, ⟨i, 15, 32, edRows ((ids5.take i).map moveN)⟩), (1, bx 1 24 [.pv (slObjs m5)])])) (fun i => i ≤ 5) (fun i => 5 - i) 0 (by omega) ?_ ?_
  · exact (Ent.wk ⟨⟨_, rfl, rfl⟩, (by (simp; rfl)), ⟨_, rfl, rfl⟩, (by (simp; rfl)), ⟨_, rfl, rfl⟩, (by (simp; rfl)), ⟨_, rfl, rfl⟩, (by (simp; done)), trivial⟩ ⟨⟨_, rfl, rfl⟩, (by (simp; done)), ⟨_, rfl, rfl⟩, (by (simp; done)), ⟨_, rfl, rfl⟩, (by (simp; done)), trivial⟩ trivial)
  · intro i hi
    refine awp_seq ?_
    refine awp_seq ?_
    refine awp_region ?_
    refine al_d rfl rfl rfl (by exact opd_move rfl rfl) ?_
    refine al_d rfl rfl rfl (by exact (by exact opd_field_ref rfl fo24_0 rfl rfl rfl rfl)) ?_
    refine al_d rfl rfl rfl (by exact (by exact opd_load1_ref rfl Tryz.isAgg22 rfl rfl rfl rfl rfl)) ?_
    refine al_d rfl rfl rfl (by exact (by exact opd_len_sl rfl Tryz.underlying22 rfl)) ?_
    refine al_d rfl rfl rfl (by exact opd_lss rfl rfl rfl) ?_
    refine al_nil ?_
    refine awp_cond rfl (fun hc1 => ?_) (fun hc1 => ?_)
    -- cond 1
    · have hlt : i < 5 := by
        have h : decide ((i : Int) < 5) = true := hc1
        simp at h; omega
      obtain ⟨o, hoi, hid⟩ := m5_at hlt
      have hdn : (ids5.take (i + 1)).map dropN = (ids5.take i).map dropN ++ [dropN o.id] := by rw [hid, List.map_append]; rfl
      have hmn : (ids5.take (i + 1)).map moveN = (ids5.take i).map moveN ++ [moveN o.id] := by rw [hid, List.map_append]; rfl
      have htl : (ids5.take i).length = i := by rw [List.length_take]; show min i 5 = i; omega
      refine awp_skip ?_
      refine awp_seq ?_
      refine awp_block ?_
      refine awp_seq ?_
      refine awp_region ?_
      refine al_d rfl rfl rfl (by exact opd_move rfl rfl) ?_
      refine al_d rfl rfl rfl (by exact (by exact opd_field_ref rfl fo24_0 rfl rfl rfl rfl)) ?_
      refine al_d rfl rfl rfl (by exact (by exact opd_load1_ref rfl Tryz.isAgg22 rfl rfl rfl rfl rfl)) ?_
      refine al_d rfl rfl rfl (by exact opd_move rfl rfl) ?_
      refine al_d rfl rfl rfl (by exact (by exact x_index_pad rfl so22 rfl rfl (by omega) (by exact Int.toNat_natCast _) (by assumption) rfl)) ?_
      refine al_d rfl rfl rfl (by exact (by exact opd_field_pad rfl fo30_0 rfl rfl)) ?_
      refine al_d rfl rfl rfl (by exact (by exact opd_load1_pad rfl Tryz.isAgg9 rfl (by omega) rfl)) ?_
      refine al_d rfl rfl rfl (by exact x_build rfl bo32 rfl rfl) ?_
      refine al_d rfl rfl rfl (by exact (by exact x_buildSlice [encEdit (dropN o.id)] rfl so46 rfl rfl rfl rfl rfl (by simp [encEdit]))) ?_
      refine al_d rfl rfl rfl (by exact (by exact x_append rfl so46 ei32 rfl rfl rfl rfl rfl (by rw [List.length_map, List.length_map]; exact htl) rfl (by simp [encEdit]) (rfl : _ = 1) (by omega) (rfl : _ = i + 1) (List.map_append (l₂ := [dropN o.id])).symm)) ?_
      refine al_d rfl rfl rfl (by exact opd_assign rfl rfl) ?_
      refine al_nil ?_
      refine awp_region ?_
      refine al_d rfl rfl rfl (by exact opd_move rfl rfl) ?_
      refine al_d rfl rfl rfl (by exact (by exact opd_field_ref rfl fo24_0 rfl rfl rfl rfl)) ?_
      refine al_d rfl rfl rfl (by exact (by exact opd_load1_ref rfl Tryz.isAgg22 rfl rfl rfl rfl rfl)) ?_
      refine al_d rfl rfl rfl (by exact opd_move rfl rfl) ?_
      refine al_d rfl rfl rfl (by exact (by exact x_index_pad rfl so22 rfl rfl (by omega) (by exact Int.toNat_natCast _) (by assumption) rfl)) ?_
      refine al_d rfl rfl rfl (by exact (by exact opd_field_pad rfl fo30_0 rfl rfl)) ?_
      refine al_d rfl rfl rfl (by exact (by exact opd_load1_pad rfl Tryz.isAgg9 rfl (by omega) rfl)) ?_
      refine al_d rfl rfl rfl (by exact x_build rfl bo32 rfl rfl) ?_
      refine al_d rfl rfl rfl (by exact (by exact x_buildSlice [encEdit (moveN o.id)] rfl so46 rfl rfl rfl rfl rfl (by simp [encEdit]))) ?_
      refine al_d rfl rfl rfl (by exact (by exact x_append rfl so46 ei32 rfl rfl rfl rfl rfl (by rw [List.length_map, List.length_map]; exact htl) rfl (by simp [encEdit]) (rfl : _ = 1) (by omega) (rfl : _ = i + 1) (List.map_append (l₂ := [moveN o.id])).symm)) ?_
      refine al_d rfl rfl rfl (by exact opd_assign rfl rfl) ?_
      refine al_nil ?_
      refine awp_region ?_
      refine al_d rfl rfl rfl (by exact opd_move rfl rfl) ?_
      refine al_d rfl rfl rfl (by exact opd_add rfl rfl rfl (by exact w64 (by omega) (by omega))) ?_
      refine al_d rfl rfl rfl (by exact opd_assign rfl rfl) ?_
      refine al_nil ?_
      -- end of a round
      refine ⟨i + 1, by omega, by omega, ?_⟩
      rw [hdn, hmn]
      exact (Ent.wk ⟨⟨_, rfl, rfl⟩, (by (simp; rfl)), ⟨_, rfl, rfl⟩, (by (simp; rfl)), ⟨_, rfl, rfl⟩, (by (simp; rfl)), ⟨_, rfl, rfl⟩, (by (simp; done)), trivial⟩ ⟨⟨_, rfl, rfl⟩, (by exact clo_map _ _ _), ⟨_, rfl, rfl⟩, (by exact clo_map _ _ _), ⟨_, rfl, rfl⟩, (by (simp; done)), trivial⟩ trivial)
    · have hge : i = 5 := by
        have h : decide ((i : Int) < 5) = false := hc1
        simp at h; omega
      subst hge
      refine awp_exit ?_
      refine awp_seq ?_
      -- before the slot
      refine AWp.ent (Ent.fz (id := 2) (E' := [(1, .ref 1 0 0 0), (2, .pv (slEdits dropsN)), (3, .osl 3 5 0 5)]) (H' := [(3, ⟨5, 15, 32, edRows movesN⟩), (1, bx 1 24 [.pv (slObjs m5)])]) (dropsN.map encEdit) rfl (rows_of encEdit dropsN)
        (by intro p hp; simp only [List.mem_cons, List.not_mem_nil, or_false] at hp; rcases hp with rfl | rfl | rfl; exact ⟨_, rfl, .same (.ref rfl)⟩; exact ⟨_, rfl, .osl rfl⟩; exact ⟨_, rfl, .same (.osl rfl)⟩) rfl ⟨⟨_, rfl, rfl⟩, (by (simp; done)), ⟨_, rfl, rfl⟩, (by (simp; done)), trivial⟩ trivial) ?_
      refine awp_region ?_
      refine al_d rfl rfl rfl (by exact opd_move rfl rfl) ?_
      refine al_d rfl rfl rfl (by exact opd_move rfl rfl) ?_
      refine al_d rfl rfl rfl (by exact (by exact opd_len_sl rfl Tryz.underlying46 rfl)) ?_
      refine al_d rfl rfl rfl (by exact opd_move rfl rfl) ?_
      refine al_d rfl rfl rfl (by exact (by exact opd_len_sl rfl Tryz.underlying46 rfl)) ?_
      refine al_d rfl rfl rfl (by exact x_slice_full rfl so46 rfl (len15 dropsN) (by simp [ids5]) rfl rfl rfl) ?_
      refine al_d rfl rfl rfl (by exact opd_move rfl rfl) ?_
      refine al_d rfl rfl rfl (by exact x_append_full (id := 50) (rows' := edRows (dropsN ++ movesN)) rfl so46 ei32 rfl (by simp [ids5]) (len15 dropsN) rfl rfl rfl rfl rfl rfl (len15' movesN) (by decide) (by decide) (by decide) (rfl : _ = 10) (by rfl)) ?_
      refine al_d rfl rfl rfl (by exact opd_assign rfl rfl) ?_
      refine al_nil ?_
      refine awp_seq ?_
      refine awp_region ?_
      refine al_d rfl rfl rfl (by exact opd_assign rfl rfl) ?_
      refine al_nil ?_
      refine awp_seq ?_
      refine awp_region ?_
      refine al_d rfl rfl rfl (by exact (by exact opd_loadn_ref rfl Tryz.isAgg24 Tryz.sizeOf24 rfl rfl rfl rfl (by simp only [List.drop_succ_cons, List.drop_zero, List.take_succ_cons, List.take_zero, List.take_nil, List.map_cons, List.map_nil, List.set_cons_zero, List.set_cons_succ, List.cons_append, List.nil_append, encTag, encObj, encStr, encEdit, encInt]; rfl) rfl)) ?_
      refine al_d rfl rfl rfl (by exact opd_move rfl rfl) ?_
      refine al_d rfl rfl rfl (by exact opr_call rfl rfl Tryz.call28 rfl (find_v fnd1 _ ok5 (by decide) q1)) ?_
      refine al_d rfl rfl rfl (by exact x_alloc (id := 6) rfl zo63 rfl rfl) ?_
      refine al_n rfl rfl (by exact (by exact x_store_all rfl Tryz.sizeOf63 rfl rfl rfl rfl rfl rfl rfl rfl)) ?_
      refine al_nil ?_
      refine awp_seq ?_
      -- before the slot
      refine AWp.ent (Ent.fz (id := 50) (E' := [(1, .ref 1 0 0 0), (3, .pv (slEdits (dropsN ++ movesN))), (5, .pv (.fn 57)), (6, .ref 6 0 0 0)]) (H' := [(6, bx 2 63 [iv 1, .pv (slInts [0, 1, 2, 3, 4])]), (1, bx 1 24 [.pv (slObjs m5)])]) ((dropsN ++ movesN).map encEdit) rfl (rows_of encEdit _)
        (by intro p hp; simp only [List.mem_cons, List.not_mem_nil, or_false] at hp; rcases hp with rfl | rfl | rfl | rfl; exact ⟨_, rfl, .same (.ref rfl)⟩; exact ⟨_, rfl, .osl rfl⟩; exact ⟨_, rfl, .same (by simp)⟩; exact ⟨_, rfl, .same (.ref rfl)⟩) rfl ⟨⟨_, rfl, rfl⟩, (by (simp; done)), ⟨_, rfl, rfl⟩, (by (simp; done)), trivial⟩ trivial) ?_
      refine awp_region ?_
      refine al_d rfl rfl rfl (by exact (by exact opd_loadn_ref rfl Tryz.isAgg24 Tryz.sizeOf24 rfl rfl rfl rfl (by simp only [List.drop_succ_cons, List.drop_zero, List.take_succ_cons, List.take_zero, List.take_nil, List.map_cons, List.map_nil, List.set_cons_zero, List.set_cons_succ, List.cons_append, List.nil_append, encTag, encObj, encStr, encEdit, encInt]; rfl) rfl)) ?_
      refine al_d rfl rfl rfl (by exact opd_move rfl rfl) ?_
      refine al_d rfl rfl rfl (by exact opr_call rfl rfl Tryz.call28 rfl (find_v fnd2 _ ok5 (by decide) q3)) ?_
      refine al_d rfl rfl rfl (by exact x_alloc (id := 7) rfl zo63 rfl rfl) ?_
      refine al_n rfl rfl (by exact (by exact x_store_all rfl Tryz.sizeOf63 rfl rfl rfl rfl rfl rfl rfl rfl)) ?_
      refine al_nil ?_
      refine awp_seq ?_
      refine awp_drawc follows ?_
      refine dc_cons (r := ⟨_, some [1], []⟩) (DStep.plain rfl (fun H1 hH => by exact (by exact opd_loadn_ref rfl Tryz.isAgg24 Tryz.sizeOf24 rfl ((hH _ rfl).trans rfl) rfl rfl (by simp only [List.drop_succ_cons, List.drop_zero, List.take_succ_cons, List.take_zero, List.take_nil, List.map_cons, List.map_nil, List.set_cons_zero, List.set_cons_succ, List.cons_append, List.nil_append, encTag, encObj, encStr, encEdit, encInt]; rfl) rfl))) rfl ?_
      refine dc_cons (r := ⟨_, some [], []⟩) (DStep.plain rfl (fun H1 hH => by exact opd_move rfl rfl)) rfl ?_
      refine dc_cons (r := ⟨_, some [], []⟩) (DStep.plain rfl (fun H1 hH => by exact opr_callV rfl rfl rfl (CallsV.fn Tryz.call57 (blank_c nC _)))) rfl ?_
      refine dc_cons (r := ⟨_, some [], []⟩) (DStep.plain rfl (fun H1 hH => by exact opd_move rfl rfl)) rfl ?_
      refine dc_cons (r := ⟨_, some [], []⟩) (DStep.plain rfl (fun H1 hH => by exact opr_callV rfl rfl rfl (CallsV.fn Tryz.call57 (blank_c nA _)))) rfl ?_
      refine dc_cons (r := ⟨_, some [], []⟩) (DStep.plain rfl (fun H1 hH => by exact opd_move rfl rfl)) rfl ?_
      refine dc_cons (r := ⟨_, some [], []⟩) (DStep.plain rfl (fun H1 hH => by exact opr_callV rfl rfl rfl (CallsV.fn Tryz.call57 (blank_c nB _)))) rfl ?_
      refine dc_cons (r := ⟨_, some [], []⟩) (DStep.plain rfl (fun H1 hH => by exact (by exact x_buildSlice (blanksN.map encEdit) rfl so46 rfl rfl rfl rfl rfl (len15 blanksN)))) rfl ?_
      refine dc_cons (r := ⟨_, some [], []⟩) (DStep.plain rfl (fun H1 hH => by exact opr_call rfl rfl Tryz.call28 rfl (find_v fnd3 _ ok5 (by decide) q4))) rfl ?_
      refine dc_cons (r := ⟨_, some [8], [_]⟩) (DStep.plain rfl (fun H1 hH => by exact x_alloc (id := 8) rfl zo63 rfl ((hH _ rfl).trans rfl))) rfl ?_
      refine dc_cons (r := ⟨_, some [8], [_]⟩) (DStep.plain rfl (fun H1 hH => by exact (by exact x_store_all rfl Tryz.sizeOf63 rfl rfl rfl rfl ((hH _ rfl).trans rfl) rfl rfl rfl))) rfl ?_
      refine dc_nil ⟨by kernel_rfl, ?_⟩
      refine awp_seq ?_
      refine awp_region ?_
      refine al_d rfl rfl rfl (by exact (by exact opd_loadn_ref rfl Tryz.isAgg63 Tryz.sizeOf63 rfl rfl rfl rfl (by simp only [List.drop_succ_cons, List.drop_zero, List.take_succ_cons, List.take_zero, List.take_nil, List.map_cons, List.map_nil, List.set_cons_zero, List.set_cons_succ, List.cons_append, List.nil_append, encTag, encObj, encStr, encEdit, encInt]; rfl) rfl)) ?_
      refine al_d rfl rfl rfl (by exact (by exact x_buildSlice ([0, 1, 2, 3, 4].map encInt) rfl so61 rfl rfl rfl rfl rfl (by simp [encInt]))) ?_
      refine al_d rfl rfl rfl (by exact x_build rfl bo63 rfl rfl) ?_
      refine al_d rfl rfl rfl (by exact opr_call rfl rfl Tryz.call27 rfl (same_v rfl rfl _ (by decide))) ?_
      refine al_d rfl rfl rfl (by exact opd_move rfl rfl) ?_
      refine al_ond rfl rfl rfl (by rfl) rfl rfl (by exact (by exact opd_loadn_ref rfl Tryz.isAgg63 Tryz.sizeOf63 rfl rfl rfl rfl (by simp only [List.drop_succ_cons, List.drop_zero, List.take_succ_cons, List.take_zero, List.take_nil, List.map_cons, List.map_nil, List.set_cons_zero, List.set_cons_succ, List.cons_append, List.nil_append, encTag, encObj, encStr, encEdit, encInt]; rfl) rfl)) ?_
      refine al_ond rfl rfl rfl (by rfl) rfl rfl (by exact x_build rfl bo63 rfl rfl) ?_
      refine al_ond rfl rfl rfl (by rfl) rfl rfl (by exact opr_call rfl rfl Tryz.call27 rfl (same_v rfl rfl _ (by decide))) ?_
      refine al_d rfl rfl rfl (by exact (by exact opd_pick_t rfl rfl rfl)) ?_
      refine al_d rfl rfl rfl (by exact opd_move rfl rfl) ?_
      refine al_ond rfl rfl rfl (by rfl) rfl rfl (by exact (by exact opd_loadn_ref rfl Tryz.isAgg63 Tryz.sizeOf63 rfl rfl rfl rfl (by simp only [List.drop_succ_cons, List.drop_zero, List.take_succ_cons, List.take_zero, List.take_nil, List.map_cons, List.map_nil, List.set_cons_zero, List.set_cons_succ, List.cons_append, List.nil_append, encTag, encObj, encStr, encEdit, encInt]; rfl) rfl)) ?_
      refine al_ond rfl rfl rfl (by rfl) rfl rfl (by exact (by exact x_buildSlice ([0, 1, 2].map encInt) rfl so61 rfl rfl rfl rfl rfl (by simp [encInt]))) ?_
      refine al_ond rfl rfl rfl (by rfl) rfl rfl (by exact x_build rfl bo63 rfl rfl) ?_
      refine al_ond rfl rfl rfl (by rfl) rfl rfl (by exact opr_call rfl rfl Tryz.call27 rfl (same_v rfl rfl _ (by decide))) ?_
      refine al_d rfl rfl rfl (by exact (by exact opd_pick_t rfl rfl rfl)) ?_
      refine al_d rfl rfl rfl (by exact opd_assign rfl rfl) ?_
      refine al_nil ?_
      refine awp_ret ?_
      -- return
      refine aret1 (H' := []) (by exact .inr rfl) rfl (rval_tmp rfl) (Fin.wk (by simp) trivial trivial) ?_
      exact ⟨rfl, rfl⟩
end Go.Proofs.YtdcifaldfmpapaaGreat
end
section
set_option linter.unusedVariables false
set_option linter.unusedSimpArgs false
set_option maxRecDepth 100000
namespace Go.Proofs.YtdcifaldfmpapaaGreat
open Go.Abs
theorem fnd_cases (m : List GObj) (l : List GEdit) : gFind m l = (0, []) ∨ (closedB m = true ∧ gChange l = true ∧ ∃ (k : Nat) (e : List Nat), gFind m l = ((k : Int), toI e) ∧ gFind0 m l = (k, e) ∧ Ev m l k e) := by
  unfold gFind
  cases hc : closedB m with
  | false => exact .inl rfl
  | true =>
    cases hg : gChange l with
    | false => exact .inl rfl
    | true =>
      rcases find_sound m l with h | h
      · left; rw [h]; rfl
      · exact .inr ⟨rfl, rfl, _, _, rfl, rfl, h⟩
theorem ev_len {m : List GObj} {l : List GEdit} {k : Nat} {e : List Nat} (h : Ev m l k e) : 3 ≤ l.length ∧ e.length ≤ 5 := by
  have h1 := h.ch.len
  have h2 := nMany_pos k
  refine ⟨?_, by omega⟩
  have hu := h.ch.up
  match e, h1, hu, h.ch.sh with
  | [], h1, _, _ => simp at h1; omega
  | [_], h1, _, _ => simp at h1; omega
  | [_, _], h1, _, _ => simp at h1; omega
  | a :: b :: c :: r, _, hu, hs =>
    obtain ⟨x, hx, _⟩ := hs c (by simp)
    have h3 := (List.getElem?_eq_some_iff.1 hx).1
    rw [List.pairwise_cons, List.pairwise_cons] at hu
    have h4 := hu.1 b (by simp)
    have h5 := hu.2.1 c (by simp)
    omega
def okEv (m : List GObj) (l : List GEdit) : Prop := okM m ∧ m.length < 1099511627776 ∧ l.length < 1099511627776 ∧ (∀ e ∈ l, okE e)
theorem okEv_few {m : List GObj} {l : List GEdit} (h : okEv m l) (H : Heap) : ACalls Tryz.prog 24 [.agg [.pv (slObjs m)], .pv (slEdits l)] H (fun r H' => r = bv (gFew31 m l) ∧ H' = H) :=
  few31_c m l H h.1.1 (fun o ho => ⟨(h.1.2 o ho).2.2.1, (h.1.2 o ho).2.1.1⟩) (by have := h.2.2.1; omega) (fun e hel => ⟨(h.2.2.2 e hel).2.1.1, (h.2.2.2 e hel).2.2.2.2.1, (h.2.2.2 e hel).2.2.2.1.1⟩)
end Go.Proofs.YtdcifaldfmpapaaGreat
end
section
set_option linter.unusedVariables false
set_option linter.unusedSimpArgs false
namespace Go.Proofs.YtdcifaldfmpapaaGreat
open Go.Abs
theorem okE_sz {B : Nat} {e : GEdit} (hB : B < 4611686018427387904) (h : szEdit B e) : okE e :=
  ⟨⟨by have := h.2.1; omega, by have := h.2.2.1; omega, by have := h.2.2.2.1; omega, by have := h.2.2.2.2.2.2.1; omega⟩,
    ⟨by have := h.2.2.2.2.2.2.2.2.1.1; omega, fun s hs => by have := h.2.2.2.2.2.2.2.2.1.2 s hs; omega⟩, okO_of hB h.2.2.2.2.2.2.2.2.2⟩
theorem okEv_of {m : List GObj} {l : List GEdit} (hm : szMap 1048576 m) (hl : szEdits 1048576 l) : okEv m l :=
  ⟨okM_of (by decide) hm, by have := hm.1; omega, by have := hl.1; omega, fun e he => okE_sz (by decide) (hl.2 e he)⟩
end Go.Proofs.YtdcifaldfmpapaaGreat
end
section
set_option linter.unusedVariables false
set_option linter.unusedSimpArgs false
namespace Go.Abs

section
variable {P : Program} {G0 : Heap} {N : Nat} {Q : Exit → Env → Heap → Prop} {E : Env} {H : Heap} {code : Code}
end

section
variable {P : Program} {N : Nat} {o : Oper} {E : Env} {H : Heap} {T : TypeId} {x y : Operand}
/-- A slice of which the first rows are read. -/
def SrcN (w : World) (I : Nat → Prop) (ι : Plc) (H : Heap) (sz : Nat) (v : Value) (len : Nat) (rows : List (List AV)) : Prop :=
  (∃ a c news, v = .slice (some a) len c ∧ rows.length ≤ len ∧ news.length = rows.length * sz ∧ (∀ j u, news[j]? = some u → w.cell? (a.add j) = some u) ∧ (∀ u ∈ news, u.oneCell' = true) ∧ LRel w I ι H sz news rows) ∨
  (v = .slice none 0 0 ∧ len = 0 ∧ rows = [])

end
end Go.Abs
end
section
set_option linter.unusedVariables false
set_option linter.unusedSimpArgs false
namespace Go.Abs
section
variable {P : Program} {N : Nat} {o : Oper} {E : Env} {H : Heap} {T : TypeId} {x y : Operand}

/-- An entry of the model that looks at what its arguments lead to. -/
def ExtRR (P : Program) (e : Array Value → Sem Value) (H : Heap) (vs : List AV) (r : AV) : Prop :=
  ∀ (w : World) (I : Nat → Prop) (ι : Plc) (cs : Array Value), Rel I ι H w → cs.size = vs.length → (∀ (i : Nat) (v : Value) (a : AV), cs[i]? = some v → vs[i]? = some a → VRel w I ι H v a) → ∃ c, (e cs).run P w = .ok c w ∧ VRel w I ι H c r
end
end Go.Abs
end
section
set_option linter.unusedVariables false
set_option linter.unusedSimpArgs false
namespace Go.Abs
section
variable {P : Program}
def gone (ob : Ob) : Ob := ⟨ob.g + 1, ob.sz, ob.ty, []⟩
def away (ι : Plc) (id : Nat) : Plc := fun x => if x = id then none else ι x
end
end Go.Abs
end
section
set_option linter.unusedVariables false
set_option linter.unusedSimpArgs false
namespace Go.Abs
section
variable {P : Program} {N : Nat} {o : Oper} {E : Env} {H : Heap} {T t t' : TypeId} {x y : Operand}
/-! ### where a copy comes from, and where it goes -/
def SrcOk (E : Env) (H : Heap) (sz : Nat) (y : Operand) (len : Nat) (rows : List (List AV)) : Prop :=
  ∀ (a : Act) (w : World) (I : Nat → Prop) (ι : Plc), Rel I ι H w → ERel w I ι H E a → SrcN w I ι H sz (a.eval y) len rows
def DstOk (E : Env) (H : Heap) (x : Operand) (id g off len : Nat) : Prop :=
  ∀ (a : Act) (w : World) (I : Nat → Prop) (ι : Plc), Rel I ι H w → ERel w I ι H E a → ∃ c, VRel w I ι H (a.eval x) (.osc id g off len c)
end

/-! ### the end of an owned slice -/
def goneK (ob : Ob) (k : Nat) : Ob := ⟨k, ob.sz, ob.ty, []⟩
end Go.Abs
end
section
set_option linter.unusedVariables false
set_option linter.unusedSimpArgs false
set_option maxRecDepth 100000
namespace Go.Proofs.YtdcifaldfmpapaaGreat
open Go.Abs
/-- Go's strings.Compare. -/
def gCmp (a b : ByteArray) : Int := if slt a b then -1 else if slt b a then 1 else 0
/-- Where a key stands, or would stand. -/
def lbI {α : Type} (f : α → ByteArray) (l : List α) (s : ByteArray) : Nat := l.findIdx (fun o => !slt (f o) s)
def hasK {α : Type} (f : α → ByteArray) (l : List α) (s : ByteArray) : Bool := l.any (fun o => decide (f o = s))
def asc {α : Type} (f : α → ByteArray) (l : List α) : Prop := l.Pairwise (fun a b => slt (f a) (f b) = true)
theorem asc_get {α : Type} {f : α → ByteArray} {l : List α} (h : asc f l) {i j : Nat} {a b : α} (hij : i < j) (ha : l[i]? = some a) (hb : l[j]? = some b) : slt (f a) (f b) = true := by
  obtain ⟨i1, i2⟩ := List.getElem?_eq_some_iff.1 ha
  obtain ⟨j1, j2⟩ := List.getElem?_eq_some_iff.1 hb
  have := List.pairwise_iff_getElem.1 h i j i1 j1 hij
  rwa [i2, j2] at this
end Go.Proofs.YtdcifaldfmpapaaGreat
end
section
set_option linter.unusedVariables false
set_option linter.unusedSimpArgs false
set_option maxRecDepth 100000
namespace Go.Proofs.YtdcifaldfmpapaaGreat
open Go.Abs
abbrev pvR (ps : List (List PV)) : List (List AV) := ps.map (·.map .pv)
end Go.Proofs.YtdcifaldfmpapaaGreat
end
section
set_option linter.unusedVariables false
set_option linter.unusedSimpArgs false
set_option maxRecDepth 100000
namespace Go.Proofs.YtdcifaldfmpapaaGreat
open Go.Abs

def ascT (l : List GTag) : Prop := asc GTag.key l
/-- Tags with another value of a key. -/
def gSet (l : List GTag) (key val : ByteArray) : List GTag × Int :=
  if !gTags l || !gName key || decide (200 < (val.size : Int)) then ([], 1)
  else if hasK GTag.key l key then (if val = sNil then (l.take (lbI GTag.key l key) ++ l.drop (lbI GTag.key l key + 1), 0) else (l.set (lbI GTag.key l key) ⟨key, val⟩, 0))
  else if val = sNil then (l, 0)
  else if l.length = 60 then ([], 2)
  else (l.take (lbI GTag.key l key) ++ ⟨key, val⟩ :: l.drop (lbI GTag.key l key), 0)
end Go.Proofs.YtdcifaldfmpapaaGreat
end
section
set_option linter.unusedVariables false
set_option linter.unusedSimpArgs false
set_option maxRecDepth 100000
namespace Go.Proofs.YtdcifaldfmpapaaGreat
open Go.Abs

def encMap (m : List GObj) : List PV := [slObjs m]
/-- A map with an object in it. -/
def gWith (m : List GObj) (o : GObj) : List GObj := if hasK GObj.id m o.id then m.set (lbI GObj.id m o.id) o else m.take (lbI GObj.id m o.id) ++ o :: m.drop (lbI GObj.id m o.id)
def gPutM (m : List GObj) (o : GObj) : List GObj × Int :=
  if !gMap m || !gObj o then ([], 1) else if !hasK GObj.id m o.id && decide (m.length = 1000000) then ([], 2) else (gWith m o, 0)
end Go.Proofs.YtdcifaldfmpapaaGreat
end
section
set_option linter.unusedVariables false
set_option linter.unusedSimpArgs false
set_option maxRecDepth 100000
namespace Go.Proofs.YtdcifaldfmpapaaGreat
open Go.Abs
/-- The index of a node inside of a list, once. -/
def gInner (l : List ByteArray) (node : ByteArray) : Int := if decide (gidx (fun x => decide (node = x)) l ≤ 0) || decide (gidx (fun x => decide (node = x)) l = (l.length : Int) - 1) || inB (l.drop ((gidx (fun x => decide (node = x)) l).toNat + 1)) node then -1 else gidx (fun x => decide (node = x)) l
end Go.Proofs.YtdcifaldfmpapaaGreat
end
section
set_option linter.unusedVariables false
set_option linter.unusedSimpArgs false
set_option maxRecDepth 100000
namespace Go.Proofs.YtdcifaldfmpapaaGreat
open Go.Abs

/-- Whether an object refers to one of some. -/
def refsTo (routes : Bool) (ids : List ByteArray) (o : GObj) : Bool := (!routes || decide (4 ≤ o.kind)) && o.refs.any (fun r => inB ids r)
def gRefd (m : List GObj) (routes : Bool) (ids : List ByteArray) : Bool := m.any (refsTo routes ids)
end Go.Proofs.YtdcifaldfmpapaaGreat
end
section
set_option linter.unusedVariables false
set_option linter.unusedSimpArgs false
set_option maxRecDepth 100000
namespace Go.Proofs.YtdcifaldfmpapaaGreat
open Go.Abs

/-- The one object in front is what is returned, for good; nothing else is left. -/
theorem Fin.slice0 {H1 : Heap} {id g n : Nat} {ob : Ob} (ps : List (List PV)) (hH : H1.get id = some ob) (hg : ob.g = g) (hps : ob.rows = ps.map (·.map .pv)) (hn : ps.length = n) :
    Fin [] H1 (.osl id g 0 n) [] (.pv (.sl ps)) := by
  subst hg hn
  exact Fin.fz (id := id) (ob := ob) ps hH hps (.osl (by rw [Nat.zero_add, List.drop_zero, List.take_length])) rfl trivial trivial
end Go.Proofs.YtdcifaldfmpapaaGreat
end
section
set_option linter.unusedVariables false
set_option linter.unusedSimpArgs false
set_option maxRecDepth 100000
namespace Go.Proofs.YtdcifaldfmpapaaGreat
open Go.Abs

def gDropM (m : List GObj) (id : ByteArray) : List GObj × Int :=
  if !gMap m then ([], 1) else if !hasK GObj.id m id then ([], 11) else (m.take (lbI GObj.id m id) ++ m.drop (lbI GObj.id m id + 1), 0)
/-- What an edit leads to: objects to put, an Id to drop, an error. -/
structure GRes where
  put : List GObj
  drop : ByteArray
  err : Int
def encRes (r : GRes) : List PV := [slObjs r.put, .str r.drop, .int .i64 r.err]
def errR (n : Int) : GRes := ⟨[], sNil, n⟩
def gSplit (m : List GObj) (e : GEdit) (o : GObj) : GRes :=
  if (kindOf m e.other).isSome then errR 9
  else if decide (gInner o.refs e.node < 0) then errR 12
  else if gRefd m true [e.id] then errR 14
  else ⟨[⟨o.id, o.kind, o.x, o.y, o.refs.take ((gInner o.refs e.node).toNat + 1), o.tags⟩, ⟨e.other, 2, 0, 0, o.refs.drop (gInner o.refs e.node).toNat, o.tags⟩], sNil, 0⟩
end Go.Proofs.YtdcifaldfmpapaaGreat
end
section
set_option linter.unusedVariables false
set_option linter.unusedSimpArgs false
set_option maxRecDepth 100000
namespace Go.Proofs.YtdcifaldfmpapaaGreat
open Go.Abs

def atS (l : List ByteArray) (k : Nat) : ByteArray := (l[k]?).getD sNil
def gJoin (m : List GObj) (e : GEdit) (o x : GObj) : GRes :=
  if !decide (x.kind = 2) then errR 13
  else if decide (e.id = e.other) || !decide (atS o.refs (o.refs.length - 1) = atS x.refs 0) then errR 12
  else if gRefd m true [e.id, e.other] then errR 14
  else if decide (2000 < o.refs.length + x.refs.length - 1) then errR 2
  else ⟨[⟨o.id, o.kind, o.x, o.y, [o.refs, x.refs.drop 1].flatten, o.tags⟩], e.other, 0⟩
end Go.Proofs.YtdcifaldfmpapaaGreat
end
section
set_option linter.unusedVariables false
set_option linter.unusedSimpArgs false
set_option maxRecDepth 100000
namespace Go.Proofs.YtdcifaldfmpapaaGreat
open Go.Abs

section
variable {N : Nat} {o : Oper} {E : Env} {H : Heap} {x y : Operand}
end
def fitsB (op kind : Int) : Bool := if op = 2 then decide (kind = 1) else if op = 4 then (decide (kind = 2) || (decide (kind = 3) || decide (kind = 4))) else if op = 6 || op = 7 then decide (kind = 2) else true
def gPerform (m : List GObj) (e : GEdit) : GRes :=
  if e.op = 1 then (if (kindOf m e.obj.id).isSome then errR 9 else ⟨[e.obj], sNil, refErr m e.obj.kind 0 e.obj.refs⟩)
  else match m.find? (idIs e.id) with
  | none => errR 11
  | some o =>
    if decide (e.op = 7) && (m.find? (idIs e.other)).isNone then errR 11
    else if !fitsB e.op o.kind then errR 13
    else if e.op = 2 then ⟨[⟨o.id, o.kind, e.x, e.y, o.refs, o.tags⟩], sNil, 0⟩
    else if e.op = 3 then (if !decide ((gSet o.tags e.key e.val).2 = 0) then errR (gSet o.tags e.key e.val).2 else ⟨[⟨o.id, o.kind, o.x, o.y, o.refs, (gSet o.tags e.key e.val).1⟩], sNil, 0⟩)
    else if e.op = 4 then (if !gObj ⟨o.id, o.kind, o.x, o.y, e.refs, o.tags⟩ then errR 1 else ⟨[⟨o.id, o.kind, o.x, o.y, e.refs, o.tags⟩], sNil, refErr m o.kind 0 e.refs⟩)
    else if e.op = 5 then (if gRefd m false [e.id] then errR 14 else ⟨[], e.id, 0⟩)
    else if e.op = 6 then gSplit m e o
    else gJoin m e o ((m.find? (idIs e.other)).getD zObj)
end Go.Proofs.YtdcifaldfmpapaaGreat
end
section
set_option linter.unusedVariables false
set_option linter.unusedSimpArgs false
set_option maxRecDepth 100000
namespace Go.Proofs.YtdcifaldfmpapaaGreat
open Go.Abs
theorem gEditV_iff {e : GEdit} : gEditV e = true ↔ (1 ≤ e.op ∧ e.op ≤ 7) ∧ okOf e = true ∧ xOf e = e := by
  rw [gEditV, Bool.and_eq_true, Bool.and_eq_true, Bool.and_eq_true, decide_eq_true_eq, decide_eq_true_eq, gSameE_iff]
/-- The objects of a list put into a map, one after the other. -/
def putAll : List GObj → List GObj → List GObj × Int
  | m, [] => (m, 0)
  | m, o :: r => if !decide ((gPutM m o).2 = 0) then ([], (gPutM m o).2) else putAll (gPutM m o).1 r
def gAfter (m : List GObj) (e : GEdit) : List GObj × Int :=
  if !gEditV e then ([], 1)
  else if !decide ((gPerform m e).err = 0) then ([], (gPerform m e).err)
  else if !decide ((putAll m (gPerform m e).put).2 = 0) then putAll m (gPerform m e).put
  else if !decide ((gPerform m e).drop = sNil) then gDropM (putAll m (gPerform m e).put).1 (gPerform m e).drop
  else ((putAll m (gPerform m e).put).1, 0)
end Go.Proofs.YtdcifaldfmpapaaGreat
end
section
set_option linter.unusedVariables false
set_option linter.unusedSimpArgs false
set_option maxRecDepth 100000
namespace Go.Proofs.YtdcifaldfmpapaaGreat
open Go.Abs

def gApply (m : List GObj) (e : GEdit) : List GObj × Int := if closedB m then gAfter m e else ([], 1)
theorem closed_gMap {m : List GObj} (h : closedB m = true) : gMap m = true := by
  rw [closedB, Bool.and_eq_true] at h
  exact h.1
end Go.Proofs.YtdcifaldfmpapaaGreat
end
section
set_option linter.unusedVariables false
set_option linter.unusedSimpArgs false
set_option maxRecDepth 100000
namespace Go.Proofs.YtdcifaldfmpapaaGreat
open Go.Abs
abbrev look (m : List GObj) (s : ByteArray) : Option GObj := m.find? (idIs s)
theorem look_id {m : List GObj} {s : ByteArray} {o : GObj} (h : look m s = some o) : o.id = s := of_decide_eq_true (show idIs s o = true from List.find?_some h)
theorem look_mem {m : List GObj} {s : ByteArray} {o : GObj} (h : look m s = some o) : o ∈ m := List.mem_of_find?_eq_some h
theorem mem_look {m : List GObj} {o : GObj} (hu : ups m) (h : o ∈ m) : look m o.id = some o := by
  cases hf : look m o.id with
  | none =>
    have := List.find?_eq_none.1 hf o h
    exact absurd (show idIs o.id o = true from decide_eq_true rfl) this
  | some x =>
    have hx := look_id hf
    obtain ⟨i, hi⟩ := List.mem_iff_getElem?.1 h
    obtain ⟨j, hj⟩ := List.mem_iff_getElem?.1 (look_mem hf)
    rcases Nat.lt_trichotomy i j with h1 | h1 | h1
    · have := asc_get (f := GObj.id) hu h1 hi hj
      rw [hx, slt_irr] at this; cases this
    · subst h1; rw [hi] at hj; cases hj; rfl
    · have := asc_get (f := GObj.id) hu h1 hj hi
      rw [hx, slt_irr] at this; cases this
theorem look_none {m : List GObj} {s : ByteArray} : look m s = none ↔ ∀ o, o ∈ m → o.id ≠ s := by
  rw [look, List.find?_eq_none]
  constructor
  · intro h o ho e
    exact h o ho (decide_eq_true e)
  · intro h o ho e
    exact h o ho (of_decide_eq_true e)
theorem look_of_mem {m : List GObj} {s : ByteArray} {o : GObj} (hu : ups m) (ho : o ∈ m) (hs : o.id = s) : look m s = some o := by subst hs; exact mem_look hu ho
def gWo (m : List GObj) (id : ByteArray) : List GObj := m.take (lbI GObj.id m id) ++ m.drop (lbI GObj.id m id + 1)
theorem ups_sub {m r : List GObj} (h : ups m) (hs : r.Sublist m) : ups r := List.Pairwise.sublist hs h
theorem kindOf_look (m : List GObj) (s : ByteArray) : kindOf m s = (look m s).map GObj.kind := rfl
/-- References that lead to objects of the right kind. -/
def refsOk (m : List GObj) (kind : Int) (refs : List ByteArray) : Prop := ∀ (i : Nat) (s : ByteArray), refs[i]? = some s → kindOf m s = some (gWanted kind (i : Int))
theorem refBad_zero {m : List GObj} {kind : Int} {i : Nat} {s : ByteArray} : refBad m kind i s = 0 ↔ kindOf m s = some (gWanted kind (i : Int)) := by
  unfold refBad
  cases kindOf m s with
  | none => simp
  | some k =>
    simp only [Option.some.injEq]
    by_cases e : k = gWanted kind (i : Int)
    · simp [e]
    · simp [e]
theorem refErr_zero {m : List GObj} {kind : Int} : ∀ (j : Nat) (l : List ByteArray), refErr m kind j l = 0 ↔ ∀ (i : Nat) (s : ByteArray), l[i]? = some s → kindOf m s = some (gWanted kind ((j + i : Nat) : Int))
  | j, [] => by simp [refErr]
  | j, s :: l => by
    rw [refErr]
    constructor
    · intro h
      split at h
      · next h0 =>
        intro i x hx
        cases i with
        | zero =>
          rw [List.getElem?_cons_zero] at hx; cases hx
          exact refBad_zero.1 h0
        | succ i =>
          rw [List.getElem?_cons_succ] at hx
          have := (refErr_zero (j + 1) l).1 h i x hx
          rw [show j + (i + 1) = j + 1 + i by omega]
          exact this
      · next h0 => exact absurd h h0
    · intro h
      have h0 := refBad_zero.2 (h 0 s rfl)
      rw [Nat.add_zero] at h0
      rw [if_pos h0]
      refine (refErr_zero (j + 1) l).2 fun i x hx => ?_
      have := h (i + 1) x (by rw [List.getElem?_cons_succ]; exact hx)
      rw [show j + 1 + i = j + (i + 1) by omega]
      exact this
theorem refErr_ok {m : List GObj} {kind : Int} {l : List ByteArray} : refErr m kind 0 l = 0 ↔ refsOk m kind l := by
  rw [refErr_zero]
  simp only [refsOk, Nat.zero_add]
theorem closed_iff {m : List GObj} : closedB m = true ↔ gMap m = true ∧ ∀ o, o ∈ m → refsOk m o.kind o.refs := by
  rw [closedB, Bool.and_eq_true, List.all_eq_true]
  constructor
  · rintro ⟨h1, h2⟩
    exact ⟨h1, fun o ho => refErr_ok.1 (of_decide_eq_true (h2 o ho))⟩
  · rintro ⟨h1, h2⟩
    exact ⟨h1, fun o ho => decide_eq_true (refErr_ok.2 (h2 o ho))⟩
end Go.Proofs.YtdcifaldfmpapaaGreat
end
section
set_option linter.unusedVariables false
set_option linter.unusedSimpArgs false
set_option maxRecDepth 100000
namespace Go.Proofs.YtdcifaldfmpapaaGreat
open Go.Abs
/-- The map behind objects that are put and an Id that is dropped. -/
def gTo (m : List GObj) (put : List GObj) (drop : ByteArray) : List GObj := if drop = sNil then put.foldl gWith m else gWo (put.foldl gWith m) drop
theorem gWanted_low {kind i : Int} (h : kind ≤ 3) : gWanted kind i = 1 := by
  rw [gWanted, if_neg]
  simp only [Bool.or_eq_true, Bool.and_eq_true, decide_eq_true_eq]
  omega
/-- What a possible edit leads to, by operations. -/
inductive Eff (m : List GObj) (e : GEdit) : List GObj → Prop
  | put (ho : e.op = 1) (hn : look m e.obj.id = none) (hr : refsOk m e.obj.kind e.obj.refs) (hg : gObj e.obj = true) (hm : gMap (gWith m e.obj) = true) : Eff m e (gWith m e.obj)
  | move (o : GObj) (ho : e.op = 2) (hl : look m e.id = some o) (hk : o.kind = 1) (hg : gObj ⟨o.id, o.kind, e.x, e.y, o.refs, o.tags⟩ = true) (hm : gMap (gWith m ⟨o.id, o.kind, e.x, e.y, o.refs, o.tags⟩) = true) : Eff m e (gWith m ⟨o.id, o.kind, e.x, e.y, o.refs, o.tags⟩)
  | tag (o : GObj) (ho : e.op = 3) (hl : look m e.id = some o) (hs : (gSet o.tags e.key e.val).2 = 0) (hg : gObj ⟨o.id, o.kind, o.x, o.y, o.refs, (gSet o.tags e.key e.val).1⟩ = true) (hm : gMap (gWith m ⟨o.id, o.kind, o.x, o.y, o.refs, (gSet o.tags e.key e.val).1⟩) = true) : Eff m e (gWith m ⟨o.id, o.kind, o.x, o.y, o.refs, (gSet o.tags e.key e.val).1⟩)
  | refs (o : GObj) (ho : e.op = 4) (hl : look m e.id = some o) (hk : o.kind = 2 ∨ o.kind = 3 ∨ o.kind = 4) (hr : refsOk m o.kind e.refs) (hg : gObj ⟨o.id, o.kind, o.x, o.y, e.refs, o.tags⟩ = true) (hm : gMap (gWith m ⟨o.id, o.kind, o.x, o.y, e.refs, o.tags⟩) = true) : Eff m e (gWith m ⟨o.id, o.kind, o.x, o.y, e.refs, o.tags⟩)
  | drop (o : GObj) (ho : e.op = 5) (hl : look m e.id = some o) (hr : gRefd m false [e.id] = false) : Eff m e (gWo m e.id)
  | split (o : GObj) (k : Nat) (ho : e.op = 6) (hl : look m e.id = some o) (hk : o.kind = 2) (hn : look m e.other = none) (hi : gInner o.refs e.node = (k : Int)) (hr : gRefd m true [e.id] = false)
      (hm : gMap (gWith (gWith m ⟨o.id, o.kind, o.x, o.y, o.refs.take (k + 1), o.tags⟩) ⟨e.other, 2, 0, 0, o.refs.drop k, o.tags⟩) = true) : Eff m e (gWith (gWith m ⟨o.id, o.kind, o.x, o.y, o.refs.take (k + 1), o.tags⟩) ⟨e.other, 2, 0, 0, o.refs.drop k, o.tags⟩)
  | join (o x : GObj) (ho : e.op = 7) (hl : look m e.id = some o) (hk : o.kind = 2) (hx : look m e.other = some x) (hk2 : x.kind = 2) (hne : e.id ≠ e.other) (he : atS o.refs (o.refs.length - 1) = atS x.refs 0) (hr : gRefd m true [e.id, e.other] = false)
      (hlen : o.refs.length + x.refs.length - 1 ≤ 2000) (hm : gMap (gWith m ⟨o.id, o.kind, o.x, o.y, o.refs ++ x.refs.drop 1, o.tags⟩) = true) : Eff m e (gWo (gWith m ⟨o.id, o.kind, o.x, o.y, o.refs ++ x.refs.drop 1, o.tags⟩) e.other)
theorem gObj_kind {o : GObj} (h : gObj o = true) : 1 ≤ o.kind ∧ o.kind ≤ 5 := by
  rw [gObj, Bool.and_eq_true, Bool.not_eq_true', gHead, gHeadN] at h
  have h1 := h.1
  simp only [Bool.or_eq_false_iff, decide_eq_false_iff_not] at h1
  have hw := h1.1.1.1.1
  unfold gWord at hw
  by_cases a : o.kind = 1
  · omega
  · by_cases b : o.kind = 2
    · omega
    · by_cases c : o.kind = 3
      · omega
      · by_cases d : o.kind = 4
        · omega
        · by_cases f : o.kind = 5
          · omega
          · rw [if_neg a, if_neg b, if_neg c, if_neg d, if_neg f] at hw
            exact absurd rfl hw
end Go.Proofs.YtdcifaldfmpapaaGreat
end
section
set_option linter.unusedVariables false
set_option linter.unusedSimpArgs false
set_option maxRecDepth 100000
namespace Go.Proofs.YtdcifaldfmpapaaGreat
open Go.Abs

theorem okM_subl {m r : List GObj} (h : okM m) (hs : r.Sublist m) : okM r := ⟨by have := hs.length_le; have := h.1; omega, fun o ho => h.2 o (hs.subset ho)⟩
def gAllFrom : List GObj → Nat → List GEdit → List GObj × Int × Int
  | m, _, [] => (m, -1, 0)
  | m, i, e :: l => if !decide ((gAfter m e).2 = 0) then ([], (i : Int), (gAfter m e).2) else gAllFrom (gAfter m e).1 (i + 1) l
def gAll (m : List GObj) (l : List GEdit) : List GObj × Int × Int := if closedB m then gAllFrom m 0 l else ([], -1, 1)
end Go.Proofs.YtdcifaldfmpapaaGreat
end
section
set_option linter.unusedVariables false
set_option linter.unusedSimpArgs false
namespace Go.Abs
open Go.Proofs
/-- New blocks behind all others. -/
theorem Rel.grown {I : Nat → Prop} {ι : Plc} {H : Heap} {w : World} (os : Array Obj) (hr : Rel I ι H w) : Rel I ι H (Sort.grow w os) ∧ Step I ι H w I ι H (Sort.grow w os) := by
  have hk : ∀ b, b < w.heap.size → (Sort.grow w os).heap[b]? = w.heap[b]? := fun b hb => by
    show (w.heap ++ os)[b]? = _
    rw [Array.getElem?_append_left hb]
  have hst : Step I ι H w I ι H (Sort.grow w os) := by
    refine ⟨rfl, rfl, rfl, ?_, fun a ha => ?_, fun _ h => h, fun _ h => .inl h, fun _ h => .inl h, fun b hb _ => hk b hb, fun _ o h => ⟨o, h, Nat.le_refl _, fun _ => ⟨rfl, rfl, fun _ => Nat.le_refl _⟩⟩⟩
    · show w.heap.size ≤ (w.heap ++ os).size
      simp
    · unfold World.frozen?
      rw [hk _ ha]
  refine ⟨⟨fun b hb => ?_, fun j o hj => ?_, hr.inj⟩, hst⟩
  · have := hr.imm b hb
    show b < (w.heap ++ os).size
    simp; omega
  · exact (hr.obj j o hj).keep rfl (fun b c _ hb => ⟨hk b hb, fun h => h⟩) (fun r _ a _ v hv => hv.mono hr hst)
def strRows (l : List ByteArray) : List (List AV) := l.map fun s => [.pv (.str s)]
def toU (s : ByteArray) : List UInt8 := s.data.toList
def ofU (l : List UInt8) : ByteArray := ⟨l.toArray⟩
theorem ofU_toU (s : ByteArray) : ofU (toU s) = s := by
  cases s; simp [ofU, toU]
/-- The texts in order. -/
def sortS (l : List ByteArray) : List ByteArray := ((l.map toU).mergeSort fun x y => decide (x ≤ y)).map ofU
theorem sortS_length (l : List ByteArray) : (sortS l).length = l.length := by simp [sortS, List.length_mergeSort]
theorem map_toU (l : List ByteArray) : (l.map toU).map ofU = l := by
  rw [List.map_map]
  conv => rhs; rw [← List.map_id l]
  exact List.map_congr_left fun s _ => ofU_toU s
theorem sortS_perm (l : List ByteArray) : (sortS l).Perm l := by
  have h := (List.mergeSort_perm (l.map toU) (fun x y => decide (x ≤ y))).map ofU
  rw [map_toU] at h
  exact h
theorem heap_putRow {w : World} {b : Nat} {cs : Array Value} {t : TypeId} {f : Nat × Nat} (h : w.heap[b]? = some (.cells cs t f)) (d : Array (List UInt8)) : (Sort.putRow Proofs.encStr w b 0 d) = w.setRow b (Sort.putCells Proofs.encStr 0 d cs) := by
  unfold Sort.putRow Sort.mapBlock World.setRow
  congr 1
  apply Array.ext_getElem?
  intro k
  simp only [Array.getElem?_modify]
  by_cases e : b = k
  · subst e
    simp [h, Sort.onCells]
  · simp [e]
theorem sort_c {P : Program} {ρ : Shelf.Ren} (Ly : SlLaysM.n6 P ρ) (ss : List ByteArray) {id g n ty : Nat} {H : Heap} (hH : H.get id = some ⟨g, 1, ty, strRows ss⟩) (hn : n = ss.length) (hl : ss.length < 4611686018427387904) :
    ACalls P (ρ.f 6) [.osl id g 0 n] H (fun r H' => r = .tup [] ∧ H' = (id, ⟨g, 1, ty, strRows (sortS ss)⟩) :: H) := by
  subst hn
  intro I ι w vs hr hvl hv
  obtain ⟨v, rfl⟩ : ∃ v, vs = #[v] := by
    match vs, hvl with
    | ⟨[v]⟩, _ => exact ⟨v, rfl⟩
  have h1 := hv 0 v _ rfl rfl
  obtain ⟨_, hcase⟩ := osl_slice h1 hH rfl
  have hrowlen : ∀ r ∈ strRows (sortS ss), r.length = 1 := fun r hr => by
    obtain ⟨s, _, rfl⟩ := List.mem_map.1 hr; rfl
  have g1 : Heap.get ((id, ⟨g, 1, ty, strRows (sortS ss)⟩) :: H) id = some ⟨g, 1, ty, strRows (sortS ss)⟩ := by simp [Heap.get, beq_self]
  have g2 : ∀ j, j ≠ id → Heap.get ((id, ⟨g, 1, ty, strRows (sortS ss)⟩) :: H) j = H.get j := fun j hj => by simp [Heap.get, beq_ne (Ne.symm hj)]
  rcases hcase with ⟨b, cap, oo, c1, c2, c3⟩ | ⟨c1, c2, _, c4⟩
  · have hoo : oo = 0 := by rw [c3 (.inr rfl)]; simp
    subst hoo c2
    have hobj := (hr.obj id _ hH).cells (Nat.succ_pos 0)
    obtain ⟨p1, p2, ⟨b', cap', cs, e1, e2, e3, e4, e5, e5', e6⟩ | ⟨e1, _⟩⟩ := hobj
    · rw [c1] at e1; cases e1
      simp only [Nat.mul_one] at e4 e6
      have hlen : (strRows ss).length = ss.length := by simp [strRows]
      simp only [hlen] at e5
      have hcs : ∀ (i : Nat) (s : ByteArray), ss[i]? = some s → cs[i]? = some (.string s) := fun i s hs => by
        obtain ⟨u, q1, q2, q3⟩ := e6 i [.pv (.str s)] (by rw [strRows, List.getElem?_map, hs]; rfl) 0 _ rfl
        rw [q3.str_inv] at q1
        exact q1
      have hholds : Sort.Holds Proofs.encStr w b 0 (ss.map toU).toArray := by
        intro j hj
        simp only [List.size_toArray, List.length_map] at hj
        refine ⟨?_, ?_⟩
        · have := hcs j _ (List.getElem?_eq_getElem hj)
          rw [Nat.zero_add]
          simp only [World.cell?, e2, this]
          congr 1
          rw [getElem!_pos _ _ (by simpa using hj)]
          simp only [List.getElem_toArray, List.getElem_map]
          show some (Value.string ss[j]) = some (Value.string (ofU (toU ss[j])))
          rw [ofU_toU]
        · simp [World.frozen?, e2]
      have hrun := AnyM.slices_Sort_string Ly b 0 (cap - 0) (ss.map toU) w hholds (Array.getElem?_eq_some_iff.1 e2).1 (by rw [List.length_map]; exact hl)
      rw [List.length_map] at hrun
      refine hrun.mono ?_
      rintro e w' ⟨rfl, n, os, rfl⟩
      obtain ⟨k1, k2⟩ := Rel.drawn (w' := Sort.ahead w n) hr rfl rfl rfl rfl
      have e2' : (Sort.ahead w n).heap[b]? = some (.cells cs ty (0, 0)) := e2
      rw [heap_putRow e2']
      obtain ⟨m1, m2⟩ := Rel.update (H' := (id, ⟨g, 1, ty, strRows (sortS ss)⟩) :: H) (ob' := ⟨g, 1, ty, strRows (sortS ss)⟩) (cs' := Sort.putCells Proofs.encStr 0 ((ss.map toU).mergeSort fun x y => decide (x ≤ y)).toArray cs) k1 hH c1 e2' (Nat.le_refl _) rfl rfl
        (fun _ => by simp [strRows, sortS_length]) (by rw [Sort.putCells]; simp; omega) (by simp only [strRows, List.length_map, sortS_length]; omega) hrowlen (fun i r hi k a hk => by
          rw [strRows, List.getElem?_map] at hi
          obtain ⟨s, hs, rfl⟩ := Option.map_eq_some_iff.1 hi
          cases k with
          | succ k => simp at hk
          | zero =>
            cases hk
            have hil := (List.getElem?_eq_some_iff.1 hs).1
            rw [sortS_length] at hil
            have hics : i < cs.size := by omega
            refine ⟨.string s, ?_, rfl, .pv (.str s)⟩
            rw [Nat.mul_one, Nat.add_zero, Sort.putCells, Array.getElem?_mapIdx, Array.getElem?_eq_getElem hics, Option.map_some]
            have hsz : i < ((ss.map toU).mergeSort fun x y => decide (x ≤ y)).length := by rw [List.length_mergeSort, List.length_map]; exact hil
            rw [if_pos ⟨Nat.zero_le _, by simpa using hsz⟩]
            congr 1
            rw [Nat.sub_zero, getElem!_pos _ _ (by simpa using hsz)]
            rw [sortS, List.getElem?_map] at hs
            obtain ⟨u, hu, rfl⟩ := Option.map_eq_some_iff.1 hs
            simp only [List.getElem_toArray]
            rw [(List.getElem?_eq_some_iff.1 hu).2]
            rfl) g1 g2
      obtain ⟨n1, n2⟩ := Rel.grown os m1
      exact ⟨_, _, I, ι, .tuple #[], rfl, ⟨rfl, rfl⟩, .tup rfl (by simp), n1, (k2.trans m2).trans n2⟩
    · rw [c1] at e1; cases e1
  · subst c2
    have h0 : ss = [] := List.eq_nil_of_length_eq_zero c4
    subst h0
    refine (AnyM.slices_Sort_string_none Ly none 0 w).mono ?_
    rintro e w' ⟨rfl, rfl⟩
    have hg : ∀ j, Heap.get ((id, ⟨g, 1, ty, strRows (sortS [])⟩) :: H) j = H.get j := fun j => by
      by_cases e : j = id
      · subst e
        rw [g1, hH, show sortS [] = [] by simp [sortS]]
      · exact g2 j e
    obtain ⟨k1, k2⟩ := hr.congr hg
    exact ⟨_, _, I, ι, .tuple #[], rfl, ⟨rfl, rfl⟩, .tup rfl (by simp), k1, k2⟩
end Go.Abs
end
section
set_option linter.unusedVariables false
set_option linter.unusedSimpArgs false
namespace Go.Proofs
open Go.RowKit Go.Sort Go.Shelf
def Tryz.sortStr_ren : Go.Shelf.Ren := ⟨fun | 6 => 49 | 8 => 97 | 9 => 96 | 19 => 147 | 20 => 148 | 21 => 138 | 22 => 139 | 23 => 140 | 24 => 141 | 25 => 142 | 26 => 143 | 27 => 144 | 28 => 145 | 29 => 146 | 36 => 177 | 31 => 178 | 32 => 179 | 37 => 180 | 38 => 181 | 39 => 182 | 41 => 188 | n => n, fun | 27 => 27 | 29 => 9 | 3 => 3 | 32 => 126 | 26 => 27 | 0 => 0 | 44 => 167 | 46 => 169 | 4 => 4 | 36 => 160 | 35 => 159 | 41 => 143 | 5 => 5 | 9 => 9 | 53 => 194 | 57 => 198 | 63 => 202 | 64 => 203 | n => n, fun | n => n⟩
theorem Tryz.sortStr : Go.Proofs.SlLaysM.n6 Tryz.prog Tryz.sortStr_ren := {
  mixed := by kernel_rfl
  f6 := ⟨Tryz.f49.name, by decide, Tryz.func49.trans (congrArg some (by kernel_rfl))⟩
  f8 := Tryz.func97.trans (congrArg some (by kernel_rfl))
  f9 := ⟨Tryz.f96.name, by decide, Tryz.func96.trans (congrArg some (by kernel_rfl))⟩
  f19 := Tryz.func147.trans (congrArg some (by kernel_rfl))
  f20 := Tryz.func148.trans (congrArg some (by kernel_rfl))
  f21 := ⟨Tryz.f138.name, by decide, Tryz.func138.trans (congrArg some (by kernel_rfl))⟩
  f22 := ⟨Tryz.f139.name, by decide, Tryz.func139.trans (congrArg some (by kernel_rfl))⟩
  f23 := ⟨Tryz.f140.name, by decide, Tryz.func140.trans (congrArg some (by kernel_rfl))⟩
  f24 := ⟨Tryz.f141.name, by decide, Tryz.func141.trans (congrArg some (by kernel_rfl))⟩
  f25 := ⟨Tryz.f142.name, by decide, Tryz.func142.trans (congrArg some (by kernel_rfl))⟩
  f26 := ⟨Tryz.f143.name, by decide, Tryz.func143.trans (congrArg some (by kernel_rfl))⟩
  f27 := ⟨Tryz.f144.name, by decide, Tryz.func144.trans (congrArg some (by kernel_rfl))⟩
  f28 := ⟨Tryz.f145.name, by decide, Tryz.func145.trans (congrArg some (by kernel_rfl))⟩
  f29 := ⟨Tryz.f146.name, by decide, Tryz.func146.trans (congrArg some (by kernel_rfl))⟩
  f31 := Tryz.func178.trans (congrArg some (by kernel_rfl))
  f32 := Tryz.func179.trans (congrArg some (by kernel_rfl))
  f36 := ⟨Tryz.f177.name, by decide, Tryz.func177.trans (congrArg some (by kernel_rfl))⟩
  f37 := ⟨Tryz.f180.name, by decide, Tryz.func180.trans (congrArg some (by kernel_rfl))⟩
  f38 := ⟨Tryz.f181.name, by decide, Tryz.func181.trans (congrArg some (by kernel_rfl))⟩
  f39 := ⟨Tryz.f182.name, by decide, Tryz.func182.trans (congrArg some (by kernel_rfl))⟩
  f41 := ⟨Tryz.f188.name, by decide, Tryz.func188.trans (congrArg some (by kernel_rfl))⟩
  t0 := Tryz.underlying0
  a0 := Tryz.isAgg0
  z0 := Tryz.sizeOf0
  v0 := Tryz.zeroValue0
  t3 := Tryz.underlying3
  a3 := Tryz.isAgg3
  z3 := Tryz.sizeOf3
  v3 := Tryz.zeroValue3
  t4 := Tryz.underlying4
  a4 := Tryz.isAgg4
  z4 := Tryz.sizeOf4
  v4 := Tryz.zeroValue4
  t5 := Tryz.underlying5
  a5 := Tryz.isAgg5
  z5 := Tryz.sizeOf5
  v5 := Tryz.zeroValue5
  t9 := Tryz.underlying9
  a9 := Tryz.isAgg9
  z9 := Tryz.sizeOf9
  v9 := Tryz.zeroValue9
  t26 := Tryz.underlying27
  a26 := Tryz.isAgg27
  z26 := Tryz.sizeOf27
  v26 := Tryz.zeroValue27
  t27 := Tryz.underlying27
  a27 := Tryz.isAgg27
  z27 := Tryz.sizeOf27
  v27 := Tryz.zeroValue27
  t29 := Tryz.underlying9
  a29 := Tryz.isAgg9
  z29 := Tryz.sizeOf9
  v29 := Tryz.zeroValue9
  t32 := Tryz.underlying126
  a32 := Tryz.isAgg126
  z32 := Tryz.sizeOf126
  v32 := Tryz.zeroValue126
  t35 := Tryz.underlying159
  a35 := Tryz.isAgg159
  z35 := Tryz.sizeOf159
  v35 := Tryz.zeroValue159
  t36 := Tryz.underlying160
  a36 := Tryz.isAgg160
  z36 := Tryz.sizeOf160
  v36 := Tryz.zeroValue160
  t41 := Tryz.underlying143
  a41 := Tryz.isAgg143
  z41 := Tryz.sizeOf143
  v41 := Tryz.zeroValue143
  t44 := Tryz.underlying167
  a44 := Tryz.isAgg167
  z44 := Tryz.sizeOf167
  v44 := Tryz.zeroValue167
  t46 := Tryz.underlying169
  a46 := Tryz.isAgg169
  z46 := Tryz.sizeOf169
  v46 := Tryz.zeroValue169
  t53 := Tryz.underlying194
  a53 := Tryz.isAgg194
  z53 := Tryz.sizeOf194
  v53 := Tryz.zeroValue194
  t57 := Tryz.underlying198
  a57 := Tryz.isAgg198
  z57 := Tryz.sizeOf198
  v57 := Tryz.zeroValue198
  t63 := Tryz.underlying202
  a63 := Tryz.isAgg202
  z63 := Tryz.sizeOf202
  v63 := Tryz.zeroValue202
  t64 := Tryz.underlying203
  a64 := Tryz.isAgg203
  z64 := Tryz.sizeOf203
  v64 := Tryz.zeroValue203 }
end Go.Proofs
namespace Go.Proofs.YtdcifaldfmpapaaGreat
open Go.Abs
theorem sortStr_c (ss : List ByteArray) {id g n ty : Nat} {H : Heap} (hH : H.get id = some ⟨g, 1, ty, strRows ss⟩) (hn : n = ss.length) (hl : ss.length < 4611686018427387904) :
    ACalls Tryz.prog 49 [.osl id g 0 n] H (fun r H' => r = .tup [] ∧ H' = (id, ⟨g, 1, ty, strRows (sortS ss)⟩) :: H) := sort_c Tryz.sortStr ss hH hn hl
theorem nodup_le : ∀ (n : Nat) (l : List Nat), l.Nodup → (∀ i ∈ l, i < n) → l.length ≤ n
  | 0, l, _, h => by
    cases l with
    | nil => simp
    | cons a l => have := h a (by simp); omega
  | n + 1, l, hd, h => by
    by_cases e : n ∈ l
    · have h1 := nodup_le n (l.erase n) (hd.erase n) (fun i hi => by
        rw [hd.mem_erase_iff] at hi
        have := h i hi.2
        omega)
      rw [List.length_erase_of_mem e] at h1
      have := List.length_pos_of_mem e
      omega
    · have := nodup_le n l hd (fun i hi => by
        have h2 := h i hi
        have : i ≠ n := fun e2 => e (e2 ▸ hi)
        omega)
      omega
/-- What has come of a list, by places. -/
def pick (L : List ByteArray) (seen : List Nat) : List ByteArray := seen.map fun i => (L[i]?).getD ⟨#[]⟩
theorem pick_all {L : List ByteArray} {seen : List Nat} (hd : seen.Nodup) (h1 : ∀ i ∈ seen, i < L.length) (h2 : ∀ i, i < L.length → i ∈ seen) : (pick L seen).Perm L := by
  have hp : seen.Perm (List.range L.length) := (List.perm_ext_iff_of_nodup hd List.nodup_range).2 fun a => ⟨fun h => List.mem_range.2 (h1 a h), fun h => h2 a (List.mem_range.1 h)⟩
  have h3 := hp.map (fun i => (L[i]?).getD ⟨#[]⟩)
  have h4 : (List.range L.length).map (fun i => (L[i]?).getD ⟨#[]⟩) = L := by
    apply List.ext_getElem
    · simp
    · intro i h5 h6
      simp [h6]
  rw [h4] at h3
  exact h3
theorem u8_le_total (a b : List UInt8) : decide (a ≤ b) || decide (b ≤ a) := by
  rcases List.le_total a b with h | h <;> simp [h]
theorem sortS_eq {a b : List ByteArray} (h : a.Perm b) : sortS a = sortS b := by
  unfold sortS
  congr 1
  have hs : ∀ l : List ByteArray, ((l.map toU).mergeSort fun x y => decide (x ≤ y)).Pairwise (fun x y => decide (x ≤ y) = true) := fun l =>
    List.pairwise_mergeSort (le := fun (x y : List UInt8) => decide (x ≤ y)) (fun a b c h1 h2 => decide_eq_true (List.le_trans (of_decide_eq_true h1) (of_decide_eq_true h2))) u8_le_total _
  exact List.Perm.eq_of_pairwise (fun x y _ _ h3 h4 => List.le_antisymm (of_decide_eq_true h3) (of_decide_eq_true h4)) (hs a) (hs b) (((List.mergeSort_perm _ _).trans (h.map toU)).trans (List.mergeSort_perm _ _).symm)
end Go.Proofs.YtdcifaldfmpapaaGreat
end
