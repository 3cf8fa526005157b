/-
  CONTRACTS: maps.Keys, slices.Sorted; equal arrays of texts. Conditions: lengths below 2^40.
  TAGS MERGED, plain: three values for each key, as objects. Conditions: none.
  CONTRACTS: slices.Index, Contains at strings; tag.Merge. Conditions: lengths below 2^40.
  CONTRACTS: tags and texts compared (planisphereref09.Same, Strings), what is moderate (planisphereref09.Few, planispherelaw09.few). Conditions: lengths below 2^62.
  CONTRACTS: planispherelaw09.head answers true. Conditions: none.
  CONTRACTS: atlas.valid, at, Put, Drop. Conditions: lengths below 2^40.
  PLAIN: a map with an object put in: valid, in order, and the same views. Conditions: none.
-/
import Derived.Test.YtedfihgkopejcaaKT6M6
import Derived.DeepKeys
section
set_option linter.unusedVariables false
set_option linter.unusedSimpArgs false
set_option maxRecDepth 100000
namespace Go.Proofs.Ytedfihgkopejcaa
open Go.Abs
theorem eq3 (a b c x y z : ByteArray) (w : World) : (Op.equalIn 10000 61 (.agg [.string a, .string b, .string c].toArray) (.agg [.string x, .string y, .string z].toArray)).run Try.prog w = .ok (decide (a = x) && decide (b = y) && decide (c = z)) w := by
  have hs : ∀ (p q : ByteArray) (w : World), (Op.equalIn 9999 9 (.string p) (.string q)).run Try.prog w = .ok (decide (p = q)) w := fun p q w => by
    rw [run_equalIn_string w 9998 9 p q Try.underlying9, list_beq]
  obtain ⟨i, hi, hsz⟩ := info_size (P := Try.prog) (t := 9) (n := 1) (by kernel_rfl)
  have hc : Try.prog.cellsOf 9 = 1 := by simp [Program.cellsOf, hi, hsz]
  have hu : Try.prog.underlying 61 = some (.array 3 9) := by kernel_rfl
  rw [run_equalIn_array w 9999 _ _ hu hi, hc]
  simp only [List.range, List.range.loop, Op.eqItems, part, Try.isAgg9]
  by_cases h1 : a = x <;> by_cases h2 : b = y <;> by_cases h3 : c = z <;> simp [h1, h2, h3, hs, Try.isAgg9]
def itO (l : List (ByteArray × AV)) (s : List Nat) : Ob := ⟨0, 0, 0, irows (.mp 950 0) l.length l.length s⟩
def mO (l : List (ByteArray × AV)) : Ob := ⟨0, 0, l.length, mrows strK l⟩
def mB : Ob := bx 1 59 [.mp 950 0]
theorem keys1_c (l : List (ByteArray × AV)) (fv : AV) (Hs : List Nat → Heap) (hl : l.length < 1099511627776) (h1 : ∀ s, (Hs s).get 951 = some mB) (h2 : ∀ s, (Hs s).get 950 = some (mO l)) (h6 : ∀ s, (Hs s).get 946 = none) (hcl : ∀ s, Closed (Hs s)) (hf : ∀ s, Clo (Hs s) fv)
    (hy : ∀ s i p, l[i]? = some p → i ∉ s → s.Nodup → (∀ j, j ∈ s → j < l.length) → CallsV Try.prog fv [sv p.1] ((946, itO l (s ++ [i])) :: Hs s) (fun r H' => r = bv true ∧ H' = (946, itO l (s ++ [i])) :: Hs (s ++ [i]))) :
    ACalls Try.prog 54 [fv, .ref 951 0 0 0] (Hs []) (fun r H' => r = .tup [] ∧ ∃ s, s.Nodup ∧ (∀ i, i ∈ s → i < l.length) ∧ (∀ i, i < l.length → i ∈ s) ∧ H' = Hs s) := by
  refine ACalls.body Try.func54 rfl Try.ntmps54 (Nat.le_of_ble_eq_true rfl) ?_
  refine awp_seq ?_
  refine awp_region ?_
  refine al_d rfl rfl rfl (by exact (by exact opd_load1_ref rfl Try.isAgg59 rfl (h1 []) rfl rfl rfl)) ?_
  refine al_d rfl rfl rfl (by exact opd_range (q := 946) (κ := strK) rfl Try.underlying59 rfl (h2 []) rfl rfl rfl (h6 [])) ?_
  refine al_nil ?_
  refine awp_block ?_
  -- loop
  refine awp_loop (σ := List Nat) (fun s => ([(0, fv), (5, .it 946 0)], (946, itO l s) :: Hs s)) (fun s => s.Nodup ∧ ∀ i, i ∈ s → i < l.length) (fun s => l.length - s.length) [] ⟨List.nodup_nil, by simp⟩ ?_ ?_
  · exact Ent.e0 ⟨⟨_, rfl, rfl⟩, ⟨_, rfl, rfl⟩, trivial⟩
  · rintro s ⟨hd, hb⟩
    refine awp_seq ?_
    refine awp_region ?_
    refine al_r rfl rfl (opr_next (κ := strK) rfl rfl rfl rfl rfl (h2 s) rfl rfl rfl (by omega) (by omega)) ?_
    rintro _ _ (⟨rfl, rfl, hn0⟩ | ⟨hni, hnp, hn1, hn2, rfl, rfl⟩)
    -- next at 
    · skip
      refine al_d rfl rfl rfl (by exact opd_extract rfl rfl rfl) ?_
      refine al_nil ?_
      refine awp_seq ?_
      refine awp_cond rfl (fun hc1 => ?_) (fun hc1 => ?_)
      -- cond 1
      · skip
        cases hc1
      · skip
        refine awp_exit ?_
        -- end of the body
        exact aret0 (H' := Hs s) (.inl rfl) rfl (Fin.pops' [(946, itO l s)] (by simp) (hcl _) (by simp [h6]) (by simp [h6])) ⟨rfl, s, hd, hb, hn0, rfl⟩
    · have hlt : hni < l.length := (List.getElem?_eq_some_iff.1 hn1).1
      have hb2 : ∀ i, i ∈ s ++ [hni] → i < l.length := fun i hi => by
        rcases List.mem_append.1 hi with h | h
        · exact hb i h
        · rw [List.mem_singleton] at h; omega
      have hd2 : (s ++ [hni]).Nodup := List.nodup_append.2 ⟨hd, by simp, fun a ha b hb e => by rw [List.mem_singleton] at hb; subst hb; subst e; exact hn2 ha⟩
      have hlen := nodup_le _ _ hd2 hb2
      rw [List.length_append, List.length_singleton] at hlen
      refine al_d rfl rfl rfl (by exact opd_extract rfl rfl rfl) ?_
      refine al_nil ?_
      refine awp_seq ?_
      refine awp_cond rfl (fun hc2 => ?_) (fun hc2 => ?_)
      -- cond 2
      · skip
        refine awp_skip ?_
        refine awp_block ?_
        refine awp_seq ?_
        refine awp_region ?_
        refine al_d rfl rfl rfl (by exact opd_entry rfl rfl rfl rfl rfl (h2 s) rfl rfl rfl hn1) ?_
        refine al_d rfl rfl rfl (by exact opd_extract rfl rfl rfl) ?_
        refine al_d rfl rfl rfl (by exact opd_assign rfl rfl) ?_
        refine al_nil ?_
        refine awp_seq ?_
        -- before the slot
        refine AWp.ent (E' := [(0, fv), (5, .it 946 0), (3, sv hnp.1)]) (H' := (946, itO l (s ++ [hni])) :: Hs s) (Ent.get' ⟨⟨_, rfl, rfl⟩, ⟨_, rfl, rfl⟩, ⟨_, rfl, rfl⟩, trivial⟩ (fun j => get_dup 946 (itO l (s ++ [hni])) (itO l s) (Hs s) j)) ?_
        refine awp_region ?_
        refine al_d rfl rfl rfl (by exact opd_move rfl rfl) ?_
        refine al_d rfl rfl rfl (by exact opd_move rfl rfl) ?_
        refine al_d rfl rfl rfl (by exact opr_callV rfl rfl rfl (hy s hni hnp hn1 hn2 hd hb)) ?_
        refine al_d rfl rfl rfl (by exact opd_not rfl rfl) ?_
        refine al_nil ?_
        refine awp_cond rfl (fun hc3 => ?_) (fun hc3 => ?_)
        -- cond 3
        · skip
          cases hc3
        · skip
          refine awp_skip ?_
          -- end of a round
          refine ⟨s ++ [hni], ⟨hd2, hb2⟩, by rw [List.length_append, List.length_singleton]; omega, ?_⟩
          exact Ent.e0 ⟨⟨_, rfl, rfl⟩, ⟨_, rfl, rfl⟩, trivial⟩
      · skip
        cases hc2
theorem pickM {l : List (ByteArray × AV)} {seen : List Nat} {i : Nat} {p : ByteArray × AV} (h : l[i]? = some p) : pick (l.map Prod.fst) (seen ++ [i]) = pick (l.map Prod.fst) seen ++ [p.1] := by
  simp only [pick, List.map_append, List.map_cons, List.map_nil, List.getElem?_map, h, Option.map_some, Option.getD_some]
theorem pick_len (L : List ByteArray) (s : List Nat) : (pick L s).length = s.length := List.length_map _
def apE : Env := [(2, .ref 942 0 0 0)]
def apK (M : List ByteArray) (K : Heap) : Heap := (945, ⟨M.length, 1, 9, wRows M⟩) :: (942, bx 1 28 [.osl 945 M.length 0 M.length]) :: K
theorem apK_app (M : List ByteArray) (s : ByteArray) (K : Heap) : apK (M ++ [s]) K = (945, ⟨M.length + 1, 1, 9, wRows (M ++ [s])⟩) :: (942, bx 1 28 [.osl 945 (M.length + 1) 0 (M.length + 1)]) :: K := by simp [apK]
theorem apK_closed {M : List ByteArray} {K : Heap} {x : Go.Loop} (h : Closed K) : Closed ((944, LR x apE) :: apK M K) := by
  refine Closed.app (D := [(944, LR x apE), (945, ⟨M.length, 1, 9, wRows M⟩), (942, bx 1 28 [.osl 945 M.length 0 M.length])]) ?_ h
  refine ClosedL.spec ⟨LR_clo (by simp [apE]; rfl), wRows_clo _ _, ?_, trivial⟩
  intro r hr a ha
  simp only [bx, List.mem_singleton] at hr
  subst hr
  rw [List.mem_singleton] at ha
  subst ha
  exact .osl rfl
theorem appendSeq_c (l : List (ByteArray × AV)) (K : Heap) (hl : l.length < 1099511627776) (k2 : K.get 942 = none) (k4 : K.get 944 = none) (k5 : K.get 945 = none) (k6 : K.get 946 = none) (h0 : K.get 950 = some (mO l)) (h1 : K.get 951 = some mB) (hc : Closed K) :
    ACalls Try.prog 68 [.pv .nils, .clo 54 [.ref 951 0 0 0]] K (fun r H' => ∃ M, M.Perm (l.map Prod.fst) ∧ r = .osl 945 M.length 0 M.length ∧ H' = (945, ⟨M.length, 1, 9, wRows M⟩) :: K) := by
  have k2' : Heap.get ((945, ⟨0, 1, 9, []⟩) :: K) 942 = none := k2
  refine ACalls.body Try.func68 rfl Try.ntmps68 (Nat.le_of_ble_eq_true rfl) ?_
  refine awp_nilc (t := 0) (id := 945) (sz := 1) (ty := 9) rfl k5 rfl ?_
  refine awp_uncap (t := 0) rfl rfl rfl (Nat.le_refl _) ?_
  refine awp_seq ?_
  refine awp_region ?_
  refine al_d rfl rfl rfl (by exact opd_box (id := 942) rfl rfl rfl rfl k2') ?_
  refine al_d rfl rfl rfl (by exact opd_assign rfl rfl) ?_
  refine al_nil ?_
  refine awp_seq ?_
  refine awp_seq ?_
  refine awp_region ?_
  refine al_d rfl rfl rfl (by exact opd_move rfl rfl) ?_
  refine al_nil ?_
  refine awp_block ?_
  -- range
  refine AWp.ent (E' := [(2, .ref 942 0 0 0), (6, .clo 54 [.ref 951 0 0 0])]) (H' := apK [] K) (Ent.get' ⟨⟨_, rfl, rfl⟩, ⟨_, rfl, rfl⟩, trivial⟩ (fun j => get_swap (by decide) j)) ?_
  refine awp_range (id := 944) (p := 7) apE rfl Try.call54 rfl k4 (by simp [apE]; rfl) ?_
  intro x hx1 hx2 hx3 hx4 hx5 hx6
  refine (keys1_c l (.yld 944 0) (fun s => (944, LR x apE) :: apK (pick (l.map Prod.fst) s) K) hl (fun s => h1) (fun s => h0) (fun s => k6) (fun s => apK_closed hc) (fun s => by simp; rfl) ?_).mono ?_
  · intro s i p hi hni hd hb
    have hsl : (pick (l.map Prod.fst) s).length < 1099511627777 := by
      rw [pick_len]
      have := nodup_le _ _ hd hb
      omega
    refine CallsV.congrG (H1 := (944, LR x apE) :: (946, itO l (s ++ [i])) :: apK (pick (l.map Prod.fst) s) K) (K1 := (944, LR x apE) :: (946, itO l (s ++ [i])) :: apK (pick (l.map Prod.fst) (s ++ [i])) K) (.inl ⟨944, 0, rfl, ?_⟩) (fun j => get_swap (by decide) j) (fun j => get_swap (by decide) j)
    rw [pickM hi, apK_app]
    refine ycalls [(2, .ref 942 0 0 0), (5, sv p.1)] ((946, itO l (s ++ [i])) :: apK (pick (l.map Prod.fst) s) K) hx1 hx2 hx3 hx4 hx5 hx6 rfl rfl rfl ?_ ?_
    · skip
      refine awp_region ?_
      refine al_d rfl rfl rfl (by exact opd_assign rfl rfl) ?_
      refine al_nil ?_
      -- end of the piece
      exact Ent.e0 ⟨⟨_, rfl, rfl⟩, ⟨_, rfl, rfl⟩, trivial⟩
    · skip
      refine awp_block ?_
      refine awp_region ?_
      refine al_d rfl rfl rfl (by exact (by exact opd_load1_ref rfl Try.isAgg28 rfl rfl rfl rfl rfl)) ?_
      refine al_d rfl rfl rfl (by exact opd_move rfl rfl) ?_
      refine al_d rfl rfl rfl (by exact (by exact x_buildSlice [[.str p.1]] rfl so28 rfl rfl rfl rfl rfl (by intro r hr; rw [List.mem_singleton] at hr; subst hr; rfl))) ?_
      refine al_d rfl rfl rfl (by exact x_append (ps := [[.str p.1]]) rfl so28 ei9 rfl rfl rfl rfl rfl (wRows_len _) rfl (by intro r hr; rw [List.mem_singleton] at hr; subst hr; rfl) (m := 1) rfl (by omega) rfl (wRows_app _ p.1)) ?_
      refine al_n rfl rfl (by exact (by exact x_store_all rfl Try.sizeOf28 rfl rfl rfl rfl rfl rfl rfl rfl)) ?_
      refine al_nil ?_
      -- end of the piece
      exact ⟨(946, itO l (s ++ [i])) :: (945, ⟨(pick (l.map Prod.fst) s).length + 1, 1, 9, wRows (pick (l.map Prod.fst) s ++ [p.1])⟩) :: (942, bx 1 28 [.osl 945 ((pick (l.map Prod.fst) s).length + 1) 0 ((pick (l.map Prod.fst) s).length + 1)]) :: K, Ent.get' trivial (fun j => get_same [_, _, _, _] [_, _, _, _, _, _] (by repeat (first | exact trivial | refine ⟨rfl, ?_⟩)) j), rfl, rfl⟩
  · rintro r H' ⟨rfl, s, hd, hb, hall, rfl⟩
    obtain ⟨M, hM⟩ : ∃ M, M = pick (l.map Prod.fst) s := ⟨_, rfl⟩
    have hperm : M.Perm (l.map Prod.fst) := by rw [hM]; exact pick_all hd (by rw [List.length_map]; exact hb) (by rw [List.length_map]; exact hall)
    rw [← hM]
    refine ⟨x, _, rfl, by rw [hx1]; decide, rfl, fun z => ?_⟩
    rw [hx2]
    refine awp_seq ?_
    refine awp_region ?_
    refine al_d rfl rfl rfl (by exact (by exact opd_load1_ref rfl Try.isAgg28 rfl rfl rfl rfl rfl)) ?_
    refine al_d rfl rfl rfl (by exact opd_assign rfl rfl) ?_
    refine al_nil ?_
    refine awp_ret ?_
    -- return
    refine aret1 (H' := ((945, ⟨M.length, 1, 9, wRows M⟩) :: K)) (by exact .inr rfl) rfl (rval_tmp rfl) (Fin.front' [(944, LR z apE), (945, ⟨M.length, 1, 9, wRows M⟩), (942, bx 1 28 [.osl 945 M.length 0 M.length])] [(945, ⟨M.length, 1, 9, wRows M⟩)] (.osl rfl) (by simp [k2, k4, Heap.get]) (by intro p hp; rw [List.mem_singleton] at hp; subst hp; rfl) (ClosedL.spec ⟨wRows_clo _ _, trivial⟩) hc (by simp [k2, k4, Heap.get])) ?_
    exact ⟨M, hperm, rfl, rfl⟩
theorem collect_c (l : List (ByteArray × AV)) (K : Heap) (hl : l.length < 1099511627776) (k2 : K.get 942 = none) (k4 : K.get 944 = none) (k5 : K.get 945 = none) (k6 : K.get 946 = none) (h0 : K.get 950 = some (mO l)) (h1 : K.get 951 = some mB) (hc : Closed K) :
    ACalls Try.prog 52 [.clo 54 [.ref 951 0 0 0]] K (fun r H' => ∃ M, M.Perm (l.map Prod.fst) ∧ r = .osl 945 M.length 0 M.length ∧ H' = (945, ⟨M.length, 1, 9, wRows M⟩) :: K) := by
  refine ACalls.body Try.func52 rfl Try.ntmps52 (Nat.le_of_ble_eq_true rfl) ?_
  refine awp_seq ?_
  refine awp_region ?_
  refine al_d rfl rfl rfl (by exact opd_assign rfl rfl) ?_
  refine al_nil ?_
  refine awp_seq ?_
  refine awp_region ?_
  refine al_d rfl rfl rfl (by exact opd_move rfl rfl) ?_
  -- op at iter.go:60 slot 4 call [["rec", {"callee": ["app", "Callee.value", [["app", "Operand.func", [["num", 68]]]]], "args": ["arr", [["app", "Operand.const", [["app", "Value.slice", [["id",
  refine al_r rfl rfl (opr_call_nil rfl rfl Try.call68 rfl (appendSeq_c l K hl k2 k4 k5 k6 h0 h1 hc)) ?_
  rintro r H' ⟨M, hperm, rfl, rfl⟩
  refine al_d rfl rfl rfl (by exact opd_assign rfl rfl) ?_
  refine al_nil ?_
  refine awp_ret ?_
  -- return
  refine aret1 (H' := ((945, ⟨M.length, 1, 9, wRows M⟩) :: K)) (by exact .inr rfl) rfl (rval_tmp rfl) Fin.refl ?_
  exact ⟨M, hperm, rfl, rfl⟩
theorem keys_c (H : Heap) (h1 : H.get 951 = none) :
    ACalls Try.prog 36 [.mp 950 0] H (fun r H' => r = .clo 54 [.ref 951 0 0 0] ∧ H' = (951, mB) :: H) := by
  refine ACalls.body Try.func36 rfl Try.ntmps36 (Nat.le_of_ble_eq_true rfl) ?_
  refine awp_seq ?_
  refine awp_region ?_
  refine al_d rfl rfl rfl (by exact opd_box (id := 951) rfl rfl rfl rfl h1) ?_
  refine al_d rfl rfl rfl (by exact opd_assign rfl rfl) ?_
  refine al_nil ?_
  refine awp_seq ?_
  refine awp_region ?_
  refine al_d rfl rfl rfl (by exact opd_makeFunc rfl rfl) ?_
  refine al_d rfl rfl rfl (by exact opd_assign rfl rfl) ?_
  refine al_nil ?_
  refine awp_ret ?_
  -- return
  refine aret1 (H' := ((951, mB) :: H)) (by exact .inr rfl) rfl (rval_tmp rfl) Fin.refl ?_
  exact ⟨rfl, rfl⟩
theorem strRows_enc (l : List ByteArray) : strRows l = (l.map encStr).map (·.map .pv) := by rw [List.map_map]; rfl
theorem sorted_c (l : List (ByteArray × AV)) (K : Heap) (hl : l.length < 1099511627776) (k2 : K.get 942 = none) (k4 : K.get 944 = none) (k5 : K.get 945 = none) (k6 : K.get 946 = none) (h0 : K.get 950 = some (mO l)) (h1 : K.get 951 = some mB) (hc : Closed K) :
    ACalls Try.prog 35 [.clo 54 [.ref 951 0 0 0]] K (fun r H' => r = .pv (slStrs (sortS (l.map Prod.fst))) ∧ H' = K) := by
  refine ACalls.body Try.func35 rfl Try.ntmps35 (Nat.le_of_ble_eq_true rfl) ?_
  refine awp_seq ?_
  refine awp_region ?_
  refine al_d rfl rfl rfl (by exact opd_assign rfl rfl) ?_
  refine al_nil ?_
  refine awp_seq ?_
  refine awp_region ?_
  refine al_d rfl rfl rfl (by exact opd_move rfl rfl) ?_
  -- op at iter.go:67 slot 5 call [["rec", {"callee": ["app", "Callee.value", [["app", "Operand.func", [["num", 52]]]]], "args": ["arr", [["app", "Operand.tmp", [["num", 4]]]]], "argTypes": ["ar
  refine al_r rfl rfl (opr_call rfl rfl Try.call52 rfl (collect_c l K hl k2 k4 k5 k6 h0 h1 hc)) ?_
  rintro r H' ⟨M, hperm, rfl, rfl⟩
  have hMl : M.length < 4611686018427387904 := by rw [hperm.length_eq, List.length_map]; omega
  have hS := sortS_eq hperm
  have hSl : (sortS M).length = M.length := by rw [sortS, List.length_map, List.length_mergeSort, List.length_map]
  refine al_d rfl rfl rfl (by exact opd_assign rfl rfl) ?_
  refine al_nil ?_
  refine awp_seq ?_
  refine awp_region ?_
  refine al_d rfl rfl rfl (by exact opd_move rfl rfl) ?_
  refine al_d rfl rfl rfl (by exact opr_call rfl rfl Try.call53 rfl (sortStr_c M rfl rfl hMl)) ?_
  refine al_nil ?_
  refine awp_seq ?_
  refine awp_region ?_
  refine al_d rfl rfl rfl (by exact opd_move rfl rfl) ?_
  refine al_d rfl rfl rfl (by exact opd_assign rfl rfl) ?_
  refine al_nil ?_
  refine awp_ret ?_
  -- return
  refine aret1 (H' := K) (by exact .inr rfl) rfl (rval_tmp rfl) (Fin.slice [(945, ⟨M.length, 1, 9, strRows (sortS M)⟩), (945, ⟨M.length, 1, 9, wRows M⟩)] ((sortS M).map encStr) rfl rfl (strRows_enc _) (by rw [List.length_map, hSl]) hc (by simp [k5]) (by simp [k5]) k5) ?_
  exact ⟨by rw [← hS]; rfl, rfl⟩
end Go.Proofs.Ytedfihgkopejcaa
end
section
set_option linter.unusedVariables false
set_option linter.unusedSimpArgs false
set_option maxRecDepth 100000
namespace Go.Proofs.Ytedfihgkopejcaa
open Go.Abs
/-- What the three sides have for a key. -/
structure M3 where
  k : ByteArray
  b : ByteArray
  o : ByteArray
  t : ByteArray
def M3.up (i : Nat) (v : ByteArray) (p : M3) : M3 := match i with
  | 0 => { p with b := v }
  | 1 => { p with o := v }
  | _ => { p with t := v }
def M3.nil (s : ByteArray) : M3 := ⟨s, ⟨#[]⟩, ⟨#[]⟩, ⟨#[]⟩⟩
theorem inB_mem {l : List ByteArray} {s : ByteArray} : inB l s = true ↔ s ∈ l := by simp [inB, List.any_eq_true]
def addK (L : List M3) (s : ByteArray) : List M3 := if inB (L.map M3.k) s then L else L ++ [M3.nil s]
theorem addK_in {L : List M3} {s : ByteArray} (h : s ∈ L.map M3.k) : addK L s = L := by rw [addK, if_pos (inB_mem.2 h)]
theorem addK_new {L : List M3} {s : ByteArray} (h : s ∉ L.map M3.k) : addK L s = L ++ [M3.nil s] := by rw [addK, if_neg (fun e => h (inB_mem.1 e))]
def setK (i : Nat) (s v : ByteArray) (L : List M3) : List M3 := L.map fun p => if p.k = s then p.up i v else p
def insK (i : Nat) (L : List M3) (t : GTag) : List M3 := setK i t.key t.val (addK L t.key)
def sideK (i : Nat) (L : List M3) (l : List GTag) : List M3 := l.foldl (insK i) L
def all3 (b o t : List GTag) : List M3 := sideK 2 (sideK 1 (sideK 0 [] b) o) t
theorem up_k (i : Nat) (v : ByteArray) (p : M3) : (p.up i v).k = p.k := by
  unfold M3.up
  split <;> rfl
theorem setK_k (i : Nat) (s v : ByteArray) (L : List M3) : (setK i s v L).map M3.k = L.map M3.k := by
  rw [setK, List.map_map]
  refine List.map_congr_left fun p _ => ?_
  simp only [Function.comp]
  split
  · exact up_k i v p
  · rfl
theorem setK_len (i : Nat) (s v : ByteArray) (L : List M3) : (setK i s v L).length = L.length := List.length_map _
theorem addK_has (L : List M3) (s : ByteArray) : s ∈ (addK L s).map M3.k := by
  by_cases h : s ∈ L.map M3.k
  · rw [addK_in h]; exact h
  · rw [addK_new h]; simp [M3.nil]
theorem addK_nodup {L : List M3} {s : ByteArray} (h : (L.map M3.k).Nodup) : ((addK L s).map M3.k).Nodup := by
  by_cases hn : s ∈ L.map M3.k
  · rw [addK_in hn]; exact h
  · rw [addK_new hn, List.map_append]
    exact List.nodup_append.2 ⟨h, by simp, fun a ha b hb e => by
      simp [M3.nil] at hb
      subst hb; subst e
      exact hn ha⟩
theorem addK_len (L : List M3) (s : ByteArray) : (addK L s).length ≤ L.length + 1 := by
  unfold addK
  split
  · omega
  · simp
theorem insK_nodup {i : Nat} {L : List M3} {t : GTag} (h : (L.map M3.k).Nodup) : ((insK i L t).map M3.k).Nodup := by
  rw [insK, setK_k]
  exact addK_nodup h
theorem sideK_nodup {i : Nat} : ∀ (l : List GTag) {L : List M3}, (L.map M3.k).Nodup → ((sideK i L l).map M3.k).Nodup
  | [], _, h => h
  | t :: r, _, h => sideK_nodup r (insK_nodup h)
theorem sideK_snoc (i : Nat) (L : List M3) (l : List GTag) (t : GTag) : sideK i L (l ++ [t]) = insK i (sideK i L l) t := by rw [sideK, List.foldl_append]; rfl
theorem sideK_len (i : Nat) : ∀ (l : List GTag) (L : List M3), (sideK i L l).length ≤ L.length + l.length
  | [], _ => Nat.le_refl _
  | t :: r, L => by
    have h1 := sideK_len i r (insK i L t)
    have h2 : (insK i L t).length ≤ L.length + 1 := by rw [insK, setK_len]; exact addK_len L t.key
    rw [List.length_cons]
    show (sideK i (insK i L t) r).length ≤ _
    omega
theorem all3_nodup (b o t : List GTag) : ((all3 b o t).map M3.k).Nodup := sideK_nodup t (sideK_nodup o (sideK_nodup b List.nodup_nil))
/-! ### the objects -/
def mR : Nat → List M3 → List (ByteArray × AV)
  | _, [] => []
  | n, p :: r => (p.k, .ref (n + 960) 0 0 0) :: mR (n + 1) r
def b3 (p : M3) : Ob := bx 3 61 [sv p.b, sv p.o, sv p.t]
def oB : Nat → List M3 → Heap
  | _, [] => []
  | n, p :: r => (n + 960, b3 p) :: oB (n + 1) r
def hM (L : List M3) : Heap := (950, mO (mR 0 L)) :: oB 0 L
theorem mR_len : ∀ (L : List M3) (n : Nat), (mR n L).length = L.length
  | [], _ => rfl
  | p :: r, n => by rw [mR, List.length_cons, List.length_cons, mR_len r]
theorem mR_keys : ∀ (L : List M3) (n : Nat), (mR n L).map Prod.fst = L.map M3.k
  | [], _ => rfl
  | p :: r, n => by rw [mR, List.map_cons, List.map_cons, mR_keys r]
theorem mR_app : ∀ (L : List M3) (n : Nat) (p : M3), mR n (L ++ [p]) = mR n L ++ [(p.k, .ref (n + L.length + 960) 0 0 0)]
  | [], n, p => rfl
  | q :: r, n, p => by
    rw [List.cons_append, mR, mR_app r, mR, List.length_cons]
    have e : n + 1 + r.length = n + (r.length + 1) := by omega
    rw [e]
    rfl
theorem mR_congr : ∀ (L M : List M3) (n : Nat), L.map M3.k = M.map M3.k → mR n L = mR n M
  | [], [], _, _ => rfl
  | [], _ :: _, _, h => by cases h
  | _ :: _, [], _, h => by cases h
  | p :: r, q :: s, n, h => by
    rw [List.map_cons, List.map_cons, List.cons.injEq] at h
    rw [mR, mR, h.1, mR_congr r s _ h.2]
theorem mR_none : ∀ (L : List M3) (n : Nat) (s : ByteArray), s ∉ L.map M3.k → mget (mR n L) s = none
  | [], _, _, _ => rfl
  | p :: r, n, s, h => by
    rw [List.map_cons, List.mem_cons, not_or] at h
    rw [mR, mget, if_neg (Ne.symm h.1), mR_none r _ s h.2]
theorem mR_some : ∀ (L : List M3) (n j : Nat) (p : M3), (L.map M3.k).Nodup → L[j]? = some p → mget (mR n L) p.k = some (.ref (n + j + 960) 0 0 0)
  | [], _, _, _, _, h => by cases h
  | q :: r, n, 0, p, _, h => by
    obtain rfl : q = p := by simpa using h
    rw [mR, mget, if_pos rfl]
  | q :: r, n, j + 1, p, hd, h => by
    rw [List.map_cons, List.nodup_cons] at hd
    have hr : r[j]? = some p := by simpa using h
    have hne : q.k ≠ p.k := fun e => hd.1 (e ▸ List.mem_map.2 ⟨p, List.mem_of_getElem? hr, rfl⟩)
    rw [mR, mget, if_neg hne, mR_some r (n + 1) j p hd.2 hr]
    have e : n + 1 + j = n + (j + 1) := by omega
    rw [e]
theorem mput_new : ∀ (l : List (ByteArray × AV)) (s : ByteArray) (v : AV), s ∉ l.map Prod.fst → mput l s v = l ++ [(s, v)]
  | [], _, _, _ => rfl
  | (k, a) :: r, s, v, h => by
    rw [List.map_cons, List.mem_cons, not_or] at h
    rw [mput, if_neg (fun e => h.1 e.symm), mput_new r s v h.2]
    rfl
theorem oB_get : ∀ (L : List M3) (n id : Nat), Heap.get (oB n L) id = if n + 960 ≤ id then (L[id - (n + 960)]?).map b3 else none
  | [], n, id => by simp [oB, Heap.get]
  | p :: r, n, id => by
    rw [oB]
    by_cases e : n + 960 = id
    · subst e
      rw [get_cons_same]
      simp
    · rw [get_cons_other _ _ (Ne.symm e), oB_get r (n + 1) id]
      by_cases h : n + 960 ≤ id
      · rw [if_pos h, if_pos (by omega)]
        have e2 : id - (n + 960) = (id - (n + 1 + 960)) + 1 := by omega
        rw [e2, List.getElem?_cons_succ]
      · rw [if_neg h, if_neg (by omega)]
theorem hM_get (L : List M3) (id : Nat) : Heap.get (hM L) id = if id = 950 then some (mO (mR 0 L)) else if 960 ≤ id then (L[id - 960]?).map b3 else none := by
  rw [hM]
  by_cases e : id = 950
  · subst e
    rw [get_cons_same, if_pos rfl]
  · rw [get_cons_other _ _ e, oB_get, if_neg e, Nat.zero_add]
theorem hM_at {L : List M3} {j : Nat} {p : M3} (h : L[j]? = some p) : Heap.get (hM L) (0 + j + 960) = some (b3 p) := by
  rw [hM_get, if_neg (by omega), if_pos (by omega)]
  have e : 0 + j + 960 - 960 = j := by omega
  rw [e, h]
  rfl
theorem hM_none {L : List M3} {id : Nat} (h : id ≠ 950) (h2 : id < 960) : Heap.get (hM L) id = none := by rw [hM_get, if_neg h, if_neg (by omega)]
theorem hM_new (L : List M3) : Heap.get (hM L) (0 + L.length + 960) = none := by
  rw [hM_get, if_neg (by omega), if_pos (by omega)]
  have e : 0 + L.length + 960 - 960 = L.length := by omega
  rw [e, List.getElem?_eq_none (Nat.le_refl _)]
  rfl
theorem mR_refs : ∀ (L : List M3) (n : Nat) (q : ByteArray × AV), q ∈ mR n L → ∃ j, j < L.length ∧ q.2 = .ref (n + j + 960) 0 0 0
  | [], _, _, h => by cases h
  | p :: r, n, q, h => by
    rw [mR] at h
    rcases List.mem_cons.1 h with rfl | h
    · exact ⟨0, Nat.zero_lt_succ _, rfl⟩
    · obtain ⟨j, h1, h2⟩ := mR_refs r (n + 1) q h
      exact ⟨j + 1, Nat.succ_lt_succ h1, by rw [h2]; congr 1; omega⟩
theorem oB_mem : ∀ (L : List M3) (n : Nat) (q : Nat × Ob), q ∈ oB n L → ∃ p, q.2 = b3 p
  | [], _, _, h => by cases h
  | p :: r, n, q, h => by
    rw [oB] at h
    rcases List.mem_cons.1 h with rfl | h
    · exact ⟨p, rfl⟩
    · exact oB_mem r (n + 1) q h
theorem hM_closed (L : List M3) : Closed (hM L) := by
  refine Closed.of fun q hq r hr a ha => ?_
  rw [hM] at hq
  rcases List.mem_cons.1 hq with rfl | hq
  · simp only [mO, mrows] at hr
    obtain ⟨i, hi, e⟩ := List.mem_iff_getElem.1 hr
    obtain ⟨x, hx, hx2⟩ := mrows_get.1 ((List.getElem?_eq_getElem hi).trans (congrArg some e))
    subst hx2
    obtain ⟨j, hj, hx2⟩ := mR_refs L 0 x (List.mem_of_getElem? hx)
    simp only [List.mem_cons, List.not_mem_nil, or_false] at ha
    rcases ha with rfl | rfl | rfl
    · exact .pv _
    · rw [hx2]
      exact .ref (by rw [hM_at (List.getElem?_eq_getElem hj)]; rfl)
    · exact .pv _
  · obtain ⟨p, hp⟩ := oB_mem L 0 q hq
    rw [hp, b3, bx, List.mem_singleton] at hr
    subst hr
    simp only [List.mem_cons, List.not_mem_nil, or_false] at ha
    rcases ha with rfl | rfl | rfl <;> simp
/-- Heaps that hold the same. -/
theorem hM_add {L : List M3} {s : ByteArray} (h : s ∉ L.map M3.k) (j : Nat) : Heap.get (hM (addK L s)) j = Heap.get ((950, mO (mput (mR 0 L) s (.ref (0 + L.length + 960) 0 0 0))) :: (0 + L.length + 960, bx 3 61 [.pv (.str ⟨#[]⟩), .pv (.str ⟨#[]⟩), .pv (.str ⟨#[]⟩)]) :: hM L) j := by
  rw [addK_new h, mput_new _ _ _ (by rw [mR_keys]; exact h), hM_get, mR_app]
  by_cases e : j = 950
  · subst e
    rw [if_pos rfl, get_cons_same]
    rfl
  · rw [if_neg e, get_cons_other _ _ e]
    by_cases e2 : j = 0 + L.length + 960
    · subst e2
      rw [get_cons_same, if_pos (by omega)]
      have e3 : 0 + L.length + 960 - 960 = L.length := by omega
      rw [e3, List.getElem?_append_right (Nat.le_refl _), Nat.sub_self]
      rfl
    · rw [get_cons_other _ _ e2, hM_get, if_neg e]
      by_cases h3 : 960 ≤ j
      · rw [if_pos h3, if_pos h3]
        by_cases h4 : j - 960 < L.length
        · rw [List.getElem?_append_left h4]
        · rw [List.getElem?_eq_none (by rw [List.length_append, List.length_singleton]; omega), List.getElem?_eq_none (by omega)]
      · rw [if_neg h3, if_neg h3]
theorem hM_set {L : List M3} {i a : Nat} {v : ByteArray} {p : M3} (hd : (L.map M3.k).Nodup) (h : L[a]? = some p) (j : Nat) : Heap.get (hM (setK i p.k v L)) j = Heap.get ((0 + a + 960, b3 (p.up i v)) :: hM L) j := by
  have hal : a < L.length := (List.getElem?_eq_some_iff.1 h).1
  rw [hM_get, mR_congr _ L 0 (setK_k i p.k v L)]
  by_cases e2 : j = 0 + a + 960
  · subst e2
    rw [get_cons_same, if_neg (by omega), if_pos (by omega)]
    have e3 : 0 + a + 960 - 960 = a := by omega
    rw [e3, setK, List.getElem?_map, h, Option.map_some, Option.map_some, if_pos rfl]
  · rw [get_cons_other _ _ e2, hM_get]
    by_cases e : j = 950
    · rw [if_pos e, if_pos e]
    · rw [if_neg e, if_neg e]
      by_cases h3 : 960 ≤ j
      · rw [if_pos h3, if_pos h3, setK, List.getElem?_map]
        cases hq : L[j - 960]? with
        | none => rfl
        | some q =>
          suffices hn : ¬ q.k = p.k by rw [Option.map_some, if_neg hn]
          intro e4
          have h1 : (L.map M3.k)[j - 960]? = some q.k := by rw [List.getElem?_map, hq]; rfl
          have h2 : (L.map M3.k)[a]? = some p.k := by rw [List.getElem?_map, h]; rfl
          have := (List.getElem?_inj (by rw [List.length_map]; exact hal) hd).1 (h2.trans (by rw [h1, e4]))
          omega
      · rw [if_neg h3, if_neg h3]
theorem addK_at (L : List M3) (s : ByteArray) : ∃ (j : Nat) (p : M3), (addK L s)[j]? = some p ∧ p.k = s := by
  obtain ⟨p, hp, rfl⟩ := List.mem_map.1 (addK_has L s)
  obtain ⟨j, hj, e⟩ := List.mem_iff_getElem.1 hp
  exact ⟨j, p, (List.getElem?_eq_getElem hj).trans (congrArg some e), rfl⟩
end Go.Proofs.Ytedfihgkopejcaa
namespace Go.Abs
theorem x_lookup_v {P : Program} {N : Nat} {o : Oper} {E : Env} {H : Heap} {T kt et : TypeId} {x y : Operand} {id g : Nat} {ob : Ob} {α : Type} [DecidableEq α] {κ : KeyKind α} {k : α} {l : List (α × AV)} {zv : Value} {v0 r : AV} (ho : o.op = .lookup T x y false) (hT : P.underlying T = some (.map kt et)) (hd : P.underlying kt = some κ.d) (hx : aeval E x = some (.mp id g)) (hH : H.get id = some ob) (hg : ob.g = g)
    (hrows : ob.rows = mrows κ l) (hy : aeval E y = some (.pv (κ.pv k))) (hz : ∀ w, (zeroValue et).run P w = .ok zv w) (hv : ZV zv v0) (hm : (mget l k).getD v0 = r) : OpD P N o E H r H := hm ▸ opd_lookup ho hT hd hx hH hg hrows hy hz hv
theorem x_peq_or {P : Program} {N : Nat} {o : Oper} {E : Env} {H : Heap} {t t' e : TypeId} {x y : Operand} {V : AV} {b : Bool} (ho : o.op = .binOp .eql t x y t') (ht : P.underlying t = some (.pointer e)) (hx : aeval E x = some V) (hy : aeval E y = some (.pv .nilp)) (hV : (V = .pv .nilp ∧ b = true) ∨ ∃ id i k ob, V = .ref id ob.g i k ∧ H.get id = some ob ∧ b = false) : OpD P N o E H (.pv (.bool b)) H := by
  rcases hV with ⟨rfl, rfl⟩ | ⟨id, i, k, ob, rfl, hH, rfl⟩
  · exact opd_peq_nil ho ht hx hy
  · exact opd_peq_ref ho ht hx hH rfl hy
end Go.Abs
namespace Go.Proofs.Ytedfihgkopejcaa
open Go.Abs
def look3 (L : List M3) (s : ByteArray) : AV := (mget (mR 0 L) s).getD (.pv .nilp)
theorem look3_new {L : List M3} {s : ByteArray} (h : s ∉ L.map M3.k) : look3 L s = .pv .nilp := by rw [look3, mR_none L 0 s h]; rfl
theorem look3_at {L : List M3} {j : Nat} {p : M3} (hd : (L.map M3.k).Nodup) (h : L[j]? = some p) : look3 L p.k = .ref (0 + j + 960) 0 0 0 := by rw [look3, mR_some L 0 j p hd h]; rfl
theorem look3_or {L : List M3} (hd : (L.map M3.k).Nodup) (s : ByteArray) {H : Heap} (hH : ∀ id, 960 ≤ id → H.get id = Heap.get (hM L) id) : (look3 L s = .pv .nilp ∧ (!inB (L.map M3.k) s) = true) ∨ ∃ id i k ob, look3 L s = .ref id ob.g i k ∧ H.get id = some ob ∧ (!inB (L.map M3.k) s) = false := by
  by_cases h : s ∈ L.map M3.k
  · right
    have h' := h
    obtain ⟨p, hp, rfl⟩ := List.mem_map.1 h
    obtain ⟨j, hj, e⟩ := List.mem_iff_getElem.1 hp
    have hj2 : L[j]? = some p := (List.getElem?_eq_getElem hj).trans (congrArg some e)
    exact ⟨0 + j + 960, 0, 0, b3 p, look3_at hd hj2, (hH _ (by omega)).trans (hM_at hj2), by rw [inB_mem.2 h']; rfl⟩
  · left
    refine ⟨look3_new h, ?_⟩
    cases e : inB (L.map M3.k) s with
    | true => exact absurd (inB_mem.1 e) h
    | false => rfl
theorem up_row (i : Nat) (v : ByteArray) (p : M3) (hi : i < 3) : [sv p.b, sv p.o, sv p.t].set i (sv v) = [sv (p.up i v).b, sv (p.up i v).o, sv (p.up i v).t] := by
  match i, hi with
  | 0, _ => rfl
  | 1, _ => rfl
  | 2, _ => rfl
theorem get_under {i : Nat} {o : Ob} {A B : Heap} (h : ∀ j, Heap.get A j = Heap.get B j) (j : Nat) : Heap.get ((i, o) :: A) j = Heap.get ((i, o) :: B) j := by
  cases e : Nat.beq i j <;> simp [Heap.get, e, h]
end Go.Proofs.Ytedfihgkopejcaa
end
section
set_option linter.unusedVariables false
set_option linter.unusedSimpArgs false
set_option maxRecDepth 100000
namespace Go.Proofs.Ytedfihgkopejcaa
open Go.Abs

def sd (b o t : List GTag) : Nat → List GTag
  | 0 => b
  | 1 => o
  | _ => t
def LS (b o t : List GTag) : Nat → List M3
  | 0 => []
  | i + 1 => sideK i (LS b o t i) (sd b o t i)
theorem LS_nodup (b o t : List GTag) : ∀ i, ((LS b o t i).map M3.k).Nodup
  | 0 => List.nodup_nil
  | i + 1 => sideK_nodup _ (LS_nodup b o t i)
theorem take_snoc {α : Type} {l : List α} {k : Nat} {x : α} (h : l[k]? = some x) : l.take (k + 1) = l.take k ++ [x] := by
  rw [List.take_add_one, h]
  rfl
def sidesV (b o t : List GTag) : AV := .agg [.pv (slTags b), .pv (slTags o), .pv (slTags t)]
theorem indexS_c (l : List ByteArray) (s : ByteArray) (H : Heap) (hl : l.length < 4611686018427387904) : ACalls Try.prog 55 [.pv (slStrs l), sv s] H (fun r H' => r = iv (gidx (fun x => decide (s = x)) l) ∧ H' = H) := by
  refine ACalls.pure ?_ (by simp) H
  have hml : (l.map encStr).length = l.length := List.length_map _
  refine ACalls.body Try.func55 rfl Try.ntmps55 (Nat.le_of_ble_eq_true rfl) ?_
  refine awp_seq ?_
  refine awp_region ?_
  refine al_d rfl rfl rfl (by exact opd_assign rfl rfl) ?_
  refine al_nil ?_
  refine awp_seq ?_
  refine awp_seq ?_
  refine awp_region ?_
  refine al_d rfl rfl rfl (by exact opd_move rfl rfl) ?_
  refine al_d rfl rfl rfl (by exact (by exact opd_len_sl rfl Try.underlying28 rfl)) ?_
  refine al_d rfl rfl rfl (by exact opd_move rfl rfl) ?_
  refine al_nil ?_
  refine awp_block ?_
  -- loop
  refine awp_loop (σ := Nat) (fun k => ([(0, .pv (slStrs l)), (1, sv s), (7, iv ((l.map encStr).length : Int)), (8, iv (k : Int))], [])) (fun k => k ≤ l.length ∧ ∀ j, j < k → ∀ b, l[j]? = some b → decide (s = b) = false) (fun k => l.length - k) 0 ⟨by omega, by omega⟩ ?_ ?_
  · exact Ent.e0 ⟨⟨_, rfl, rfl⟩, ⟨_, rfl, rfl⟩, ⟨_, rfl, rfl⟩, ⟨_, rfl, rfl⟩, trivial⟩
  · rintro k ⟨hk, hno⟩
    refine awp_seq ?_
    refine awp_region ?_
    refine al_d rfl rfl rfl (by exact opd_lss rfl rfl rfl) ?_
    refine al_nil ?_
    refine awp_seq ?_
    refine awp_cond rfl (fun hc1 => ?_) (fun hc1 => ?_)
    -- cond 1
    · have hlt : k < l.length := by have := of_decide_eq_true hc1; omega
      obtain ⟨o, ho⟩ := get_of_lt hlt
      have hi := map_get (f := encStr) ho
      refine awp_skip ?_
      refine awp_seq ?_
      refine awp_block ?_
      refine awp_seq ?_
      refine awp_region ?_
      refine al_d rfl rfl rfl (by exact opd_move rfl rfl) ?_
      refine al_d rfl rfl rfl (by exact opd_assign rfl rfl) ?_
      refine al_nil ?_
      refine awp_seq ?_
      refine awp_region ?_
      refine al_d rfl rfl rfl (by exact opd_move rfl rfl) ?_
      refine al_d rfl rfl rfl (by exact opd_move rfl rfl) ?_
      refine al_d rfl rfl rfl (by exact opd_move rfl rfl) ?_
      refine al_d rfl rfl rfl (by exact (by exact x_index_pad rfl so28 rfl rfl (by omega) (by exact Int.toNat_natCast _) (by assumption) rfl)) ?_
      refine al_d rfl rfl rfl (by exact (by exact opd_load1_pad rfl Try.isAgg9 rfl (by omega) rfl)) ?_
      refine al_d rfl rfl rfl (by exact opd_seql rfl rfl rfl) ?_
      refine al_nil ?_
      refine awp_cond rfl (fun hc2 => ?_) (fun hc2 => ?_)
      -- cond 2
      · skip
        refine awp_seq ?_
        refine awp_region ?_
        refine al_d rfl rfl rfl (by exact opd_move rfl rfl) ?_
        refine al_d rfl rfl rfl (by exact opd_assign rfl rfl) ?_
        refine al_nil ?_
        refine awp_ret ?_
        -- return
        refine aret1 (H' := []) (by exact .inr rfl) rfl (rval_tmp rfl) (Fin.wk (by simp) trivial trivial) ?_
        exact ⟨by rw [gidx, fidx_some hno ho hc2], rfl⟩
      · skip
        refine awp_skip ?_
        refine awp_region ?_
        refine al_d rfl rfl rfl (by exact opd_add rfl rfl rfl (by exact w64 (by omega) (by omega))) ?_
        refine al_d rfl rfl rfl (by exact opd_move rfl rfl) ?_
        refine al_nil ?_
        -- end of a round
        exact ⟨k + 1, ⟨by omega, pre_succ hno ho hc2⟩, by omega, Ent.e0 ⟨⟨_, rfl, rfl⟩, ⟨_, rfl, rfl⟩, ⟨_, rfl, rfl⟩, ⟨_, rfl, rfl⟩, trivial⟩⟩
    · have hge : k = l.length := by have := of_decide_eq_false hc1; omega
      subst hge
      refine awp_exit ?_
      refine awp_seq ?_
      refine awp_region ?_
      refine al_d rfl rfl rfl (by exact opd_assign rfl rfl) ?_
      refine al_nil ?_
      refine awp_ret ?_
      -- return
      refine aret1 (H' := []) (by exact .inr rfl) rfl (rval_tmp rfl) (Fin.wk (by simp) trivial trivial) ?_
      exact ⟨by rw [gidx, fidx_none hno], rfl⟩
theorem inB_eq (l : List ByteArray) (s : ByteArray) : l.any (fun x => decide (s = x)) = inB l s := by
  rw [inB]
  congr 1
  funext x
  rw [Bool.eq_iff_iff, decide_eq_true_eq, decide_eq_true_eq]
  exact eq_comm
theorem containsS_c (l : List ByteArray) (s : ByteArray) (H : Heap) (hl : l.length < 4611686018427387904) : ACalls Try.prog 37 [.pv (slStrs l), sv s] H (fun r H' => r = bv (inB l s) ∧ H' = H) := by
  refine ACalls.pure ?_ (by simp) H
  refine ACalls.body Try.func37 rfl Try.ntmps37 (Nat.le_of_ble_eq_true rfl) ?_
  refine awp_seq ?_
  refine awp_region ?_
  refine al_d rfl rfl rfl (by exact opd_assign rfl rfl) ?_
  refine al_nil ?_
  refine awp_seq ?_
  refine awp_region ?_
  refine al_d rfl rfl rfl (by exact opd_move rfl rfl) ?_
  refine al_d rfl rfl rfl (by exact opd_move rfl rfl) ?_
  refine al_d rfl rfl rfl (by exact opr_call rfl rfl Try.call55 rfl (indexS_c l s _ hl)) ?_
  refine al_d rfl rfl rfl (by exact opd_geq rfl rfl rfl) ?_
  refine al_d rfl rfl rfl (by exact opd_assign rfl rfl) ?_
  refine al_nil ?_
  refine awp_ret ?_
  -- return
  refine aret1 (H' := []) (by exact .inr rfl) rfl (rval_tmp rfl) (Fin.wk (by simp) trivial trivial) ?_
  exact ⟨by rw [gidx_any, inB_eq], rfl⟩
theorem containsO {C : List ByteArray} {s : ByteArray} (hC : C.length < 4611686018427387904) {n : Nat} {H : Heap} (hH : H.get 906 = some ⟨n, 1, 9, wRows C⟩) (hn : n = C.length) : ACalls Try.prog 37 [.osl 906 n 0 n, sv s] H (fun x H' => x = bv (inB C s) ∧ H' = H) := by
  subst hn
  exact RO.calls (RO.lend (id := 906) (H1 := []) (C.map encStr) (RO.of (containsS_c C s [] hC) rfl) hH (wRows_enc C) rfl
    (fz_cons (.osl (by rw [Nat.zero_add, List.drop_zero, List.take_of_length_le (by rw [List.length_map]; exact Nat.le_refl _)])) (fz_cons (.same (by simp)) fz_nil)) (fun _ _ h => by cases h) (fun _ _ h => by cases h) rfl)
/-- The value of a key, and whether it is a conflict. -/
def m1 (p : M3) : ByteArray × Bool := if p.t = p.o then (p.o, false) else if p.t = p.b then (p.o, false) else if p.o = p.b then (p.t, false) else (p.b, true)
def mConf (C : List ByteArray) (p : M3) : List ByteArray := if (m1 p).2 then C ++ [p.k] else C
def mStep (a : List GTag × List ByteArray) (p : M3) : List GTag × List ByteArray :=
  if (m1 p).1 = ⟨#[]⟩ then (a.1, mConf a.2 p) else if a.1.length < 60 then (a.1 ++ [⟨p.k, (m1 p).1⟩], mConf a.2 p) else if inB (mConf a.2 p) p.k then (a.1, mConf a.2 p) else (a.1, mConf a.2 p ++ [p.k])
def ent3 (L : List M3) (s : ByteArray) : M3 := (L.find? fun p => decide (p.k = s)).getD (M3.nil s)
def srt3 (L : List M3) : List M3 := (sortS (L.map M3.k)).map (ent3 L)
/-- Tags merged, and the conflicts. -/
def gMerge (b o t : List GTag) : List GTag × List ByteArray := if gTags b && gTags o && gTags t then (srt3 (all3 b o t)).foldl mStep ([], []) else ([], [])
theorem ent3_at {L : List M3} {s : ByteArray} (h : s ∈ L.map M3.k) : (ent3 L s).k = s ∧ ∃ j : Nat, L[j]? = some (ent3 L s) := by
  obtain ⟨p, hp, e⟩ := List.mem_map.1 h
  cases hf : L.find? fun p => decide (p.k = s) with
  | none =>
    have := List.find?_eq_none.1 hf p hp
    simp [e] at this
  | some q =>
    have h1 := List.find?_some hf
    have h2 := List.mem_of_find?_eq_some hf
    have e2 : ent3 L s = q := by rw [ent3, hf]; rfl
    rw [e2]
    obtain ⟨j, hj, e3⟩ := List.mem_iff_getElem.1 h2
    exact ⟨of_decide_eq_true h1, j, by rw [List.getElem?_eq_getElem hj, e3]⟩
theorem mConf_len (C : List ByteArray) (p : M3) : (mConf C p).length ≤ C.length + 1 := by
  unfold mConf
  split <;> simp
theorem mStep_len (a : List GTag × List ByteArray) (p : M3) : (mStep a p).1.length ≤ a.1.length + 1 ∧ (mStep a p).2.length ≤ a.2.length + 2 := by
  have := mConf_len a.2 p
  unfold mStep
  split
  · exact ⟨Nat.le_succ _, by simp only; omega⟩
  · split
    · exact ⟨by simp, by simp only; omega⟩
    · split
      · exact ⟨Nat.le_succ _, by simp only; omega⟩
      · exact ⟨Nat.le_succ _, by simp only [List.length_append, List.length_singleton]; omega⟩
theorem eq3b {a b c x y z : ByteArray} (r : Bool) (h : (decide (a = x) && decide (b = y) && decide (c = z)) = r) (w : World) : (Op.equalIn 10000 61 (.agg [.string a, .string b, .string c].toArray) (.agg [.string x, .string y, .string z].toArray)).run Try.prog w = .ok r w := by
  rw [eq3, h]
theorem LS_len (b o t : List GTag) : ∀ i, (LS b o t i).length ≤ ((List.range i).map fun j => (sd b o t j).length).sum
  | 0 => Nat.le_refl _
  | i + 1 => by
    have h1 := LS_len b o t i
    have h2 := sideK_len i (sd b o t i) (LS b o t i)
    rw [List.range_succ, List.map_append, List.sum_append]
    simp only [List.map_cons, List.map_nil, List.sum_cons, List.sum_nil]
    show (sideK i (LS b o t i) (sd b o t i)).length ≤ _
    omega
theorem drop_a {E E' : Env} {x y a c : Ob} {L : List M3} (hE : EOk E ((905, a) :: (906, c) :: hM L) E') (ha : ∀ r ∈ a.rows, ∀ v ∈ r, Clo ((905, a) :: (906, c) :: hM L) v) (hc : ∀ r ∈ c.rows, ∀ v ∈ r, Clo ((905, a) :: (906, c) :: hM L) v) : Ent [] E ((18, x) :: (18, y) :: (905, a) :: (906, c) :: hM L) E' ((905, a) :: (906, c) :: hM L) := by
  refine Ent.front' (K := hM L) [(18, x), (18, y), (905, a), (906, c)] [(905, a), (906, c)] hE ?_ ?_ (ClosedL.spec ⟨ha, hc, trivial⟩) (hM_closed L) ?_
  · intro q hq
    simp only [List.mem_cons, List.not_mem_nil, or_false] at hq
    rcases hq with rfl | rfl | rfl | rfl
    · exact .inr (hM_none (id := 18) (by decide) (by decide))
    · exact .inr (hM_none (id := 18) (by decide) (by decide))
    · exact .inl rfl
    · exact .inl rfl
  · intro q hq
    simp only [List.mem_cons, List.not_mem_nil, or_false] at hq
    rcases hq with rfl | rfl <;> rfl
  · intro q hq
    simp only [List.mem_cons, List.not_mem_nil, or_false] at hq
    rcases hq with rfl | rfl | rfl | rfl
    · exact .inr rfl
    · exact .inr rfl
    · exact .inl rfl
    · exact .inl rfl
theorem drop_b {E E' : Env} {x y a c c' : Ob} {L : List M3} (hE : EOk E ((905, a) :: (906, c') :: hM L) E') (ha : ∀ r ∈ a.rows, ∀ v ∈ r, Clo ((905, a) :: (906, c') :: hM L) v) (hc : ∀ r ∈ c'.rows, ∀ v ∈ r, Clo ((905, a) :: (906, c') :: hM L) v) : Ent [] E ((906, c') :: (18, x) :: (18, y) :: (905, a) :: (906, c) :: hM L) E' ((905, a) :: (906, c') :: hM L) := by
  refine Ent.front' (K := hM L) [(906, c'), (18, x), (18, y), (905, a), (906, c)] [(905, a), (906, c')] hE ?_ ?_ (ClosedL.spec ⟨ha, hc, trivial⟩) (hM_closed L) ?_
  · intro q hq
    simp only [List.mem_cons, List.not_mem_nil, or_false] at hq
    rcases hq with rfl | rfl | rfl | rfl | rfl
    · exact .inl rfl
    · exact .inr (hM_none (id := 18) (by decide) (by decide))
    · exact .inr (hM_none (id := 18) (by decide) (by decide))
    · exact .inl rfl
    · exact .inl rfl
  · intro q hq
    simp only [List.mem_cons, List.not_mem_nil, or_false] at hq
    rcases hq with rfl | rfl <;> rfl
  · intro q hq
    simp only [List.mem_cons, List.not_mem_nil, or_false] at hq
    rcases hq with rfl | rfl | rfl | rfl | rfl
    · exact .inl rfl
    · exact .inr rfl
    · exact .inr rfl
    · exact .inl rfl
    · exact .inl rfl
theorem merge0_c (b o t : List GTag) (hb : okTags b) (ho : okTags o) (ht : okTags t) (hlb : b.length < 68719476736) (hlo : o.length < 68719476736) (hlt : t.length < 68719476736) : ACalls Try.prog 13 [.pv (slTags b), .pv (slTags o), .pv (slTags t)] [] (fun r H' => r = .tup [.pv (slTags (gMerge b o t).1), .pv (slStrs (gMerge b o t).2)] ∧ H' = []) := by
  refine ACalls.body Try.func13 rfl Try.ntmps13 (Nat.le_of_ble_eq_true rfl) ?_
  refine awp_seq ?_
  refine awp_region ?_
  refine al_d rfl rfl rfl (by exact opd_assign rfl rfl) ?_
  refine al_d rfl rfl rfl (by exact opd_assign rfl rfl) ?_
  refine al_nil ?_
  refine awp_seq ?_
  refine awp_region ?_
  refine al_d rfl rfl rfl (by exact opd_move rfl rfl) ?_
  refine al_d rfl rfl rfl (by exact opd_move rfl rfl) ?_
  refine al_d rfl rfl rfl (by exact opd_move rfl rfl) ?_
  refine al_d rfl rfl rfl (by exact x_build_arr rfl ao58 rfl rfl) ?_
  refine al_d rfl rfl rfl (by exact x_alloc (id := 8) rfl zo58 rfl rfl) ?_
  refine al_n rfl rfl (by exact (by exact x_store_all rfl Try.sizeOf58 rfl rfl rfl rfl rfl rfl rfl rfl)) ?_
  refine al_nil ?_
  refine awp_seq ?_
  refine awp_region ?_
  refine al_d rfl rfl rfl (by exact opd_makeMap (id := 950) strK rfl rfl) ?_
  refine al_d rfl rfl rfl (by exact opd_assign rfl rfl) ?_
  refine al_nil ?_
  refine awp_seq ?_
  refine awp_seq ?_
  refine awp_region ?_
  refine al_d rfl rfl rfl (by exact (by exact opd_loadn_ref rfl Try.isAgg58 Try.sizeOf58 rfl rfl rfl rfl (by simp only [List.drop_succ_cons, List.drop_zero, List.take_succ_cons, List.take_zero, List.take_nil, List.map_cons, List.map_nil, List.set_cons_zero, List.set_cons_succ, List.cons_append, List.nil_append, encTag, encStr]; rfl) rfl)) ?_
  refine al_d rfl rfl rfl (by exact opd_move rfl rfl) ?_
  refine al_nil ?_
  refine awp_block ?_
  -- loop
  refine awp_loop (σ := Nat) (fun i => ([(9, .mp 950 0), (25, sidesV b o t), (26, iv (i : Int))], hM (LS b o t i))) (fun i => i ≤ 3 ∧ ∀ j, j < i → gTags (sd b o t j) = true) (fun i => 3 - i) 0 ⟨by omega, by omega⟩ ?_ ?_
  · exact (Ent.wk ⟨⟨_, rfl, rfl⟩, (by (simp; rfl)), ⟨_, rfl, rfl⟩, (by (simp [sidesV]; done)), ⟨_, rfl, rfl⟩, (by (simp; done)), trivial⟩ ⟨⟨_, rfl, rfl⟩, (by (intro r hr; cases hr; done)), trivial⟩ trivial)
  · rintro i ⟨hi, hv⟩
    refine awp_seq ?_
    refine awp_region ?_
    refine al_d rfl rfl rfl (by exact opd_lss rfl rfl rfl) ?_
    refine al_nil ?_
    refine awp_seq ?_
    refine awp_cond rfl (fun hc1 => ?_) (fun hc1 => ?_)
    -- cond 1
    · skip
      have hi3 : i < 3 := by have := of_decide_eq_true hc1; omega
      have hsd : okTags (sd b o t i) := by
        match i with
        | 0 => exact hb
        | 1 => exact ho
        | n + 2 => exact ht
      have hidx : [AV.pv (slTags b), .pv (slTags o), .pv (slTags t)][i]? = some (.pv (slTags (sd b o t i))) := by
        match i, hi3 with
        | 0, _ => rfl
        | 1, _ => rfl
        | 2, _ => rfl
      refine awp_skip ?_
      refine awp_seq ?_
      refine awp_block ?_
      refine awp_seq ?_
      refine awp_region ?_
      refine al_d rfl rfl rfl (by exact opd_move rfl rfl) ?_
      refine al_d rfl rfl rfl (by exact opd_index_agg rfl Try.underlying58 Try.sizeOf22 Try.isAgg22 rfl rfl (by omega) (Int.toNat_natCast _) hi3 hidx) ?_
      refine al_d rfl rfl rfl (by exact opd_assign rfl rfl) ?_
      refine al_d rfl rfl rfl (by exact opd_assign rfl rfl) ?_
      refine al_nil ?_
      refine awp_seq ?_
      refine awp_seq ?_
      refine awp_region ?_
      refine al_d rfl rfl rfl (by exact opd_move rfl rfl) ?_
      refine al_d rfl rfl rfl (by exact opr_call rfl rfl Try.call23 rfl (tagValid_c (sd b o t i) _ hsd)) ?_
      refine al_d rfl rfl rfl (by exact opd_not rfl rfl) ?_
      refine al_nil ?_
      refine awp_cond rfl (fun hc2 => ?_) (fun hc2 => ?_)
      -- cond 2
      · have hbad : gTags (sd b o t i) = false := by have h := hc2; rwa [Bool.not_eq_true'] at h
        have e : gMerge b o t = ([], []) := by
          rw [gMerge, if_neg]
          intro h
          rw [Bool.and_eq_true, Bool.and_eq_true] at h
          match i, hi3 with
          | 0, _ => rw [show sd b o t 0 = b from rfl, h.1.1] at hbad; cases hbad
          | 1, _ => rw [show sd b o t 1 = o from rfl, h.1.2] at hbad; cases hbad
          | 2, _ => rw [show sd b o t 2 = t from rfl, h.2] at hbad; cases hbad
        rw [e]
        refine awp_seq ?_
        refine awp_region ?_
        refine al_d rfl rfl rfl (by exact opd_assign rfl rfl) ?_
        refine al_d rfl rfl rfl (by exact opd_assign rfl rfl) ?_
        refine al_nil ?_
        refine awp_ret ?_
        -- return
        refine aret2 (H' := []) (by exact .inr rfl) rfl (rval_tmp rfl) (rval_tmp rfl) (Fin.wk (by simp; done) trivial trivial) ?_
        exact ⟨rfl, rfl⟩
      · have hok : gTags (sd b o t i) = true := by have h := hc2; rwa [Bool.not_eq_false'] at h
        have hkb := hsd.1
        have hml : ((sd b o t i).map encTag).length = (sd b o t i).length := List.length_map _
        refine awp_skip ?_
        refine awp_seq ?_
        refine awp_region ?_
        refine al_d rfl rfl rfl (by exact opd_move rfl rfl) ?_
        refine al_d rfl rfl rfl (by exact (by exact opd_len_sl rfl Try.underlying22 rfl)) ?_
        refine al_d rfl rfl rfl (by exact opd_move rfl rfl) ?_
        refine al_nil ?_
        refine awp_block ?_
        -- loop
        refine awp_loop (σ := Nat) (fun k => ([(9, .mp 950 0), (25, sidesV b o t), (26, iv (i : Int)), (10, iv (i : Int)), (33, .pv (slTags (sd b o t i))), (34, iv ((sd b o t i).length : Int)), (35, iv (k : Int))], hM (sideK i (LS b o t i) ((sd b o t i).take k)))) (fun k => k ≤ (sd b o t i).length) (fun k => (sd b o t i).length - k) 0 (Nat.zero_le _) ?_ ?_
        · rw [List.take_zero]
          exact Ent.e0 ⟨⟨_, rfl, rfl⟩, ⟨_, rfl, rfl⟩, ⟨_, rfl, rfl⟩, ⟨_, rfl, rfl⟩, ⟨_, rfl, rfl⟩, ⟨_, rfl, by rw [hml]⟩, ⟨_, rfl, rfl⟩, trivial⟩
        · intro k hk
          refine awp_seq ?_
          refine awp_region ?_
          refine al_d rfl rfl rfl (by exact opd_lss rfl rfl rfl) ?_
          refine al_nil ?_
          refine awp_seq ?_
          refine awp_cond rfl (fun hc3 => ?_) (fun hc3 => ?_)
          -- cond 3
          · have hk2 : k < (sd b o t i).length := by have := of_decide_eq_true hc3; omega
            obtain ⟨g, hg⟩ : ∃ g, (sd b o t i)[k]? = some g := ⟨_, List.getElem?_eq_getElem hk2⟩
            have hgm : ((sd b o t i).map encTag)[k]? = some (encTag g) := by rw [List.getElem?_map, hg]; rfl
            obtain ⟨L, hL⟩ : ∃ L, L = sideK i (LS b o t i) ((sd b o t i).take k) := ⟨_, rfl⟩
            have hd : (L.map M3.k).Nodup := by rw [hL]; exact sideK_nodup _ (LS_nodup b o t i)
            have hnext : sideK i (LS b o t i) ((sd b o t i).take (k + 1)) = setK i g.key g.val (addK L g.key) := by rw [take_snoc hg, sideK_snoc, ← hL]; rfl
            have h13 : ∀ (M : List M3), Heap.get (hM M) 13 = none := fun M => hM_none (by decide) (by decide)
            rw [← hL]
            refine awp_skip ?_
            refine awp_seq ?_
            refine awp_block ?_
            refine awp_seq ?_
            refine awp_region ?_
            refine al_d rfl rfl rfl (by exact (by exact x_index_pad rfl so22 rfl rfl (by omega) (by exact Int.toNat_natCast _) hgm rfl)) ?_
            refine al_d rfl rfl rfl (by exact (by exact opd_loadn_pad rfl Try.isAgg46 Try.sizeOf46 rfl hgm (by simp only [List.drop_succ_cons, List.drop_zero, List.take_succ_cons, List.take_zero, List.take_nil, List.map_cons, List.map_nil, List.set_cons_zero, List.set_cons_succ, List.cons_append, List.nil_append, encTag, encStr]; rfl) rfl)) ?_
            refine al_d rfl rfl rfl (by exact x_alloc (id := 13) rfl zo46 rfl (h13 L)) ?_
            refine al_n rfl rfl (by exact (by exact x_store_all rfl Try.sizeOf46 rfl rfl rfl rfl rfl rfl rfl rfl)) ?_
            refine al_nil ?_
            refine awp_seq_ex (fun (q : Nat × M3) => ([(9, .mp 950 0), (25, sidesV b o t), (26, iv (i : Int)), (10, iv (i : Int)), (33, .pv (slTags (sd b o t i))), (34, iv ((sd b o t i).length : Int)), (35, iv (k : Int)), (13, .ref 13 0 0 0)], (13, bx 2 46 [sv g.key, sv g.val]) :: hM (addK L g.key))) (fun q => (addK L g.key)[q.1]? = some q.2 ∧ q.2.k = g.key) ?_ ?_
            -- seqex
            · skip
              refine awp_seq ?_
              -- before the slot
              refine AWp.ent (E' := [(9, .mp 950 0), (25, sidesV b o t), (26, iv (i : Int)), (10, iv (i : Int)), (33, .pv (slTags (sd b o t i))), (34, iv ((sd b o t i).length : Int)), (35, iv (k : Int)), (13, .ref 13 0 0 0)]) (H' := (13, bx 2 46 [sv g.key, sv g.val]) :: hM L) (Ent.get' ⟨⟨_, rfl, rfl⟩, ⟨_, rfl, rfl⟩, ⟨_, rfl, rfl⟩, ⟨_, rfl, rfl⟩, ⟨_, rfl, rfl⟩, ⟨_, rfl, rfl⟩, ⟨_, rfl, rfl⟩, ⟨_, rfl, rfl⟩, trivial⟩ (fun j => get_dup 13 _ _ _ j)) ?_
              refine awp_region ?_
              refine al_d rfl rfl rfl (by exact opd_move rfl rfl) ?_
              refine al_d rfl rfl rfl (by exact (by exact opd_field_ref rfl fo46_0 rfl rfl rfl rfl)) ?_
              refine al_d rfl rfl rfl (by exact (by exact opd_load1_ref rfl Try.isAgg9 rfl rfl rfl rfl rfl)) ?_
              refine al_d rfl rfl rfl (by exact x_lookup_v (κ := strK) (k := g.key) (l := mR 0 L) rfl Try.underlying59 Try.underlying9 rfl rfl rfl rfl rfl Try.zeroValue60 (.inl rfl) (show (mget (mR 0 L) g.key).getD (.pv .nilp) = look3 L g.key from rfl)) ?_
              refine al_d rfl rfl rfl (by exact x_peq_or rfl Try.underlying60 rfl rfl (look3_or hd g.key (fun id h => get_cons_other _ _ (by omega)))) ?_
              refine al_nil ?_
              refine awp_cond rfl (fun hc4 => ?_) (fun hc4 => ?_)
              -- cond 4
              · have hmem : g.key ∉ L.map M3.k := fun e => by rw [inB_mem.2 e] at hc4; cases hc4
                obtain ⟨j, p, hj, hp⟩ := addK_at L g.key
                refine awp_region ?_
                refine al_d rfl rfl rfl (by exact opd_move rfl rfl) ?_
                refine al_d rfl rfl rfl (by exact (by exact opd_field_ref rfl fo46_0 rfl rfl rfl rfl)) ?_
                refine al_d rfl rfl rfl (by exact (by exact opd_load1_ref rfl Try.isAgg9 rfl rfl rfl rfl rfl)) ?_
                refine al_d rfl rfl rfl (by exact x_alloc (id := (0 + L.length + 960)) rfl zo61 rfl ((get_cons_other _ _ (by omega)).trans (hM_new L))) ?_
                refine al_n rfl rfl (by exact x_mapUpdate (κ := strK) (.inl rfl) Try.underlying59 Try.underlying9 rfl ((get_cons_other _ _ (by omega)).trans rfl) rfl rfl rfl rfl rfl rfl) ?_
                refine al_nil ?_
                -- end of the piece
                refine ⟨(j, p), ⟨hj, hp⟩, Ent.get' ⟨⟨_, rfl, rfl⟩, ⟨_, rfl, rfl⟩, ⟨_, rfl, rfl⟩, ⟨_, rfl, rfl⟩, ⟨_, rfl, rfl⟩, ⟨_, rfl, rfl⟩, ⟨_, rfl, rfl⟩, ⟨_, rfl, rfl⟩, trivial⟩ (fun j => ?_)⟩
                refine (get_under (hM_add hmem) j).trans ?_
                exact (get_swap (by decide) j).trans (get_under (get_swap (by omega)) j)
              · have hmem : g.key ∈ L.map M3.k := inB_mem.1 (by have h := hc4; rwa [Bool.not_eq_false'] at h)
                obtain ⟨j, p, hj, hp⟩ := addK_at L g.key
                refine awp_skip ?_
                -- end of the piece
                refine ⟨(j, p), ⟨hj, hp⟩, ?_⟩
                dsimp only
                rw [addK_in hmem]
                exact Ent.e0 ⟨⟨_, rfl, rfl⟩, ⟨_, rfl, rfl⟩, ⟨_, rfl, rfl⟩, ⟨_, rfl, rfl⟩, ⟨_, rfl, rfl⟩, ⟨_, rfl, rfl⟩, ⟨_, rfl, rfl⟩, ⟨_, rfl, rfl⟩, trivial⟩
            · rintro ⟨j, p⟩ ⟨hj, hp⟩
              dsimp only at hj hp
              obtain ⟨M, hM'⟩ : ∃ M, M = addK L g.key := ⟨_, rfl⟩
              have hdM : (M.map M3.k).Nodup := by rw [hM']; exact addK_nodup hd
              rw [← hM'] at hj hnext
              have hget : Heap.get ((13, bx 2 46 [sv g.key, sv g.val]) :: hM M) (0 + j + 960) = some (b3 p) := (get_cons_other _ _ (by omega)).trans (hM_at hj)
              have hlk : (mget (mR 0 M) g.key).getD (.pv .nilp) = .ref (0 + j + 960) 0 0 0 := by rw [← hp]; exact look3_at hdM hj
              rw [← hM']
              refine awp_drawc follows ?_
              refine dc_cons (r := ⟨_, none, []⟩) (DStep.plain rfl (fun H1 hH => by exact opd_move rfl rfl)) rfl ?_
              refine dc_cons (r := ⟨_, none, []⟩) (DStep.plain rfl (fun H1 hH => by exact (by exact opd_field_ref rfl fo46_0 rfl ((hH _ rfl).trans rfl) rfl rfl))) rfl ?_
              refine dc_cons (r := ⟨_, none, []⟩) (DStep.plain rfl (fun H1 hH => by exact (by exact opd_load1_ref rfl Try.isAgg9 rfl ((hH _ rfl).trans rfl) rfl rfl rfl))) rfl ?_
              refine dc_cons (r := ⟨_, none, []⟩) (DStep.plain rfl (fun H1 hH => by exact x_lookup_v (κ := strK) (k := g.key) (l := mR 0 M) rfl Try.underlying59 Try.underlying9 rfl ((hH _ rfl).trans rfl) rfl rfl rfl Try.zeroValue60 (.inl rfl) hlk)) rfl ?_
              refine dc_cons (r := ⟨_, none, []⟩) (DStep.plain rfl (fun H1 hH => by exact opd_move rfl rfl)) rfl ?_
              refine dc_cons (r := ⟨_, none, []⟩) (DStep.plain rfl (fun H1 hH => by exact (by exact opd_field_ref rfl fo46_1 rfl ((hH _ rfl).trans rfl) rfl rfl))) rfl ?_
              refine dc_cons (r := ⟨_, none, []⟩) (DStep.plain rfl (fun H1 hH => by exact (by exact opd_load1_ref rfl Try.isAgg9 rfl ((hH _ rfl).trans rfl) rfl rfl rfl))) rfl ?_
              refine dc_cons (r := ⟨_, none, []⟩) (DStep.plain rfl (fun H1 hH => by exact opd_nilCheck_ref rfl rfl ((hH _ rfl).trans hget) rfl)) rfl ?_
              refine dc_cons (r := ⟨_, none, []⟩) (DStep.plain rfl (fun H1 hH => by exact opd_index_arr (k2 := i) rfl Try.underlying61 Try.sizeOf9 rfl ((hH _ rfl).trans hget) rfl rfl (by omega) (Int.toNat_natCast _) hi3 (by omega))) rfl ?_
              refine dc_cons (r := ⟨_, none, [_]⟩) (DStep.plain rfl (fun H1 hH => by exact x_store1 rfl Try.sizeOf9 rfl rfl rfl ((hH _ rfl).trans hget) rfl rfl hi3 (up_row i g.val p hi3) rfl)) rfl ?_
              refine dc_nil ⟨by kernel_rfl, ?_⟩
              refine awp_region ?_
              refine al_d rfl rfl rfl (by exact opd_add rfl rfl rfl (by exact w64 (by omega) (by omega))) ?_
              refine al_d rfl rfl rfl (by exact opd_move rfl rfl) ?_
              refine al_nil ?_
              -- end of a round
              have hset : ∀ x, Heap.get (hM (setK i g.key g.val M)) x = Heap.get ((0 + j + 960, b3 (p.up i g.val)) :: hM M) x := by
                rw [← hp]
                exact hM_set hdM hj
              refine ⟨k + 1, hk2, by omega, ?_⟩
              dsimp only
              rw [hnext]
              refine (Ent.get' (H' := (13, bx 2 46 [sv g.key, sv g.val]) :: hM (setK i g.key g.val M)) (E' := [(9, .mp 950 0), (25, sidesV b o t), (26, iv (i : Int)), (10, iv (i : Int)), (33, .pv (slTags (sd b o t i))), (34, iv ((sd b o t i).length : Int)), (35, iv ((k + 1 : Nat) : Int))]) ⟨⟨_, rfl, rfl⟩, ⟨_, rfl, rfl⟩, ⟨_, rfl, rfl⟩, ⟨_, rfl, rfl⟩, ⟨_, rfl, rfl⟩, ⟨_, rfl, rfl⟩, ⟨_, rfl, rfl⟩, trivial⟩ (fun x => (get_under hset x).trans (get_swap (by omega) x))).trans ?_
              exact Ent.front' [(13, bx 2 46 [sv g.key, sv g.val])] [] ⟨⟨_, rfl, rfl⟩, (by (simp; rfl)), ⟨_, rfl, rfl⟩, (by (simp [sidesV]; done)), ⟨_, rfl, rfl⟩, (by (simp; done)), ⟨_, rfl, rfl⟩, (by (simp; done)), ⟨_, rfl, rfl⟩, (by (simp; done)), ⟨_, rfl, rfl⟩, (by (simp; done)), ⟨_, rfl, rfl⟩, (by (simp; done)), trivial⟩ (by intro q hq; rw [List.mem_singleton] at hq; subst hq; exact .inr (h13 _)) (by simp) (by simp) (hM_closed _) (by intro q hq; rw [List.mem_singleton] at hq; subst hq; exact .inr rfl)
          · have hkl : k = (sd b o t i).length := by have := of_decide_eq_false hc3; omega
            subst hkl
            rw [List.take_length]
            refine awp_exit ?_
            refine awp_region ?_
            refine al_d rfl rfl rfl (by exact opd_add rfl rfl rfl (by exact w64 (by omega) (by omega))) ?_
            refine al_d rfl rfl rfl (by exact opd_move rfl rfl) ?_
            refine al_nil ?_
            -- end of a round
            refine ⟨i + 1, ⟨by omega, ?_⟩, by omega, Ent.e0 ⟨⟨_, rfl, rfl⟩, ⟨_, rfl, rfl⟩, ⟨_, rfl, rfl⟩, trivial⟩⟩
            intro j hj
            rcases Nat.lt_or_ge j i with h | h
            · exact hv j h
            · obtain rfl : j = i := by omega
              exact hok
    · have hi3 : i = 3 := by have := of_decide_eq_false hc1; omega
      subst hi3
      obtain ⟨L, hL⟩ : ∃ L, L = all3 b o t := ⟨_, rfl⟩
      have hLS : LS b o t 3 = L := hL.symm
      have hd : (L.map M3.k).Nodup := by rw [hL]; exact all3_nodup b o t
      have hLl : L.length < 206158430208 := by
        have h := LS_len b o t 3
        rw [hLS] at h
        simp only [List.range, List.range.loop, List.map_cons, List.map_nil, List.sum_cons, List.sum_nil, sd] at h
        omega
      have hG : gMerge b o t = (srt3 L).foldl mStep ([], []) := by
        rw [gMerge, if_pos, ← hL]
        rw [Bool.and_eq_true, Bool.and_eq_true]
        exact ⟨⟨hv 0 (by decide), hv 1 (by decide)⟩, hv 2 (by decide)⟩
      have hmR : (mR 0 L).length = L.length := mR_len L 0
      obtain ⟨S, hS⟩ : ∃ S, S = sortS (L.map M3.k) := ⟨_, rfl⟩
      have hSk : sortS ((mR 0 L).map Prod.fst) = S := by rw [mR_keys, hS]
      have hSl : S.length = L.length := by rw [hS, sortS_length, List.length_map]
      have hn : ∀ n, n ≠ 950 → n < 960 → Heap.get (hM L) n = none := fun n h1 h2 => hM_none h1 h2
      rw [hG, hLS]
      have h951 : Heap.get ((906, ⟨0, 1, 9, []⟩) :: (905, ⟨0, 2, 46, []⟩) :: hM L) 951 = none := (get_cons_other _ _ (by decide)).trans ((get_cons_other _ _ (by decide)).trans (hn _ (by decide) (by decide)))
      obtain ⟨K, hK⟩ : ∃ K, K = ((951, mB) :: (906, ⟨0, 1, 9, []⟩) :: (905, ⟨0, 2, 46, []⟩) :: hM L : Heap) := ⟨_, rfl⟩
      have hKn : ∀ n, n ≠ 951 → n ≠ 906 → n ≠ 905 → n ≠ 950 → n < 960 → Heap.get K n = none := fun n h1 h2 h3 h4 h5 => by
        rw [hK, get_cons_other _ _ h1, get_cons_other _ _ h2, get_cons_other _ _ h3, hn n h4 h5]
      have hKc : Closed K := by
        rw [hK]
        refine Closed.app (D := [(951, mB), (906, ⟨0, 1, 9, []⟩), (905, ⟨0, 2, 46, []⟩)]) (ClosedL.spec ⟨?_, (by intro r h; cases h), (by intro r h; cases h), trivial⟩) (hM_closed L)
        intro r hr a ha
        simp only [mB, bx, List.mem_singleton] at hr
        subst hr
        rw [List.mem_singleton] at ha
        subst ha
        exact .mp rfl
      have hsc := sorted_c (mR 0 L) K (by omega) (hKn _ (by decide) (by decide) (by decide) (by decide) (by decide)) (hKn _ (by decide) (by decide) (by decide) (by decide) (by decide)) (hKn _ (by decide) (by decide) (by decide) (by decide) (by decide)) (hKn _ (by decide) (by decide) (by decide) (by decide) (by decide)) (by rw [hK]; rfl) (by rw [hK]; rfl) hKc
      rw [hSk, hK] at hsc
      refine awp_exit ?_
      refine awp_seq ?_
      refine awp_region ?_
      refine al_d rfl rfl rfl (by exact opd_assign_own (id := 905) (sz := 2) (ty := 46) rfl (hn _ (by decide) (by decide)) rfl) ?_
      refine al_nil ?_
      refine awp_seq ?_
      refine awp_region ?_
      refine al_d rfl rfl rfl (by exact opd_assign_own (id := 906) (sz := 1) (ty := 9) rfl ((get_cons_other _ _ (by decide)).trans (hn _ (by decide) (by decide))) rfl) ?_
      refine al_nil ?_
      refine awp_seq ?_
      refine awp_seq ?_
      refine awp_region ?_
      refine al_d rfl rfl rfl (by exact opd_move rfl rfl) ?_
      refine al_d rfl rfl rfl (by exact opr_call rfl rfl Try.call36 rfl (keys_c _ h951)) ?_
      refine al_d rfl rfl rfl (by exact opr_call rfl rfl Try.call35 rfl (hsc)) ?_
      refine al_d rfl rfl rfl (by exact (by exact opd_len_sl rfl Try.underlying28 rfl)) ?_
      refine al_d rfl rfl rfl (by exact opd_move rfl rfl) ?_
      refine al_nil ?_
      refine awp_block ?_
      -- loop
      refine awp_loop (σ := Nat) (fun k => ([(9, .mp 950 0), (61, .pv (slStrs S)), (62, iv (S.length : Int)), (63, iv (k : Int)), (14, .osl 905 (((srt3 L).take k).foldl mStep ([], [])).1.length 0 (((srt3 L).take k).foldl mStep ([], [])).1.length), (15, .osl 906 (((srt3 L).take k).foldl mStep ([], [])).2.length 0 (((srt3 L).take k).foldl mStep ([], [])).2.length)],
        (905, ⟨(((srt3 L).take k).foldl mStep ([], [])).1.length, 2, 46, tgRows (((srt3 L).take k).foldl mStep ([], [])).1⟩) :: (906, ⟨(((srt3 L).take k).foldl mStep ([], [])).2.length, 1, 9, wRows (((srt3 L).take k).foldl mStep ([], [])).2⟩) :: hM L))
        (fun k => k ≤ S.length ∧ (((srt3 L).take k).foldl mStep ([], [])).1.length ≤ k ∧ (((srt3 L).take k).foldl mStep ([], [])).2.length ≤ 2 * k) (fun k => S.length - k) 0 ⟨Nat.zero_le _, Nat.le_refl _, Nat.le_refl _⟩ ?_ ?_
      · rw [List.take_zero]
        refine Ent.front' [(951, mB), (906, ⟨0, 1, 9, []⟩), (905, ⟨0, 2, 46, []⟩)] [(905, ⟨0, 2, 46, []⟩), (906, ⟨0, 1, 9, []⟩)] ?_ ?_ ?_ (ClosedL.spec ⟨(by intro r h; cases h), (by intro r h; cases h), trivial⟩) (hM_closed L) ?_
        · exact ⟨⟨_, rfl, rfl⟩, .mp rfl, ⟨_, rfl, rfl⟩, .pv _, ⟨_, rfl, by rw [List.length_map]⟩, .pv _, ⟨_, rfl, rfl⟩, .pv _, ⟨_, rfl, rfl⟩, .osl rfl, ⟨_, rfl, rfl⟩, .osl rfl, trivial⟩
        · intro q hq
          simp only [List.mem_cons, List.not_mem_nil, or_false] at hq
          rcases hq with rfl | rfl | rfl
          · exact .inr (hn _ (by decide) (by decide))
          · exact .inl rfl
          · exact .inl rfl
        · intro q hq
          simp only [List.mem_cons, List.not_mem_nil, or_false] at hq
          rcases hq with rfl | rfl
          · rfl
          · rfl
        · intro q hq
          simp only [List.mem_cons, List.not_mem_nil, or_false] at hq
          rcases hq with rfl | rfl | rfl
          · exact .inr rfl
          · exact .inl rfl
          · exact .inl rfl
      · rintro k ⟨hk, hkA, hkC⟩
        obtain ⟨A, C, hAC⟩ : ∃ A C, ((srt3 L).take k).foldl mStep ([], []) = (A, C) := ⟨_, _, rfl⟩
        rw [hAC] at hkA hkC ⊢
        dsimp only at hkA hkC
        refine awp_seq ?_
        refine awp_region ?_
        refine al_d rfl rfl rfl (by exact opd_lss rfl rfl rfl) ?_
        refine al_nil ?_
        refine awp_seq ?_
        refine awp_cond rfl (fun hc5 => ?_) (fun hc5 => ?_)
        -- cond 5
        · have hk2 : k < S.length := by have h := of_decide_eq_true hc5; omega
          obtain ⟨s, hs⟩ : ∃ s, S[k]? = some s := ⟨_, List.getElem?_eq_getElem hk2⟩
          have hsm : (S.map encStr)[k]? = some (encStr s) := map_get hs
          have hsk : s ∈ L.map M3.k := by
            have h := List.mem_of_getElem? hs
            rw [hS] at h
            exact (sortS_perm _).mem_iff.1 h
          obtain ⟨hpk, j, hj⟩ := ent3_at hsk
          have hsp : (srt3 L)[k]? = some (ent3 L s) := by rw [srt3, ← hS, List.getElem?_map, hs]; rfl
          obtain ⟨p, hp⟩ : ∃ p, p = ent3 L s := ⟨_, rfl⟩
          rw [← hp] at hpk hj hsp
          have hnext : ((srt3 L).take (k + 1)).foldl mStep ([], []) = mStep (A, C) p := by rw [take_snoc hsp, List.foldl_append, hAC]; rfl
          have hP1 : ((A, C) : List GTag × List ByteArray).1.length = A.length := rfl
          have hP2 : ((A, C) : List GTag × List ByteArray).2.length = C.length := rfl
          have hlens := mStep_len (A, C) p
          dsimp only at hlens
          have hcl := mConf_len C p
          have hget : Heap.get ((905, ⟨A.length, 2, 46, tgRows A⟩) :: (906, ⟨C.length, 1, 9, wRows C⟩) :: hM L) (0 + j + 960) = some (b3 p) := (get_cons_other _ _ (by omega)).trans ((get_cons_other _ _ (by omega)).trans (hM_at hj))
          have h18 : Heap.get ((905, ⟨A.length, 2, 46, tgRows A⟩) :: (906, ⟨C.length, 1, 9, wRows C⟩) :: hM L) 18 = none := (get_cons_other _ _ (by decide)).trans ((get_cons_other _ _ (by decide)).trans (hn _ (by decide) (by decide)))
          have hlk : (mget (mR 0 L) s).getD (.pv .nilp) = .ref (0 + j + 960) 0 0 0 := by rw [← hpk]; exact look3_at hd hj
          refine awp_skip ?_
          refine awp_seq ?_
          refine awp_block ?_
          refine awp_seq ?_
          refine awp_region ?_
          refine al_d rfl rfl rfl (by exact (by exact x_index_pad rfl so28 rfl rfl (by omega) (by exact Int.toNat_natCast _) hsm rfl)) ?_
          refine al_d rfl rfl rfl (by exact (by exact opd_load1_pad rfl Try.isAgg9 rfl hsm rfl)) ?_
          refine al_d rfl rfl rfl (by exact opd_assign rfl rfl) ?_
          refine al_nil ?_
          refine awp_seq ?_
          refine awp_region ?_
          refine al_d rfl rfl rfl (by exact opd_move rfl rfl) ?_
          refine al_d rfl rfl rfl (by exact opd_move rfl rfl) ?_
          refine al_d rfl rfl rfl (by exact x_lookup_v (κ := strK) (k := s) (l := mR 0 L) rfl Try.underlying59 Try.underlying9 rfl rfl rfl rfl rfl Try.zeroValue60 (.inl rfl) hlk) ?_
          refine al_d rfl rfl rfl (by exact (by exact opd_nilCheck_ref rfl rfl hget rfl)) ?_
          refine al_d rfl rfl rfl (by exact (by exact opd_loadn_ref rfl Try.isAgg61 Try.sizeOf61 rfl hget rfl rfl (by simp only [List.drop_succ_cons, List.drop_zero, List.take_succ_cons, List.take_zero, List.take_nil, List.map_cons, List.map_nil, List.set_cons_zero, List.set_cons_succ, List.cons_append, List.nil_append, encTag, encStr]; rfl) rfl)) ?_
          refine al_d rfl rfl rfl (by exact x_alloc (id := 18) rfl zo61 rfl h18) ?_
          refine al_n rfl rfl (by exact (by exact x_store_all rfl Try.sizeOf61 rfl rfl rfl rfl rfl rfl rfl rfl)) ?_
          refine al_nil ?_
          refine awp_seq ?_
          refine awp_region ?_
          refine al_d rfl rfl rfl (by exact opd_index_arr rfl Try.underlying61 Try.sizeOf9 rfl rfl rfl rfl (by omega) (by exact Int.toNat_natCast _) (by decide) rfl) ?_
          refine al_d rfl rfl rfl (by exact (by exact opd_load1_ref rfl Try.isAgg9 rfl rfl rfl rfl rfl)) ?_
          refine al_d rfl rfl rfl (by exact opd_assign rfl rfl) ?_
          refine al_nil ?_
          refine awp_seq_ex (fun (_ : Unit) => ([(9, .mp 950 0), (61, .pv (slStrs S)), (62, iv (S.length : Int)), (63, iv (k : Int)), (14, .osl 905 A.length 0 A.length), (15, .osl 906 (mConf C p).length 0 (mConf C p).length), (17, sv s), (19, sv (m1 p).1)], (905, ⟨A.length, 2, 46, tgRows A⟩) :: (906, ⟨(mConf C p).length, 1, 9, wRows (mConf C p)⟩) :: hM L)) (fun _ => True) ?_ ?_
          -- seqex
          · skip
            by_cases h1 : p.t = p.o
            · have HC : mConf C p = C := by simp [mConf, m1, h1]
              have HV : (m1 p).1 = p.o := by simp [m1, h1]
              refine awp_block ?_
              refine awp_seq ?_
              refine awp_seq ?_
              refine awp_region ?_
              refine al_d rfl rfl rfl (by exact (by exact opd_loadn_ref rfl Try.isAgg61 Try.sizeOf61 rfl rfl rfl rfl (by simp only [List.drop_succ_cons, List.drop_zero, List.take_succ_cons, List.take_zero, List.take_nil, List.map_cons, List.map_nil, List.set_cons_zero, List.set_cons_succ, List.cons_append, List.nil_append, encTag, encStr]; rfl) rfl)) ?_
              refine al_d rfl rfl rfl (by exact opd_index_arr rfl Try.underlying61 Try.sizeOf9 rfl rfl rfl rfl (by omega) (by exact Int.toNat_natCast _) (by decide) rfl) ?_
              refine al_d rfl rfl rfl (by exact (by exact opd_load1_ref rfl Try.isAgg9 rfl rfl rfl rfl rfl)) ?_
              refine al_d rfl rfl rfl (by exact opd_index_arr rfl Try.underlying61 Try.sizeOf9 rfl rfl rfl rfl (by omega) (by exact Int.toNat_natCast _) (by decide) rfl) ?_
              refine al_d rfl rfl rfl (by exact (by exact opd_load1_ref rfl Try.isAgg9 rfl rfl rfl rfl rfl)) ?_
              refine al_d rfl rfl rfl (by exact opd_index_arr rfl Try.underlying61 Try.sizeOf9 rfl rfl rfl rfl (by omega) (by exact Int.toNat_natCast _) (by decide) rfl) ?_
              refine al_d rfl rfl rfl (by exact (by exact opd_load1_ref rfl Try.isAgg9 rfl rfl rfl rfl rfl)) ?_
              refine al_d rfl rfl rfl (by exact x_build_arr rfl ao61 rfl rfl) ?_
              refine al_d rfl rfl rfl (by exact opd_aeql (b := true) rfl rfl rfl rfl rfl Try.eqGuardType61 (eq3b _ (by simp [h1]))) ?_
              refine al_d rfl rfl rfl (by exact opd_assign rfl rfl) ?_
              refine al_nil ?_
              refine awp_cond rfl (fun hc6 => ?_) (fun hc6 => ?_)
              -- cond 6
              · skip
                refine awp_skip ?_
                refine awp_cond rfl (fun hc7 => ?_) (fun hc7 => ?_)
                -- cond 7
                · skip
                  refine awp_region ?_
                  refine al_d rfl rfl rfl (by exact opd_index_arr rfl Try.underlying61 Try.sizeOf9 rfl rfl rfl rfl (by omega) (by exact Int.toNat_natCast _) (by decide) rfl) ?_
                  refine al_d rfl rfl rfl (by exact (by exact opd_load1_ref rfl Try.isAgg9 rfl rfl rfl rfl rfl)) ?_
                  refine al_d rfl rfl rfl (by exact opd_assign rfl rfl) ?_
                  refine al_nil ?_
                  -- end of the piece
                  refine ⟨(), trivial, ?_⟩
                  dsimp only
                  rw [HC, HV]
                  exact drop_a ⟨⟨_, rfl, rfl⟩, .mp rfl, ⟨_, rfl, rfl⟩, .pv _, ⟨_, rfl, rfl⟩, .pv _, ⟨_, rfl, rfl⟩, .pv _, ⟨_, rfl, rfl⟩, .osl rfl, ⟨_, rfl, rfl⟩, .osl rfl, ⟨_, rfl, rfl⟩, .pv _, ⟨_, rfl, rfl⟩, .pv _, trivial⟩ (tgRows_clo _ _) (wRows_clo _ _)
                · skip
                  cases hc7
              · skip
                cases hc6
            · by_cases h2 : p.t = p.b
              · skip
                have HC : mConf C p = C := by simp [mConf, m1, h1, h2]
                have HV : (m1 p).1 = p.o := by simp [m1, h1, h2]
                refine awp_block ?_
                refine awp_seq ?_
                refine awp_seq ?_
                refine awp_region ?_
                refine al_d rfl rfl rfl (by exact (by exact opd_loadn_ref rfl Try.isAgg61 Try.sizeOf61 rfl rfl rfl rfl (by simp only [List.drop_succ_cons, List.drop_zero, List.take_succ_cons, List.take_zero, List.take_nil, List.map_cons, List.map_nil, List.set_cons_zero, List.set_cons_succ, List.cons_append, List.nil_append, encTag, encStr]; rfl) rfl)) ?_
                refine al_d rfl rfl rfl (by exact opd_index_arr rfl Try.underlying61 Try.sizeOf9 rfl rfl rfl rfl (by omega) (by exact Int.toNat_natCast _) (by decide) rfl) ?_
                refine al_d rfl rfl rfl (by exact (by exact opd_load1_ref rfl Try.isAgg9 rfl rfl rfl rfl rfl)) ?_
                refine al_d rfl rfl rfl (by exact opd_index_arr rfl Try.underlying61 Try.sizeOf9 rfl rfl rfl rfl (by omega) (by exact Int.toNat_natCast _) (by decide) rfl) ?_
                refine al_d rfl rfl rfl (by exact (by exact opd_load1_ref rfl Try.isAgg9 rfl rfl rfl rfl rfl)) ?_
                refine al_d rfl rfl rfl (by exact opd_index_arr rfl Try.underlying61 Try.sizeOf9 rfl rfl rfl rfl (by omega) (by exact Int.toNat_natCast _) (by decide) rfl) ?_
                refine al_d rfl rfl rfl (by exact (by exact opd_load1_ref rfl Try.isAgg9 rfl rfl rfl rfl rfl)) ?_
                refine al_d rfl rfl rfl (by exact x_build_arr rfl ao61 rfl rfl) ?_
                refine al_d rfl rfl rfl (by exact opd_aeql (b := false) rfl rfl rfl rfl rfl Try.eqGuardType61 (eq3b _ (by simp [h1]))) ?_
                refine al_d rfl rfl rfl (by exact opd_assign rfl rfl) ?_
                refine al_nil ?_
                refine awp_cond rfl (fun hc8 => ?_) (fun hc8 => ?_)
                -- cond 8
                · skip
                  cases hc8
                · skip
                  refine awp_region ?_
                  refine al_d rfl rfl rfl (by exact (by exact opd_loadn_ref rfl Try.isAgg61 Try.sizeOf61 rfl rfl rfl rfl (by simp only [List.drop_succ_cons, List.drop_zero, List.take_succ_cons, List.take_zero, List.take_nil, List.map_cons, List.map_nil, List.set_cons_zero, List.set_cons_succ, List.cons_append, List.nil_append, encTag, encStr]; rfl) rfl)) ?_
                  refine al_d rfl rfl rfl (by exact opd_index_arr rfl Try.underlying61 Try.sizeOf9 rfl rfl rfl rfl (by omega) (by exact Int.toNat_natCast _) (by decide) rfl) ?_
                  refine al_d rfl rfl rfl (by exact (by exact opd_load1_ref rfl Try.isAgg9 rfl rfl rfl rfl rfl)) ?_
                  refine al_d rfl rfl rfl (by exact opd_index_arr rfl Try.underlying61 Try.sizeOf9 rfl rfl rfl rfl (by omega) (by exact Int.toNat_natCast _) (by decide) rfl) ?_
                  refine al_d rfl rfl rfl (by exact (by exact opd_load1_ref rfl Try.isAgg9 rfl rfl rfl rfl rfl)) ?_
                  refine al_d rfl rfl rfl (by exact opd_index_arr rfl Try.underlying61 Try.sizeOf9 rfl rfl rfl rfl (by omega) (by exact Int.toNat_natCast _) (by decide) rfl) ?_
                  refine al_d rfl rfl rfl (by exact (by exact opd_load1_ref rfl Try.isAgg9 rfl rfl rfl rfl rfl)) ?_
                  refine al_d rfl rfl rfl (by exact x_build_arr rfl ao61 rfl rfl) ?_
                  refine al_d rfl rfl rfl (by exact opd_aeql (b := true) rfl rfl rfl rfl rfl Try.eqGuardType61 (eq3b _ (by simp [h2]))) ?_
                  refine al_d rfl rfl rfl (by exact opd_assign rfl rfl) ?_
                  refine al_nil ?_
                  refine awp_cond rfl (fun hc9 => ?_) (fun hc9 => ?_)
                  -- cond 9
                  · skip
                    refine awp_region ?_
                    refine al_d rfl rfl rfl (by exact opd_index_arr rfl Try.underlying61 Try.sizeOf9 rfl rfl rfl rfl (by omega) (by exact Int.toNat_natCast _) (by decide) rfl) ?_
                    refine al_d rfl rfl rfl (by exact (by exact opd_load1_ref rfl Try.isAgg9 rfl rfl rfl rfl rfl)) ?_
                    refine al_d rfl rfl rfl (by exact opd_assign rfl rfl) ?_
                    refine al_nil ?_
                    -- end of the piece
                    refine ⟨(), trivial, ?_⟩
                    dsimp only
                    rw [HC, HV]
                    exact drop_a ⟨⟨_, rfl, rfl⟩, .mp rfl, ⟨_, rfl, rfl⟩, .pv _, ⟨_, rfl, rfl⟩, .pv _, ⟨_, rfl, rfl⟩, .pv _, ⟨_, rfl, rfl⟩, .osl rfl, ⟨_, rfl, rfl⟩, .osl rfl, ⟨_, rfl, rfl⟩, .pv _, ⟨_, rfl, rfl⟩, .pv _, trivial⟩ (tgRows_clo _ _) (wRows_clo _ _)
                  · skip
                    cases hc9
              · by_cases h3 : p.o = p.b
                · skip
                  have HC : mConf C p = C := by simp [mConf, m1, h1, h2, h3]
                  have HV : (m1 p).1 = p.t := by simp [m1, h1, h2, h3]
                  refine awp_block ?_
                  refine awp_seq ?_
                  refine awp_seq ?_
                  refine awp_region ?_
                  refine al_d rfl rfl rfl (by exact (by exact opd_loadn_ref rfl Try.isAgg61 Try.sizeOf61 rfl rfl rfl rfl (by simp only [List.drop_succ_cons, List.drop_zero, List.take_succ_cons, List.take_zero, List.take_nil, List.map_cons, List.map_nil, List.set_cons_zero, List.set_cons_succ, List.cons_append, List.nil_append, encTag, encStr]; rfl) rfl)) ?_
                  refine al_d rfl rfl rfl (by exact opd_index_arr rfl Try.underlying61 Try.sizeOf9 rfl rfl rfl rfl (by omega) (by exact Int.toNat_natCast _) (by decide) rfl) ?_
                  refine al_d rfl rfl rfl (by exact (by exact opd_load1_ref rfl Try.isAgg9 rfl rfl rfl rfl rfl)) ?_
                  refine al_d rfl rfl rfl (by exact opd_index_arr rfl Try.underlying61 Try.sizeOf9 rfl rfl rfl rfl (by omega) (by exact Int.toNat_natCast _) (by decide) rfl) ?_
                  refine al_d rfl rfl rfl (by exact (by exact opd_load1_ref rfl Try.isAgg9 rfl rfl rfl rfl rfl)) ?_
                  refine al_d rfl rfl rfl (by exact opd_index_arr rfl Try.underlying61 Try.sizeOf9 rfl rfl rfl rfl (by omega) (by exact Int.toNat_natCast _) (by decide) rfl) ?_
                  refine al_d rfl rfl rfl (by exact (by exact opd_load1_ref rfl Try.isAgg9 rfl rfl rfl rfl rfl)) ?_
                  refine al_d rfl rfl rfl (by exact x_build_arr rfl ao61 rfl rfl) ?_
                  refine al_d rfl rfl rfl (by exact opd_aeql (b := false) rfl rfl rfl rfl rfl Try.eqGuardType61 (eq3b _ (by simp [h1]))) ?_
                  refine al_d rfl rfl rfl (by exact opd_assign rfl rfl) ?_
                  refine al_nil ?_
                  refine awp_cond rfl (fun hc10 => ?_) (fun hc10 => ?_)
                  -- cond 10
                  · skip
                    cases hc10
                  · skip
                    refine awp_region ?_
                    refine al_d rfl rfl rfl (by exact (by exact opd_loadn_ref rfl Try.isAgg61 Try.sizeOf61 rfl rfl rfl rfl (by simp only [List.drop_succ_cons, List.drop_zero, List.take_succ_cons, List.take_zero, List.take_nil, List.map_cons, List.map_nil, List.set_cons_zero, List.set_cons_succ, List.cons_append, List.nil_append, encTag, encStr]; rfl) rfl)) ?_
                    refine al_d rfl rfl rfl (by exact opd_index_arr rfl Try.underlying61 Try.sizeOf9 rfl rfl rfl rfl (by omega) (by exact Int.toNat_natCast _) (by decide) rfl) ?_
                    refine al_d rfl rfl rfl (by exact (by exact opd_load1_ref rfl Try.isAgg9 rfl rfl rfl rfl rfl)) ?_
                    refine al_d rfl rfl rfl (by exact opd_index_arr rfl Try.underlying61 Try.sizeOf9 rfl rfl rfl rfl (by omega) (by exact Int.toNat_natCast _) (by decide) rfl) ?_
                    refine al_d rfl rfl rfl (by exact (by exact opd_load1_ref rfl Try.isAgg9 rfl rfl rfl rfl rfl)) ?_
                    refine al_d rfl rfl rfl (by exact opd_index_arr rfl Try.underlying61 Try.sizeOf9 rfl rfl rfl rfl (by omega) (by exact Int.toNat_natCast _) (by decide) rfl) ?_
                    refine al_d rfl rfl rfl (by exact (by exact opd_load1_ref rfl Try.isAgg9 rfl rfl rfl rfl rfl)) ?_
                    refine al_d rfl rfl rfl (by exact x_build_arr rfl ao61 rfl rfl) ?_
                    refine al_d rfl rfl rfl (by exact opd_aeql (b := false) rfl rfl rfl rfl rfl Try.eqGuardType61 (eq3b _ (by simp [h2]))) ?_
                    refine al_d rfl rfl rfl (by exact opd_assign rfl rfl) ?_
                    refine al_nil ?_
                    refine awp_cond rfl (fun hc11 => ?_) (fun hc11 => ?_)
                    -- cond 11
                    · skip
                      cases hc11
                    · skip
                      refine awp_seq ?_
                      refine awp_region ?_
                      refine al_d rfl rfl rfl (by exact (by exact opd_loadn_ref rfl Try.isAgg61 Try.sizeOf61 rfl rfl rfl rfl (by simp only [List.drop_succ_cons, List.drop_zero, List.take_succ_cons, List.take_zero, List.take_nil, List.map_cons, List.map_nil, List.set_cons_zero, List.set_cons_succ, List.cons_append, List.nil_append, encTag, encStr]; rfl) rfl)) ?_
                      refine al_d rfl rfl rfl (by exact opd_index_arr rfl Try.underlying61 Try.sizeOf9 rfl rfl rfl rfl (by omega) (by exact Int.toNat_natCast _) (by decide) rfl) ?_
                      refine al_d rfl rfl rfl (by exact (by exact opd_load1_ref rfl Try.isAgg9 rfl rfl rfl rfl rfl)) ?_
                      refine al_d rfl rfl rfl (by exact opd_index_arr rfl Try.underlying61 Try.sizeOf9 rfl rfl rfl rfl (by omega) (by exact Int.toNat_natCast _) (by decide) rfl) ?_
                      refine al_d rfl rfl rfl (by exact (by exact opd_load1_ref rfl Try.isAgg9 rfl rfl rfl rfl rfl)) ?_
                      refine al_d rfl rfl rfl (by exact opd_index_arr rfl Try.underlying61 Try.sizeOf9 rfl rfl rfl rfl (by omega) (by exact Int.toNat_natCast _) (by assumption) rfl) ?_
                      refine al_d rfl rfl rfl (by exact (by exact opd_load1_ref rfl Try.isAgg9 rfl rfl rfl rfl rfl)) ?_
                      refine al_d rfl rfl rfl (by exact x_build_arr rfl ao61 rfl rfl) ?_
                      refine al_d rfl rfl rfl (by exact opd_aeql (b := true) rfl rfl rfl rfl rfl Try.eqGuardType61 (eq3b _ (by simp [h3]))) ?_
                      refine al_d rfl rfl rfl (by exact opd_assign rfl rfl) ?_
                      refine al_nil ?_
                      refine awp_cond rfl (fun hc12 => ?_) (fun hc12 => ?_)
                      -- cond 12
                      · skip
                        refine awp_region ?_
                        refine al_d rfl rfl rfl (by exact opd_index_arr rfl Try.underlying61 Try.sizeOf9 rfl rfl rfl rfl (by omega) (by exact Int.toNat_natCast _) (by assumption) rfl) ?_
                        refine al_d rfl rfl rfl (by exact (by exact opd_load1_ref rfl Try.isAgg9 rfl rfl rfl rfl rfl)) ?_
                        refine al_d rfl rfl rfl (by exact opd_assign rfl rfl) ?_
                        refine al_nil ?_
                        -- end of the piece
                        refine ⟨(), trivial, ?_⟩
                        dsimp only
                        rw [HC, HV]
                        exact drop_a ⟨⟨_, rfl, rfl⟩, .mp rfl, ⟨_, rfl, rfl⟩, .pv _, ⟨_, rfl, rfl⟩, .pv _, ⟨_, rfl, rfl⟩, .pv _, ⟨_, rfl, rfl⟩, .osl rfl, ⟨_, rfl, rfl⟩, .osl rfl, ⟨_, rfl, rfl⟩, .pv _, ⟨_, rfl, rfl⟩, .pv _, trivial⟩ (tgRows_clo _ _) (wRows_clo _ _)
                      · skip
                        cases hc12
                · skip
                  have HC : mConf C p = C ++ [s] := by simp [mConf, m1, h1, h2, h3, hpk]
                  have HV : (m1 p).1 = p.b := by simp [m1, h1, h2, h3]
                  refine awp_block ?_
                  refine awp_seq ?_
                  refine awp_seq ?_
                  refine awp_region ?_
                  refine al_d rfl rfl rfl (by exact (by exact opd_loadn_ref rfl Try.isAgg61 Try.sizeOf61 rfl rfl rfl rfl (by simp only [List.drop_succ_cons, List.drop_zero, List.take_succ_cons, List.take_zero, List.take_nil, List.map_cons, List.map_nil, List.set_cons_zero, List.set_cons_succ, List.cons_append, List.nil_append, encTag, encStr]; rfl) rfl)) ?_
                  refine al_d rfl rfl rfl (by exact opd_index_arr rfl Try.underlying61 Try.sizeOf9 rfl rfl rfl rfl (by omega) (by exact Int.toNat_natCast _) (by decide) rfl) ?_
                  refine al_d rfl rfl rfl (by exact (by exact opd_load1_ref rfl Try.isAgg9 rfl rfl rfl rfl rfl)) ?_
                  refine al_d rfl rfl rfl (by exact opd_index_arr rfl Try.underlying61 Try.sizeOf9 rfl rfl rfl rfl (by omega) (by exact Int.toNat_natCast _) (by decide) rfl) ?_
                  refine al_d rfl rfl rfl (by exact (by exact opd_load1_ref rfl Try.isAgg9 rfl rfl rfl rfl rfl)) ?_
                  refine al_d rfl rfl rfl (by exact opd_index_arr rfl Try.underlying61 Try.sizeOf9 rfl rfl rfl rfl (by omega) (by exact Int.toNat_natCast _) (by decide) rfl) ?_
                  refine al_d rfl rfl rfl (by exact (by exact opd_load1_ref rfl Try.isAgg9 rfl rfl rfl rfl rfl)) ?_
                  refine al_d rfl rfl rfl (by exact x_build_arr rfl ao61 rfl rfl) ?_
                  refine al_d rfl rfl rfl (by exact opd_aeql (b := false) rfl rfl rfl rfl rfl Try.eqGuardType61 (eq3b _ (by simp [h1]))) ?_
                  refine al_d rfl rfl rfl (by exact opd_assign rfl rfl) ?_
                  refine al_nil ?_
                  refine awp_cond rfl (fun hc13 => ?_) (fun hc13 => ?_)
                  -- cond 13
                  · skip
                    cases hc13
                  · skip
                    refine awp_region ?_
                    refine al_d rfl rfl rfl (by exact (by exact opd_loadn_ref rfl Try.isAgg61 Try.sizeOf61 rfl rfl rfl rfl (by simp only [List.drop_succ_cons, List.drop_zero, List.take_succ_cons, List.take_zero, List.take_nil, List.map_cons, List.map_nil, List.set_cons_zero, List.set_cons_succ, List.cons_append, List.nil_append, encTag, encStr]; rfl) rfl)) ?_
                    refine al_d rfl rfl rfl (by exact opd_index_arr rfl Try.underlying61 Try.sizeOf9 rfl rfl rfl rfl (by omega) (by exact Int.toNat_natCast _) (by decide) rfl) ?_
                    refine al_d rfl rfl rfl (by exact (by exact opd_load1_ref rfl Try.isAgg9 rfl rfl rfl rfl rfl)) ?_
                    refine al_d rfl rfl rfl (by exact opd_index_arr rfl Try.underlying61 Try.sizeOf9 rfl rfl rfl rfl (by omega) (by exact Int.toNat_natCast _) (by decide) rfl) ?_
                    refine al_d rfl rfl rfl (by exact (by exact opd_load1_ref rfl Try.isAgg9 rfl rfl rfl rfl rfl)) ?_
                    refine al_d rfl rfl rfl (by exact opd_index_arr rfl Try.underlying61 Try.sizeOf9 rfl rfl rfl rfl (by omega) (by exact Int.toNat_natCast _) (by decide) rfl) ?_
                    refine al_d rfl rfl rfl (by exact (by exact opd_load1_ref rfl Try.isAgg9 rfl rfl rfl rfl rfl)) ?_
                    refine al_d rfl rfl rfl (by exact x_build_arr rfl ao61 rfl rfl) ?_
                    refine al_d rfl rfl rfl (by exact opd_aeql (b := false) rfl rfl rfl rfl rfl Try.eqGuardType61 (eq3b _ (by simp [h2]))) ?_
                    refine al_d rfl rfl rfl (by exact opd_assign rfl rfl) ?_
                    refine al_nil ?_
                    refine awp_cond rfl (fun hc14 => ?_) (fun hc14 => ?_)
                    -- cond 14
                    · skip
                      cases hc14
                    · skip
                      refine awp_seq ?_
                      refine awp_region ?_
                      refine al_d rfl rfl rfl (by exact (by exact opd_loadn_ref rfl Try.isAgg61 Try.sizeOf61 rfl rfl rfl rfl (by simp only [List.drop_succ_cons, List.drop_zero, List.take_succ_cons, List.take_zero, List.take_nil, List.map_cons, List.map_nil, List.set_cons_zero, List.set_cons_succ, List.cons_append, List.nil_append, encTag, encStr]; rfl) rfl)) ?_
                      refine al_d rfl rfl rfl (by exact opd_index_arr rfl Try.underlying61 Try.sizeOf9 rfl rfl rfl rfl (by omega) (by exact Int.toNat_natCast _) (by decide) rfl) ?_
                      refine al_d rfl rfl rfl (by exact (by exact opd_load1_ref rfl Try.isAgg9 rfl rfl rfl rfl rfl)) ?_
                      refine al_d rfl rfl rfl (by exact opd_index_arr rfl Try.underlying61 Try.sizeOf9 rfl rfl rfl rfl (by omega) (by exact Int.toNat_natCast _) (by decide) rfl) ?_
                      refine al_d rfl rfl rfl (by exact (by exact opd_load1_ref rfl Try.isAgg9 rfl rfl rfl rfl rfl)) ?_
                      refine al_d rfl rfl rfl (by exact opd_index_arr rfl Try.underlying61 Try.sizeOf9 rfl rfl rfl rfl (by omega) (by exact Int.toNat_natCast _) (by assumption) rfl) ?_
                      refine al_d rfl rfl rfl (by exact (by exact opd_load1_ref rfl Try.isAgg9 rfl rfl rfl rfl rfl)) ?_
                      refine al_d rfl rfl rfl (by exact x_build_arr rfl ao61 rfl rfl) ?_
                      refine al_d rfl rfl rfl (by exact opd_aeql (b := false) rfl rfl rfl rfl rfl Try.eqGuardType61 (eq3b _ (by simp [h3]))) ?_
                      refine al_d rfl rfl rfl (by exact opd_assign rfl rfl) ?_
                      refine al_nil ?_
                      refine awp_cond rfl (fun hc15 => ?_) (fun hc15 => ?_)
                      -- cond 15
                      · skip
                        cases hc15
                      · skip
                        refine awp_region ?_
                        refine al_d rfl rfl rfl (by exact opd_move rfl rfl) ?_
                        refine al_d rfl rfl rfl (by exact opd_move rfl rfl) ?_
                        refine al_d rfl rfl rfl (by exact (by exact x_buildSlice [[.str s]] rfl so28 rfl rfl rfl rfl rfl (by intro r hr; rw [List.mem_singleton] at hr; subst hr; rfl))) ?_
                        refine al_d rfl rfl rfl (by exact x_append (ps := [[.str s]]) rfl so28 ei9 rfl rfl rfl rfl rfl (wRows_len _) rfl (by intro r hr; rw [List.mem_singleton] at hr; subst hr; rfl) (m := 1) rfl (by omega) rfl (wRows_app _ s)) ?_
                        refine al_d rfl rfl rfl (by exact opd_assign rfl rfl) ?_
                        refine al_nil ?_
                        -- end of the piece
                        refine ⟨(), trivial, ?_⟩
                        dsimp only
                        rw [HC, HV, List.length_append, List.length_singleton]
                        exact drop_b ⟨⟨_, rfl, rfl⟩, .mp rfl, ⟨_, rfl, rfl⟩, .pv _, ⟨_, rfl, rfl⟩, .pv _, ⟨_, rfl, rfl⟩, .pv _, ⟨_, rfl, rfl⟩, .osl rfl, ⟨_, rfl, rfl⟩, .osl rfl, ⟨_, rfl, rfl⟩, .pv _, ⟨_, rfl, rfl⟩, .pv _, trivial⟩ (tgRows_clo _ _) (wRows_clo _ _)
          · rintro _ _
            obtain ⟨D, hD⟩ : ∃ D, D = mConf C p := ⟨_, rfl⟩
            obtain ⟨v, hv2⟩ : ∃ v, v = (m1 p).1 := ⟨_, rfl⟩
            rw [← hD] at hcl
            have hst : mStep (A, C) p = if v = ⟨#[]⟩ then (A, D) else if A.length < 60 then (A ++ [⟨s, v⟩], D) else if inB D s then (A, D) else (A, D ++ [s]) := by rw [hv2, hD, ← hpk]; rfl
            have hDl : D.length < 4611686018427387904 := by omega
            rw [← hD, ← hv2]
            refine awp_block ?_
            refine awp_seq ?_
            refine awp_region ?_
            refine al_d rfl rfl rfl (by exact opd_move rfl rfl) ?_
            refine al_d rfl rfl rfl (by exact opd_seql rfl rfl rfl) ?_
            refine al_d rfl rfl rfl (by exact opd_assign rfl rfl) ?_
            refine al_nil ?_
            refine awp_cond rfl (fun hc16 => ?_) (fun hc16 => ?_)
            -- cond 16
            · have e : mStep (A, C) p = (A, D) := by rw [hst, if_pos (of_decide_eq_true hc16)]
              rw [e] at hnext
              refine awp_skip ?_
              refine awp_region ?_
              refine al_d rfl rfl rfl (by exact opd_add rfl rfl rfl (by exact w64 (by omega) (by omega))) ?_
              refine al_d rfl rfl rfl (by exact opd_move rfl rfl) ?_
              refine al_nil ?_
              -- end of a round
              refine ⟨k + 1, ?_, by omega, ?_⟩
              · rw [hnext]
                dsimp only
                omega
              · dsimp only
                rw [hnext]
                exact Ent.e0 ⟨⟨_, rfl, rfl⟩, ⟨_, rfl, rfl⟩, ⟨_, rfl, rfl⟩, ⟨_, rfl, rfl⟩, ⟨_, rfl, rfl⟩, ⟨_, rfl, rfl⟩, trivial⟩
            · have hv0 : ¬ v = ⟨#[]⟩ := of_decide_eq_false hc16
              refine awp_seq ?_
              refine awp_region ?_
              refine al_d rfl rfl rfl (by exact opd_move rfl rfl) ?_
              refine al_d rfl rfl rfl (by exact (by exact opd_len_osl rfl Try.underlying22 rfl rfl rfl)) ?_
              refine al_d rfl rfl rfl (by exact opd_lss rfl rfl rfl) ?_
              refine al_d rfl rfl rfl (by exact opd_assign rfl rfl) ?_
              refine al_nil ?_
              refine awp_cond rfl (fun hc17 => ?_) (fun hc17 => ?_)
              -- cond 17
              · have h60 : A.length < 60 := by have h := of_decide_eq_true hc17; omega
                have e : mStep (A, C) p = (A ++ [⟨s, v⟩], D) := by rw [hst, if_neg hv0, if_pos h60]
                rw [e] at hnext
                refine awp_region ?_
                refine al_d rfl rfl rfl (by exact opd_move rfl rfl) ?_
                refine al_d rfl rfl rfl (by exact opd_move rfl rfl) ?_
                refine al_d rfl rfl rfl (by exact opd_move rfl rfl) ?_
                refine al_d rfl rfl rfl (by exact x_build rfl bo46 rfl rfl) ?_
                refine al_d rfl rfl rfl (by exact (by exact x_buildSlice [[.str s, .str v]] rfl so22 rfl rfl rfl rfl rfl (by intro r hr; rw [List.mem_singleton] at hr; subst hr; rfl))) ?_
                refine al_d rfl rfl rfl (by exact x_append (ps := [[.str s, .str v]]) rfl so22 ei46 rfl rfl rfl rfl rfl (tgRows_len _) rfl (by intro r hr; rw [List.mem_singleton] at hr; subst hr; rfl) (m := 1) rfl (by omega) rfl (tgRows_app _ ⟨s, v⟩)) ?_
                refine al_d rfl rfl rfl (by exact opd_assign rfl rfl) ?_
                refine al_nil ?_
                refine awp_region ?_
                refine al_d rfl rfl rfl (by exact opd_add rfl rfl rfl (by exact w64 (by omega) (by omega))) ?_
                refine al_d rfl rfl rfl (by exact opd_move rfl rfl) ?_
                refine al_nil ?_
                -- end of a round
                refine ⟨k + 1, ?_, by omega, ?_⟩
                · rw [hnext]
                  dsimp only
                  rw [List.length_append, List.length_singleton]
                  omega
                · dsimp only
                  rw [hnext]
                  dsimp only
                  rw [List.length_append, List.length_singleton]
                  exact Ent.get' ⟨⟨_, rfl, rfl⟩, ⟨_, rfl, rfl⟩, ⟨_, rfl, rfl⟩, ⟨_, rfl, rfl⟩, ⟨_, rfl, rfl⟩, ⟨_, rfl, rfl⟩, trivial⟩ (fun j => get_dup 905 _ _ _ j)
              · have h60 : ¬ A.length < 60 := by have h := of_decide_eq_false hc17; omega
                refine awp_seq ?_
                refine awp_region ?_
                refine al_d rfl rfl rfl (by exact opd_move rfl rfl) ?_
                refine al_d rfl rfl rfl (by exact opd_move rfl rfl) ?_
                refine al_d rfl rfl rfl (by exact opr_call rfl rfl Try.call37 rfl (containsO hDl rfl rfl)) ?_
                refine al_d rfl rfl rfl (by exact opd_not rfl rfl) ?_
                refine al_d rfl rfl rfl (by exact opd_assign rfl rfl) ?_
                refine al_nil ?_
                refine awp_cond rfl (fun hc18 => ?_) (fun hc18 => ?_)
                -- cond 18
                · have hin : ¬ (inB D s = true) := by
                    intro h
                    rw [h] at hc18
                    cases hc18
                  have e : mStep (A, C) p = (A, D ++ [s]) := by rw [hst, if_neg hv0, if_neg h60, if_neg hin]
                  rw [e] at hnext
                  refine awp_region ?_
                  refine al_d rfl rfl rfl (by exact opd_move rfl rfl) ?_
                  refine al_d rfl rfl rfl (by exact opd_move rfl rfl) ?_
                  refine al_d rfl rfl rfl (by exact (by exact x_buildSlice [[.str s]] rfl so28 rfl rfl rfl rfl rfl (by intro r hr; rw [List.mem_singleton] at hr; subst hr; rfl))) ?_
                  refine al_d rfl rfl rfl (by exact x_append (ps := [[.str s]]) rfl so28 ei9 rfl rfl rfl rfl rfl (wRows_len _) rfl (by intro r hr; rw [List.mem_singleton] at hr; subst hr; rfl) (m := 1) rfl (by omega) rfl (wRows_app _ s)) ?_
                  refine al_d rfl rfl rfl (by exact opd_assign rfl rfl) ?_
                  refine al_nil ?_
                  refine awp_region ?_
                  refine al_d rfl rfl rfl (by exact opd_add rfl rfl rfl (by exact w64 (by omega) (by omega))) ?_
                  refine al_d rfl rfl rfl (by exact opd_move rfl rfl) ?_
                  refine al_nil ?_
                  -- end of a round
                  refine ⟨k + 1, ?_, by omega, ?_⟩
                  · rw [hnext]
                    dsimp only
                    rw [List.length_append, List.length_singleton]
                    omega
                  · dsimp only
                    rw [hnext]
                    dsimp only
                    rw [List.length_append, List.length_singleton]
                    exact Ent.get' ⟨⟨_, rfl, rfl⟩, ⟨_, rfl, rfl⟩, ⟨_, rfl, rfl⟩, ⟨_, rfl, rfl⟩, ⟨_, rfl, rfl⟩, ⟨_, rfl, rfl⟩, trivial⟩ (fun j => get_same [_, _] [_, _, _] (by repeat (first | exact trivial | refine ⟨rfl, ?_⟩)) j)
                · have hin : inB D s = true := by rwa [Bool.not_eq_false'] at hc18
                  have e : mStep (A, C) p = (A, D) := by rw [hst, if_neg hv0, if_neg h60, if_pos hin]
                  rw [e] at hnext
                  refine awp_skip ?_
                  refine awp_region ?_
                  refine al_d rfl rfl rfl (by exact opd_add rfl rfl rfl (by exact w64 (by omega) (by omega))) ?_
                  refine al_d rfl rfl rfl (by exact opd_move rfl rfl) ?_
                  refine al_nil ?_
                  -- end of a round
                  refine ⟨k + 1, ?_, by omega, ?_⟩
                  · rw [hnext]
                    dsimp only
                    omega
                  · dsimp only
                    rw [hnext]
                    exact Ent.e0 ⟨⟨_, rfl, rfl⟩, ⟨_, rfl, rfl⟩, ⟨_, rfl, rfl⟩, ⟨_, rfl, rfl⟩, ⟨_, rfl, rfl⟩, ⟨_, rfl, rfl⟩, trivial⟩
        · have hk2 : k = S.length := by have h := of_decide_eq_false hc5; omega
          subst hk2
          have hsl : (srt3 L).length = S.length := by rw [srt3, List.length_map, ← hS]
          rw [List.take_of_length_le (by omega)] at hAC
          rw [hAC]
          refine awp_exit ?_
          refine awp_seq ?_
          -- before the slot
          refine AWp.ent (Ent.fz (id := 905) (E' := [(14, .pv (slTags A)), (15, .osl 906 C.length 0 C.length)]) (H' := [(906, ⟨C.length, 1, 9, wRows C⟩)]) (A.map encTag) rfl (by rw [List.map_map]; rfl)
            (by intro q hq; simp only [List.mem_cons, List.not_mem_nil, or_false] at hq; rcases hq with rfl | rfl; exact ⟨_, rfl, .osl (by rw [Nat.zero_add, List.drop_zero, List.take_of_length_le (by rw [List.length_map]; exact Nat.le_refl _)])⟩; exact ⟨_, rfl, .same (.osl rfl)⟩) rfl ⟨⟨_, rfl, rfl⟩, wRows_clo _ _, trivial⟩ trivial) ?_
          refine AWp.ent (Ent.fz (id := 906) (E' := [(14, .pv (slTags A)), (15, .pv (slStrs C))]) (H' := []) (C.map encStr) rfl (wRows_enc C)
            (by intro q hq; simp only [List.mem_cons, List.not_mem_nil, or_false] at hq; rcases hq with rfl | rfl; exact ⟨_, rfl, .same (.pv _)⟩; exact ⟨_, rfl, .osl (by rw [Nat.zero_add, List.drop_zero, List.take_of_length_le (by rw [List.length_map]; exact Nat.le_refl _)])⟩) rfl trivial trivial) ?_
          refine awp_region ?_
          refine al_d rfl rfl rfl (by exact opd_move rfl rfl) ?_
          refine al_d rfl rfl rfl (by exact opd_move rfl rfl) ?_
          refine al_d rfl rfl rfl (by exact opd_assign rfl rfl) ?_
          refine al_d rfl rfl rfl (by exact opd_assign rfl rfl) ?_
          refine al_nil ?_
          refine awp_ret ?_
          -- return
          refine aret2 (H' := []) (by exact .inr rfl) rfl (rval_tmp rfl) (rval_tmp rfl) Fin.refl ?_
          exact ⟨rfl, rfl⟩
theorem merge_c (b o t : List GTag) (H : Heap) (hb : okTags b) (ho : okTags o) (ht : okTags t) (hlb : b.length < 68719476736) (hlo : o.length < 68719476736) (hlt : t.length < 68719476736) : ACalls Try.prog 13 [.pv (slTags b), .pv (slTags o), .pv (slTags t)] H (fun r H' => r = .tup [.pv (slTags (gMerge b o t).1), .pv (slStrs (gMerge b o t).2)] ∧ H' = H) := ACalls.pure (merge0_c b o t hb ho ht hlb hlo hlt) (by simp) H
end Go.Proofs.Ytedfihgkopejcaa
end
section
set_option linter.unusedVariables false
set_option linter.unusedSimpArgs false
set_option maxRecDepth 100000
namespace Go.Proofs.Ytedfihgkopejcaa
open Go.Abs
instance : DecidableEq GTag := fun a b => decidable_of_iff (a.key = b.key ∧ a.val = b.val) (by cases a; cases b; simp)
theorem strings09_c (a b : List ByteArray) (H : Heap) (ha : a.length < 4611686018427387904) : ACalls Try.prog 22 [.pv (slStrs a), .pv (slStrs b)] H (fun r H' => r = bv (decide (a = b)) ∧ H' = H) := by
  refine ACalls.pure ?_ (by simp) H
  have hma : (a.map encStr).length = a.length := List.length_map _
  have hmb : (b.map encStr).length = b.length := List.length_map _
  refine ACalls.body Try.func22 rfl Try.ntmps22 (Nat.le_of_ble_eq_true rfl) ?_
  refine awp_seq ?_
  refine awp_region ?_
  refine al_d rfl rfl rfl (by exact opd_assign rfl rfl) ?_
  refine al_nil ?_
  refine awp_seq ?_
  refine awp_seq ?_
  refine awp_region ?_
  refine al_d rfl rfl rfl (by exact opd_move rfl rfl) ?_
  refine al_d rfl rfl rfl (by exact (by exact opd_len_sl rfl Try.underlying28 rfl)) ?_
  refine al_d rfl rfl rfl (by exact opd_move rfl rfl) ?_
  refine al_d rfl rfl rfl (by exact (by exact opd_len_sl rfl Try.underlying28 rfl)) ?_
  refine al_d rfl rfl rfl (by exact opd_neq rfl rfl rfl) ?_
  refine al_nil ?_
  refine awp_cond rfl (fun hc1 => ?_) (fun hc1 => ?_)
  -- cond 1
  · have hne : ¬ a = b := by
      intro e
      subst e
      simp at hc1
    refine awp_seq ?_
    refine awp_region ?_
    refine al_d rfl rfl rfl (by exact opd_assign rfl rfl) ?_
    refine al_nil ?_
    refine awp_ret ?_
    -- return
    refine aret1 (H' := []) (by exact .inr rfl) rfl (rval_tmp rfl) (Fin.wk (by simp) trivial trivial) ?_
    exact ⟨by rw [decide_eq_false hne], rfl⟩
  · have heq : a.length = b.length := by
      simp only [hma, hmb, Bool.not_eq_false', decide_eq_true_eq] at hc1
      omega
    refine awp_skip ?_
    refine awp_seq ?_
    refine awp_seq ?_
    refine awp_region ?_
    refine al_d rfl rfl rfl (by exact opd_assign rfl rfl) ?_
    refine al_nil ?_
    refine awp_block ?_
    -- loop
    refine awp_loop (σ := Nat) (fun k => ([(0, .pv (slStrs a)), (1, .pv (slStrs b)), (5, iv (k : Int))], [])) (fun k => k ≤ a.length ∧ a.take k = b.take k) (fun k => a.length - k) 0 ⟨by omega, by simp⟩ ?_ ?_
    · exact Ent.e0 ⟨⟨_, rfl, rfl⟩, ⟨_, rfl, rfl⟩, ⟨_, rfl, rfl⟩, trivial⟩
    · rintro k ⟨hk, hall⟩
      refine awp_seq ?_
      refine awp_seq ?_
      refine awp_region ?_
      refine al_d rfl rfl rfl (by exact opd_move rfl rfl) ?_
      refine al_d rfl rfl rfl (by exact opd_move rfl rfl) ?_
      refine al_d rfl rfl rfl (by exact (by exact opd_len_sl rfl Try.underlying28 rfl)) ?_
      refine al_d rfl rfl rfl (by exact opd_lss rfl rfl rfl) ?_
      refine al_nil ?_
      refine awp_cond rfl (fun hc2 => ?_) (fun hc2 => ?_)
      -- cond 2
      · have hlt : k < a.length := by have := of_decide_eq_true hc2; omega
        obtain ⟨x, hx⟩ := get_of_lt hlt
        obtain ⟨y, hy⟩ := get_of_lt (l := b) (k := k) (by omega)
        have hi := map_get (f := encStr) hx
        have hi2 := map_get (f := encStr) hy
        refine awp_skip ?_
        refine awp_seq ?_
        refine awp_block ?_
        refine awp_seq ?_
        refine awp_drawc follows ?_
        refine dc_cons (DStep.q rfl (by exact opd_move rfl rfl)) rfl ?_
        refine dc_cons (DStep.q rfl (by exact opd_move rfl rfl)) rfl ?_
        refine dc_cons (DStep.q rfl (by exact (by exact x_index_pad rfl so28 rfl rfl (by omega) (by exact Int.toNat_natCast _) (by assumption) rfl))) rfl ?_
        refine dc_cons (DStep.q rfl (by exact (by exact opd_load1_pad rfl Try.isAgg9 rfl (by omega) rfl))) rfl ?_
        refine dc_cons (DStep.q rfl (by exact opd_move rfl rfl)) rfl ?_
        refine dc_cons (DStep.q rfl (by exact opd_move rfl rfl)) rfl ?_
        refine dc_cons (DStep.q rfl (by exact (by exact x_index_pad rfl so28 rfl rfl (by omega) (by exact Int.toNat_natCast _) (by assumption) rfl))) rfl ?_
        refine dc_cons (DStep.q rfl (by exact (by exact opd_load1_pad rfl Try.isAgg9 rfl (by omega) rfl))) rfl ?_
        refine dc_cons (DStep.q rfl (by exact opd_sneq rfl rfl rfl)) rfl ?_
        refine dc_nil ⟨by kernel_rfl, ?_⟩
        refine awp_cond rfl (fun hc3 => ?_) (fun hc3 => ?_)
        -- cond 3
        · have ht : ¬ x = y := by
            have h : (!decide (x = y)) = true := hc3
            simpa using h
          have hne : ¬ a = b := by
            intro e
            subst e
            rw [hx] at hy
            exact ht (Option.some.inj hy)
          refine awp_seq ?_
          refine awp_region ?_
          refine al_d rfl rfl rfl (by exact opd_assign rfl rfl) ?_
          refine al_nil ?_
          refine awp_ret ?_
          -- return
          refine aret1 (H' := []) (by exact .inr rfl) rfl (rval_tmp rfl) (Fin.wk (by simp) trivial trivial) ?_
          exact ⟨by rw [decide_eq_false hne], rfl⟩
        · have ht : x = y := by
            have h : (!decide (x = y)) = false := hc3
            simpa using h
          refine awp_skip ?_
          refine awp_region ?_
          refine al_d rfl rfl rfl (by exact opd_move rfl rfl) ?_
          refine al_d rfl rfl rfl (by exact opd_add rfl rfl rfl (by exact w64 (by omega) (by omega))) ?_
          refine al_d rfl rfl rfl (by exact opd_assign rfl rfl) ?_
          refine al_nil ?_
          -- end of a round
          exact ⟨k + 1, ⟨by omega, by rw [take_snoc hx, take_snoc hy, hall, ht]⟩, by omega, Ent.e0 ⟨⟨_, rfl, rfl⟩, ⟨_, rfl, rfl⟩, ⟨_, rfl, rfl⟩, trivial⟩⟩
      · have hge : k = a.length := by have := of_decide_eq_false hc2; omega
        subst hge
        rw [List.take_length, heq, List.take_length] at hall
        refine awp_exit ?_
        refine awp_seq ?_
        refine awp_region ?_
        refine al_d rfl rfl rfl (by exact opd_assign rfl rfl) ?_
        refine al_nil ?_
        refine awp_ret ?_
        -- return
        refine aret1 (H' := []) (by exact .inr rfl) rfl (rval_tmp rfl) (Fin.wk (by simp) trivial trivial) ?_
        exact ⟨by rw [decide_eq_true hall], rfl⟩
theorem same09_c (a b : List GTag) (H : Heap) (ha : a.length < 4611686018427387904) : ACalls Try.prog 21 [.pv (slTags a), .pv (slTags b)] H (fun r H' => r = bv (decide (a = b)) ∧ H' = H) := by
  refine ACalls.pure ?_ (by simp) H
  have hma : (a.map encTag).length = a.length := List.length_map _
  have hmb : (b.map encTag).length = b.length := List.length_map _
  refine ACalls.body Try.func21 rfl Try.ntmps21 (Nat.le_of_ble_eq_true rfl) ?_
  refine awp_seq ?_
  refine awp_region ?_
  refine al_d rfl rfl rfl (by exact opd_assign rfl rfl) ?_
  refine al_nil ?_
  refine awp_seq ?_
  refine awp_seq ?_
  refine awp_region ?_
  refine al_d rfl rfl rfl (by exact opd_move rfl rfl) ?_
  refine al_d rfl rfl rfl (by exact (by exact opd_len_sl rfl Try.underlying22 rfl)) ?_
  refine al_d rfl rfl rfl (by exact opd_move rfl rfl) ?_
  refine al_d rfl rfl rfl (by exact (by exact opd_len_sl rfl Try.underlying22 rfl)) ?_
  refine al_d rfl rfl rfl (by exact opd_neq rfl rfl rfl) ?_
  refine al_nil ?_
  refine awp_cond rfl (fun hc1 => ?_) (fun hc1 => ?_)
  -- cond 1
  · have hne : ¬ a = b := by
      intro e
      subst e
      simp at hc1
    refine awp_seq ?_
    refine awp_region ?_
    refine al_d rfl rfl rfl (by exact opd_assign rfl rfl) ?_
    refine al_nil ?_
    refine awp_ret ?_
    -- return
    refine aret1 (H' := []) (by exact .inr rfl) rfl (rval_tmp rfl) (Fin.wk (by simp) trivial trivial) ?_
    exact ⟨by rw [decide_eq_false hne], rfl⟩
  · have heq : a.length = b.length := by
      simp only [hma, hmb, Bool.not_eq_false', decide_eq_true_eq] at hc1
      omega
    refine awp_skip ?_
    refine awp_seq ?_
    refine awp_seq ?_
    refine awp_region ?_
    refine al_d rfl rfl rfl (by exact opd_assign rfl rfl) ?_
    refine al_nil ?_
    refine awp_block ?_
    -- loop
    refine awp_loop (σ := Nat) (fun k => ([(0, .pv (slTags a)), (1, .pv (slTags b)), (5, iv (k : Int))], [])) (fun k => k ≤ a.length ∧ a.take k = b.take k) (fun k => a.length - k) 0 ⟨by omega, by simp⟩ ?_ ?_
    · exact Ent.e0 ⟨⟨_, rfl, rfl⟩, ⟨_, rfl, rfl⟩, ⟨_, rfl, rfl⟩, trivial⟩
    · rintro k ⟨hk, hall⟩
      refine awp_seq ?_
      refine awp_seq ?_
      refine awp_region ?_
      refine al_d rfl rfl rfl (by exact opd_move rfl rfl) ?_
      refine al_d rfl rfl rfl (by exact opd_move rfl rfl) ?_
      refine al_d rfl rfl rfl (by exact (by exact opd_len_sl rfl Try.underlying22 rfl)) ?_
      refine al_d rfl rfl rfl (by exact opd_lss rfl rfl rfl) ?_
      refine al_nil ?_
      refine awp_cond rfl (fun hc2 => ?_) (fun hc2 => ?_)
      -- cond 2
      · have hlt : k < a.length := by have := of_decide_eq_true hc2; omega
        obtain ⟨x, hx⟩ := get_of_lt hlt
        obtain ⟨y, hy⟩ := get_of_lt (l := b) (k := k) (by omega)
        have hi := map_get (f := encTag) hx
        have hi2 := map_get (f := encTag) hy
        obtain ⟨x1, x2⟩ := x
        obtain ⟨y1, y2⟩ := y
        refine awp_skip ?_
        refine awp_seq ?_
        refine awp_block ?_
        refine awp_seq ?_
        refine awp_drawc follows ?_
        refine dc_cons (DStep.q rfl (by exact opd_move rfl rfl)) rfl ?_
        refine dc_cons (DStep.q rfl (by exact opd_move rfl rfl)) rfl ?_
        refine dc_cons (DStep.q rfl (by exact (by exact x_index_pad rfl so22 rfl rfl (by omega) (by exact Int.toNat_natCast _) (by assumption) rfl))) rfl ?_
        refine dc_cons (DStep.q rfl (by exact (by exact opd_loadn_pad rfl Try.isAgg46 Try.sizeOf46 rfl (by omega) (by simp only [List.drop_succ_cons, List.drop_zero, List.take_succ_cons, List.take_zero, List.take_nil, List.map_cons, List.map_nil, List.set_cons_zero, List.set_cons_succ, List.cons_append, List.nil_append, encTag, encStr]; rfl) rfl))) rfl ?_
        refine dc_cons (DStep.q rfl (by exact opd_move rfl rfl)) rfl ?_
        refine dc_cons (DStep.q rfl (by exact opd_move rfl rfl)) rfl ?_
        refine dc_cons (DStep.q rfl (by exact (by exact x_index_pad rfl so22 rfl rfl (by omega) (by exact Int.toNat_natCast _) (by assumption) rfl))) rfl ?_
        refine dc_cons (DStep.q rfl (by exact (by exact opd_loadn_pad rfl Try.isAgg46 Try.sizeOf46 rfl (by omega) (by simp only [List.drop_succ_cons, List.drop_zero, List.take_succ_cons, List.take_zero, List.take_nil, List.map_cons, List.map_nil, List.set_cons_zero, List.set_cons_succ, List.cons_append, List.nil_append, encTag, encStr]; rfl) rfl))) rfl ?_
        refine dc_cons (DStep.q rfl (by exact opd_aneq rfl rfl rfl rfl rfl Try.eqGuardType46 (se46 _ _ _ _))) rfl ?_
        refine dc_nil ⟨by kernel_rfl, ?_⟩
        refine awp_cond rfl (fun hc3 => ?_) (fun hc3 => ?_)
        -- cond 3
        · have ht : ¬ (x1 = y1 ∧ x2 = y2) := by
            have h := hc3
            rintro ⟨rfl, rfl⟩
            simp at h
          have hne : ¬ a = b := by
            intro e
            subst e
            rw [hx] at hy
            exact ht (by simpa using Option.some.inj hy)
          refine awp_seq ?_
          refine awp_region ?_
          refine al_d rfl rfl rfl (by exact opd_assign rfl rfl) ?_
          refine al_nil ?_
          refine awp_ret ?_
          -- return
          refine aret1 (H' := []) (by exact .inr rfl) rfl (rval_tmp rfl) (Fin.wk (by simp) trivial trivial) ?_
          exact ⟨by rw [decide_eq_false hne], rfl⟩
        · have ht : x1 = y1 ∧ x2 = y2 := by
            have h := hc3
            simpa using h
          obtain ⟨rfl, rfl⟩ := ht
          refine awp_skip ?_
          refine awp_region ?_
          refine al_d rfl rfl rfl (by exact opd_move rfl rfl) ?_
          refine al_d rfl rfl rfl (by exact opd_add rfl rfl rfl (by exact w64 (by omega) (by omega))) ?_
          refine al_d rfl rfl rfl (by exact opd_assign rfl rfl) ?_
          refine al_nil ?_
          -- end of a round
          exact ⟨k + 1, ⟨by omega, by rw [take_snoc hx, take_snoc hy, hall]⟩, by omega, Ent.e0 ⟨⟨_, rfl, rfl⟩, ⟨_, rfl, rfl⟩, ⟨_, rfl, rfl⟩, trivial⟩⟩
      · have hge : k = a.length := by have := of_decide_eq_false hc2; omega
        subst hge
        rw [List.take_length, heq, List.take_length] at hall
        refine awp_exit ?_
        refine awp_seq ?_
        refine awp_region ?_
        refine al_d rfl rfl rfl (by exact opd_assign rfl rfl) ?_
        refine al_nil ?_
        refine awp_ret ?_
        -- return
        refine aret1 (H' := []) (by exact .inr rfl) rfl (rval_tmp rfl) (Fin.wk (by simp) trivial trivial) ?_
        exact ⟨by rw [decide_eq_true hall], rfl⟩
def badF (t : GTag) : Bool := decide (300 < (t.key.size : Int)) || decide (300 < (t.val.size : Int))
def gFew (l : List GTag) (n : Int) : Bool := decide ((l.length : Int) ≤ n) && !l.any badF
theorem few09_c (l : List GTag) (n : Int) (H : Heap) (hl : okTags l) : ACalls Try.prog 25 [.pv (slTags l), iv n] H (fun r H' => r = bv (gFew l n) ∧ H' = H) := by
  refine ACalls.pure ?_ (by simp) H
  obtain ⟨hl, hks⟩ := hl
  have hml : (l.map encTag).length = l.length := List.length_map _
  have hB : gFew l n = (decide (((l.map encTag).length : Int) ≤ n) && !l.any badF) := by rw [gFew, hml]
  refine ACalls.body Try.func25 rfl Try.ntmps25 (Nat.le_of_ble_eq_true rfl) ?_
  refine awp_seq ?_
  refine awp_region ?_
  refine al_d rfl rfl rfl (by exact opd_assign rfl rfl) ?_
  refine al_nil ?_
  refine awp_seq ?_
  refine awp_seq ?_
  refine awp_region ?_
  refine al_d rfl rfl rfl (by exact opd_assign rfl rfl) ?_
  refine al_nil ?_
  refine awp_block ?_
  -- loop
  refine awp_loop (σ := Nat) (fun k => ([(0, .pv (slTags l)), (1, iv n), (5, iv (k : Int))], [])) (fun k => k ≤ l.length ∧ ∀ j, j < k → ∀ b, l[j]? = some b → badF b = false) (fun k => l.length - k) 0 ⟨by omega, by omega⟩ ?_ ?_
  · exact Ent.e0 ⟨⟨_, rfl, rfl⟩, ⟨_, rfl, rfl⟩, ⟨_, rfl, rfl⟩, trivial⟩
  · rintro k ⟨hk, hno⟩
    refine awp_seq ?_
    refine awp_seq ?_
    refine awp_bool (t := 15) (n := 11) (X := decide ((k : Int) < ((l.map encTag).length : Int)) && decide (((l.map encTag).length : Int) ≤ n)) ?_ ?_
    · all_goals (refine al_d rfl rfl rfl (by exact opd_move rfl rfl) ?_)
      all_goals (refine al_d rfl rfl rfl (by exact opd_move rfl rfl) ?_)
      all_goals (refine al_d rfl rfl rfl (by exact (by exact opd_len_sl rfl Try.underlying22 rfl)) ?_)
      all_goals (refine al_d rfl rfl rfl (by exact opd_lss rfl rfl rfl) ?_)
      all_goals (refine al_d rfl rfl rfl (by exact opd_move rfl rfl) ?_)
      all_goals (refine al_split (t := 10) rfl (fun h10 => ?_) (fun h10 => ?_))
      all_goals (try contradiction)
      all_goals (first | refine al_off rfl rfl rfl rfl rfl ?_ | refine al_ond rfl rfl rfl rfl rfl rfl (by exact opd_move rfl rfl) ?_)
      all_goals (first | refine al_off rfl rfl rfl rfl rfl ?_ | refine al_ond rfl rfl rfl rfl rfl rfl (by exact (by exact opd_len_sl rfl Try.underlying22 rfl)) ?_)
      all_goals (first | refine al_off rfl rfl rfl rfl rfl ?_ | refine al_ond rfl rfl rfl rfl rfl rfl (by exact opd_move rfl rfl) ?_)
      all_goals (first | refine al_off rfl rfl rfl rfl rfl ?_ | refine al_ond rfl rfl rfl rfl rfl rfl (by exact opd_leq rfl rfl rfl) ?_)
      all_goals (refine al_d rfl rfl rfl (by exact (by first | exact opd_pick_t rfl rfl rfl | exact opd_pick_f rfl rfl rfl)) ?_)
      all_goals (refine al_nil ?_)
      all_goals (exact ⟨⟨_, rfl, by (rw [h10]; rfl)⟩, rfl, rfl, rfl⟩)
    refine awp_cond rfl (fun hc1 => ?_) (fun hc1 => ?_)
    -- cond 1
    · have h := hc1
      rw [Bool.and_eq_true, decide_eq_true_eq] at h
      have hlt : k < l.length := by have := h.1; omega
      obtain ⟨o, hoi⟩ := get_of_lt hlt
      have hi := map_get (f := encTag) hoi
      have hso := hks o (List.mem_of_getElem? hoi)
      have hs1 := hso.1
      have hs2 := hso.2
      refine awp_skip ?_
      refine awp_seq ?_
      refine awp_block ?_
      refine awp_seq ?_
      refine awp_bool (t := 33) (n := 17) (X := badF o) ?_ ?_
      · all_goals (refine al_d rfl rfl rfl (by exact opd_move rfl rfl) ?_)
        all_goals (refine al_d rfl rfl rfl (by exact opd_move rfl rfl) ?_)
        all_goals (refine al_d rfl rfl rfl (by exact (by exact x_index_pad rfl so22 rfl rfl (by omega) (by exact Int.toNat_natCast _) (by assumption) rfl)) ?_)
        all_goals (refine al_d rfl rfl rfl (by exact (by exact opd_field_pad rfl fo46_0 rfl rfl)) ?_)
        all_goals (refine al_d rfl rfl rfl (by exact (by exact opd_load1_pad rfl Try.isAgg9 rfl (by omega) rfl)) ?_)
        all_goals (refine al_d rfl rfl rfl (by exact opd_len_str rfl Try.underlying9 rfl) ?_)
        all_goals (refine al_d rfl rfl rfl (by exact opd_gtr rfl rfl rfl) ?_)
        all_goals (refine al_d rfl rfl rfl (by exact opd_move rfl rfl) ?_)
        all_goals (refine al_split (t := 25) rfl (fun h25 => ?_) (fun h25 => ?_))
        all_goals (try contradiction)
        all_goals (first | refine al_off rfl rfl rfl rfl rfl ?_ | refine al_ond rfl rfl rfl rfl rfl rfl (by exact opd_move rfl rfl) ?_)
        all_goals (first | refine al_off rfl rfl rfl rfl rfl ?_ | refine al_ond rfl rfl rfl rfl rfl rfl (by exact opd_move rfl rfl) ?_)
        all_goals (first | refine al_off rfl rfl rfl rfl rfl ?_ | refine al_ond rfl rfl rfl rfl rfl rfl (by exact (by exact x_index_pad rfl so22 rfl rfl (by omega) (by exact Int.toNat_natCast _) (by assumption) rfl)) ?_)
        all_goals (first | refine al_off rfl rfl rfl rfl rfl ?_ | refine al_ond rfl rfl rfl rfl rfl rfl (by exact (by exact opd_field_pad rfl fo46_1 rfl rfl)) ?_)
        all_goals (first | refine al_off rfl rfl rfl rfl rfl ?_ | refine al_ond rfl rfl rfl rfl rfl rfl (by exact (by exact opd_load1_pad rfl Try.isAgg9 rfl (by omega) rfl)) ?_)
        all_goals (first | refine al_off rfl rfl rfl rfl rfl ?_ | refine al_ond rfl rfl rfl rfl rfl rfl (by exact opd_len_str rfl Try.underlying9 rfl) ?_)
        all_goals (first | refine al_off rfl rfl rfl rfl rfl ?_ | refine al_ond rfl rfl rfl rfl rfl rfl (by exact opd_gtr rfl rfl rfl) ?_)
        all_goals (refine al_d rfl rfl rfl (by exact (by first | exact opd_pick_t rfl rfl rfl | exact opd_pick_f rfl rfl rfl)) ?_)
        all_goals (refine al_nil ?_)
        all_goals (exact ⟨⟨_, rfl, by (rw [badF, h25]; rfl)⟩, rfl, rfl, rfl⟩)
      refine awp_cond rfl (fun hc2 => ?_) (fun hc2 => ?_)
      -- cond 2
      · have hf : gFew l n = false := by rw [gFew, any_some (p := badF) hoi hc2]; simp
        rw [hf]
        refine awp_seq ?_
        refine awp_region ?_
        refine al_d rfl rfl rfl (by exact opd_assign rfl rfl) ?_
        refine al_nil ?_
        refine awp_ret ?_
        -- return
        refine aret1 (H' := []) (by exact .inr rfl) rfl (rval_tmp rfl) (Fin.wk (by simp) trivial trivial) ?_
        exact ⟨rfl, rfl⟩
      · skip
        refine awp_skip ?_
        refine awp_region ?_
        refine al_d rfl rfl rfl (by exact opd_move rfl rfl) ?_
        refine al_d rfl rfl rfl (by exact opd_add rfl rfl rfl (by exact w64 (by omega) (by omega))) ?_
        refine al_d rfl rfl rfl (by exact opd_assign rfl rfl) ?_
        refine al_nil ?_
        -- end of a round
        exact ⟨k + 1, ⟨by omega, pre_succ (p := badF) hno hoi hc2⟩, by omega, Ent.e0 ⟨⟨_, rfl, rfl⟩, ⟨_, rfl, rfl⟩, ⟨_, rfl, rfl⟩, trivial⟩⟩
    · skip
      refine awp_exit ?_
      refine awp_seq ?_
      refine awp_region ?_
      refine al_d rfl rfl rfl (by exact opd_move rfl rfl) ?_
      refine al_d rfl rfl rfl (by exact (by exact opd_len_sl rfl Try.underlying22 rfl)) ?_
      refine al_d rfl rfl rfl (by exact opd_move rfl rfl) ?_
      refine al_d rfl rfl rfl (by exact opd_leq rfl rfl rfl) ?_
      refine al_d rfl rfl rfl (by exact opd_assign rfl rfl) ?_
      refine al_nil ?_
      refine awp_ret ?_
      -- return
      refine aret1 (H' := []) (by exact .inr rfl) rfl (rval_tmp rfl) (Fin.wk (by simp) trivial trivial) ?_
      refine ⟨?_, rfl⟩
      rw [hB]
      have h := hc1
      rw [Bool.and_eq_false_iff, decide_eq_false_iff_not] at h
      rcases h with h | h
      · have hge : k = l.length := by omega
        subst hge
        rw [any_none hno]
        simp
      · rw [h]
        rfl
/-- All of them are moderate. -/
def fewAll (ls : List (List GTag)) : Bool := !ls.any fun l => !gFew l 70
def encTs (l : List GTag) : List PV := [slTags l]
theorem fewLaw_c (ls : List (List GTag)) (H : Heap) (hl : ls.length < 4611686018427387904) (ho : ∀ l, l ∈ ls → okTags l) : ACalls Try.prog 10 [.pv (.sl (ls.map encTs))] H (fun r H' => r = bv (fewAll ls) ∧ H' = H) := by
  refine ACalls.pure ?_ (by simp) H
  have hml : (ls.map encTs).length = ls.length := List.length_map _
  refine ACalls.body Try.func10 rfl Try.ntmps10 (Nat.le_of_ble_eq_true rfl) ?_
  refine awp_seq ?_
  refine awp_region ?_
  refine al_d rfl rfl rfl (by exact opd_assign rfl rfl) ?_
  refine al_nil ?_
  refine awp_seq ?_
  refine awp_seq ?_
  refine awp_region ?_
  refine al_d rfl rfl rfl (by exact opd_assign rfl rfl) ?_
  refine al_nil ?_
  refine awp_block ?_
  -- loop
  refine awp_loop (σ := Nat) (fun k => ([(0, .pv (.sl (ls.map encTs))), (3, iv (k : Int))], [])) (fun k => k ≤ ls.length ∧ ∀ j, j < k → ∀ b, ls[j]? = some b → (!gFew b 70) = false) (fun k => ls.length - k) 0 ⟨by omega, by omega⟩ ?_ ?_
  · exact Ent.e0 ⟨⟨_, rfl, rfl⟩, ⟨_, rfl, rfl⟩, trivial⟩
  · rintro k ⟨hk, hno⟩
    refine awp_seq ?_
    refine awp_seq ?_
    refine awp_region ?_
    refine al_d rfl rfl rfl (by exact opd_move rfl rfl) ?_
    refine al_d rfl rfl rfl (by exact opd_move rfl rfl) ?_
    refine al_d rfl rfl rfl (by exact (by exact opd_len_sl rfl Try.underlying47 rfl)) ?_
    refine al_d rfl rfl rfl (by exact opd_lss rfl rfl rfl) ?_
    refine al_nil ?_
    refine awp_cond rfl (fun hc1 => ?_) (fun hc1 => ?_)
    -- cond 1
    · have hlt : k < ls.length := by have := of_decide_eq_true hc1; omega
      obtain ⟨o, hoi⟩ := get_of_lt hlt
      have hi := map_get (f := encTs) hoi
      refine awp_skip ?_
      refine awp_seq ?_
      refine awp_block ?_
      refine awp_seq ?_
      refine awp_region ?_
      refine al_d rfl rfl rfl (by exact opd_move rfl rfl) ?_
      refine al_d rfl rfl rfl (by exact opd_move rfl rfl) ?_
      refine al_d rfl rfl rfl (by exact (by exact x_index_pad rfl so47 rfl rfl (by omega) (by exact Int.toNat_natCast _) (by assumption) rfl)) ?_
      refine al_d rfl rfl rfl (by exact (by exact opd_load1_pad rfl Try.isAgg22 rfl (by omega) rfl)) ?_
      refine al_d rfl rfl rfl (by exact opr_call rfl rfl Try.call25 rfl (few09_c o 70 _ (ho o (List.mem_of_getElem? hoi)))) ?_
      refine al_d rfl rfl rfl (by exact opd_not rfl rfl) ?_
      refine al_nil ?_
      refine awp_cond rfl (fun hc2 => ?_) (fun hc2 => ?_)
      -- cond 2
      · skip
        refine awp_seq ?_
        refine awp_region ?_
        refine al_d rfl rfl rfl (by exact opd_assign rfl rfl) ?_
        refine al_nil ?_
        refine awp_ret ?_
        -- return
        refine aret1 (H' := []) (by exact .inr rfl) rfl (rval_tmp rfl) (Fin.wk (by simp) trivial trivial) ?_
        exact ⟨by rw [fewAll, any_some (p := fun l => !gFew l 70) hoi hc2]; rfl, rfl⟩
      · skip
        refine awp_skip ?_
        refine awp_region ?_
        refine al_d rfl rfl rfl (by exact opd_move rfl rfl) ?_
        refine al_d rfl rfl rfl (by exact opd_add rfl rfl rfl (by exact w64 (by omega) (by omega))) ?_
        refine al_d rfl rfl rfl (by exact opd_assign rfl rfl) ?_
        refine al_nil ?_
        -- end of a round
        exact ⟨k + 1, ⟨by omega, pre_succ (p := fun l => !gFew l 70) hno hoi hc2⟩, by omega, Ent.e0 ⟨⟨_, rfl, rfl⟩, ⟨_, rfl, rfl⟩, trivial⟩⟩
    · have hge : k = ls.length := by have := of_decide_eq_false hc1; omega
      subst hge
      refine awp_exit ?_
      refine awp_seq ?_
      refine awp_region ?_
      refine al_d rfl rfl rfl (by exact opd_assign rfl rfl) ?_
      refine al_nil ?_
      refine awp_ret ?_
      -- return
      refine aret1 (H' := []) (by exact .inr rfl) rfl (rval_tmp rfl) (Fin.wk (by simp) trivial trivial) ?_
      exact ⟨by rw [fewAll, any_none hno]; rfl, rfl⟩
end Go.Proofs.Ytedfihgkopejcaa
end
section
set_option linter.unusedVariables false
set_option linter.unusedSimpArgs false
set_option maxRecDepth 100000
namespace Go.Proofs.Ytedfihgkopejcaa
open Go.Abs
def w9a : ByteArray := ⟨#[99, 108, 97, 115, 115]⟩
def w9b : ByteArray := ⟨#[110, 97, 109, 101]⟩
def w9c : ByteArray := ⟨#[99, 97, 102, 101]⟩
def w9d : ByteArray := ⟨#[65, 32, 34, 66, 34]⟩
def w9t : ByteArray := ⟨#[99, 108, 97, 115, 115, 61, 34, 99, 97, 102, 101, 34, 32, 110, 97, 109, 101, 61, 34, 65, 32, 92, 34, 66, 92, 34, 34]⟩
def l9 : List GTag := [⟨w9a, w9c⟩, ⟨w9b, w9d⟩]
def b9 : List GTag := [⟨w9a, ⟨#[97]⟩⟩]
def o9 : List GTag := [⟨w9a, ⟨#[98]⟩⟩]
def t9 : List GTag := [⟨w9a, ⟨#[97]⟩⟩, ⟨w9b, ⟨#[110]⟩⟩]
def u9 : List GTag := [⟨w9a, ⟨#[99]⟩⟩]
def x9 : List GTag := [⟨w9a, ⟨#[98]⟩⟩, ⟨w9b, ⟨#[110]⟩⟩]
theorem h9text : gText l9 = (w9t, 0) := by kernel_rfl
theorem h9parse : gParse w9t = (l9, 0) := by kernel_rfl
theorem h9toks : tagsOf (gLex w9t).1 = some l9 := by kernel_rfl
theorem sortS_of9 {l : List ByteArray} (h : (l.map toU).Pairwise (fun x y => decide (x ≤ y) = true)) : sortS l = l := by
  rw [sortS, List.mergeSort_of_pairwise h, map_toU]
theorem h9keys1 : (all3 b9 o9 t9).map M3.k = [w9a, w9b] := by kernel_rfl
theorem h9keys2 : (all3 b9 o9 u9).map M3.k = [w9a] := by kernel_rfl
theorem h9m1 : gMerge b9 o9 t9 = (x9, []) := by
  have h1 : (gTags b9 && gTags o9 && gTags t9) = true := by kernel_rfl
  rw [gMerge, if_pos h1, srt3, h9keys1, sortS_of9 (by decide)]
  have : List.foldl mStep ([], []) ([w9a, w9b].map (ent3 (all3 b9 o9 t9))) = (x9, []) := by kernel_rfl
  exact this
theorem h9m2 : gMerge b9 o9 u9 = (b9, [w9a]) := by
  have h1 : (gTags b9 && gTags o9 && gTags u9) = true := by kernel_rfl
  rw [gMerge, if_pos h1, srt3, h9keys2, sortS_of9 (by decide)]
  have : List.foldl mStep ([], []) ([w9a].map (ent3 (all3 b9 o9 u9))) = (b9, [w9a]) := by kernel_rfl
  exact this
theorem h9s1 : gSet l9 w9a ⟨#[]⟩ = ([⟨w9b, w9d⟩], 0) := by kernel_rfl
theorem h9s2 : gSet l9 ⟨#[55]⟩ ⟨#[120]⟩ = ([], 1) := by kernel_rfl
theorem h9g : gGet l9 w9a = some w9c := by kernel_rfl
theorem h9v : gTags l9 = true := by kernel_rfl
theorem okTags_small {l : List GTag} (h : (l.all fun t => decide (t.key.size < 100) && decide (t.val.size < 100)) = true) (h2 : l.length < 100) : okTags l := by
  refine ⟨by omega, fun t ht => ?_⟩
  have := List.all_eq_true.1 h t ht
  rw [Bool.and_eq_true, decide_eq_true_eq, decide_eq_true_eq] at this
  omega
theorem ok9l : okTags l9 := okTags_small (by kernel_rfl) (by decide)
theorem ok9b : okTags b9 := okTags_small (by kernel_rfl) (by decide)
theorem ok9o : okTags o9 := okTags_small (by kernel_rfl) (by decide)
theorem ok9t : okTags t9 := okTags_small (by kernel_rfl) (by decide)
theorem ok9u : okTags u9 := okTags_small (by kernel_rfl) (by decide)
theorem text9_t {l : List GTag} {s : ByteArray} {e : Int} (h : gText l = (s, e)) (H : Heap) (hl : okTags l) : ACalls Try.prog 15 [.pv (slTags l)] H (fun r H' => r = .tup [sv s, iv e] ∧ H' = H) := by
  have := tagText_c l H hl
  rwa [h] at this
theorem parse9_t {s : ByteArray} {l : List GTag} {e : Int} (h : gParse s = (l, e)) (H : Heap) (hs : s.size < 1099511627776) (hN : ∀ l, tagsOf (gLex s).1 = some l → okTags l) : ACalls Try.prog 17 [sv s] H (fun r H' => r = .tup [.pv (slTags l), iv e] ∧ H' = H) := by
  have := parse_c s H hs hN
  rwa [h] at this
theorem merge9_t {b o t x : List GTag} {c : List ByteArray} (h : gMerge b o t = (x, c)) (H : Heap) (hb : okTags b) (ho : okTags o) (ht : okTags t) (hlb : b.length < 68719476736) (hlo : o.length < 68719476736) (hlt : t.length < 68719476736) : ACalls Try.prog 13 [.pv (slTags b), .pv (slTags o), .pv (slTags t)] H (fun r H' => r = .tup [.pv (slTags x), .pv (slStrs c)] ∧ H' = H) := by
  have := merge_c b o t H hb ho ht hlb hlo hlt
  rwa [h] at this
theorem set9_t {l x : List GTag} {k v : ByteArray} {e : Int} (h : gSet l k v = (x, e)) (H : Heap) (hl : okTags l) (hk : k.size < 4611686018427387904) (hv : v.size < 4611686018427387904) (hl2 : l.length < 1099511627776) : ACalls Try.prog 11 [.pv (slTags l), sv k, sv v] H (fun r H' => r = .tup [.pv (slTags x), iv e] ∧ H' = H) := by
  have := tagSet_c l k v H hl hk hv hl2
  rwa [h] at this
theorem get9_t {l : List GTag} {k v : ByteArray} (h : gGet l k = some v) (H : Heap) (hl : l.length < 4611686018427387904) : ACalls Try.prog 19 [.pv (slTags l), sv k] H (fun r H' => r = .tup [sv v, bv true] ∧ H' = H) := by
  have := tagGet_c l k H hl
  rwa [h] at this
theorem same9_t {a b : List GTag} (h : a = b) (H : Heap) (ha : a.length < 4611686018427387904) : ACalls Try.prog 21 [.pv (slTags a), .pv (slTags b)] H (fun r H' => r = bv true ∧ H' = H) := by
  have := same09_c a b H ha
  rwa [decide_eq_true h] at this
theorem strings9_t {a b : List ByteArray} (h : a = b) (H : Heap) (ha : a.length < 4611686018427387904) : ACalls Try.prog 22 [.pv (slStrs a), .pv (slStrs b)] H (fun r H' => r = bv true ∧ H' = H) := by
  have := strings09_c a b H ha
  rwa [decide_eq_true h] at this
theorem valid9_t {l : List GTag} (h : gTags l = true) (H : Heap) (hl : okTags l) : ACalls Try.prog 23 [.pv (slTags l)] H (fun r H' => r = bv true ∧ H' = H) := by
  have := tagValid_c l H hl
  rwa [h] at this
theorem head9_c (H : Heap) : ACalls Try.prog 9 [] H (fun r H' => r = bv true ∧ H' = H) := by
  refine ACalls.pure ?_ (by simp) H
  have hl2 : ∀ {a b : GTag}, ∀ r ∈ [a, b].map encTag, r.length = 2 := fun r hr => by
    simp only [List.map_cons, List.map_nil, List.mem_cons, List.not_mem_nil, or_false] at hr
    rcases hr with rfl | rfl <;> rfl
  have hl1 : ∀ {a : GTag}, ∀ r ∈ [a].map encTag, r.length = 2 := fun r hr => by
    simp only [List.map_cons, List.map_nil, List.mem_cons, List.not_mem_nil, or_false] at hr
    subst hr; rfl
  refine ACalls.body Try.func9 rfl Try.ntmps9 (Nat.le_of_ble_eq_true rfl) ?_
  refine awp_seq ?_
  refine awp_region ?_
  refine al_d rfl rfl rfl (by exact opd_assign rfl rfl) ?_
  refine al_nil ?_
  refine awp_seq ?_
  refine awp_region ?_
  refine al_d rfl rfl rfl (by exact x_build rfl bo46 rfl rfl) ?_
  refine al_d rfl rfl rfl (by exact x_build rfl bo46 rfl rfl) ?_
  refine al_d rfl rfl rfl (by exact (by exact x_buildSlice (l9.map encTag) rfl so22 rfl rfl rfl rfl rfl hl2)) ?_
  refine al_d rfl rfl rfl (by exact opd_assign rfl rfl) ?_
  refine al_nil ?_
  refine awp_seq ?_
  refine awp_region ?_
  refine al_d rfl rfl rfl (by exact opd_move rfl rfl) ?_
  refine al_d rfl rfl rfl (by exact opr_call rfl rfl Try.call15 rfl (text9_t h9text _ ok9l)) ?_
  refine al_d rfl rfl rfl (by exact opd_move rfl rfl) ?_
  refine al_d rfl rfl rfl (by exact opd_extract rfl rfl rfl) ?_
  refine al_d rfl rfl rfl (by exact opd_extract rfl rfl rfl) ?_
  refine al_d rfl rfl rfl (by exact opd_assign rfl rfl) ?_
  refine al_d rfl rfl rfl (by exact opd_assign rfl rfl) ?_
  refine al_nil ?_
  refine awp_seq ?_
  refine awp_region ?_
  refine al_d rfl rfl rfl (by exact opr_call rfl rfl Try.call17 rfl (parse9_t h9parse _ (by decide) (by rw [h9toks]; intro l h; cases h; exact ok9l))) ?_
  refine al_d rfl rfl rfl (by exact opd_move rfl rfl) ?_
  refine al_d rfl rfl rfl (by exact opd_extract rfl rfl rfl) ?_
  refine al_d rfl rfl rfl (by exact opd_extract rfl rfl rfl) ?_
  refine al_d rfl rfl rfl (by exact opd_assign rfl rfl) ?_
  refine al_d rfl rfl rfl (by exact opd_assign rfl rfl) ?_
  refine al_nil ?_
  refine awp_seq ?_
  refine awp_region ?_
  refine al_d rfl rfl rfl (by exact x_build rfl bo46 rfl rfl) ?_
  refine al_d rfl rfl rfl (by exact (by exact x_buildSlice (b9.map encTag) rfl so22 rfl rfl rfl rfl rfl hl1)) ?_
  refine al_d rfl rfl rfl (by exact opd_assign rfl rfl) ?_
  refine al_nil ?_
  refine awp_seq ?_
  refine awp_region ?_
  refine al_d rfl rfl rfl (by exact x_build rfl bo46 rfl rfl) ?_
  refine al_d rfl rfl rfl (by exact (by exact x_buildSlice (o9.map encTag) rfl so22 rfl rfl rfl rfl rfl hl1)) ?_
  refine al_d rfl rfl rfl (by exact opd_assign rfl rfl) ?_
  refine al_nil ?_
  refine awp_seq ?_
  refine awp_region ?_
  refine al_d rfl rfl rfl (by exact opd_move rfl rfl) ?_
  refine al_d rfl rfl rfl (by exact opd_move rfl rfl) ?_
  refine al_d rfl rfl rfl (by exact x_build rfl bo46 rfl rfl) ?_
  refine al_d rfl rfl rfl (by exact x_build rfl bo46 rfl rfl) ?_
  refine al_d rfl rfl rfl (by exact (by exact x_buildSlice (t9.map encTag) rfl so22 rfl rfl rfl rfl rfl hl2)) ?_
  refine al_d rfl rfl rfl (by exact opr_call rfl rfl Try.call13 rfl (merge9_t h9m1 _ ok9b ok9o ok9t (by decide) (by decide) (by decide))) ?_
  refine al_d rfl rfl rfl (by exact opd_move rfl rfl) ?_
  refine al_d rfl rfl rfl (by exact opd_extract rfl rfl rfl) ?_
  refine al_d rfl rfl rfl (by exact opd_extract rfl rfl rfl) ?_
  refine al_d rfl rfl rfl (by exact opd_assign rfl rfl) ?_
  refine al_d rfl rfl rfl (by exact opd_assign rfl rfl) ?_
  refine al_nil ?_
  refine awp_seq ?_
  refine awp_region ?_
  refine al_d rfl rfl rfl (by exact opd_move rfl rfl) ?_
  refine al_d rfl rfl rfl (by exact opd_move rfl rfl) ?_
  refine al_d rfl rfl rfl (by exact x_build rfl bo46 rfl rfl) ?_
  refine al_d rfl rfl rfl (by exact (by exact x_buildSlice (u9.map encTag) rfl so22 rfl rfl rfl rfl rfl hl1)) ?_
  refine al_d rfl rfl rfl (by exact opr_call rfl rfl Try.call13 rfl (merge9_t h9m2 _ ok9b ok9o ok9u (by decide) (by decide) (by decide))) ?_
  refine al_d rfl rfl rfl (by exact opd_move rfl rfl) ?_
  refine al_d rfl rfl rfl (by exact opd_extract rfl rfl rfl) ?_
  refine al_d rfl rfl rfl (by exact opd_extract rfl rfl rfl) ?_
  refine al_d rfl rfl rfl (by exact opd_assign rfl rfl) ?_
  refine al_d rfl rfl rfl (by exact opd_assign rfl rfl) ?_
  refine al_nil ?_
  refine awp_seq ?_
  refine awp_region ?_
  refine al_d rfl rfl rfl (by exact opd_move rfl rfl) ?_
  refine al_d rfl rfl rfl (by exact opr_call rfl rfl Try.call11 rfl (set9_t h9s1 _ ok9l (by decide) (by decide) (by decide))) ?_
  refine al_d rfl rfl rfl (by exact opd_move rfl rfl) ?_
  refine al_d rfl rfl rfl (by exact opd_extract rfl rfl rfl) ?_
  refine al_d rfl rfl rfl (by exact opd_extract rfl rfl rfl) ?_
  refine al_d rfl rfl rfl (by exact opd_assign rfl rfl) ?_
  refine al_d rfl rfl rfl (by exact opd_assign rfl rfl) ?_
  refine al_nil ?_
  refine awp_seq ?_
  refine awp_region ?_
  refine al_d rfl rfl rfl (by exact opd_move rfl rfl) ?_
  refine al_d rfl rfl rfl (by exact opr_call rfl rfl Try.call11 rfl (set9_t h9s2 _ ok9l (by decide) (by decide) (by decide))) ?_
  refine al_d rfl rfl rfl (by exact opd_move rfl rfl) ?_
  refine al_d rfl rfl rfl (by exact opd_extract rfl rfl rfl) ?_
  refine al_d rfl rfl rfl (by exact opd_extract rfl rfl rfl) ?_
  refine al_d rfl rfl rfl (by exact opd_assign rfl rfl) ?_
  refine al_d rfl rfl rfl (by exact opd_assign rfl rfl) ?_
  refine al_nil ?_
  refine awp_seq ?_
  refine awp_region ?_
  refine al_d rfl rfl rfl (by exact opd_move rfl rfl) ?_
  refine al_d rfl rfl rfl (by exact opr_call rfl rfl Try.call19 rfl (get9_t h9g _ (by decide))) ?_
  refine al_d rfl rfl rfl (by exact opd_move rfl rfl) ?_
  refine al_d rfl rfl rfl (by exact opd_extract rfl rfl rfl) ?_
  refine al_d rfl rfl rfl (by exact opd_extract rfl rfl rfl) ?_
  refine al_d rfl rfl rfl (by exact opd_assign rfl rfl) ?_
  refine al_d rfl rfl rfl (by exact opd_assign rfl rfl) ?_
  refine al_nil ?_
  refine awp_seq ?_
  refine awp_region ?_
  refine al_d rfl rfl rfl (by exact opd_move rfl rfl) ?_
  refine al_d rfl rfl rfl (by exact opd_eql rfl rfl rfl) ?_
  refine al_d rfl rfl rfl (by exact opd_move rfl rfl) ?_
  refine al_ond rfl rfl rfl (by rfl) rfl rfl (by exact opd_move rfl rfl) ?_
  refine al_ond rfl rfl rfl (by rfl) rfl rfl (by exact opd_seql rfl rfl rfl) ?_
  refine al_d rfl rfl rfl (by exact (by exact opd_pick_t rfl rfl rfl)) ?_
  refine al_d rfl rfl rfl (by exact opd_move rfl rfl) ?_
  refine al_ond rfl rfl rfl (by rfl) rfl rfl (by exact opd_move rfl rfl) ?_
  refine al_ond rfl rfl rfl (by rfl) rfl rfl (by exact opd_eql rfl rfl rfl) ?_
  refine al_d rfl rfl rfl (by exact (by exact opd_pick_t rfl rfl rfl)) ?_
  refine al_d rfl rfl rfl (by exact opd_move rfl rfl) ?_
  refine al_ond rfl rfl rfl (by rfl) rfl rfl (by exact opd_move rfl rfl) ?_
  refine al_ond rfl rfl rfl (by rfl) rfl rfl (by exact opd_move rfl rfl) ?_
  refine al_ond rfl rfl rfl (by rfl) rfl rfl (by exact opr_call rfl rfl Try.call21 rfl (same9_t (a := l9) (b := l9) rfl _ (by decide))) ?_
  refine al_d rfl rfl rfl (by exact (by exact opd_pick_t rfl rfl rfl)) ?_
  refine al_d rfl rfl rfl (by exact opd_move rfl rfl) ?_
  refine al_ond rfl rfl rfl (by rfl) rfl rfl (by exact opd_move rfl rfl) ?_
  refine al_ond rfl rfl rfl (by rfl) rfl rfl (by exact opd_eql rfl rfl rfl) ?_
  refine al_d rfl rfl rfl (by exact (by exact opd_pick_t rfl rfl rfl)) ?_
  refine al_d rfl rfl rfl (by exact opd_move rfl rfl) ?_
  refine al_ond rfl rfl rfl (by rfl) rfl rfl (by exact opd_move rfl rfl) ?_
  refine al_ond rfl rfl rfl (by rfl) rfl rfl (by exact (by exact opd_len_sl rfl Try.underlying22 rfl)) ?_
  refine al_ond rfl rfl rfl (by rfl) rfl rfl (by exact opd_eql rfl rfl rfl) ?_
  refine al_d rfl rfl rfl (by exact (by exact opd_pick_t rfl rfl rfl)) ?_
  refine al_d rfl rfl rfl (by exact opd_move rfl rfl) ?_
  refine al_ond rfl rfl rfl (by rfl) rfl rfl (by exact opd_move rfl rfl) ?_
  refine al_ond rfl rfl rfl (by rfl) rfl rfl (by exact opd_eql rfl rfl rfl) ?_
  refine al_d rfl rfl rfl (by exact (by exact opd_pick_t rfl rfl rfl)) ?_
  refine al_d rfl rfl rfl (by exact opd_move rfl rfl) ?_
  refine al_ond rfl rfl rfl (by rfl) rfl rfl (by exact opd_move rfl rfl) ?_
  refine al_d rfl rfl rfl (by exact (by exact opd_pick_t rfl rfl rfl)) ?_
  refine al_d rfl rfl rfl (by exact opd_move rfl rfl) ?_
  refine al_ond rfl rfl rfl (by rfl) rfl rfl (by exact opd_move rfl rfl) ?_
  refine al_ond rfl rfl rfl (by rfl) rfl rfl (by exact opd_seql rfl rfl rfl) ?_
  refine al_d rfl rfl rfl (by exact (by exact opd_pick_t rfl rfl rfl)) ?_
  refine al_d rfl rfl rfl (by exact opd_assign rfl rfl) ?_
  refine al_nil ?_
  refine awp_seq ?_
  refine awp_region ?_
  refine al_d rfl rfl rfl (by exact opd_move rfl rfl) ?_
  refine al_d rfl rfl rfl (by exact opd_move rfl rfl) ?_
  refine al_ond rfl rfl rfl (by rfl) rfl rfl (by exact opd_move rfl rfl) ?_
  refine al_ond rfl rfl rfl (by rfl) rfl rfl (by exact x_build rfl bo46 rfl rfl) ?_
  refine al_ond rfl rfl rfl (by rfl) rfl rfl (by exact x_build rfl bo46 rfl rfl) ?_
  refine al_ond rfl rfl rfl (by rfl) rfl rfl (by exact (by exact x_buildSlice (x9.map encTag) rfl so22 rfl rfl rfl rfl rfl hl2)) ?_
  refine al_ond rfl rfl rfl (by rfl) rfl rfl (by exact opr_call rfl rfl Try.call21 rfl (same9_t (a := x9) (b := x9) rfl _ (by decide))) ?_
  refine al_d rfl rfl rfl (by exact (by exact opd_pick_t rfl rfl rfl)) ?_
  refine al_d rfl rfl rfl (by exact opd_move rfl rfl) ?_
  refine al_ond rfl rfl rfl (by rfl) rfl rfl (by exact opd_move rfl rfl) ?_
  refine al_ond rfl rfl rfl (by rfl) rfl rfl (by exact (by exact opd_len_sl rfl Try.underlying28 rfl)) ?_
  refine al_ond rfl rfl rfl (by rfl) rfl rfl (by exact opd_eql rfl rfl rfl) ?_
  refine al_d rfl rfl rfl (by exact (by exact opd_pick_t rfl rfl rfl)) ?_
  refine al_d rfl rfl rfl (by exact opd_move rfl rfl) ?_
  refine al_ond rfl rfl rfl (by rfl) rfl rfl (by exact opd_move rfl rfl) ?_
  refine al_ond rfl rfl rfl (by rfl) rfl rfl (by exact opd_move rfl rfl) ?_
  refine al_ond rfl rfl rfl (by rfl) rfl rfl (by exact opr_call rfl rfl Try.call21 rfl (same9_t (a := b9) (b := b9) rfl _ (by decide))) ?_
  refine al_d rfl rfl rfl (by exact (by exact opd_pick_t rfl rfl rfl)) ?_
  refine al_d rfl rfl rfl (by exact opd_move rfl rfl) ?_
  refine al_ond rfl rfl rfl (by rfl) rfl rfl (by exact opd_move rfl rfl) ?_
  refine al_ond rfl rfl rfl (by rfl) rfl rfl (by exact (by exact x_buildSlice ([w9a].map encStr) rfl so28 rfl rfl rfl rfl rfl (by intro r hr; simp only [List.map_cons, List.map_nil, List.mem_cons, List.not_mem_nil, or_false] at hr; subst hr; rfl))) ?_
  refine al_ond rfl rfl rfl (by rfl) rfl rfl (by exact opr_call rfl rfl Try.call22 rfl (strings9_t (a := [w9a]) (b := [w9a]) rfl _ (by decide))) ?_
  refine al_d rfl rfl rfl (by exact (by exact opd_pick_t rfl rfl rfl)) ?_
  refine al_d rfl rfl rfl (by exact opd_move rfl rfl) ?_
  refine al_ond rfl rfl rfl (by rfl) rfl rfl (by exact opd_move rfl rfl) ?_
  refine al_ond rfl rfl rfl (by rfl) rfl rfl (by exact opr_call rfl rfl Try.call23 rfl (valid9_t h9v _ ok9l)) ?_
  refine al_d rfl rfl rfl (by exact (by exact opd_pick_t rfl rfl rfl)) ?_
  refine al_d rfl rfl rfl (by exact opd_assign rfl rfl) ?_
  refine al_nil ?_
  refine awp_ret ?_
  -- return
  refine aret1 (H' := []) (by exact .inr rfl) rfl (rval_tmp rfl) (Fin.wk (by simp) trivial trivial) ?_
  exact ⟨rfl, rfl⟩
end Go.Proofs.Ytedfihgkopejcaa
end
section
set_option linter.unusedVariables false
set_option linter.unusedSimpArgs false
set_option maxRecDepth 100000
namespace Go.Proofs.Ytedfihgkopejcaa
open Go.Abs

def encMap (m : List GObj) : List PV := [slObjs m]
/-- A map with an object in it. -/
def gWith (m : List GObj) (o : GObj) : List GObj := if hasK GObj.id m o.id then m.set (lbI GObj.id m o.id) o else m.take (lbI GObj.id m o.id) ++ o :: m.drop (lbI GObj.id m o.id)
def gPutM (m : List GObj) (o : GObj) : List GObj × Int :=
  if !gMap m || !gObj o then ([], 1) else if !hasK GObj.id m o.id && decide (m.length = 1000000) then ([], 2) else (gWith m o, 0)
end Go.Proofs.Ytedfihgkopejcaa
end
section
set_option linter.unusedVariables false
set_option linter.unusedSimpArgs false
set_option maxRecDepth 100000
namespace Go.Proofs.Ytedfihgkopejcaa
open Go.Abs
theorem lbI_lt {α : Type} {f : α → ByteArray} {l : List α} {s : ByteArray} {k : Nat} {o : α} (hk : k < lbI f l s) (ho : l[k]? = some o) : slt (f o) s = true := by
  unfold lbI at hk
  have := List.not_of_lt_findIdx hk
  obtain ⟨h1, h2⟩ := List.getElem?_eq_some_iff.1 ho
  rw [h2] at this
  simpa using this
theorem lbI_ge {α : Type} {f : α → ByteArray} {l : List α} {s : ByteArray} {k : Nat} {o : α} (ha : asc f l) (hk : lbI f l s ≤ k) (ho : l[k]? = some o) : slt (f o) s = false := by
  obtain ⟨h1, h2⟩ := List.getElem?_eq_some_iff.1 ho
  have hlt : lbI f l s < l.length := by omega
  obtain ⟨x, hx⟩ := get_of_lt hlt
  have h0 : slt (f x) s = false := by
    have hp : (fun o => !slt (f o) s) l[lbI f l s] = true := List.findIdx_getElem (p := fun o => !slt (f o) s) (xs := l) (w := hlt)
    rw [(List.getElem?_eq_some_iff.1 hx).2] at hp
    simpa using hp
  by_cases e : lbI f l s = k
  · subst e
    rw [hx] at ho; cases ho
    exact h0
  · cases h : slt (f o) s with
    | false => rfl
    | true =>
      have := slt_trans (asc_get ha (by omega) hx ho) h
      rw [h0] at this; cases this
theorem asc_map {α : Type} {f : α → ByteArray} {l : List α} : asc f l ↔ (l.map f).Pairwise (fun a b => slt a b = true) := by rw [asc, List.pairwise_map]
theorem cut_at {α : Type} {l : List α} {i : Nat} {x : α} (h : l[i]? = some x) : l = l.take i ++ x :: l.drop (i + 1) := by
  obtain ⟨h1, h2⟩ := List.getElem?_eq_some_iff.1 h
  conv => lhs; rw [← List.take_append_drop i l]
  rw [List.drop_eq_getElem_cons h1, h2]
theorem set_cut {α : Type} {l : List α} {i : Nat} {x y : α} (h : l[i]? = some x) : l.set i y = l.take i ++ y :: l.drop (i + 1) := by
  have h1 := (List.getElem?_eq_some_iff.1 h).1
  rw [List.set_eq_take_append_cons_drop, if_pos h1]
theorem asc_ins {α : Type} {f : α → ByteArray} {l : List α} {o : α} (ha : asc f l) (hn : hasK f l (f o) = false) : asc f (l.take (lbI f l (f o)) ++ o :: l.drop (lbI f l (f o))) := by
  have hle := lbI_le f l (f o)
  have hno : ∀ x, x ∈ l → f x ≠ f o := fun x hx e => by
    have : hasK f l (f o) = true := List.any_eq_true.2 ⟨x, hx, decide_eq_true e⟩
    rw [hn] at this; cases this
  have h1 : ∀ x, x ∈ l.take (lbI f l (f o)) → slt (f x) (f o) = true := fun x hx => by
    obtain ⟨k, hk⟩ := List.mem_iff_getElem?.1 hx
    rw [List.getElem?_take] at hk
    split at hk
    · next hlt => exact lbI_lt hlt hk
    · cases hk
  have h2 : ∀ x, x ∈ l.drop (lbI f l (f o)) → slt (f o) (f x) = true := fun x hx => by
    obtain ⟨k, hk⟩ := List.mem_iff_getElem?.1 hx
    rw [List.getElem?_drop] at hk
    have h3 := lbI_ge ha (Nat.le_add_right _ k) hk
    cases h4 : slt (f o) (f x) with
    | true => rfl
    | false => exact absurd (slt_tri h3 h4) (hno x (List.mem_of_getElem? hk))
  rw [asc, List.pairwise_append]
  refine ⟨(List.Pairwise.sublist (List.take_sublist _ _) ha), List.pairwise_cons.2 ⟨h2, List.Pairwise.sublist (List.drop_sublist _ _) ha⟩, fun a hA b hB => ?_⟩
  rcases List.mem_cons.1 hB with rfl | hB
  · exact h1 a hA
  · exact slt_trans (h1 a hA) (h2 b hB)
theorem asc_set {α : Type} {f : α → ByteArray} {l : List α} {i : Nat} {x y : α} (ha : asc f l) (hx : l[i]? = some x) (he : f x = f y) : asc f (l.set i y) := by
  rw [asc_map] at ha ⊢
  have : (l.set i y).map f = l.map f := by
    rw [set_cut (y := y) hx]
    conv => rhs; rw [cut_at hx]
    simp [he]
  rwa [this]
end Go.Proofs.Ytedfihgkopejcaa
end
