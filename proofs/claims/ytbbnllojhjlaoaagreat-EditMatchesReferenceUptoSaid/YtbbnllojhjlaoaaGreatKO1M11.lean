/-
  CONTRACTS: atlas.Same, planisphereref06.Same, Has, the sizes' tests of layer 21, its example map. Conditions: lengths below 2^40.
  CONTRACTS: the sizes' tests of layer 21, its example map. Conditions: lengths below 2^40.
  CONTRACTS: planispherelaw21.sample, head. Conditions: none.
  CONTRACT: planispherelaw21.head answers true. Conditions: none.
  CONTRACT: EditLists answers true. Conditions: the arguments' sizes.
  CONTRACT: EditCloses answers true. Conditions: the arguments' sizes.
  CONTRACT: EditMatchesReference answers true. Conditions: the arguments' sizes.
-/
import Derived.Test.YtbbnllojhjlaoaaGreatKO1M10
section
set_option linter.unusedVariables false
set_option linter.unusedSimpArgs false
set_option maxRecDepth 100000
namespace Go.Proofs.YtbbnllojhjlaoaaGreat
open Go.Abs
instance decGObj : DecidableEq GObj := fun a b => if h : gSameO a b = true then isTrue (gSameO_iff.1 h) else isFalse (fun e => h (gSameO_iff.2 e))
theorem equalObjs_c (a b : List GObj) (H : Heap) (ha : a.length < 4611686018427387904) (hs : ∀ o, o ∈ a → okS o) :
  ACalls Tryz.prog 47 [.pv (slObjs a), .pv (slObjs b), .pv (.fn 48)] H (fun r H' => r = bv (decide (a = b)) ∧ H' = H) := by
 refine ACalls.pure ?_ (by simp) H
 have hma : (a.map encObj).length = a.length := List.length_map _
 have hmb : (b.map encObj).length = b.length := List.length_map _
 refine Bd Tryz.func47 rfl Tryz.ntmps47<|Sq<|Rg<|Dd as'<|Zz<|Sq<|Sq<|Rg<|Dd mv'<|Dd (ll' Tryz.underlying22)<|Dd mv'<|Dd (ll' Tryz.underlying22)<|Dd ne'<|Zz ?_
 refine Cn (fun hc1 => ?_) fun hc1 => ?_
 ·have hne : ¬ a = b := by
   intro e
   subst e
   simp at hc1
  refine Sq<|Rg<|Dd as'<|Zz<|awp_ret ?_
  refine Rt ?_
  exact ⟨by rw [decide_eq_false hne], rfl⟩
 have heq : a.length = b.length := by
  simp only [hma, hmb, Bool.not_eq_false', decide_eq_true_eq] at hc1
  omega
 refine awp_skip<|Sq<|Sq<|Rg<|Dd mv'<|Dd (ll' Tryz.underlying22)<|Dd mv'<|Zz<|awp_block ?_
 refine awp_loop (σ := Nat) (fun k => ([(0, .pv (slObjs a)), (1, .pv (slObjs b)), (2, .pv (.fn 48)), (15, .pv (slObjs a)), (16, iv ((a.map encObj).length : Int)), (17, iv (k : Int))], [])) (fun k => k ≤ a.length ∧ a.take k = b.take k) (fun k => a.length - k) 0 ⟨by omega, by simp⟩ ?_ ?_
 ·exact Wk
 rintro k ⟨hk, hall⟩
 refine Sq<|Rg<|Dd lss'<|Zz<|Sq ?_
 refine Cn (fun hc2 => ?_) fun hc2 => ?_
 ·have hlt : k < a.length := by have := of_decide_eq_true hc2; omega
  obtain ⟨x, hx⟩ := get_of_lt hlt
  obtain ⟨y, hy⟩ := get_of_lt (l := b) (k := k) (by omega)
  have hi := map_get (f := encObj) hx
  have hi2 := map_get (f := encObj) hy
  refine awp_skip<|Sq<|awp_block<|Sq<|Rg<|Dd mv'<|Dd (xp' so22)<|Dd (by exact opd_loadn_pad rfl Tryz.isAgg36 Tryz.sizeOf36 rfl (by omega) (by simp only [Zl, encTag, encObj, encStr, encEdit, encInt]; rfl) rfl)<|Dd (by exact x_alloc (id := 8) rfl zo36 rfl rfl)<|Dd as'<|Uu (sa' Tryz.sizeOf36)<|Zz<|Sq<|Rg<|Dd mv'<|Dd mv'<|Dd (xp' so22)<|Dd (by exact opd_loadn_pad rfl Tryz.isAgg36 Tryz.sizeOf36 rfl (by omega) (by simp only [Zl, encTag, encObj, encStr, encEdit, encInt]; rfl) rfl)<|Dd (by exact x_alloc (id := 9) rfl zo36 rfl rfl)<|Uu (sa' Tryz.sizeOf36)<|Zz<|Sq<|Rg<|Dd mv'<|Dd (ln' Tryz.isAgg36 Tryz.sizeOf36)<|Dd (ln' Tryz.isAgg36 Tryz.sizeOf36)<|Dd (by exact opr_callV rfl rfl rfl (CallsV.fn Tryz.call48 (sameO_c x y _ (hs x (List.mem_of_getElem? hx)))))<|Dd no'<|Zz ?_
  refine Cn (fun hc3 => ?_) fun hc3 => ?_
  ·have ht : ¬ x = y := by
    intro e
    subst e
    have h := hc3
    rw [gSameO_iff.2 rfl] at h; cases h
   have hne : ¬ a = b := by
    intro e
    subst e
    rw [hx] at hy
    exact ht (Option.some.inj hy)
   refine Sq<|Rg<|Dd as'<|Zz<|awp_ret ?_
   refine Rt ?_
   exact ⟨by rw [decide_eq_false hne], rfl⟩
  have ht : x = y := by
   have h := hc3
   exact gSameO_iff.1 (by simpa using h)
  refine awp_skip<|Rg<|Dd ad'<|Dd mv'<|Zz ?_
  refine ⟨k + 1, ⟨by omega, ?_⟩, by omega, Wk⟩
  rw [List.take_add_one, List.take_add_one, hx, hy, hall, ht]
 have hge : k = a.length := by have := of_decide_eq_false hc2; omega
 have he : a = b := by
  have h := hall
  rw [hge, List.take_length, heq, List.take_length] at h
  exact h
 refine awp_exit<|Sq<|Rg<|Dd as'<|Zz<|awp_ret ?_
 refine Rt ?_
 exact ⟨by rw [decide_eq_true he], rfl⟩
theorem atlasSame_c (a b : List GObj) (H : Heap) (ha : a.length < 4611686018427387904) (hs : ∀ o, o ∈ a → okS o) : ACalls Tryz.prog 20 [.agg [.pv (slObjs a)], .agg [.pv (slObjs b)]] H (fun r H' => r = bv (decide (a = b)) ∧ H' = H) := by
 refine ACalls.pure ?_ (by simp) H
 refine Bd Tryz.func20 rfl Tryz.ntmps20<|Sq<|Rg<|Dd (by exact opd_box (id := 2) rfl rfl rfl rfl rfl)<|Dd (by exact opd_box (id := 3) rfl rfl rfl rfl rfl)<|Dd as'<|Zz<|Sq<|Rg<|Dd (fr' fo24_0)<|Dd (l1' Tryz.isAgg22)<|Dd (fr' fo24_0)<|Dd (l1' Tryz.isAgg22)<|Dd (by exact opr_call rfl rfl Tryz.call47 rfl (equalObjs_c a b _ ha hs))<|Dd as'<|Zz<|awp_ret ?_
 refine Rt ?_
 exact ⟨rfl, rfl⟩
theorem same06_c (a b : List ByteArray) (H : Heap) (ha : a.length < 4611686018427387904) : ACalls Tryz.prog 14 [.pv (slStrs a), .pv (slStrs b)] H (fun r H' => r = bv (decide (a = b)) ∧ H' = H) := by
 refine ACalls.pure ?_ (by simp) H
 have hma : (a.map encStr).length = a.length := List.length_map _
 have hmb : (b.map encStr).length = b.length := List.length_map _
 refine Bd Tryz.func14 rfl Tryz.ntmps14<|Sq<|Rg<|Dd as'<|Zz<|Sq<|Sq<|Rg<|Dd mv'<|Dd (ll' Tryz.underlying33)<|Dd mv'<|Dd (ll' Tryz.underlying33)<|Dd ne'<|Zz ?_
 refine Cn (fun hc1 => ?_) fun hc1 => ?_
 ·have hne : ¬ a = b := by
   intro e
   subst e
   simp at hc1
  refine Sq<|Rg<|Dd as'<|Zz<|awp_ret ?_
  refine Rt ?_
  exact ⟨by rw [decide_eq_false hne], rfl⟩
 have heq : a.length = b.length := by
  simp only [hma, hmb, Bool.not_eq_false', decide_eq_true_eq] at hc1
  omega
 refine awp_skip<|Sq<|Sq<|Rg<|Dd as'<|Zz<|awp_block ?_
 refine awp_loop (σ := Nat) (fun k => ([(0, .pv (slStrs a)), (1, .pv (slStrs b)), (5, iv (k : Int))], [])) (fun k => k ≤ a.length ∧ a.take k = b.take k) (fun k => a.length - k) 0 ⟨by omega, by simp⟩ ?_ ?_
 ·exact E0
 rintro k ⟨hk, hall⟩
 refine Sq<|Sq<|Rg<|Dd mv'<|Dd mv'<|Dd (ll' Tryz.underlying33)<|Dd lss'<|Zz ?_
 refine Cn (fun hc2 => ?_) fun hc2 => ?_
 ·have hlt : k < a.length := by have := of_decide_eq_true hc2; omega
  obtain ⟨x, hx⟩ := get_of_lt hlt
  obtain ⟨y, hy⟩ := get_of_lt (l := b) (k := k) (by omega)
  have hi := map_get (f := encStr) hx
  have hi2 := map_get (f := encStr) hy
  refine awp_skip<|Sq<|awp_block<|Sq ?_
  refine awp_drawc follows ?_
  refine Cq mv'<|Cq mv'<|Cq (xp' so33)<|Cq (lp' Tryz.isAgg9)<|Cq mv'<|Cq mv'<|Cq (xp' so33)<|Cq (lp' Tryz.isAgg9)<|Cq sn' ?_
  refine dc_nil ⟨by kernel_rfl, ?_⟩
  refine Cn (fun hc3 => ?_) fun hc3 => ?_
  ·have ht : ¬ x = y := by
    have h : (!decide (x = y)) = true := hc3
    simpa using h
   have hne : ¬ a = b := by
    intro e
    subst e
    rw [hx] at hy
    exact ht (Option.some.inj hy)
   refine Sq<|Rg<|Dd as'<|Zz<|awp_ret ?_
   refine Rt ?_
   exact ⟨by rw [decide_eq_false hne], rfl⟩
  have ht : x = y := by
   have h : (!decide (x = y)) = false := hc3
   simpa using h
  refine awp_skip<|Rg<|Dd mv'<|Dd ad'<|Dd as'<|Zz ?_
  refine ⟨k + 1, ⟨by omega, ?_⟩, by omega, E0⟩
  rw [List.take_add_one, List.take_add_one, hx, hy, hall, ht]
 have hge : k = a.length := by have := of_decide_eq_false hc2; omega
 have he : a = b := by
  have h := hall
  rw [hge, List.take_length, heq, List.take_length] at h
  exact h
 refine awp_exit<|Sq<|Rg<|Dd as'<|Zz<|awp_ret ?_
 refine Rt ?_
 exact ⟨by rw [decide_eq_true he], rfl⟩
end Go.Proofs.YtbbnllojhjlaoaaGreat
end
section
set_option linter.unusedVariables false
set_option linter.unusedSimpArgs false
set_option maxRecDepth 100000
namespace Go.Proofs.YtbbnllojhjlaoaaGreat
open Go.Abs
def few12B (m : List GObj) (n : Int) : Bool := decide ((m.length : Int) ≤ n) && !m.any (fun o => bad11 o 40)
theorem few12_c (m : List GObj) (n : Int) (H : Heap) (hm : m.length < 4611686018427387904) (ho : ∀ o, o ∈ m → okObj o) :
  ACalls Tryz.prog 21 [.agg [.pv (slObjs m)], iv n] H (fun r H' => r = bv (few12B m n) ∧ H' = H) := by
 refine ACalls.pure ?_ (by simp) H
 have hml : (m.map encObj).length = m.length := List.length_map _
 have hB : few12B m n = (decide (((m.map encObj).length : Int) ≤ n) && !m.any (fun o => bad11 o 40)) := by rw [few12B, hml]
 refine Bd Tryz.func21 rfl Tryz.ntmps21<|Sq<|Rg<|Dd (by exact opd_box (id := 2) rfl rfl rfl rfl rfl)<|Dd as'<|Zz<|Sq<|Sq<|Rg<|Dd as'<|Zz<|awp_block ?_
 refine awp_loop (σ := Nat) (fun k => ([(1, iv n), (2, .ref 2 0 0 0), (5, iv (k : Int))], [(2, bx 1 24 [.pv (slObjs m)])])) (fun k => k ≤ m.length ∧ ∀ j, j < k → ∀ b, m[j]? = some b → bad11 b 40 = false) (fun k => m.length - k) 0 ⟨by omega, by omega⟩ ?_ ?_
 ·exact Wk
 rintro k ⟨hk, hno⟩
 refine Sq<|Sq ?_
 refine awp_bool (t := 17) (n := 13) (X := decide ((k : Int) < ((m.map encObj).length : Int)) && decide (((m.map encObj).length : Int) ≤ n)) ?_ ?_
 ·all_goals refine Dd mv' ?_
  all_goals refine Dd (fr' fo24_0) ?_
  all_goals refine Dd (l1' Tryz.isAgg22) ?_
  all_goals refine Dd (ll' Tryz.underlying22) ?_
  all_goals refine Dd lss' ?_
  all_goals refine Dd mv' ?_
  all_goals refine Sp 11 (fun h11 => ?_) fun h11 => ?_
  all_goals try contradiction
  all_goals first | refine Fo ?_ | refine On (fr' fo24_0) ?_
  all_goals first | refine Fo ?_ | refine On (l1' Tryz.isAgg22) ?_
  all_goals first | refine Fo ?_ | refine On (ll' Tryz.underlying22) ?_
  all_goals first | refine Fo ?_ | refine On mv' ?_
  all_goals first | refine Fo ?_ | refine On le' ?_
  all_goals refine Dd pk' ?_
  all_goals refine al_nil ?_
  all_goals (exact ⟨⟨_, rfl, by (rw [h11]; rfl)⟩, rfl, rfl, rfl⟩)
 refine Cn (fun hc1 => ?_) fun hc1 => ?_
 ·have h := hc1
  rw [Bool.and_eq_true, decide_eq_true_eq] at h
  have hlt : k < m.length := by have := h.1; omega
  obtain ⟨o, hoi⟩ := get_of_lt hlt
  have hi := map_get (f := encObj) hoi
  refine awp_skip<|Sq<|awp_block<|Sq<|Rg<|Dd (fr' fo24_0)<|Dd (l1' Tryz.isAgg22)<|Dd mv'<|Dd (xp' so22)<|Dd (by exact opd_loadn_pad rfl Tryz.isAgg36 Tryz.sizeOf36 rfl (by omega) (by simp only [Zl, encTag, encObj, encStr, encEdit, encInt]; rfl) rfl)<|Dd (by exact opr_call rfl rfl Tryz.call49 rfl (few11_c o 40 _ (ho o (List.mem_of_getElem? hoi))))<|Dd no'<|Zz ?_
  refine Cn (fun hc2 => ?_) fun hc2 => ?_
  ·have hb : bad11 o 40 = true := by
    have h := hc2
    simpa using h
   have hf : few12B m n = false := by rw [few12B, any_some (p := fun o => bad11 o 40) hoi hb]; simp
   rw [hf]
   refine Sq<|Rg<|Dd as'<|Zz<|awp_ret ?_
   refine Rt ?_
   exact ⟨rfl, rfl⟩
  have hb : bad11 o 40 = false := by
   have h := hc2
   simpa using h
  refine awp_skip<|Rg<|Dd mv'<|Dd ad'<|Dd as'<|Zz ?_
  exact ⟨k + 1, ⟨by omega, pre_succ (p := fun o => bad11 o 40) hno hoi hb⟩, by omega, Wk⟩
 skip
 refine awp_exit<|Sq<|Rg<|Dd (fr' fo24_0)<|Dd (l1' Tryz.isAgg22)<|Dd (ll' Tryz.underlying22)<|Dd mv'<|Dd le'<|Dd as'<|Zz<|awp_ret ?_
 refine Rt ?_
 refine ⟨?_, rfl⟩
 rw [hB]
 have h := hc1
 rw [Bool.and_eq_false_iff, decide_eq_false_iff_not] at h
 rcases h with h | h
 ·have hge : k = m.length := by omega
  subst hge
  rw [any_none hno]
  simp
 rw [h]; rfl
def bad21h (e : GEdit) : Bool := ((decide (300 < IntKind.i64.wrap (IntKind.i64.wrap (IntKind.i64.wrap ((e.id.size : Int) + (e.other.size : Int)) + (e.node.size : Int)) + (e.key.size : Int))) || decide (600 < (e.val.size : Int))) || decide (40 < ((e.refs.map encStr).length : Int))) || bad11 e.obj 40
def bad21 (e : GEdit) : Bool := bad21h e || e.refs.any (longS 300)
def few21B (l : List GEdit) (n : Int) : Bool := decide ((l.length : Int) ≤ n) && !l.any bad21
theorem few21_c (l : List GEdit) (n : Int) (H : Heap) (hl : l.length < 4611686018427387904) (ho : ∀ e, e ∈ l → okObj e.obj ∧ e.refs.length < 4611686018427387904) :
  ACalls Tryz.prog 22 [.pv (slEdits l), iv n] H (fun r H' => r = bv (few21B l n) ∧ H' = H) := by
 refine ACalls.pure ?_ (by simp) H
 have hml : (l.map encEdit).length = l.length := List.length_map _
 have hB : few21B l n = (decide (((l.map encEdit).length : Int) ≤ n) && !l.any bad21) := by rw [few21B, hml]
 refine Bd Tryz.func22 rfl Tryz.ntmps22<|Sq<|Rg<|Dd as'<|Zz<|Sq<|Sq<|Rg<|Dd as'<|Zz<|awp_block ?_
 refine awp_loop (σ := Nat) (fun k => ([(0, .pv (slEdits l)), (1, iv n), (5, iv (k : Int))], [])) (fun k => k ≤ l.length ∧ ∀ j, j < k → ∀ b, l[j]? = some b → bad21 b = false) (fun k => l.length - k) 0 ⟨by omega, by omega⟩ ?_ ?_
 ·exact Wk
 rintro k ⟨hk, hno⟩
 refine Sq<|Sq ?_
 refine awp_bool (t := 17) (n := 11) (X := decide ((k : Int) < ((l.map encEdit).length : Int)) && decide (((l.map encEdit).length : Int) ≤ n)) ?_ ?_
 ·all_goals refine Dd mv' ?_
  all_goals refine Dd mv' ?_
  all_goals refine Dd (ll' Tryz.underlying25) ?_
  all_goals refine Dd lss' ?_
  all_goals refine Dd mv' ?_
  all_goals refine Sp 12 (fun h12 => ?_) fun h12 => ?_
  all_goals try contradiction
  all_goals first | refine Fo ?_ | refine On mv' ?_
  all_goals first | refine Fo ?_ | refine On (ll' Tryz.underlying25) ?_
  all_goals first | refine Fo ?_ | refine On mv' ?_
  all_goals first | refine Fo ?_ | refine On le' ?_
  all_goals refine Dd pk' ?_
  all_goals refine al_nil ?_
  all_goals (exact ⟨⟨_, rfl, by (rw [h12]; rfl)⟩, rfl, rfl, rfl⟩)
 refine Cn (fun hc1 => ?_) fun hc1 => ?_
 ·have h := hc1
  rw [Bool.and_eq_true, decide_eq_true_eq] at h
  have hlt : k < l.length := by have := h.1; omega
  obtain ⟨e, hel⟩ := get_of_lt hlt
  have hi := map_get (f := encEdit) hel
  obtain ⟨ho1, ho2⟩ := ho e (List.mem_of_getElem? hel)
  have hrl : (e.refs.map encStr).length = e.refs.length := List.length_map _
  obtain ⟨w, hw⟩ : ∃ w, w = IntKind.i64.wrap (IntKind.i64.wrap (IntKind.i64.wrap ((e.id.size : Int) + (e.other.size : Int)) + (e.node.size : Int)) + (e.key.size : Int)) := ⟨_, rfl⟩
  have hbh : bad21h e = (((decide (300 < w) || decide (600 < (e.val.size : Int))) || decide (40 < ((e.refs.map encStr).length : Int))) || !!bad11 e.obj 40) := by rw [bad21h, ← hw, Bool.not_not]
  refine awp_skip<|Sq<|awp_block<|Sq<|Rg<|Dd mv'<|Dd mv'<|Dd (xp' so25)<|Dd (by exact opd_loadn_pad rfl Tryz.isAgg38 Tryz.sizeOf38 rfl (by omega) (by simp only [Zl, encTag, encObj, encStr, encEdit, encInt]; rfl) rfl)<|Dd (by exact x_alloc (id := 6) rfl zo38 rfl rfl)<|Uu (sa' Tryz.sizeOf38)<|Zz<|Sq<|Sq ?_
  refine awp_bool (t := 57) (n := 37) (X := ((decide (300 < w) || decide (600 < (e.val.size : Int))) || decide (40 < ((e.refs.map encStr).length : Int))) || !!bad11 e.obj 40) ?_ ?_
  ·all_goals refine Dd (fr' fo38_1) ?_
   all_goals refine Dd (l1' Tryz.isAgg9) ?_
   all_goals refine Dd (ls' Tryz.underlying9) ?_
   all_goals refine Dd (fr' fo38_2) ?_
   all_goals refine Dd (l1' Tryz.isAgg9) ?_
   all_goals refine Dd (ls' Tryz.underlying9) ?_
   all_goals refine Dd (by exact opd_add rfl rfl rfl rfl) ?_
   all_goals refine Dd (fr' fo38_3) ?_
   all_goals refine Dd (l1' Tryz.isAgg9) ?_
   all_goals refine Dd (ls' Tryz.underlying9) ?_
   all_goals refine Dd (by exact opd_add rfl rfl rfl rfl) ?_
   all_goals refine Dd (fr' fo38_5) ?_
   all_goals refine Dd (l1' Tryz.isAgg9) ?_
   all_goals refine Dd (ls' Tryz.underlying9) ?_
   all_goals refine Dd (by exact opd_add rfl rfl rfl (hw.symm)) ?_
   all_goals refine Dd gt' ?_
   all_goals refine Dd mv' ?_
   all_goals refine Sp 40 (fun h40 => ?_) fun h40 => ?_
   all_goals try contradiction
   all_goals first | refine Fo ?_ | refine On (fr' fo38_6) ?_
   all_goals first | refine Fo ?_ | refine On (l1' Tryz.isAgg9) ?_
   all_goals first | refine Fo ?_ | refine On (ls' Tryz.underlying9) ?_
   all_goals first | refine Fo ?_ | refine On gt' ?_
   all_goals refine Dd pk' ?_
   all_goals refine Dd mv' ?_
   all_goals refine Sp 46 (fun h46 => ?_) fun h46 => ?_
   all_goals try contradiction
   all_goals first | refine Fo ?_ | refine On (fr' fo38_7) ?_
   all_goals first | refine Fo ?_ | refine On (l1' Tryz.isAgg33) ?_
   all_goals first | refine Fo ?_ | refine On (ll' Tryz.underlying33) ?_
   all_goals first | refine Fo ?_ | refine On gt' ?_
   all_goals refine Dd pk' ?_
   all_goals refine Dd mv' ?_
   all_goals refine Sp 52 (fun h52 => ?_) fun h52 => ?_
   all_goals try contradiction
   all_goals first | refine Fo ?_ | refine On (fr' fo38_8) ?_
   all_goals first | refine Fo ?_ | refine On (ln' Tryz.isAgg36 Tryz.sizeOf36) ?_
   all_goals first | refine Fo ?_ | refine On (by exact opr_call rfl rfl Tryz.call49 rfl (few11_c e.obj 40 _ ho1)) ?_
   all_goals first | refine Fo ?_ | refine On no' ?_
   all_goals refine Dd pk' ?_
   all_goals refine al_nil ?_
   all_goals (exact ⟨⟨_, rfl, by first | (rw [h40]; rfl) | (rw [h40, h46]; rfl) | (rw [h40, h46, h52]; rfl)⟩, rfl, rfl, rfl⟩)
  refine Cn (fun hc2 => ?_) fun hc2 => ?_
  ·have hb : bad21 e = true := by rw [bad21, hbh, hc2]; rfl
   have hf : few21B l n = false := by rw [few21B, any_some (p := bad21) hel hb]; simp
   rw [hf]
   refine Sq<|Rg<|Dd as'<|Zz<|awp_ret ?_
   refine Rt ?_
   exact ⟨rfl, rfl⟩
  skip
  refine awp_skip<|Sq<|Rg<|Dd as'<|Zz<|awp_block ?_
  refine awp_loop (σ := Nat) (fun q => ([(0, .pv (slEdits l)), (1, iv n), (5, iv (k : Int)), (6, .ref 6 0 0 0), (7, iv (q : Int))], [(6, bx 15 38 ((encEdit e).map .pv))])) (fun q => q ≤ e.refs.length ∧ ∀ j, j < q → ∀ b, e.refs[j]? = some b → longS 300 b = false) (fun q => e.refs.length - q) 0 ⟨by omega, by omega⟩ ?_ ?_
  ·exact Wk
  rintro q ⟨hq, hnr⟩
  refine Sq<|Sq<|Rg<|Dd mv'<|Dd (fr' fo38_7)<|Dd (l1' Tryz.isAgg33)<|Dd (ll' Tryz.underlying33)<|Dd lss'<|Zz ?_
  refine Cn (fun hc3 => ?_) fun hc3 => ?_
  ·have hql : q < e.refs.length := by have := of_decide_eq_true hc3; omega
   obtain ⟨s, hs⟩ := get_of_lt hql
   have hi2 := map_get (f := encStr) hs
   refine awp_skip<|Sq<|awp_block<|Sq<|Rg<|Dd (fr' fo38_7)<|Dd (l1' Tryz.isAgg33)<|Dd mv'<|Dd (by exact x_index_pad rfl so33 rfl rfl (by omega) (by exact Int.toNat_natCast _) hi2 rfl)<|Dd (lp' Tryz.isAgg9)<|Dd (ls' Tryz.underlying9)<|Dd gt'<|Zz ?_
   refine Cn (fun hc4 => ?_) fun hc4 => ?_
   ·have hb : bad21 e = true := by rw [bad21, any_some (p := longS 300) hs hc4, Bool.or_true]
    have hf : few21B l n = false := by rw [few21B, any_some (p := bad21) hel hb]; simp
    rw [hf]
    refine Sq<|Rg<|Dd as'<|Zz<|awp_ret ?_
    refine Rt ?_
    exact ⟨rfl, rfl⟩
   skip
   refine awp_skip<|Rg<|Dd mv'<|Dd ad'<|Dd as'<|Zz ?_
   exact ⟨q + 1, ⟨by omega, pre_succ (p := longS 300) hnr hs hc4⟩, by omega, Wk⟩
  have hge : q = e.refs.length := by have := of_decide_eq_false hc3; omega
  subst hge
  have hb : bad21 e = false := by rw [bad21, hbh, hc2, any_none hnr]; rfl
  refine awp_exit<|Rg<|Dd mv'<|Dd ad'<|Dd as'<|Zz ?_
  exact ⟨k + 1, ⟨by omega, pre_succ (p := bad21) hno hel hb⟩, by omega, Wk⟩
 skip
 refine awp_exit<|Sq<|Rg<|Dd mv'<|Dd (ll' Tryz.underlying25)<|Dd mv'<|Dd le'<|Dd as'<|Zz<|awp_ret ?_
 refine Rt ?_
 refine ⟨?_, rfl⟩
 rw [hB]
 have h := hc1
 rw [Bool.and_eq_false_iff, decide_eq_false_iff_not] at h
 rcases h with h | h
 ·have hge : k = l.length := by omega
  subst hge
  rw [any_none hno]
  simp
 rw [h]; rfl
def few21L (m : List GObj) (l : List GEdit) : Bool := few12B m 25 && few21B l 10
theorem lawFew21_c (m : List GObj) (l : List GEdit) (H : Heap) (hm : m.length < 4611686018427387904) (hmo : ∀ o, o ∈ m → okObj o) (hl : l.length < 4611686018427387904) (ho : ∀ e, e ∈ l → okObj e.obj ∧ e.refs.length < 4611686018427387904) :
  ACalls Tryz.prog 5 [.agg [.pv (slObjs m)], .pv (slEdits l)] H (fun r H' => r = bv (few21L m l) ∧ H' = H) := by
 refine ACalls.pure ?_ (by simp) H
 refine Bd Tryz.func5 rfl Tryz.ntmps5<|Sq<|Rg<|Dd (by exact opd_box (id := 2) rfl rfl rfl rfl rfl)<|Dd as'<|Zz<|Sq ?_
 refine awp_bool (t := 4) (n := 8) (X := few12B m 25 && few21B l 10) ?_ ?_
 ·all_goals refine Dd (by exact opd_loadn_ref rfl Tryz.isAgg24 Tryz.sizeOf24 rfl rfl rfl rfl (by simp only [Zl, encTag, encObj, encStr, encEdit, encInt]; rfl) rfl) ?_
  all_goals refine Dd (by exact opr_call rfl rfl Tryz.call21 rfl (few12_c m 25 _ hm hmo)) ?_
  all_goals refine Dd mv' ?_
  all_goals refine Sp 7 (fun h7 => ?_) fun h7 => ?_
  all_goals try contradiction
  all_goals first | refine Fo ?_ | refine On mv' ?_
  all_goals first | refine Fo ?_ | refine On (by exact opr_call rfl rfl Tryz.call22 rfl (few21_c l 10 _ hl ho)) ?_
  all_goals refine Dd pk' ?_
  all_goals refine Dd as' ?_
  all_goals refine al_nil ?_
  all_goals (exact ⟨⟨_, rfl, by (rw [h7]; rfl)⟩, rfl, rfl, rfl⟩)
 refine awp_ret ?_
 refine Rt ?_
 exact ⟨rfl, rfl⟩
end Go.Proofs.YtbbnllojhjlaoaaGreat
end
section
set_option linter.unusedVariables false
set_option linter.unusedSimpArgs false
set_option maxRecDepth 100000
namespace Go.Proofs.YtbbnllojhjlaoaaGreat
open Go.Abs
def st1 (c : UInt8) : ByteArray := ⟨#[c]⟩
def nodeA (c : UInt8) : GObj := ⟨st1 c, 1, (c.toNat : Int), 0, [], []⟩
def cs3 : List UInt8 := [97, 98, 99]
def wayA : GObj := ⟨st1 119, 2, 0, 0, cs3.map st1, []⟩
def s0 : List GObj := cs3.map nodeA ++ [wayA]
abbrev obN (l : List GObj) : List (List AV) := l.map (fun e => (encObj e).map .pv)
theorem sample_c (H : Heap) : ACalls Tryz.prog 19 [] H (fun r H' => r = .agg [.pv (slObjs s0)] ∧ H' = H) := by
 refine ACalls.pure ?_ (by simp) H
 have hc3 : cs3.length = 3 := rfl
 have hl3 : ((cs3.take 3).map nodeA).length = 3 := rfl
 refine Bd Tryz.func19 rfl Tryz.ntmps19<|Sq<|Rg<|Dd (by exact x_alloc (id := 0) rfl zo24 rfl rfl)<|Zz<|Sq<|Rg<|Dd (bu' boN24)<|Dd (by exact x_alloc (id := 1) rfl zo24 rfl rfl)<|Uu (sa' Tryz.sizeOf24)<|Zz<|Sq<|Sq<|Rg<|Dd (by exact x_buildSlice (cs3.map (fun c => encStr (st1 c))) rfl so33 rfl rfl rfl rfl rfl (by simp [encStr]))<|Dd (ll' Tryz.underlying33)<|Dd mv'<|Zz<|awp_block ?_
 refine awp_loop2 (fun (k : Nat) (g : Nat) => ([(0, .ref 0 0 0 0), (1, .ref 1 0 0 0), (5, .pv (.sl (cs3.map (fun c => encStr (st1 c))))), (6, iv 3), (7, iv (k : Int))], [(40, ⟨g, 6, 36, obN ((cs3.take k).map nodeA)⟩), (1, bx 1 24 [.osl 40 g 0 ((cs3.take k).map nodeA).length]), (0, bx 1 24 [lv []])])) (fun k g => k ≤ 3) (fun k g => 3 - k) 0 0 (by omega) ?_ ?_
 ·exact (Ent.nz 40 6 36 rfl rfl ⟨⟨_, rfl, (by exact Nz.same (by (simp; rfl)))⟩, ⟨_, rfl, (by exact Nz.same (by (simp; rfl)))⟩, ⟨_, rfl, (by exact Nz.same (by (simp; done)))⟩, ⟨_, rfl, (by exact Nz.same (by (simp; done)))⟩, ⟨_, rfl, (by exact Nz.same (by (simp; done)))⟩, trivial⟩ ⟨⟨_, rfl, rfl, rfl, rfl, (by exact .inr ⟨_, _, rfl, rfl, (by repeat (first | exact trivial | refine ⟨(by exact Nz.own), ?_⟩))⟩)⟩, ⟨_, rfl, rfl, rfl, rfl, (by exact .inl ⟨rfl, (by (simp; done))⟩)⟩, trivial⟩ trivial)
 intro k g hk
 refine Sq<|Rg<|Dd lss'<|Zz<|Sq ?_
 refine Cn (fun hc1 => ?_) fun hc1 => ?_
 ·have hlt : k < cs3.length := by have := of_decide_eq_true hc1; show k < 3; omega
  obtain ⟨c, hcs⟩ := get_of_lt hlt
  have hi := map_get (f := fun c => encStr (st1 c)) hcs
  have htk : (cs3.take (k + 1)).map nodeA = (cs3.take k).map nodeA ++ [nodeA c] := by rw [List.take_add_one, hcs, List.map_append]; rfl
  have hln : ((cs3.take k).map nodeA).length ≤ 3 := by rw [List.length_map, List.length_take]; exact Nat.min_le_right _ _
  have hwb : IntKind.i64.wrap (byteAt (st1 c) 0) = (c.toNat : Int) := by
   show IntKind.i64.wrap (c.toNat : Int) = _
   rw [IntKind.wrap_i64]
   have := c.toNat_lt
   omega
  refine awp_skip<|Sq<|awp_block<|Sq<|Rg<|Dd (xp' so33)<|Dd (lp' Tryz.isAgg9)<|Dd as'<|Zz ?_
  refine awp_drawc follows ?_
  refine Cr [1] (fun _ h => fh fo24_0 h)<|Cr [1] (fun _ h => lh Tryz.isAgg22 h)<|Cr [] (fun _ _ => mv')<|Cr [] (fun _ _ => mv')<|Cr [] (fun H1 hH => by exact opd_index_str rfl Tryz.underlying9 rfl rfl (by omega) (by exact Int.toNat_natCast _) (show 0 < (st1 c).size from Nat.zero_lt_one) rfl)<|Cr [] (fun H1 hH => by exact opd_conv_int rfl Tryz.underlying5 Tryz.underlying3 rfl hwb)<|Cr [] (fun _ _ => (bu' bo32))<|Cr [] (fun _ _ => (bu' bo36))<|Cr [] (fun H1 hH => by exact x_buildSlice ([nodeA c].map encObj) rfl so22 rfl rfl rfl rfl rfl (encObj_rl [nodeA c]))<|Cp [1, 40] (fun H1 hH => by exact x_append rfl so22 ei36 rfl ((hH _ rfl).trans rfl) rfl rfl rfl (List.length_map _) rfl (encObj_rl [nodeA c]) (rfl : _ = 1) (by omega) (lenN_snoc _ (nodeA c)) ((List.map_append (l₂ := [nodeA c])).symm))<|Cr [1] (fun _ h => fh fo24_0 h)<|Cp [1] (fun H1 hH => by exact x_store_all rfl Tryz.sizeOf22 rfl rfl rfl rfl ((hH _ rfl).trans rfl) rfl rfl rfl) ?_
  refine dc_nil ⟨by kernel_rfl, ?_⟩
  refine Rg<|Dd ad'<|Dd mv'<|Zz ?_
  refine ⟨k + 1, g + 1, by omega, by omega, ?_⟩
  rw [htk]
  exact (Ent.wk ⟨⟨_, rfl, rfl⟩, (by (simp; rfl)), ⟨_, rfl, rfl⟩, (by (simp; rfl)), ⟨_, rfl, rfl⟩, (by (simp; done)), ⟨_, rfl, rfl⟩, (by (simp; done)), ⟨_, rfl, rfl⟩, (by (simp; done)), trivial⟩ ⟨⟨_, rfl, rfl⟩, (by exact clo_map _ _ _), ⟨_, rfl, rfl⟩, (by (simp; rfl)), ⟨_, rfl, rfl⟩, (by (simp; done)), trivial⟩ trivial)
 have hge : k = 3 := by have := of_decide_eq_false hc1; omega
 subst hge
 refine awp_exit<|Sq<|Rg<|Dd (fr' fo24_0)<|Dd (l1' Tryz.isAgg22)<|Dd (by exact x_buildSlice (cs3.map (fun c => encStr (st1 c))) rfl so33 rfl rfl rfl rfl rfl (by simp [encStr]))<|Dd (bu' bo36)<|Dd (by exact x_buildSlice ([wayA].map encObj) rfl so22 rfl rfl rfl rfl rfl (encObj_rl [wayA]))<|Dd (by exact x_append rfl so22 ei36 rfl rfl rfl rfl rfl (List.length_map _) rfl (encObj_rl [wayA]) (rfl : _ = 1) (by omega) (lenN_snoc _ wayA) ((List.map_append (l₂ := [wayA])).symm))<|Dd (fr' fo24_0)<|Uu (sa' Tryz.sizeOf22)<|Zz<|Sq<|Rg<|Dd (ln' Tryz.isAgg24 Tryz.sizeOf24)<|Uu (sa' Tryz.sizeOf24)<|Zz<|awp_ret ?_
 refine aret1 (H' := []) (.inr rfl) rfl (rl' Tryz.isAgg24 Tryz.sizeOf24) (Fin.fz (id := 40) (s0.map encObj) rfl (rowsN_of encObj _) (.agg (by rfl) (fz_cons (.osl (by rfl)) fz_nil)) rfl trivial trivial) ?_
 exact ⟨rfl, rfl⟩
end Go.Proofs.YtbbnllojhjlaoaaGreat
end
section
set_option linter.unusedVariables false
set_option linter.unusedSimpArgs false
set_option maxRecDepth 100000
namespace Go.Proofs.YtbbnllojhjlaoaaGreat
open Go.Abs
def ed0 (op : Int) (id other node : ByteArray) : GEdit := ⟨op, id, other, node, 0, 0, sNil, sNil, [], zObj⟩
def eS : GEdit := ed0 6 (st1 119) (st1 118) (st1 98)
def eJ : GEdit := ed0 7 (st1 119) (st1 118) sNil
def eB : GEdit := ed0 5 (st1 98) sNil sNil
def eM : GEdit := ed0 2 (st1 119) sNil sNil
def eW : GEdit := ed0 5 (st1 119) sNil sNil
def x1 : List GObj := cs3.map nodeA ++ [⟨st1 118, 2, 0, 0, [st1 98, st1 99], []⟩, ⟨st1 119, 2, 0, 0, [st1 97, st1 98], []⟩]
theorem hS : gApply s0 eS = (x1, 0) := by kernel_rfl
theorem hJ : gApply x1 eJ = (s0, 0) := by kernel_rfl
theorem hB : gApply s0 eB = ([], 14) := by kernel_rfl
theorem hM : gApply s0 eM = ([], 13) := by kernel_rfl
theorem hA : gAll s0 [eW, eW] = ([], 1, 11) := by kernel_rfl
theorem sortS_ofN {l : List ByteArray} (h : (l.map toU).Pairwise (fun x y => decide (x ≤ y) = true)) : sortS l = l := by
 rw [sortS, List.mergeSort_of_pairwise h, map_toU]
theorem hN : gNames eS = [st1 98, st1 118, st1 119] := by
 have h1 : gEditV eS = true := by kernel_rfl
 have h2 : (idsOf eS).filter nonE = [st1 119, st1 118, st1 98] := by kernel_rfl
 rw [gNames, if_pos h1, h2]
 have hp : [st1 119, st1 118, st1 98].Perm [st1 98, st1 118, st1 119] := (List.reverse_perm [st1 119, st1 118, st1 98]).symm
 rw [sortS_eq hp]
 exact sortS_ofN (by decide)
theorem okE0 (op : Int) {id other node : ByteArray} (h1 : id.size < 10) (h2 : other.size < 10) (h3 : node.size < 10) : okE (ed0 op id other node) :=
 ⟨⟨by show id.size < _; omega, by show other.size < _; omega, by show node.size < _; omega, by show 0 < _; omega⟩, ⟨by show 0 < _; omega, fun s hs => by cases hs⟩, ⟨by show 0 < _; omega, ⟨by show 0 < _; omega, fun t ht => by cases ht⟩, by show 0 < _; omega, fun s hs => by cases hs⟩⟩
theorem okO_node (c : UInt8) : okO (nodeA c) := ⟨by show 1 < _; omega, ⟨by show 0 < _; omega, fun t ht => by cases ht⟩, by show 0 < _; omega, fun s hs => by cases hs⟩
theorem okO_way (id : ByteArray) (l : List UInt8) (h1 : id.size < 10) (h2 : l.length < 10) : okO ⟨id, 2, 0, 0, l.map st1, []⟩ :=
 ⟨by show id.size < _; omega, ⟨by show 0 < _; omega, fun t ht => by cases ht⟩, by show (l.map st1).length < _; rw [List.length_map]; omega, fun s hs => by
  obtain ⟨c, _, rfl⟩ := List.mem_map.1 hs
  show 1 < _; omega⟩
theorem okM_s0 : okM s0 := by
 refine ⟨by show 4 < _; omega, fun o ho => ?_⟩
 rcases List.mem_append.1 ho with h | h
 ·obtain ⟨c, _, rfl⟩ := List.mem_map.1 h
  exact okO_node c
 rw [List.mem_singleton] at h
 subst h
 exact okO_way (st1 119) cs3 (by decide) (by decide)
theorem okM_x1 : okM x1 := by
 refine ⟨by show 5 < _; omega, fun o ho => ?_⟩
 rcases List.mem_append.1 ho with h | h
 ·obtain ⟨c, _, rfl⟩ := List.mem_map.1 h
  exact okO_node c
 simp only [List.mem_cons, List.not_mem_nil, or_false] at h
 rcases h with rfl | rfl
 ·exact okO_way (st1 118) [98, 99] (by decide) (by decide)
 exact okO_way (st1 119) [97, 98] (by decide) (by decide)
theorem apply_t {m x : List GObj} {e : GEdit} {n : Int} (h : gApply m e = (x, n)) (H : Heap) (hm : okM m) (he : okE e) (hl : m.length < 549755813888) :
  ACalls Tryz.prog 6 [.agg [.pv (slObjs m)], av (encEdit e)] H (fun r H' => r = .tup [.agg [.pv (slObjs x)], iv n] ∧ H' = H) := by
 have := apply_c m e H hm he hl
 rwa [h] at this
theorem all_t {m x : List GObj} {l : List GEdit} {i n : Int} (h : gAll m l = (x, i, n)) (H : Heap) (hm : okM m) (hl : l.length < 549755813888) (he : ∀ e, e ∈ l → okE e) :
  ACalls Tryz.prog 17 [.agg [.pv (slObjs m)], .pv (slEdits l)] H (fun r H' => r = .tup [.agg [.pv (slObjs x)], iv i, iv n] ∧ H' = H) := by
 have := all_c m l H hm hl he
 rwa [h] at this
theorem names_t {e : GEdit} {l : List ByteArray} (h : gNames e = l) (H : Heap) (he : okE e) (hsz : e.refs.length + e.obj.refs.length < 1099511627776) : ACalls Tryz.prog 15 [av (encEdit e)] H (fun r H' => r = .pv (slStrs l) ∧ H' = H) := by
 have := names_cE e H he hsz
 rwa [h] at this
theorem same06_t {a b : List ByteArray} (h : a = b) (H : Heap) (ha : a.length < 4611686018427387904) : ACalls Tryz.prog 14 [.pv (slStrs a), .pv (slStrs b)] H (fun r H' => r = bv true ∧ H' = H) := by
 have := same06_c a b H ha
 rwa [decide_eq_true h] at this
theorem atlasSame_t {a b : List GObj} (h : a = b) (H : Heap) (ha : okM a) : ACalls Tryz.prog 20 [.agg [.pv (slObjs a)], .agg [.pv (slObjs b)]] H (fun r H' => r = bv true ∧ H' = H) := by
 have := atlasSame_c a b H ha.1 (fun o ho => okS_of (ha.2 o ho))
 rwa [decide_eq_true h] at this
theorem head21_c (H : Heap) : ACalls Tryz.prog 4 [] H (fun r H' => r = bv true ∧ H' = H) := by
 refine ACalls.pure ?_ (by simp) H
 have w1 : (st1 119).size < 10 := by decide
 have w2 : (st1 118).size < 10 := by decide
 have w3 : (st1 98).size < 10 := by decide
 have w4 : sNil.size < 10 := by decide
 have l0 : s0.length < 549755813888 := by show 4 < _; omega
 have l1 : x1.length < 549755813888 := by show 5 < _; omega
 refine Bd Tryz.func4 rfl Tryz.ntmps4<|Sq<|Rg<|Dd as'<|Zz<|Sq<|Rg<|Dd (by exact opr_call rfl rfl Tryz.call19 rfl (sample_c _))<|Dd (by exact x_alloc (id := 1) rfl zo24 rfl rfl)<|Uu (sa' Tryz.sizeOf24)<|Zz<|Sq<|Rg<|Dd (ln' Tryz.isAgg24 Tryz.sizeOf24)<|Dd (bu' bo38)<|Dd (by exact opr_call rfl rfl Tryz.call6 rfl (apply_t hS _ okM_s0 (okE0 6 w1 w2 w3) l0))<|Dd mv'<|Dd ex'<|Dd ex'<|Dd (by exact x_alloc (id := 2) rfl zo24 rfl rfl)<|Uu (sa' Tryz.sizeOf24)<|Dd as'<|Zz<|Sq<|Rg<|Dd (ln' Tryz.isAgg24 Tryz.sizeOf24)<|Dd (bu' bo38)<|Dd (by exact opr_call rfl rfl Tryz.call6 rfl (apply_t hJ _ okM_x1 (okE0 7 w1 w2 w4) l1))<|Dd mv'<|Dd ex'<|Dd ex'<|Dd (by exact x_alloc (id := 4) rfl zo24 rfl rfl)<|Uu (sa' Tryz.sizeOf24)<|Dd as'<|Zz<|Sq<|Rg<|Dd (ln' Tryz.isAgg24 Tryz.sizeOf24)<|Dd (bu' bo38)<|Dd (by exact opr_call rfl rfl Tryz.call6 rfl (apply_t hB _ okM_s0 (okE0 5 w3 w4 w4) l0))<|Dd mv'<|Dd ex'<|Dd ex'<|Dd (by exact x_alloc (id := 6) rfl zo24 rfl rfl) ?_
 refine Uu (sa' Tryz.sizeOf24)<|Dd as'<|Zz<|Sq<|Rg<|Dd (ln' Tryz.isAgg24 Tryz.sizeOf24)<|Dd (bu' bo38)<|Dd (by exact opr_call rfl rfl Tryz.call6 rfl (apply_t hM _ okM_s0 (okE0 2 w1 w4 w4) l0))<|Dd mv'<|Dd ex'<|Dd ex'<|Dd (by exact x_alloc (id := 8) rfl zo24 rfl rfl)<|Uu (sa' Tryz.sizeOf24)<|Dd as'<|Zz<|Sq<|Rg<|Dd (ln' Tryz.isAgg24 Tryz.sizeOf24)<|Dd (bu' bo38)<|Dd (bu' bo38)<|Dd (by exact x_buildSlice ([eW, eW].map encEdit) rfl so25 rfl rfl rfl rfl rfl (by intro r hr; simp only [List.map_cons, List.map_nil, List.mem_cons, List.not_mem_nil, or_false] at hr; rcases hr with rfl | rfl <;> rfl))<|Dd (by exact opr_call rfl rfl Tryz.call17 rfl (all_t hA _ okM_s0 (by show 2 < _; omega) (by intro e he; simp only [List.mem_cons, List.not_mem_nil, or_false] at he; rcases he with rfl | rfl <;> exact okE0 5 w1 w4 w4)))<|Dd mv'<|Dd ex'<|Dd ex'<|Dd ex'<|Dd (by exact x_alloc (id := 10) rfl zo24 rfl rfl)<|Uu (sa' Tryz.sizeOf24) ?_
 refine Dd as'<|Dd as'<|Zz<|Sq<|Sq<|Rg<|Dd mv'<|Dd ne'<|Dd mv' ?_
 refine al_ond rfl rfl rfl (by rfl) rfl rfl (by exact opd_field_ref rfl fo24_0 rfl rfl rfl rfl) ?_
 refine al_ond rfl rfl rfl (by rfl) rfl rfl (by exact opd_load1_ref rfl Tryz.isAgg22 rfl rfl rfl rfl rfl) ?_
 refine al_ond rfl rfl rfl (by rfl) rfl rfl (by exact opd_len_sl rfl Tryz.underlying22 rfl) ?_
 refine al_ond rfl rfl rfl (by rfl) rfl rfl (by exact opd_neq rfl rfl rfl) ?_
 refine Dd pk'<|Zz ?_
 refine Cn (fun hc1 => ?_) fun hc1 => ?_
 ·cases hc1
 skip
 have hi3 : (x1.map encObj)[3]? = some (encObj ⟨st1 118, 2, 0, 0, [st1 98, st1 99], []⟩) := rfl
 have hi4 : (x1.map encObj)[4]? = some (encObj ⟨st1 119, 2, 0, 0, [st1 97, st1 98], []⟩) := rfl
 refine awp_skip<|Sq<|Rg<|Dd (fr' fo24_0)<|Dd (l1' Tryz.isAgg22)<|Dd (by exact x_index_pad rfl so22 rfl rfl (by omega) (by exact Int.toNat_natCast _) hi3 rfl)<|Dd (fp' fo36_3)<|Dd (lp' Tryz.isAgg33)<|Dd (by exact x_buildSlice ([st1 98, st1 99].map encStr) rfl so33 rfl rfl rfl rfl rfl (by simp [encStr]))<|Dd (by exact opr_call rfl rfl Tryz.call14 rfl (same06_t (a := [st1 98, st1 99]) (b := [st1 98, st1 99]) rfl _ (by show 2 < _; omega)))<|Dd mv' ?_
 refine al_ond rfl rfl rfl (by rfl) rfl rfl (by exact opd_field_ref rfl fo24_0 rfl rfl rfl rfl) ?_
 refine al_ond rfl rfl rfl (by rfl) rfl rfl (by exact opd_load1_ref rfl Tryz.isAgg22 rfl rfl rfl rfl rfl) ?_
 refine al_ond rfl rfl rfl (by rfl) rfl rfl (by exact x_index_pad rfl so22 rfl rfl (by omega) (by exact Int.toNat_natCast _) hi4 rfl) ?_
 refine al_ond rfl rfl rfl (by rfl) rfl rfl (by exact opd_field_pad rfl fo36_3 rfl rfl) ?_
 refine al_ond rfl rfl rfl (by rfl) rfl rfl (by exact opd_load1_pad rfl Tryz.isAgg33 rfl (by omega) rfl) ?_
 refine al_ond rfl rfl rfl (by rfl) rfl rfl (by exact x_buildSlice ([st1 97, st1 98].map encStr) rfl so33 rfl rfl rfl rfl rfl (by simp [encStr])) ?_
 refine al_ond rfl rfl rfl (by rfl) rfl rfl (by exact opr_call rfl rfl Tryz.call14 rfl (same06_t (a := [st1 97, st1 98]) (b := [st1 97, st1 98]) rfl _ (by show 2 < _; omega))) ?_
 refine Dd pk'<|Dd mv' ?_
 refine al_ond rfl rfl rfl (by rfl) rfl rfl (by exact opd_move rfl rfl) ?_
 refine al_ond rfl rfl rfl (by rfl) rfl rfl (by exact opd_eql rfl rfl rfl) ?_
 refine Dd pk'<|Dd mv' ?_
 refine al_ond rfl rfl rfl (by rfl) rfl rfl (by exact opd_loadn_ref rfl Tryz.isAgg24 Tryz.sizeOf24 rfl rfl rfl rfl rfl rfl) ?_
 refine al_ond rfl rfl rfl (by rfl) rfl rfl (by exact opd_loadn_ref rfl Tryz.isAgg24 Tryz.sizeOf24 rfl rfl rfl rfl rfl rfl) ?_
 refine al_ond rfl rfl rfl (by rfl) rfl rfl (by exact opr_call rfl rfl Tryz.call20 rfl (atlasSame_t (a := s0) (b := s0) rfl _ okM_s0)) ?_
 refine Dd pk'<|Dd mv' ?_
 refine al_ond rfl rfl rfl (by rfl) rfl rfl (by exact opd_move rfl rfl) ?_
 refine al_ond rfl rfl rfl (by rfl) rfl rfl (by exact opd_eql rfl rfl rfl) ?_
 refine Dd pk'<|Dd mv' ?_
 refine al_ond rfl rfl rfl (by rfl) rfl rfl (by exact opd_move rfl rfl) ?_
 refine al_ond rfl rfl rfl (by rfl) rfl rfl (by exact opd_eql rfl rfl rfl) ?_
 refine Dd pk'<|Dd as'<|Zz<|Sq<|Rg<|Dd mv'<|Dd mv' ?_
 refine al_ond rfl rfl rfl (by rfl) rfl rfl (by exact opd_move rfl rfl) ?_
 refine al_ond rfl rfl rfl (by rfl) rfl rfl (by exact opd_eql rfl rfl rfl) ?_
 refine Dd pk'<|Dd mv' ?_
 refine al_ond rfl rfl rfl (by rfl) rfl rfl (by exact opd_move rfl rfl) ?_
 refine al_ond rfl rfl rfl (by rfl) rfl rfl (by exact opd_eql rfl rfl rfl) ?_
 refine Dd pk'<|Dd mv' ?_
 refine al_ond rfl rfl rfl (by rfl) rfl rfl (by exact x_build rfl bo38 rfl rfl) ?_
 refine al_ond rfl rfl rfl (by rfl) rfl rfl (by exact opr_call rfl rfl Tryz.call15 rfl (names_t hN _ (okE0 6 w1 w2 w3) (by show 0 < _; omega))) ?_
 refine al_ond rfl rfl rfl (by rfl) rfl rfl (by exact x_buildSlice ([st1 98, st1 118, st1 119].map encStr) rfl so33 rfl rfl rfl rfl rfl (by simp [encStr])) ?_
 refine al_ond rfl rfl rfl (by rfl) rfl rfl (by exact opr_call rfl rfl Tryz.call14 rfl (same06_t (a := [st1 98, st1 118, st1 119]) (b := [st1 98, st1 118, st1 119]) rfl _ (by show 3 < _; omega))) ?_
 refine Dd pk'<|Dd as'<|Zz<|awp_ret ?_
 refine Rt ?_
 exact ⟨rfl, rfl⟩
end Go.Proofs.YtbbnllojhjlaoaaGreat
end
section
set_option linter.unusedVariables false
set_option linter.unusedSimpArgs false
set_option maxRecDepth 100000
namespace Go.Proofs.YtbbnllojhjlaoaaGreat
open Go.Abs

theorem from_app : ∀ (l1 l2 : List GEdit) (m : List GObj) (i : Nat), gAllFrom m i (l1 ++ l2) = if (gAllFrom m i l1).2.2 = 0 then gAllFrom (gAllFrom m i l1).1 (i + l1.length) l2 else gAllFrom m i l1
  | [], l2, m, i => by simp [gAllFrom]
  | e :: l1, l2, m, i => by
    by_cases h : (gAfter m e).2 = 0
    · have h2 : ∀ l, gAllFrom m i (e :: l) = gAllFrom (gAfter m e).1 (i + 1) l := fun l => by rw [gAllFrom, if_neg (by simp [h])]
      rw [List.cons_append, h2, h2, from_app l1 l2, List.length_cons, show i + 1 + l1.length = i + (l1.length + 1) by omega]
    · have h2 : ∀ l, gAllFrom m i (e :: l) = ([], (i : Int), (gAfter m e).2) := fun l => by rw [gAllFrom, if_pos (by simp [h])]
      rw [List.cons_append, h2, h2, if_neg h]
theorem from_ok : ∀ {l : List GEdit} {m : List GObj} {i : Nat}, okM m → closedB m = true → (∀ e, e ∈ l → okE e) → (gAllFrom m i l).2.2 = 0 → okM (gAllFrom m i l).1 ∧ closedB (gAllFrom m i l).1 = true ∧ (gAllFrom m i l).2.1 = -1
  | [], m, i, hm, hc, _, _ => ⟨hm, hc, rfl⟩
  | e :: l, m, i, hm, hc, he, h => by
    by_cases h1 : (gAfter m e).2 = 0
    · have h2 : gAllFrom m i (e :: l) = gAllFrom (gAfter m e).1 (i + 1) l := by rw [gAllFrom, if_neg (by simp [h1])]
      rw [h2] at h ⊢
      exact from_ok (after_okM hm (closed_gMap hc) (he e List.mem_cons_self) h1) (after_closed hc h1) (fun x hx => he x (List.mem_cons_of_mem _ hx)) h
    · have h2 : gAllFrom m i (e :: l) = ([], (i : Int), (gAfter m e).2) := by rw [gAllFrom, if_pos (by simp [h1])]
      rw [h2] at h
      exact absurd h h1
theorem from_err : ∀ {l : List GEdit} {m : List GObj} {i : Nat}, (gAllFrom m i l).2.2 ≠ 0 → (gAllFrom m i l).1 = [] ∧ ∃ j : Nat, (gAllFrom m i l).2.1 = (j : Int) ∧ j < i + l.length
  | [], m, i, h => absurd rfl h
  | e :: l, m, i, h => by
    by_cases h1 : (gAfter m e).2 = 0
    · have h2 : gAllFrom m i (e :: l) = gAllFrom (gAfter m e).1 (i + 1) l := by rw [gAllFrom, if_neg (by simp [h1])]
      rw [h2] at h ⊢
      obtain ⟨a, j, b, c⟩ := from_err h
      exact ⟨a, j, b, by rw [List.length_cons]; omega⟩
    · have h2 : gAllFrom m i (e :: l) = ([], (i : Int), (gAfter m e).2) := by rw [gAllFrom, if_pos (by simp [h1])]
      rw [h2]
      exact ⟨rfl, i, rfl, by rw [List.length_cons]; omega⟩
theorem from_shift (n : Nat) : ∀ (l : List GEdit) (m : List GObj) (i : Nat), gAllFrom m (i + n) l = ((gAllFrom m i l).1, (if (gAllFrom m i l).2.2 = 0 then -1 else (gAllFrom m i l).2.1 + (n : Int)), (gAllFrom m i l).2.2)
  | [], m, i => by simp [gAllFrom]
  | e :: l, m, i => by
    by_cases h1 : (gAfter m e).2 = 0
    · have h2 : ∀ i, gAllFrom m i (e :: l) = gAllFrom (gAfter m e).1 (i + 1) l := fun i => by rw [gAllFrom, if_neg (by simp [h1])]
      rw [h2, h2, show i + n + 1 = i + 1 + n by omega]
      exact from_shift n l _ (i + 1)
    · have h2 : ∀ i : Nat, gAllFrom m i (e :: l) = ([], (i : Int), (gAfter m e).2) := fun i => by rw [gAllFrom, if_pos (by simp [h1])]
      rw [h2, h2]
      simp [h1]
theorem all_cases {m : List GObj} {l1 l2 : List GEdit} (hm : okM m) (h1 : ∀ e, e ∈ l1 → okE e) (h2 : ∀ e, e ∈ l2 → okE e) :
    ((gAll m l1).2.2 ≠ 0 ∧ gAll m (l1 ++ l2) = gAll m l1 ∧ (gAll m l1).1 = []) ∨
    ((gAll m l1).2.2 = 0 ∧ okM (gAll m l1).1 ∧ (gAll m l1).2.1 = -1 ∧
      (((gAll (gAll m l1).1 l2).2.2 ≠ 0 ∧ (gAll m (l1 ++ l2)).2.2 = (gAll (gAll m l1).1 l2).2.2 ∧ (gAll m (l1 ++ l2)).1 = [] ∧ ∃ j : Nat, (gAll (gAll m l1).1 l2).2.1 = (j : Int) ∧ j < l2.length ∧ (gAll m (l1 ++ l2)).2.1 = ((j + l1.length : Nat) : Int)) ∨
       ((gAll (gAll m l1).1 l2).2.2 = 0 ∧ (gAll m (l1 ++ l2)).2.2 = 0 ∧ (gAll m (l1 ++ l2)).2.1 = -1 ∧ (gAll (gAll m l1).1 l2).2.1 = -1 ∧ (gAll m (l1 ++ l2)).1 = (gAll (gAll m l1).1 l2).1 ∧ okM (gAll (gAll m l1).1 l2).1))) := by
  by_cases hc : closedB m = true
  · have ha : ∀ l, gAll m l = gAllFrom m 0 l := fun l => by rw [gAll, if_pos hc]
    rw [ha, ha, from_app]
    by_cases h0 : (gAllFrom m 0 l1).2.2 = 0
    · obtain ⟨a, b, c⟩ := from_ok hm hc h1 h0
      refine .inr ⟨h0, a, c, ?_⟩
      rw [if_pos h0, show gAll (gAllFrom m 0 l1).1 l2 = gAllFrom (gAllFrom m 0 l1).1 0 l2 by rw [gAll, if_pos b], from_shift]
      have h2' := h2
      by_cases h2 : (gAllFrom (gAllFrom m 0 l1).1 0 l2).2.2 = 0
      · refine .inr ⟨h2, h2, by rw [if_pos h2], ?_, rfl, (from_ok a b h2' h2).1⟩
        exact ((from_ok a b h2' h2).2).2
      · obtain ⟨d, j, e, f⟩ := from_err h2
        exact .inl ⟨h2, rfl, d, j, e, by omega, by show (if _ then _ else _) = _; rw [if_neg h2, e, Int.natCast_add]⟩
    · rw [if_neg h0]
      exact .inl ⟨h0, rfl, (from_err h0).1⟩
  · have ha : ∀ l, gAll m l = ([], -1, 1) := fun l => by rw [gAll, if_neg hc]
    rw [ha, ha]
    exact .inl ⟨by decide, rfl, rfl⟩
theorem same12_t {a b : List GObj} (h : a = b) (H : Heap) (ha : okL a) : ACalls Tryz.prog 10 [.agg [.pv (slObjs a)], .agg [.pv (slObjs b)]] H (fun r H' => r = bv true ∧ H' = H) := by
  have := same12_c a b H ha
  rwa [gSameM_iff.2 h] at this
end Go.Proofs.YtbbnllojhjlaoaaGreat
end
section
set_option linter.unusedVariables false
set_option linter.unusedSimpArgs false
set_option maxRecDepth 100000
namespace Go.Proofs.YtbbnllojhjlaoaaGreat
open Go.Abs

theorem putAll_err : ∀ {l m : List GObj}, (putAll m l).2 ≠ 0 → (putAll m l).1 = []
  | [], m, h => absurd rfl h
  | o :: l, m, h => by
    rw [putAll] at h ⊢
    by_cases h0 : (gPutM m o).2 = 0
    · rw [if_neg (by simp [h0])] at h ⊢
      exact putAll_err h
    · rw [if_pos (by simp [h0])]
theorem gDropM_err {m : List GObj} {id : ByteArray} (h : (gDropM m id).2 ≠ 0) : (gDropM m id).1 = [] := by
  unfold gDropM at h ⊢
  split at h
  · rename_i h1; rw [if_pos h1]
  · rename_i h1
    rw [if_neg h1]
    split at h
    · rename_i h2; rw [if_pos h2]
    · exact absurd rfl h
theorem after_err {m : List GObj} {e : GEdit} (h : (gAfter m e).2 ≠ 0) : (gAfter m e).1 = [] := by
  unfold gAfter at h ⊢
  split at h
  · rename_i h1; rw [if_pos h1]
  · rename_i h1
    rw [if_neg h1]
    split at h
    · rename_i h2; rw [if_pos h2]
    · rename_i h2
      rw [if_neg h2]
      split at h
      · rename_i h3; rw [if_pos h3]; exact putAll_err h
      · rename_i h3
        rw [if_neg h3]
        split at h
        · rename_i h4; rw [if_pos h4]; exact gDropM_err h
        · rename_i h4
          exact absurd rfl h
theorem apply_err {m : List GObj} {e : GEdit} (h : (gApply m e).2 ≠ 0) : (gApply m e).1 = [] := by
  unfold gApply at h ⊢
  split at h
  · rename_i h1; rw [if_pos h1]; exact after_err h
  · rename_i h1; rw [if_neg h1]
theorem apply_ok {m : List GObj} {e : GEdit} (hm : okM m) (he : okE e) (h : (gApply m e).2 = 0) : closedB m = true ∧ gEditV e = true ∧ closedB (gApply m e).1 = true ∧ okM (gApply m e).1 := by
  unfold gApply at h ⊢
  split at h
  · rename_i h1
    rw [if_pos h1]
    exact ⟨h1, (eff_of (closed_gMap h1) h).1, after_closed h1 h, after_okM hm (closed_gMap h1) he h⟩
  · cases h
end Go.Proofs.YtbbnllojhjlaoaaGreat
end
section
set_option linter.unusedVariables false
set_option linter.unusedSimpArgs false
set_option maxRecDepth 100000
namespace Go.Proofs.YtbbnllojhjlaoaaGreat
open Go.Abs
theorem nil_sz : sNil.size < 4611686018427387904 := by decide
theorem dropE_ok {id : ByteArray} (h : id.size < 4611686018427387904) : okE (dropE id) := ⟨⟨h, nil_sz, nil_sz, nil_sz⟩, ⟨(by show 0 < _; omega), fun s h => by cases h⟩, okO_z⟩
theorem apTag_ok {id k : ByteArray} {b : List GTag} (h : id.size < 4611686018427387904) (hk : k.size < 4611686018427387904) : okE (apTag id b k) := ⟨⟨h, nil_sz, nil_sz, hk⟩, ⟨(by show 0 < _; omega), fun s h => by cases h⟩, okO_z⟩
theorem apKeys_sz {a b : List GTag} (ha : okTags a) (hb : okTags b) {k : ByteArray} (h : k ∈ apKeys a b) : k.size < 4611686018427387904 := by
 unfold apKeys at h
 rw [compact_mem, (sortS_perm _).mem_iff, List.mem_map] at h
 obtain ⟨t, ht, rfl⟩ := h
 rcases List.mem_append.1 ht with h | h
 ·exact (ha.2 t h).1
 exact (hb.2 t h).1
theorem apart_ok {e : GEdit} {o x : GObj} (he : okE e) (ho : okO o) (hx : okO x) : ∀ y, y ∈ (gApart e o x).1 → okE y := fun y hy => by
 have hs : (atS x.refs 0).size < 4611686018427387904 := by
  unfold atS
  cases h : x.refs[0]? with
  | none => exact nil_sz
  | some s => exact hx.2.2.2 s (List.mem_of_getElem? h)
 unfold gApart at hy
 split at hy
 ·cases hy
 rcases List.mem_append.1 hy with h | h
 ·unfold apOut at h
  rcases List.mem_cons.1 h with rfl | h
  ·exact ⟨⟨he.1.1, he.1.2.1, hs, nil_sz⟩, ⟨(by show 0 < _; omega), fun s h => by cases h⟩, okO_z⟩
  obtain ⟨k, hk, rfl⟩ := List.mem_map.1 h
  exact apTag_ok he.1.2.1 (apKeys_sz ho.2.1 hx.2.1 (List.mem_filter.1 hk).1)
 unfold apSets at h
 obtain ⟨k, hk, rfl⟩ := List.mem_map.1 h
 exact apTag_ok he.1.2.1 (apKeys_sz ho.2.1 hx.2.1 (List.mem_filter.1 hk).1)
theorem apart_len (e : GEdit) (o x : GObj) : (gApart e o x).1.length ≤ 2 * (o.tags.length + x.tags.length) + 1 := by
 unfold gApart
 split
 ·show 0 ≤ _; omega
 show (apOut _ _ _ _ _ ++ apSets _ _ _ _).length ≤ _
 rw [List.length_append]
 have h1 := apOut_len e o.tags x.tags (atS x.refs 0) (apKeys o.tags x.tags)
 have h2 := apSets_len e o.tags x.tags (apKeys o.tags x.tags)
 have h3 : (apKeys o.tags x.tags).length ≤ o.tags.length + x.tags.length := by
  unfold apKeys
  refine Nat.le_trans (gcomp_len _) ?_
  rw [sortS_length, List.length_map, List.length_append]
  exact Nat.le_refl _
 omega
theorem back_ok {e : GEdit} {o : GObj} (he : okE e) (ho : okO o) : okE (gBack e o) := by
 unfold gBack
 repeat' split
 ·exact he
 ·exact he
 ·exact ⟨he.1, ⟨ho.2.2.1, ho.2.2.2⟩, he.2.2⟩
 ·exact ⟨⟨nil_sz, nil_sz, nil_sz, nil_sz⟩, ⟨(by show 0 < _; omega), fun s h => by cases h⟩, ho⟩
 ·exact ⟨⟨he.1.1, he.1.2.1, nil_sz, nil_sz⟩, ⟨(by show 0 < _; omega), fun s h => by cases h⟩, okO_z⟩
 exact he
theorem inv_ok {m : List GObj} {e : GEdit} (hm : okM m) (he : okE e) : (∀ y, y ∈ (gInvert m e).1 → okE y) ∧ (gInvert m e).1.length < 4611686018427387904 := by
 unfold gInvert
 split
 ·exact ⟨fun y hy => (by cases hy), by show 0 < _; omega⟩
 next h0 =>
 have h0' : (gApply m e).2 = 0 := by simpa using h0
 split
 ·refine ⟨fun y hy => ?_, by show 1 < _; omega⟩
  rw [List.mem_singleton] at hy
  subst hy
  exact dropE_ok he.2.2.1
 next h1 =>
 have hne : e.op ≠ 1 := fun h => h1 (decide_eq_true h)
 cases hc : closedB m with
 | false => rw [gApply, hc] at h0'; cases h0'
 | true =>
  have hga : gApply m e = gAfter m e := by rw [gApply, if_pos hc]
  rw [hga] at h0'
  obtain ⟨o, hlk, hom, hgo, h7⟩ := inv_facts hc h0' hne
  rw [oOf_some hlk]
  split
  ·next h => 
   obtain ⟨x, hlx, hxm, hgx, _⟩ := h7 (of_decide_eq_true h)
   rw [oOf_some hlx]
   refine ⟨apart_ok he (hm.2 o hom) (hm.2 x hxm), ?_⟩
   have h1 := apart_len e o x
   have h2 := (gObj_len hgo).2.1
   have h3 := (gObj_len hgx).2.1
   omega
  refine ⟨fun y hy => ?_, by show 1 < _; omega⟩
  rw [List.mem_singleton] at hy
  subst hy
  exact back_ok he (hm.2 o hom)
theorem okM_L {m : List GObj} (hm : okM m) : okL m := ⟨hm.1, fun o ho => ⟨(hm.2 o ho).2.2.1, (hm.2 o ho).2.1.1⟩⟩
theorem apply_okL {m : List GObj} {e : GEdit} (hm : okM m) (he : okE e) : okL (gApply m e).1 := by
 by_cases h : (gApply m e).2 = 0
 ·obtain ⟨_, _, _, a4⟩ := apply_ok hm he h
  exact okM_L a4
 rw [apply_err h]
 exact ⟨by show 0 < _; omega, fun o ho => by cases ho⟩
theorem names_lenO {e : GEdit} (h : e.refs.length + e.obj.refs.length < 1099511627776) : (gNames e).length < 4611686018427387904 := by
 unfold gNames
 split
 ·rw [sortS_length]
  have h1 := List.length_filter_le nonE (idsOf e)
  have h2 := addAll_len e.obj.refs (addAll (addAll [] [e.id, e.other, e.node, e.obj.id]) e.refs)
  have h3 := addAll_len e.refs (addAll [] [e.id, e.other, e.node, e.obj.id])
  have h4 := addAll_len [e.id, e.other, e.node, e.obj.id] []
  have h5 : ([e.id, e.other, e.node, e.obj.id] : List ByteArray).length = 4 := rfl
  have h6 : ([] : List ByteArray).length = 0 := rfl
  have h7 : (idsOf e).length = (addAll (addAll (addAll [] [e.id, e.other, e.node, e.obj.id]) e.refs) e.obj.refs).length := rfl
  omega
 show 0 < _; omega
theorem all_okL {m : List GObj} {l : List GEdit} (hm : okM m) (he : ∀ e, e ∈ l → okE e) : okL (gAll m l).1 := by
 rcases all_cases (l1 := l) (l2 := []) hm he (fun e h => by cases h) with ⟨_, _, k⟩ | ⟨h0, a, _⟩
 ·rw [k]
  exact ⟨by show 0 < _; omega, fun o ho => by cases ho⟩
 exact okM_L a
theorem few_refs {m : List GObj} {l : List GEdit} (h : few21L m l = true) : m.length ≤ 25 ∧ l.length ≤ 10 := by
 rw [few21L, few12B, few21B, Bool.and_eq_true, Bool.and_eq_true, Bool.and_eq_true, decide_eq_true_eq, decide_eq_true_eq] at h
 obtain ⟨⟨h1, _⟩, h2, _⟩ := h
 omega
theorem editMatches_c (m : List GObj) (l : List GEdit) (H : Heap) (hm : okM m) (hml : m.length < 549755813888) (hl : l.length < 549755813888) (he : ∀ e, e ∈ l → okE e) (hsz : ∀ e, e ∈ l → e.refs.length + e.obj.refs.length < 1000000000) :
  ACalls Tryz.prog 3 [.agg [.pv (slObjs m)], .pv (slEdits l)] H (fun r H' => r = bv true ∧ H' = H) := by
 refine ACalls.pure ?_ (by simp) H
 have hle : (l.map encEdit).length = l.length := List.length_map _
 have hL : okL m := okM_L hm
 have heo : ∀ e, e ∈ l → okObj e.obj ∧ e.refs.length < 4611686018427387904 := fun e h => ⟨⟨(he e h).2.2.2.2.1, (he e h).2.2.2.1.1⟩, by have := (he e h).2.1.1; omega⟩
 refine Bd Tryz.func3 rfl Tryz.ntmps3<|Sq<|Rg<|Dd (by exact opd_box (id := 2) rfl rfl rfl rfl rfl)<|Dd as'<|Zz<|Sq<|Rg<|Dd (by exact opr_call rfl rfl Tryz.call4 rfl (head21_c _))<|Dd as'<|Zz<|Sq<|Sq<|Rg<|Dd (by exact opd_loadn_ref rfl Tryz.isAgg24 Tryz.sizeOf24 rfl rfl rfl rfl (by simp only [Zl, encTag, encObj, encStr, encEdit, encInt]; rfl) rfl)<|Dd mv'<|Dd (by exact opr_call rfl rfl Tryz.call5 rfl (lawFew21_c m l _ hL.1 hL.2 (by omega) heo))<|Dd no'<|Zz ?_
 refine Cn (fun hc1 => ?_) fun hc1 => ?_
 ·skip
  refine Sq<|Rg<|Dd mv'<|Dd as'<|Zz<|awp_ret ?_
  refine Rt ?_
  exact ⟨rfl, rfl⟩
 obtain ⟨hm25, hl10⟩ := few_refs (m := m) (l := l) (by simpa using hc1)
 refine awp_skip<|Sq<|Sq<|Rg<|Dd as'<|Zz<|awp_block ?_
 refine awp_loop (σ := Nat) (fun q => ([(1, .pv (slEdits l)), (2, .ref 2 0 0 0), (5, bv true), (6, iv (q : Int))], [(2, bx 1 24 [.pv (slObjs m)])])) (fun q => q ≤ l.length) (fun q => l.length - q) 0 (by omega) ?_ ?_
 ·exact Wk
 intro q hq
 refine Sq<|Sq<|Rg<|Dd mv'<|Dd mv'<|Dd (ll' Tryz.underlying25)<|Dd lss'<|Zz ?_
 refine Cn (fun hc2 => ?_) fun hc2 => ?_
 ·have hql : q < l.length := by have := of_decide_eq_true hc2; omega
  obtain ⟨e, hel⟩ := get_of_lt hql
  have hi1 := map_get (f := encEdit) hel
  have hem := List.mem_of_getElem? hel
  have hee := he e hem
  have hes := hsz e hem
  have hA := fun H => apply_c m e H hm hee hml
  have hB := fun H => apply21_c m e H hm (by omega) hee (by omega)
  have hC := fun H => editInvert_c m e H hm hee hml
  have hD := fun H => rInvert21_c m e H hm (by omega) hee (by omega)
  have hN := fun H => names_cE e H hee (by omega)
  have hR := fun H => names21_c e H hee (by omega)
  have hV := fun H => editValid_c e H hee
  have hW := fun H => rValidE_c e H hee (by omega)
  have hokA := apply_okL hm hee
  obtain ⟨hok1, hok2⟩ := inv_ok hm hee
  have hnl := names_lenO (e := e) (by omega)
  obtain ⟨a, ha⟩ : ∃ a, a = gApply m e := ⟨_, rfl⟩
  obtain ⟨b, hb⟩ : ∃ b, b = gInvert m e := ⟨_, rfl⟩
  obtain ⟨n, hn⟩ : ∃ n, n = gNames e := ⟨_, rfl⟩
  obtain ⟨v, hv⟩ : ∃ v, v = gEditV e := ⟨_, rfl⟩
  rw [← ha] at hA hB hokA
  rw [← hb] at hC hD hok1 hok2
  rw [← hn] at hN hR hnl
  rw [← hv] at hV hW
  obtain ⟨am, ae⟩ := a
  obtain ⟨bl, be⟩ := b
  simp only at hA hB hC hD hokA hok1 hok2
  clear ha hb hn hv
  have kA : (!decide (ae = ae)) = false := by rw [decide_eq_true rfl]; rfl
  have kB : (!decide (be = be)) = false := by rw [decide_eq_true rfl]; rfl
  have kV : (!(v == v)) = false := by cases v <;> rfl
  refine awp_skip<|Sq<|awp_block<|Sq ?_
  refine awp_drawc follows ?_
  refine Cr [2] (fun H1 hH => by exact opd_loadn_ref rfl Tryz.isAgg24 Tryz.sizeOf24 rfl ((hH _ rfl).trans rfl) rfl rfl (by simp only [Zl, encTag, encObj, encStr, encEdit, encInt]; rfl) rfl)<|Cr [] (fun _ _ => mv')<|Cr [] (fun _ _ => mv')<|Cr [] (fun H1 hH => by exact x_index_pad rfl so25 rfl rfl (by omega) (by exact Int.toNat_natCast _) hi1 rfl)<|Cr [] (fun H1 hH => by exact opd_loadn_pad rfl Tryz.isAgg38 Tryz.sizeOf38 rfl hi1 (by simp only [Zl, encTag, encObj, encStr, encEdit, encInt]; rfl) rfl)<|Cr [] (fun H1 hH => by exact opr_call rfl rfl Tryz.call6 rfl (hA _))<|Cr [] (fun _ _ => mv')<|Cr [] (fun _ _ => ex')<|Cr [] (fun _ _ => ex')<|Cp [7] (fun H1 hH => by exact x_alloc (id := 7) rfl zo24 rfl ((hH _ rfl).trans rfl))<|Cp [7] (fun H1 hH => by exact x_store_all rfl Tryz.sizeOf24 rfl rfl rfl rfl ((hH _ rfl).trans rfl) rfl rfl rfl)<|Cr [] (fun _ _ => as') ?_
  refine dc_nil ⟨by kernel_rfl, ?_⟩
  refine Sq ?_
  refine awp_drawc follows ?_
  refine Cr [2] (fun H1 hH => by exact opd_loadn_ref rfl Tryz.isAgg24 Tryz.sizeOf24 rfl ((hH _ rfl).trans rfl) rfl rfl (by simp only [Zl, encTag, encObj, encStr, encEdit, encInt]; rfl) rfl)<|Cr [] (fun _ _ => mv')<|Cr [] (fun _ _ => mv')<|Cr [] (fun H1 hH => by exact x_index_pad rfl so25 rfl rfl (by omega) (by exact Int.toNat_natCast _) hi1 rfl)<|Cr [] (fun H1 hH => by exact opd_loadn_pad rfl Tryz.isAgg38 Tryz.sizeOf38 rfl hi1 (by simp only [Zl, encTag, encObj, encStr, encEdit, encInt]; rfl) rfl)<|Cr [] (fun H1 hH => by exact opr_call rfl rfl Tryz.call7 rfl (hB _))<|Cr [] (fun _ _ => mv')<|Cr [] (fun _ _ => ex')<|Cr [] (fun _ _ => ex')<|Cp [9] (fun H1 hH => by exact x_alloc (id := 9) rfl zo24 rfl ((hH _ rfl).trans rfl))<|Cp [9] (fun H1 hH => by exact x_store_all rfl Tryz.sizeOf24 rfl rfl rfl rfl ((hH _ rfl).trans rfl) rfl rfl rfl)<|Cr [] (fun _ _ => as') ?_
  refine dc_nil ⟨by kernel_rfl, ?_⟩
  refine Sq ?_
  refine awp_drawc follows ?_
  refine Cq (by exact opd_loadn_ref rfl Tryz.isAgg24 Tryz.sizeOf24 rfl rfl rfl rfl (by simp only [Zl, encTag, encObj, encStr, encEdit, encInt]; rfl) rfl)<|Cq mv'<|Cq mv'<|Cq (by exact x_index_pad rfl so25 rfl rfl (by omega) (by exact Int.toNat_natCast _) hi1 rfl)<|Cq (by exact opd_loadn_pad rfl Tryz.isAgg38 Tryz.sizeOf38 rfl hi1 (by simp only [Zl, encTag, encObj, encStr, encEdit, encInt]; rfl) rfl)<|Cq (by exact opr_call rfl rfl Tryz.call8 rfl (hC _))<|Cq mv'<|Cq ex'<|Cq ex'<|Cq as'<|Cq as' ?_
  refine dc_nil ⟨by kernel_rfl, ?_⟩
  refine Sq ?_
  refine awp_drawc follows ?_
  refine Cq (by exact opd_loadn_ref rfl Tryz.isAgg24 Tryz.sizeOf24 rfl rfl rfl rfl (by simp only [Zl, encTag, encObj, encStr, encEdit, encInt]; rfl) rfl)<|Cq mv'<|Cq mv'<|Cq (by exact x_index_pad rfl so25 rfl rfl (by omega) (by exact Int.toNat_natCast _) hi1 rfl)<|Cq (by exact opd_loadn_pad rfl Tryz.isAgg38 Tryz.sizeOf38 rfl hi1 (by simp only [Zl, encTag, encObj, encStr, encEdit, encInt]; rfl) rfl)<|Cq (by exact opr_call rfl rfl Tryz.call9 rfl (hD _))<|Cq mv'<|Cq ex'<|Cq ex'<|Cq as'<|Cq as' ?_
  refine dc_nil ⟨by kernel_rfl, ?_⟩
  refine Sq ?_
  refine awp_drawc follows ?_
  refine Cq mv'<|Cq mv'<|Cq ne'<|Cq mv'<|Nf (by exact opd_loadn_ref rfl Tryz.isAgg24 Tryz.sizeOf24 rfl rfl rfl rfl (by simp only [Zl, encTag, encObj, encStr, encEdit, encInt]; rfl) rfl)<|Nf (by exact opd_loadn_ref rfl Tryz.isAgg24 Tryz.sizeOf24 rfl rfl rfl rfl (by simp only [Zl, encTag, encObj, encStr, encEdit, encInt]; rfl) rfl)<|Nf (by exact opr_call rfl rfl Tryz.call10 rfl (same12_t rfl _ hokA))<|Nf no'<|Cq pf'<|Cq mv'<|Nf mv'<|Nf mv'<|Nf ne'<|Cq pk'<|Cq mv'<|Nf mv'<|Nf mv'<|Nf (by exact opr_call rfl rfl Tryz.call11 rfl (sameAll21_t rfl _ hok2 hok1))<|Nf no'<|Cq pf'<|Cq mv'<|Nf mv'<|Nf mv'<|Nf (by exact x_index_pad rfl so25 rfl rfl (by omega) (by exact Int.toNat_natCast _) hi1 rfl)<|Nf (by exact opd_loadn_pad rfl Tryz.isAgg38 Tryz.sizeOf38 rfl hi1 (by simp only [Zl, encTag, encObj, encStr, encEdit, encInt]; rfl) rfl)<|Nf (by exact opr_call rfl rfl Tryz.call12 rfl (hV _))<|Nf mv'<|Nf mv'<|Nf (by exact x_index_pad rfl so25 rfl rfl (by omega) (by exact Int.toNat_natCast _) hi1 rfl) ?_
  refine Nf (by exact opd_loadn_pad rfl Tryz.isAgg38 Tryz.sizeOf38 rfl hi1 (by simp only [Zl, encTag, encObj, encStr, encEdit, encInt]; rfl) rfl)<|Nf (by exact opr_call rfl rfl Tryz.call13 rfl (hW _))<|Nf (by exact opd_bneq rfl Tryz.underlying4 rfl rfl)<|Cq pk'<|Cq mv'<|Nf mv'<|Nf mv'<|Nf (by exact x_index_pad rfl so25 rfl rfl (by omega) (by exact Int.toNat_natCast _) hi1 rfl)<|Nf (by exact opd_loadn_pad rfl Tryz.isAgg38 Tryz.sizeOf38 rfl hi1 (by simp only [Zl, encTag, encObj, encStr, encEdit, encInt]; rfl) rfl)<|Nf (by exact opr_call rfl rfl Tryz.call15 rfl (hN _))<|Nf mv'<|Nf mv'<|Nf (by exact x_index_pad rfl so25 rfl rfl (by omega) (by exact Int.toNat_natCast _) hi1 rfl)<|Nf (by exact opd_loadn_pad rfl Tryz.isAgg38 Tryz.sizeOf38 rfl hi1 (by simp only [Zl, encTag, encObj, encStr, encEdit, encInt]; rfl) rfl)<|Nf (by exact opr_call rfl rfl Tryz.call16 rfl (hR _))<|Nf (by exact opr_call rfl rfl Tryz.call14 rfl (same06_t rfl _ hnl)) ?_
  refine Nf no'<|Cq pf' ?_
  refine dc_nil ⟨by kernel_rfl, ?_⟩
  refine Cn (fun hc3 => ?_) fun hc3 => ?_
  ·cases hc3
  skip
  refine awp_skip<|Rg<|Dd mv'<|Dd ad'<|Dd as'<|Zz ?_
  exact ⟨q + 1, by omega, by omega, Wk⟩
 have hE := fun H => all_c m l H hm hl he
 have hF := fun H => all21_c m l H hm (by omega) he (fun e h => by have := hsz e h; omega)
 have hokL := all_okL hm he
 obtain ⟨a, ha⟩ : ∃ a, a = gAll m l := ⟨_, rfl⟩
 rw [← ha] at hE hF hokL
 obtain ⟨am, ai, ae⟩ := a
 simp only at hE hF hokL
 clear ha
 have k1 : decide (ae = ae) = true := decide_eq_true rfl
 have k2 : decide (ai = ai) = true := decide_eq_true rfl
 refine awp_exit<|Sq<|Rg<|Dd (by exact opd_loadn_ref rfl Tryz.isAgg24 Tryz.sizeOf24 rfl rfl rfl rfl (by simp only [Zl, encTag, encObj, encStr, encEdit, encInt]; rfl) rfl)<|Dd mv'<|Dd (by exact opr_call rfl rfl Tryz.call17 rfl (hE _))<|Dd mv'<|Dd ex'<|Dd ex'<|Dd ex'<|Dd (by exact x_alloc (id := 15) rfl zo24 rfl rfl)<|Uu (sa' Tryz.sizeOf24)<|Dd as'<|Dd as'<|Zz<|Sq<|Rg<|Dd (by exact opd_loadn_ref rfl Tryz.isAgg24 Tryz.sizeOf24 rfl rfl rfl rfl (by simp only [Zl, encTag, encObj, encStr, encEdit, encInt]; rfl) rfl)<|Dd mv'<|Dd (by exact opr_call rfl rfl Tryz.call18 rfl (hF _))<|Dd mv'<|Dd ex'<|Dd ex'<|Dd ex'<|Dd (by exact x_alloc (id := 18) rfl zo24 rfl rfl)<|Uu (sa' Tryz.sizeOf24)<|Dd as'<|Dd as'<|Zz<|Sq<|Rg<|Dd mv'<|Dd mv' ?_
 refine al_ond rfl rfl rfl (by rfl) rfl rfl (by exact opd_move rfl rfl) ?_
 refine al_ond rfl rfl rfl (by rfl) rfl rfl (by exact opd_move rfl rfl) ?_
 refine al_ond rfl rfl rfl (by rfl) rfl rfl (by exact opd_eql rfl rfl rfl) ?_
 refine Dd pk'<|Dd mv' ?_
 refine al_ond rfl rfl rfl (by assumption) rfl rfl (by exact opd_move rfl rfl) ?_
 refine al_ond rfl rfl rfl (by assumption) rfl rfl (by exact opd_move rfl rfl) ?_
 refine al_ond rfl rfl rfl (by assumption) rfl rfl (by exact opd_eql rfl rfl rfl) ?_
 refine Dd pt'<|Dd mv' ?_
 refine al_ond rfl rfl rfl (by assumption) rfl rfl (by exact opd_loadn_ref rfl Tryz.isAgg24 Tryz.sizeOf24 rfl rfl rfl rfl (by simp only [Zl, encTag, encObj, encStr, encEdit, encInt]; rfl) rfl) ?_
 refine al_ond rfl rfl rfl (by assumption) rfl rfl (by exact opd_loadn_ref rfl Tryz.isAgg24 Tryz.sizeOf24 rfl rfl rfl rfl (by simp only [Zl, encTag, encObj, encStr, encEdit, encInt]; rfl) rfl) ?_
 refine al_ond rfl rfl rfl (by assumption) rfl rfl (by exact opr_call rfl rfl Tryz.call10 rfl (same12_t rfl _ hokL)) ?_
 refine Dd pt'<|Dd as'<|Zz<|awp_ret ?_
 refine Rt ?_
 exact ⟨rfl, rfl⟩
end Go.Proofs.YtbbnllojhjlaoaaGreat
end
