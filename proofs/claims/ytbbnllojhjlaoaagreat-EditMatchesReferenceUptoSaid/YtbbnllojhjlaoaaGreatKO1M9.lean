/-
  CONTRACTS: the reference: valid edits, valid change sets. Conditions: lengths below 2^40.
  THE ABSTRACT LOGIC: an owned slice is frozen while other objects hold it. Conditions: each rule's own premises.
  CONTRACTS: the reference's edits. Conditions: few objects.
-/
import Derived.Test.YtbbnllojhjlaoaaGreatKO1M8
section
set_option linter.unusedVariables false
set_option linter.unusedSimpArgs false
set_option maxRecDepth 100000
namespace Go.Proofs.YtbbnllojhjlaoaaGreat
open Go.Abs
abbrev strRows (l : List ByteArray) : List (List AV) := l.map (fun s => (encStr s).map .pv)
theorem strRows_cons (a : ByteArray) (l : List ByteArray) : strRows [a] ++ (l.map encStr).map (·.map .pv) = strRows (a :: l) := by
 rw [← rows_of encStr l]; rfl
theorem strs_len (l : List ByteArray) : ∀ r ∈ l.map encStr, r.length = 1 := fun r hr => by
 obtain ⟨o, _, rfl⟩ := List.mem_map.1 hr; rfl
theorem bare1_c (e : GEdit) (H : Heap) (ho : e.op = 1) : ACalls Tryz.prog 41 [av (encEdit e)] H (fun r H' => r = av (encEdit (bare1 e)) ∧ H' = H) := by
 refine ACalls.pure ?_ (by simp) H
 refine Bd Tryz.func41 rfl Tryz.ntmps41<|Sq<|Rg<|Dd (by exact opd_box (id := 1) rfl rfl rfl rfl rfl)<|Dd (by exact x_alloc (id := 2) rfl zo38 rfl rfl)<|Zz<|Sq<|Sq<|Rg<|Dd (fr' fo38_0)<|Dd (l1' Tryz.isAgg3)<|Dd eql'<|Zz ?_
 refine Cn (fun hc1 => ?_) fun hc1 => ?_
 ·skip
  refine Rg<|Dd (bu' bo36)<|Dd (fr' fo38_8)<|Uu (by exact x_store rfl Tryz.sizeOf36 rfl rfl rfl rfl rfl rfl rfl (Nat.le_of_ble_eq_true rfl) rfl rfl)<|Zz<|Sq<|Sq<|Rg<|Dd (fr' fo38_0)<|Dd (l1' Tryz.isAgg3)<|Dd eql'<|Zz ?_
  refine Cn (fun hc2 => ?_) fun hc2 => ?_
  ·skip
   (exfalso; have h := hc2; simp [ho] at h)
  skip
  refine awp_skip<|Sq<|Sq<|Rg<|Dd (fr' fo38_0)<|Dd (l1' Tryz.isAgg3)<|Dd eql'<|Zz ?_
  refine Cn (fun hc3 => ?_) fun hc3 => ?_
  ·skip
   (exfalso; have h := hc3; simp [ho] at h)
  skip
  refine awp_skip<|Sq<|Sq<|Rg<|Dd (fr' fo38_0)<|Dd (l1' Tryz.isAgg3)<|Dd eql'<|Zz ?_
  refine Cn (fun hc4 => ?_) fun hc4 => ?_
  ·skip
   (exfalso; have h := hc4; simp [ho] at h)
  skip
  refine awp_skip<|Sq<|Sq<|Rg<|Dd (fr' fo38_0)<|Dd (l1' Tryz.isAgg3)<|Dd eql'<|Zz ?_
  refine Cn (fun hc5 => ?_) fun hc5 => ?_
  ·skip
   (exfalso; have h := hc5; simp [ho] at h)
  skip
  refine awp_skip<|Sq<|Sq ?_
  refine awp_bool (t := 34) (n := 9) (X := decide (e.op = 6) || decide (e.op = 7)) ?_ ?_
  ·all_goals refine Dd (fr' fo38_0) ?_
   all_goals refine Dd (l1' Tryz.isAgg3) ?_
   all_goals refine Dd eql' ?_
   all_goals refine Dd mv' ?_
   all_goals refine Sp 30 (fun h30 => ?_) fun h30 => ?_
   all_goals try contradiction
   all_goals first | refine Fo ?_ | refine On (fr' fo38_0) ?_
   all_goals first | refine Fo ?_ | refine On (l1' Tryz.isAgg3) ?_
   all_goals first | refine Fo ?_ | refine On eql' ?_
   all_goals refine Dd pk' ?_
   all_goals refine al_nil ?_
   all_goals (exact ⟨⟨_, rfl, by (simp_all; done)⟩, rfl, rfl, rfl⟩)
  refine Cn (fun hc6 => ?_) fun hc6 => ?_
  ·skip
   (exfalso; have h := hc6; simp [ho] at h)
  skip
  refine awp_skip<|Sq<|Rg<|Dd (by exact opd_loadn_ref rfl Tryz.isAgg38 Tryz.sizeOf38 rfl rfl rfl rfl (by simp only [Zl, encTag, encObj, encStr, encEdit, zObj]; rfl) rfl)<|Uu (sa' Tryz.sizeOf38)<|Zz<|awp_ret ?_
  refine aret1 (H' := []) (.inr rfl) rfl (rl' Tryz.isAgg38 Tryz.sizeOf38) (Fin.wk (r := av (encEdit (bare1 e))) (by simp [encEdit, bare1, zObj, encObj]) trivial trivial) ?_
  exact ⟨rfl, rfl⟩
 skip
 (exfalso; have h := hc1; simp [ho] at h)
theorem bare2_c (e : GEdit) (H : Heap) (ho : e.op = 2) : ACalls Tryz.prog 41 [av (encEdit e)] H (fun r H' => r = av (encEdit (bare2 e)) ∧ H' = H) := by
 refine ACalls.pure ?_ (by simp) H
 refine Bd Tryz.func41 rfl Tryz.ntmps41<|Sq<|Rg<|Dd (by exact opd_box (id := 1) rfl rfl rfl rfl rfl)<|Dd (by exact x_alloc (id := 2) rfl zo38 rfl rfl)<|Zz<|Sq<|Sq<|Rg<|Dd (fr' fo38_0)<|Dd (l1' Tryz.isAgg3)<|Dd eql'<|Zz ?_
 refine Cn (fun hc1 => ?_) fun hc1 => ?_
 ·skip
  (exfalso; have h := hc1; simp [ho] at h)
 skip
 refine Rg<|Dd (fr' fo38_1)<|Uu (by exact x_store1 rfl Tryz.sizeOf9 rfl rfl rfl rfl rfl rfl (Nat.le_of_ble_eq_true rfl) rfl rfl)<|Zz<|Sq<|Sq<|Rg<|Dd (fr' fo38_0)<|Dd (l1' Tryz.isAgg3)<|Dd eql'<|Zz ?_
 refine Cn (fun hc2 => ?_) fun hc2 => ?_
 ·skip
  refine Rg<|Dd (bu' bo32)<|Dd (fr' fo38_4)<|Uu (by exact x_store rfl Tryz.sizeOf32 rfl rfl rfl rfl rfl rfl rfl (Nat.le_of_ble_eq_true rfl) rfl rfl)<|Zz<|Sq<|Sq<|Rg<|Dd (fr' fo38_0)<|Dd (l1' Tryz.isAgg3)<|Dd eql'<|Zz ?_
  refine Cn (fun hc3 => ?_) fun hc3 => ?_
  ·skip
   (exfalso; have h := hc3; simp [ho] at h)
  skip
  refine awp_skip<|Sq<|Sq<|Rg<|Dd (fr' fo38_0)<|Dd (l1' Tryz.isAgg3)<|Dd eql'<|Zz ?_
  refine Cn (fun hc4 => ?_) fun hc4 => ?_
  ·skip
   (exfalso; have h := hc4; simp [ho] at h)
  skip
  refine awp_skip<|Sq<|Sq<|Rg<|Dd (fr' fo38_0)<|Dd (l1' Tryz.isAgg3)<|Dd eql'<|Zz ?_
  refine Cn (fun hc5 => ?_) fun hc5 => ?_
  ·skip
   (exfalso; have h := hc5; simp [ho] at h)
  skip
  refine awp_skip<|Sq<|Sq ?_
  refine awp_bool (t := 34) (n := 9) (X := decide (e.op = 6) || decide (e.op = 7)) ?_ ?_
  ·all_goals refine Dd (fr' fo38_0) ?_
   all_goals refine Dd (l1' Tryz.isAgg3) ?_
   all_goals refine Dd eql' ?_
   all_goals refine Dd mv' ?_
   all_goals refine Sp 30 (fun h30 => ?_) fun h30 => ?_
   all_goals try contradiction
   all_goals first | refine Fo ?_ | refine On (fr' fo38_0) ?_
   all_goals first | refine Fo ?_ | refine On (l1' Tryz.isAgg3) ?_
   all_goals first | refine Fo ?_ | refine On eql' ?_
   all_goals refine Dd pk' ?_
   all_goals refine al_nil ?_
   all_goals (exact ⟨⟨_, rfl, by (simp_all; done)⟩, rfl, rfl, rfl⟩)
  refine Cn (fun hc6 => ?_) fun hc6 => ?_
  ·skip
   (exfalso; have h := hc6; simp [ho] at h)
  skip
  refine awp_skip<|Sq<|Rg<|Dd (by exact opd_loadn_ref rfl Tryz.isAgg38 Tryz.sizeOf38 rfl rfl rfl rfl (by simp only [Zl, encTag, encObj, encStr, encEdit, zObj]; rfl) rfl)<|Uu (sa' Tryz.sizeOf38)<|Zz<|awp_ret ?_
  refine aret1 (H' := []) (.inr rfl) rfl (rl' Tryz.isAgg38 Tryz.sizeOf38) (Fin.wk (r := av (encEdit (bare2 e))) (by simp [encEdit, bare2, zObj, encObj]) trivial trivial) ?_
  exact ⟨rfl, rfl⟩
 skip
 (exfalso; have h := hc2; simp [ho] at h)
theorem bare3_c (e : GEdit) (H : Heap) (ho : e.op = 3) : ACalls Tryz.prog 41 [av (encEdit e)] H (fun r H' => r = av (encEdit (bare3 e)) ∧ H' = H) := by
 refine ACalls.pure ?_ (by simp) H
 refine Bd Tryz.func41 rfl Tryz.ntmps41<|Sq<|Rg<|Dd (by exact opd_box (id := 1) rfl rfl rfl rfl rfl)<|Dd (by exact x_alloc (id := 2) rfl zo38 rfl rfl)<|Zz<|Sq<|Sq<|Rg<|Dd (fr' fo38_0)<|Dd (l1' Tryz.isAgg3)<|Dd eql'<|Zz ?_
 refine Cn (fun hc1 => ?_) fun hc1 => ?_
 ·skip
  (exfalso; have h := hc1; simp [ho] at h)
 skip
 refine Rg<|Dd (fr' fo38_1)<|Uu (by exact x_store1 rfl Tryz.sizeOf9 rfl rfl rfl rfl rfl rfl (Nat.le_of_ble_eq_true rfl) rfl rfl)<|Zz<|Sq<|Sq<|Rg<|Dd (fr' fo38_0)<|Dd (l1' Tryz.isAgg3)<|Dd eql'<|Zz ?_
 refine Cn (fun hc2 => ?_) fun hc2 => ?_
 ·skip
  (exfalso; have h := hc2; simp [ho] at h)
 skip
 refine awp_skip<|Sq<|Sq<|Rg<|Dd (fr' fo38_0)<|Dd (l1' Tryz.isAgg3)<|Dd eql'<|Zz ?_
 refine Cn (fun hc3 => ?_) fun hc3 => ?_
 ·skip
  refine Sq<|Rg<|Dd (fr' fo38_5)<|Uu (by exact x_store1 rfl Tryz.sizeOf9 rfl rfl rfl rfl rfl rfl (Nat.le_of_ble_eq_true rfl) rfl rfl)<|Zz<|Rg<|Dd (fr' fo38_6)<|Uu (by exact x_store1 rfl Tryz.sizeOf9 rfl rfl rfl rfl rfl rfl (Nat.le_of_ble_eq_true rfl) rfl rfl)<|Zz<|Sq<|Sq<|Rg<|Dd (fr' fo38_0)<|Dd (l1' Tryz.isAgg3)<|Dd eql'<|Zz ?_
  refine Cn (fun hc4 => ?_) fun hc4 => ?_
  ·skip
   (exfalso; have h := hc4; simp [ho] at h)
  skip
  refine awp_skip<|Sq<|Sq<|Rg<|Dd (fr' fo38_0)<|Dd (l1' Tryz.isAgg3)<|Dd eql'<|Zz ?_
  refine Cn (fun hc5 => ?_) fun hc5 => ?_
  ·skip
   (exfalso; have h := hc5; simp [ho] at h)
  skip
  refine awp_skip<|Sq<|Sq ?_
  refine awp_bool (t := 34) (n := 9) (X := decide (e.op = 6) || decide (e.op = 7)) ?_ ?_
  ·all_goals refine Dd (fr' fo38_0) ?_
   all_goals refine Dd (l1' Tryz.isAgg3) ?_
   all_goals refine Dd eql' ?_
   all_goals refine Dd mv' ?_
   all_goals refine Sp 30 (fun h30 => ?_) fun h30 => ?_
   all_goals try contradiction
   all_goals first | refine Fo ?_ | refine On (fr' fo38_0) ?_
   all_goals first | refine Fo ?_ | refine On (l1' Tryz.isAgg3) ?_
   all_goals first | refine Fo ?_ | refine On eql' ?_
   all_goals refine Dd pk' ?_
   all_goals refine al_nil ?_
   all_goals (exact ⟨⟨_, rfl, by (simp_all; done)⟩, rfl, rfl, rfl⟩)
  refine Cn (fun hc6 => ?_) fun hc6 => ?_
  ·skip
   (exfalso; have h := hc6; simp [ho] at h)
  skip
  refine awp_skip<|Sq<|Rg<|Dd (by exact opd_loadn_ref rfl Tryz.isAgg38 Tryz.sizeOf38 rfl rfl rfl rfl (by simp only [Zl, encTag, encObj, encStr, encEdit, zObj]; rfl) rfl)<|Uu (sa' Tryz.sizeOf38)<|Zz<|awp_ret ?_
  refine aret1 (H' := []) (.inr rfl) rfl (rl' Tryz.isAgg38 Tryz.sizeOf38) (Fin.wk (r := av (encEdit (bare3 e))) (by simp [encEdit, bare3, zObj, encObj]) trivial trivial) ?_
  exact ⟨rfl, rfl⟩
 skip
 (exfalso; have h := hc3; simp [ho] at h)
theorem bare4_c (e : GEdit) (H : Heap) (ho : e.op = 4) : ACalls Tryz.prog 41 [av (encEdit e)] H (fun r H' => r = av (encEdit (bare4 e)) ∧ H' = H) := by
 refine ACalls.pure ?_ (by simp) H
 refine Bd Tryz.func41 rfl Tryz.ntmps41<|Sq<|Rg<|Dd (by exact opd_box (id := 1) rfl rfl rfl rfl rfl)<|Dd (by exact x_alloc (id := 2) rfl zo38 rfl rfl)<|Zz<|Sq<|Sq<|Rg<|Dd (fr' fo38_0)<|Dd (l1' Tryz.isAgg3)<|Dd eql'<|Zz ?_
 refine Cn (fun hc1 => ?_) fun hc1 => ?_
 ·skip
  (exfalso; have h := hc1; simp [ho] at h)
 skip
 refine Rg<|Dd (fr' fo38_1)<|Uu (by exact x_store1 rfl Tryz.sizeOf9 rfl rfl rfl rfl rfl rfl (Nat.le_of_ble_eq_true rfl) rfl rfl)<|Zz<|Sq<|Sq<|Rg<|Dd (fr' fo38_0)<|Dd (l1' Tryz.isAgg3)<|Dd eql'<|Zz ?_
 refine Cn (fun hc2 => ?_) fun hc2 => ?_
 ·skip
  (exfalso; have h := hc2; simp [ho] at h)
 skip
 refine awp_skip<|Sq<|Sq<|Rg<|Dd (fr' fo38_0)<|Dd (l1' Tryz.isAgg3)<|Dd eql'<|Zz ?_
 refine Cn (fun hc3 => ?_) fun hc3 => ?_
 ·skip
  (exfalso; have h := hc3; simp [ho] at h)
 skip
 refine awp_skip<|Sq<|Sq<|Rg<|Dd (fr' fo38_0)<|Dd (l1' Tryz.isAgg3)<|Dd eql'<|Zz ?_
 refine Cn (fun hc4 => ?_) fun hc4 => ?_
 ·skip
  refine Rg<|Dd (fr' fo38_7)<|Uu (by exact x_store1 rfl Tryz.sizeOf33 rfl rfl rfl rfl rfl rfl (Nat.le_of_ble_eq_true rfl) rfl rfl)<|Zz<|Sq<|Sq<|Rg<|Dd (fr' fo38_0)<|Dd (l1' Tryz.isAgg3)<|Dd eql'<|Zz ?_
  refine Cn (fun hc5 => ?_) fun hc5 => ?_
  ·skip
   (exfalso; have h := hc5; simp [ho] at h)
  skip
  refine awp_skip<|Sq<|Sq ?_
  refine awp_bool (t := 34) (n := 9) (X := decide (e.op = 6) || decide (e.op = 7)) ?_ ?_
  ·all_goals refine Dd (fr' fo38_0) ?_
   all_goals refine Dd (l1' Tryz.isAgg3) ?_
   all_goals refine Dd eql' ?_
   all_goals refine Dd mv' ?_
   all_goals refine Sp 30 (fun h30 => ?_) fun h30 => ?_
   all_goals try contradiction
   all_goals first | refine Fo ?_ | refine On (fr' fo38_0) ?_
   all_goals first | refine Fo ?_ | refine On (l1' Tryz.isAgg3) ?_
   all_goals first | refine Fo ?_ | refine On eql' ?_
   all_goals refine Dd pk' ?_
   all_goals refine al_nil ?_
   all_goals (exact ⟨⟨_, rfl, by (simp_all; done)⟩, rfl, rfl, rfl⟩)
  refine Cn (fun hc6 => ?_) fun hc6 => ?_
  ·skip
   (exfalso; have h := hc6; simp [ho] at h)
  skip
  refine awp_skip<|Sq<|Rg<|Dd (by exact opd_loadn_ref rfl Tryz.isAgg38 Tryz.sizeOf38 rfl rfl rfl rfl (by simp only [Zl, encTag, encObj, encStr, encEdit, zObj]; rfl) rfl)<|Uu (sa' Tryz.sizeOf38)<|Zz<|awp_ret ?_
  refine aret1 (H' := []) (.inr rfl) rfl (rl' Tryz.isAgg38 Tryz.sizeOf38) (Fin.wk (r := av (encEdit (bare4 e))) (by simp [encEdit, bare4, zObj, encObj]) trivial trivial) ?_
  exact ⟨rfl, rfl⟩
 skip
 (exfalso; have h := hc4; simp [ho] at h)
theorem bare5_c (e : GEdit) (H : Heap) (ho : e.op = 5) : ACalls Tryz.prog 41 [av (encEdit e)] H (fun r H' => r = av (encEdit (bare5 e)) ∧ H' = H) := by
 refine ACalls.pure ?_ (by simp) H
 refine Bd Tryz.func41 rfl Tryz.ntmps41<|Sq<|Rg<|Dd (by exact opd_box (id := 1) rfl rfl rfl rfl rfl)<|Dd (by exact x_alloc (id := 2) rfl zo38 rfl rfl)<|Zz<|Sq<|Sq<|Rg<|Dd (fr' fo38_0)<|Dd (l1' Tryz.isAgg3)<|Dd eql'<|Zz ?_
 refine Cn (fun hc1 => ?_) fun hc1 => ?_
 ·skip
  (exfalso; have h := hc1; simp [ho] at h)
 skip
 refine Rg<|Dd (fr' fo38_1)<|Uu (by exact x_store1 rfl Tryz.sizeOf9 rfl rfl rfl rfl rfl rfl (Nat.le_of_ble_eq_true rfl) rfl rfl)<|Zz<|Sq<|Sq<|Rg<|Dd (fr' fo38_0)<|Dd (l1' Tryz.isAgg3)<|Dd eql'<|Zz ?_
 refine Cn (fun hc2 => ?_) fun hc2 => ?_
 ·skip
  (exfalso; have h := hc2; simp [ho] at h)
 skip
 refine awp_skip<|Sq<|Sq<|Rg<|Dd (fr' fo38_0)<|Dd (l1' Tryz.isAgg3)<|Dd eql'<|Zz ?_
 refine Cn (fun hc3 => ?_) fun hc3 => ?_
 ·skip
  (exfalso; have h := hc3; simp [ho] at h)
 skip
 refine awp_skip<|Sq<|Sq<|Rg<|Dd (fr' fo38_0)<|Dd (l1' Tryz.isAgg3)<|Dd eql'<|Zz ?_
 refine Cn (fun hc4 => ?_) fun hc4 => ?_
 ·skip
  (exfalso; have h := hc4; simp [ho] at h)
 skip
 refine awp_skip<|Sq<|Sq<|Rg<|Dd (fr' fo38_0)<|Dd (l1' Tryz.isAgg3)<|Dd eql'<|Zz ?_
 refine Cn (fun hc5 => ?_) fun hc5 => ?_
 ·skip
  (exfalso; have h := hc5; simp [ho] at h)
 skip
 refine awp_skip<|Sq<|Sq ?_
 refine awp_bool (t := 34) (n := 9) (X := decide (e.op = 6) || decide (e.op = 7)) ?_ ?_
 ·all_goals refine Dd (fr' fo38_0) ?_
  all_goals refine Dd (l1' Tryz.isAgg3) ?_
  all_goals refine Dd eql' ?_
  all_goals refine Dd mv' ?_
  all_goals refine Sp 30 (fun h30 => ?_) fun h30 => ?_
  all_goals try contradiction
  all_goals first | refine Fo ?_ | refine On (fr' fo38_0) ?_
  all_goals first | refine Fo ?_ | refine On (l1' Tryz.isAgg3) ?_
  all_goals first | refine Fo ?_ | refine On eql' ?_
  all_goals refine Dd pk' ?_
  all_goals refine al_nil ?_
  all_goals (exact ⟨⟨_, rfl, by (simp_all; done)⟩, rfl, rfl, rfl⟩)
 refine Cn (fun hc6 => ?_) fun hc6 => ?_
 ·skip
  (exfalso; have h := hc6; simp [ho] at h)
 skip
 refine awp_skip<|Sq<|Rg<|Dd (by exact opd_loadn_ref rfl Tryz.isAgg38 Tryz.sizeOf38 rfl rfl rfl rfl (by simp only [Zl, encTag, encObj, encStr, encEdit, zObj]; rfl) rfl)<|Uu (sa' Tryz.sizeOf38)<|Zz<|awp_ret ?_
 refine aret1 (H' := []) (.inr rfl) rfl (rl' Tryz.isAgg38 Tryz.sizeOf38) (Fin.wk (r := av (encEdit (bare5 e))) (by simp [encEdit, bare5, zObj, encObj]) trivial trivial) ?_
 exact ⟨rfl, rfl⟩
theorem bare6_c (e : GEdit) (H : Heap) (ho : e.op = 6) : ACalls Tryz.prog 41 [av (encEdit e)] H (fun r H' => r = av (encEdit (bare6 e)) ∧ H' = H) := by
 refine ACalls.pure ?_ (by simp) H
 refine Bd Tryz.func41 rfl Tryz.ntmps41<|Sq<|Rg<|Dd (by exact opd_box (id := 1) rfl rfl rfl rfl rfl)<|Dd (by exact x_alloc (id := 2) rfl zo38 rfl rfl)<|Zz<|Sq<|Sq<|Rg<|Dd (fr' fo38_0)<|Dd (l1' Tryz.isAgg3)<|Dd eql'<|Zz ?_
 refine Cn (fun hc1 => ?_) fun hc1 => ?_
 ·skip
  (exfalso; have h := hc1; simp [ho] at h)
 skip
 refine Rg<|Dd (fr' fo38_1)<|Uu (by exact x_store1 rfl Tryz.sizeOf9 rfl rfl rfl rfl rfl rfl (Nat.le_of_ble_eq_true rfl) rfl rfl)<|Zz<|Sq<|Sq<|Rg<|Dd (fr' fo38_0)<|Dd (l1' Tryz.isAgg3)<|Dd eql'<|Zz ?_
 refine Cn (fun hc2 => ?_) fun hc2 => ?_
 ·skip
  (exfalso; have h := hc2; simp [ho] at h)
 skip
 refine awp_skip<|Sq<|Sq<|Rg<|Dd (fr' fo38_0)<|Dd (l1' Tryz.isAgg3)<|Dd eql'<|Zz ?_
 refine Cn (fun hc3 => ?_) fun hc3 => ?_
 ·skip
  (exfalso; have h := hc3; simp [ho] at h)
 skip
 refine awp_skip<|Sq<|Sq<|Rg<|Dd (fr' fo38_0)<|Dd (l1' Tryz.isAgg3)<|Dd eql'<|Zz ?_
 refine Cn (fun hc4 => ?_) fun hc4 => ?_
 ·skip
  (exfalso; have h := hc4; simp [ho] at h)
 skip
 refine awp_skip<|Sq<|Sq<|Rg<|Dd (fr' fo38_0)<|Dd (l1' Tryz.isAgg3)<|Dd eql'<|Zz ?_
 refine Cn (fun hc5 => ?_) fun hc5 => ?_
 ·skip
  refine Rg<|Dd (fr' fo38_3)<|Uu (by exact x_store1 rfl Tryz.sizeOf9 rfl rfl rfl rfl rfl rfl (Nat.le_of_ble_eq_true rfl) rfl rfl)<|Zz<|Sq<|Sq ?_
  refine awp_bool (t := 34) (n := 9) (X := decide (e.op = 6) || decide (e.op = 7)) ?_ ?_
  ·all_goals refine Dd (fr' fo38_0) ?_
   all_goals refine Dd (l1' Tryz.isAgg3) ?_
   all_goals refine Dd eql' ?_
   all_goals refine Dd mv' ?_
   all_goals refine Sp 30 (fun h30 => ?_) fun h30 => ?_
   all_goals try contradiction
   all_goals first | refine Fo ?_ | refine On (fr' fo38_0) ?_
   all_goals first | refine Fo ?_ | refine On (l1' Tryz.isAgg3) ?_
   all_goals first | refine Fo ?_ | refine On eql' ?_
   all_goals refine Dd pk' ?_
   all_goals refine al_nil ?_
   all_goals (exact ⟨⟨_, rfl, by (simp_all; done)⟩, rfl, rfl, rfl⟩)
  refine Cn (fun hc6 => ?_) fun hc6 => ?_
  ·skip
   refine Rg<|Dd (fr' fo38_2)<|Uu (by exact x_store1 rfl Tryz.sizeOf9 rfl rfl rfl rfl rfl rfl (Nat.le_of_ble_eq_true rfl) rfl rfl)<|Zz<|Sq<|Rg<|Dd (by exact opd_loadn_ref rfl Tryz.isAgg38 Tryz.sizeOf38 rfl rfl rfl rfl (by simp only [Zl, encTag, encObj, encStr, encEdit, zObj]; rfl) rfl)<|Uu (sa' Tryz.sizeOf38)<|Zz<|awp_ret ?_
   refine aret1 (H' := []) (.inr rfl) rfl (rl' Tryz.isAgg38 Tryz.sizeOf38) (Fin.wk (r := av (encEdit (bare6 e))) (by simp [encEdit, bare6, zObj, encObj]) trivial trivial) ?_
   exact ⟨rfl, rfl⟩
  skip
  (exfalso; have h := hc6; simp [ho] at h)
 skip
 (exfalso; have h := hc5; simp [ho] at h)
theorem bare7_c (e : GEdit) (H : Heap) (ho : e.op = 7) : ACalls Tryz.prog 41 [av (encEdit e)] H (fun r H' => r = av (encEdit (bare7 e)) ∧ H' = H) := by
 refine ACalls.pure ?_ (by simp) H
 refine Bd Tryz.func41 rfl Tryz.ntmps41<|Sq<|Rg<|Dd (by exact opd_box (id := 1) rfl rfl rfl rfl rfl)<|Dd (by exact x_alloc (id := 2) rfl zo38 rfl rfl)<|Zz<|Sq<|Sq<|Rg<|Dd (fr' fo38_0)<|Dd (l1' Tryz.isAgg3)<|Dd eql'<|Zz ?_
 refine Cn (fun hc1 => ?_) fun hc1 => ?_
 ·skip
  (exfalso; have h := hc1; simp [ho] at h)
 skip
 refine Rg<|Dd (fr' fo38_1)<|Uu (by exact x_store1 rfl Tryz.sizeOf9 rfl rfl rfl rfl rfl rfl (Nat.le_of_ble_eq_true rfl) rfl rfl)<|Zz<|Sq<|Sq<|Rg<|Dd (fr' fo38_0)<|Dd (l1' Tryz.isAgg3)<|Dd eql'<|Zz ?_
 refine Cn (fun hc2 => ?_) fun hc2 => ?_
 ·skip
  (exfalso; have h := hc2; simp [ho] at h)
 skip
 refine awp_skip<|Sq<|Sq<|Rg<|Dd (fr' fo38_0)<|Dd (l1' Tryz.isAgg3)<|Dd eql'<|Zz ?_
 refine Cn (fun hc3 => ?_) fun hc3 => ?_
 ·skip
  (exfalso; have h := hc3; simp [ho] at h)
 skip
 refine awp_skip<|Sq<|Sq<|Rg<|Dd (fr' fo38_0)<|Dd (l1' Tryz.isAgg3)<|Dd eql'<|Zz ?_
 refine Cn (fun hc4 => ?_) fun hc4 => ?_
 ·skip
  (exfalso; have h := hc4; simp [ho] at h)
 skip
 refine awp_skip<|Sq<|Sq<|Rg<|Dd (fr' fo38_0)<|Dd (l1' Tryz.isAgg3)<|Dd eql'<|Zz ?_
 refine Cn (fun hc5 => ?_) fun hc5 => ?_
 ·skip
  (exfalso; have h := hc5; simp [ho] at h)
 skip
 refine awp_skip<|Sq<|Sq ?_
 refine awp_bool (t := 34) (n := 9) (X := decide (e.op = 6) || decide (e.op = 7)) ?_ ?_
 ·all_goals refine Dd (fr' fo38_0) ?_
  all_goals refine Dd (l1' Tryz.isAgg3) ?_
  all_goals refine Dd eql' ?_
  all_goals refine Dd mv' ?_
  all_goals refine Sp 30 (fun h30 => ?_) fun h30 => ?_
  all_goals try contradiction
  all_goals first | refine Fo ?_ | refine On (fr' fo38_0) ?_
  all_goals first | refine Fo ?_ | refine On (l1' Tryz.isAgg3) ?_
  all_goals first | refine Fo ?_ | refine On eql' ?_
  all_goals refine Dd pk' ?_
  all_goals refine al_nil ?_
  all_goals (exact ⟨⟨_, rfl, by (simp_all; done)⟩, rfl, rfl, rfl⟩)
 refine Cn (fun hc6 => ?_) fun hc6 => ?_
 ·skip
  refine Rg<|Dd (fr' fo38_2)<|Uu (by exact x_store1 rfl Tryz.sizeOf9 rfl rfl rfl rfl rfl rfl (Nat.le_of_ble_eq_true rfl) rfl rfl)<|Zz<|Sq<|Rg<|Dd (by exact opd_loadn_ref rfl Tryz.isAgg38 Tryz.sizeOf38 rfl rfl rfl rfl (by simp only [Zl, encTag, encObj, encStr, encEdit, zObj]; rfl) rfl)<|Uu (sa' Tryz.sizeOf38)<|Zz<|awp_ret ?_
  refine aret1 (H' := []) (.inr rfl) rfl (rl' Tryz.isAgg38 Tryz.sizeOf38) (Fin.wk (r := av (encEdit (bare7 e))) (by simp [encEdit, bare7, zObj, encObj]) trivial trivial) ?_
  exact ⟨rfl, rfl⟩
 skip
 (exfalso; have h := hc6; simp [ho] at h)
theorem rValid1_c (e : GEdit) (H : Heap) (he : okE e) (ho : e.op = 1) : ACalls Tryz.prog 13 [av (encEdit e)] H (fun r H' => r = bv (gEditV e) ∧ H' = H) := by
 refine ACalls.pure ?_ (by simp) H
 rw [ed1 e ho]
 obtain ⟨⟨h1, h2, h3, h4⟩, ⟨h5, h6⟩, h7⟩ := he
 have hrl : (e.refs.map encStr).length = e.refs.length := List.length_map _
 refine Bd Tryz.func13 rfl Tryz.ntmps13<|Sq<|Rg<|Dd (by exact opd_box (id := 1) rfl rfl rfl rfl rfl)<|Dd as'<|Zz<|Sq<|Sq ?_
 refine awp_bool (t := 13) (n := 9) (X := decide (e.op < 1) || decide (7 < e.op)) ?_ ?_
 ·all_goals refine Dd (fr' fo38_0) ?_
  all_goals refine Dd (l1' Tryz.isAgg3) ?_
  all_goals refine Dd lss' ?_
  all_goals refine Dd mv' ?_
  all_goals refine Sp 9 (fun h9 => ?_) fun h9 => ?_
  all_goals try contradiction
  all_goals first | refine Fo ?_ | refine On (fr' fo38_0) ?_
  all_goals first | refine Fo ?_ | refine On (l1' Tryz.isAgg3) ?_
  all_goals first | refine Fo ?_ | refine On gt' ?_
  all_goals refine Dd pk' ?_
  all_goals refine al_nil ?_
  all_goals (exact ⟨⟨_, rfl, by first | (simp only [rb, bare1, *]; rfl) | (simp_all [rb, bare1]; done)⟩, rfl, rfl, rfl⟩)
 refine Cn (fun hc1 => ?_) fun hc1 => ?_
 ·skip
  (exfalso; have h := hc1; simp [ho] at h)
 skip
 refine awp_skip<|Sq<|Rg<|Dd (by exact opd_loadn_ref rfl Tryz.isAgg38 Tryz.sizeOf38 rfl rfl rfl rfl (by simp only [Zl, encTag, encObj, encStr, encEdit, zObj]; rfl) rfl)<|Dd (by exact opr_call rfl rfl Tryz.call41 rfl (bare1_c e _ ho))<|Dd (by exact x_alloc (id := 3) rfl zo38 rfl rfl)<|Uu (sa' Tryz.sizeOf38)<|Zz<|Sq<|Sq ?_
 refine awp_bool (t := 57) (n := 49) (X := rb (bare1 e)) ?_ ?_
 ·all_goals refine Dd (fr' fo38_1) ?_
  all_goals refine Dd (l1' Tryz.isAgg9) ?_
  all_goals refine Dd sn' ?_
  all_goals refine Dd mv' ?_
  all_goals refine Sp 19 (fun h19 => ?_) fun h19 => ?_
  all_goals try contradiction
  all_goals first | refine Fo ?_ | refine On (fr' fo38_2) ?_
  all_goals first | refine Fo ?_ | refine On (l1' Tryz.isAgg9) ?_
  all_goals first | refine Fo ?_ | refine On sn' ?_
  all_goals refine Dd pk' ?_
  all_goals refine Dd mv' ?_
  all_goals refine Sp 24 (fun h24 => ?_) fun h24 => ?_
  all_goals try contradiction
  all_goals first | refine Fo ?_ | refine On (fr' fo38_3) ?_
  all_goals first | refine Fo ?_ | refine On (l1' Tryz.isAgg9) ?_
  all_goals first | refine Fo ?_ | refine On sn' ?_
  all_goals refine Dd pk' ?_
  all_goals refine Dd mv' ?_
  all_goals refine Sp 29 (fun h29 => ?_) fun h29 => ?_
  all_goals try contradiction
  all_goals first | refine Fo ?_ | refine On (fr' fo38_4) ?_
  all_goals first | refine Fo ?_ | refine On (by exact opd_loadn_ref rfl Tryz.isAgg32 Tryz.sizeOf32 rfl rfl rfl rfl (by simp only [Zl, encTag, encObj, encStr, encEdit, zObj]; rfl) rfl) ?_
  all_goals first | refine Fo ?_ | refine On (bu' bo32) ?_
  all_goals first | refine Fo ?_ | refine On (by exact opd_aneq rfl rfl rfl rfl rfl Tryz.eqGuardType32 (se32 _ _ _ _)) ?_
  all_goals refine Dd pk' ?_
  all_goals refine Dd mv' ?_
  all_goals refine Sp 35 (fun h35 => ?_) fun h35 => ?_
  all_goals try contradiction
  all_goals first | refine Fo ?_ | refine On (fr' fo38_5) ?_
  all_goals first | refine Fo ?_ | refine On (l1' Tryz.isAgg9) ?_
  all_goals first | refine Fo ?_ | refine On sn' ?_
  all_goals refine Dd pk' ?_
  all_goals refine Dd mv' ?_
  all_goals refine Sp 40 (fun h40 => ?_) fun h40 => ?_
  all_goals try contradiction
  all_goals first | refine Fo ?_ | refine On (fr' fo38_6) ?_
  all_goals first | refine Fo ?_ | refine On (l1' Tryz.isAgg9) ?_
  all_goals first | refine Fo ?_ | refine On sn' ?_
  all_goals refine Dd pk' ?_
  all_goals refine Dd mv' ?_
  all_goals refine Sp 45 (fun h45 => ?_) fun h45 => ?_
  all_goals try contradiction
  all_goals first | refine Fo ?_ | refine On (fr' fo38_7) ?_
  all_goals first | refine Fo ?_ | refine On (l1' Tryz.isAgg33) ?_
  all_goals first | refine Fo ?_ | refine On (ll' Tryz.underlying33) ?_
  all_goals first | refine Fo ?_ | refine On gt' ?_
  all_goals refine Dd pk' ?_
  all_goals refine Dd mv' ?_
  all_goals refine Sp 51 (fun h51 => ?_) fun h51 => ?_
  all_goals try contradiction
  all_goals first | refine Fo ?_ | refine On (fr' fo38_8) ?_
  all_goals first | refine Fo ?_ | refine On (by exact opd_loadn_ref rfl Tryz.isAgg36 Tryz.sizeOf36 rfl rfl rfl rfl (by simp only [Zl, encTag, encObj, encStr, encEdit, zObj]; rfl) rfl) ?_
  all_goals first | refine Fo ?_ | refine On (bu' bo36) ?_
  all_goals first | refine Fo ?_ | refine On (by exact opr_call rfl rfl Tryz.call36 rfl (rSame_c (bare1 e).obj zObj _ (show (0 : Nat) < 4611686018427387904 by decide) (show (0 : Nat) < 4611686018427387904 by decide))) ?_
  all_goals first | refine Fo ?_ | refine On no' ?_
  all_goals refine Dd pk' ?_
  all_goals refine al_nil ?_
  all_goals (exact ⟨⟨_, rfl, by (simp_all [rb, bare1]; done)⟩, rfl, rfl, rfl⟩)
 refine Cn (fun hc2 => ?_) fun hc2 => ?_
 ·rw [hc2, Bool.not_true, Bool.false_and]
  refine Sq<|Rg<|Dd as'<|Zz<|awp_ret ?_
  refine Rt ?_
  exact ⟨rfl, rfl⟩
 rw [hc2, Bool.not_false, Bool.true_and]
 refine awp_skip<|Sq<|Sq<|Rg<|Dd (fr' fo38_0)<|Dd (l1' Tryz.isAgg3)<|Dd eql'<|Zz ?_
 refine Cn (fun hc3 => ?_) fun hc3 => ?_
 ·skip
  refine Sq<|Rg<|Dd (fr' fo38_8)<|Dd (by exact opd_loadn_ref rfl Tryz.isAgg36 Tryz.sizeOf36 rfl rfl rfl rfl (by simp only [Zl, encTag, encObj, encStr, encEdit, zObj]; rfl) rfl)<|Dd (by exact opr_call rfl rfl Tryz.call42 rfl (rObj_c e.obj _ h7))<|Dd as'<|Zz<|awp_ret ?_
  refine Rt ?_
  exact ⟨rfl, rfl⟩
 skip
 (exfalso; have h := hc3; simp [ho] at h)
theorem rValid2_c (e : GEdit) (H : Heap) (he : okE e) (ho : e.op = 2) : ACalls Tryz.prog 13 [av (encEdit e)] H (fun r H' => r = bv (gEditV e) ∧ H' = H) := by
 refine ACalls.pure ?_ (by simp) H
 rw [ed2 e ho]
 obtain ⟨⟨h1, h2, h3, h4⟩, ⟨h5, h6⟩, h7⟩ := he
 have hrl : (e.refs.map encStr).length = e.refs.length := List.length_map _
 refine Bd Tryz.func13 rfl Tryz.ntmps13<|Sq<|Rg<|Dd (by exact opd_box (id := 1) rfl rfl rfl rfl rfl)<|Dd as'<|Zz<|Sq<|Sq ?_
 refine awp_bool (t := 13) (n := 9) (X := decide (e.op < 1) || decide (7 < e.op)) ?_ ?_
 ·all_goals refine Dd (fr' fo38_0) ?_
  all_goals refine Dd (l1' Tryz.isAgg3) ?_
  all_goals refine Dd lss' ?_
  all_goals refine Dd mv' ?_
  all_goals refine Sp 9 (fun h9 => ?_) fun h9 => ?_
  all_goals try contradiction
  all_goals first | refine Fo ?_ | refine On (fr' fo38_0) ?_
  all_goals first | refine Fo ?_ | refine On (l1' Tryz.isAgg3) ?_
  all_goals first | refine Fo ?_ | refine On gt' ?_
  all_goals refine Dd pk' ?_
  all_goals refine al_nil ?_
  all_goals (exact ⟨⟨_, rfl, by first | (simp only [rb, bare2, *]; rfl) | (simp_all [rb, bare2]; done)⟩, rfl, rfl, rfl⟩)
 refine Cn (fun hc1 => ?_) fun hc1 => ?_
 ·skip
  (exfalso; have h := hc1; simp [ho] at h)
 skip
 refine awp_skip<|Sq<|Rg<|Dd (by exact opd_loadn_ref rfl Tryz.isAgg38 Tryz.sizeOf38 rfl rfl rfl rfl (by simp only [Zl, encTag, encObj, encStr, encEdit, zObj]; rfl) rfl)<|Dd (by exact opr_call rfl rfl Tryz.call41 rfl (bare2_c e _ ho))<|Dd (by exact x_alloc (id := 3) rfl zo38 rfl rfl)<|Uu (sa' Tryz.sizeOf38)<|Zz<|Sq<|Sq ?_
 refine awp_bool (t := 57) (n := 49) (X := rb (bare2 e)) ?_ ?_
 ·all_goals refine Dd (fr' fo38_1) ?_
  all_goals refine Dd (l1' Tryz.isAgg9) ?_
  all_goals refine Dd sn' ?_
  all_goals refine Dd mv' ?_
  all_goals refine Sp 19 (fun h19 => ?_) fun h19 => ?_
  all_goals try contradiction
  all_goals (refine al_ond rfl rfl rfl rfl rfl rfl (by exact opd_field_ref rfl fo38_2 rfl rfl rfl rfl) ?_)
  all_goals (refine al_ond rfl rfl rfl rfl rfl rfl (by exact opd_load1_ref rfl Tryz.isAgg9 rfl rfl rfl rfl rfl) ?_)
  all_goals (refine al_ond rfl rfl rfl rfl rfl rfl (by exact opd_sneq rfl rfl rfl) ?_)
  all_goals refine Dd pk' ?_
  all_goals refine Dd mv' ?_
  all_goals refine Sp 24 (fun h24 => ?_) fun h24 => ?_
  all_goals try contradiction
  all_goals first | refine Fo ?_ | refine On (fr' fo38_3) ?_
  all_goals first | refine Fo ?_ | refine On (l1' Tryz.isAgg9) ?_
  all_goals first | refine Fo ?_ | refine On sn' ?_
  all_goals refine Dd pk' ?_
  all_goals refine Dd mv' ?_
  all_goals refine Sp 29 (fun h29 => ?_) fun h29 => ?_
  all_goals try contradiction
  all_goals first | refine Fo ?_ | refine On (fr' fo38_4) ?_
  all_goals first | refine Fo ?_ | refine On (by exact opd_loadn_ref rfl Tryz.isAgg32 Tryz.sizeOf32 rfl rfl rfl rfl (by simp only [Zl, encTag, encObj, encStr, encEdit, zObj]; rfl) rfl) ?_
  all_goals first | refine Fo ?_ | refine On (bu' bo32) ?_
  all_goals first | refine Fo ?_ | refine On (by exact opd_aneq rfl rfl rfl rfl rfl Tryz.eqGuardType32 (se32 _ _ _ _)) ?_
  all_goals refine Dd pk' ?_
  all_goals refine Dd mv' ?_
  all_goals refine Sp 35 (fun h35 => ?_) fun h35 => ?_
  all_goals try contradiction
  all_goals first | refine Fo ?_ | refine On (fr' fo38_5) ?_
  all_goals first | refine Fo ?_ | refine On (l1' Tryz.isAgg9) ?_
  all_goals first | refine Fo ?_ | refine On sn' ?_
  all_goals refine Dd pk' ?_
  all_goals refine Dd mv' ?_
  all_goals refine Sp 40 (fun h40 => ?_) fun h40 => ?_
  all_goals try contradiction
  all_goals first | refine Fo ?_ | refine On (fr' fo38_6) ?_
  all_goals first | refine Fo ?_ | refine On (l1' Tryz.isAgg9) ?_
  all_goals first | refine Fo ?_ | refine On sn' ?_
  all_goals refine Dd pk' ?_
  all_goals refine Dd mv' ?_
  all_goals refine Sp 45 (fun h45 => ?_) fun h45 => ?_
  all_goals try contradiction
  all_goals first | refine Fo ?_ | refine On (fr' fo38_7) ?_
  all_goals first | refine Fo ?_ | refine On (l1' Tryz.isAgg33) ?_
  all_goals first | refine Fo ?_ | refine On (ll' Tryz.underlying33) ?_
  all_goals first | refine Fo ?_ | refine On gt' ?_
  all_goals refine Dd pk' ?_
  all_goals refine Dd mv' ?_
  all_goals refine Sp 51 (fun h51 => ?_) fun h51 => ?_
  all_goals try contradiction
  all_goals first | refine Fo ?_ | refine On (fr' fo38_8) ?_
  all_goals first | refine Fo ?_ | refine On (by exact opd_loadn_ref rfl Tryz.isAgg36 Tryz.sizeOf36 rfl rfl rfl rfl (by simp only [Zl, encTag, encObj, encStr, encEdit, zObj]; rfl) rfl) ?_
  all_goals first | refine Fo ?_ | refine On (bu' bo36) ?_
  all_goals first | refine Fo ?_ | refine On (by exact opr_call rfl rfl Tryz.call36 rfl (rSame_c (bare2 e).obj zObj _ h7.2.2.1 h7.2.1.1)) ?_
  all_goals first | refine Fo ?_ | refine On no' ?_
  all_goals refine Dd pk' ?_
  all_goals refine al_nil ?_
  all_goals (exact ⟨⟨_, rfl, by (simp_all [rb, bare2]; done)⟩, rfl, rfl, rfl⟩)
 refine Cn (fun hc2 => ?_) fun hc2 => ?_
 ·rw [hc2, Bool.not_true, Bool.false_and]
  refine Sq<|Rg<|Dd as'<|Zz<|awp_ret ?_
  refine Rt ?_
  exact ⟨rfl, rfl⟩
 rw [hc2, Bool.not_false, Bool.true_and]
 refine awp_skip<|Sq<|Sq<|Rg<|Dd (fr' fo38_0)<|Dd (l1' Tryz.isAgg3)<|Dd eql'<|Zz ?_
 refine Cn (fun hc3 => ?_) fun hc3 => ?_
 ·skip
  (exfalso; have h := hc3; simp [ho] at h)
 skip
 refine awp_skip<|Sq<|Rg<|Dd (fr' fo38_1)<|Dd (l1' Tryz.isAgg9)<|Dd (by exact x_buildSlice_own (id := 66) rfl so33 rfl rfl rfl rfl (by simp) rfl)<|Dd as'<|Zz<|Sq<|Sq<|Rg<|Dd (fr' fo38_0)<|Dd (l1' Tryz.isAgg3)<|Dd eql'<|Zz ?_
 refine Cn (fun hc4 => ?_) fun hc4 => ?_
 ·skip
  (exfalso; have h := hc4; simp [ho] at h)
 skip
 refine awp_skip<|Sq<|Sq<|Rg<|Dd (fr' fo38_0)<|Dd (l1' Tryz.isAgg3)<|Dd eql'<|Zz ?_
 refine Cn (fun hc5 => ?_) fun hc5 => ?_
 ·skip
  (exfalso; have h := hc5; simp [ho] at h)
 skip
 refine awp_skip<|Sq<|Sq<|Rg<|Dd (fr' fo38_0)<|Dd (l1' Tryz.isAgg3)<|Dd eql'<|Zz ?_
 refine Cn (fun hc6 => ?_) fun hc6 => ?_
 ·skip
  (exfalso; have h := hc6; simp [ho] at h)
 skip
 refine awp_skip<|Sq<|Sq ?_
 refine awp_bool (t := 97) (n := 9) (X := decide (e.op = 6) || decide (e.op = 7)) ?_ ?_
 ·all_goals refine Dd (fr' fo38_0) ?_
  all_goals refine Dd (l1' Tryz.isAgg3) ?_
  all_goals refine Dd eql' ?_
  all_goals refine Dd mv' ?_
  all_goals refine Sp 93 (fun h93 => ?_) fun h93 => ?_
  all_goals try contradiction
  all_goals first | refine Fo ?_ | refine On (fr' fo38_0) ?_
  all_goals first | refine Fo ?_ | refine On (l1' Tryz.isAgg3) ?_
  all_goals first | refine Fo ?_ | refine On eql' ?_
  all_goals refine Dd pk' ?_
  all_goals refine al_nil ?_
  all_goals (exact ⟨⟨_, rfl, by first | (simp only [*]; rfl) | (simp_all; done)⟩, rfl, rfl, rfl⟩)
 refine Cn (fun hc7 => ?_) fun hc7 => ?_
 ·skip
  (exfalso; have h := hc7; simp [ho] at h)
 skip
 refine awp_skip<|Sq<|Sq<|Rg<|Dd as'<|Zz<|awp_block ?_
 have hnl : ([e.id].map encStr).length = [e.id].length := List.length_map _
 have hnm : ∀ s ∈ [e.id], s.size < 4611686018427387904 := by
  intro s hs
  simp only [List.mem_cons, List.not_mem_nil, or_false] at hs
  rcases hs with rfl <;> assumption
 have hnn : [e.id].length < 4611686018427387904 + 2 := by
  simp only [List.length_cons, List.length_nil]; omega
 refine AWp.ent (Ent.fz (id := 66) (E' := [(1, .ref 1 0 0 0), (4, .pv (slStrs [e.id])), (5, iv 0)]) (H' := [(1, bEd e)]) ([e.id].map encStr) rfl (rows_of encStr [e.id])
  (by intro p hp; simp only [List.mem_cons, List.not_mem_nil, or_false] at hp; rcases hp with rfl | rfl | rfl; exact ⟨_, rfl, .same (.ref rfl)⟩; exact ⟨_, rfl, .osl (by rfl)⟩; exact ⟨_, rfl, .same (by simp)⟩) rfl ⟨⟨_, rfl, rfl⟩, (by (simp; done)), trivial⟩ trivial) ?_
 refine awp_loop (σ := Nat) (fun q => ([(1, .ref 1 0 0 0), (4, .pv (slStrs [e.id])), (5, iv (q : Int))], [(1, bEd e)])) (fun q => q ≤ [e.id].length ∧ ∀ j, j < q → ∀ b, [e.id][j]? = some b → (!gName b) = false) (fun q => [e.id].length - q) 0 ⟨by omega, by omega⟩ ?_ ?_
 ·exact Wk
 rintro q ⟨hq, hno⟩
 refine Sq<|Sq<|Rg<|Dd mv'<|Dd mv'<|Dd (ll' Tryz.underlying33)<|Dd lss'<|Zz ?_
 refine Cn (fun hc8 => ?_) fun hc8 => ?_
 ·have hlt : q < [e.id].length := by have := of_decide_eq_true hc8; omega
  obtain ⟨s, hs⟩ := get_of_lt hlt
  have hi := map_get (f := encStr) hs
  refine awp_skip<|Sq<|awp_block<|Sq<|Rg<|Dd mv'<|Dd mv'<|Dd (xp' so33)<|Dd (lp' Tryz.isAgg9)<|Dd (by exact opr_call rfl rfl Tryz.call43 rfl (rName_c s _ (hnm s (List.mem_of_getElem? hs))))<|Dd no'<|Zz ?_
  refine Cn (fun hc9 => ?_) fun hc9 => ?_
  ·have hall : [e.id].all gName = false := by
    rw [List.all_eq_false]
    exact ⟨s, List.mem_of_getElem? hs, by simpa using hc9⟩
   rw [hall]
   refine Sq<|Rg<|Dd as'<|Zz<|awp_ret ?_
   refine Rt ?_
   exact ⟨rfl, rfl⟩
  skip
  refine awp_skip<|Rg<|Dd mv'<|Dd ad'<|Dd as'<|Zz ?_
  exact ⟨q + 1, ⟨by omega, pre_succ hno hs hc9⟩, by omega, Wk⟩
 have hge : q = [e.id].length := by have := of_decide_eq_false hc8; omega
 subst hge
 have hall : [e.id].all gName = true := by
  rw [List.all_eq_true]
  intro s hs
  obtain ⟨j, hj⟩ := List.mem_iff_getElem?.1 hs
  have := hno j (List.getElem?_eq_some_iff.1 hj).1 s hj
  simpa using this
 rw [hall, Bool.true_and]
 have d4 : decide (e.op = 4) = false := by rw [ho]; decide
 refine awp_exit<|Sq<|Sq<|Rg<|Dd (fr' fo38_0)<|Dd (l1' Tryz.isAgg3)<|Dd eql'<|Dd mv' ?_
 refine al_off rfl rfl rfl (by assumption) rfl ?_
 refine al_off rfl rfl rfl (by assumption) rfl ?_
 refine al_off rfl rfl rfl (by assumption) rfl ?_
 refine al_off rfl rfl rfl (by assumption) rfl ?_
 refine al_off rfl rfl rfl (by assumption) rfl ?_
 refine al_offu rfl rfl rfl rfl ?_
 refine al_offu rfl rfl rfl rfl ?_
 refine al_offu rfl rfl rfl rfl ?_
 refine al_offu rfl rfl rfl rfl ?_
 refine al_off rfl rfl rfl (by assumption) rfl ?_
 refine Dd pf'<|Zz ?_
 refine Cn (fun hc10 => ?_) fun hc10 => ?_
 ·skip
  (cases hc10)
 skip
 refine awp_skip<|Sq ?_
 refine awp_bool (t := 2) (n := 17) (X := decide ((e.val.size : Int) ≤ 200) && gOn e.x e.y) ?_ ?_
 ·all_goals refine Dd (fr' fo38_6) ?_
  all_goals refine Dd (l1' Tryz.isAgg9) ?_
  all_goals refine Dd (ls' Tryz.underlying9) ?_
  all_goals refine Dd le' ?_
  all_goals refine Dd mv' ?_
  all_goals refine Sp 134 (fun h134 => ?_) fun h134 => ?_
  all_goals try contradiction
  all_goals first | refine Fo ?_ | refine On (fr' fo38_0) ?_
  all_goals first | refine Fo ?_ | refine On (l1' Tryz.isAgg3) ?_
  all_goals first | refine Fo ?_ | refine On ne' ?_
  all_goals first | refine Fo ?_ | refine On mv' ?_
  all_goals (first | refine Sp 138 (fun h138 => ?_) fun h138 => ?_ | refine al_dup (t := 138) rfl ?_)
  all_goals try contradiction
  all_goals first | refine Fo ?_ | refine Fu ?_ | refine On (fr' fo38_4) ?_
  all_goals first | refine Fo ?_ | refine Fu ?_ | refine On (by exact opd_loadn_ref rfl Tryz.isAgg32 Tryz.sizeOf32 rfl rfl rfl rfl (by simp only [Zl, encTag, encObj, encStr, encEdit, zObj]; rfl) rfl) ?_
  all_goals first | refine Fo ?_ | refine Fu ?_ | refine On (by exact opr_call rfl rfl Tryz.call44 rfl (rOn_c e.x e.y _)) ?_
  all_goals first | refine Fo ?_ | refine On pk' ?_
  all_goals refine Dd pk' ?_
  all_goals refine Dd as' ?_
  all_goals refine al_nil ?_
  all_goals (exact ⟨⟨_, rfl, by first | (simp only [*]; rfl) | (simp_all; done)⟩, rfl, rfl, rfl⟩)
 refine awp_ret ?_
 refine Rt ?_
 exact ⟨rfl, rfl⟩
theorem rValid3_c (e : GEdit) (H : Heap) (he : okE e) (ho : e.op = 3) : ACalls Tryz.prog 13 [av (encEdit e)] H (fun r H' => r = bv (gEditV e) ∧ H' = H) := by
 refine ACalls.pure ?_ (by simp) H
 rw [ed3 e ho]
 obtain ⟨⟨h1, h2, h3, h4⟩, ⟨h5, h6⟩, h7⟩ := he
 have hrl : (e.refs.map encStr).length = e.refs.length := List.length_map _
 refine Bd Tryz.func13 rfl Tryz.ntmps13<|Sq<|Rg<|Dd (by exact opd_box (id := 1) rfl rfl rfl rfl rfl)<|Dd as'<|Zz<|Sq<|Sq ?_
 refine awp_bool (t := 13) (n := 9) (X := decide (e.op < 1) || decide (7 < e.op)) ?_ ?_
 ·all_goals refine Dd (fr' fo38_0) ?_
  all_goals refine Dd (l1' Tryz.isAgg3) ?_
  all_goals refine Dd lss' ?_
  all_goals refine Dd mv' ?_
  all_goals refine Sp 9 (fun h9 => ?_) fun h9 => ?_
  all_goals try contradiction
  all_goals first | refine Fo ?_ | refine On (fr' fo38_0) ?_
  all_goals first | refine Fo ?_ | refine On (l1' Tryz.isAgg3) ?_
  all_goals first | refine Fo ?_ | refine On gt' ?_
  all_goals refine Dd pk' ?_
  all_goals refine al_nil ?_
  all_goals (exact ⟨⟨_, rfl, by first | (simp only [rb, bare3, *]; rfl) | (simp_all [rb, bare3]; done)⟩, rfl, rfl, rfl⟩)
 refine Cn (fun hc1 => ?_) fun hc1 => ?_
 ·skip
  (exfalso; have h := hc1; simp [ho] at h)
 skip
 refine awp_skip<|Sq<|Rg<|Dd (by exact opd_loadn_ref rfl Tryz.isAgg38 Tryz.sizeOf38 rfl rfl rfl rfl (by simp only [Zl, encTag, encObj, encStr, encEdit, zObj]; rfl) rfl)<|Dd (by exact opr_call rfl rfl Tryz.call41 rfl (bare3_c e _ ho))<|Dd (by exact x_alloc (id := 3) rfl zo38 rfl rfl)<|Uu (sa' Tryz.sizeOf38)<|Zz<|Sq<|Sq ?_
 refine awp_bool (t := 57) (n := 49) (X := rb (bare3 e)) ?_ ?_
 ·all_goals refine Dd (fr' fo38_1) ?_
  all_goals refine Dd (l1' Tryz.isAgg9) ?_
  all_goals refine Dd sn' ?_
  all_goals refine Dd mv' ?_
  all_goals refine Sp 19 (fun h19 => ?_) fun h19 => ?_
  all_goals try contradiction
  all_goals (refine al_ond rfl rfl rfl rfl rfl rfl (by exact opd_field_ref rfl fo38_2 rfl rfl rfl rfl) ?_)
  all_goals (refine al_ond rfl rfl rfl rfl rfl rfl (by exact opd_load1_ref rfl Tryz.isAgg9 rfl rfl rfl rfl rfl) ?_)
  all_goals (refine al_ond rfl rfl rfl rfl rfl rfl (by exact opd_sneq rfl rfl rfl) ?_)
  all_goals refine Dd pk' ?_
  all_goals refine Dd mv' ?_
  all_goals refine Sp 24 (fun h24 => ?_) fun h24 => ?_
  all_goals try contradiction
  all_goals first | refine Fo ?_ | refine On (fr' fo38_3) ?_
  all_goals first | refine Fo ?_ | refine On (l1' Tryz.isAgg9) ?_
  all_goals first | refine Fo ?_ | refine On sn' ?_
  all_goals refine Dd pk' ?_
  all_goals refine Dd mv' ?_
  all_goals refine Sp 29 (fun h29 => ?_) fun h29 => ?_
  all_goals try contradiction
  all_goals first | refine Fo ?_ | refine On (fr' fo38_4) ?_
  all_goals first | refine Fo ?_ | refine On (by exact opd_loadn_ref rfl Tryz.isAgg32 Tryz.sizeOf32 rfl rfl rfl rfl (by simp only [Zl, encTag, encObj, encStr, encEdit, zObj]; rfl) rfl) ?_
  all_goals first | refine Fo ?_ | refine On (bu' bo32) ?_
  all_goals first | refine Fo ?_ | refine On (by exact opd_aneq rfl rfl rfl rfl rfl Tryz.eqGuardType32 (se32 _ _ _ _)) ?_
  all_goals refine Dd pk' ?_
  all_goals refine Dd mv' ?_
  all_goals refine Sp 35 (fun h35 => ?_) fun h35 => ?_
  all_goals try contradiction
  all_goals first | refine Fo ?_ | refine On (fr' fo38_5) ?_
  all_goals first | refine Fo ?_ | refine On (l1' Tryz.isAgg9) ?_
  all_goals first | refine Fo ?_ | refine On sn' ?_
  all_goals refine Dd pk' ?_
  all_goals refine Dd mv' ?_
  all_goals refine Sp 40 (fun h40 => ?_) fun h40 => ?_
  all_goals try contradiction
  all_goals first | refine Fo ?_ | refine On (fr' fo38_6) ?_
  all_goals first | refine Fo ?_ | refine On (l1' Tryz.isAgg9) ?_
  all_goals first | refine Fo ?_ | refine On sn' ?_
  all_goals refine Dd pk' ?_
  all_goals refine Dd mv' ?_
  all_goals refine Sp 45 (fun h45 => ?_) fun h45 => ?_
  all_goals try contradiction
  all_goals first | refine Fo ?_ | refine On (fr' fo38_7) ?_
  all_goals first | refine Fo ?_ | refine On (l1' Tryz.isAgg33) ?_
  all_goals first | refine Fo ?_ | refine On (ll' Tryz.underlying33) ?_
  all_goals first | refine Fo ?_ | refine On gt' ?_
  all_goals refine Dd pk' ?_
  all_goals refine Dd mv' ?_
  all_goals refine Sp 51 (fun h51 => ?_) fun h51 => ?_
  all_goals try contradiction
  all_goals first | refine Fo ?_ | refine On (fr' fo38_8) ?_
  all_goals first | refine Fo ?_ | refine On (by exact opd_loadn_ref rfl Tryz.isAgg36 Tryz.sizeOf36 rfl rfl rfl rfl (by simp only [Zl, encTag, encObj, encStr, encEdit, zObj]; rfl) rfl) ?_
  all_goals first | refine Fo ?_ | refine On (bu' bo36) ?_
  all_goals first | refine Fo ?_ | refine On (by exact opr_call rfl rfl Tryz.call36 rfl (rSame_c (bare3 e).obj zObj _ h7.2.2.1 h7.2.1.1)) ?_
  all_goals first | refine Fo ?_ | refine On no' ?_
  all_goals refine Dd pk' ?_
  all_goals refine al_nil ?_
  all_goals (exact ⟨⟨_, rfl, by (simp_all [rb, bare3]; done)⟩, rfl, rfl, rfl⟩)
 refine Cn (fun hc2 => ?_) fun hc2 => ?_
 ·rw [hc2, Bool.not_true, Bool.false_and]
  refine Sq<|Rg<|Dd as'<|Zz<|awp_ret ?_
  refine Rt ?_
  exact ⟨rfl, rfl⟩
 rw [hc2, Bool.not_false, Bool.true_and]
 refine awp_skip<|Sq<|Sq<|Rg<|Dd (fr' fo38_0)<|Dd (l1' Tryz.isAgg3)<|Dd eql'<|Zz ?_
 refine Cn (fun hc3 => ?_) fun hc3 => ?_
 ·skip
  (exfalso; have h := hc3; simp [ho] at h)
 skip
 refine awp_skip<|Sq<|Rg<|Dd (fr' fo38_1)<|Dd (l1' Tryz.isAgg9)<|Dd (by exact x_buildSlice_own (id := 66) rfl so33 rfl rfl rfl rfl (by simp) rfl)<|Dd as'<|Zz<|Sq<|Sq<|Rg<|Dd (fr' fo38_0)<|Dd (l1' Tryz.isAgg3)<|Dd eql'<|Zz ?_
 refine Cn (fun hc4 => ?_) fun hc4 => ?_
 ·skip
  refine Rg<|Dd mv'<|Dd (fr' fo38_5)<|Dd (l1' Tryz.isAgg9)<|Dd (by exact x_buildSlice [encStr e.key] rfl so33 rfl rfl rfl rfl rfl (by simp [encStr]))<|Dd (by exact x_append rfl so33 ei9 rfl rfl rfl rfl rfl (rfl : _ = 1) rfl (by simp [encStr]) (rfl : _ = 1) (by omega) (rfl : _ = 2) (rfl : _ = strRows [e.id, e.key]))<|Dd as'<|Zz<|Sq<|Sq<|Rg<|Dd (fr' fo38_0)<|Dd (l1' Tryz.isAgg3)<|Dd eql'<|Zz ?_
  refine Cn (fun hc5 => ?_) fun hc5 => ?_
  ·skip
   (exfalso; have h := hc5; simp [ho] at h)
  skip
  refine awp_skip<|Sq<|Sq<|Rg<|Dd (fr' fo38_0)<|Dd (l1' Tryz.isAgg3)<|Dd eql'<|Zz ?_
  refine Cn (fun hc6 => ?_) fun hc6 => ?_
  ·skip
   (exfalso; have h := hc6; simp [ho] at h)
  skip
  refine awp_skip<|Sq<|Sq ?_
  refine awp_bool (t := 97) (n := 9) (X := decide (e.op = 6) || decide (e.op = 7)) ?_ ?_
  ·all_goals refine Dd (fr' fo38_0) ?_
   all_goals refine Dd (l1' Tryz.isAgg3) ?_
   all_goals refine Dd eql' ?_
   all_goals refine Dd mv' ?_
   all_goals refine Sp 93 (fun h93 => ?_) fun h93 => ?_
   all_goals try contradiction
   all_goals first | refine Fo ?_ | refine On (fr' fo38_0) ?_
   all_goals first | refine Fo ?_ | refine On (l1' Tryz.isAgg3) ?_
   all_goals first | refine Fo ?_ | refine On eql' ?_
   all_goals refine Dd pk' ?_
   all_goals refine al_nil ?_
   all_goals (exact ⟨⟨_, rfl, by first | (simp only [*]; rfl) | (simp_all; done)⟩, rfl, rfl, rfl⟩)
  refine Cn (fun hc7 => ?_) fun hc7 => ?_
  ·skip
   (exfalso; have h := hc7; simp [ho] at h)
  skip
  refine awp_skip<|Sq<|Sq<|Rg<|Dd as'<|Zz<|awp_block ?_
  have hnl : ([e.id, e.key].map encStr).length = [e.id, e.key].length := List.length_map _
  have hnm : ∀ s ∈ [e.id, e.key], s.size < 4611686018427387904 := by
   intro s hs
   simp only [List.mem_cons, List.not_mem_nil, or_false] at hs
   rcases hs with rfl | rfl <;> assumption
  have hnn : [e.id, e.key].length < 4611686018427387904 + 2 := by
   simp only [List.length_cons, List.length_nil]; omega
  refine AWp.ent (Ent.fz (id := 66) (E' := [(1, .ref 1 0 0 0), (4, .pv (slStrs [e.id, e.key])), (5, iv 0)]) (H' := [(1, bEd e)]) ([e.id, e.key].map encStr) rfl (rows_of encStr [e.id, e.key])
   (by intro p hp; simp only [List.mem_cons, List.not_mem_nil, or_false] at hp; rcases hp with rfl | rfl | rfl; exact ⟨_, rfl, .same (.ref rfl)⟩; exact ⟨_, rfl, .osl (by rfl)⟩; exact ⟨_, rfl, .same (by simp)⟩) rfl ⟨⟨_, rfl, rfl⟩, (by (simp; done)), trivial⟩ trivial) ?_
  refine awp_loop (σ := Nat) (fun q => ([(1, .ref 1 0 0 0), (4, .pv (slStrs [e.id, e.key])), (5, iv (q : Int))], [(1, bEd e)])) (fun q => q ≤ [e.id, e.key].length ∧ ∀ j, j < q → ∀ b, [e.id, e.key][j]? = some b → (!gName b) = false) (fun q => [e.id, e.key].length - q) 0 ⟨by omega, by omega⟩ ?_ ?_
  ·exact Wk
  rintro q ⟨hq, hno⟩
  refine Sq<|Sq<|Rg<|Dd mv'<|Dd mv'<|Dd (ll' Tryz.underlying33)<|Dd lss'<|Zz ?_
  refine Cn (fun hc8 => ?_) fun hc8 => ?_
  ·have hlt : q < [e.id, e.key].length := by have := of_decide_eq_true hc8; omega
   obtain ⟨s, hs⟩ := get_of_lt hlt
   have hi := map_get (f := encStr) hs
   refine awp_skip<|Sq<|awp_block<|Sq<|Rg<|Dd mv'<|Dd mv'<|Dd (xp' so33)<|Dd (lp' Tryz.isAgg9)<|Dd (by exact opr_call rfl rfl Tryz.call43 rfl (rName_c s _ (hnm s (List.mem_of_getElem? hs))))<|Dd no'<|Zz ?_
   refine Cn (fun hc9 => ?_) fun hc9 => ?_
   ·have hall : [e.id, e.key].all gName = false := by
     rw [List.all_eq_false]
     exact ⟨s, List.mem_of_getElem? hs, by simpa using hc9⟩
    rw [hall]
    refine Sq<|Rg<|Dd as'<|Zz<|awp_ret ?_
    refine Rt ?_
    exact ⟨rfl, rfl⟩
   skip
   refine awp_skip<|Rg<|Dd mv'<|Dd ad'<|Dd as'<|Zz ?_
   exact ⟨q + 1, ⟨by omega, pre_succ hno hs hc9⟩, by omega, Wk⟩
  have hge : q = [e.id, e.key].length := by have := of_decide_eq_false hc8; omega
  subst hge
  have hall : [e.id, e.key].all gName = true := by
   rw [List.all_eq_true]
   intro s hs
   obtain ⟨j, hj⟩ := List.mem_iff_getElem?.1 hs
   have := hno j (List.getElem?_eq_some_iff.1 hj).1 s hj
   simpa using this
  rw [hall, Bool.true_and]
  have d4 : decide (e.op = 4) = false := by rw [ho]; decide
  refine awp_exit<|Sq<|Sq<|Rg<|Dd (fr' fo38_0)<|Dd (l1' Tryz.isAgg3)<|Dd eql'<|Dd mv' ?_
  refine al_off rfl rfl rfl (by assumption) rfl ?_
  refine al_off rfl rfl rfl (by assumption) rfl ?_
  refine al_off rfl rfl rfl (by assumption) rfl ?_
  refine al_off rfl rfl rfl (by assumption) rfl ?_
  refine al_off rfl rfl rfl (by assumption) rfl ?_
  refine al_offu rfl rfl rfl rfl ?_
  refine al_offu rfl rfl rfl rfl ?_
  refine al_offu rfl rfl rfl rfl ?_
  refine al_offu rfl rfl rfl rfl ?_
  refine al_off rfl rfl rfl (by assumption) rfl ?_
  refine Dd pf'<|Zz ?_
  refine Cn (fun hc10 => ?_) fun hc10 => ?_
  ·skip
   (cases hc10)
  skip
  refine awp_skip<|Sq ?_
  refine awp_bool (t := 2) (n := 17) (X := decide ((e.val.size : Int) ≤ 200)) ?_ ?_
  ·all_goals refine Dd (fr' fo38_6) ?_
   all_goals refine Dd (l1' Tryz.isAgg9) ?_
   all_goals refine Dd (ls' Tryz.underlying9) ?_
   all_goals refine Dd le' ?_
   all_goals refine Dd mv' ?_
   all_goals refine Sp 134 (fun h134 => ?_) fun h134 => ?_
   all_goals try contradiction
   all_goals first | refine Fo ?_ | refine On (fr' fo38_0) ?_
   all_goals first | refine Fo ?_ | refine On (l1' Tryz.isAgg3) ?_
   all_goals first | refine Fo ?_ | refine On ne' ?_
   all_goals first | refine Fo ?_ | refine On mv' ?_
   all_goals (first | refine Sp 138 (fun h138 => ?_) fun h138 => ?_ | refine al_dup (t := 138) rfl ?_)
   all_goals try contradiction
   all_goals first | refine Fo ?_ | refine Fu ?_ | refine On (fr' fo38_4) ?_
   all_goals first | refine Fo ?_ | refine Fu ?_ | refine On (by exact opd_loadn_ref rfl Tryz.isAgg32 Tryz.sizeOf32 rfl rfl rfl rfl (by simp only [Zl, encTag, encObj, encStr, encEdit, zObj]; rfl) rfl) ?_
   all_goals first | refine Fo ?_ | refine Fu ?_ | refine On (by exact opr_call rfl rfl Tryz.call44 rfl (rOn_c e.x e.y _)) ?_
   all_goals first | refine Fo ?_ | refine On pk' ?_
   all_goals refine Dd pk' ?_
   all_goals refine Dd as' ?_
   all_goals refine al_nil ?_
   all_goals (exact ⟨⟨_, rfl, by (simp_all; done)⟩, rfl, rfl, rfl⟩)
  refine awp_ret ?_
  refine Rt ?_
  exact ⟨rfl, rfl⟩
 skip
 (exfalso; have h := hc4; simp [ho] at h)
theorem rValid4_c (e : GEdit) (H : Heap) (he : okE e) (hr : e.refs.length < 1099511627776) (ho : e.op = 4) : ACalls Tryz.prog 13 [av (encEdit e)] H (fun r H' => r = bv (gEditV e) ∧ H' = H) := by
 refine ACalls.pure ?_ (by simp) H
 rw [ed4 e ho]
 obtain ⟨⟨h1, h2, h3, h4⟩, ⟨h5, h6⟩, h7⟩ := he
 have hrl : (e.refs.map encStr).length = e.refs.length := List.length_map _
 refine Bd Tryz.func13 rfl Tryz.ntmps13<|Sq<|Rg<|Dd (by exact opd_box (id := 1) rfl rfl rfl rfl rfl)<|Dd as'<|Zz<|Sq<|Sq ?_
 refine awp_bool (t := 13) (n := 9) (X := decide (e.op < 1) || decide (7 < e.op)) ?_ ?_
 ·all_goals refine Dd (fr' fo38_0) ?_
  all_goals refine Dd (l1' Tryz.isAgg3) ?_
  all_goals refine Dd lss' ?_
  all_goals refine Dd mv' ?_
  all_goals refine Sp 9 (fun h9 => ?_) fun h9 => ?_
  all_goals try contradiction
  all_goals first | refine Fo ?_ | refine On (fr' fo38_0) ?_
  all_goals first | refine Fo ?_ | refine On (l1' Tryz.isAgg3) ?_
  all_goals first | refine Fo ?_ | refine On gt' ?_
  all_goals refine Dd pk' ?_
  all_goals refine al_nil ?_
  all_goals (exact ⟨⟨_, rfl, by first | (simp only [rb, bare4, *]; rfl) | (simp_all [rb, bare4]; done)⟩, rfl, rfl, rfl⟩)
 refine Cn (fun hc1 => ?_) fun hc1 => ?_
 ·skip
  (exfalso; have h := hc1; simp [ho] at h)
 skip
 refine awp_skip<|Sq<|Rg<|Dd (by exact opd_loadn_ref rfl Tryz.isAgg38 Tryz.sizeOf38 rfl rfl rfl rfl (by simp only [Zl, encTag, encObj, encStr, encEdit, zObj]; rfl) rfl)<|Dd (by exact opr_call rfl rfl Tryz.call41 rfl (bare4_c e _ ho))<|Dd (by exact x_alloc (id := 3) rfl zo38 rfl rfl)<|Uu (sa' Tryz.sizeOf38)<|Zz<|Sq<|Sq ?_
 refine awp_bool (t := 57) (n := 49) (X := rb (bare4 e)) ?_ ?_
 ·all_goals refine Dd (fr' fo38_1) ?_
  all_goals refine Dd (l1' Tryz.isAgg9) ?_
  all_goals refine Dd sn' ?_
  all_goals refine Dd mv' ?_
  all_goals refine Sp 19 (fun h19 => ?_) fun h19 => ?_
  all_goals try contradiction
  all_goals (refine al_ond rfl rfl rfl rfl rfl rfl (by exact opd_field_ref rfl fo38_2 rfl rfl rfl rfl) ?_)
  all_goals (refine al_ond rfl rfl rfl rfl rfl rfl (by exact opd_load1_ref rfl Tryz.isAgg9 rfl rfl rfl rfl rfl) ?_)
  all_goals (refine al_ond rfl rfl rfl rfl rfl rfl (by exact opd_sneq rfl rfl rfl) ?_)
  all_goals refine Dd pk' ?_
  all_goals refine Dd mv' ?_
  all_goals refine Sp 24 (fun h24 => ?_) fun h24 => ?_
  all_goals try contradiction
  all_goals first | refine Fo ?_ | refine On (fr' fo38_3) ?_
  all_goals first | refine Fo ?_ | refine On (l1' Tryz.isAgg9) ?_
  all_goals first | refine Fo ?_ | refine On sn' ?_
  all_goals refine Dd pk' ?_
  all_goals refine Dd mv' ?_
  all_goals refine Sp 29 (fun h29 => ?_) fun h29 => ?_
  all_goals try contradiction
  all_goals first | refine Fo ?_ | refine On (fr' fo38_4) ?_
  all_goals first | refine Fo ?_ | refine On (by exact opd_loadn_ref rfl Tryz.isAgg32 Tryz.sizeOf32 rfl rfl rfl rfl (by simp only [Zl, encTag, encObj, encStr, encEdit, zObj]; rfl) rfl) ?_
  all_goals first | refine Fo ?_ | refine On (bu' bo32) ?_
  all_goals first | refine Fo ?_ | refine On (by exact opd_aneq rfl rfl rfl rfl rfl Tryz.eqGuardType32 (se32 _ _ _ _)) ?_
  all_goals refine Dd pk' ?_
  all_goals refine Dd mv' ?_
  all_goals refine Sp 35 (fun h35 => ?_) fun h35 => ?_
  all_goals try contradiction
  all_goals first | refine Fo ?_ | refine On (fr' fo38_5) ?_
  all_goals first | refine Fo ?_ | refine On (l1' Tryz.isAgg9) ?_
  all_goals first | refine Fo ?_ | refine On sn' ?_
  all_goals refine Dd pk' ?_
  all_goals refine Dd mv' ?_
  all_goals refine Sp 40 (fun h40 => ?_) fun h40 => ?_
  all_goals try contradiction
  all_goals first | refine Fo ?_ | refine On (fr' fo38_6) ?_
  all_goals first | refine Fo ?_ | refine On (l1' Tryz.isAgg9) ?_
  all_goals first | refine Fo ?_ | refine On sn' ?_
  all_goals refine Dd pk' ?_
  all_goals refine Dd mv' ?_
  all_goals refine Sp 45 (fun h45 => ?_) fun h45 => ?_
  all_goals try contradiction
  all_goals first | refine Fo ?_ | refine On (fr' fo38_7) ?_
  all_goals first | refine Fo ?_ | refine On (l1' Tryz.isAgg33) ?_
  all_goals first | refine Fo ?_ | refine On (ll' Tryz.underlying33) ?_
  all_goals first | refine Fo ?_ | refine On gt' ?_
  all_goals refine Dd pk' ?_
  all_goals refine Dd mv' ?_
  all_goals refine Sp 51 (fun h51 => ?_) fun h51 => ?_
  all_goals try contradiction
  all_goals first | refine Fo ?_ | refine On (fr' fo38_8) ?_
  all_goals first | refine Fo ?_ | refine On (by exact opd_loadn_ref rfl Tryz.isAgg36 Tryz.sizeOf36 rfl rfl rfl rfl (by simp only [Zl, encTag, encObj, encStr, encEdit, zObj]; rfl) rfl) ?_
  all_goals first | refine Fo ?_ | refine On (bu' bo36) ?_
  all_goals first | refine Fo ?_ | refine On (by exact opr_call rfl rfl Tryz.call36 rfl (rSame_c (bare4 e).obj zObj _ h7.2.2.1 h7.2.1.1)) ?_
  all_goals first | refine Fo ?_ | refine On no' ?_
  all_goals refine Dd pk' ?_
  all_goals refine al_nil ?_
  all_goals (exact ⟨⟨_, rfl, by (simp_all [rb, bare4]; done)⟩, rfl, rfl, rfl⟩)
 refine Cn (fun hc2 => ?_) fun hc2 => ?_
 ·rw [hc2, Bool.not_true, Bool.false_and]
  refine Sq<|Rg<|Dd as'<|Zz<|awp_ret ?_
  refine Rt ?_
  exact ⟨rfl, rfl⟩
 rw [hc2, Bool.not_false, Bool.true_and]
 refine awp_skip<|Sq<|Sq<|Rg<|Dd (fr' fo38_0)<|Dd (l1' Tryz.isAgg3)<|Dd eql'<|Zz ?_
 refine Cn (fun hc3 => ?_) fun hc3 => ?_
 ·skip
  (exfalso; have h := hc3; simp [ho] at h)
 skip
 refine awp_skip<|Sq<|Rg<|Dd (fr' fo38_1)<|Dd (l1' Tryz.isAgg9)<|Dd (by exact x_buildSlice_own (id := 66) rfl so33 rfl rfl rfl rfl (by simp) rfl)<|Dd as'<|Zz<|Sq<|Sq<|Rg<|Dd (fr' fo38_0)<|Dd (l1' Tryz.isAgg3)<|Dd eql'<|Zz ?_
 refine Cn (fun hc4 => ?_) fun hc4 => ?_
 ·skip
  (exfalso; have h := hc4; simp [ho] at h)
 skip
 refine awp_skip<|Sq<|Sq<|Rg<|Dd (fr' fo38_0)<|Dd (l1' Tryz.isAgg3)<|Dd eql'<|Zz ?_
 refine Cn (fun hc5 => ?_) fun hc5 => ?_
 ·skip
  refine Rg<|Dd mv'<|Dd (fr' fo38_7)<|Dd (l1' Tryz.isAgg33)<|Dd (by exact x_append rfl so33 ei9 rfl rfl rfl rfl rfl (rfl : _ = 1) rfl (strs_len e.refs) (List.length_map _) (by omega) (Nat.add_comm 1 _ : _ = (e.id :: e.refs).length) (strRows_cons e.id e.refs))<|Dd as'<|Zz<|Sq<|Sq<|Rg<|Dd (fr' fo38_0)<|Dd (l1' Tryz.isAgg3)<|Dd eql'<|Zz ?_
  refine Cn (fun hc6 => ?_) fun hc6 => ?_
  ·skip
   (exfalso; have h := hc6; simp [ho] at h)
  skip
  refine awp_skip<|Sq<|Sq ?_
  refine awp_bool (t := 97) (n := 9) (X := decide (e.op = 6) || decide (e.op = 7)) ?_ ?_
  ·all_goals refine Dd (fr' fo38_0) ?_
   all_goals refine Dd (l1' Tryz.isAgg3) ?_
   all_goals refine Dd eql' ?_
   all_goals refine Dd mv' ?_
   all_goals refine Sp 93 (fun h93 => ?_) fun h93 => ?_
   all_goals try contradiction
   all_goals first | refine Fo ?_ | refine On (fr' fo38_0) ?_
   all_goals first | refine Fo ?_ | refine On (l1' Tryz.isAgg3) ?_
   all_goals first | refine Fo ?_ | refine On eql' ?_
   all_goals refine Dd pk' ?_
   all_goals refine al_nil ?_
   all_goals (exact ⟨⟨_, rfl, by first | (simp only [*]; rfl) | (simp_all; done)⟩, rfl, rfl, rfl⟩)
  refine Cn (fun hc7 => ?_) fun hc7 => ?_
  ·skip
   (exfalso; have h := hc7; simp [ho] at h)
  skip
  refine awp_skip<|Sq<|Sq<|Rg<|Dd as'<|Zz<|awp_block ?_
  have hnl : ((e.id :: e.refs).map encStr).length = (e.id :: e.refs).length := List.length_map _
  have hnm : ∀ s ∈ (e.id :: e.refs), s.size < 4611686018427387904 := by
   intro s hs
   rcases List.mem_cons.1 hs with rfl | hs
   ·exact h1
   exact h6 s hs
  have hnn : (e.id :: e.refs).length < 4611686018427387904 + 2 := by
   simp only [List.length_cons, List.length_nil]; omega
  refine AWp.ent (Ent.fz (id := 66) (E' := [(1, .ref 1 0 0 0), (4, .pv (slStrs (e.id :: e.refs))), (5, iv 0)]) (H' := [(1, bEd e)]) ((e.id :: e.refs).map encStr) rfl (rows_of encStr (e.id :: e.refs))
   (by intro p hp; simp only [List.mem_cons, List.not_mem_nil, or_false] at hp; rcases hp with rfl | rfl | rfl; exact ⟨_, rfl, .same (.ref rfl)⟩; exact ⟨_, rfl, .osl (by (rw [Nat.zero_add, List.drop_zero]; exact List.take_of_length_le (by simp)))⟩; exact ⟨_, rfl, .same (by simp)⟩) rfl ⟨⟨_, rfl, rfl⟩, (by (simp; done)), trivial⟩ trivial) ?_
  refine awp_loop (σ := Nat) (fun q => ([(1, .ref 1 0 0 0), (4, .pv (slStrs (e.id :: e.refs))), (5, iv (q : Int))], [(1, bEd e)])) (fun q => q ≤ (e.id :: e.refs).length ∧ ∀ j, j < q → ∀ b, (e.id :: e.refs)[j]? = some b → (!gName b) = false) (fun q => (e.id :: e.refs).length - q) 0 ⟨by omega, by omega⟩ ?_ ?_
  ·exact Wk
  rintro q ⟨hq, hno⟩
  refine Sq<|Sq<|Rg<|Dd mv'<|Dd mv'<|Dd (ll' Tryz.underlying33)<|Dd lss'<|Zz ?_
  refine Cn (fun hc8 => ?_) fun hc8 => ?_
  ·have hlt : q < (e.id :: e.refs).length := by have := of_decide_eq_true hc8; omega
   obtain ⟨s, hs⟩ := get_of_lt hlt
   have hi := map_get (f := encStr) hs
   refine awp_skip<|Sq<|awp_block<|Sq<|Rg<|Dd mv'<|Dd mv'<|Dd (xp' so33)<|Dd (lp' Tryz.isAgg9)<|Dd (by exact opr_call rfl rfl Tryz.call43 rfl (rName_c s _ (hnm s (List.mem_of_getElem? hs))))<|Dd no'<|Zz ?_
   refine Cn (fun hc9 => ?_) fun hc9 => ?_
   ·have hall : (e.id :: e.refs).all gName = false := by
     rw [List.all_eq_false]
     exact ⟨s, List.mem_of_getElem? hs, by simpa using hc9⟩
    rw [hall]
    refine Sq<|Rg<|Dd as'<|Zz<|awp_ret ?_
    refine Rt ?_
    exact ⟨rfl, rfl⟩
   skip
   refine awp_skip<|Rg<|Dd mv'<|Dd ad'<|Dd as'<|Zz ?_
   exact ⟨q + 1, ⟨by omega, pre_succ hno hs hc9⟩, by omega, Wk⟩
  have hge : q = (e.id :: e.refs).length := by have := of_decide_eq_false hc8; omega
  subst hge
  have hall : (e.id :: e.refs).all gName = true := by
   rw [List.all_eq_true]
   intro s hs
   obtain ⟨j, hj⟩ := List.mem_iff_getElem?.1 hs
   have := hno j (List.getElem?_eq_some_iff.1 hj).1 s hj
   simpa using this
  rw [hall, Bool.true_and]
  refine awp_exit<|Sq<|Sq ?_
  refine awp_bool (t := 129) (n := 17) (X := decide (((e.refs.map encStr).length : Int) < 1) || decide (2000 < ((e.refs.map encStr).length : Int))) ?_ ?_
  ·all_goals refine Dd (fr' fo38_0) ?_
   all_goals refine Dd (l1' Tryz.isAgg3) ?_
   all_goals refine Dd eql' ?_
   all_goals refine Dd mv' ?_
   all_goals refine Sp 118 (fun h118 => ?_) fun h118 => ?_
   all_goals try contradiction
   all_goals first | refine Fo ?_ | refine On (fr' fo38_7) ?_
   all_goals first | refine Fo ?_ | refine On (l1' Tryz.isAgg33) ?_
   all_goals first | refine Fo ?_ | refine On (ll' Tryz.underlying33) ?_
   all_goals first | refine Fo ?_ | refine On lss' ?_
   all_goals first | refine Fo ?_ | refine On mv' ?_
   all_goals (first | refine Sp 123 (fun h123 => ?_) fun h123 => ?_ | refine al_dup (t := 123) rfl ?_)
   all_goals try contradiction
   all_goals first | refine Fo ?_ | refine Fu ?_ | refine On (fr' fo38_7) ?_
   all_goals first | refine Fo ?_ | refine Fu ?_ | refine On (l1' Tryz.isAgg33) ?_
   all_goals first | refine Fo ?_ | refine Fu ?_ | refine On (ll' Tryz.underlying33) ?_
   all_goals first | refine Fo ?_ | refine Fu ?_ | refine On gt' ?_
   all_goals first | refine Fo ?_ | refine On pk' ?_
   all_goals refine Dd pk' ?_
   all_goals refine al_nil ?_
   all_goals (exact ⟨⟨_, rfl, by first | (rw [h123]; rfl) | (exfalso; simp [ho] at h118; done)⟩, rfl, rfl, rfl⟩)
  refine Cn (fun hc10 => ?_) fun hc10 => ?_
  ·rw [hc10]
   refine Sq<|Rg<|Dd as'<|Zz<|awp_ret ?_
   refine Rt ?_
   exact ⟨rfl, rfl⟩
  rw [hc10, Bool.not_false, Bool.true_and]
  refine awp_skip<|Sq ?_
  refine awp_bool (t := 2) (n := 17) (X := decide ((e.val.size : Int) ≤ 200)) ?_ ?_
  ·all_goals refine Dd (fr' fo38_6) ?_
   all_goals refine Dd (l1' Tryz.isAgg9) ?_
   all_goals refine Dd (ls' Tryz.underlying9) ?_
   all_goals refine Dd le' ?_
   all_goals refine Dd mv' ?_
   all_goals refine Sp 134 (fun h134 => ?_) fun h134 => ?_
   all_goals try contradiction
   all_goals first | refine Fo ?_ | refine On (fr' fo38_0) ?_
   all_goals first | refine Fo ?_ | refine On (l1' Tryz.isAgg3) ?_
   all_goals first | refine Fo ?_ | refine On ne' ?_
   all_goals first | refine Fo ?_ | refine On mv' ?_
   all_goals (first | refine Sp 138 (fun h138 => ?_) fun h138 => ?_ | refine al_dup (t := 138) rfl ?_)
   all_goals try contradiction
   all_goals first | refine Fo ?_ | refine Fu ?_ | refine On (fr' fo38_4) ?_
   all_goals first | refine Fo ?_ | refine Fu ?_ | refine On (by exact opd_loadn_ref rfl Tryz.isAgg32 Tryz.sizeOf32 rfl rfl rfl rfl (by simp only [Zl, encTag, encObj, encStr, encEdit, zObj]; rfl) rfl) ?_
   all_goals first | refine Fo ?_ | refine Fu ?_ | refine On (by exact opr_call rfl rfl Tryz.call44 rfl (rOn_c e.x e.y _)) ?_
   all_goals first | refine Fo ?_ | refine On pk' ?_
   all_goals refine Dd pk' ?_
   all_goals refine Dd as' ?_
   all_goals refine al_nil ?_
   all_goals (exact ⟨⟨_, rfl, by (simp_all; done)⟩, rfl, rfl, rfl⟩)
  refine awp_ret ?_
  refine Rt ?_
  exact ⟨rfl, rfl⟩
 skip
 (exfalso; have h := hc5; simp [ho] at h)
theorem rValid5_c (e : GEdit) (H : Heap) (he : okE e) (ho : e.op = 5) : ACalls Tryz.prog 13 [av (encEdit e)] H (fun r H' => r = bv (gEditV e) ∧ H' = H) := by
 refine ACalls.pure ?_ (by simp) H
 rw [ed5 e ho]
 obtain ⟨⟨h1, h2, h3, h4⟩, ⟨h5, h6⟩, h7⟩ := he
 have hrl : (e.refs.map encStr).length = e.refs.length := List.length_map _
 refine Bd Tryz.func13 rfl Tryz.ntmps13<|Sq<|Rg<|Dd (by exact opd_box (id := 1) rfl rfl rfl rfl rfl)<|Dd as'<|Zz<|Sq<|Sq ?_
 refine awp_bool (t := 13) (n := 9) (X := decide (e.op < 1) || decide (7 < e.op)) ?_ ?_
 ·all_goals refine Dd (fr' fo38_0) ?_
  all_goals refine Dd (l1' Tryz.isAgg3) ?_
  all_goals refine Dd lss' ?_
  all_goals refine Dd mv' ?_
  all_goals refine Sp 9 (fun h9 => ?_) fun h9 => ?_
  all_goals try contradiction
  all_goals first | refine Fo ?_ | refine On (fr' fo38_0) ?_
  all_goals first | refine Fo ?_ | refine On (l1' Tryz.isAgg3) ?_
  all_goals first | refine Fo ?_ | refine On gt' ?_
  all_goals refine Dd pk' ?_
  all_goals refine al_nil ?_
  all_goals (exact ⟨⟨_, rfl, by first | (simp only [rb, bare5, *]; rfl) | (simp_all [rb, bare5]; done)⟩, rfl, rfl, rfl⟩)
 refine Cn (fun hc1 => ?_) fun hc1 => ?_
 ·skip
  (exfalso; have h := hc1; simp [ho] at h)
 skip
 refine awp_skip<|Sq<|Rg<|Dd (by exact opd_loadn_ref rfl Tryz.isAgg38 Tryz.sizeOf38 rfl rfl rfl rfl (by simp only [Zl, encTag, encObj, encStr, encEdit, zObj]; rfl) rfl)<|Dd (by exact opr_call rfl rfl Tryz.call41 rfl (bare5_c e _ ho))<|Dd (by exact x_alloc (id := 3) rfl zo38 rfl rfl)<|Uu (sa' Tryz.sizeOf38)<|Zz<|Sq<|Sq ?_
 refine awp_bool (t := 57) (n := 49) (X := rb (bare5 e)) ?_ ?_
 ·all_goals refine Dd (fr' fo38_1) ?_
  all_goals refine Dd (l1' Tryz.isAgg9) ?_
  all_goals refine Dd sn' ?_
  all_goals refine Dd mv' ?_
  all_goals refine Sp 19 (fun h19 => ?_) fun h19 => ?_
  all_goals try contradiction
  all_goals (refine al_ond rfl rfl rfl rfl rfl rfl (by exact opd_field_ref rfl fo38_2 rfl rfl rfl rfl) ?_)
  all_goals (refine al_ond rfl rfl rfl rfl rfl rfl (by exact opd_load1_ref rfl Tryz.isAgg9 rfl rfl rfl rfl rfl) ?_)
  all_goals (refine al_ond rfl rfl rfl rfl rfl rfl (by exact opd_sneq rfl rfl rfl) ?_)
  all_goals refine Dd pk' ?_
  all_goals refine Dd mv' ?_
  all_goals refine Sp 24 (fun h24 => ?_) fun h24 => ?_
  all_goals try contradiction
  all_goals first | refine Fo ?_ | refine On (fr' fo38_3) ?_
  all_goals first | refine Fo ?_ | refine On (l1' Tryz.isAgg9) ?_
  all_goals first | refine Fo ?_ | refine On sn' ?_
  all_goals refine Dd pk' ?_
  all_goals refine Dd mv' ?_
  all_goals refine Sp 29 (fun h29 => ?_) fun h29 => ?_
  all_goals try contradiction
  all_goals first | refine Fo ?_ | refine On (fr' fo38_4) ?_
  all_goals first | refine Fo ?_ | refine On (by exact opd_loadn_ref rfl Tryz.isAgg32 Tryz.sizeOf32 rfl rfl rfl rfl (by simp only [Zl, encTag, encObj, encStr, encEdit, zObj]; rfl) rfl) ?_
  all_goals first | refine Fo ?_ | refine On (bu' bo32) ?_
  all_goals first | refine Fo ?_ | refine On (by exact opd_aneq rfl rfl rfl rfl rfl Tryz.eqGuardType32 (se32 _ _ _ _)) ?_
  all_goals refine Dd pk' ?_
  all_goals refine Dd mv' ?_
  all_goals refine Sp 35 (fun h35 => ?_) fun h35 => ?_
  all_goals try contradiction
  all_goals first | refine Fo ?_ | refine On (fr' fo38_5) ?_
  all_goals first | refine Fo ?_ | refine On (l1' Tryz.isAgg9) ?_
  all_goals first | refine Fo ?_ | refine On sn' ?_
  all_goals refine Dd pk' ?_
  all_goals refine Dd mv' ?_
  all_goals refine Sp 40 (fun h40 => ?_) fun h40 => ?_
  all_goals try contradiction
  all_goals first | refine Fo ?_ | refine On (fr' fo38_6) ?_
  all_goals first | refine Fo ?_ | refine On (l1' Tryz.isAgg9) ?_
  all_goals first | refine Fo ?_ | refine On sn' ?_
  all_goals refine Dd pk' ?_
  all_goals refine Dd mv' ?_
  all_goals refine Sp 45 (fun h45 => ?_) fun h45 => ?_
  all_goals try contradiction
  all_goals first | refine Fo ?_ | refine On (fr' fo38_7) ?_
  all_goals first | refine Fo ?_ | refine On (l1' Tryz.isAgg33) ?_
  all_goals first | refine Fo ?_ | refine On (ll' Tryz.underlying33) ?_
  all_goals first | refine Fo ?_ | refine On gt' ?_
  all_goals refine Dd pk' ?_
  all_goals refine Dd mv' ?_
  all_goals refine Sp 51 (fun h51 => ?_) fun h51 => ?_
  all_goals try contradiction
  all_goals first | refine Fo ?_ | refine On (fr' fo38_8) ?_
  all_goals first | refine Fo ?_ | refine On (by exact opd_loadn_ref rfl Tryz.isAgg36 Tryz.sizeOf36 rfl rfl rfl rfl (by simp only [Zl, encTag, encObj, encStr, encEdit, zObj]; rfl) rfl) ?_
  all_goals first | refine Fo ?_ | refine On (bu' bo36) ?_
  all_goals first | refine Fo ?_ | refine On (by exact opr_call rfl rfl Tryz.call36 rfl (rSame_c (bare5 e).obj zObj _ h7.2.2.1 h7.2.1.1)) ?_
  all_goals first | refine Fo ?_ | refine On no' ?_
  all_goals refine Dd pk' ?_
  all_goals refine al_nil ?_
  all_goals (exact ⟨⟨_, rfl, by (simp_all [rb, bare5]; done)⟩, rfl, rfl, rfl⟩)
 refine Cn (fun hc2 => ?_) fun hc2 => ?_
 ·rw [hc2, Bool.not_true, Bool.false_and]
  refine Sq<|Rg<|Dd as'<|Zz<|awp_ret ?_
  refine Rt ?_
  exact ⟨rfl, rfl⟩
 rw [hc2, Bool.not_false, Bool.true_and]
 refine awp_skip<|Sq<|Sq<|Rg<|Dd (fr' fo38_0)<|Dd (l1' Tryz.isAgg3)<|Dd eql'<|Zz ?_
 refine Cn (fun hc3 => ?_) fun hc3 => ?_
 ·skip
  (exfalso; have h := hc3; simp [ho] at h)
 skip
 refine awp_skip<|Sq<|Rg<|Dd (fr' fo38_1)<|Dd (l1' Tryz.isAgg9)<|Dd (by exact x_buildSlice_own (id := 66) rfl so33 rfl rfl rfl rfl (by simp) rfl)<|Dd as'<|Zz<|Sq<|Sq<|Rg<|Dd (fr' fo38_0)<|Dd (l1' Tryz.isAgg3)<|Dd eql'<|Zz ?_
 refine Cn (fun hc4 => ?_) fun hc4 => ?_
 ·skip
  (exfalso; have h := hc4; simp [ho] at h)
 skip
 refine awp_skip<|Sq<|Sq<|Rg<|Dd (fr' fo38_0)<|Dd (l1' Tryz.isAgg3)<|Dd eql'<|Zz ?_
 refine Cn (fun hc5 => ?_) fun hc5 => ?_
 ·skip
  (exfalso; have h := hc5; simp [ho] at h)
 skip
 refine awp_skip<|Sq<|Sq<|Rg<|Dd (fr' fo38_0)<|Dd (l1' Tryz.isAgg3)<|Dd eql'<|Zz ?_
 refine Cn (fun hc6 => ?_) fun hc6 => ?_
 ·skip
  (exfalso; have h := hc6; simp [ho] at h)
 skip
 refine awp_skip<|Sq<|Sq ?_
 refine awp_bool (t := 97) (n := 9) (X := decide (e.op = 6) || decide (e.op = 7)) ?_ ?_
 ·all_goals refine Dd (fr' fo38_0) ?_
  all_goals refine Dd (l1' Tryz.isAgg3) ?_
  all_goals refine Dd eql' ?_
  all_goals refine Dd mv' ?_
  all_goals refine Sp 93 (fun h93 => ?_) fun h93 => ?_
  all_goals try contradiction
  all_goals first | refine Fo ?_ | refine On (fr' fo38_0) ?_
  all_goals first | refine Fo ?_ | refine On (l1' Tryz.isAgg3) ?_
  all_goals first | refine Fo ?_ | refine On eql' ?_
  all_goals refine Dd pk' ?_
  all_goals refine al_nil ?_
  all_goals (exact ⟨⟨_, rfl, by first | (simp only [*]; rfl) | (simp_all; done)⟩, rfl, rfl, rfl⟩)
 refine Cn (fun hc7 => ?_) fun hc7 => ?_
 ·skip
  (exfalso; have h := hc7; simp [ho] at h)
 skip
 refine awp_skip<|Sq<|Sq<|Rg<|Dd as'<|Zz<|awp_block ?_
 have hnl : ([e.id].map encStr).length = [e.id].length := List.length_map _
 have hnm : ∀ s ∈ [e.id], s.size < 4611686018427387904 := by
  intro s hs
  simp only [List.mem_cons, List.not_mem_nil, or_false] at hs
  rcases hs with rfl <;> assumption
 have hnn : [e.id].length < 4611686018427387904 + 2 := by
  simp only [List.length_cons, List.length_nil]; omega
 refine AWp.ent (Ent.fz (id := 66) (E' := [(1, .ref 1 0 0 0), (4, .pv (slStrs [e.id])), (5, iv 0)]) (H' := [(1, bEd e)]) ([e.id].map encStr) rfl (rows_of encStr [e.id])
  (by intro p hp; simp only [List.mem_cons, List.not_mem_nil, or_false] at hp; rcases hp with rfl | rfl | rfl; exact ⟨_, rfl, .same (.ref rfl)⟩; exact ⟨_, rfl, .osl (by rfl)⟩; exact ⟨_, rfl, .same (by simp)⟩) rfl ⟨⟨_, rfl, rfl⟩, (by (simp; done)), trivial⟩ trivial) ?_
 refine awp_loop (σ := Nat) (fun q => ([(1, .ref 1 0 0 0), (4, .pv (slStrs [e.id])), (5, iv (q : Int))], [(1, bEd e)])) (fun q => q ≤ [e.id].length ∧ ∀ j, j < q → ∀ b, [e.id][j]? = some b → (!gName b) = false) (fun q => [e.id].length - q) 0 ⟨by omega, by omega⟩ ?_ ?_
 ·exact Wk
 rintro q ⟨hq, hno⟩
 refine Sq<|Sq<|Rg<|Dd mv'<|Dd mv'<|Dd (ll' Tryz.underlying33)<|Dd lss'<|Zz ?_
 refine Cn (fun hc8 => ?_) fun hc8 => ?_
 ·have hlt : q < [e.id].length := by have := of_decide_eq_true hc8; omega
  obtain ⟨s, hs⟩ := get_of_lt hlt
  have hi := map_get (f := encStr) hs
  refine awp_skip<|Sq<|awp_block<|Sq<|Rg<|Dd mv'<|Dd mv'<|Dd (xp' so33)<|Dd (lp' Tryz.isAgg9)<|Dd (by exact opr_call rfl rfl Tryz.call43 rfl (rName_c s _ (hnm s (List.mem_of_getElem? hs))))<|Dd no'<|Zz ?_
  refine Cn (fun hc9 => ?_) fun hc9 => ?_
  ·have hall : [e.id].all gName = false := by
    rw [List.all_eq_false]
    exact ⟨s, List.mem_of_getElem? hs, by simpa using hc9⟩
   rw [hall]
   refine Sq<|Rg<|Dd as'<|Zz<|awp_ret ?_
   refine Rt ?_
   exact ⟨rfl, rfl⟩
  skip
  refine awp_skip<|Rg<|Dd mv'<|Dd ad'<|Dd as'<|Zz ?_
  exact ⟨q + 1, ⟨by omega, pre_succ hno hs hc9⟩, by omega, Wk⟩
 have hge : q = [e.id].length := by have := of_decide_eq_false hc8; omega
 subst hge
 have hall : [e.id].all gName = true := by
  rw [List.all_eq_true]
  intro s hs
  obtain ⟨j, hj⟩ := List.mem_iff_getElem?.1 hs
  have := hno j (List.getElem?_eq_some_iff.1 hj).1 s hj
  simpa using this
 rw [hall, Bool.true_and]
 have d4 : decide (e.op = 4) = false := by rw [ho]; decide
 refine awp_exit<|Sq<|Sq<|Rg<|Dd (fr' fo38_0)<|Dd (l1' Tryz.isAgg3)<|Dd eql'<|Dd mv' ?_
 refine al_off rfl rfl rfl (by assumption) rfl ?_
 refine al_off rfl rfl rfl (by assumption) rfl ?_
 refine al_off rfl rfl rfl (by assumption) rfl ?_
 refine al_off rfl rfl rfl (by assumption) rfl ?_
 refine al_off rfl rfl rfl (by assumption) rfl ?_
 refine al_offu rfl rfl rfl rfl ?_
 refine al_offu rfl rfl rfl rfl ?_
 refine al_offu rfl rfl rfl rfl ?_
 refine al_offu rfl rfl rfl rfl ?_
 refine al_off rfl rfl rfl (by assumption) rfl ?_
 refine Dd pf'<|Zz ?_
 refine Cn (fun hc10 => ?_) fun hc10 => ?_
 ·skip
  (cases hc10)
 skip
 refine awp_skip<|Sq ?_
 refine awp_bool (t := 2) (n := 17) (X := decide ((e.val.size : Int) ≤ 200)) ?_ ?_
 ·all_goals refine Dd (fr' fo38_6) ?_
  all_goals refine Dd (l1' Tryz.isAgg9) ?_
  all_goals refine Dd (ls' Tryz.underlying9) ?_
  all_goals refine Dd le' ?_
  all_goals refine Dd mv' ?_
  all_goals refine Sp 134 (fun h134 => ?_) fun h134 => ?_
  all_goals try contradiction
  all_goals first | refine Fo ?_ | refine On (fr' fo38_0) ?_
  all_goals first | refine Fo ?_ | refine On (l1' Tryz.isAgg3) ?_
  all_goals first | refine Fo ?_ | refine On ne' ?_
  all_goals first | refine Fo ?_ | refine On mv' ?_
  all_goals (first | refine Sp 138 (fun h138 => ?_) fun h138 => ?_ | refine al_dup (t := 138) rfl ?_)
  all_goals try contradiction
  all_goals first | refine Fo ?_ | refine Fu ?_ | refine On (fr' fo38_4) ?_
  all_goals first | refine Fo ?_ | refine Fu ?_ | refine On (by exact opd_loadn_ref rfl Tryz.isAgg32 Tryz.sizeOf32 rfl rfl rfl rfl (by simp only [Zl, encTag, encObj, encStr, encEdit, zObj]; rfl) rfl) ?_
  all_goals first | refine Fo ?_ | refine Fu ?_ | refine On (by exact opr_call rfl rfl Tryz.call44 rfl (rOn_c e.x e.y _)) ?_
  all_goals first | refine Fo ?_ | refine On pk' ?_
  all_goals refine Dd pk' ?_
  all_goals refine Dd as' ?_
  all_goals refine al_nil ?_
  all_goals (exact ⟨⟨_, rfl, by (simp_all; done)⟩, rfl, rfl, rfl⟩)
 refine awp_ret ?_
 refine Rt ?_
 exact ⟨rfl, rfl⟩
theorem rValid6_c (e : GEdit) (H : Heap) (he : okE e) (ho : e.op = 6) : ACalls Tryz.prog 13 [av (encEdit e)] H (fun r H' => r = bv (gEditV e) ∧ H' = H) := by
 refine ACalls.pure ?_ (by simp) H
 rw [ed6 e ho]
 obtain ⟨⟨h1, h2, h3, h4⟩, ⟨h5, h6⟩, h7⟩ := he
 have hrl : (e.refs.map encStr).length = e.refs.length := List.length_map _
 refine Bd Tryz.func13 rfl Tryz.ntmps13<|Sq<|Rg<|Dd (by exact opd_box (id := 1) rfl rfl rfl rfl rfl)<|Dd as'<|Zz<|Sq<|Sq ?_
 refine awp_bool (t := 13) (n := 9) (X := decide (e.op < 1) || decide (7 < e.op)) ?_ ?_
 ·all_goals refine Dd (fr' fo38_0) ?_
  all_goals refine Dd (l1' Tryz.isAgg3) ?_
  all_goals refine Dd lss' ?_
  all_goals refine Dd mv' ?_
  all_goals refine Sp 9 (fun h9 => ?_) fun h9 => ?_
  all_goals try contradiction
  all_goals first | refine Fo ?_ | refine On (fr' fo38_0) ?_
  all_goals first | refine Fo ?_ | refine On (l1' Tryz.isAgg3) ?_
  all_goals first | refine Fo ?_ | refine On gt' ?_
  all_goals refine Dd pk' ?_
  all_goals refine al_nil ?_
  all_goals (exact ⟨⟨_, rfl, by first | (simp only [rb, bare6, *]; rfl) | (simp_all [rb, bare6]; done)⟩, rfl, rfl, rfl⟩)
 refine Cn (fun hc1 => ?_) fun hc1 => ?_
 ·skip
  (exfalso; have h := hc1; simp [ho] at h)
 skip
 refine awp_skip<|Sq<|Rg<|Dd (by exact opd_loadn_ref rfl Tryz.isAgg38 Tryz.sizeOf38 rfl rfl rfl rfl (by simp only [Zl, encTag, encObj, encStr, encEdit, zObj]; rfl) rfl)<|Dd (by exact opr_call rfl rfl Tryz.call41 rfl (bare6_c e _ ho))<|Dd (by exact x_alloc (id := 3) rfl zo38 rfl rfl)<|Uu (sa' Tryz.sizeOf38)<|Zz<|Sq<|Sq ?_
 refine awp_bool (t := 57) (n := 49) (X := rb (bare6 e)) ?_ ?_
 ·all_goals refine Dd (fr' fo38_1) ?_
  all_goals refine Dd (l1' Tryz.isAgg9) ?_
  all_goals refine Dd sn' ?_
  all_goals refine Dd mv' ?_
  all_goals refine Sp 19 (fun h19 => ?_) fun h19 => ?_
  all_goals try contradiction
  all_goals (refine al_ond rfl rfl rfl rfl rfl rfl (by exact opd_field_ref rfl fo38_2 rfl rfl rfl rfl) ?_)
  all_goals (refine al_ond rfl rfl rfl rfl rfl rfl (by exact opd_load1_ref rfl Tryz.isAgg9 rfl rfl rfl rfl rfl) ?_)
  all_goals (refine al_ond rfl rfl rfl rfl rfl rfl (by exact opd_sneq rfl rfl rfl) ?_)
  all_goals refine Dd pk' ?_
  all_goals refine Dd mv' ?_
  all_goals refine Sp 24 (fun h24 => ?_) fun h24 => ?_
  all_goals try contradiction
  all_goals (refine al_ond rfl rfl rfl rfl rfl rfl (by exact opd_field_ref rfl fo38_3 rfl rfl rfl rfl) ?_)
  all_goals (refine al_ond rfl rfl rfl rfl rfl rfl (by exact opd_load1_ref rfl Tryz.isAgg9 rfl rfl rfl rfl rfl) ?_)
  all_goals (refine al_ond rfl rfl rfl rfl rfl rfl (by exact opd_sneq rfl rfl rfl) ?_)
  all_goals refine Dd pk' ?_
  all_goals refine Dd mv' ?_
  all_goals refine Sp 29 (fun h29 => ?_) fun h29 => ?_
  all_goals try contradiction
  all_goals (refine al_ond rfl rfl rfl rfl rfl rfl (by exact opd_field_ref rfl fo38_4 rfl rfl rfl rfl) ?_)
  all_goals (refine al_ond rfl rfl rfl rfl rfl rfl (by exact opd_loadn_ref rfl Tryz.isAgg32 Tryz.sizeOf32 rfl rfl rfl rfl (by simp only [Zl, encTag, encObj, encStr, encEdit, zObj]; rfl) rfl) ?_)
  all_goals (refine al_ond rfl rfl rfl rfl rfl rfl (by exact x_build rfl bo32 rfl rfl) ?_)
  all_goals (refine al_ond rfl rfl rfl rfl rfl rfl (by exact opd_aneq rfl rfl rfl rfl rfl Tryz.eqGuardType32 (se32 _ _ _ _)) ?_)
  all_goals refine Dd pk' ?_
  all_goals refine Dd mv' ?_
  all_goals refine Sp 35 (fun h35 => ?_) fun h35 => ?_
  all_goals try contradiction
  all_goals first | refine Fo ?_ | refine On (fr' fo38_5) ?_
  all_goals first | refine Fo ?_ | refine On (l1' Tryz.isAgg9) ?_
  all_goals first | refine Fo ?_ | refine On sn' ?_
  all_goals refine Dd pk' ?_
  all_goals refine Dd mv' ?_
  all_goals refine Sp 40 (fun h40 => ?_) fun h40 => ?_
  all_goals try contradiction
  all_goals first | refine Fo ?_ | refine On (fr' fo38_6) ?_
  all_goals first | refine Fo ?_ | refine On (l1' Tryz.isAgg9) ?_
  all_goals first | refine Fo ?_ | refine On sn' ?_
  all_goals refine Dd pk' ?_
  all_goals refine Dd mv' ?_
  all_goals refine Sp 45 (fun h45 => ?_) fun h45 => ?_
  all_goals try contradiction
  all_goals first | refine Fo ?_ | refine On (fr' fo38_7) ?_
  all_goals first | refine Fo ?_ | refine On (l1' Tryz.isAgg33) ?_
  all_goals first | refine Fo ?_ | refine On (ll' Tryz.underlying33) ?_
  all_goals first | refine Fo ?_ | refine On gt' ?_
  all_goals refine Dd pk' ?_
  all_goals refine Dd mv' ?_
  all_goals refine Sp 51 (fun h51 => ?_) fun h51 => ?_
  all_goals try contradiction
  all_goals first | refine Fo ?_ | refine On (fr' fo38_8) ?_
  all_goals first | refine Fo ?_ | refine On (by exact opd_loadn_ref rfl Tryz.isAgg36 Tryz.sizeOf36 rfl rfl rfl rfl (by simp only [Zl, encTag, encObj, encStr, encEdit, zObj]; rfl) rfl) ?_
  all_goals first | refine Fo ?_ | refine On (bu' bo36) ?_
  all_goals first | refine Fo ?_ | refine On (by exact opr_call rfl rfl Tryz.call36 rfl (rSame_c (bare6 e).obj zObj _ h7.2.2.1 h7.2.1.1)) ?_
  all_goals first | refine Fo ?_ | refine On no' ?_
  all_goals refine Dd pk' ?_
  all_goals refine al_nil ?_
  all_goals (exact ⟨⟨_, rfl, by (simp_all [rb, bare6]; done)⟩, rfl, rfl, rfl⟩)
 refine Cn (fun hc2 => ?_) fun hc2 => ?_
 ·rw [hc2, Bool.not_true, Bool.false_and]
  refine Sq<|Rg<|Dd as'<|Zz<|awp_ret ?_
  refine Rt ?_
  exact ⟨rfl, rfl⟩
 rw [hc2, Bool.not_false, Bool.true_and]
 refine awp_skip<|Sq<|Sq<|Rg<|Dd (fr' fo38_0)<|Dd (l1' Tryz.isAgg3)<|Dd eql'<|Zz ?_
 refine Cn (fun hc3 => ?_) fun hc3 => ?_
 ·skip
  (exfalso; have h := hc3; simp [ho] at h)
 skip
 refine awp_skip<|Sq<|Rg<|Dd (fr' fo38_1)<|Dd (l1' Tryz.isAgg9)<|Dd (by exact x_buildSlice_own (id := 66) rfl so33 rfl rfl rfl rfl (by simp) rfl)<|Dd as'<|Zz<|Sq<|Sq<|Rg<|Dd (fr' fo38_0)<|Dd (l1' Tryz.isAgg3)<|Dd eql'<|Zz ?_
 refine Cn (fun hc4 => ?_) fun hc4 => ?_
 ·skip
  (exfalso; have h := hc4; simp [ho] at h)
 skip
 refine awp_skip<|Sq<|Sq<|Rg<|Dd (fr' fo38_0)<|Dd (l1' Tryz.isAgg3)<|Dd eql'<|Zz ?_
 refine Cn (fun hc5 => ?_) fun hc5 => ?_
 ·skip
  (exfalso; have h := hc5; simp [ho] at h)
 skip
 refine awp_skip<|Sq<|Sq<|Rg<|Dd (fr' fo38_0)<|Dd (l1' Tryz.isAgg3)<|Dd eql'<|Zz ?_
 refine Cn (fun hc6 => ?_) fun hc6 => ?_
 ·skip
  refine Rg<|Dd mv'<|Dd (fr' fo38_3)<|Dd (l1' Tryz.isAgg9)<|Dd (by exact x_buildSlice [encStr e.node] rfl so33 rfl rfl rfl rfl rfl (by simp [encStr]))<|Dd (by exact x_append rfl so33 ei9 rfl rfl rfl rfl rfl (rfl : _ = 1) rfl (by simp [encStr]) (rfl : _ = 1) (by omega) (rfl : _ = 2) (rfl : _ = strRows [e.id, e.node]))<|Dd as'<|Zz<|Sq<|Sq ?_
  refine awp_bool (t := 97) (n := 9) (X := decide (e.op = 6) || decide (e.op = 7)) ?_ ?_
  ·all_goals refine Dd (fr' fo38_0) ?_
   all_goals refine Dd (l1' Tryz.isAgg3) ?_
   all_goals refine Dd eql' ?_
   all_goals refine Dd mv' ?_
   all_goals refine Sp 93 (fun h93 => ?_) fun h93 => ?_
   all_goals try contradiction
   all_goals first | refine Fo ?_ | refine On (fr' fo38_0) ?_
   all_goals first | refine Fo ?_ | refine On (l1' Tryz.isAgg3) ?_
   all_goals first | refine Fo ?_ | refine On eql' ?_
   all_goals refine Dd pk' ?_
   all_goals refine al_nil ?_
   all_goals (exact ⟨⟨_, rfl, by first | (simp only [*]; rfl) | (simp_all; done)⟩, rfl, rfl, rfl⟩)
  refine Cn (fun hc7 => ?_) fun hc7 => ?_
  ·skip
   refine Rg<|Dd mv'<|Dd (fr' fo38_2)<|Dd (l1' Tryz.isAgg9)<|Dd (by exact x_buildSlice [encStr e.other] rfl so33 rfl rfl rfl rfl rfl (by simp [encStr]))<|Dd (by exact x_append rfl so33 ei9 rfl rfl rfl rfl rfl (rfl : _ = 2) rfl (by simp [encStr]) (rfl : _ = 1) (by omega) (rfl : _ = 3) (rfl : _ = strRows [e.id, e.node, e.other]))<|Dd as'<|Zz<|Sq<|Sq<|Rg<|Dd as'<|Zz<|awp_block ?_
   have hnl : ([e.id, e.node, e.other].map encStr).length = [e.id, e.node, e.other].length := List.length_map _
   have hnm : ∀ s ∈ [e.id, e.node, e.other], s.size < 4611686018427387904 := by
    intro s hs
    simp only [List.mem_cons, List.not_mem_nil, or_false] at hs
    rcases hs with rfl | rfl | rfl <;> assumption
   have hnn : [e.id, e.node, e.other].length < 4611686018427387904 + 2 := by
    simp only [List.length_cons, List.length_nil]; omega
   refine AWp.ent (Ent.fz (id := 66) (E' := [(1, .ref 1 0 0 0), (4, .pv (slStrs [e.id, e.node, e.other])), (5, iv 0)]) (H' := [(1, bEd e)]) ([e.id, e.node, e.other].map encStr) rfl (rows_of encStr [e.id, e.node, e.other])
    (by intro p hp; simp only [List.mem_cons, List.not_mem_nil, or_false] at hp; rcases hp with rfl | rfl | rfl; exact ⟨_, rfl, .same (.ref rfl)⟩; exact ⟨_, rfl, .osl (by rfl)⟩; exact ⟨_, rfl, .same (by simp)⟩) rfl ⟨⟨_, rfl, rfl⟩, (by (simp; done)), trivial⟩ trivial) ?_
   refine awp_loop (σ := Nat) (fun q => ([(1, .ref 1 0 0 0), (4, .pv (slStrs [e.id, e.node, e.other])), (5, iv (q : Int))], [(1, bEd e)])) (fun q => q ≤ [e.id, e.node, e.other].length ∧ ∀ j, j < q → ∀ b, [e.id, e.node, e.other][j]? = some b → (!gName b) = false) (fun q => [e.id, e.node, e.other].length - q) 0 ⟨by omega, by omega⟩ ?_ ?_
   ·exact Wk
   rintro q ⟨hq, hno⟩
   refine Sq<|Sq<|Rg<|Dd mv'<|Dd mv'<|Dd (ll' Tryz.underlying33)<|Dd lss'<|Zz ?_
   refine Cn (fun hc8 => ?_) fun hc8 => ?_
   ·have hlt : q < [e.id, e.node, e.other].length := by have := of_decide_eq_true hc8; omega
    obtain ⟨s, hs⟩ := get_of_lt hlt
    have hi := map_get (f := encStr) hs
    refine awp_skip<|Sq<|awp_block<|Sq<|Rg<|Dd mv'<|Dd mv'<|Dd (xp' so33)<|Dd (lp' Tryz.isAgg9)<|Dd (by exact opr_call rfl rfl Tryz.call43 rfl (rName_c s _ (hnm s (List.mem_of_getElem? hs))))<|Dd no'<|Zz ?_
    refine Cn (fun hc9 => ?_) fun hc9 => ?_
    ·have hall : [e.id, e.node, e.other].all gName = false := by
      rw [List.all_eq_false]
      exact ⟨s, List.mem_of_getElem? hs, by simpa using hc9⟩
     rw [hall]
     refine Sq<|Rg<|Dd as'<|Zz<|awp_ret ?_
     refine Rt ?_
     exact ⟨rfl, rfl⟩
    skip
    refine awp_skip<|Rg<|Dd mv'<|Dd ad'<|Dd as'<|Zz ?_
    exact ⟨q + 1, ⟨by omega, pre_succ hno hs hc9⟩, by omega, Wk⟩
   have hge : q = [e.id, e.node, e.other].length := by have := of_decide_eq_false hc8; omega
   subst hge
   have hall : [e.id, e.node, e.other].all gName = true := by
    rw [List.all_eq_true]
    intro s hs
    obtain ⟨j, hj⟩ := List.mem_iff_getElem?.1 hs
    have := hno j (List.getElem?_eq_some_iff.1 hj).1 s hj
    simpa using this
   rw [hall, Bool.true_and]
   have d4 : decide (e.op = 4) = false := by rw [ho]; decide
   refine awp_exit<|Sq<|Sq<|Rg<|Dd (fr' fo38_0)<|Dd (l1' Tryz.isAgg3)<|Dd eql'<|Dd mv' ?_
   refine al_off rfl rfl rfl (by assumption) rfl ?_
   refine al_off rfl rfl rfl (by assumption) rfl ?_
   refine al_off rfl rfl rfl (by assumption) rfl ?_
   refine al_off rfl rfl rfl (by assumption) rfl ?_
   refine al_off rfl rfl rfl (by assumption) rfl ?_
   refine al_offu rfl rfl rfl rfl ?_
   refine al_offu rfl rfl rfl rfl ?_
   refine al_offu rfl rfl rfl rfl ?_
   refine al_offu rfl rfl rfl rfl ?_
   refine al_off rfl rfl rfl (by assumption) rfl ?_
   refine Dd pf'<|Zz ?_
   refine Cn (fun hc10 => ?_) fun hc10 => ?_
   ·skip
    (cases hc10)
   skip
   refine awp_skip<|Sq ?_
   refine awp_bool (t := 2) (n := 17) (X := decide ((e.val.size : Int) ≤ 200)) ?_ ?_
   ·all_goals refine Dd (fr' fo38_6) ?_
    all_goals refine Dd (l1' Tryz.isAgg9) ?_
    all_goals refine Dd (ls' Tryz.underlying9) ?_
    all_goals refine Dd le' ?_
    all_goals refine Dd mv' ?_
    all_goals refine Sp 134 (fun h134 => ?_) fun h134 => ?_
    all_goals try contradiction
    all_goals first | refine Fo ?_ | refine On (fr' fo38_0) ?_
    all_goals first | refine Fo ?_ | refine On (l1' Tryz.isAgg3) ?_
    all_goals first | refine Fo ?_ | refine On ne' ?_
    all_goals first | refine Fo ?_ | refine On mv' ?_
    all_goals (first | refine Sp 138 (fun h138 => ?_) fun h138 => ?_ | refine al_dup (t := 138) rfl ?_)
    all_goals try contradiction
    all_goals first | refine Fo ?_ | refine Fu ?_ | refine On (fr' fo38_4) ?_
    all_goals first | refine Fo ?_ | refine Fu ?_ | refine On (by exact opd_loadn_ref rfl Tryz.isAgg32 Tryz.sizeOf32 rfl rfl rfl rfl (by simp only [Zl, encTag, encObj, encStr, encEdit, zObj]; rfl) rfl) ?_
    all_goals first | refine Fo ?_ | refine Fu ?_ | refine On (by exact opr_call rfl rfl Tryz.call44 rfl (rOn_c e.x e.y _)) ?_
    all_goals first | refine Fo ?_ | refine On pk' ?_
    all_goals refine Dd pk' ?_
    all_goals refine Dd as' ?_
    all_goals refine al_nil ?_
    all_goals (exact ⟨⟨_, rfl, by (simp_all; done)⟩, rfl, rfl, rfl⟩)
   refine awp_ret ?_
   refine Rt ?_
   exact ⟨rfl, rfl⟩
  skip
  (exfalso; have h := hc7; simp [ho] at h)
 skip
 (exfalso; have h := hc6; simp [ho] at h)
theorem rValid7_c (e : GEdit) (H : Heap) (he : okE e) (ho : e.op = 7) : ACalls Tryz.prog 13 [av (encEdit e)] H (fun r H' => r = bv (gEditV e) ∧ H' = H) := by
 refine ACalls.pure ?_ (by simp) H
 rw [ed7 e ho]
 obtain ⟨⟨h1, h2, h3, h4⟩, ⟨h5, h6⟩, h7⟩ := he
 have hrl : (e.refs.map encStr).length = e.refs.length := List.length_map _
 refine Bd Tryz.func13 rfl Tryz.ntmps13<|Sq<|Rg<|Dd (by exact opd_box (id := 1) rfl rfl rfl rfl rfl)<|Dd as'<|Zz<|Sq<|Sq ?_
 refine awp_bool (t := 13) (n := 9) (X := decide (e.op < 1) || decide (7 < e.op)) ?_ ?_
 ·all_goals refine Dd (fr' fo38_0) ?_
  all_goals refine Dd (l1' Tryz.isAgg3) ?_
  all_goals refine Dd lss' ?_
  all_goals refine Dd mv' ?_
  all_goals refine Sp 9 (fun h9 => ?_) fun h9 => ?_
  all_goals try contradiction
  all_goals first | refine Fo ?_ | refine On (fr' fo38_0) ?_
  all_goals first | refine Fo ?_ | refine On (l1' Tryz.isAgg3) ?_
  all_goals first | refine Fo ?_ | refine On gt' ?_
  all_goals refine Dd pk' ?_
  all_goals refine al_nil ?_
  all_goals (exact ⟨⟨_, rfl, by first | (simp only [rb, bare7, *]; rfl) | (simp_all [rb, bare7]; done)⟩, rfl, rfl, rfl⟩)
 refine Cn (fun hc1 => ?_) fun hc1 => ?_
 ·skip
  (exfalso; have h := hc1; simp [ho] at h)
 skip
 refine awp_skip<|Sq<|Rg<|Dd (by exact opd_loadn_ref rfl Tryz.isAgg38 Tryz.sizeOf38 rfl rfl rfl rfl (by simp only [Zl, encTag, encObj, encStr, encEdit, zObj]; rfl) rfl)<|Dd (by exact opr_call rfl rfl Tryz.call41 rfl (bare7_c e _ ho))<|Dd (by exact x_alloc (id := 3) rfl zo38 rfl rfl)<|Uu (sa' Tryz.sizeOf38)<|Zz<|Sq<|Sq ?_
 refine awp_bool (t := 57) (n := 49) (X := rb (bare7 e)) ?_ ?_
 ·all_goals refine Dd (fr' fo38_1) ?_
  all_goals refine Dd (l1' Tryz.isAgg9) ?_
  all_goals refine Dd sn' ?_
  all_goals refine Dd mv' ?_
  all_goals refine Sp 19 (fun h19 => ?_) fun h19 => ?_
  all_goals try contradiction
  all_goals (refine al_ond rfl rfl rfl rfl rfl rfl (by exact opd_field_ref rfl fo38_2 rfl rfl rfl rfl) ?_)
  all_goals (refine al_ond rfl rfl rfl rfl rfl rfl (by exact opd_load1_ref rfl Tryz.isAgg9 rfl rfl rfl rfl rfl) ?_)
  all_goals (refine al_ond rfl rfl rfl rfl rfl rfl (by exact opd_sneq rfl rfl rfl) ?_)
  all_goals refine Dd pk' ?_
  all_goals refine Dd mv' ?_
  all_goals refine Sp 24 (fun h24 => ?_) fun h24 => ?_
  all_goals try contradiction
  all_goals (refine al_ond rfl rfl rfl rfl rfl rfl (by exact opd_field_ref rfl fo38_3 rfl rfl rfl rfl) ?_)
  all_goals (refine al_ond rfl rfl rfl rfl rfl rfl (by exact opd_load1_ref rfl Tryz.isAgg9 rfl rfl rfl rfl rfl) ?_)
  all_goals (refine al_ond rfl rfl rfl rfl rfl rfl (by exact opd_sneq rfl rfl rfl) ?_)
  all_goals refine Dd pk' ?_
  all_goals refine Dd mv' ?_
  all_goals refine Sp 29 (fun h29 => ?_) fun h29 => ?_
  all_goals try contradiction
  all_goals first | refine Fo ?_ | refine On (fr' fo38_4) ?_
  all_goals first | refine Fo ?_ | refine On (by exact opd_loadn_ref rfl Tryz.isAgg32 Tryz.sizeOf32 rfl rfl rfl rfl (by simp only [Zl, encTag, encObj, encStr, encEdit, zObj]; rfl) rfl) ?_
  all_goals first | refine Fo ?_ | refine On (bu' bo32) ?_
  all_goals first | refine Fo ?_ | refine On (by exact opd_aneq rfl rfl rfl rfl rfl Tryz.eqGuardType32 (se32 _ _ _ _)) ?_
  all_goals refine Dd pk' ?_
  all_goals refine Dd mv' ?_
  all_goals refine Sp 35 (fun h35 => ?_) fun h35 => ?_
  all_goals try contradiction
  all_goals first | refine Fo ?_ | refine On (fr' fo38_5) ?_
  all_goals first | refine Fo ?_ | refine On (l1' Tryz.isAgg9) ?_
  all_goals first | refine Fo ?_ | refine On sn' ?_
  all_goals refine Dd pk' ?_
  all_goals refine Dd mv' ?_
  all_goals refine Sp 40 (fun h40 => ?_) fun h40 => ?_
  all_goals try contradiction
  all_goals first | refine Fo ?_ | refine On (fr' fo38_6) ?_
  all_goals first | refine Fo ?_ | refine On (l1' Tryz.isAgg9) ?_
  all_goals first | refine Fo ?_ | refine On sn' ?_
  all_goals refine Dd pk' ?_
  all_goals refine Dd mv' ?_
  all_goals refine Sp 45 (fun h45 => ?_) fun h45 => ?_
  all_goals try contradiction
  all_goals first | refine Fo ?_ | refine On (fr' fo38_7) ?_
  all_goals first | refine Fo ?_ | refine On (l1' Tryz.isAgg33) ?_
  all_goals first | refine Fo ?_ | refine On (ll' Tryz.underlying33) ?_
  all_goals first | refine Fo ?_ | refine On gt' ?_
  all_goals refine Dd pk' ?_
  all_goals refine Dd mv' ?_
  all_goals refine Sp 51 (fun h51 => ?_) fun h51 => ?_
  all_goals try contradiction
  all_goals first | refine Fo ?_ | refine On (fr' fo38_8) ?_
  all_goals first | refine Fo ?_ | refine On (by exact opd_loadn_ref rfl Tryz.isAgg36 Tryz.sizeOf36 rfl rfl rfl rfl (by simp only [Zl, encTag, encObj, encStr, encEdit, zObj]; rfl) rfl) ?_
  all_goals first | refine Fo ?_ | refine On (bu' bo36) ?_
  all_goals first | refine Fo ?_ | refine On (by exact opr_call rfl rfl Tryz.call36 rfl (rSame_c (bare7 e).obj zObj _ h7.2.2.1 h7.2.1.1)) ?_
  all_goals first | refine Fo ?_ | refine On no' ?_
  all_goals refine Dd pk' ?_
  all_goals refine al_nil ?_
  all_goals (exact ⟨⟨_, rfl, by (simp_all [rb, bare7]; done)⟩, rfl, rfl, rfl⟩)
 refine Cn (fun hc2 => ?_) fun hc2 => ?_
 ·rw [hc2, Bool.not_true, Bool.false_and]
  refine Sq<|Rg<|Dd as'<|Zz<|awp_ret ?_
  refine Rt ?_
  exact ⟨rfl, rfl⟩
 rw [hc2, Bool.not_false, Bool.true_and]
 refine awp_skip<|Sq<|Sq<|Rg<|Dd (fr' fo38_0)<|Dd (l1' Tryz.isAgg3)<|Dd eql'<|Zz ?_
 refine Cn (fun hc3 => ?_) fun hc3 => ?_
 ·skip
  (exfalso; have h := hc3; simp [ho] at h)
 skip
 refine awp_skip<|Sq<|Rg<|Dd (fr' fo38_1)<|Dd (l1' Tryz.isAgg9)<|Dd (by exact x_buildSlice_own (id := 66) rfl so33 rfl rfl rfl rfl (by simp) rfl)<|Dd as'<|Zz<|Sq<|Sq<|Rg<|Dd (fr' fo38_0)<|Dd (l1' Tryz.isAgg3)<|Dd eql'<|Zz ?_
 refine Cn (fun hc4 => ?_) fun hc4 => ?_
 ·skip
  (exfalso; have h := hc4; simp [ho] at h)
 skip
 refine awp_skip<|Sq<|Sq<|Rg<|Dd (fr' fo38_0)<|Dd (l1' Tryz.isAgg3)<|Dd eql'<|Zz ?_
 refine Cn (fun hc5 => ?_) fun hc5 => ?_
 ·skip
  (exfalso; have h := hc5; simp [ho] at h)
 skip
 refine awp_skip<|Sq<|Sq<|Rg<|Dd (fr' fo38_0)<|Dd (l1' Tryz.isAgg3)<|Dd eql'<|Zz ?_
 refine Cn (fun hc6 => ?_) fun hc6 => ?_
 ·skip
  (exfalso; have h := hc6; simp [ho] at h)
 skip
 refine awp_skip<|Sq<|Sq ?_
 refine awp_bool (t := 97) (n := 9) (X := decide (e.op = 6) || decide (e.op = 7)) ?_ ?_
 ·all_goals refine Dd (fr' fo38_0) ?_
  all_goals refine Dd (l1' Tryz.isAgg3) ?_
  all_goals refine Dd eql' ?_
  all_goals refine Dd mv' ?_
  all_goals refine Sp 93 (fun h93 => ?_) fun h93 => ?_
  all_goals try contradiction
  all_goals first | refine Fo ?_ | refine On (fr' fo38_0) ?_
  all_goals first | refine Fo ?_ | refine On (l1' Tryz.isAgg3) ?_
  all_goals first | refine Fo ?_ | refine On eql' ?_
  all_goals refine Dd pk' ?_
  all_goals refine al_nil ?_
  all_goals (exact ⟨⟨_, rfl, by (simp only [*]; rfl)⟩, rfl, rfl, rfl⟩)
 refine Cn (fun hc7 => ?_) fun hc7 => ?_
 ·skip
  refine Rg<|Dd mv'<|Dd (fr' fo38_2)<|Dd (l1' Tryz.isAgg9)<|Dd (by exact x_buildSlice [encStr e.other] rfl so33 rfl rfl rfl rfl rfl (by simp [encStr]))<|Dd (by exact x_append rfl so33 ei9 rfl rfl rfl rfl rfl (rfl : _ = 1) rfl (by simp [encStr]) (rfl : _ = 1) (by omega) (rfl : _ = 2) (rfl : _ = strRows [e.id, e.other]))<|Dd as'<|Zz<|Sq<|Sq<|Rg<|Dd as'<|Zz<|awp_block ?_
  have hnl : ([e.id, e.other].map encStr).length = [e.id, e.other].length := List.length_map _
  have hnm : ∀ s ∈ [e.id, e.other], s.size < 4611686018427387904 := by
   intro s hs
   simp only [List.mem_cons, List.not_mem_nil, or_false] at hs
   rcases hs with rfl | rfl <;> assumption
  have hnn : [e.id, e.other].length < 4611686018427387904 + 2 := by
   simp only [List.length_cons, List.length_nil]; omega
  refine AWp.ent (Ent.fz (id := 66) (E' := [(1, .ref 1 0 0 0), (4, .pv (slStrs [e.id, e.other])), (5, iv 0)]) (H' := [(1, bEd e)]) ([e.id, e.other].map encStr) rfl (rows_of encStr [e.id, e.other])
   (by intro p hp; simp only [List.mem_cons, List.not_mem_nil, or_false] at hp; rcases hp with rfl | rfl | rfl; exact ⟨_, rfl, .same (.ref rfl)⟩; exact ⟨_, rfl, .osl (by rfl)⟩; exact ⟨_, rfl, .same (by simp)⟩) rfl ⟨⟨_, rfl, rfl⟩, (by (simp; done)), trivial⟩ trivial) ?_
  refine awp_loop (σ := Nat) (fun q => ([(1, .ref 1 0 0 0), (4, .pv (slStrs [e.id, e.other])), (5, iv (q : Int))], [(1, bEd e)])) (fun q => q ≤ [e.id, e.other].length ∧ ∀ j, j < q → ∀ b, [e.id, e.other][j]? = some b → (!gName b) = false) (fun q => [e.id, e.other].length - q) 0 ⟨by omega, by omega⟩ ?_ ?_
  ·exact Wk
  rintro q ⟨hq, hno⟩
  refine Sq<|Sq<|Rg<|Dd mv'<|Dd mv'<|Dd (ll' Tryz.underlying33)<|Dd lss'<|Zz ?_
  refine Cn (fun hc8 => ?_) fun hc8 => ?_
  ·have hlt : q < [e.id, e.other].length := by have := of_decide_eq_true hc8; omega
   obtain ⟨s, hs⟩ := get_of_lt hlt
   have hi := map_get (f := encStr) hs
   refine awp_skip<|Sq<|awp_block<|Sq<|Rg<|Dd mv'<|Dd mv'<|Dd (xp' so33)<|Dd (lp' Tryz.isAgg9)<|Dd (by exact opr_call rfl rfl Tryz.call43 rfl (rName_c s _ (hnm s (List.mem_of_getElem? hs))))<|Dd no'<|Zz ?_
   refine Cn (fun hc9 => ?_) fun hc9 => ?_
   ·have hall : [e.id, e.other].all gName = false := by
     rw [List.all_eq_false]
     exact ⟨s, List.mem_of_getElem? hs, by simpa using hc9⟩
    rw [hall]
    refine Sq<|Rg<|Dd as'<|Zz<|awp_ret ?_
    refine Rt ?_
    exact ⟨rfl, rfl⟩
   skip
   refine awp_skip<|Rg<|Dd mv'<|Dd ad'<|Dd as'<|Zz ?_
   exact ⟨q + 1, ⟨by omega, pre_succ hno hs hc9⟩, by omega, Wk⟩
  have hge : q = [e.id, e.other].length := by have := of_decide_eq_false hc8; omega
  subst hge
  have hall : [e.id, e.other].all gName = true := by
   rw [List.all_eq_true]
   intro s hs
   obtain ⟨j, hj⟩ := List.mem_iff_getElem?.1 hs
   have := hno j (List.getElem?_eq_some_iff.1 hj).1 s hj
   simpa using this
  rw [hall, Bool.true_and]
  have d4 : decide (e.op = 4) = false := by rw [ho]; decide
  refine awp_exit<|Sq<|Sq<|Rg<|Dd (fr' fo38_0)<|Dd (l1' Tryz.isAgg3)<|Dd eql'<|Dd mv' ?_
  refine al_off rfl rfl rfl (by assumption) rfl ?_
  refine al_off rfl rfl rfl (by assumption) rfl ?_
  refine al_off rfl rfl rfl (by assumption) rfl ?_
  refine al_off rfl rfl rfl (by assumption) rfl ?_
  refine al_off rfl rfl rfl (by assumption) rfl ?_
  refine al_offu rfl rfl rfl rfl ?_
  refine al_offu rfl rfl rfl rfl ?_
  refine al_offu rfl rfl rfl rfl ?_
  refine al_offu rfl rfl rfl rfl ?_
  refine al_off rfl rfl rfl (by assumption) rfl ?_
  refine Dd pf'<|Zz ?_
  refine Cn (fun hc10 => ?_) fun hc10 => ?_
  ·skip
   (cases hc10)
  skip
  refine awp_skip<|Sq ?_
  refine awp_bool (t := 2) (n := 17) (X := decide ((e.val.size : Int) ≤ 200)) ?_ ?_
  ·all_goals refine Dd (fr' fo38_6) ?_
   all_goals refine Dd (l1' Tryz.isAgg9) ?_
   all_goals refine Dd (ls' Tryz.underlying9) ?_
   all_goals refine Dd le' ?_
   all_goals refine Dd mv' ?_
   all_goals refine Sp 134 (fun h134 => ?_) fun h134 => ?_
   all_goals try contradiction
   all_goals first | refine Fo ?_ | refine On (fr' fo38_0) ?_
   all_goals first | refine Fo ?_ | refine On (l1' Tryz.isAgg3) ?_
   all_goals first | refine Fo ?_ | refine On ne' ?_
   all_goals first | refine Fo ?_ | refine On mv' ?_
   all_goals (first | refine Sp 138 (fun h138 => ?_) fun h138 => ?_ | refine al_dup (t := 138) rfl ?_)
   all_goals try contradiction
   all_goals first | refine Fo ?_ | refine Fu ?_ | refine On (fr' fo38_4) ?_
   all_goals first | refine Fo ?_ | refine Fu ?_ | refine On (by exact opd_loadn_ref rfl Tryz.isAgg32 Tryz.sizeOf32 rfl rfl rfl rfl (by simp only [Zl, encTag, encObj, encStr, encEdit, zObj]; rfl) rfl) ?_
   all_goals first | refine Fo ?_ | refine Fu ?_ | refine On (by exact opr_call rfl rfl Tryz.call44 rfl (rOn_c e.x e.y _)) ?_
   all_goals first | refine Fo ?_ | refine On pk' ?_
   all_goals refine Dd pk' ?_
   all_goals refine Dd as' ?_
   all_goals refine al_nil ?_
   all_goals (exact ⟨⟨_, rfl, by (simp_all; done)⟩, rfl, rfl, rfl⟩)
  refine awp_ret ?_
  refine Rt ?_
  exact ⟨rfl, rfl⟩
 skip
 (exfalso; have h := hc7; simp [ho] at h)
theorem rValidE_c (e : GEdit) (H : Heap) (he : okE e) (hr : e.refs.length < 1099511627776) : ACalls Tryz.prog 13 [av (encEdit e)] H (fun r H' => r = bv (gEditV e) ∧ H' = H) := by
 by_cases hk : 1 ≤ e.op ∧ e.op ≤ 7
 ·rcases (by omega : e.op = 1 ∨ e.op = 2 ∨ e.op = 3 ∨ e.op = 4 ∨ e.op = 5 ∨ e.op = 6 ∨ e.op = 7) with h | h | h | h | h | h | h
  ·exact rValid1_c e H he h
  ·exact rValid2_c e H he h
  ·exact rValid3_c e H he h
  ·exact rValid4_c e H he hr h
  ·exact rValid5_c e H he h
  ·exact rValid6_c e H he h
  exact rValid7_c e H he h
 refine ACalls.pure ?_ (by simp) H
 have hs : gEditV e = false := by
  rw [gEditV, Bool.and_eq_false_iff, Bool.and_eq_false_iff, decide_eq_false_iff_not, decide_eq_false_iff_not]
  omega
 refine Bd Tryz.func13 rfl Tryz.ntmps13<|Sq<|Rg<|Dd (by exact opd_box (id := 1) rfl rfl rfl rfl rfl)<|Dd as'<|Zz<|Sq<|Sq ?_
 refine awp_bool (t := 13) (n := 9) (X := decide (e.op < 1) || decide (7 < e.op)) ?_ ?_
 ·all_goals refine Dd (fr' fo38_0) ?_
  all_goals refine Dd (l1' Tryz.isAgg3) ?_
  all_goals refine Dd lss' ?_
  all_goals refine Dd mv' ?_
  all_goals refine Sp 9 (fun h9 => ?_) fun h9 => ?_
  all_goals try contradiction
  all_goals first | refine Fo ?_ | refine On (fr' fo38_0) ?_
  all_goals first | refine Fo ?_ | refine On (l1' Tryz.isAgg3) ?_
  all_goals first | refine Fo ?_ | refine On gt' ?_
  all_goals refine Dd pk' ?_
  all_goals refine al_nil ?_
  all_goals (exact ⟨⟨_, rfl, by (simp only [*, Zo]; done)⟩, rfl, rfl, rfl⟩)
 refine Cn (fun hc1 => ?_) fun hc1 => ?_
 ·skip
  refine Sq<|Rg<|Dd as'<|Zz<|awp_ret ?_
  refine Rt ?_
  exact ⟨by rw [hs], rfl⟩
 exfalso
 simp only [Bool.or_eq_false_iff, decide_eq_false_iff_not] at hc1
 omega
end Go.Proofs.YtbbnllojhjlaoaaGreat
end
section
set_option linter.unusedVariables false
set_option linter.unusedSimpArgs false
namespace Go.Abs
def SubG (H' H : Heap) : Prop := ∀ j o', H'.get j = some o' → ∃ o, H.get j = some o ∧ o'.g = o.g ∧ o'.sz = o.sz ∧ o'.rows.length = o.rows.length
theorem VRel.restrictG {w : World} {I : Nat → Prop} {ι : Plc} {H H' : Heap} (hs : SubG H' H) {v : Value} {a : AV} (h : VRel w I ι H v a) : Clo H' a → VRel w I ι H' v a := by
  induction h with
  | any v => exact fun _ => .any v
  | pv h => exact fun _ => .pv h
  | ref o h1 h2 h3 h4 =>
    intro hc
    cases hc with
    | ref hc =>
      obtain ⟨o', ho'⟩ := Option.isSome_iff_exists.1 hc
      obtain ⟨o2, e1, e2, e3, e4⟩ := hs _ _ ho'
      rw [h1] at e1; cases e1
      exact .ref o' ho' (by omega) h3 (fun hg => by rw [e3]; exact h4 (by omega))
  | pad b off cap sz h1 h2 h3 cs h4 h5 h6 => exact fun _ => .pad b off cap sz h1 h2 h3 cs h4 h5 h6
  | osl o h1 h2 h3 h4 =>
    intro hc
    cases hc with
    | osl hc =>
      obtain ⟨o', ho'⟩ := Option.isSome_iff_exists.1 hc
      obtain ⟨o2, e1, e2, e3, e4⟩ := hs _ _ ho'
      rw [h1] at e1; cases e1
      exact .osl o' ho' (by omega) h3 (fun hg => by rw [e3, e4]; exact h4 (by omega))
  | clo hl h ih =>
    intro hc
    cases hc with | clo hc => exact .clo hl fun i v a hv ha => ih i v a hv ha (hc a (List.mem_of_getElem? ha))
  | agg hl h1 h ih =>
    intro hc
    cases hc with | agg hc => exact .agg hl h1 fun i v a hv ha => ih i v a hv ha (hc a (List.mem_of_getElem? ha))
  | tup hl h ih =>
    intro hc
    cases hc with | tup hc => exact .tup hl fun i v a hv ha => ih i v a hv ha (hc a (List.mem_of_getElem? ha))
  | mp o h1 h2 h3 h4 =>
    intro hc
    cases hc with
    | mp hc =>
      obtain ⟨o', ho'⟩ := Option.isSome_iff_exists.1 hc
      obtain ⟨o2, e1, e2, e3, e4⟩ := hs _ _ ho'
      rw [h1] at e1; cases e1
      exact .mp o' ho' (by omega) h3 (fun hg => by rw [e3]; exact h4 (by omega))
  | it o h1 h2 h3 h4 =>
    intro hc
    cases hc with
    | it hc =>
      obtain ⟨o', ho'⟩ := Option.isSome_iff_exists.1 hc
      obtain ⟨o2, e1, e2, e3, e4⟩ := hs _ _ ho'
      rw [h1] at e1; cases e1
      exact .it o' ho' (by omega) h3 (fun hg => by rw [e3]; exact h4 (by omega))
  | yld o h1 h2 h3 h4 =>
    intro hc
    cases hc with
    | yld hc =>
      obtain ⟨o', ho'⟩ := Option.isSome_iff_exists.1 hc
      obtain ⟨o2, e1, e2, e3, e4⟩ := hs _ _ ho'
      rw [h1] at e1; cases e1
      exact .yld o' ho' (by omega) h3 (fun hg => by rw [e3]; exact h4 (by omega))
  | osc o h1 h2 h3 h4 =>
    intro hc
    cases hc with
    | osc hc =>
      obtain ⟨o', ho'⟩ := Option.isSome_iff_exists.1 hc
      obtain ⟨o2, e1, e2, e3, e4⟩ := hs _ _ ho'
      rw [h1] at e1; cases e1
      exact .osc o' ho' (by omega) h3 (fun hg => by rw [e3]; exact h4 (by omega))
theorem VRel.freezeG {w : World} {I : Nat → Prop} {ι : Plc} {H H' : Heap} {id : Nat} {ob : Ob} {ps : List (List PV)} (hr : Rel I ι H w) (hs : SubG H' H) (hH : H.get id = some ob) (hps : ob.rows = ps.map (·.map .pv)) {a a' : AV} (hf : Fz H' id ob.g ps a a') :
    ∀ {v : Value}, VRel w I ι H v a → VRel w (ImmPlus I ι id) ι H' v a' := by
  induction hf with
  | same h => exact fun hv => (hv.restrictG hs h).mono' (fun _ _ => rfl) (fun _ h => .inl h) (fun _ o h => ⟨o, h, Nat.le_refl _, fun _ => ⟨rfl, rfl, fun _ => Nat.le_refl _⟩⟩)
  | osl hq =>
    intro v hv
    subst hq
    exact .pv (freeze_prep hr hH hps hv)
  | agg hl h ih =>
    intro v hv
    cases hv with
    | agg h1 h2 h3 =>
      refine .agg (h1.trans hl) h2 fun i u a' hu ha' => ?_
      have hi := (List.getElem?_eq_some_iff.1 ha').1
      exact ih i _ a' (List.getElem?_eq_getElem (by omega)) ha' (h3 i u _ hu (List.getElem?_eq_getElem (by omega)))
  | tup hl h ih =>
    intro v hv
    cases hv with
    | tup h1 h3 =>
      refine .tup (h1.trans hl) fun i u a' hu ha' => ?_
      have hi := (List.getElem?_eq_some_iff.1 ha').1
      exact ih i _ a' (List.getElem?_eq_getElem (by omega)) ha' (h3 i u _ hu (List.getElem?_eq_getElem (by omega)))
/-- Rows that become other rows, a slice in them frozen. -/
def FzRows (H' : Heap) (id g : Nat) (ps : List (List PV)) (rows rows' : List (List AV)) : Prop :=
  rows'.length = rows.length ∧ ∀ (i : Nat) (r' : List AV), rows'[i]? = some r' → ∃ r, rows[i]? = some r ∧ r.length = r'.length ∧ ∀ (k : Nat) (a a' : AV), r[k]? = some a → r'[k]? = some a' → Fz H' id g ps a a'
theorem fzr_same {H' : Heap} {id g : Nat} {ps : List (List PV)} {rows : List (List AV)} (h : ∀ r ∈ rows, ∀ a ∈ r, Clo H' a) : FzRows H' id g ps rows rows :=
  ⟨rfl, fun i r hi => ⟨r, hi, rfl, fun k a a' h1 h2 => by rw [h1] at h2; cases h2; exact .same (h r (List.mem_of_getElem? hi) a (List.mem_of_getElem? h1))⟩⟩
theorem fzr_one {H' : Heap} {id g : Nat} {ps : List (List PV)} {r r' : List AV} (hl : r.length = r'.length) (h : ∀ (k : Nat) (a a' : AV), r[k]? = some a → r'[k]? = some a' → Fz H' id g ps a a') : FzRows H' id g ps [r] [r'] :=
  ⟨rfl, fun i x hi => by
    match i, hi with
    | 0, hi => cases hi; exact ⟨r, rfl, hl, h⟩⟩
def FOk (H H' : Heap) (id g : Nat) (ps : List (List PV)) : Heap → Prop
  | [] => True
  | (j, o') :: r => (∃ o, H.get j = some o ∧ o'.g = o.g ∧ o'.sz = o.sz ∧ o'.ty = o.ty ∧ FzRows H' id g ps o.rows o'.rows) ∧ FOk H H' id g ps r
theorem FOk.spec {H H' : Heap} {id g : Nat} {ps : List (List PV)} {L : Heap} (h : FOk H H' id g ps L) : ∀ p ∈ L, ∃ o, H.get p.1 = some o ∧ p.2.g = o.g ∧ p.2.sz = o.sz ∧ p.2.ty = o.ty ∧ FzRows H' id g ps o.rows p.2.rows := by
  induction L with
  | nil => simp
  | cons x r ih =>
    obtain ⟨t, v⟩ := x
    obtain ⟨h1, h2⟩ := h
    intro p hp
    rcases List.mem_cons.1 hp with e | e
    · subst e; exact h1
    · exact ih h2 p e
theorem Ent.fzG {G0 : Heap} {E E' : Env} {H H' : Heap} {id : Nat} {ob : Ob} (ps : List (List PV)) (hH : H.get id = some ob) (hps : ob.rows = ps.map (·.map .pv)) (hE : ∀ p ∈ E', ∃ v0, E.get p.1 = some v0 ∧ Fz H' id ob.g ps v0 p.2) (hno : H'.get id = none)
    (hF : FOk H H' id ob.g ps H') (hk : KOk H' H G0) : Ent G0 E H E' H' := by
  intro G hG N a w hs
  obtain ⟨I, ι, hr, hst, he⟩ := hs.rel
  subst hG
  have hf : ∀ j o', H'.get j = some o' → ∃ o, H.get j = some o ∧ o'.g = o.g ∧ o'.sz = o.sz ∧ o'.ty = o.ty ∧ FzRows H' id ob.g ps o.rows o'.rows := fun j o' hj => hF.spec _ (mem_of_hget hj)
  have hsub : SubG H' H := fun j o' hj => by
    obtain ⟨o, e1, e2, e3, _, e5⟩ := hf j o' hj
    exact ⟨o, e1, e2, e3, e5.1⟩
  have hown : ∀ b, Own ι H' b → Own ι H b := fun b ⟨j, o', c, h1, h2⟩ => by
    obtain ⟨o, e1, _⟩ := hf j o' h1
    exact ⟨j, o, c, e1, h2⟩
  have hrel : Rel (ImmPlus I ι id) ι H' w := by
    refine ⟨fun b hb => ?_, fun j o' hj => ?_, fun j j' o o' b c c' h1 h2 => ?_⟩
    · rcases hb with hb | ⟨cap, hb⟩
      · exact hr.imm b hb
      · exact hr.lt ⟨id, ob, cap, hH, hb⟩
    · obtain ⟨o, e1, e2, e3, e4, e5, e6⟩ := hf j o' hj
      refine (hr.obj j o e1).keepG e3 e4 e5 (raw_rows e5.symm (fun i r' hi => by
        obtain ⟨r, z1, z2, z3⟩ := e6 i r' hi
        exact ⟨r, z1, z2, fun k a a' h1 h2 y ts e => (z3 k a a' h1 h2).raw e⟩)) rfl (fun b' cap' q1 _ => ⟨rfl, fun q3 => ?_⟩) (fun i r' hi => ?_)
      · rintro (h | ⟨cap, h⟩)
        · exact q3 h
        · have : j = id := hr.inj j id o ob b' cap' cap e1 hH q1 h
          rw [this, hno] at hj
          cases hj
      · obtain ⟨r, z1, z2, z3⟩ := e6 i r' hi
        exact ⟨r, z1, z2, fun k a a' h1 h2 v hv => VRel.freezeG hr hsub hH hps (z3 k a a' h1 h2) hv⟩
    · obtain ⟨p, e1, _⟩ := hf j o h1
      obtain ⟨p', e1', _⟩ := hf j' o' h2
      exact hr.inj j j' p p' b c c' e1 e1'
  have hstep : Step G.I G.ι G.H G.w (ImmPlus I ι id) ι H' w :=
    { os := hst.os, tape := hst.tape, output := hst.output, size := hst.size, froz := hst.froz, keep := hst.keep
      imm := fun b hb => .inl (hst.imm b hb)
      immNew := fun b hb => by
        rcases hb with hb | ⟨cap, hb⟩
        · exact hst.immNew b hb
        · rcases hst.own b ⟨id, ob, cap, hH, hb⟩ with h1 | h1
          · exact .inr (.inl h1)
          · exact .inr (.inr h1)
      own := fun b hb => hst.own b (hown b hb)
      objs := fun j o ho => by
        obtain ⟨o', h1, h2⟩ := hst.objs j o ho
        exact ⟨o', (hk.kept j (by simp [ho])).trans h1, h2⟩ }
  refine ⟨hs.defers, hs.size, _, ι, hrel, hstep, fun t v ht => ?_⟩
  obtain ⟨v0, h1, h2⟩ := hE _ (mem_of_get ht)
  obtain ⟨c, hc, hv⟩ := he t v0 h1
  exact ⟨c, hc, VRel.freezeG hr hsub hH hps h2 hv⟩
end Go.Abs
end
section
set_option linter.unusedVariables false
set_option linter.unusedSimpArgs false
set_option maxRecDepth 100000
namespace Go.Proofs.YtbbnllojhjlaoaaGreat
open Go.Abs
theorem strO_rl (l : List ByteArray) : ∀ r ∈ l.map encStr, r.length = 1 := fun r hr => by
 obtain ⟨t, _, rfl⟩ := List.mem_map.1 hr
 rfl
theorem clo_row6 {H : Heap} {a b c d f : PV} {id g off len : Nat} (h : (H.get id).isSome = true) : ∀ r ∈ [[AV.pv a, .pv b, .pv c, .pv d, .osl id g off len, .pv f]], ∀ x ∈ r, Clo H x := fun r hr x hx => by
 simp only [List.mem_cons, List.not_mem_nil, or_false] at hr
 subst hr
 simp only [List.mem_cons, List.not_mem_nil, or_false] at hx
 rcases hx with rfl | rfl | rfl | rfl | rfl | rfl <;> first | exact .pv _ | exact .osl h
theorem takeStr (l : List ByteArray) {n : Nat} (hn : n = l.length) : ((l.map encStr).take (0 + n)).drop 0 = l.map encStr := by rw [hn, Nat.zero_add, List.drop_zero, ← List.length_map (f := encStr), List.take_length]
theorem gWithR_len (m : List GObj) (o : GObj) : (gWithR m o).length ≤ m.length + 1 := by
 have h : (gWithout m o.id).length ≤ m.length := List.length_filter_le _ _
 unfold gWithR
 rw [List.length_append, List.length_cons, List.length_take, List.length_drop]
 omega
theorem rFind_t {m : List GObj} {s : ByteArray} {k : Nat} (h : gidx (idIs s) m = (k : Int)) (H : Heap) (hm : m.length < 4611686018427387904) : ACalls Tryz.prog 26 [.agg [.pv (slObjs m)], sv s] H (fun r H' => r = iv (k : Int) ∧ H' = H) := by
 have := rFind_c m s H hm
 rwa [h] at this
theorem change21_c (m : List GObj) (e : GEdit) (o : GObj) (H : Heap) (hm : okM m) (hml : m.length ≤ 999998) (he : okE e) (hes : e.refs.length < 274877906944) (hc : closedB m = true) (hlk : look m e.id = some o) (ho7 : 2 ≤ e.op ∧ e.op ≤ 7) (h7 : e.op = 7 → ∃ x, look m e.other = some x) :
  ACalls Tryz.prog 29 [.agg [.pv (slObjs m)], av (encEdit e), av (encObj o)] H (fun r H' => r = .tup [.agg [.pv (slObjs (rChange m e o).1)], iv (rChange m e o).2] ∧ H' = H) := by
 refine ACalls.pure ?_ (by simp) H
 have hmm : (m.map encObj).length = m.length := List.length_map _
 have hgo := (gMap_iff.1 (closed_gMap hc)).1
 have hom := look_mem hlk
 have ho := hm.2 o hom
 have hlen := gObj_len (hgo o hom)
 have hrm : (o.refs.map encStr).length = o.refs.length := List.length_map _
 have hmr : ∀ x, x ∈ m → x.refs.length < 4611686018427387904 := fun x hx => (hm.2 x hx).2.2.1
 unfold rChange
 refine Bd Tryz.func29 rfl Tryz.ntmps29<|Sq<|Rg<|Dd (by exact opd_box (id := 3) rfl rfl rfl rfl rfl)<|Dd (by exact opd_box (id := 4) rfl rfl rfl rfl rfl)<|Dd (by exact opd_box (id := 5) rfl rfl rfl rfl rfl)<|Dd (by exact x_alloc (id := 6) rfl zo24 rfl rfl)<|Dd as'<|Zz<|Sq<|Sq<|Rg<|Dd (fr' fo38_0)<|Dd (l1' Tryz.isAgg3)<|Dd (fr' fo36_1)<|Dd (l1' Tryz.isAgg3)<|Dd (by exact opr_call rfl rfl Tryz.call58 rfl (kind21_c e.op o.kind _))<|Zz ?_
 refine Cn (fun hc1 => ?_) fun hc1 => ?_
 ·rw [if_pos hc1]
  refine Sq<|Rg<|Dd (bu' bo24)<|Uu (sa' Tryz.sizeOf24)<|Dd as'<|Zz<|awp_ret ?_
  refine aret2 (H' := []) (.inr rfl) rfl (rl' Tryz.isAgg24 Tryz.sizeOf24) (rval_tmp rfl) (Fin.wk (by simp) trivial trivial) ?_
  exact ⟨rfl, rfl⟩
 have hfit : fitsB e.op o.kind = true := by
  have h := hc1
  simpa using h
 rw [if_neg (by rw [hc1]; decide)]
 refine awp_skip<|Sq<|Sq<|Rg<|Dd (fr' fo38_0)<|Dd (l1' Tryz.isAgg3)<|Dd eql'<|Zz ?_
 refine Cn (fun hc2 => ?_) fun hc2 => ?_
 ·rw [if_pos (of_decide_eq_true hc2)]
  refine Sq<|Rg<|Dd (fr' fo38_4)<|Dd (by exact opd_loadn_ref rfl Tryz.isAgg32 Tryz.sizeOf32 rfl rfl rfl rfl (by simp only [Zl, encTag, encObj, encStr, encEdit, encInt]; rfl) rfl)<|Dd (fr' fo36_2)<|Uu (by exact x_store rfl Tryz.sizeOf32 rfl rfl rfl rfl rfl rfl rfl (Nat.le_of_ble_eq_true rfl) rfl rfl)<|Zz<|Sq<|Rg<|Dd (by exact opd_loadn_ref rfl Tryz.isAgg24 Tryz.sizeOf24 rfl rfl rfl rfl (by simp only [Zl, encTag, encObj, encStr, encEdit, encInt]; rfl) rfl)<|Dd (by exact opd_loadn_ref rfl Tryz.isAgg36 Tryz.sizeOf36 rfl rfl rfl rfl (by simp only [Zl, encTag, encObj, encStr, encEdit, encInt]; rfl) rfl)<|Dd (by exact opr_call rfl rfl Tryz.call28 rfl (put21_c m ⟨o.id, o.kind, e.x, e.y, o.refs, o.tags⟩ _ (by omega)))<|Uu (sa' Tryz.sizeOf24)<|Dd as'<|Zz<|awp_ret ?_
  refine aret2 (H' := []) (.inr rfl) rfl (rl' Tryz.isAgg24 Tryz.sizeOf24) (rval_tmp rfl) (Fin.wk (by simp) trivial trivial) ?_
  exact ⟨rfl, rfl⟩
 have h2 := of_decide_eq_false hc2
 rw [if_neg h2]
 refine awp_skip<|Sq<|Sq<|Rg<|Dd (fr' fo38_0)<|Dd (l1' Tryz.isAgg3)<|Dd eql'<|Zz ?_
 refine Cn (fun hc3 => ?_) fun hc3 => ?_
 ·rw [if_pos (of_decide_eq_true hc3)]
  refine Sq<|Rg<|Dd (fr' fo36_4)<|Dd (l1' Tryz.isAgg34)<|Dd (fr' fo38_5)<|Dd (l1' Tryz.isAgg9)<|Dd (fr' fo38_6)<|Dd (l1' Tryz.isAgg9)<|Dd (by exact opr_call rfl rfl Tryz.call59 rfl (rSet_c o.tags e.key e.val _ ho.2.1 (by omega) he.1.2.2.2))<|Dd mv'<|Dd ex'<|Dd ex'<|Dd as'<|Dd as'<|Zz<|Sq<|Sq<|Rg<|Dd mv'<|Dd ne'<|Zz ?_
  refine Cn (fun hc4 => ?_) fun hc4 => ?_
  ·rw [if_pos hc4]
   refine Sq<|Rg<|Dd (bu' bo24)<|Dd mv'<|Uu (sa' Tryz.sizeOf24)<|Dd as'<|Zz<|awp_ret ?_
   refine aret2 (H' := []) (.inr rfl) rfl (rl' Tryz.isAgg24 Tryz.sizeOf24) (rval_tmp rfl) (Fin.wk (by simp) trivial trivial) ?_
   exact ⟨rfl, rfl⟩
  rw [if_neg (by rw [hc4]; decide)]
  refine awp_skip<|Sq<|Rg<|Dd mv'<|Dd (fr' fo36_4)<|Uu (by exact x_store1 rfl Tryz.sizeOf34 rfl rfl rfl rfl rfl rfl (Nat.le_of_ble_eq_true rfl) rfl rfl)<|Zz<|Sq<|Rg<|Dd (by exact opd_loadn_ref rfl Tryz.isAgg24 Tryz.sizeOf24 rfl rfl rfl rfl (by simp only [Zl, encTag, encObj, encStr, encEdit, encInt]; rfl) rfl)<|Dd (by exact opd_loadn_ref rfl Tryz.isAgg36 Tryz.sizeOf36 rfl rfl rfl rfl (by simp only [Zl, encTag, encObj, encStr, encEdit, encInt]; rfl) rfl)<|Dd (by exact opr_call rfl rfl Tryz.call28 rfl (put21_c m ⟨o.id, o.kind, o.x, o.y, o.refs, (gSet o.tags e.key e.val).1⟩ _ (by omega)))<|Uu (sa' Tryz.sizeOf24)<|Dd as'<|Zz<|awp_ret ?_
  refine aret2 (H' := []) (.inr rfl) rfl (rl' Tryz.isAgg24 Tryz.sizeOf24) (rval_tmp rfl) (Fin.wk (by simp) trivial trivial) ?_
  exact ⟨rfl, rfl⟩
 have h3 := of_decide_eq_false hc3
 rw [if_neg h3]
 refine awp_skip<|Sq<|Sq<|Rg<|Dd (fr' fo38_0)<|Dd (l1' Tryz.isAgg3)<|Dd eql'<|Zz ?_
 refine Cn (fun hc5 => ?_) fun hc5 => ?_
 ·rw [if_pos (of_decide_eq_true hc5)]
  refine Sq<|Rg<|Dd (fr' fo38_7)<|Dd (l1' Tryz.isAgg33)<|Dd (fr' fo36_3)<|Uu (by exact x_store1 rfl Tryz.sizeOf33 rfl rfl rfl rfl rfl rfl (Nat.le_of_ble_eq_true rfl) rfl rfl)<|Zz<|Sq<|Sq<|Rg<|Dd (by exact opd_loadn_ref rfl Tryz.isAgg36 Tryz.sizeOf36 rfl rfl rfl rfl (by simp only [Zl, encTag, encObj, encStr, encEdit, encInt]; rfl) rfl)<|Dd (by exact opr_call rfl rfl Tryz.call42 rfl (rObj_c ⟨o.id, o.kind, o.x, o.y, e.refs, o.tags⟩ _ ⟨ho.1, ho.2.1, he.2.1.1, he.2.1.2⟩))<|Dd no'<|Zz ?_
  refine Cn (fun hc6 => ?_) fun hc6 => ?_
  ·rw [if_pos hc6]
   refine Sq<|Rg<|Dd (bu' bo24)<|Uu (sa' Tryz.sizeOf24)<|Dd as'<|Zz<|awp_ret ?_
   refine aret2 (H' := []) (.inr rfl) rfl (rl' Tryz.isAgg24 Tryz.sizeOf24) (rval_tmp rfl) (Fin.wk (by simp) trivial trivial) ?_
   exact ⟨rfl, rfl⟩
  rw [if_neg (by rw [hc6]; decide)]
  refine awp_skip<|Sq<|Rg<|Dd (by exact opd_loadn_ref rfl Tryz.isAgg24 Tryz.sizeOf24 rfl rfl rfl rfl (by simp only [Zl, encTag, encObj, encStr, encEdit, encInt]; rfl) rfl)<|Dd (by exact opd_loadn_ref rfl Tryz.isAgg36 Tryz.sizeOf36 rfl rfl rfl rfl (by simp only [Zl, encTag, encObj, encStr, encEdit, encInt]; rfl) rfl)<|Dd (by exact opr_call rfl rfl Tryz.call27 rfl (rErr_c m ⟨o.id, o.kind, o.x, o.y, e.refs, o.tags⟩ _ hm.1 he.2.1.1))<|Dd as'<|Zz<|Sq<|Sq<|Rg<|Dd mv'<|Dd ne'<|Zz ?_
  refine Cn (fun hc7 => ?_) fun hc7 => ?_
  ·rw [if_pos hc7]
   refine Sq<|Rg<|Dd (bu' bo24)<|Dd mv'<|Uu (sa' Tryz.sizeOf24)<|Dd as'<|Zz<|awp_ret ?_
   refine aret2 (H' := []) (.inr rfl) rfl (rl' Tryz.isAgg24 Tryz.sizeOf24) (rval_tmp rfl) (Fin.wk (by simp) trivial trivial) ?_
   exact ⟨rfl, rfl⟩
  rw [if_neg (by rw [hc7]; decide)]
  refine awp_skip<|Sq<|Rg<|Dd (by exact opd_loadn_ref rfl Tryz.isAgg24 Tryz.sizeOf24 rfl rfl rfl rfl (by simp only [Zl, encTag, encObj, encStr, encEdit, encInt]; rfl) rfl)<|Dd (by exact opd_loadn_ref rfl Tryz.isAgg36 Tryz.sizeOf36 rfl rfl rfl rfl (by simp only [Zl, encTag, encObj, encStr, encEdit, encInt]; rfl) rfl)<|Dd (by exact opr_call rfl rfl Tryz.call28 rfl (put21_c m ⟨o.id, o.kind, o.x, o.y, e.refs, o.tags⟩ _ (by omega)))<|Uu (sa' Tryz.sizeOf24)<|Dd as'<|Zz<|awp_ret ?_
  refine aret2 (H' := []) (.inr rfl) rfl (rl' Tryz.isAgg24 Tryz.sizeOf24) (rval_tmp rfl) (Fin.wk (by simp) trivial trivial) ?_
  exact ⟨rfl, rfl⟩
 have h4 := of_decide_eq_false hc5
 rw [if_neg h4]
 refine awp_skip<|Sq<|Sq<|Rg<|Dd (fr' fo38_0)<|Dd (l1' Tryz.isAgg3)<|Dd eql'<|Zz ?_
 refine Cn (fun hc8 => ?_) fun hc8 => ?_
 ·rw [if_pos (of_decide_eq_true hc8)]
  refine Sq<|Sq<|Rg<|Dd (by exact opd_loadn_ref rfl Tryz.isAgg24 Tryz.sizeOf24 rfl rfl rfl rfl (by simp only [Zl, encTag, encObj, encStr, encEdit, encInt]; rfl) rfl)<|Dd (fr' fo38_1)<|Dd (l1' Tryz.isAgg9)<|Dd (by exact opr_call rfl rfl Tryz.call60 rfl (referred21_c m e.id false _ hm.1 hmr))<|Zz ?_
  refine Cn (fun hc9 => ?_) fun hc9 => ?_
  ·rw [if_pos hc9]
   refine Sq<|Rg<|Dd (bu' bo24)<|Uu (sa' Tryz.sizeOf24)<|Dd as'<|Zz<|awp_ret ?_
   refine aret2 (H' := []) (.inr rfl) rfl (rl' Tryz.isAgg24 Tryz.sizeOf24) (rval_tmp rfl) (Fin.wk (by simp) trivial trivial) ?_
   exact ⟨rfl, rfl⟩
  rw [if_neg (by rw [hc9]; decide)]
  refine awp_skip<|Sq<|Rg<|Dd (by exact opd_loadn_ref rfl Tryz.isAgg24 Tryz.sizeOf24 rfl rfl rfl rfl (by simp only [Zl, encTag, encObj, encStr, encEdit, encInt]; rfl) rfl)<|Dd (fr' fo38_1)<|Dd (l1' Tryz.isAgg9)<|Dd (by exact opr_call rfl rfl Tryz.call61 rfl (without_c m e.id _ (by omega)))<|Uu (sa' Tryz.sizeOf24)<|Dd as'<|Zz<|awp_ret ?_
  refine aret2 (H' := []) (.inr rfl) rfl (rl' Tryz.isAgg24 Tryz.sizeOf24) (rval_tmp rfl) (Fin.wk (by simp) trivial trivial) ?_
  exact ⟨rfl, rfl⟩
 have h5 := of_decide_eq_false hc8
 rw [if_neg h5]
 have hmr0 := hmr o hom
 refine awp_skip<|Sq<|Sq<|Rg<|Dd (fr' fo38_0)<|Dd (l1' Tryz.isAgg3)<|Dd eql'<|Zz ?_
 refine Cn (fun hc10 => ?_) fun hc10 => ?_
 ·have h6 := of_decide_eq_true hc10
  rw [if_pos h6]
  unfold rSplit
  refine Sq<|Sq<|Rg<|Dd (by exact opd_loadn_ref rfl Tryz.isAgg24 Tryz.sizeOf24 rfl rfl rfl rfl (by simp only [Zl, encTag, encObj, encStr, encEdit, encInt]; rfl) rfl)<|Dd (fr' fo38_2)<|Dd (l1' Tryz.isAgg9)<|Dd (by exact opr_call rfl rfl Tryz.call26 rfl (rFind_c m e.other _ hm.1))<|Dd ge'<|Zz ?_
  refine Cn (fun hc11 => ?_) fun hc11 => ?_
  ·rw [if_pos hc11]
   refine Sq<|Rg<|Dd (bu' bo24)<|Uu (sa' Tryz.sizeOf24)<|Dd as'<|Zz<|awp_ret ?_
   refine aret2 (H' := []) (.inr rfl) rfl (rl' Tryz.isAgg24 Tryz.sizeOf24) (rval_tmp rfl) (Fin.wk (by simp) trivial trivial) ?_
   exact ⟨rfl, rfl⟩
  rw [if_neg (by rw [hc11]; decide)]
  refine awp_skip<|Sq<|Rg<|Dd (fr' fo36_3)<|Dd (l1' Tryz.isAgg33)<|Dd (fr' fo38_3)<|Dd (l1' Tryz.isAgg9)<|Dd (by exact opr_call rfl rfl Tryz.call34 rfl (at21_c o.refs e.node _ hmr0))<|Dd as'<|Zz<|Sq<|Sq<|Rg<|Dd mv'<|Dd lss'<|Zz ?_
  refine Cn (fun hc12 => ?_) fun hc12 => ?_
  ·rw [if_pos hc12]
   refine Sq<|Rg<|Dd (bu' bo24)<|Uu (sa' Tryz.sizeOf24)<|Dd as'<|Zz<|awp_ret ?_
   refine aret2 (H' := []) (.inr rfl) rfl (rl' Tryz.isAgg24 Tryz.sizeOf24) (rval_tmp rfl) (Fin.wk (by simp) trivial trivial) ?_
   exact ⟨rfl, rfl⟩
  rw [if_neg (by rw [hc12]; decide)]
  obtain ⟨k, hk, hk1⟩ : ∃ k : Nat, rAtN o.refs e.node = (k : Int) ∧ k + 1 < o.refs.length := by
   rw [inner_eq]
   rcases gInner_lt (l := o.refs) (node := e.node) with h | ⟨k, h1, _, h2, _⟩
   ·have h3 := of_decide_eq_false hc12
    rw [inner_eq, h] at h3
    exact absurd (by decide) h3
   exact ⟨k, h1, h2⟩
  rw [hk, Int.toNat_natCast]
  clear hc12
  refine awp_skip<|Sq<|Sq<|Rg<|Dd (by exact opd_loadn_ref rfl Tryz.isAgg24 Tryz.sizeOf24 rfl rfl rfl rfl (by simp only [Zl, encTag, encObj, encStr, encEdit, encInt]; rfl) rfl)<|Dd (fr' fo38_1)<|Dd (l1' Tryz.isAgg9)<|Dd (by exact opr_call rfl rfl Tryz.call60 rfl (referred21_c m e.id true _ hm.1 hmr))<|Zz ?_
  refine Cn (fun hc13 => ?_) fun hc13 => ?_
  ·rw [if_pos hc13]
   refine Sq<|Rg<|Dd (bu' bo24)<|Uu (sa' Tryz.sizeOf24)<|Dd as'<|Zz<|awp_ret ?_
   refine aret2 (H' := []) (.inr rfl) rfl (rl' Tryz.isAgg24 Tryz.sizeOf24) (rval_tmp rfl) (Fin.wk (by simp) trivial trivial) ?_
   exact ⟨rfl, rfl⟩
  rw [if_neg (by rw [hc13]; decide)]
  have h1m : ¬ decide ((m.length : Int) = 1000000) = true := by rw [decide_eq_true_eq]; omega
  rw [if_neg h1m]
  have hdl : (o.refs.drop k).length ≤ 2000 := by rw [List.length_drop]; omega
  have htl : (o.refs.take (k + 1)).length ≤ 2000 := by rw [List.length_take]; omega
  refine awp_skip<|Sq<|Sq<|Rg<|Dd (fr' fo24_0)<|Dd (l1' Tryz.isAgg22)<|Dd (ll' Tryz.underlying22)<|Dd eql'<|Zz ?_
  refine Cn (fun hc14 => ?_) fun hc14 => ?_
  ·have := of_decide_eq_true hc14
   omega
  skip
  refine awp_skip<|Sq ?_
  refine awp_drawc follows ?_
  refine Cr [4] (fun _ h => fh fo38_2 h)<|Cr [4] (fun _ h => lh Tryz.isAgg9 h)<|Cp [113] (fun H1 hH => by exact x_buildSlice_own (id := 113) rfl so33 rfl rfl rfl rfl (by simp) ((hH _ rfl).trans rfl))<|Cr [5] (fun _ h => fh fo36_3 h)<|Cr [5] (fun _ h => lh Tryz.isAgg33 h)<|Cr [] (fun _ _ => mv')<|Cr [] (fun H1 hH => by exact x_slice_sl (l := k) (h := (o.refs.map encStr).length) (rows' := (o.refs.drop k).map encStr) rfl so33 rfl (strO_rl o.refs) rfl rfl (by omega) (Nat.le_refl _) (by rw [List.take_length]; exact List.map_drop.symm))<|Cp [113] (fun H1 hH => by exact x_append rfl so33 ei9 rfl ((hH _ rfl).trans rfl) rfl rfl rfl rfl rfl (strO_rl _) (List.length_map _) (by omega) (Nat.zero_add _) (by rw [← rows_of]; rfl : _ = strN (o.refs.drop k)))<|Cr [5] (fun _ h => fh fo36_4 h)<|Cr [5] (fun _ h => lh Tryz.isAgg34 h)<|Cr [113] (fun _ _ => (bu' bo36))<|Cp [12] (fun H1 hH => by exact x_alloc (id := 12) rfl zo36 rfl ((hH _ rfl).trans rfl)) ?_
  refine Cp [12] (fun H1 hH => by exact x_store_all rfl Tryz.sizeOf36 rfl rfl rfl rfl ((hH _ rfl).trans rfl) rfl rfl rfl) ?_
  refine dc_nil ⟨by kernel_rfl, ?_⟩
  refine Sq<|Rg<|Dd (by exact x_buildSlice_own (id := 122) rfl so33 rfl rfl rfl rfl (by simp) rfl)<|Dd (fr' fo36_3)<|Dd (l1' Tryz.isAgg33)<|Dd mv'<|Dd ad'<|Dd (by exact x_slice_sl (l := 0) (h := k + 1) (rows' := (o.refs.take (k + 1)).map encStr) rfl so33 rfl (strO_rl o.refs) rfl rfl (by omega) (by omega) (by rw [List.drop_zero]; exact List.map_take.symm))<|Dd (by exact x_append rfl so33 ei9 rfl rfl rfl rfl rfl rfl rfl (strO_rl _) (List.length_map _) (by omega) (Nat.zero_add _) (by rw [← rows_of]; rfl : _ = strN (o.refs.take (k + 1))))<|Dd (fr' fo36_3)<|Uu (by exact x_store1 rfl Tryz.sizeOf33 rfl rfl rfl rfl rfl rfl (Nat.le_of_ble_eq_true rfl) rfl rfl)<|Zz<|Sq ?_
  refine AWp.ent (Ent.fzG (id := 113) (E' := [(3, .ref 3 0 0 0), (4, .ref 4 0 0 0), (5, .ref 5 0 0 0), (6, .ref 6 0 0 0), (12, .ref 12 0 0 0)]) (H' := [(12, bx 6 36 ((encObj ⟨e.other, 2, 0, 0, o.refs.drop k, o.tags⟩).map .pv)), (122, ⟨1, 1, 9, strN (o.refs.take (k + 1))⟩), (6, bx 1 24 [.pv (.sl [])]), (5, bx 6 36 [sv o.id, iv o.kind, iv o.x, iv o.y, .osl 122 1 0 (o.refs.take (k + 1)).length, .pv (slTags o.tags)]), (4, bx 15 38 ((encEdit e).map .pv)), (3, bx 1 24 [.pv (slObjs m)])]) ((o.refs.drop k).map encStr) rfl (rows_of encStr _) ?_ rfl ?_ ?_) ?_
  ·intro p hp
   simp only [List.mem_cons, List.not_mem_nil, or_false] at hp
   rcases hp with rfl | rfl | rfl | rfl | rfl <;> exact ⟨_, rfl, .same (by simp; rfl)⟩
  ·refine ⟨⟨_, rfl, rfl, rfl, rfl, fzr_one rfl (fz_cons (.same (by simp)) (fz_cons (.same (by simp)) (fz_cons (.same (by simp)) (fz_cons (.same (by simp)) (fz_cons (.osl (takeStr _ rfl)) (fz_cons (.same (by simp)) fz_nil))))))⟩, ⟨_, rfl, rfl, rfl, rfl, fzr_same (clo_map _ _ _)⟩, ⟨_, rfl, rfl, rfl, rfl, fzr_same (by simp)⟩, ⟨_, rfl, rfl, rfl, rfl, fzr_same (clo_row6 rfl)⟩, ⟨_, rfl, rfl, rfl, rfl, fzr_same (by simp)⟩, ⟨_, rfl, rfl, rfl, rfl, fzr_same (by simp)⟩, trivial⟩
  ·exact trivial
  refine AWp.ent (Ent.fzG (id := 122) (E' := [(3, .ref 3 0 0 0), (4, .ref 4 0 0 0), (5, .ref 5 0 0 0), (6, .ref 6 0 0 0), (12, .ref 12 0 0 0)]) (H' := [(12, bx 6 36 ((encObj ⟨e.other, 2, 0, 0, o.refs.drop k, o.tags⟩).map .pv)), (6, bx 1 24 [.pv (.sl [])]), (5, bx 6 36 ((encObj ⟨o.id, o.kind, o.x, o.y, o.refs.take (k + 1), o.tags⟩).map .pv)), (4, bx 15 38 ((encEdit e).map .pv)), (3, bx 1 24 [.pv (slObjs m)])]) ((o.refs.take (k + 1)).map encStr) rfl (rows_of encStr _) ?_ rfl ?_ ?_) ?_
  ·intro p hp
   simp only [List.mem_cons, List.not_mem_nil, or_false] at hp
   rcases hp with rfl | rfl | rfl | rfl | rfl <;> exact ⟨_, rfl, .same (by simp; rfl)⟩
  ·refine ⟨⟨_, rfl, rfl, rfl, rfl, fzr_same (by simp)⟩, ⟨_, rfl, rfl, rfl, rfl, fzr_same (by simp)⟩, ⟨_, rfl, rfl, rfl, rfl, fzr_one rfl (fz_cons (.same (by simp)) (fz_cons (.same (by simp)) (fz_cons (.same (by simp)) (fz_cons (.same (by simp)) (fz_cons (.osl (takeStr _ rfl)) (fz_cons (.same (by simp)) fz_nil))))))⟩, ⟨_, rfl, rfl, rfl, rfl, fzr_same (by simp)⟩, ⟨_, rfl, rfl, rfl, rfl, fzr_same (by simp)⟩, trivial⟩
  ·exact trivial
  have hw1 := gWithR_len m ⟨o.id, o.kind, o.x, o.y, o.refs.take (k + 1), o.tags⟩
  refine awp_drawc follows ?_
  refine Cr [3] (fun H1 hH => by exact opd_loadn_ref rfl Tryz.isAgg24 Tryz.sizeOf24 rfl ((hH _ rfl).trans rfl) rfl rfl (by simp only [Zl, encTag, encObj, encStr, encEdit, encInt]; rfl) rfl)<|Cr [5] (fun H1 hH => by exact opd_loadn_ref rfl Tryz.isAgg36 Tryz.sizeOf36 rfl ((hH _ rfl).trans rfl) rfl rfl (by simp only [Zl, encTag, encObj, encStr, encEdit, encInt]; rfl) rfl)<|Cr [] (fun H1 hH => by exact opr_call rfl rfl Tryz.call28 rfl (put21_c m ⟨o.id, o.kind, o.x, o.y, o.refs.take (k + 1), o.tags⟩ _ (by omega)))<|Cr [12] (fun H1 hH => by exact opd_loadn_ref rfl Tryz.isAgg36 Tryz.sizeOf36 rfl ((hH _ rfl).trans rfl) rfl rfl (by simp only [Zl, encTag, encObj, encStr, encEdit, encInt]; rfl) rfl)<|Cr [] (fun H1 hH => by exact opr_call rfl rfl Tryz.call28 rfl (put21_c (gWithR m ⟨o.id, o.kind, o.x, o.y, o.refs.take (k + 1), o.tags⟩) ⟨e.other, 2, 0, 0, o.refs.drop k, o.tags⟩ _ (by omega)))<|Cp [6] (fun H1 hH => by exact x_store_all rfl Tryz.sizeOf24 rfl rfl rfl rfl ((hH _ rfl).trans rfl) rfl rfl rfl) ?_
  refine Cr [] (fun _ _ => as') ?_
  refine dc_nil ⟨by kernel_rfl, ?_⟩
  refine awp_ret ?_
  refine aret2 (H' := []) (.inr rfl) rfl (rl' Tryz.isAgg24 Tryz.sizeOf24) (rval_tmp rfl) (Fin.wk (by simp) trivial trivial) ?_
  exact ⟨rfl, rfl⟩
 have h6 := of_decide_eq_false hc10
 rw [if_neg h6]
 obtain ⟨x, hx⟩ := h7 (by omega)
 have hx' : m.find? (idIs e.other) = some x := hx
 rw [hx', Option.getD_some]
 unfold rJoin
 have hk2 : o.kind = 2 := by
  have h77 : e.op = 7 := by omega
  rw [h77] at hfit
  simpa [fitsB] using hfit
 have ho2 := hlen.2.2.2.2 hk2
 have hxl := gObj_len (hgo x (look_mem hx))
 have hxm : (x.refs.map encStr).length = x.refs.length := List.length_map _
 obtain ⟨j, hj, hjx⟩ : ∃ j : Nat, gidx (idIs e.other) m = (j : Int) ∧ m[j]? = some x := by
  rcases gidx_cases (idIs e.other) m with ⟨_, e2⟩ | ⟨j, y, e1, e2, e3⟩
  ·rw [hx'] at e2; cases e2
  rw [hx'] at e3; cases e3; exact ⟨j, e1, e2⟩
 have hjl := (List.getElem?_eq_some_iff.1 hjx).1
 have hi1 := map_get (f := encObj) hjx
 obtain ⟨sl, hsl⟩ := get_of_lt (l := o.refs) (k := o.refs.length - 1) (by omega)
 have hsl1 := map_get (f := encStr) hsl
 refine awp_skip<|Sq<|Rg<|Dd (by exact opd_loadn_ref rfl Tryz.isAgg24 Tryz.sizeOf24 rfl rfl rfl rfl (by simp only [Zl, encTag, encObj, encStr, encEdit, encInt]; rfl) rfl)<|Dd (fr' fo38_2)<|Dd (l1' Tryz.isAgg9)<|Dd (by exact opr_call rfl rfl Tryz.call26 rfl (rFind_t hj _ hm.1))<|Dd as'<|Zz<|Sq<|Sq<|Rg<|Dd (fr' fo24_0)<|Dd (l1' Tryz.isAgg22)<|Dd mv'<|Dd (by exact x_index_pad rfl so22 rfl rfl (by omega) (by exact Int.toNat_natCast _) hi1 rfl)<|Dd (fp' fo36_1)<|Dd (lp' Tryz.isAgg3 (hi := hi1))<|Dd ne'<|Zz ?_
 refine Cn (fun hc15 => ?_) fun hc15 => ?_
 ·rw [if_pos hc15]
  refine Sq<|Rg<|Dd (bu' bo24)<|Uu (sa' Tryz.sizeOf24)<|Dd as'<|Zz<|awp_ret ?_
  refine aret2 (H' := []) (.inr rfl) rfl (rl' Tryz.isAgg24 Tryz.sizeOf24) (rval_tmp rfl) (Fin.wk (by simp) trivial trivial) ?_
  exact ⟨rfl, rfl⟩
 have hxk : x.kind = 2 := by
  have h := hc15
  simpa using h
 rw [if_neg (by rw [hc15]; decide)]
 have hx2 := hxl.2.2.2.2 hxk
 obtain ⟨sf, hsf⟩ := get_of_lt (l := x.refs) (k := 0) (by omega)
 have hsf1 := map_get (f := encStr) hsf
 have hat : (decide (e.id = e.other) || !decide (atS o.refs (o.refs.length - 1) = atS x.refs 0)) = (decide (e.id = e.other) || !decide (sl = sf)) := by rw [atS_some hsl, atS_some hsf]
 rw [hat]
 refine awp_skip<|Sq<|Rg<|Dd (fr' fo24_0)<|Dd (l1' Tryz.isAgg22)<|Dd mv'<|Dd (by exact x_index_pad rfl so22 rfl rfl (by omega) (by exact Int.toNat_natCast _) hi1 rfl)<|Dd (by exact opd_loadn_pad rfl Tryz.isAgg36 Tryz.sizeOf36 rfl hi1 (by simp only [Zl, encObj]; rfl) rfl)<|Dd (by exact x_alloc (id := 14) rfl zo36 rfl rfl)<|Uu (sa' Tryz.sizeOf36)<|Zz<|Sq<|Sq ?_
 refine awp_mergeR (t := 171) (n := 20) (X := decide (e.id = e.other) || !decide (sl = sf)) ?_ ?_
 ·cases hg157 : (decide (e.id = e.other) : Bool)
  ·refine awp_drawc follows ?_
   refine Cq (fr' fo38_1)<|Cq (l1' Tryz.isAgg9)<|Cq (fr' fo38_2)<|Cq (l1' Tryz.isAgg9)<|Cq se'<|Cq mv'<|Nf (fr' fo36_3)<|Nf (l1' Tryz.isAgg33)<|Nf (fr' fo36_3)<|Nf (l1' Tryz.isAgg33)<|Nf (ll' Tryz.underlying33)<|Nf (by exact opd_sub rfl rfl rfl (by exact w64 (by omega) (by omega)))<|Nf (by exact x_index_pad rfl so33 rfl rfl (by omega) (show (((o.refs.map encStr).length : Int) - 1).toNat = o.refs.length - 1 by omega) hsl1 rfl)<|Nf (lp' Tryz.isAgg9 (hi := hsl1))<|Nf (fr' fo36_3)<|Nf (l1' Tryz.isAgg33)<|Nf (by exact x_index_pad rfl so33 rfl rfl (by omega) (show (0 : Int).toNat = 0 by rfl) hsf1 rfl)<|Nf (lp' Tryz.isAgg9 (hi := hsf1))<|Nf sn'<|Cq pf' ?_
   refine dc_nil ⟨by kernel_rfl, ?_⟩
   exact ⟨rfl, ⟨_, rfl, by rfl⟩, rfl, rfl, rfl⟩
  refine awp_drawc follows ?_
  refine Cq (fr' fo38_1)<|Cq (l1' Tryz.isAgg9)<|Cq (fr' fo38_2)<|Cq (l1' Tryz.isAgg9)<|Cq se'<|Cq mv'<|Of<|Of<|Of<|Of<|Of<|Of<|Of<|Of<|Of<|Of<|Of<|Of<|Of<|Cq pt' ?_
  refine dc_nil ⟨by kernel_rfl, ?_⟩
  exact ⟨rfl, ⟨_, rfl, by rfl⟩, rfl, rfl, rfl⟩
 refine Cn (fun hc16 => ?_) fun hc16 => ?_
 ·rw [if_pos hc16]
  refine Sq<|Rg<|Dd (bu' bo24)<|Uu (sa' Tryz.sizeOf24)<|Dd as'<|Zz<|awp_ret ?_
  refine aret2 (H' := []) (.inr rfl) rfl (rl' Tryz.isAgg24 Tryz.sizeOf24) (rval_tmp rfl) (Fin.wk (by simp) trivial trivial) ?_
  exact ⟨rfl, rfl⟩
 rw [if_neg (by rw [hc16]; decide)]
 refine awp_skip<|Sq<|Sq ?_
 refine awp_bool (t := 182) (n := 11) (X := m.any (rRef1 e.id true) || m.any (rRef1 e.other true)) ?_ ?_
 ·all_goals refine Dd (by exact opd_loadn_ref rfl Tryz.isAgg24 Tryz.sizeOf24 rfl rfl rfl rfl (by simp only [Zl, encTag, encObj, encStr, encEdit, encInt]; rfl) rfl) ?_
  all_goals refine Dd (fr' fo38_1) ?_
  all_goals refine Dd (l1' Tryz.isAgg9) ?_
  all_goals refine Dd (by exact opr_call rfl rfl Tryz.call60 rfl (referred21_c m e.id true _ hm.1 hmr)) ?_
  all_goals refine Dd mv' ?_
  all_goals refine Sp 177 (fun h177 => ?_) fun h177 => ?_
  all_goals try contradiction
  all_goals first | refine Fo ?_ | refine On (by exact opd_loadn_ref rfl Tryz.isAgg24 Tryz.sizeOf24 rfl rfl rfl rfl (by simp only [Zl, encTag, encObj, encStr, encEdit, encInt]; rfl) rfl) ?_
  all_goals first | refine Fo ?_ | refine On (fr' fo38_2) ?_
  all_goals first | refine Fo ?_ | refine On (l1' Tryz.isAgg9) ?_
  all_goals first | refine Fo ?_ | refine On (by exact opr_call rfl rfl Tryz.call60 rfl (referred21_c m e.other true _ hm.1 hmr)) ?_
  all_goals refine Dd pk' ?_
  all_goals refine al_nil ?_
  all_goals (exact ⟨⟨_, rfl, by (rw [h177]; rfl)⟩, rfl, rfl, rfl⟩)
 refine Cn (fun hc17 => ?_) fun hc17 => ?_
 ·rw [if_pos hc17]
  refine Sq<|Rg<|Dd (bu' bo24)<|Uu (sa' Tryz.sizeOf24)<|Dd as'<|Zz<|awp_ret ?_
  refine aret2 (H' := []) (.inr rfl) rfl (rl' Tryz.isAgg24 Tryz.sizeOf24) (rval_tmp rfl) (Fin.wk (by simp) trivial trivial) ?_
  exact ⟨rfl, rfl⟩
 rw [if_neg (by rw [hc17]; decide)]
 refine awp_skip<|Sq<|Sq<|Rg<|Dd (fr' fo36_3)<|Dd (l1' Tryz.isAgg33)<|Dd (ll' Tryz.underlying33)<|Dd (fr' fo36_3)<|Dd (l1' Tryz.isAgg33)<|Dd (ll' Tryz.underlying33)<|Dd ad'<|Dd gt'<|Zz ?_
 refine Cn (fun hc18 => ?_) fun hc18 => ?_
 ·rw [if_pos (decide_eq_true (by have := of_decide_eq_true hc18; omega))]
  refine Sq<|Rg<|Dd (bu' bo24)<|Uu (sa' Tryz.sizeOf24)<|Dd as'<|Zz<|awp_ret ?_
  refine aret2 (H' := []) (.inr rfl) rfl (rl' Tryz.isAgg24 Tryz.sizeOf24) (rval_tmp rfl) (Fin.wk (by simp) trivial trivial) ?_
  exact ⟨rfl, rfl⟩
 rw [if_neg (by rw [decide_eq_true_eq]; have := of_decide_eq_false hc18; omega)]
 have hjl2 : (x.refs.drop 1).length ≤ 2000 := by rw [List.length_drop]; omega
 have hwl : (gWithout m e.other).length ≤ m.length := List.length_filter_le _ _
 refine awp_skip<|Sq ?_
 refine awp_drawc follows ?_
 refine Cp [193] (fun H1 hH => by exact x_buildSlice_own (id := 193) rfl so33 rfl rfl rfl rfl (by simp) ((hH _ rfl).trans rfl))<|Cr [5] (fun _ h => fh fo36_3 h)<|Cr [5] (fun _ h => lh Tryz.isAgg33 h)<|Cp [193] (fun H1 hH => by exact x_append rfl so33 ei9 rfl ((hH _ rfl).trans rfl) rfl rfl rfl rfl rfl (strO_rl _) (List.length_map _) (by omega) (Nat.zero_add _) (by rw [← rows_of]; rfl : _ = strN o.refs))<|Cr [14] (fun _ h => fh fo36_3 h)<|Cr [14] (fun _ h => lh Tryz.isAgg33 h)<|Cr [] (fun H1 hH => by exact x_slice_sl (l := 1) (h := (x.refs.map encStr).length) (rows' := (x.refs.drop 1).map encStr) rfl so33 rfl (strO_rl x.refs) rfl rfl (by omega) (Nat.le_refl _) (by rw [List.take_length]; exact List.map_drop.symm))<|Cp [193] (fun H1 hH => by exact x_append rfl so33 ei9 rfl ((hH _ rfl).trans rfl) rfl rfl rfl (List.length_map _) rfl (strO_rl _) (List.length_map _) (by omega) List.length_append.symm (by rw [← rows_of]; exact List.map_append.symm : _ = strN (o.refs ++ x.refs.drop 1))) ?_
 refine Cr [5] (fun _ h => fh fo36_3 h)<|Cp [193, 5] (fun H1 hH => by exact x_store1 rfl Tryz.sizeOf33 rfl rfl rfl ((hH _ rfl).trans rfl) rfl rfl (Nat.le_of_ble_eq_true rfl) rfl rfl) ?_
 refine dc_nil ⟨by kernel_rfl, ?_⟩
 refine Sq ?_
 refine AWp.ent (Ent.fzG (id := 193) (E' := [(3, .ref 3 0 0 0), (4, .ref 4 0 0 0), (5, .ref 5 0 0 0), (6, .ref 6 0 0 0)]) (H' := [(6, bx 1 24 [.pv (.sl [])]), (5, bx 6 36 ((encObj ⟨o.id, o.kind, o.x, o.y, o.refs ++ x.refs.drop 1, o.tags⟩).map .pv)), (4, bx 15 38 ((encEdit e).map .pv)), (3, bx 1 24 [.pv (slObjs m)])]) ((o.refs ++ x.refs.drop 1).map encStr) rfl (rows_of encStr _) ?_ rfl ?_ ?_) ?_
 ·intro p hp
  simp only [List.mem_cons, List.not_mem_nil, or_false] at hp
  rcases hp with rfl | rfl | rfl | rfl <;> exact ⟨_, rfl, .same (by simp; rfl)⟩
 ·refine ⟨⟨_, rfl, rfl, rfl, rfl, fzr_same (by simp)⟩, ⟨_, rfl, rfl, rfl, rfl, fzr_one rfl (fz_cons (.same (by simp)) (fz_cons (.same (by simp)) (fz_cons (.same (by simp)) (fz_cons (.same (by simp)) (fz_cons (.osl (takeStr _ rfl)) (fz_cons (.same (by simp)) fz_nil))))))⟩, ⟨_, rfl, rfl, rfl, rfl, fzr_same (by simp)⟩, ⟨_, rfl, rfl, rfl, rfl, fzr_same (by simp)⟩, trivial⟩
 ·exact trivial
 refine awp_drawc follows ?_
 refine Cr [3] (fun H1 hH => by exact opd_loadn_ref rfl Tryz.isAgg24 Tryz.sizeOf24 rfl ((hH _ rfl).trans rfl) rfl rfl (by simp only [Zl, encTag, encObj, encStr, encEdit, encInt]; rfl) rfl)<|Cr [4] (fun _ h => fh fo38_2 h)<|Cr [4] (fun _ h => lh Tryz.isAgg9 h)<|Cr [] (fun H1 hH => by exact opr_call rfl rfl Tryz.call61 rfl (without_c m e.other _ (by omega)))<|Cr [5] (fun H1 hH => by exact opd_loadn_ref rfl Tryz.isAgg36 Tryz.sizeOf36 rfl ((hH _ rfl).trans rfl) rfl rfl (by simp only [Zl, encTag, encObj, encStr, encEdit, encInt]; rfl) rfl)<|Cr [] (fun H1 hH => by exact opr_call rfl rfl Tryz.call28 rfl (put21_c (gWithout m e.other) ⟨o.id, o.kind, o.x, o.y, o.refs ++ x.refs.drop 1, o.tags⟩ _ (by omega)))<|Cp [6] (fun H1 hH => by exact x_store_all rfl Tryz.sizeOf24 rfl rfl rfl rfl ((hH _ rfl).trans rfl) rfl rfl rfl)<|Cr [] (fun _ _ => as') ?_
 refine dc_nil ⟨by kernel_rfl, ?_⟩
 refine awp_ret ?_
 refine aret2 (H' := []) (.inr rfl) rfl (rl' Tryz.isAgg24 Tryz.sizeOf24) (rval_tmp rfl) (Fin.wk (by simp) trivial trivial) ?_
 exact ⟨rfl, rfl⟩
end Go.Proofs.YtbbnllojhjlaoaaGreat
end
