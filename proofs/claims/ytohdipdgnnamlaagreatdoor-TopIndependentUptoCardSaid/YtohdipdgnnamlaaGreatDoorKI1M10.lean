/-
  PLAIN: two lists of edits without a common name, in both orders, and merged. Conditions: none.
  PLAIN: what an edit does to the object that it names (for EditMeans). Conditions: none.
  CONTRACTS: planispheretop.w11Tag, w11Moved (answers true), planisphereref20.Few in the empty world, w11Apart. Conditions: the arguments' sizes.
  CONTRACTS: planispheretop.w11Apart, w11Moved (answers true). Conditions: the arguments' sizes.
  CONTRACT: planispheretop.w11Moved answers true. Conditions: none.
  CONTRACT: TopIndependent answers true. Conditions: the arguments' sizes.
-/
import Derived.Test.YtohdipdgnnamlaaGreatDoorKI1M9
section
set_option linter.unusedVariables false
set_option linter.unusedSimpArgs false
set_option maxRecDepth 100000
set_option maxHeartbeats 1000000
namespace Go.Proofs.YtohdipdgnnamlaaGreatDoor
open Go.Abs
theorem perf_same {m a : List GObj} {y : GEdit} {r r' : GRes} (h : Perf m y r) (h' : Perf a y r') (hl : ∀ s, raw y s → look a s = look m s) : r' = r := by
 have hi := hl y.id (.inl rfl)
 have ho2 := hl y.other (.inr (.inl rfl))
 cases h <;> cases h' <;> first | rfl | (exfalso; omega) | (simp_all; done)
/-- A name of one of the edits. -/
def nmL (l : List GEdit) (s : ByteArray) : Prop := ∃ e, e ∈ l ∧ s ∈ gNames e
theorem sup_names {m : List GObj} {e : GEdit} {r : GRes} (hv : gEditV e = true) (h : Perf m e r) {s : ByteArray} (hs : sup r s) : s ∈ gNames e := by
 obtain ⟨n1, n2, _⟩ := perf_names hv h
 rcases hs with ⟨o, ho, e⟩ | ⟨h1, e⟩
 ·rw [← e]; exact n1 o ho
 rcases n2 with h | h
 ·exact absurd h h1
 rw [e]; exact h
/-- One edit in two maps that agree on its names. -/
theorem one_step {m a : List GObj} {e : GEdit} (hcm : closedB m = true) (hca : closedB a = true) (h1 : (gAfter m e).2 = 0) (h2 : (gAfter a e).2 = 0) (hl : ∀ s, s ∈ gNames e → look a s = look m s) :
  (∀ s, look a s = look m s → look (gAfter a e).1 s = look (gAfter m e).1 s) ∧ (∀ s, s ∉ gNames e → look (gAfter m e).1 s = look m s) ∧ (∀ s, s ∉ gNames e → look (gAfter a e).1 s = look a s) := by
 have hgm := closed_gMap hcm
 have hga := closed_gMap hca
 have um := (gMap_iff.1 hgm).2.1
 have ua := (gMap_iff.1 hga).2.1
 obtain ⟨x1, x2, x3, x4, x5, x6⟩ := after_ok hgm h1
 obtain ⟨y1, y2, y3, y4, y5, y6⟩ := after_ok hga h2
 have px := perf_of x1 x2
 have py := perf_of y1 y2
 have hr : ∀ s, raw e s → look a s = look m s := fun s hs => by
  by_cases hn : s = sNil
  ·rw [hn, look_nil hga, look_nil hgm]
  exact hl s ((names_mem x1).2 ⟨hs, hn⟩)
 have hrr := perf_same px py hr
 have lm : ∀ s, look (gAfter m e).1 s = toF (gPerform m e) (look m) s := fun s => by rw [x3]; exact look_to um x6
 have la : ∀ s, look (gAfter a e).1 s = toF (gPerform a e) (look a) s := fun s => by rw [y3]; exact look_to ua y6
 refine ⟨fun s hs => ?_, fun s hs => ?_, fun s hs => ?_⟩
 ·rw [lm, la, hrr]
  by_cases h : sup (gPerform m e) s
  ·exact toF_in h
  rw [toF_out h, toF_out h, hs]
 ·rw [lm, toF_out fun h => hs (sup_names x1 px h)]
 rw [la, toF_out fun h => hs (sup_names y1 py h)]
theorem from_cons {m : List GObj} {i : Nat} {e : GEdit} {l : List GEdit} (h : (gAllFrom m i (e :: l)).2.2 = 0) : (gAfter m e).2 = 0 ∧ gAllFrom m i (e :: l) = gAllFrom (gAfter m e).1 (i + 1) l := by
 rw [gAllFrom] at h ⊢
 by_cases h0 : (gAfter m e).2 = 0
 ·rw [if_neg (by simp [h0])]
  exact ⟨h0, rfl⟩
 rw [if_pos (by simp [h0])] at h
 exact absurd h h0
/-- A list of edits in two maps that agree on its names. -/
theorem two_runs : ∀ (l : List GEdit) (m a : List GObj) (i j : Nat), closedB m = true → closedB a = true → (gAllFrom m i l).2.2 = 0 → (gAllFrom a j l).2.2 = 0 → (∀ s, nmL l s → look a s = look m s) →
  (∀ s, look a s = look m s → look (gAllFrom a j l).1 s = look (gAllFrom m i l).1 s) ∧ (∀ s, ¬ nmL l s → look (gAllFrom m i l).1 s = look m s) ∧ (∀ s, ¬ nmL l s → look (gAllFrom a j l).1 s = look a s)
 | [], m, a, i, j, _, _, _, _, _ => ⟨fun s h => h, fun s _ => rfl, fun s _ => rfl⟩
 | e :: l, m, a, i, j, hcm, hca, h1, h2, hl => by
  obtain ⟨e1, f1⟩ := from_cons h1
  obtain ⟨e2, f2⟩ := from_cons h2
  rw [f1] at h1 ⊢
  rw [f2] at h2 ⊢
  obtain ⟨s1, s2, s3⟩ := one_step hcm hca e1 e2 (fun s hs => hl s ⟨e, List.mem_cons_self, hs⟩)
  obtain ⟨t1, t2, t3⟩ := two_runs l (gAfter m e).1 (gAfter a e).1 (i + 1) (j + 1) (after_closed hcm e1) (after_closed hca e2) h1 h2 (fun s ⟨x, hx, hs⟩ => s1 s (hl s ⟨x, List.mem_cons_of_mem _ hx, hs⟩))
  refine ⟨fun s hs => t1 s (s1 s hs), fun s hs => ?_, fun s hs => ?_⟩
  ·rw [t2 s (fun ⟨x, hx, h⟩ => hs ⟨x, List.mem_cons_of_mem _ hx, h⟩), s2 s (fun h => hs ⟨e, List.mem_cons_self, h⟩)]
  rw [t3 s (fun ⟨x, hx, h⟩ => hs ⟨x, List.mem_cons_of_mem _ hx, h⟩), s3 s (fun h => hs ⟨e, List.mem_cons_self, h⟩)]
theorem from_closed : ∀ (l : List GEdit) (m : List GObj) (i : Nat), closedB m = true → (gAllFrom m i l).2.2 = 0 → closedB (gAllFrom m i l).1 = true
 | [], m, i, h, _ => h
 | e :: l, m, i, hc, h => by
  obtain ⟨e1, f1⟩ := from_cons h
  rw [f1] at h ⊢
  exact from_closed l _ _ (after_closed hc e1) h
theorem gAll_at {m : List GObj} {l : List GEdit} (h : (gAll m l).2.2 = 0) : closedB m = true ∧ gAll m l = gAllFrom m 0 l := by
 rw [gAll] at h ⊢
 by_cases hc : closedB m = true
 ·rw [if_pos hc]; exact ⟨hc, rfl⟩
 rw [if_neg hc] at h
 cases h
/-- Both orders, and what the merge needs to know. -/
theorem indep {m : List GObj} {one two : List GEdit} (hd : ∀ s, nmL one s → ¬ nmL two s) (h1 : (gAll m one).2.2 = 0) (h2 : (gAll m two).2.2 = 0) (h3 : (gAll (gAll m one).1 two).2.2 = 0) (h4 : (gAll (gAll m two).1 one).2.2 = 0) :
  (gAll (gAll m one).1 two).1 = (gAll (gAll m two).1 one).1 ∧ closedB m = true ∧ closedB (gAll m one).1 = true ∧ closedB (gAll m two).1 = true ∧ closedB (gAll (gAll m one).1 two).1 = true ∧
  (∀ s, tidy (look m s) (look (gAll m one).1 s) (look (gAll m two).1 s)) ∧ (∀ s, look (gAll (gAll m one).1 two).1 s = mgS m (gAll m one).1 (gAll m two).1 s) ∧ (∀ s, look (gAll (gAll m one).1 two).1 s = mgS m (gAll m two).1 (gAll m one).1 s) := by
 obtain ⟨hc, g1⟩ := gAll_at h1
 obtain ⟨_, g2⟩ := gAll_at h2
 obtain ⟨hca, g3⟩ := gAll_at h3
 obtain ⟨hcb, g4⟩ := gAll_at h4
 obtain ⟨A, hA⟩ : ∃ A, A = (gAll m one).1 := ⟨_, rfl⟩
 obtain ⟨B, hB⟩ : ∃ B, B = (gAll m two).1 := ⟨_, rfl⟩
 rw [← hA] at h3 hca g3 ⊢
 rw [← hB] at h4 hcb g4 ⊢
 rw [g1] at h1 hA
 rw [g2] at h2 hB
 rw [g3] at h3 ⊢
 rw [g4] at h4 ⊢
 have oA : ∀ s, ¬ nmL one s → look A s = look m s := fun s hs => by rw [hA]; exact (two_runs one m m 0 0 hc hc h1 h1 (fun _ _ => rfl)).2.1 s hs
 have oB : ∀ s, ¬ nmL two s → look B s = look m s := fun s hs => by rw [hB]; exact (two_runs two m m 0 0 hc hc h2 h2 (fun _ _ => rfl)).2.1 s hs
 have dB : ∀ s, nmL one s → look B s = look m s := fun s hs => oB s (hd s hs)
 have dA : ∀ s, nmL two s → look A s = look m s := fun s hs => oA s (fun h => hd s h hs)
 obtain ⟨p1, _, p3⟩ := two_runs two m A 0 0 hc hca h2 h3 dA
 obtain ⟨q1, _, q3⟩ := two_runs one m B 0 0 hc hcb h1 h4 dB
 rw [← hB] at p1
 rw [← hA] at q1
 have cx := from_closed two A 0 hca h3
 have cy := from_closed one B 0 hcb h4
 have lx1 : ∀ s, nmL one s → look (gAllFrom A 0 two).1 s = look A s := fun s hs => p3 s (hd s hs)
 have lx2 : ∀ s, ¬ nmL one s → look (gAllFrom A 0 two).1 s = look B s := fun s hs => p1 s (oA s hs)
 have ly1 : ∀ s, nmL one s → look (gAllFrom B 0 one).1 s = look A s := fun s hs => q1 s (dB s hs)
 have ly2 : ∀ s, ¬ nmL one s → look (gAllFrom B 0 one).1 s = look B s := fun s hs => q3 s hs
 refine ⟨map_ext (gMap_iff.1 (closed_gMap cx)).2.1 (gMap_iff.1 (closed_gMap cy)).2.1 fun s => ?_, hc, hca, hcb, cx, fun s => ?_, fun s => ?_, fun s => ?_⟩
 ·by_cases h : nmL one s
  ·rw [lx1 s h, ly1 s h]
  rw [lx2 s h, ly2 s h]
 ·by_cases h : nmL one s
  ·exact .inr (.inl (dB s h))
  exact .inr (.inr (oA s h))
 ·by_cases h : nmL one s
  ·rw [lx1 s h, mgS, mgO, dB s h]
   by_cases e : look A s = look m s
   ·rw [if_pos e]
   rw [if_neg e, if_pos rfl]
  rw [lx2 s h, mgS, mgO, oA s h]
  by_cases e : look m s = look B s
  ·rw [if_pos e, e]
  rw [if_neg e, if_neg (fun e2 => e e2.symm)]
 by_cases h : nmL one s
 ·rw [lx1 s h, mgS, mgO, dB s h]
  by_cases e : look m s = look A s
  ·rw [if_pos e, e]
  rw [if_neg e, if_neg (fun e2 => e e2.symm)]
 rw [lx2 s h, mgS, mgO, oA s h]
 by_cases e : look B s = look m s
 ·rw [if_pos e]
 rw [if_neg e, if_pos rfl]
theorem refs_look {x : List GObj} (hc : closedB x = true) : ∀ o ∈ x, o.refs.length < 1099511627776 ∧ ∀ s ∈ o.refs, (look x s).isSome = true := fun o ho => by
 have hg := closed_gMap hc
 have hl := gObj_len ((gMap_iff.1 hg).1 o ho)
 refine ⟨by omega, fun s hs => ?_⟩
 obtain ⟨i, hi⟩ := List.mem_iff_getElem?.1 hs
 have h := (closed_iff.1 hc).2 o ho i s hi
 rw [kindOf_look] at h
 cases e : look x s with
 | none => rw [e] at h; cases h
 | some y => rfl
theorem name_size {s : ByteArray} (h : gName s = true) : s.size ≤ 24 := by
 rw [gName, Bool.and_eq_true, Bool.and_eq_true, decide_eq_true_eq] at h
 omega
theorem gObj_refs {o : GObj} (h : gObj o = true) : ∀ s ∈ o.refs, gName s = true := fun s hs => by
 rw [gObj, Bool.and_eq_true, Bool.and_eq_true, Bool.not_eq_true', Bool.not_eq_true'] at h
 obtain ⟨i, hi⟩ := List.mem_iff_getElem?.1 hs
 have hlt := (List.getElem?_eq_some_iff.1 hi).1
 have h1 := List.any_eq_false.1 h.2.1 i (List.mem_range.2 hlt)
 rw [wrongAt, hi] at h1
 simp only [gWrong, Bool.or_eq_true, not_or, Bool.not_eq_true, Bool.not_eq_false'] at h1
 exact h1.2
theorem joined_bd {n : Nat} (hn : n < 4611686018427387904) : ∀ (l : List ByteArray), (∀ s ∈ l, s.size ≤ n) → (joinedL l).length ≤ (22 + n) * l.length
 | [], _ => Nat.le_refl _
 | s :: r, h => by
  have ih := joined_bd hn r (fun x hx => h x (List.mem_cons_of_mem _ hx))
  have hs := h s List.mem_cons_self
  have h1 : joinedL (s :: r) = (pieceB s).data.toList ++ joinedL r := by rw [joinedL, List.flatMap_cons]; rfl
  have h2 := itoaB_size (n := (s.size : Int)) (by omega) (by omega)
  rw [h1, List.length_append, List.length_cons, size_toList, pieceB_size, Nat.mul_succ]
  omega
theorem word_size (k : Int) : (gWord k).size ≤ 5 := by
 unfold gWord
 repeat' split
 all_goals decide
theorem okD_of {o : GObj} (h : gObj o = true) (ho : okO o) : okD o := by
 obtain ⟨h1, h2, h3, h4, _⟩ := gObj_len h
 refine ⟨ho, by omega, by omega, ?_⟩
 obtain ⟨hx, hy⟩ := gObj_xy h
 have hsz : ∀ s ∈ objWords o, s.size ≤ 200 := by
  intro s hs
  rw [objWords] at hs
  rcases List.mem_append.1 hs with hs | hs
  ·rcases List.mem_append.1 hs with hs | hs
   ·simp only [List.mem_cons, List.not_mem_nil, or_false] at hs
    rcases hs with rfl | rfl | rfl | rfl | rfl
    ·have := word_size o.kind; omega
    ·have := name_size h4; omega
    ·have := itoaB_size (n := o.x) (by omega) (by omega); omega
    ·have := itoaB_size (n := o.y) (by omega) (by omega); omega
    have := itoaB_size (n := (o.refs.length : Int)) (by omega) (by omega); omega
   have := name_size (gObj_refs h s hs); omega
  obtain ⟨t, ht, hs⟩ := List.mem_flatMap.1 hs
  obtain ⟨t1, t2, t3⟩ := (gTags_iff.1 h3).1 t ht
  simp only [List.mem_cons, List.not_mem_nil, or_false] at hs
  rcases hs with rfl | rfl
  ·have := name_size t1; omega
  exact t3
 have hb := joined_bd (n := 200) (by decide) (objWords o) hsz
 have hlen : (objWords o).length = 5 + o.refs.length + 2 * o.tags.length := by
  rw [objWords, List.length_append, List.length_append, flat_len]
  rfl
 rw [hlen] at hb
 omega
end Go.Proofs.YtohdipdgnnamlaaGreatDoor
end
section
set_option linter.unusedVariables false
set_option linter.unusedSimpArgs false
set_option maxRecDepth 100000
set_option maxHeartbeats 1000000
namespace Go.Proofs.YtohdipdgnnamlaaGreatDoor
open Go.Abs
/-- The old object with what an edit of its kind changes. -/
def Means (nx : List GObj) (e : GEdit) (o o' : GObj) : Prop :=
  (e.op = 2 ∧ o' = ⟨o.id, o.kind, e.x, e.y, o.refs, o.tags⟩) ∨
  (e.op = 3 ∧ o' = ⟨o.id, o.kind, o.x, o.y, o.refs, o'.tags⟩ ∧ (∀ t, t ∈ o'.tags → t.key = e.key → t.val = e.val) ∧ (e.val ≠ sNil → ∃ t, t ∈ o'.tags ∧ t.key = e.key)) ∨
  (e.op = 4 ∧ o' = ⟨o.id, o.kind, o.x, o.y, e.refs, o.tags⟩) ∨
  (e.op = 6 ∧ (∃ y, look nx e.other = some y) ∧ o' = ⟨o.id, o.kind, o.x, o.y, o'.refs, o.tags⟩) ∨
  (e.op = 7 ∧ look nx e.other = none ∧ o' = ⟨o.id, o.kind, o.x, o.y, o'.refs, o.tags⟩)
end Go.Proofs.YtohdipdgnnamlaaGreatDoor
end
section
set_option linter.unusedVariables false
set_option linter.unusedSimpArgs false
set_option maxRecDepth 100000
set_option maxHeartbeats 1000000
namespace Go.Proofs.YtohdipdgnnamlaaGreatDoor
open Go.Abs
def edTag (id key val : ByteArray) : GEdit := ⟨3, id, sNil, sNil, 0, 0, key, val, [], zObj⟩
theorem w11Tag_c (id key val : ByteArray) (H : Heap) : ACalls Tryz.prog 14 [sv id, sv key, sv val] H (fun r H' => r = av (encEdit (edTag id key val)) ∧ H' = H) := by
 refine ACalls.pure ?_ (by simp) H
 refine Bd Tryz.func14 rfl Tryz.ntmps14<|Sq<|Rg<|Dd (by exact x_alloc (id := 6) rfl zo53 rfl rfl)<|Zz<|Sq<|Rg<|Dd mv'<|Dd mv'<|Dd mv'<|Dd (bu' bo53)<|Uu (sa' Tryz.sizeOf53)<|Zz<|awp_ret ?_
 refine aret1 (H' := []) (.inr rfl) rfl (rl' Tryz.isAgg53 Tryz.sizeOf53) (Fin.wk (r := av (encEdit (edTag id key val))) (by simp) trivial trivial) ?_
 exact ⟨rfl, rfl⟩
def wZero : List AV := [.pv (.sl []), .pv (.sl []), .pv (.sl []), .pv (.int .i64 0), .pv (.sl []), .pv (.sl [])]
theorem rules_c (n : Int) (hn : 0 ≤ n) (H : Heap) : ACalls Tryz.prog 16 [.pv (.sl []), iv n] H (fun r H' => r = bv true ∧ H' = H) := by
 refine ACalls.pure ?_ (by simp) H
 refine Bd Tryz.func16 rfl Tryz.ntmps16<|Sq<|Rg<|Dd as'<|Zz<|Sq<|Sq<|Rg<|Dd as'<|Zz<|awp_block ?_
 refine awp_loop (σ := Unit) (fun _ => ([(0, .pv (.sl [])), (1, iv n), (5, iv 0)], [])) (fun _ => True) (fun _ => 0) () trivial ?_ ?_
 ·exact E0
 rintro _ _
 refine Sq<|Sq<|Rg<|Dd mv'<|Dd mv'<|Dd (ll' Tryz.underlying29)<|Dd lss'<|Zz ?_
 refine Cn (fun hc1 => ?_) fun hc1 => ?_
 ·skip
  cases hc1
 skip
 refine awp_exit<|Sq<|Rg<|Dd mv'<|Dd (ll' Tryz.underlying29)<|Dd mv'<|Dd le'<|Dd as'<|Zz<|awp_ret ?_
 refine Rt ?_
 exact ⟨by rw [show decide (((([] : List (List PV)).length : Nat) : Int) ≤ n) = true from decide_eq_true hn], rfl⟩
theorem few20_c (m : List GObj) (n : Int) (H : Heap) (hm : m.length < 4611686018427387904) (ho : ∀ o, o ∈ m → okObj o) :
  ACalls Tryz.prog 5 [.agg [.pv (slObjs m)], .agg wZero, iv n] H (fun r H' => r = bv (few13 m n) ∧ H' = H) := by
 refine ACalls.pure ?_ (by simp [wZero]) H
 refine Bd Tryz.func5 rfl Tryz.ntmps5<|Sq<|Rg<|Dd (by exact opd_box (id := 3) rfl rfl rfl rfl rfl)<|Dd (by exact opd_box (id := 4) rfl rfl rfl rfl rfl)<|Dd as'<|Zz<|Sq<|Sq<|Rg<|Dd as'<|Zz<|awp_block ?_
 refine awp_loop (σ := Unit) (fun _ => ([(2, iv n), (3, .ref 3 0 0 0), (4, .ref 4 0 0 0), (7, iv 0)], [(4, bx 6 31 wZero), (3, bx 1 24 [.pv (slObjs m)])])) (fun _ => True) (fun _ => 0) () trivial ?_ ?_
 ·exact (Ent.wk ⟨⟨_, rfl, rfl⟩, (by (simp [wZero]; done)), ⟨_, rfl, rfl⟩, (by (simp; rfl)), ⟨_, rfl, rfl⟩, (by (simp; rfl)), ⟨_, rfl, rfl⟩, (by (simp [wZero]; done)), trivial⟩ ⟨⟨_, rfl, rfl⟩, (by (simp [wZero]; done)), ⟨_, rfl, rfl⟩, (by (simp [wZero]; done)), trivial⟩ trivial)
 rintro _ _
 refine Sq<|Sq<|Rg<|Dd mv'<|Dd (fr' fo31_4)<|Dd (l1' Tryz.isAgg27)<|Dd (ll' Tryz.underlying27)<|Dd lss'<|Zz ?_
 refine Cn (fun hc1 => ?_) fun hc1 => ?_
 ·skip
  cases hc1
 skip
 refine awp_exit<|Sq ?_
 refine awp_bool (t := 6) (n := 17) (X := few13 m n) ?_ ?_
 ·all_goals refine Dd (by exact opd_loadn_ref rfl Tryz.isAgg24 Tryz.sizeOf24 rfl rfl rfl rfl (by simp only [Zl, encTag, encObj, encStr, encEdit, encInt, zObj]; rfl) rfl) ?_
  all_goals refine Dd mv' ?_
  all_goals refine Dd (by exact opr_call rfl rfl Tryz.call15 rfl (few13_c m n _ hm ho)) ?_
  all_goals refine Dd mv' ?_
  all_goals refine Sp 25 (fun h25 => ?_) fun h25 => ?_
  all_goals try contradiction
  all_goals first | refine Fo ?_ | refine On (fr' fo31_4) ?_
  all_goals first | refine Fo ?_ | refine On (l1' Tryz.isAgg27) ?_
  all_goals first | refine Fo ?_ | refine On (ll' Tryz.underlying27) ?_
  all_goals first | refine Fo ?_ | refine On le' ?_
  all_goals refine Dd pk' ?_
  all_goals refine Dd mv' ?_
  all_goals refine Sp 31 (fun h31 => ?_) fun h31 => ?_
  all_goals try contradiction
  all_goals first | refine Fo ?_ | refine On (fr' fo31_5) ?_
  all_goals first | refine Fo ?_ | refine On (l1' Tryz.isAgg29) ?_
  all_goals first | refine Fo ?_ | refine On (by exact opr_call rfl rfl Tryz.call16 rfl (rules_c 5 (by decide) _)) ?_
  all_goals refine Dd pk' ?_
  all_goals refine Dd as' ?_
  all_goals refine al_nil ?_
  all_goals (exact ⟨⟨_, rfl, by (simp_all; done)⟩, rfl, rfl, rfl⟩)
 refine awp_ret ?_
 refine Rt ?_
 exact ⟨rfl, rfl⟩
end Go.Proofs.YtohdipdgnnamlaaGreatDoor
end
section
set_option linter.unusedVariables false
set_option linter.unusedSimpArgs false
set_option maxRecDepth 100000
set_option maxHeartbeats 1000000
namespace Go.Proofs.YtohdipdgnnamlaaGreatDoor
open Go.Abs
def apN (l : List GEdit) : List ByteArray := l.foldl (fun N e => addAll N (gNames e)) []
theorem apN_snoc {l : List GEdit} {i : Nat} {e : GEdit} (h : l[i]? = some e) : apN (l.take (i + 1)) = addAll (apN (l.take i)) (gNames e) := by
 rw [apN, List.take_add_one, h, List.foldl_append]; rfl
theorem apAll_snoc {N l : List ByteArray} {k : Nat} {s : ByteArray} (h : l[k]? = some s) : addAll N (l.take (k + 1)) = sput (addAll N (l.take k)) s := by
 rw [addAll, List.take_add_one, h, List.foldl_append]; rfl
theorem apN_len {e : GEdit} (h : e.refs.length + e.obj.refs.length < 1099511627776) : (gNames e).length < 4611686018427387904 := by
 unfold gNames
 split
 ·rw [sortS_length]
  have h1 := List.length_filter_le nonE (idsOf e)
  have h2 := addAll_len e.obj.refs (addAll (addAll [] [e.id, e.other, e.node, e.obj.id]) e.refs)
  have h3 := addAll_len e.refs (addAll [] [e.id, e.other, e.node, e.obj.id])
  have h4 := addAll_len [e.id, e.other, e.node, e.obj.id] []
  have h5 : ([e.id, e.other, e.node, e.obj.id] : List ByteArray).length = 4 := rfl
  have h6 : ([] : List ByteArray).length = 0 := rfl
  have h7 : (idsOf e).length = (addAll (addAll (addAll [] [e.id, e.other, e.node, e.obj.id]) e.refs) e.obj.refs).length := rfl
  omega
 show 0 < _; omega
theorem apIn_iff {l : List ByteArray} {s : ByteArray} : inB l s = true ↔ s ∈ l := by
 rw [inB, List.any_eq_true]
 constructor
 ·rintro ⟨x, hx, e⟩
  rw [← of_decide_eq_true e]; exact hx
 intro h
 exact ⟨s, h, decide_eq_true rfl⟩
theorem apN_mem {l : List GEdit} {s : ByteArray} : ∀ N : List ByteArray, (s ∈ l.foldl (fun N e => addAll N (gNames e)) N ↔ s ∈ N ∨ nmL l s) := by
 induction l with
 | nil => exact fun N => ⟨.inl, fun h => h.elim id fun ⟨_, h, _⟩ => by cases h⟩
 | cons e l ih =>
  intro N
  rw [List.foldl_cons, ih, addAll_mem]
  constructor
  ·rintro ((h | h) | ⟨x, hx, h⟩)
   ·exact .inl h
   ·exact .inr ⟨e, List.mem_cons_self, h⟩
   exact .inr ⟨x, List.mem_cons_of_mem _ hx, h⟩
  rintro (h | ⟨x, hx, h⟩)
  ·exact .inl (.inl h)
  rcases List.mem_cons.1 hx with rfl | hx
  ·exact .inl (.inr h)
  exact .inr ⟨x, hx, h⟩
def apB (l m : List GEdit) : Bool := !(m.any fun e => (gNames e).any (inB (apN l)))
theorem apB_true {l m : List GEdit} (h : apB l m = true) : ∀ s, nmL l s → ¬ nmL m s := by
 rintro s h1 ⟨e, he, hs⟩
 rw [apB, Bool.not_eq_true'] at h
 have h2 : (m.any fun e => (gNames e).any (inB (apN l))) = true := List.any_eq_true.2 ⟨e, he, List.any_eq_true.2 ⟨s, hs, apIn_iff.2 ((apN_mem (l := l) []).2 (.inr h1))⟩⟩
 rw [h] at h2
 cases h2
def okA (l : List GEdit) : Prop := l.length < 4611686018427387904 ∧ ∀ e, e ∈ l → okE e ∧ e.refs.length + e.obj.refs.length < 1099511627776
theorem apart_c (l m : List GEdit) (H : Heap) (hl : okA l) (hm : okA m) : ACalls Tryz.prog 8 [.pv (slEdits l), .pv (slEdits m)] H (fun r H' => r = bv (apB l m) ∧ H' = H) := by
 refine ACalls.pure ?_ (by simp) H
 have hlm : (l.map encEdit).length = l.length := List.length_map _
 have hmm : (m.map encEdit).length = m.length := List.length_map _
 have hl1 := hl.1
 have hm1 := hm.1
 refine Bd Tryz.func8 rfl Tryz.ntmps8<|Sq<|Rg<|Dd as'<|Zz<|Sq<|Rg<|Dd (by exact opd_makeMap (id := 12) strK rfl rfl)<|Dd as'<|Zz<|Sq<|Sq<|Rg<|Dd as'<|Zz<|awp_block ?_
 refine awp_loop (σ := Nat) (fun i => ([(0, .pv (slEdits l)), (1, .pv (slEdits m)), (4, bv false), (5, .mp 12 0), (6, iv (i : Int))], [(12, sob (apN (l.take i)))])) (fun i => i ≤ l.length) (fun i => l.length - i) 0 (by omega) ?_ ?_
 ·exact (Ent.wk ⟨⟨_, rfl, rfl⟩, (by (simp; done)), ⟨_, rfl, rfl⟩, (by (simp; done)), ⟨_, rfl, rfl⟩, (by (simp; done)), ⟨_, rfl, rfl⟩, (by (simp; rfl)), ⟨_, rfl, rfl⟩, (by (simp; done)), trivial⟩ ⟨⟨_, rfl, rfl⟩, (by exact sobN_clo _ _), trivial⟩ trivial)
 rintro i hi
 refine Sq<|Sq<|Rg<|Dd mv'<|Dd mv'<|Dd (ll' Tryz.underlying25)<|Dd lss'<|Zz ?_
 refine Cn (fun hc1 => ?_) fun hc1 => ?_
 ·have hil : i < l.length := by have := of_decide_eq_true hc1; omega
  obtain ⟨e, he⟩ := get_of_lt hil
  have hi1 := map_get (f := encEdit) he
  have hem := hl.2 e (List.mem_of_getElem? he)
  have hnl := apN_len hem.2
  have hnm : ((gNames e).map encStr).length = (gNames e).length := List.length_map _
  refine awp_skip<|Sq<|awp_block<|Sq<|Rg<|Dd mv'<|Dd mv'<|Dd (by exact x_index_pad rfl so25 rfl rfl (by omega) (by exact Int.toNat_natCast _) hi1 rfl)<|Dd (by exact opd_loadn_pad rfl Tryz.isAgg53 Tryz.sizeOf53 rfl hi1 (by simp only [Zl, encTag, encObj, encStr, encEdit, encInt]; rfl) rfl)<|Dd (by exact opr_call rfl rfl Tryz.call20 rfl (names_cE e _ hem.1 hem.2))<|Dd as'<|Zz<|Sq<|Rg<|Dd as'<|Zz<|awp_block ?_
  refine awp_loop (σ := Nat) (fun k => ([(0, .pv (slEdits l)), (1, .pv (slEdits m)), (4, bv false), (5, .mp 12 0), (6, iv (i : Int)), (7, .pv (slStrs (gNames e))), (8, iv (k : Int))], [(12, sob (addAll (apN (l.take i)) ((gNames e).take k)))])) (fun k => k ≤ (gNames e).length) (fun k => (gNames e).length - k) 0 (by omega) ?_ ?_
  ·exact (Ent.wk ⟨⟨_, rfl, rfl⟩, (by (simp; done)), ⟨_, rfl, rfl⟩, (by (simp; done)), ⟨_, rfl, rfl⟩, (by (simp; done)), ⟨_, rfl, rfl⟩, (by (simp; rfl)), ⟨_, rfl, rfl⟩, (by (simp; done)), ⟨_, rfl, rfl⟩, (by (simp; done)), ⟨_, rfl, rfl⟩, (by (simp; done)), trivial⟩ ⟨⟨_, rfl, rfl⟩, (by exact sobN_clo _ _), trivial⟩ trivial)
  rintro k hk
  refine Sq<|Sq<|Rg<|Dd mv'<|Dd mv'<|Dd (ll' Tryz.underlying27)<|Dd lss'<|Zz ?_
  refine Cn (fun hc2 => ?_) fun hc2 => ?_
  ·have hkl : k < (gNames e).length := by have := of_decide_eq_true hc2; omega
   obtain ⟨s, hsk⟩ := get_of_lt hkl
   have hi2 := map_get (f := encStr) hsk
   refine awp_skip<|Sq<|awp_block<|Rg<|Dd mv'<|Dd mv'<|Dd mv'<|Dd (by exact x_index_pad rfl so27 rfl rfl (by omega) (by exact Int.toNat_natCast _) hi2 rfl)<|Dd (lp' Tryz.isAgg9 (hi := hi2))<|Uu (by exact x_put_set (.inl rfl) Tryz.underlying59 Tryz.underlying9 rfl rfl rfl rfl rfl rfl rfl)<|Zz<|Rg<|Dd mv'<|Dd ad'<|Dd as'<|Zz ?_
   refine ⟨k + 1, by omega, by omega, ?_⟩
   rw [apAll_snoc hsk]
   exact (Ent.wk ⟨⟨_, rfl, rfl⟩, (by (simp; done)), ⟨_, rfl, rfl⟩, (by (simp; done)), ⟨_, rfl, rfl⟩, (by (simp; done)), ⟨_, rfl, rfl⟩, (by (simp; rfl)), ⟨_, rfl, rfl⟩, (by (simp; done)), ⟨_, rfl, rfl⟩, (by (simp; done)), ⟨_, rfl, rfl⟩, (by (simp; done)), trivial⟩ ⟨⟨_, rfl, rfl⟩, (by exact sobN_clo _ _), trivial⟩ trivial)
  have hge : k = (gNames e).length := by have := of_decide_eq_false hc2; omega
  subst hge
  rw [List.take_length]
  refine awp_exit<|Rg<|Dd mv'<|Dd ad'<|Dd as'<|Zz ?_
  refine ⟨i + 1, by omega, by omega, ?_⟩
  rw [apN_snoc he]
  exact (Ent.wk ⟨⟨_, rfl, rfl⟩, (by (simp; done)), ⟨_, rfl, rfl⟩, (by (simp; done)), ⟨_, rfl, rfl⟩, (by (simp; done)), ⟨_, rfl, rfl⟩, (by (simp; rfl)), ⟨_, rfl, rfl⟩, (by (simp; done)), trivial⟩ ⟨⟨_, rfl, rfl⟩, (by exact sobN_clo _ _), trivial⟩ trivial)
 have hge : i = l.length := by have := of_decide_eq_false hc1; omega
 subst hge
 rw [List.take_length]
 refine awp_exit<|Sq<|Sq<|Rg<|Dd as'<|Zz<|awp_block ?_
 refine awp_loop (σ := Nat) (fun i => ([(0, .pv (slEdits l)), (1, .pv (slEdits m)), (4, bv false), (5, .mp 12 0), (9, iv (i : Int))], [(12, sob (apN l))])) (fun i => i ≤ m.length ∧ ∀ j, j < i → ∀ e, m[j]? = some e → (gNames e).any (inB (apN l)) = false) (fun i => m.length - i) 0 ⟨by omega, fun j hj => absurd hj (Nat.not_lt_zero j)⟩ ?_ ?_
 ·exact (Ent.wk ⟨⟨_, rfl, rfl⟩, (by (simp; done)), ⟨_, rfl, rfl⟩, (by (simp; done)), ⟨_, rfl, rfl⟩, (by (simp; done)), ⟨_, rfl, rfl⟩, (by (simp; rfl)), ⟨_, rfl, rfl⟩, (by (simp; done)), trivial⟩ ⟨⟨_, rfl, rfl⟩, (by exact sobN_clo _ _), trivial⟩ trivial)
 rintro i ⟨hi, hno⟩
 refine Sq<|Sq<|Rg<|Dd mv'<|Dd mv'<|Dd (ll' Tryz.underlying25)<|Dd lss'<|Zz ?_
 refine Cn (fun hc3 => ?_) fun hc3 => ?_
 ·have hil : i < m.length := by have := of_decide_eq_true hc3; omega
  obtain ⟨e, he⟩ := get_of_lt hil
  have hi1 := map_get (f := encEdit) he
  have hem := hm.2 e (List.mem_of_getElem? he)
  have hnl := apN_len hem.2
  have hnm : ((gNames e).map encStr).length = (gNames e).length := List.length_map _
  refine awp_skip<|Sq<|awp_block<|Sq<|Rg<|Dd mv'<|Dd mv'<|Dd (by exact x_index_pad rfl so25 rfl rfl (by omega) (by exact Int.toNat_natCast _) hi1 rfl)<|Dd (by exact opd_loadn_pad rfl Tryz.isAgg53 Tryz.sizeOf53 rfl hi1 (by simp only [Zl, encTag, encObj, encStr, encEdit, encInt]; rfl) rfl)<|Dd (by exact opr_call rfl rfl Tryz.call20 rfl (names_cE e _ hem.1 hem.2))<|Dd as'<|Zz<|Sq<|Rg<|Dd as'<|Zz<|awp_block ?_
  refine awp_loop (σ := Nat) (fun k => ([(0, .pv (slEdits l)), (1, .pv (slEdits m)), (4, bv false), (5, .mp 12 0), (9, iv (i : Int)), (10, .pv (slStrs (gNames e))), (11, iv (k : Int))], [(12, sob (apN l))])) (fun k => k ≤ (gNames e).length ∧ ∀ j, j < k → ∀ s, (gNames e)[j]? = some s → inB (apN l) s = false) (fun k => (gNames e).length - k) 0 ⟨by omega, fun j hj => absurd hj (Nat.not_lt_zero j)⟩ ?_ ?_
  ·exact (Ent.wk ⟨⟨_, rfl, rfl⟩, (by (simp; done)), ⟨_, rfl, rfl⟩, (by (simp; done)), ⟨_, rfl, rfl⟩, (by (simp; done)), ⟨_, rfl, rfl⟩, (by (simp; rfl)), ⟨_, rfl, rfl⟩, (by (simp; done)), ⟨_, rfl, rfl⟩, (by (simp; done)), ⟨_, rfl, rfl⟩, (by (simp; done)), trivial⟩ ⟨⟨_, rfl, rfl⟩, (by exact sobN_clo _ _), trivial⟩ trivial)
  rintro k ⟨hk, hnk⟩
  refine Sq<|Sq<|Rg<|Dd mv'<|Dd mv'<|Dd (ll' Tryz.underlying27)<|Dd lss'<|Zz ?_
  refine Cn (fun hc4 => ?_) fun hc4 => ?_
  ·have hkl : k < (gNames e).length := by have := of_decide_eq_true hc4; omega
   obtain ⟨s, hsk⟩ := get_of_lt hkl
   have hi2 := map_get (f := encStr) hsk
   refine awp_skip<|Sq<|awp_block<|Sq<|Rg<|Dd mv'<|Dd mv'<|Dd mv'<|Dd (by exact x_index_pad rfl so27 rfl rfl (by omega) (by exact Int.toNat_natCast _) hi2 rfl)<|Dd (lp' Tryz.isAgg9 (hi := hi2))<|Dd (by exact x_lookup_set rfl Tryz.underlying59 Tryz.underlying9 rfl rfl rfl rfl rfl Tryz.zeroValue4 (.inl rfl))<|Zz ?_
   refine Cn (fun hc5 => ?_) fun hc5 => ?_
   ·skip
    refine Sq<|Rg<|Dd as'<|Zz<|awp_ret ?_
    refine Rt ?_
    have hq : (m.any fun e => (gNames e).any (inB (apN l))) = true := any_some (p := fun e => (gNames e).any (inB (apN l))) he (any_some (p := inB (apN l)) hsk hc5)
    exact ⟨by rw [apB, hq]; rfl, rfl⟩
   skip
   refine awp_skip<|Rg<|Dd mv'<|Dd ad'<|Dd as'<|Zz ?_
   exact ⟨k + 1, ⟨by omega, pre_succ (p := inB (apN l)) hnk hsk hc5⟩, by omega, (Ent.wk ⟨⟨_, rfl, rfl⟩, (by (simp; done)), ⟨_, rfl, rfl⟩, (by (simp; done)), ⟨_, rfl, rfl⟩, (by (simp; done)), ⟨_, rfl, rfl⟩, (by (simp; rfl)), ⟨_, rfl, rfl⟩, (by (simp; done)), ⟨_, rfl, rfl⟩, (by (simp; done)), ⟨_, rfl, rfl⟩, (by (simp; done)), trivial⟩ ⟨⟨_, rfl, rfl⟩, (by exact sobN_clo _ _), trivial⟩ trivial)⟩
  have hge : k = (gNames e).length := by have := of_decide_eq_false hc4; omega
  subst hge
  refine awp_exit<|Rg<|Dd mv'<|Dd ad'<|Dd as'<|Zz ?_
  exact ⟨i + 1, ⟨by omega, pre_succ (p := fun e => (gNames e).any (inB (apN l))) hno he (any_none hnk)⟩, by omega, (Ent.wk ⟨⟨_, rfl, rfl⟩, (by (simp; done)), ⟨_, rfl, rfl⟩, (by (simp; done)), ⟨_, rfl, rfl⟩, (by (simp; done)), ⟨_, rfl, rfl⟩, (by (simp; rfl)), ⟨_, rfl, rfl⟩, (by (simp; done)), trivial⟩ ⟨⟨_, rfl, rfl⟩, (by exact sobN_clo _ _), trivial⟩ trivial)⟩
 have hge : i = m.length := by have := of_decide_eq_false hc3; omega
 subst hge
 refine awp_exit<|Sq<|Rg<|Dd as'<|Zz<|awp_ret ?_
 refine Rt ?_
 have hq : (m.any fun e => (gNames e).any (inB (apN l))) = false := any_none hno
 exact ⟨by rw [apB, hq]; rfl, rfl⟩
end Go.Proofs.YtohdipdgnnamlaaGreatDoor
end
section
set_option linter.unusedVariables false
set_option linter.unusedSimpArgs false
set_option maxRecDepth 100000
set_option maxHeartbeats 1000000
namespace Go.Proofs.YtohdipdgnnamlaaGreatDoor
open Go.Abs
def wn1 : ByteArray := ⟨#[110, 49]⟩
def wn2 : ByteArray := ⟨#[110, 50]⟩
def wName : ByteArray := ⟨#[110, 97, 109, 101]⟩
def wElm : ByteArray := ⟨#[69, 108, 109]⟩
def wNd (id : ByteArray) (x : Int) (l : List GTag) : GObj := ⟨id, 1, x, 0, [], l⟩
def wM : List GObj := [wNd wn1 0 [], wNd wn2 5 []]
def wA : List GObj := [wNd wn1 0 [⟨wName, wElm⟩], wNd wn2 5 []]
def wB : List GObj := [wNd wn1 0 [], wNd wn2 9 []]
def wX : List GObj := [wNd wn1 0 [⟨wName, wElm⟩], wNd wn2 9 []]
def wT : GEdit := edTag wn1 wName wElm
def wV : GEdit := ⟨2, wn2, sNil, sNil, 9, 0, sNil, sNil, [], zObj⟩
theorem wh1 : gApply wM wT = (wA, 0) := by kernel_rfl
theorem wh2 : gApply wM wV = (wB, 0) := by kernel_rfl
theorem wh3 : gApply wA wV = (wX, 0) := by kernel_rfl
theorem wg1 : gAll wM [wT] = (wA, -1, 0) := by kernel_rfl
theorem wg2 : gAll wM [wV] = (wB, -1, 0) := by kernel_rfl
theorem wg3 : gAll wA [wV] = (wX, -1, 0) := by kernel_rfl
theorem wg4 : gAll wB [wT] = (wX, -1, 0) := by kernel_rfl
theorem wv1 : gEditV wT = true := by kernel_rfl
theorem wv2 : gEditV wV = true := by kernel_rfl
theorem wDis : ∀ s, nmL [wT] s → ¬ nmL [wV] s := by
 rintro s ⟨e, he, h⟩ ⟨f, hf, h'⟩
 rw [List.mem_singleton] at he hf
 subst he
 subst hf
 obtain ⟨r1, n1⟩ := (names_mem wv1).1 h
 obtain ⟨r2, _⟩ := (names_mem wv2).1 h'
 have a1 : s = wn1 := by
  rcases r1 with h | h | h | h | h | h
  ·exact h
  ·exact absurd h n1
  ·exact absurd h n1
  ·exact absurd h n1
  ·cases h
  cases h
 have a2 : s = wn2 := by
  rcases r2 with h | h | h | h | h | h
  ·exact h
  ·exact absurd h n1
  ·exact absurd h n1
  ·exact absurd h n1
  ·cases h
  cases h
 rw [a1] at a2
 exact absurd a2 (by decide)
theorem okO_wNd (id : ByteArray) (x : Int) (l : List GTag) (h1 : id.size < 10) (h2 : l.length < 10) (h3 : ∀ t ∈ l, t.key.size < 10 ∧ t.val.size < 10) : okO (wNd id x l) :=
 ⟨by show id.size < _; omega, ⟨by show l.length < _; omega, fun t ht => ⟨by have := (h3 t ht).1; omega, by have := (h3 t ht).2; omega⟩⟩, by show 0 < _; omega, fun s hs => by cases hs⟩
theorem okM_w2 (x : Int) (l : List GTag) (h2 : l.length < 10) (h3 : ∀ t ∈ l, t.key.size < 10 ∧ t.val.size < 10) : okM [wNd wn1 0 l, wNd wn2 x []] := by
 refine ⟨by show 2 < _; omega, fun o ho => ?_⟩
 simp only [List.mem_cons, List.not_mem_nil, or_false] at ho
 rcases ho with rfl | rfl
 ·exact okO_wNd _ _ _ (by decide) h2 h3
 exact okO_wNd _ _ _ (by decide) (by show 0 < _; omega) (fun t ht => by cases ht)
theorem wTag_ok : ∀ t ∈ [(⟨wName, wElm⟩ : GTag)], t.key.size < 10 ∧ t.val.size < 10 := by
 intro t ht
 rw [List.mem_singleton] at ht
 subst ht
 exact ⟨by decide, by decide⟩
theorem okM_wM : okM wM := okM_w2 5 [] (by show 0 < _; omega) (fun t ht => by cases ht)
theorem okM_wA : okM wA := okM_w2 5 _ (by show 1 < _; omega) wTag_ok
theorem okM_wB : okM wB := okM_w2 9 [] (by show 0 < _; omega) (fun t ht => by cases ht)
theorem okM_wX : okM wX := okM_w2 9 _ (by show 1 < _; omega) wTag_ok
theorem okE_w (op x : Int) (id key val : ByteArray) (h1 : id.size < 10) (h2 : key.size < 10) : okE ⟨op, id, sNil, sNil, x, 0, key, val, [], zObj⟩ :=
 ⟨⟨by show id.size < _; omega, by show 0 < _; omega, by show 0 < _; omega, by show key.size < _; omega⟩, ⟨by show 0 < _; omega, fun s hs => by cases hs⟩, ⟨by show 0 < _; omega, ⟨by show 0 < _; omega, fun t ht => by cases ht⟩, by show 0 < _; omega, fun s hs => by cases hs⟩⟩
theorem wMerge : ACalls Tryz.prog 10 [.agg [.pv (slObjs wM)], .agg [.pv (slObjs wA)], .agg [.pv (slObjs wB)]] [] (fun r H' => r = .tup [.agg [.pv (slObjs wX)], .pv (.sl [])] ∧ H' = []) := by
 have h := indep (m := wM) (one := [wT]) (two := [wV]) wDis (by rw [wg1]) (by rw [wg2]) (by rw [wg1]; rw [wg3]) (by rw [wg2]; rw [wg4])
 rw [wg1, wg2] at h
 simp only at h
 rw [wg3] at h
 obtain ⟨_, c1, c2, c3, c4, k1, k2, k3⟩ := h
 exact mergeM_c wM wA wB wX okM_wM okM_wA okM_wB (closed_gMap c1) (closed_gMap c2) (closed_gMap c3) (by show 2 < _; omega) (by show 2 < _; omega) (by show 2 < _; omega) (by show 2 < _; omega) k1 (gMap_iff.1 (closed_gMap c4)).2.1 k2 (refs_look c4)
theorem same12_f {a b : List GObj} (h : ¬ a = b) (H : Heap) (ha : okL a) : ACalls Tryz.prog 11 [.agg [.pv (slObjs a)], .agg [.pv (slObjs b)]] H (fun r H' => r = bv false ∧ H' = H) := by
 have := same12_c a b H ha
 rwa [show gSameM a b = false by rw [← Bool.not_eq_true, gSameM_iff]; exact h] at this
theorem okL_of {m : List GObj} (h : okM m) : okL m := ⟨h.1, fun o ho => ⟨(h.2 o ho).2.2.1, (h.2 o ho).2.1.1⟩⟩
theorem wNe : ¬ wX = wA := by
 intro h
 have h2 : (wX[1]?).map (·.x) = (wA[1]?).map (·.x) := by rw [h]
 exact absurd h2 (by decide)
theorem w11Moved_c (H : Heap) : ACalls Tryz.prog 4 [] H (fun r H' => r = bv true ∧ H' = H) := by
 refine ACalls.pure ?_ (by simp) H
 have l1 : wM.length < 549755813888 := by show 2 < _; omega
 have l2 : wA.length < 549755813888 := by show 2 < _; omega
 have eT := okE_w 3 0 wn1 wName wElm (by decide) (by decide)
 have eV := okE_w 2 9 wn2 sNil sNil (by decide) (by decide)
 refine Bd Tryz.func4 rfl Tryz.ntmps4<|Sq<|Rg<|Dd as'<|Zz<|Sq<|Rg<|Dd (bu' bo49)<|Dd (bu' bo46)<|Dd (bu' bo49)<|Dd (by exact x_buildSlice (wM.map encObj) rfl so22 rfl rfl rfl rfl rfl (encObj_rl wM))<|Dd (bu' bo24)<|Dd (by exact x_alloc (id := 1) rfl zo24 rfl rfl)<|Uu (sa' Tryz.sizeOf24)<|Zz<|Sq ?_
 refine awp_drawc follows ?_
 refine Cr [1] (fun H1 hH => by exact opd_loadn_ref rfl Tryz.isAgg24 Tryz.sizeOf24 rfl ((hH _ rfl).trans rfl) rfl rfl rfl rfl)<|Cr [] (fun H1 hH => by exact opr_call rfl rfl Tryz.call14 rfl (w11Tag_c wn1 wName wElm _))<|Cr [] (fun H1 hH => by exact opr_call rfl rfl Tryz.call13 rfl (apply_t wh1 _ okM_wM eT l1))<|Cr [] (fun _ _ => mv')<|Cr [] (fun _ _ => ex')<|Cr [] (fun _ _ => ex')<|Cp [2] (fun H1 hH => by exact x_alloc (id := 2) rfl zo24 rfl ((hH _ rfl).trans rfl))<|Cp [2] (fun H1 hH => by exact x_store_all rfl Tryz.sizeOf24 rfl rfl rfl rfl ((hH _ rfl).trans rfl) rfl rfl rfl)<|Cr [] (fun _ _ => as') ?_
 refine dc_nil ⟨by kernel_rfl, ?_⟩
 refine Sq<|Rg<|Dd (ln' Tryz.isAgg24 Tryz.sizeOf24)<|Dd (bu' bo46)<|Dd (bu' bo53)<|Dd (by exact opr_call rfl rfl Tryz.call13 rfl (apply_t wh2 _ okM_wM eV l1))<|Dd mv'<|Dd ex'<|Dd ex'<|Dd (by exact x_alloc (id := 4) rfl zo24 rfl rfl)<|Uu (sa' Tryz.sizeOf24)<|Dd as'<|Zz<|Sq<|Rg<|Dd (ln' Tryz.isAgg24 Tryz.sizeOf24)<|Dd (ln' Tryz.isAgg24 Tryz.sizeOf24)<|Dd (ln' Tryz.isAgg24 Tryz.sizeOf24)<|Dd (by exact opr_call rfl rfl Tryz.call10 rfl (ACalls.pure wMerge (by simp) _))<|Dd mv'<|Dd ex'<|Dd ex'<|Dd (by exact x_alloc (id := 6) rfl zo24 rfl rfl)<|Uu (sa' Tryz.sizeOf24)<|Dd as'<|Zz<|Sq<|Rg<|Dd (ln' Tryz.isAgg24 Tryz.sizeOf24)<|Dd (bu' bo46)<|Dd (bu' bo53)<|Dd (by exact opr_call rfl rfl Tryz.call13 rfl (apply_t wh3 _ okM_wA eV l2))<|Dd mv'<|Dd ex'<|Dd ex'<|Dd (by exact x_alloc (id := 8) rfl zo24 rfl rfl)<|Uu (sa' Tryz.sizeOf24)<|Dd as'<|Zz<|Sq<|Rg<|Dd mv'<|Dd eql'<|Dd mv' ?_
 refine al_ond rfl rfl rfl (by rfl) rfl rfl (by exact opd_move rfl rfl) ?_
 refine al_ond rfl rfl rfl (by rfl) rfl rfl (by exact opd_eql rfl rfl rfl) ?_
 refine Dd pk'<|Dd mv' ?_
 refine al_ond rfl rfl rfl (by rfl) rfl rfl (by exact opd_move rfl rfl) ?_
 refine al_ond rfl rfl rfl (by rfl) rfl rfl (by exact opd_eql rfl rfl rfl) ?_
 refine Dd pk'<|Dd mv' ?_
 refine al_ond rfl rfl rfl (by rfl) rfl rfl (by exact opd_move rfl rfl) ?_
 refine al_ond rfl rfl rfl (by rfl) rfl rfl (by exact opd_len_sl rfl Tryz.underlying39 rfl) ?_
 refine al_ond rfl rfl rfl (by rfl) rfl rfl (by exact opd_eql rfl rfl rfl) ?_
 refine Dd pk'<|Dd mv' ?_
 refine al_ond rfl rfl rfl (by rfl) rfl rfl (by exact opd_loadn_ref rfl Tryz.isAgg24 Tryz.sizeOf24 rfl rfl rfl rfl rfl rfl) ?_
 refine al_ond rfl rfl rfl (by rfl) rfl rfl (by exact opd_loadn_ref rfl Tryz.isAgg24 Tryz.sizeOf24 rfl rfl rfl rfl rfl rfl) ?_
 refine al_ond rfl rfl rfl (by rfl) rfl rfl (by exact opr_call rfl rfl Tryz.call11 rfl (same12_t (a := wX) (b := wX) rfl _ (okL_of okM_wX))) ?_
 refine Dd pk'<|Dd mv' ?_
 refine al_ond rfl rfl rfl (by rfl) rfl rfl (by exact opd_loadn_ref rfl Tryz.isAgg24 Tryz.sizeOf24 rfl rfl rfl rfl rfl rfl) ?_
 refine al_ond rfl rfl rfl (by rfl) rfl rfl (by exact opd_loadn_ref rfl Tryz.isAgg24 Tryz.sizeOf24 rfl rfl rfl rfl rfl rfl) ?_
 refine al_ond rfl rfl rfl (by rfl) rfl rfl (by exact opr_call rfl rfl Tryz.call11 rfl (same12_f wNe _ (okL_of okM_wX))) ?_
 refine al_ond rfl rfl rfl (by rfl) rfl rfl (by exact opd_not rfl rfl) ?_
 refine Dd pk'<|Dd as'<|Zz<|awp_ret ?_
 refine Rt ?_
 exact ⟨rfl, rfl⟩
end Go.Proofs.YtohdipdgnnamlaaGreatDoor
end
section
set_option linter.unusedVariables false
set_option linter.unusedSimpArgs false
set_option maxRecDepth 100000
set_option maxHeartbeats 1000000
namespace Go.Proofs.YtohdipdgnnamlaaGreatDoor
open Go.Abs
theorem all_okM {m : List GObj} {l : List GEdit} (hm : okM m) (he : ∀ e, e ∈ l → okE e) : okM (gAll m l).1 := by
 rcases all_cases (l1 := l) (l2 := []) hm he (fun e h => by cases h) with ⟨_, _, k⟩ | ⟨h0, a, _⟩
 ·rw [k]
  exact ⟨by show 0 < _; omega, fun o ho => by cases ho⟩
 exact a
theorem tidy_symm {b o t : Option GObj} (h : tidy b o t) : tidy b t o := by
 rcases h with h | h | h
 ·exact .inl h.symm
 ·exact .inr (.inr h)
 exact .inr (.inl h)
theorem topIndependent_c (m : List GObj) (one two : List GEdit) (H : Heap) (hm : okM m) (h1 : okA one) (h2 : okA two) (l1 : one.length < 549755813888) (l2 : two.length < 549755813888) :
  ACalls Tryz.prog 3 [.agg [.pv (slObjs m)], .pv (slEdits one), .pv (slEdits two)] H (fun r H' => r = bv true ∧ H' = H) := by
 refine ACalls.pure ?_ (by simp) H
 have hL : okL m := okL_of hm
 have e1 : ∀ e, e ∈ one → okE e := fun e h => (h1.2 e h).1
 have e2 : ∀ e, e ∈ two → okE e := fun e h => (h2.2 e h).1
 have f1 : ∀ e, e ∈ one → okEdit e := fun e h => ⟨by have := (e1 e h).2.1.1; omega, (e1 e h).2.2.2.2.1, (e1 e h).2.2.2.1.1⟩
 have f2 : ∀ e, e ∈ two → okEdit e := fun e h => ⟨by have := (e2 e h).2.1.1; omega, (e2 e h).2.2.2.2.1, (e2 e h).2.2.2.1.1⟩
 have a1 := fun H => all_c m one H hm l1 e1
 have a2 := fun H => all_c m two H hm l2 e2
 have a3 := fun H => all_c (gAll m one).1 two H (all_okM hm e1) l2 e2
 have a4 := fun H => all_c (gAll m two).1 one H (all_okM hm e2) l1 e1
 have o1 := all_okM hm e1
 have o2 := all_okM hm e2
 have o3 := all_okM o1 e2
 have hI := fun hd => indep (m := m) (one := one) (two := two) hd
 obtain ⟨A, hA⟩ : ∃ a, a = gAll m one := ⟨_, rfl⟩
 obtain ⟨B, hB⟩ : ∃ a, a = gAll m two := ⟨_, rfl⟩
 rw [← hA] at a1 a3 o1 o3
 rw [← hB] at a2 a4 o2
 simp only [← hA, ← hB] at hI
 obtain ⟨X, hX⟩ : ∃ a, a = gAll A.1 two := ⟨_, rfl⟩
 obtain ⟨Y, hY⟩ : ∃ a, a = gAll B.1 one := ⟨_, rfl⟩
 rw [← hX] at a3 o3
 rw [← hY] at a4
 simp only [← hX, ← hY] at hI
 clear hA hB hX hY
 obtain ⟨A, ai, ae⟩ := A
 obtain ⟨B, bi, be⟩ := B
 obtain ⟨X, xi, xe⟩ := X
 obtain ⟨Y, yi, ye⟩ := Y
 simp only at a1 a2 a3 a4 o1 o2 o3 hI
 refine Bd Tryz.func3 rfl Tryz.ntmps3<|Sq<|Rg<|Dd (by exact opd_box (id := 3) rfl rfl rfl rfl rfl)<|Dd as'<|Zz<|Sq<|Rg<|Dd (by exact opr_call rfl rfl Tryz.call4 rfl (w11Moved_c _))<|Dd as'<|Zz<|Sq<|Rg<|Dd (bu' bo31)<|Dd (by exact x_alloc (id := 8) rfl zo31 rfl rfl)<|Uu (sa' Tryz.sizeOf31)<|Zz<|Sq<|Sq ?_
 refine awp_bool (t := 51) (n := 29) (X := (((!few13 m 20 || !few22 one 6) || !few22 two 6) || !closedB m) || !apB one two) ?_ ?_
 ·all_goals refine Dd (by exact opd_loadn_ref rfl Tryz.isAgg24 Tryz.sizeOf24 rfl rfl rfl rfl (by simp only [Zl, encTag, encObj, encStr, encEdit, encInt]; rfl) rfl) ?_
  all_goals refine Dd (ln' Tryz.isAgg31 Tryz.sizeOf31) ?_
  all_goals refine Dd (by exact opr_call rfl rfl Tryz.call5 rfl (few20_c m 20 _ (by have := hm.1; omega) hL.2)) ?_
  all_goals refine Dd no' ?_
  all_goals refine Dd mv' ?_
  all_goals refine Sp 31 (fun h31 => ?_) fun h31 => ?_
  all_goals try contradiction
  all_goals first | refine Fo ?_ | refine On mv' ?_
  all_goals first | refine Fo ?_ | refine On (by exact opr_call rfl rfl Tryz.call6 rfl (few22_c one 6 _ h1.1 f1)) ?_
  all_goals first | refine Fo ?_ | refine On no' ?_
  all_goals refine Dd pk' ?_
  all_goals refine Dd mv' ?_
  all_goals refine Sp 36 (fun h36 => ?_) fun h36 => ?_
  all_goals try contradiction
  all_goals first | refine Fo ?_ | refine On mv' ?_
  all_goals first | refine Fo ?_ | refine On (by exact opr_call rfl rfl Tryz.call6 rfl (few22_c two 6 _ h2.1 f2)) ?_
  all_goals first | refine Fo ?_ | refine On no' ?_
  all_goals refine Dd pk' ?_
  all_goals refine Dd mv' ?_
  all_goals refine Sp 41 (fun h41 => ?_) fun h41 => ?_
  all_goals try contradiction
  all_goals first | refine Fo ?_ | refine On (by exact opd_loadn_ref rfl Tryz.isAgg24 Tryz.sizeOf24 rfl rfl rfl rfl (by simp only [Zl, encTag, encObj, encStr, encEdit, encInt]; rfl) rfl) ?_
  all_goals first | refine Fo ?_ | refine On (by exact opr_call rfl rfl Tryz.call7 rfl (rClosed_c m _ hm)) ?_
  all_goals first | refine Fo ?_ | refine On no' ?_
  all_goals refine Dd pk' ?_
  all_goals refine Dd mv' ?_
  all_goals refine Sp 46 (fun h46 => ?_) fun h46 => ?_
  all_goals try contradiction
  all_goals first | refine Fo ?_ | refine On mv' ?_
  all_goals first | refine Fo ?_ | refine On mv' ?_
  all_goals first | refine Fo ?_ | refine On (by exact opr_call rfl rfl Tryz.call8 rfl (apart_c one two _ h1 h2)) ?_
  all_goals first | refine Fo ?_ | refine On no' ?_
  all_goals refine Dd pk' ?_
  all_goals refine al_nil ?_
  all_goals (exact ⟨⟨_, rfl, by (simp only [*, Zo]; done)⟩, rfl, rfl, rfl⟩)
 refine Cn (fun hc1 => ?_) fun hc1 => ?_
 ·skip
  refine Sq<|Rg<|Dd mv'<|Dd as'<|Zz<|awp_ret ?_
  refine Rt ?_
  exact ⟨rfl, rfl⟩
 have hap : apB one two = true := by
  have h := hc1
  rw [Bool.or_eq_false_iff, Bool.not_eq_false'] at h
  exact h.2
 have hI2 := hI (apB_true hap)
 refine awp_skip<|Sq<|Rg<|Dd (by exact opd_loadn_ref rfl Tryz.isAgg24 Tryz.sizeOf24 rfl rfl rfl rfl (by simp only [Zl, encTag, encObj, encStr, encEdit, encInt]; rfl) rfl)<|Dd mv'<|Dd (by exact opr_call rfl rfl Tryz.call9 rfl (a1 _))<|Dd mv'<|Dd ex'<|Dd ex'<|Dd ex'<|Dd (by exact x_alloc (id := 9) rfl zo24 rfl rfl)<|Uu (sa' Tryz.sizeOf24)<|Dd as'<|Dd as'<|Zz<|Sq<|Rg<|Dd (by exact opd_loadn_ref rfl Tryz.isAgg24 Tryz.sizeOf24 rfl rfl rfl rfl (by simp only [Zl, encTag, encObj, encStr, encEdit, encInt]; rfl) rfl)<|Dd mv'<|Dd (by exact opr_call rfl rfl Tryz.call9 rfl (a2 _))<|Dd mv'<|Dd ex'<|Dd ex'<|Dd ex'<|Dd (by exact x_alloc (id := 12) rfl zo24 rfl rfl)<|Uu (sa' Tryz.sizeOf24)<|Dd as'<|Dd as'<|Zz<|Sq<|Rg<|Dd (by exact opd_loadn_ref rfl Tryz.isAgg24 Tryz.sizeOf24 rfl rfl rfl rfl (by simp only [Zl, encTag, encObj, encStr, encEdit, encInt]; rfl) rfl)<|Dd mv'<|Dd (by exact opr_call rfl rfl Tryz.call9 rfl (a3 _)) ?_
 refine Dd mv'<|Dd ex'<|Dd ex'<|Dd ex'<|Dd (by exact x_alloc (id := 15) rfl zo24 rfl rfl)<|Uu (sa' Tryz.sizeOf24)<|Dd as'<|Dd as'<|Zz<|Sq<|Rg<|Dd (by exact opd_loadn_ref rfl Tryz.isAgg24 Tryz.sizeOf24 rfl rfl rfl rfl (by simp only [Zl, encTag, encObj, encStr, encEdit, encInt]; rfl) rfl)<|Dd mv'<|Dd (by exact opr_call rfl rfl Tryz.call9 rfl (a4 _))<|Dd mv'<|Dd ex'<|Dd ex'<|Dd ex'<|Dd (by exact x_alloc (id := 18) rfl zo24 rfl rfl)<|Uu (sa' Tryz.sizeOf24)<|Dd as'<|Dd as'<|Zz<|Sq<|Sq ?_
 refine awp_bool (t := 94) (n := 17) (X := ((!decide (ae = 0) || !decide (be = 0)) || !decide (xe = 0)) || !decide (ye = 0)) ?_ ?_
 ·all_goals refine Dd mv' ?_
  all_goals refine Dd ne' ?_
  all_goals refine Dd mv' ?_
  all_goals refine Sp 83 (fun h83 => ?_) fun h83 => ?_
  all_goals try contradiction
  all_goals first | refine Fo ?_ | refine On mv' ?_
  all_goals first | refine Fo ?_ | refine On ne' ?_
  all_goals refine Dd pk' ?_
  all_goals refine Dd mv' ?_
  all_goals refine Sp 87 (fun h87 => ?_) fun h87 => ?_
  all_goals try contradiction
  all_goals first | refine Fo ?_ | refine On mv' ?_
  all_goals first | refine Fo ?_ | refine On ne' ?_
  all_goals refine Dd pk' ?_
  all_goals refine Dd mv' ?_
  all_goals refine Sp 91 (fun h91 => ?_) fun h91 => ?_
  all_goals try contradiction
  all_goals first | refine Fo ?_ | refine On mv' ?_
  all_goals first | refine Fo ?_ | refine On ne' ?_
  all_goals refine Dd pk' ?_
  all_goals refine al_nil ?_
  all_goals (exact ⟨⟨_, rfl, by (simp only [*, Zo]; done)⟩, rfl, rfl, rfl⟩)
 refine Cn (fun hc2 => ?_) fun hc2 => ?_
 ·skip
  refine Sq<|Rg<|Dd mv'<|Dd as'<|Zz<|awp_ret ?_
  refine Rt ?_
  exact ⟨rfl, rfl⟩
 have hz : ae = 0 ∧ be = 0 ∧ xe = 0 ∧ ye = 0 := by
  have h := hc2
  simp only [Bool.or_eq_false_iff, Bool.not_eq_false', decide_eq_true_eq] at h
  exact ⟨h.1.1.1, h.1.1.2, h.1.2, h.2⟩
 obtain ⟨hz1, hz2, hz3, hz4⟩ := hz
 obtain ⟨hxy, c1, c2, c3, c4, k1, k2, k3⟩ := hI2 hz1 hz2 hz3 hz4
 rw [← hxy]
 have gm := closed_gMap c1
 have ga := closed_gMap c2
 have gb := closed_gMap c3
 have gx := closed_gMap c4
 have nm := (gMap_iff.1 gm).2.2
 have na := (gMap_iff.1 ga).2.2
 have nb := (gMap_iff.1 gb).2.2
 have nx := (gMap_iff.1 gx).2.2
 have m1 := mergeM_c m A B X hm o1 o2 gm ga gb (by omega) (by omega) (by omega) (by omega) k1 (gMap_iff.1 gx).2.1 k2 (refs_look c4)
 have m2 := mergeM_c m B A X hm o2 o1 gm gb ga (by omega) (by omega) (by omega) (by omega) (fun s => tidy_symm (k1 s)) (gMap_iff.1 gx).2.1 k3 (refs_look c4)
 have dX := fun H => atlasDigest_c X H (by omega) (fun o ho => okD_of ((gMap_iff.1 gx).1 o ho) (o3.2 o ho))
 have hlx := okL_of o3
 refine awp_skip<|Sq<|Rg<|Dd (by exact opd_loadn_ref rfl Tryz.isAgg24 Tryz.sizeOf24 rfl rfl rfl rfl (by simp only [Zl, encTag, encObj, encStr, encEdit, encInt]; rfl) rfl)<|Dd (by exact opd_loadn_ref rfl Tryz.isAgg24 Tryz.sizeOf24 rfl rfl rfl rfl (by simp only [Zl, encTag, encObj, encStr, encEdit, encInt]; rfl) rfl)<|Dd (by exact opd_loadn_ref rfl Tryz.isAgg24 Tryz.sizeOf24 rfl rfl rfl rfl (by simp only [Zl, encTag, encObj, encStr, encEdit, encInt]; rfl) rfl)<|Dd (by exact opr_call rfl rfl Tryz.call10 rfl (ACalls.pure m1 (by simp) _))<|Dd mv'<|Dd ex'<|Dd ex'<|Dd (by exact x_alloc (id := 21) rfl zo24 rfl rfl)<|Uu (sa' Tryz.sizeOf24)<|Dd as'<|Zz<|Sq<|Rg<|Dd (by exact opd_loadn_ref rfl Tryz.isAgg24 Tryz.sizeOf24 rfl rfl rfl rfl (by simp only [Zl, encTag, encObj, encStr, encEdit, encInt]; rfl) rfl)<|Dd (by exact opd_loadn_ref rfl Tryz.isAgg24 Tryz.sizeOf24 rfl rfl rfl rfl (by simp only [Zl, encTag, encObj, encStr, encEdit, encInt]; rfl) rfl) ?_
 refine Dd (by exact opd_loadn_ref rfl Tryz.isAgg24 Tryz.sizeOf24 rfl rfl rfl rfl (by simp only [Zl, encTag, encObj, encStr, encEdit, encInt]; rfl) rfl)<|Dd (by exact opr_call rfl rfl Tryz.call10 rfl (ACalls.pure m2 (by simp) _))<|Dd mv'<|Dd ex'<|Dd ex'<|Dd (by exact x_alloc (id := 23) rfl zo24 rfl rfl)<|Uu (sa' Tryz.sizeOf24)<|Dd as'<|Zz<|Sq ?_
 refine awp_drawc follows ?_
 refine Cq mv'<|Cq mv'<|Nt (by exact opd_loadn_ref rfl Tryz.isAgg24 Tryz.sizeOf24 rfl rfl rfl rfl (by simp only [Zl, encTag, encObj, encStr, encEdit, encInt]; rfl) rfl)<|Nt (by exact opd_loadn_ref rfl Tryz.isAgg24 Tryz.sizeOf24 rfl rfl rfl rfl (by simp only [Zl, encTag, encObj, encStr, encEdit, encInt]; rfl) rfl)<|Nt (by exact opr_call rfl rfl Tryz.call11 rfl (same12_t (a := X) (b := X) rfl _ hlx))<|Cq pk'<|Cq mv'<|Nt (by exact opd_loadn_ref rfl Tryz.isAgg24 Tryz.sizeOf24 rfl rfl rfl rfl (by simp only [Zl, encTag, encObj, encStr, encEdit, encInt]; rfl) rfl)<|Nt (by exact opd_loadn_ref rfl Tryz.isAgg24 Tryz.sizeOf24 rfl rfl rfl rfl (by simp only [Zl, encTag, encObj, encStr, encEdit, encInt]; rfl) rfl)<|Nt (by exact opr_call rfl rfl Tryz.call11 rfl (same12_t (a := X) (b := X) rfl _ hlx))<|Cq pk'<|Cq mv'<|Nt (by exact opd_loadn_ref rfl Tryz.isAgg24 Tryz.sizeOf24 rfl rfl rfl rfl (by simp only [Zl, encTag, encObj, encStr, encEdit, encInt]; rfl) rfl) ?_
 refine Nt (by exact opd_loadn_ref rfl Tryz.isAgg24 Tryz.sizeOf24 rfl rfl rfl rfl (by simp only [Zl, encTag, encObj, encStr, encEdit, encInt]; rfl) rfl)<|Nt (by exact opr_call rfl rfl Tryz.call11 rfl (same12_t (a := X) (b := X) rfl _ hlx))<|Cq pk'<|Cq mv'<|Nt mv'<|Nt (ll' Tryz.underlying39)<|Nt eql'<|Cq pk'<|Cq mv'<|Nt mv'<|Nt (ll' Tryz.underlying39)<|Nt eql'<|Cq pk'<|Cq mv'<|Nt (by exact opd_loadn_ref rfl Tryz.isAgg24 Tryz.sizeOf24 rfl rfl rfl rfl (by simp only [Zl, encTag, encObj, encStr, encEdit, encInt]; rfl) rfl)<|Nt (by exact opr_call rfl rfl Tryz.call12 rfl (dX _))<|Nt (by exact opd_loadn_ref rfl Tryz.isAgg24 Tryz.sizeOf24 rfl rfl rfl rfl (by simp only [Zl, encTag, encObj, encStr, encEdit, encInt]; rfl) rfl)<|Nt (by exact opr_call rfl rfl Tryz.call12 rfl (dX _))<|Nt se'<|Cq pk'<|Cq as' ?_
 refine dc_nil ⟨by kernel_rfl, ?_⟩
 refine awp_ret ?_
 refine Rt ?_
 exact ⟨by rw [decide_eq_true rfl], rfl⟩
end Go.Proofs.YtohdipdgnnamlaaGreatDoor
end
