/-
  CONTRACTS: the reference: letters, names, points, words, tags. Conditions: lengths below 2^62.
  CONTRACTS: the reference: references, objects. Conditions: lengths below 2^62.
  CONTRACTS: the reference: maps, finding, references, closed maps, lists of indices. Conditions: lengths below 2^62.
  CONTRACTS: what is moderate (planisphereref13.Few); objects and maps compared (planisphereref11.Same, 12.Same). Conditions: lengths below 2^62.
  CONTRACT: EditLists answers true. Conditions: the arguments' sizes.
  THE ABSTRACT LOGIC: an owned slice is frozen while other objects hold it. Conditions: each rule's own premises.
  THE ABSTRACT LOGIC, 31: a range over a function. Conditions: the rule's own premises.
  THE ABSTRACT LOGIC, 32: a contract, at heaps that hold the same. Conditions: the rules' own premises.
  THE ABSTRACT LOGIC, 17: a text's bytes are appended. Conditions: each rule's own premises.
  THE ABSTRACT LOGIC, 33: pointers turned to unsafe pointers and back, a pointer held against itself; the string that shares the bytes of an owned row (strings.Builder). Conditions: the rules' own premises.
  CONTRACTS: strings.Builder. Conditions: lengths below 2^46.
  CONTRACTS: lexer.Quote, strings.Join. Conditions: lengths below 2^44.
  CONTRACTS: tag.Text. Conditions: lengths below 2^62.
  CONTRACTS: lexer.unquoted. Conditions: lengths below 2^40.
  THE ABSTRACT LOGIC, 35: ways that meet in one of several states. Conditions: the rule's own premises.
  CONTRACTS: lexer.tokens and what it yields. Conditions: lengths below 2^40.
  CONTRACTS: lexer.Lex. Conditions: lengths below 2^40.
  CONTRACTS: slices.Chunk, tag.Parse. Conditions: lengths below 2^40.
-/
import Derived.Test.YtohdipdgnnamlaaGreatDoorKI1M7
import Derived.Lib.AppendStr
import Derived.Lib.UnsafeStr
import Derived.Lib.MakeNoZero
import Derived.Lib.Builder
section
set_option linter.unusedVariables false
set_option linter.unusedSimpArgs false
set_option maxRecDepth 100000
set_option maxHeartbeats 1000000
namespace Go.Proofs.YtohdipdgnnamlaaGreatDoor
open Go.Abs
theorem rLetter_c (n : Int) (H : Heap) : ACalls Tryz.prog 108 [.pv (.int .u8 n)] H (fun r H' => r = bv (isLet n) ∧ H' = H) := by
 refine ACalls.pure ?_ (by simp) H
 refine Bd Tryz.func108 rfl Tryz.ntmps108<|Sq<|Rg<|Dd as'<|Zz<|Sq ?_
 refine awp_bool (t := 2) (n := 18) (X := isLet n) ?_ ?_
 ·all_goals refine Dd mv' ?_
  all_goals refine Dd ge' ?_
  all_goals refine Dd mv' ?_
  all_goals refine Sp 5 (fun h5 => ?_) fun h5 => ?_
  all_goals try contradiction
  all_goals first | refine Fo ?_ | refine On mv' ?_
  all_goals first | refine Fo ?_ | refine On le' ?_
  all_goals refine Dd pk' ?_
  all_goals refine Dd mv' ?_
  all_goals refine Sp 9 (fun h9 => ?_) fun h9 => ?_
  all_goals try contradiction
  all_goals first | refine Fo ?_ | refine On mv' ?_
  all_goals first | refine Fo ?_ | refine On ge' ?_
  all_goals first | refine Fo ?_ | refine On mv' ?_
  all_goals (first | refine Sp 12 (fun h12 => ?_) fun h12 => ?_ | refine al_dup (t := 12) rfl ?_)
  all_goals try contradiction
  all_goals first | refine Fo ?_ | refine Fu ?_ | refine On mv' ?_
  all_goals first | refine Fo ?_ | refine Fu ?_ | refine On le' ?_
  all_goals first | refine Fo ?_ | refine On pk' ?_
  all_goals refine Dd pk' ?_
  all_goals refine Dd as' ?_
  all_goals refine al_nil ?_
  all_goals (exact ⟨⟨_, rfl, by (simp only [isLet, *]; rfl)⟩, rfl, rfl, rfl⟩)
 refine awp_ret ?_
 refine Rt ?_
 exact ⟨rfl, rfl⟩
theorem rDigit_c (n : Int) (H : Heap) : ACalls Tryz.prog 164 [.pv (.int .u8 n)] H (fun r H' => r = bv (isDig n) ∧ H' = H) := by
 refine ACalls.pure ?_ (by simp) H
 refine Bd Tryz.func164 rfl Tryz.ntmps164<|Sq<|Rg<|Dd as'<|Zz<|Sq ?_
 refine awp_bool (t := 2) (n := 8) (X := isDig n) ?_ ?_
 ·all_goals refine Dd mv' ?_
  all_goals refine Dd ge' ?_
  all_goals refine Dd mv' ?_
  all_goals refine Sp 5 (fun h5 => ?_) fun h5 => ?_
  all_goals try contradiction
  all_goals first | refine Fo ?_ | refine On mv' ?_
  all_goals first | refine Fo ?_ | refine On le' ?_
  all_goals refine Dd pk' ?_
  all_goals refine Dd as' ?_
  all_goals refine al_nil ?_
  all_goals (exact ⟨⟨_, rfl, by (simp only [isDig, *]; rfl)⟩, rfl, rfl, rfl⟩)
 refine awp_ret ?_
 refine Rt ?_
 exact ⟨rfl, rfl⟩
def isW (n : Int) : Bool := (isLet n || isDig n) || decide (n = 95)
theorem rWord_c (n : Int) (H : Heap) : ACalls Tryz.prog 107 [.pv (.int .u8 n)] H (fun r H' => r = bv (isW n) ∧ H' = H) := by
 refine ACalls.pure ?_ (by simp) H
 refine Bd Tryz.func107 rfl Tryz.ntmps107<|Sq<|Rg<|Dd as'<|Zz<|Sq ?_
 refine awp_bool (t := 2) (n := 13) (X := isW n) ?_ ?_
 ·all_goals refine Dd mv' ?_
  all_goals refine Dd (by exact opr_call rfl rfl Tryz.call108 rfl (rLetter_c n _)) ?_
  all_goals refine Dd mv' ?_
  all_goals refine Sp 5 (fun h5 => ?_) fun h5 => ?_
  all_goals try contradiction
  all_goals first | refine Fo ?_ | refine On mv' ?_
  all_goals first | refine Fo ?_ | refine On (by exact opr_call rfl rfl Tryz.call164 rfl (rDigit_c n _)) ?_
  all_goals refine Dd pk' ?_
  all_goals refine Dd mv' ?_
  all_goals refine Sp 9 (fun h9 => ?_) fun h9 => ?_
  all_goals try contradiction
  all_goals first | refine Fo ?_ | refine On mv' ?_
  all_goals first | refine Fo ?_ | refine On eql' ?_
  all_goals refine Dd pk' ?_
  all_goals refine Dd as' ?_
  all_goals refine al_nil ?_
  all_goals (exact ⟨⟨_, rfl, by (simp only [isW, *]; rfl)⟩, rfl, rfl, rfl⟩)
 refine awp_ret ?_
 refine Rt ?_
 exact ⟨rfl, rfl⟩
theorem cls_all : ∀ n : Fin 256, (decide (cls (n.val : Int) = 3) = isLet (n.val : Int)) ∧ (decide (cls (n.val : Int) = 4) = isDig (n.val : Int)) ∧ (decide (cls (n.val : Int) = 5) = decide ((n.val : Int) = 95)) := by decide +kernel
theorem cls_eq (s : ByteArray) (k : Nat) : (decide (cls (byteAt s k) = 3) = isLet (byteAt s k)) ∧ (decide (cls (byteAt s k) = 4) = isDig (byteAt s k)) ∧ (decide (cls (byteAt s k) = 5) = decide (byteAt s k = 95)) := by
 have h := cls_all ⟨(byteAt s k).toNat, byteAt_lt s k⟩
 simp only [Int.toNat_of_nonneg (byteAt_nn s k)] at h
 exact h
def badW (s : ByteArray) (k : Nat) : Bool := !isW (byteAt s k)
def rName (s : ByteArray) : Bool := !((List.range s.size).any (badW s)) && (decide ((0 : Int) < (s.size : Int)) && decide ((s.size : Int) ≤ 24) && isLet (byteAt s 0))
theorem sNil_iff {s : ByteArray} : s = sNil ↔ s.size = 0 := by
 constructor
 ·rintro rfl; rfl
 intro h; exact ByteArray.ext (Array.eq_empty_of_size_eq_zero h)
theorem rName_eq (s : ByteArray) : rName s = gName s := by
 have hb : ∀ k, badC s k = (!isLet (byteAt s k) && (decide ((k : Int) = 0) || (!isDig (byteAt s k) && !decide (byteAt s k = 95)))) := fun k => by
  obtain ⟨a, b, c⟩ := cls_eq s k
  rw [badC, a, b, c]
 rw [Bool.eq_iff_iff, rName, gName]
 simp only [Bool.and_eq_true, Bool.not_eq_true', decide_eq_true_eq, decide_eq_false_iff_not, List.any_eq_false, List.mem_range, sNil_iff, badW, hb]
 constructor
 ·rintro ⟨h1, ⟨h2, h3⟩, h4⟩
  refine ⟨fun k hk => ?_, by omega, h3⟩
  have := h1 k hk
  by_cases k0 : k = 0
  ·subst k0; simp [h4]
  have hw : isW (byteAt s k) = true := by
   cases e : isW (byteAt s k) with
   | true => rfl
   | false => exact absurd e this
  simp only [isW, Bool.or_eq_true, decide_eq_true_eq] at hw
  rcases hw with (h | h) | h
  ·simp [h]
  ·simp [h, k0]
  simp [h, k0]
 rintro ⟨h1, h2, h3⟩
 refine ⟨fun k hk => ?_, ⟨by omega, h3⟩, ?_⟩
 ·have := h1 k hk
  intro hw
  apply this
  simp only [isW, Bool.not_eq_true', Bool.or_eq_false_iff] at hw
  simp [hw.1.1, hw.1.2, hw.2]
 have := h1 0 (by omega)
 cases hl : isLet (byteAt s 0) with
 | true => rfl
 | false => exact absurd (by simp [hl]) this
theorem rName0_c (s : ByteArray) (H : Heap) (hs : s.size < 4611686018427387904) : ACalls Tryz.prog 67 [sv s] H (fun r H' => r = bv (rName s) ∧ H' = H) := by
 refine ACalls.pure ?_ (by simp) H
 refine Bd Tryz.func67 rfl Tryz.ntmps67<|Sq<|Rg<|Dd as'<|Zz<|Sq<|Sq<|Rg<|Dd as'<|Zz<|awp_block ?_
 refine awp_loop (σ := Nat) (fun k => ([(0, sv s), (3, iv (k : Int))], [])) (fun k => k ≤ s.size ∧ ∀ j, j < k → badW s j = false) (fun k => s.size - k) 0 ⟨by omega, by omega⟩ ?_ ?_
 ·exact E0
 rintro k ⟨hk, hno⟩
 refine Sq<|Sq<|Rg<|Dd mv'<|Dd mv'<|Dd (ls' Tryz.underlying9)<|Dd lss'<|Zz ?_
 refine Cn (fun hc1 => ?_) fun hc1 => ?_
 ·have hlt : k < s.size := by have := of_decide_eq_true hc1; omega
  refine awp_skip<|Sq<|awp_block<|Sq<|Rg<|Dd mv'<|Dd mv'<|Dd (by exact opd_index_str rfl Tryz.underlying9 rfl rfl (by omega) (by exact Int.toNat_natCast _) (by omega) rfl)<|Dd (by exact opr_call rfl rfl Tryz.call107 rfl (rWord_c (byteAt s k) _))<|Dd no'<|Zz ?_
  refine Cn (fun hc2 => ?_) fun hc2 => ?_
  ·have hb : badW s k = true := hc2
   refine Sq<|Rg<|Dd as'<|Zz<|awp_ret ?_
   refine Rt ?_
   exact ⟨by rw [rName, range_some hlt hb]; rfl, rfl⟩
  skip
  refine awp_skip<|Rg<|Dd mv'<|Dd ad'<|Dd as'<|Zz ?_
  refine ⟨k + 1, ⟨by omega, fun j hj => ?_⟩, by omega, E0⟩
  by_cases e : j = k
  ·subst e; exact hc2
  exact hno j (by omega)
 have hge : k = s.size := by have := of_decide_eq_false hc1; omega
 have hr : rName s = (decide ((0 : Int) < (s.size : Int)) && decide ((s.size : Int) ≤ 24) && isLet (byteAt s 0)) := by
  subst hge
  rw [rName, range_any hno]; rfl
 rw [hr]
 clear hr
 by_cases h0 : (0 : Int) < (s.size : Int)
 ·have d0 := decide_eq_true h0
  have h00 : 0 < s.size := by omega
  rw [d0, Bool.true_and]
  by_cases h24 : (s.size : Int) ≤ 24
  ·have d1 := decide_eq_true h24
   rw [d1, Bool.true_and]
   refine awp_exit<|Sq<|Rg<|Dd mv'<|Dd (ls' Tryz.underlying9)<|Dd gt'<|Dd mv' ?_
   refine al_ond rfl rfl rfl (by assumption) rfl rfl (by exact opd_move rfl rfl) ?_
   refine al_ond rfl rfl rfl (by assumption) rfl rfl (by exact opd_len_str rfl Tryz.underlying9 rfl) ?_
   refine al_ond rfl rfl rfl (by assumption) rfl rfl (by exact opd_leq rfl rfl rfl) ?_
   refine Dd pt'<|Dd mv' ?_
   refine al_ond rfl rfl rfl (by assumption) rfl rfl (by exact opd_move rfl rfl) ?_
   refine al_ond rfl rfl rfl (by assumption) rfl rfl (by exact opd_index_str rfl Tryz.underlying9 rfl rfl (by omega) (by exact Int.toNat_natCast _) (by omega) rfl) ?_
   refine al_ond rfl rfl rfl (by assumption) rfl rfl (by exact opr_call rfl rfl Tryz.call108 rfl (rLetter_c (byteAt s 0) _)) ?_
   refine Dd pt'<|Dd as'<|Zz<|awp_ret ?_
   refine Rt ?_
   exact ⟨rfl, rfl⟩
  have d1 := decide_eq_false h24
  rw [d1]
  refine awp_exit<|Sq<|Rg<|Dd mv'<|Dd (ls' Tryz.underlying9)<|Dd gt'<|Dd mv' ?_
  refine al_ond rfl rfl rfl (by assumption) rfl rfl (by exact opd_move rfl rfl) ?_
  refine al_ond rfl rfl rfl (by assumption) rfl rfl (by exact opd_len_str rfl Tryz.underlying9 rfl) ?_
  refine al_ond rfl rfl rfl (by assumption) rfl rfl (by exact opd_leq rfl rfl rfl) ?_
  refine Dd pt'<|Dd mv' ?_
  refine al_off rfl rfl rfl (by assumption) rfl ?_
  refine al_off rfl rfl rfl (by assumption) rfl ?_
  refine al_off rfl rfl rfl (by assumption) rfl ?_
  refine Dd pf'<|Dd as'<|Zz<|awp_ret ?_
  refine Rt ?_
  exact ⟨rfl, rfl⟩
 have d0 := decide_eq_false h0
 rw [d0]
 refine awp_exit<|Sq<|Rg<|Dd mv'<|Dd (ls' Tryz.underlying9)<|Dd gt'<|Dd mv' ?_
 refine al_off rfl rfl rfl (by assumption) rfl ?_
 refine al_off rfl rfl rfl (by assumption) rfl ?_
 refine al_off rfl rfl rfl (by assumption) rfl ?_
 refine Dd pf'<|Dd mv' ?_
 refine al_off rfl rfl rfl (by rfl) rfl ?_
 refine al_off rfl rfl rfl (by rfl) rfl ?_
 refine al_off rfl rfl rfl (by rfl) rfl ?_
 refine Dd pk'<|Dd as'<|Zz<|awp_ret ?_
 refine Rt ?_
 exact ⟨rfl, rfl⟩
theorem rName_c (s : ByteArray) (H : Heap) (hs : s.size < 4611686018427387904) : ACalls Tryz.prog 67 [sv s] H (fun r H' => r = bv (gName s) ∧ H' = H) := by
 rw [← rName_eq]
 exact rName0_c s H hs
theorem rOn_c (x y : Int) (H : Heap) : ACalls Tryz.prog 66 [.agg [iv x, iv y]] H (fun r H' => r = bv (gOn x y) ∧ H' = H) := by
 refine ACalls.pure ?_ (by simp) H
 refine Bd Tryz.func66 rfl Tryz.ntmps66<|Sq<|Rg<|Dd (by exact opd_box (id := 1) rfl rfl rfl rfl rfl)<|Dd as'<|Zz<|Sq ?_
 refine awp_bool (t := 2) (n := 22) (X := gOn x y) ?_ ?_
 ·all_goals refine Dd (fr' fo46_0) ?_
  all_goals refine Dd (l1' Tryz.isAgg3) ?_
  all_goals refine Dd ge' ?_
  all_goals refine Dd mv' ?_
  all_goals refine Sp 6 (fun h6 => ?_) fun h6 => ?_
  all_goals try contradiction
  all_goals first | refine Fo ?_ | refine On (fr' fo46_0) ?_
  all_goals first | refine Fo ?_ | refine On (l1' Tryz.isAgg3) ?_
  all_goals first | refine Fo ?_ | refine On lss' ?_
  all_goals refine Dd pk' ?_
  all_goals refine Dd mv' ?_
  all_goals refine Sp 11 (fun h11 => ?_) fun h11 => ?_
  all_goals try contradiction
  all_goals first | refine Fo ?_ | refine On (fr' fo46_1) ?_
  all_goals first | refine Fo ?_ | refine On (l1' Tryz.isAgg3) ?_
  all_goals first | refine Fo ?_ | refine On ge' ?_
  all_goals refine Dd pk' ?_
  all_goals refine Dd mv' ?_
  all_goals refine Sp 16 (fun h16 => ?_) fun h16 => ?_
  all_goals try contradiction
  all_goals first | refine Fo ?_ | refine On (fr' fo46_1) ?_
  all_goals first | refine Fo ?_ | refine On (l1' Tryz.isAgg3) ?_
  all_goals first | refine Fo ?_ | refine On lss' ?_
  all_goals refine Dd pk' ?_
  all_goals refine Dd as' ?_
  all_goals refine al_nil ?_
  all_goals (exact ⟨⟨_, rfl, by (simp only [gOn, *]; rfl)⟩, rfl, rfl, rfl⟩)
 refine awp_ret ?_
 refine Rt ?_
 exact ⟨rfl, rfl⟩
theorem rwords_at {n : Nat} (h0 : 1 ≤ n) (h1 : n ≤ 5) : [encStr sNil, encStr ⟨#[110, 111, 100, 101]⟩, encStr ⟨#[119, 97, 121]⟩, encStr ⟨#[97, 114, 101, 97]⟩, encStr ⟨#[114, 111, 117, 116, 101]⟩, encStr ⟨#[116, 117, 114, 110]⟩][n]? = some (encStr (gWord (n : Int))) := by
 match n, h0, h1 with
 | 1, _, _ => rfl
 | 2, _, _ => rfl
 | 3, _, _ => rfl
 | 4, _, _ => rfl
 | 5, _, _ => rfl
 | n + 6, _, h => exact absurd h (by omega)
theorem rWordOf_c (k : Int) (H : Heap) : ACalls Tryz.prog 68 [iv k] H (fun r H' => r = sv (gWord k) ∧ H' = H) := by
 refine ACalls.pure ?_ (by simp) H
 refine Bd Tryz.func68 rfl Tryz.ntmps68<|Sq<|Rg<|Dd as'<|Zz<|Sq<|Rg<|Dd (by exact x_buildSlice [encStr sNil, encStr ⟨#[110, 111, 100, 101]⟩, encStr ⟨#[119, 97, 121]⟩, encStr ⟨#[97, 114, 101, 97]⟩, encStr ⟨#[114, 111, 117, 116, 101]⟩, encStr ⟨#[116, 117, 114, 110]⟩] rfl so27 rfl rfl rfl rfl rfl (by simp [encStr]))<|Dd as'<|Zz<|Sq<|Sq ?_
 refine awp_bool (t := 10) (n := 7) (X := decide (k < 1) || decide (5 < k)) ?_ ?_
 ·all_goals refine Dd mv' ?_
  all_goals refine Dd lss' ?_
  all_goals refine Dd mv' ?_
  all_goals refine Sp 7 (fun h7 => ?_) fun h7 => ?_
  all_goals try contradiction
  all_goals first | refine Fo ?_ | refine On mv' ?_
  all_goals first | refine Fo ?_ | refine On gt' ?_
  all_goals refine Dd pk' ?_
  all_goals refine al_nil ?_
  all_goals (exact ⟨⟨_, rfl, by (simp only [*, Zo]; done)⟩, rfl, rfl, rfl⟩)
 refine Cn (fun hc1 => ?_) fun hc1 => ?_
 ·have hn : ¬ (k = 1) ∧ ¬ (k = 2) ∧ ¬ (k = 3) ∧ ¬ (k = 4) ∧ ¬ (k = 5) := by
   simp only [Bool.or_eq_true, decide_eq_true_eq] at hc1
   omega
  refine Sq<|Rg<|Dd as'<|Zz<|awp_ret ?_
  refine Rt ?_
  exact ⟨by simp only [gWord, hn.1, hn.2.1, hn.2.2.1, hn.2.2.2.1, hn.2.2.2.2, if_false], rfl⟩
 obtain ⟨n, rfl⟩ : ∃ n : Nat, k = (n : Int) := ⟨k.toNat, by simp only [Bool.or_eq_false_iff, decide_eq_false_iff_not] at hc1; omega⟩
 have hb : 1 ≤ n ∧ n ≤ 5 := by
  simp only [Bool.or_eq_false_iff, decide_eq_false_iff_not] at hc1
  omega
 have hi := rwords_at hb.1 hb.2
 refine awp_skip<|Sq<|Rg<|Dd mv'<|Dd mv'<|Dd (xp' so27)<|Dd (lp' Tryz.isAgg9)<|Dd as'<|Zz<|awp_ret ?_
 refine Rt ?_
 exact ⟨rfl, rfl⟩
theorem badTag_eq (l : List GTag) (k : Nat) (t pt : GTag) (hp : 0 < k → l[k - 1]? = some pt) : (((!gName t.key || decide ((t.val.size : Int) < 1)) || decide (200 < (t.val.size : Int))) || (decide ((0 : Int) < (k : Int)) && !slt pt.key t.key)) = badTag (before GTag.key l k) t := by
 have hv : decide ((t.val.size : Int) < 1) = decide (t.val = sNil) := decide_eq_decide.2 (by rw [sNil_iff]; omega)
 rw [hv, badTag]
 cases hg : gName t.key with
 | false => simp
 | true =>
  have hs : sle t.key (before GTag.key l k) = (decide ((0 : Int) < (k : Int)) && !slt pt.key t.key) := by
   cases k with
   | zero =>
    have : slt sNil t.key = true := by
     cases e : slt sNil t.key with
     | true => rfl
     | false => exact absurd (slt_tri (slt_nil _) e) (gName_ne hg)
    rw [before, sle_iff.2 this]; rfl
   | succ k =>
    have h := hp (by omega)
    rw [show k + 1 - 1 = k from rfl] at h
    rw [before_succ h, decide_eq_true (show (0 : Int) < ((k + 1 : Nat) : Int) by omega), Bool.true_and]
    cases e : slt pt.key t.key with
    | true => rw [sle_iff.2 e]; rfl
    | false =>
     cases e2 : sle t.key pt.key with
     | true => rfl
     | false => rw [sle_iff] at e2; rw [e] at e2; cases e2
  rw [← hs]
  cases sle t.key (before GTag.key l k) <;> cases decide (t.val = sNil) <;> cases decide (200 < (t.val.size : Int)) <;> rfl
theorem rTags_c (l : List GTag) (H : Heap) (hl : okTags l) : ACalls Tryz.prog 69 [.pv (slTags l)] H (fun r H' => r = bv (gTags l) ∧ H' = H) := by
 refine ACalls.pure ?_ (by simp) H
 obtain ⟨hl, hks⟩ := hl
 have hml : (l.map encTag).length = l.length := List.length_map _
 refine Bd Tryz.func69 rfl Tryz.ntmps69<|Sq<|Rg<|Dd as'<|Zz<|Sq<|Sq<|Rg<|Dd mv'<|Dd (ll' Tryz.underlying47)<|Dd gt'<|Zz ?_
 refine Cn (fun hc1 => ?_) fun hc1 => ?_
 ·have h60 : decide ((l.length : Int) ≤ 60) = false := by
   have := of_decide_eq_true hc1
   exact decide_eq_false (by omega)
  refine Sq<|Rg<|Dd as'<|Zz<|awp_ret ?_
  refine Rt ?_
  exact ⟨by rw [gTags, h60, Bool.and_false], rfl⟩
 have h60 : decide ((l.length : Int) ≤ 60) = true := by
  have := of_decide_eq_false hc1
  exact decide_eq_true (by omega)
 rw [gTags, h60, Bool.and_true]
 refine awp_skip<|Sq<|Sq<|Rg<|Dd as'<|Zz<|awp_block ?_
 refine awp_loop (σ := Nat) (fun k => ([(0, .pv (slTags l)), (3, iv (k : Int))], [])) (fun k => k ≤ l.length ∧ ∀ j, j < k → badAt badTag GTag.key l j = false) (fun k => l.length - k) 0 ⟨by omega, by omega⟩ ?_ ?_
 ·exact E0
 rintro k ⟨hk, hno⟩
 refine Sq<|Sq<|Rg<|Dd mv'<|Dd mv'<|Dd (ll' Tryz.underlying47)<|Dd lss'<|Zz ?_
 refine Cn (fun hc2 => ?_) fun hc2 => ?_
 ·have hlt : k < l.length := by have := of_decide_eq_true hc2; omega
  obtain ⟨t, ht⟩ := get_of_lt hlt
  have hi := map_get (f := encTag) ht
  have hkt := hks t (List.mem_of_getElem? ht)
  obtain ⟨pt, hp⟩ : ∃ pt, 0 < k → l[k - 1]? = some pt := by
   by_cases k0 : 0 < k
   ·obtain ⟨pt, hp⟩ := get_of_lt (l := l) (k := k - 1) (by omega)
    exact ⟨pt, fun _ => hp⟩
   exact ⟨t, fun h => absurd h k0⟩
  have hpv : 0 < k → (l.map encTag)[k - 1]? = some (encTag pt) := fun h => map_get (f := encTag) (hp h)
  have hbe := badTag_eq l k t pt hp
  refine awp_skip<|Sq<|awp_block<|Sq ?_
  refine awp_mergeR (t := 55) (n := 43) (X := ((!gName t.key || decide ((t.val.size : Int) < 1)) || decide (200 < (t.val.size : Int))) || (decide ((0 : Int) < (k : Int)) && !slt pt.key t.key)) ?_ ?_
  ·cases hg20 : (!gName t.key : Bool)
   ·cases hg29 : (decide ((t.val.size : Int) < 1) : Bool)
    ·cases hg38 : (decide (200 < (t.val.size : Int)) : Bool)
     ·cases hg41 : (decide ((0 : Int) < (k : Int)) : Bool)
      ·refine awp_drawc follows ?_
       refine Cq mv'<|Cq mv'<|Cq (xp' so47)<|Cq (fp' fo95_0)<|Cq (lp' Tryz.isAgg9)<|Cq (by exact opr_call rfl rfl Tryz.call67 rfl (rName_c t.key _ hkt.1))<|Cq no'<|Cq mv'<|Nf mv'<|Nf mv'<|Nf (xp' so47)<|Nf (fp' fo95_1)<|Nf (lp' Tryz.isAgg9)<|Nf (ls' Tryz.underlying9)<|Nf lss'<|Cq pf'<|Cq mv'<|Nf mv'<|Nf mv'<|Nf (xp' so47)<|Nf (fp' fo95_1)<|Nf (lp' Tryz.isAgg9)<|Nf (ls' Tryz.underlying9)<|Nf gt'<|Cq pf'<|Cq mv'<|Nf mv'<|Nf gt'<|Nf mv'<|Ot<|Ot<|Ot<|Ot<|Ot<|Ot<|Ot<|Ot<|Ot<|Ot<|Ot<|Ot<|Nf pf'<|Cq pf' ?_
       refine dc_nil ⟨by kernel_rfl, ?_⟩
       exact ⟨rfl, ⟨_, rfl, by rfl⟩, rfl, rfl, rfl⟩
      refine awp_drawc follows ?_
      refine Cq mv'<|Cq mv'<|Cq (xp' so47)<|Cq (fp' fo95_0)<|Cq (lp' Tryz.isAgg9)<|Cq (by exact opr_call rfl rfl Tryz.call67 rfl (rName_c t.key _ hkt.1))<|Cq no'<|Cq mv'<|Nf mv'<|Nf mv'<|Nf (xp' so47)<|Nf (fp' fo95_1)<|Nf (lp' Tryz.isAgg9)<|Nf (ls' Tryz.underlying9)<|Nf lss'<|Cq pf'<|Cq mv'<|Nf mv'<|Nf mv'<|Nf (xp' so47)<|Nf (fp' fo95_1)<|Nf (lp' Tryz.isAgg9)<|Nf (ls' Tryz.underlying9)<|Nf gt'<|Cq pf'<|Cq mv'<|Nf mv'<|Nf gt'<|Nf mv'<|Nt mv'<|Nt mv'<|Nt (by exact opd_sub rfl rfl rfl (by exact w64 (by omega) (by omega)))<|Nt (by exact x_index_pad rfl so47 rfl rfl (by have := of_decide_eq_true hg41; omega) (show ((k : Int) - 1).toNat = k - 1 by omega) (hpv (by have := of_decide_eq_true hg41; omega)) rfl)<|Nt (fp' fo95_0)<|Nt (by exact opd_load1_pad rfl Tryz.isAgg9 rfl (hpv (by have := of_decide_eq_true hg41; omega)) rfl)<|Nt mv'<|Nt mv'<|Nt (xp' so47)<|Nt (fp' fo95_0)<|Nt (lp' Tryz.isAgg9)<|Nt (by exact opd_sgeq rfl rfl rfl) ?_
      refine Nf pt'<|Cq pf' ?_
      refine dc_nil ⟨by kernel_rfl, ?_⟩
      exact ⟨rfl, ⟨_, rfl, by rfl⟩, rfl, rfl, rfl⟩
     refine awp_drawc follows ?_
     refine Cq mv'<|Cq mv'<|Cq (xp' so47)<|Cq (fp' fo95_0)<|Cq (lp' Tryz.isAgg9)<|Cq (by exact opr_call rfl rfl Tryz.call67 rfl (rName_c t.key _ hkt.1))<|Cq no'<|Cq mv'<|Nf mv'<|Nf mv'<|Nf (xp' so47)<|Nf (fp' fo95_1)<|Nf (lp' Tryz.isAgg9)<|Nf (ls' Tryz.underlying9)<|Nf lss'<|Cq pf'<|Cq mv'<|Nf mv'<|Nf mv'<|Nf (xp' so47)<|Nf (fp' fo95_1)<|Nf (lp' Tryz.isAgg9)<|Nf (ls' Tryz.underlying9)<|Nf gt'<|Cq pf'<|Cq mv'<|Of<|Of<|Of<|Ou<|Ou<|Ou<|Ou<|Ou<|Ou<|Ou<|Ou<|Ou<|Ou<|Ou<|Ou<|Of<|Cq pt' ?_
     refine dc_nil ⟨by kernel_rfl, ?_⟩
     exact ⟨rfl, ⟨_, rfl, by rfl⟩, rfl, rfl, rfl⟩
    refine awp_drawc follows ?_
    refine Cq mv'<|Cq mv'<|Cq (xp' so47)<|Cq (fp' fo95_0)<|Cq (lp' Tryz.isAgg9)<|Cq (by exact opr_call rfl rfl Tryz.call67 rfl (rName_c t.key _ hkt.1))<|Cq no'<|Cq mv'<|Nf mv'<|Nf mv'<|Nf (xp' so47)<|Nf (fp' fo95_1)<|Nf (lp' Tryz.isAgg9)<|Nf (ls' Tryz.underlying9)<|Nf lss'<|Cq pf'<|Cq mv'<|Of<|Of<|Of<|Of<|Of<|Of<|Of<|Cq pt'<|Cq mv'<|Of<|Of<|Of<|Ou<|Ou<|Ou<|Ou<|Ou<|Ou<|Ou<|Ou<|Ou<|Ou<|Ou<|Ou<|Of<|Cq pk' ?_
    refine dc_nil ⟨by kernel_rfl, ?_⟩
    exact ⟨rfl, ⟨_, rfl, by rfl⟩, rfl, rfl, rfl⟩
   refine awp_drawc follows ?_
   refine Cq mv'<|Cq mv'<|Cq (xp' so47)<|Cq (fp' fo95_0)<|Cq (lp' Tryz.isAgg9)<|Cq (by exact opr_call rfl rfl Tryz.call67 rfl (rName_c t.key _ hkt.1))<|Cq no'<|Cq mv'<|Of<|Of<|Of<|Of<|Of<|Of<|Of<|Cq pt'<|Cq mv'<|Of<|Of<|Of<|Of<|Of<|Of<|Of<|Cq pk'<|Cq mv'<|Of<|Of<|Of<|Ou<|Ou<|Ou<|Ou<|Ou<|Ou<|Ou<|Ou<|Ou<|Ou<|Ou<|Ou<|Of<|Cq pk' ?_
   refine dc_nil ⟨by kernel_rfl, ?_⟩
   exact ⟨rfl, ⟨_, rfl, by rfl⟩, rfl, rfl, rfl⟩
  refine Cn (fun hc3 => ?_) fun hc3 => ?_
  ·rw [hbe] at hc3
   refine Sq<|Rg<|Dd as'<|Zz<|awp_ret ?_
   refine Rt ?_
   exact ⟨by rw [range_some hlt ((badAt_some ht).trans hc3)]; rfl, rfl⟩
  rw [hbe] at hc3
  refine awp_skip<|Rg<|Dd mv'<|Dd ad'<|Dd as'<|Zz ?_
  refine ⟨k + 1, ⟨by omega, fun j hj => ?_⟩, by omega, E0⟩
  by_cases e : j = k
  ·subst e; exact (badAt_some ht).trans hc3
  exact hno j (by omega)
 have hge : k = l.length := by have := of_decide_eq_false hc2; omega
 subst hge
 refine awp_exit<|Sq<|Rg<|Dd as'<|Zz<|awp_ret ?_
 refine Rt ?_
 exact ⟨by rw [range_any hno]; rfl, rfl⟩
end Go.Proofs.YtohdipdgnnamlaaGreatDoor
end
section
set_option linter.unusedVariables false
set_option linter.unusedSimpArgs false
set_option maxRecDepth 100000
set_option maxHeartbeats 1000000
namespace Go.Proofs.YtohdipdgnnamlaaGreatDoor
open Go.Abs
theorem wrong_eq (o : GObj) (k : Nat) (s p : ByteArray) (hp : 0 < k → o.refs[k - 1]? = some p) :
  ((!gName s || ((decide (o.kind = 2) && decide ((0 : Int) < (k : Int))) && decide (p = s))) || (decide (o.kind = 3) && inB (seenL o.refs k) s)) = gWrong o (before id o.refs k) (seenL o.refs k) s := by
 rw [gWrong, gTwice]
 cases hg : gName s with
 | false => simp
 | true =>
  have hs : (decide ((0 : Int) < (k : Int)) && decide (p = s)) = decide (s = before id o.refs k) := by
   cases k with
   | zero => rw [before, decide_eq_false (gName_ne hg)]; rfl
   | succ k =>
    have h := hp (by omega)
    rw [show k + 1 - 1 = k from rfl] at h
    rw [before_succ h, decide_eq_true (show (0 : Int) < ((k + 1 : Nat) : Int) by omega), Bool.true_and]
    exact decide_eq_decide.2 eq_comm
  rw [← hs]
  simp [Bool.and_assoc]
theorem seenL_at {l : List ByteArray} {k : Nat} {s : ByteArray} (h : l[k]? = some s) : seenL l (k + 1) = sput (seenL l k) s := by rw [seenL, h]; rfl
def gNum (k n : Int) : Bool := if k = 1 then decide (n = 0) else if k = 2 then decide (2 ≤ n) else if k = 3 then decide (3 ≤ n) else if k = 4 then decide (1 ≤ n) else decide (n = 3)
def rRefs (o : GObj) : Bool := (decide ((o.refs.length : Int) ≤ 2000) && !((List.range o.refs.length).any (wrongAt o))) && gNum o.kind (o.refs.length : Int)
theorem rRefs_c (o : GObj) (H : Heap) (ho : okO o) : ACalls Tryz.prog 70 [av (encObj o)] H (fun r H' => r = bv (rRefs o) ∧ H' = H) := by
 refine ACalls.pure ?_ (by simp) H
 obtain ⟨h1, h2, h3, h4⟩ := ho
 have hml : (o.refs.map encStr).length = o.refs.length := List.length_map _
 refine Bd Tryz.func70 rfl Tryz.ntmps70<|Sq<|Rg<|Dd (by exact opd_box (id := 1) rfl rfl rfl rfl rfl)<|Dd as'<|Zz<|Sq<|Rg<|Dd (fr' fo49_3)<|Dd (l1' Tryz.isAgg27)<|Dd (ll' Tryz.underlying27)<|Dd as'<|Zz<|Sq<|Sq<|Rg<|Dd mv'<|Dd gt'<|Zz ?_
 refine Cn (fun hc1 => ?_) fun hc1 => ?_
 ·have hb : decide ((o.refs.length : Int) ≤ 2000) = false := by
   have := of_decide_eq_true hc1
   exact decide_eq_false (by omega)
  refine Sq<|Rg<|Dd as'<|Zz<|awp_ret ?_
  refine Rt ?_
  exact ⟨by rw [rRefs, hb]; rfl, rfl⟩
 have hb : decide ((o.refs.length : Int) ≤ 2000) = true := by
  have := of_decide_eq_false hc1
  exact decide_eq_true (by omega)
 rw [rRefs, hb, Bool.true_and]
 refine awp_skip<|Sq<|Rg<|Dd (by exact opd_makeMap (id := 11) strK rfl rfl)<|Dd as'<|Zz<|Sq<|Sq<|Rg<|Dd as'<|Zz<|awp_block ?_
 refine awp_loop (σ := Nat) (fun k => ([(1, .ref 1 0 0 0), (3, iv ((o.refs.map encStr).length : Int)), (4, .mp 11 0), (5, iv (k : Int))], [(11, sob (seenL o.refs k)), (1, bx 6 49 ((encObj o).map .pv))])) (fun k => k ≤ o.refs.length ∧ ∀ j, j < k → wrongAt o j = false) (fun k => o.refs.length - k) 0 ⟨by omega, by omega⟩ ?_ ?_
 ·exact (Ent.wk ⟨⟨_, rfl, rfl⟩, (by (simp; rfl)), ⟨_, rfl, rfl⟩, (by (simp; done)), ⟨_, rfl, rfl⟩, (by (simp; rfl)), ⟨_, rfl, rfl⟩, (by (simp; done)), trivial⟩ ⟨⟨_, rfl, rfl⟩, (by exact sob_clo _ _), ⟨_, rfl, rfl⟩, (by (simp; done)), trivial⟩ trivial)
 rintro k ⟨hk, hno⟩
 refine Sq<|Sq<|Rg<|Dd mv'<|Dd mv'<|Dd lss'<|Zz ?_
 refine Cn (fun hc2 => ?_) fun hc2 => ?_
 ·have hlt : k < o.refs.length := by have := of_decide_eq_true hc2; omega
  obtain ⟨s, hs⟩ := get_of_lt hlt
  have hi := map_get (f := encStr) hs
  obtain ⟨p, hp⟩ : ∃ p, 0 < k → o.refs[k - 1]? = some p := by
   by_cases k0 : 0 < k
   ·obtain ⟨p, hp⟩ := get_of_lt (l := o.refs) (k := k - 1) (by omega)
    exact ⟨p, fun _ => hp⟩
   exact ⟨s, fun h => absurd h k0⟩
  have hpv : 0 < k → (o.refs.map encStr)[k - 1]? = some (encStr p) := fun h => map_get (f := encStr) (hp h)
  have hbe := wrong_eq o k s p hp
  have hw : wrongAt o k = gWrong o (before id o.refs k) (seenL o.refs k) s := by rw [wrongAt, hs]
  have hse := seenL_at hs
  refine awp_skip<|Sq<|awp_block<|Sq<|Sq ?_
  refine awp_mergeR (t := 60) (n := 44) (X := (!gName s || ((decide (o.kind = 2) && decide ((0 : Int) < (k : Int))) && decide (p = s))) || (decide (o.kind = 3) && inB (seenL o.refs k) s)) ?_ ?_
  ·cases hg24 : (!gName s : Bool)
   ·cases hg28 : (decide (o.kind = 2) : Bool)
    ·cases hg51 : (decide (o.kind = 3) : Bool)
     ·refine awp_drawc follows ?_
      refine Cq (fr' fo49_3)<|Cq (l1' Tryz.isAgg27)<|Cq mv'<|Cq (xp' so27)<|Cq (lp' Tryz.isAgg9)<|Cq (by exact opr_call rfl rfl Tryz.call67 rfl (rName_c s _ (h4 s (List.mem_of_getElem? hs))))<|Cq no'<|Cq mv'<|Nf (fr' fo49_1)<|Nf (l1' Tryz.isAgg3)<|Nf eql'<|Nf mv'<|Ot<|Ot<|Nf pf'<|Nf mv'<|Ot<|Ot<|Ot<|Ot<|Ot<|Ot<|Ot<|Ot<|Ot<|Ot<|Ot<|Ot<|Nf pk'<|Cq pf'<|Cq mv'<|Nf (fr' fo49_1)<|Nf (l1' Tryz.isAgg3)<|Nf eql'<|Nf mv'<|Ot<|Ot<|Ot<|Ot<|Ot<|Ot<|Ot<|Nf pf'<|Cq pk' ?_
      refine dc_nil ⟨by kernel_rfl, ?_⟩
      exact ⟨rfl, ⟨_, rfl, by rfl⟩, rfl, rfl, rfl⟩
     refine awp_drawc follows ?_
     refine Cq (fr' fo49_3)<|Cq (l1' Tryz.isAgg27)<|Cq mv'<|Cq (xp' so27)<|Cq (lp' Tryz.isAgg9)<|Cq (by exact opr_call rfl rfl Tryz.call67 rfl (rName_c s _ (h4 s (List.mem_of_getElem? hs))))<|Cq no'<|Cq mv'<|Nf (fr' fo49_1)<|Nf (l1' Tryz.isAgg3)<|Nf eql'<|Nf mv'<|Ot<|Ot<|Nf pf'<|Nf mv'<|Ot<|Ot<|Ot<|Ot<|Ot<|Ot<|Ot<|Ot<|Ot<|Ot<|Ot<|Ot<|Nf pk'<|Cq pf'<|Cq mv'<|Nf (fr' fo49_1)<|Nf (l1' Tryz.isAgg3)<|Nf eql'<|Nf mv'<|Nt mv'<|Nt (fr' fo49_3)<|Nt (l1' Tryz.isAgg27)<|Nt mv'<|Nt (xp' so27)<|Nt (lp' Tryz.isAgg9)<|Nt (by exact x_lookup_set rfl Tryz.underlying59 Tryz.underlying9 rfl rfl rfl rfl rfl Tryz.zeroValue4 (.inl rfl))<|Nf pt'<|Cq pk' ?_
     refine dc_nil ⟨by kernel_rfl, ?_⟩
     exact ⟨rfl, ⟨_, rfl, by rfl⟩, rfl, rfl, rfl⟩
    cases hg32 : (decide ((0 : Int) < (k : Int)) : Bool)
    ·cases hg51 : (decide (o.kind = 3) : Bool)
     ·refine awp_drawc follows ?_
      refine Cq (fr' fo49_3)<|Cq (l1' Tryz.isAgg27)<|Cq mv'<|Cq (xp' so27)<|Cq (lp' Tryz.isAgg9)<|Cq (by exact opr_call rfl rfl Tryz.call67 rfl (rName_c s _ (h4 s (List.mem_of_getElem? hs))))<|Cq no'<|Cq mv'<|Nf (fr' fo49_1)<|Nf (l1' Tryz.isAgg3)<|Nf eql'<|Nf mv'<|Nt mv'<|Nt gt'<|Nf pt'<|Nf mv'<|Ot<|Ot<|Ot<|Ot<|Ot<|Ot<|Ot<|Ot<|Ot<|Ot<|Ot<|Ot<|Nf pf'<|Cq pf'<|Cq mv'<|Nf (fr' fo49_1)<|Nf (l1' Tryz.isAgg3)<|Nf eql'<|Nf mv'<|Ot<|Ot<|Ot<|Ot<|Ot<|Ot<|Ot<|Nf pf'<|Cq pk' ?_
      refine dc_nil ⟨by kernel_rfl, ?_⟩
      exact ⟨rfl, ⟨_, rfl, by rfl⟩, rfl, rfl, rfl⟩
     refine awp_drawc follows ?_
     refine Cq (fr' fo49_3)<|Cq (l1' Tryz.isAgg27)<|Cq mv'<|Cq (xp' so27)<|Cq (lp' Tryz.isAgg9)<|Cq (by exact opr_call rfl rfl Tryz.call67 rfl (rName_c s _ (h4 s (List.mem_of_getElem? hs))))<|Cq no'<|Cq mv'<|Nf (fr' fo49_1)<|Nf (l1' Tryz.isAgg3)<|Nf eql'<|Nf mv'<|Nt mv'<|Nt gt'<|Nf pt'<|Nf mv'<|Ot<|Ot<|Ot<|Ot<|Ot<|Ot<|Ot<|Ot<|Ot<|Ot<|Ot<|Ot<|Nf pf'<|Cq pf'<|Cq mv'<|Nf (fr' fo49_1)<|Nf (l1' Tryz.isAgg3)<|Nf eql'<|Nf mv'<|Nt mv'<|Nt (fr' fo49_3)<|Nt (l1' Tryz.isAgg27)<|Nt mv'<|Nt (xp' so27)<|Nt (lp' Tryz.isAgg9)<|Nt (by exact x_lookup_set rfl Tryz.underlying59 Tryz.underlying9 rfl rfl rfl rfl rfl Tryz.zeroValue4 (.inl rfl))<|Nf pt'<|Cq pk' ?_
     refine dc_nil ⟨by kernel_rfl, ?_⟩
     exact ⟨rfl, ⟨_, rfl, by rfl⟩, rfl, rfl, rfl⟩
    cases hg47 : (decide (p = s) : Bool)
    ·cases hg51 : (decide (o.kind = 3) : Bool)
     ·refine awp_drawc follows ?_
      refine Cq (fr' fo49_3)<|Cq (l1' Tryz.isAgg27)<|Cq mv'<|Cq (xp' so27)<|Cq (lp' Tryz.isAgg9)<|Cq (by exact opr_call rfl rfl Tryz.call67 rfl (rName_c s _ (h4 s (List.mem_of_getElem? hs))))<|Cq no'<|Cq mv'<|Nf (fr' fo49_1)<|Nf (l1' Tryz.isAgg3)<|Nf eql'<|Nf mv'<|Nt mv'<|Nt gt'<|Nf pt'<|Nf mv'<|Nt (fr' fo49_3)<|Nt (l1' Tryz.isAgg27)<|Nt mv'<|Nt (by exact opd_sub rfl rfl rfl (by exact w64 (by omega) (by omega)))<|Nt (by exact x_index_pad rfl so27 rfl rfl (by have := of_decide_eq_true hg32; omega) (show ((k : Int) - 1).toNat = k - 1 by omega) (hpv (by have := of_decide_eq_true hg32; omega)) rfl)<|Nt (by exact opd_load1_pad rfl Tryz.isAgg9 rfl (hpv (by have := of_decide_eq_true hg32; omega)) rfl)<|Nt (fr' fo49_3)<|Nt (l1' Tryz.isAgg27)<|Nt mv'<|Nt (xp' so27)<|Nt (lp' Tryz.isAgg9)<|Nt se'<|Nf pt'<|Cq pf'<|Cq mv'<|Nf (fr' fo49_1)<|Nf (l1' Tryz.isAgg3)<|Nf eql'<|Nf mv'<|Ot<|Ot<|Ot<|Ot<|Ot<|Ot<|Ot<|Nf pf'<|Cq pf' ?_
      refine dc_nil ⟨by kernel_rfl, ?_⟩
      exact ⟨rfl, ⟨_, rfl, by rfl⟩, rfl, rfl, rfl⟩
     refine awp_drawc follows ?_
     refine Cq (fr' fo49_3)<|Cq (l1' Tryz.isAgg27)<|Cq mv'<|Cq (xp' so27)<|Cq (lp' Tryz.isAgg9)<|Cq (by exact opr_call rfl rfl Tryz.call67 rfl (rName_c s _ (h4 s (List.mem_of_getElem? hs))))<|Cq no'<|Cq mv'<|Nf (fr' fo49_1)<|Nf (l1' Tryz.isAgg3)<|Nf eql'<|Nf mv'<|Nt mv'<|Nt gt'<|Nf pt'<|Nf mv'<|Nt (fr' fo49_3)<|Nt (l1' Tryz.isAgg27)<|Nt mv'<|Nt (by exact opd_sub rfl rfl rfl (by exact w64 (by omega) (by omega)))<|Nt (by exact x_index_pad rfl so27 rfl rfl (by have := of_decide_eq_true hg32; omega) (show ((k : Int) - 1).toNat = k - 1 by omega) (hpv (by have := of_decide_eq_true hg32; omega)) rfl)<|Nt (by exact opd_load1_pad rfl Tryz.isAgg9 rfl (hpv (by have := of_decide_eq_true hg32; omega)) rfl)<|Nt (fr' fo49_3)<|Nt (l1' Tryz.isAgg27)<|Nt mv'<|Nt (xp' so27)<|Nt (lp' Tryz.isAgg9)<|Nt se'<|Nf pt'<|Cq pf'<|Cq mv'<|Nf (fr' fo49_1)<|Nf (l1' Tryz.isAgg3)<|Nf eql'<|Nf mv'<|Nt mv'<|Nt (fr' fo49_3)<|Nt (l1' Tryz.isAgg27) ?_
     refine Nt mv'<|Nt (xp' so27)<|Nt (lp' Tryz.isAgg9)<|Nt (by exact x_lookup_set rfl Tryz.underlying59 Tryz.underlying9 rfl rfl rfl rfl rfl Tryz.zeroValue4 (.inl rfl))<|Nf pt'<|Cq pf' ?_
     refine dc_nil ⟨by kernel_rfl, ?_⟩
     exact ⟨rfl, ⟨_, rfl, by rfl⟩, rfl, rfl, rfl⟩
    refine awp_drawc follows ?_
    refine Cq (fr' fo49_3)<|Cq (l1' Tryz.isAgg27)<|Cq mv'<|Cq (xp' so27)<|Cq (lp' Tryz.isAgg9)<|Cq (by exact opr_call rfl rfl Tryz.call67 rfl (rName_c s _ (h4 s (List.mem_of_getElem? hs))))<|Cq no'<|Cq mv'<|Nf (fr' fo49_1)<|Nf (l1' Tryz.isAgg3)<|Nf eql'<|Nf mv'<|Nt mv'<|Nt gt'<|Nf pt'<|Nf mv'<|Nt (fr' fo49_3)<|Nt (l1' Tryz.isAgg27)<|Nt mv'<|Nt (by exact opd_sub rfl rfl rfl (by exact w64 (by omega) (by omega)))<|Nt (by exact x_index_pad rfl so27 rfl rfl (by have := of_decide_eq_true hg32; omega) (show ((k : Int) - 1).toNat = k - 1 by omega) (hpv (by have := of_decide_eq_true hg32; omega)) rfl)<|Nt (by exact opd_load1_pad rfl Tryz.isAgg9 rfl (hpv (by have := of_decide_eq_true hg32; omega)) rfl)<|Nt (fr' fo49_3)<|Nt (l1' Tryz.isAgg27)<|Nt mv'<|Nt (xp' so27)<|Nt (lp' Tryz.isAgg9)<|Nt se'<|Nf pt'<|Cq pf'<|Cq mv'<|Of<|Of<|Of<|Of<|Ou<|Ou<|Ou<|Ou<|Ou<|Ou<|Ou<|Of<|Cq pt' ?_
    refine dc_nil ⟨by kernel_rfl, ?_⟩
    exact ⟨rfl, ⟨_, rfl, by rfl⟩, rfl, rfl, rfl⟩
   refine awp_drawc follows ?_
   refine Cq (fr' fo49_3)<|Cq (l1' Tryz.isAgg27)<|Cq mv'<|Cq (xp' so27)<|Cq (lp' Tryz.isAgg9)<|Cq (by exact opr_call rfl rfl Tryz.call67 rfl (rName_c s _ (h4 s (List.mem_of_getElem? hs))))<|Cq no'<|Cq mv'<|Of<|Of<|Of<|Of<|Ou<|Ou<|Of<|Of<|Ou<|Ou<|Ou<|Ou<|Ou<|Ou<|Ou<|Ou<|Ou<|Ou<|Ou<|Ou<|Of<|Cq pt'<|Cq mv'<|Of<|Of<|Of<|Of<|Ou<|Ou<|Ou<|Ou<|Ou<|Ou<|Ou<|Of<|Cq pk' ?_
   refine dc_nil ⟨by kernel_rfl, ?_⟩
   exact ⟨rfl, ⟨_, rfl, by rfl⟩, rfl, rfl, rfl⟩
  refine Cn (fun hc3 => ?_) fun hc3 => ?_
  ·rw [hbe, ← hw] at hc3
   refine Sq<|Rg<|Dd as'<|Zz<|awp_ret ?_
   refine Rt ?_
   exact ⟨by rw [range_some hlt hc3]; rfl, rfl⟩
  rw [hbe, ← hw] at hc3
  refine awp_skip<|Rg<|Dd mv'<|Dd (fr' fo49_3)<|Dd (l1' Tryz.isAgg27)<|Dd mv'<|Dd (xp' so27)<|Dd (lp' Tryz.isAgg9)<|Uu (by exact x_put_set (.inl rfl) Tryz.underlying59 Tryz.underlying9 rfl rfl rfl rfl rfl rfl rfl)<|Zz<|Rg<|Dd mv'<|Dd ad'<|Dd as'<|Zz ?_
  refine ⟨k + 1, ⟨by omega, fun j hj => ?_⟩, by omega, ?_⟩
  ·by_cases e : j = k
   ·subst e; exact hc3
   exact hno j (by omega)
  rw [hse]
  exact (Ent.wk ⟨⟨_, rfl, rfl⟩, (by (simp; rfl)), ⟨_, rfl, rfl⟩, (by (simp; done)), ⟨_, rfl, rfl⟩, (by (simp; rfl)), ⟨_, rfl, rfl⟩, (by (simp; done)), trivial⟩ ⟨⟨_, rfl, rfl⟩, (by exact sob_clo _ _), ⟨_, rfl, rfl⟩, (by (simp; done)), trivial⟩ trivial)
 have hge : k = o.refs.length := by have := of_decide_eq_false hc2; omega
 subst hge
 rw [range_any hno, Bool.not_false, Bool.true_and, gNum, ← hml]
 refine awp_exit<|Sq<|Sq<|Rg<|Dd (fr' fo49_1)<|Dd (l1' Tryz.isAgg3)<|Zz<|awp_block<|Sq<|Rg<|Dd eql'<|Dd as'<|Zz ?_
 refine Cn (fun hc4 => ?_) fun hc4 => ?_
 ·rw [if_pos (of_decide_eq_true hc4)]
  refine Sq<|Rg<|Dd mv'<|Dd eql'<|Dd as'<|Zz<|awp_ret ?_
  refine Rt ?_
  exact ⟨rfl, rfl⟩
 rw [if_neg (of_decide_eq_false hc4)]
 refine Sq<|Rg<|Dd eql'<|Dd as'<|Zz ?_
 refine Cn (fun hc5 => ?_) fun hc5 => ?_
 ·rw [if_pos (of_decide_eq_true hc5)]
  refine Sq<|Rg<|Dd mv'<|Dd ge'<|Dd as'<|Zz<|awp_ret ?_
  refine Rt ?_
  exact ⟨rfl, rfl⟩
 rw [if_neg (of_decide_eq_false hc5)]
 refine Sq<|Rg<|Dd eql'<|Dd as'<|Zz ?_
 refine Cn (fun hc6 => ?_) fun hc6 => ?_
 ·rw [if_pos (of_decide_eq_true hc6)]
  refine Sq<|Rg<|Dd mv'<|Dd ge'<|Dd as'<|Zz<|awp_ret ?_
  refine Rt ?_
  exact ⟨rfl, rfl⟩
 rw [if_neg (of_decide_eq_false hc6)]
 refine Sq<|Rg<|Dd eql'<|Dd as'<|Zz ?_
 refine Cn (fun hc7 => ?_) fun hc7 => ?_
 ·rw [if_pos (of_decide_eq_true hc7)]
  refine Sq<|Rg<|Dd mv'<|Dd ge'<|Dd as'<|Zz<|awp_ret ?_
  refine Rt ?_
  exact ⟨rfl, rfl⟩
 rw [if_neg (of_decide_eq_false hc7)]
 refine awp_skip<|Sq<|Rg<|Dd mv'<|Dd eql'<|Dd as'<|Zz<|awp_ret ?_
 refine Rt ?_
 exact ⟨rfl, rfl⟩
def atO (o : GObj) : Bool := if o.kind = 1 then gOn o.x o.y else (decide (o.x = 0) && decide (o.y = 0))
theorem rObj_eq (o : GObj) : ((((gName o.id && !decide (gWord o.kind = sNil)) && atO o) && gTags o.tags) && rRefs o) = gObj o := by
 cases hw : decide (gWord o.kind = sNil) with
 | true => simp [gObj, gHead, gHeadN, hw]
 | false =>
  have hk := word_kind hw
  have hk0 : ¬ o.kind = 0 := fun e => by rw [e] at hw; simp [gWord] at hw
  simp only [gObj, gHead, gHeadN, hw, rRefs, atO, gKind, gNum, gLeast]
  generalize gName o.id = a
  generalize gTags o.tags = b
  generalize (List.range o.refs.length).any (wrongAt o) = w
  generalize gOn o.x o.y = c
  generalize (decide (o.x = 0) && decide (o.y = 0)) = d
  generalize (o.refs.length : Int) = n
  generalize o.kind = k at *
  rcases (by omega : k = 1 ∨ k = 2 ∨ k = 3 ∨ k = 4 ∨ k = 5) with rfl | rfl | rfl | rfl | rfl <;> cases a <;> cases b <;> cases w <;> cases c <;> cases d <;> rw [Bool.eq_iff_iff] <;> simp <;> omega
theorem rObj_c (o : GObj) (H : Heap) (ho : okO o) : ACalls Tryz.prog 38 [av (encObj o)] H (fun r H' => r = bv (gObj o) ∧ H' = H) := by
 refine ACalls.pure ?_ (by simp) H
 rw [← rObj_eq]
 refine Bd Tryz.func38 rfl Tryz.ntmps38<|Sq<|Rg<|Dd (by exact opd_box (id := 1) rfl rfl rfl rfl rfl)<|Dd as'<|Zz<|Sq<|Rg<|Dd (fr' fo49_2)<|Dd (by exact opd_loadn_ref rfl Tryz.isAgg46 Tryz.sizeOf46 rfl rfl rfl rfl (by simp only [Zl, encTag, encObj, encStr]; rfl) rfl)<|Dd (by exact opr_call rfl rfl Tryz.call66 rfl (rOn_c o.x o.y _))<|Dd as'<|Zz<|Sq<|Sq<|Rg<|Dd (fr' fo49_1)<|Dd (l1' Tryz.isAgg3)<|Dd ne'<|Zz ?_
 refine Cn (fun hc1 => ?_) fun hc1 => ?_
 ·have hat : atO o = (decide (o.x = 0) && decide (o.y = 0)) := by
   have h : (!decide (o.kind = 1)) = true := hc1
   rw [atO, if_neg (by simpa using h)]
  refine Rg<|Dd (fr' fo49_2)<|Dd (by exact opd_loadn_ref rfl Tryz.isAgg46 Tryz.sizeOf46 rfl rfl rfl rfl (by simp only [Zl, encTag, encObj, encStr]; rfl) rfl)<|Dd (bu' bo46)<|Dd (by exact opd_aeql rfl rfl rfl rfl rfl Tryz.eqGuardType46 (se46 _ _ _ _))<|Dd as'<|Zz<|Sq ?_
  refine awp_bool (t := 2) (n := 26) (X := (((gName o.id && !decide (gWord o.kind = sNil)) && atO o) && gTags o.tags) && rRefs o) ?_ ?_
  ·all_goals refine Dd (fr' fo49_0) ?_
   all_goals refine Dd (l1' Tryz.isAgg9) ?_
   all_goals refine Dd (by exact opr_call rfl rfl Tryz.call67 rfl (rName_c o.id _ ho.1)) ?_
   all_goals refine Dd mv' ?_
   all_goals refine Sp 17 (fun h17 => ?_) fun h17 => ?_
   all_goals try contradiction
   all_goals first | refine Fo ?_ | refine On (fr' fo49_1) ?_
   all_goals first | refine Fo ?_ | refine On (l1' Tryz.isAgg3) ?_
   all_goals first | refine Fo ?_ | refine On (by exact opr_call rfl rfl Tryz.call68 rfl (rWordOf_c o.kind _)) ?_
   all_goals first | refine Fo ?_ | refine On sn' ?_
   all_goals refine Dd pk' ?_
   all_goals refine Dd mv' ?_
   all_goals refine Sp 23 (fun h23 => ?_) fun h23 => ?_
   all_goals try contradiction
   all_goals first | refine Fo ?_ | refine On mv' ?_
   all_goals refine Dd pk' ?_
   all_goals refine Dd mv' ?_
   all_goals refine Sp 26 (fun h26 => ?_) fun h26 => ?_
   all_goals try contradiction
   all_goals first | refine Fo ?_ | refine On (fr' fo49_4) ?_
   all_goals first | refine Fo ?_ | refine On (l1' Tryz.isAgg47) ?_
   all_goals first | refine Fo ?_ | refine On (by exact opr_call rfl rfl Tryz.call69 rfl (rTags_c o.tags _ ho.2.1)) ?_
   all_goals refine Dd pk' ?_
   all_goals refine Dd mv' ?_
   all_goals refine Sp 31 (fun h31 => ?_) fun h31 => ?_
   all_goals try contradiction
   all_goals first | refine Fo ?_ | refine On (by exact opd_loadn_ref rfl Tryz.isAgg49 Tryz.sizeOf49 rfl rfl rfl rfl (by simp only [Zl, encTag, encObj, encStr]; rfl) rfl) ?_
   all_goals first | refine Fo ?_ | refine On (by exact opr_call rfl rfl Tryz.call70 rfl (rRefs_c o _ ho)) ?_
   all_goals refine Dd pk' ?_
   all_goals refine Dd as' ?_
   all_goals refine al_nil ?_
   all_goals (exact ⟨⟨_, rfl, by (simp only [hat, *]; rfl)⟩, rfl, rfl, rfl⟩)
  refine awp_ret ?_
  refine Rt ?_
  exact ⟨rfl, rfl⟩
 have hat : atO o = gOn o.x o.y := by
  have h : (!decide (o.kind = 1)) = false := hc1
  rw [atO, if_pos (by simpa using h)]
 refine awp_skip<|Sq ?_
 refine awp_bool (t := 2) (n := 26) (X := (((gName o.id && !decide (gWord o.kind = sNil)) && atO o) && gTags o.tags) && rRefs o) ?_ ?_
 ·all_goals refine Dd (fr' fo49_0) ?_
  all_goals refine Dd (l1' Tryz.isAgg9) ?_
  all_goals refine Dd (by exact opr_call rfl rfl Tryz.call67 rfl (rName_c o.id _ ho.1)) ?_
  all_goals refine Dd mv' ?_
  all_goals refine Sp 17 (fun h17 => ?_) fun h17 => ?_
  all_goals try contradiction
  all_goals first | refine Fo ?_ | refine On (fr' fo49_1) ?_
  all_goals first | refine Fo ?_ | refine On (l1' Tryz.isAgg3) ?_
  all_goals first | refine Fo ?_ | refine On (by exact opr_call rfl rfl Tryz.call68 rfl (rWordOf_c o.kind _)) ?_
  all_goals first | refine Fo ?_ | refine On sn' ?_
  all_goals refine Dd pk' ?_
  all_goals refine Dd mv' ?_
  all_goals refine Sp 23 (fun h23 => ?_) fun h23 => ?_
  all_goals try contradiction
  all_goals first | refine Fo ?_ | refine On mv' ?_
  all_goals refine Dd pk' ?_
  all_goals refine Dd mv' ?_
  all_goals refine Sp 26 (fun h26 => ?_) fun h26 => ?_
  all_goals try contradiction
  all_goals first | refine Fo ?_ | refine On (fr' fo49_4) ?_
  all_goals first | refine Fo ?_ | refine On (l1' Tryz.isAgg47) ?_
  all_goals first | refine Fo ?_ | refine On (by exact opr_call rfl rfl Tryz.call69 rfl (rTags_c o.tags _ ho.2.1)) ?_
  all_goals refine Dd pk' ?_
  all_goals refine Dd mv' ?_
  all_goals refine Sp 31 (fun h31 => ?_) fun h31 => ?_
  all_goals try contradiction
  all_goals first | refine Fo ?_ | refine On (by exact opd_loadn_ref rfl Tryz.isAgg49 Tryz.sizeOf49 rfl rfl rfl rfl (by simp only [Zl, encTag, encObj, encStr]; rfl) rfl) ?_
  all_goals first | refine Fo ?_ | refine On (by exact opr_call rfl rfl Tryz.call70 rfl (rRefs_c o _ ho)) ?_
  all_goals refine Dd pk' ?_
  all_goals refine Dd as' ?_
  all_goals refine al_nil ?_
  all_goals (exact ⟨⟨_, rfl, by (simp only [hat, *]; rfl)⟩, rfl, rfl, rfl⟩)
 refine awp_ret ?_
 refine Rt ?_
 exact ⟨rfl, rfl⟩
end Go.Proofs.YtohdipdgnnamlaaGreatDoor
end
section
set_option linter.unusedVariables false
set_option linter.unusedSimpArgs false
set_option maxRecDepth 100000
set_option maxHeartbeats 1000000
namespace Go.Proofs.YtohdipdgnnamlaaGreatDoor
open Go.Abs
theorem badObj_eq (m : List GObj) (k : Nat) (o po : GObj) (hp : 0 < k → m[k - 1]? = some po) : (!gObj o || (decide ((0 : Int) < (k : Int)) && !slt po.id o.id)) = badObj (before GObj.id m k) o := by
 rw [badObj]
 cases hg : gObj o with
 | false => simp
 | true =>
  have hs : sle o.id (before GObj.id m k) = (decide ((0 : Int) < (k : Int)) && !slt po.id o.id) := by
   cases k with
   | zero =>
    have : slt sNil o.id = true := by
     cases e : slt sNil o.id with
     | true => rfl
     | false => exact absurd (slt_tri (slt_nil _) e) (gName_ne (gObj_name hg))
    rw [before, sle_iff.2 this]; rfl
   | succ k =>
    have h := hp (by omega)
    rw [show k + 1 - 1 = k from rfl] at h
    rw [before_succ h, decide_eq_true (show (0 : Int) < ((k + 1 : Nat) : Int) by omega), Bool.true_and]
    cases e : slt po.id o.id with
    | true => rw [sle_iff.2 e]; rfl
    | false =>
     cases e2 : sle o.id po.id with
     | true => rfl
     | false => rw [sle_iff] at e2; rw [e] at e2; cases e2
  rw [hs]
theorem rMap_c (m : List GObj) (H : Heap) (hm : okM m) : ACalls Tryz.prog 18 [.agg [.pv (slObjs m)]] H (fun r H' => r = bv (gMap m) ∧ H' = H) := by
 refine ACalls.pure ?_ (by simp) H
 obtain ⟨hl, hks⟩ := hm
 have hml : (m.map encObj).length = m.length := List.length_map _
 refine Bd Tryz.func18 rfl Tryz.ntmps18<|Sq<|Rg<|Dd (by exact opd_box (id := 1) rfl rfl rfl rfl rfl)<|Dd as'<|Zz<|Sq<|Sq<|Rg<|Dd (fr' fo24_0)<|Dd (l1' Tryz.isAgg22)<|Dd (ll' Tryz.underlying22)<|Dd gt'<|Zz ?_
 refine Cn (fun hc1 => ?_) fun hc1 => ?_
 ·have h60 : decide ((m.length : Int) ≤ 1000000) = false := by
   have := of_decide_eq_true hc1
   exact decide_eq_false (by omega)
  refine Sq<|Rg<|Dd as'<|Zz<|awp_ret ?_
  refine Rt ?_
  exact ⟨by rw [gMap, h60, Bool.and_false], rfl⟩
 have h60 : decide ((m.length : Int) ≤ 1000000) = true := by
  have := of_decide_eq_false hc1
  exact decide_eq_true (by omega)
 rw [gMap, h60, Bool.and_true]
 refine awp_skip<|Sq<|Sq<|Rg<|Dd as'<|Zz<|awp_block ?_
 refine awp_loop (σ := Nat) (fun k => ([(1, .ref 1 0 0 0), (3, iv (k : Int))], [(1, bx 1 24 [.pv (slObjs m)])])) (fun k => k ≤ m.length ∧ ∀ j, j < k → badAt badObj GObj.id m j = false) (fun k => m.length - k) 0 ⟨by omega, by omega⟩ ?_ ?_
 ·exact Wk
 rintro k ⟨hk, hno⟩
 refine Sq<|Sq<|Rg<|Dd mv'<|Dd (fr' fo24_0)<|Dd (l1' Tryz.isAgg22)<|Dd (ll' Tryz.underlying22)<|Dd lss'<|Zz ?_
 refine Cn (fun hc2 => ?_) fun hc2 => ?_
 ·have hlt : k < m.length := by have := of_decide_eq_true hc2; omega
  obtain ⟨o, ho⟩ := get_of_lt hlt
  have hi := map_get (f := encObj) ho
  obtain ⟨po, hp⟩ : ∃ po, 0 < k → m[k - 1]? = some po := by
   by_cases k0 : 0 < k
   ·obtain ⟨po, hp⟩ := get_of_lt (l := m) (k := k - 1) (by omega)
    exact ⟨po, fun _ => hp⟩
   exact ⟨o, fun h => absurd h k0⟩
  have hpv : 0 < k → (m.map encObj)[k - 1]? = some (encObj po) := fun h => map_get (f := encObj) (hp h)
  have hbe := badObj_eq m k o po hp
  refine awp_skip<|Sq<|awp_block<|Sq ?_
  refine awp_mergeR (t := 41) (n := 27) (X := !gObj o || (decide ((0 : Int) < (k : Int)) && !slt po.id o.id)) ?_ ?_
  ·cases hg22 : (!gObj o : Bool)
   ·cases hg25 : (decide ((0 : Int) < (k : Int)) : Bool)
    ·refine awp_drawc follows ?_
     refine Cq (fr' fo24_0)<|Cq (l1' Tryz.isAgg22)<|Cq mv'<|Cq (xp' so22)<|Cq (by exact opd_loadn_pad rfl Tryz.isAgg49 Tryz.sizeOf49 rfl (by omega) (by simp only [Zl, encTag, encObj, encStr, encInt]; rfl) rfl)<|Cq (by exact opr_call rfl rfl Tryz.call38 rfl (rObj_c o _ (hks o (List.mem_of_getElem? ho))))<|Cq no'<|Cq mv'<|Nf mv'<|Nf gt'<|Nf mv'<|Ot<|Ot<|Ot<|Ot<|Ot<|Ot<|Ot<|Ot<|Ot<|Ot<|Ot<|Ot<|Ot<|Ot<|Nf pf'<|Cq pf' ?_
     refine dc_nil ⟨by kernel_rfl, ?_⟩
     exact ⟨rfl, ⟨_, rfl, by rfl⟩, rfl, rfl, rfl⟩
    refine awp_drawc follows ?_
    refine Cq (fr' fo24_0)<|Cq (l1' Tryz.isAgg22)<|Cq mv'<|Cq (xp' so22)<|Cq (by exact opd_loadn_pad rfl Tryz.isAgg49 Tryz.sizeOf49 rfl (by omega) (by simp only [Zl, encTag, encObj, encStr, encInt]; rfl) rfl)<|Cq (by exact opr_call rfl rfl Tryz.call38 rfl (rObj_c o _ (hks o (List.mem_of_getElem? ho))))<|Cq no'<|Cq mv'<|Nf mv'<|Nf gt'<|Nf mv'<|Nt (fr' fo24_0)<|Nt (l1' Tryz.isAgg22)<|Nt mv'<|Nt (by exact opd_sub rfl rfl rfl (by exact w64 (by omega) (by omega)))<|Nt (by exact x_index_pad rfl so22 rfl rfl (by have := of_decide_eq_true hg25; omega) (show ((k : Int) - 1).toNat = k - 1 by omega) (hpv (by have := of_decide_eq_true hg25; omega)) rfl)<|Nt (fp' fo49_0)<|Nt (by exact opd_load1_pad rfl Tryz.isAgg9 rfl (hpv (by have := of_decide_eq_true hg25; omega)) rfl)<|Nt (fr' fo24_0)<|Nt (l1' Tryz.isAgg22)<|Nt mv'<|Nt (xp' so22)<|Nt (fp' fo49_0)<|Nt (lp' Tryz.isAgg9)<|Nt (by exact opd_sgeq rfl rfl rfl)<|Nf pt' ?_
    refine Cq pf' ?_
    refine dc_nil ⟨by kernel_rfl, ?_⟩
    exact ⟨rfl, ⟨_, rfl, by rfl⟩, rfl, rfl, rfl⟩
   refine awp_drawc follows ?_
   refine Cq (fr' fo24_0)<|Cq (l1' Tryz.isAgg22)<|Cq mv'<|Cq (xp' so22)<|Cq (by exact opd_loadn_pad rfl Tryz.isAgg49 Tryz.sizeOf49 rfl (by omega) (by simp only [Zl, encTag, encObj, encStr, encInt]; rfl) rfl)<|Cq (by exact opr_call rfl rfl Tryz.call38 rfl (rObj_c o _ (hks o (List.mem_of_getElem? ho))))<|Cq no'<|Cq mv'<|Of<|Of<|Of<|Ou<|Ou<|Ou<|Ou<|Ou<|Ou<|Ou<|Ou<|Ou<|Ou<|Ou<|Ou<|Ou<|Ou<|Of<|Cq pt' ?_
   refine dc_nil ⟨by kernel_rfl, ?_⟩
   exact ⟨rfl, ⟨_, rfl, by rfl⟩, rfl, rfl, rfl⟩
  refine Cn (fun hc3 => ?_) fun hc3 => ?_
  ·rw [hbe] at hc3
   refine Sq<|Rg<|Dd as'<|Zz<|awp_ret ?_
   refine Rt ?_
   exact ⟨by rw [range_some hlt ((badAt_some ho).trans hc3)]; rfl, rfl⟩
  rw [hbe] at hc3
  refine awp_skip<|Rg<|Dd mv'<|Dd ad'<|Dd as'<|Zz ?_
  refine ⟨k + 1, ⟨by omega, fun j hj => ?_⟩, by omega, Wk⟩
  by_cases e : j = k
  ·subst e; exact (badAt_some ho).trans hc3
  exact hno j (by omega)
 have hge : k = m.length := by have := of_decide_eq_false hc2; omega
 subst hge
 refine awp_exit<|Sq<|Rg<|Dd as'<|Zz<|awp_ret ?_
 refine Rt ?_
 exact ⟨by rw [range_any hno]; rfl, rfl⟩
theorem rFind_c (m : List GObj) (id : ByteArray) (H : Heap) (hm : m.length < 4611686018427387904) : ACalls Tryz.prog 39 [.agg [.pv (slObjs m)], sv id] H (fun r H' => r = iv (gidx (idIs id) m) ∧ H' = H) := by
 refine ACalls.pure ?_ (by simp) H
 have hml : (m.map encObj).length = m.length := List.length_map _
 refine Bd Tryz.func39 rfl Tryz.ntmps39<|Sq<|Rg<|Dd (by exact opd_box (id := 2) rfl rfl rfl rfl rfl)<|Dd as'<|Zz<|Sq<|Sq<|Rg<|Dd as'<|Zz<|awp_block ?_
 refine awp_loop (σ := Nat) (fun k => ([(1, sv id), (2, .ref 2 0 0 0), (5, iv (k : Int))], [(2, bx 1 24 [.pv (slObjs m)])])) (fun k => k ≤ m.length ∧ ∀ j, j < k → ∀ b, m[j]? = some b → idIs id b = false) (fun k => m.length - k) 0 ⟨by omega, by omega⟩ ?_ ?_
 ·exact Wk
 rintro k ⟨hk, hno⟩
 refine Sq<|Sq<|Rg<|Dd mv'<|Dd (fr' fo24_0)<|Dd (l1' Tryz.isAgg22)<|Dd (ll' Tryz.underlying22)<|Dd lss'<|Zz ?_
 refine Cn (fun hc1 => ?_) fun hc1 => ?_
 ·have hlt : k < m.length := by have := of_decide_eq_true hc1; omega
  obtain ⟨o, ho⟩ := get_of_lt hlt
  have hi := map_get (f := encObj) ho
  refine awp_skip<|Sq<|awp_block<|Sq<|Rg<|Dd (fr' fo24_0)<|Dd (l1' Tryz.isAgg22)<|Dd mv'<|Dd (xp' so22)<|Dd (fp' fo49_0)<|Dd (lp' Tryz.isAgg9)<|Dd mv'<|Dd se'<|Zz ?_
  refine Cn (fun hc2 => ?_) fun hc2 => ?_
  ·have h : idIs id o = true := hc2
   refine Sq<|Rg<|Dd mv'<|Dd as'<|Zz<|awp_ret ?_
   refine Rt ?_
   exact ⟨by rw [gidx, fidx_some hno ho h], rfl⟩
  have h : idIs id o = false := hc2
  refine awp_skip<|Rg<|Dd mv'<|Dd ad'<|Dd as'<|Zz ?_
  exact ⟨k + 1, ⟨by omega, pre_succ hno ho h⟩, by omega, Wk⟩
 have hge : k = m.length := by have := of_decide_eq_false hc1; omega
 subst hge
 refine awp_exit<|Sq<|Rg<|Dd as'<|Zz<|awp_ret ?_
 refine Rt ?_
 exact ⟨by rw [gidx, fidx_none hno], rfl⟩
theorem rWanted_c (kind i : Int) (H : Heap) : ACalls Tryz.prog 40 [iv kind, iv i] H (fun r H' => r = iv (gWanted kind i) ∧ H' = H) := by
 refine ACalls.pure ?_ (by simp) H
 refine Bd Tryz.func40 rfl Tryz.ntmps40<|Sq<|Rg<|Dd as'<|Zz<|Sq<|Sq ?_
 refine awp_bool (t := 14) (n := 12) (X := decide (kind = 4) || (decide (kind = 5) && !decide (i = 1))) ?_ ?_
 ·all_goals refine Dd mv' ?_
  all_goals refine Dd eql' ?_
  all_goals refine Dd mv' ?_
  all_goals refine Sp 7 (fun h7 => ?_) fun h7 => ?_
  all_goals try contradiction
  all_goals first | refine Fo ?_ | refine On mv' ?_
  all_goals first | refine Fo ?_ | refine On eql' ?_
  all_goals first | refine Fo ?_ | refine On mv' ?_
  all_goals (first | refine Sp 10 (fun h10 => ?_) fun h10 => ?_ | refine al_dup (t := 10) rfl ?_)
  all_goals try contradiction
  all_goals first | refine Fo ?_ | refine Fu ?_ | refine On mv' ?_
  all_goals first | refine Fo ?_ | refine Fu ?_ | refine On ne' ?_
  all_goals first | refine Fo ?_ | refine On pk' ?_
  all_goals refine Dd pk' ?_
  all_goals refine al_nil ?_
  all_goals (exact ⟨⟨_, rfl, by (simp only [*, Zo]; done)⟩, rfl, rfl, rfl⟩)
 refine Cn (fun hc1 => ?_) fun hc1 => ?_
 ·skip
  refine Sq<|Rg<|Dd as'<|Zz<|awp_ret ?_
  refine Rt ?_
  exact ⟨by rw [gWanted, if_pos hc1], rfl⟩
 skip
 refine awp_skip<|Sq<|Rg<|Dd as'<|Zz<|awp_ret ?_
 refine Rt ?_
 exact ⟨by rw [gWanted, hc1]; rfl, rfl⟩
theorem rErr_c (m : List GObj) (o : GObj) (H : Heap) (hm : m.length < 4611686018427387904) (hl : o.refs.length < 4611686018427387904) : ACalls Tryz.prog 19 [.agg [.pv (slObjs m)], av (encObj o)] H (fun r H' => r = iv (refErr m o.kind 0 o.refs) ∧ H' = H) := by
 refine ACalls.pure ?_ (by simp) H
 have hml : (m.map encObj).length = m.length := List.length_map _
 have hrl : (o.refs.map encStr).length = o.refs.length := List.length_map _
 refine Bd Tryz.func19 rfl Tryz.ntmps19<|Sq<|Rg<|Dd (by exact opd_box (id := 2) rfl rfl rfl rfl rfl)<|Dd (by exact opd_box (id := 3) rfl rfl rfl rfl rfl)<|Dd as'<|Zz<|Sq<|Sq<|Rg<|Dd as'<|Zz<|awp_block ?_
 refine awp_loop (σ := Nat) (fun k => ([(2, .ref 2 0 0 0), (3, .ref 3 0 0 0), (5, iv (k : Int))], [(3, bx 6 49 ((encObj o).map .pv)), (2, bx 1 24 [.pv (slObjs m)])])) (fun k => k ≤ o.refs.length ∧ refErr m o.kind 0 o.refs = refErr m o.kind k (o.refs.drop k)) (fun k => o.refs.length - k) 0 ⟨by omega, rfl⟩ ?_ ?_
 ·exact Wk
 rintro k ⟨hk, hinv⟩
 refine Sq<|Sq<|Rg<|Dd mv'<|Dd (fr' fo49_3)<|Dd (l1' Tryz.isAgg27)<|Dd (ll' Tryz.underlying27)<|Dd lss'<|Zz ?_
 refine Cn (fun hc1 => ?_) fun hc1 => ?_
 ·have hlt : k < o.refs.length := by have := of_decide_eq_true hc1; omega
  obtain ⟨s, hs⟩ := get_of_lt hlt
  have hi := map_get (f := encStr) hs
  have hdr : o.refs.drop k = s :: o.refs.drop (k + 1) := by
   obtain ⟨hl1, he1⟩ := List.getElem?_eq_some_iff.1 hs
   rw [List.drop_eq_getElem_cons hl1, he1]
  rw [hdr, refErr] at hinv
  have hF := fun H => rFind_c m s H hm
  rcases gidx_cases (idIs s) m with ⟨hg, hf⟩ | ⟨j, ob, hg, hob, hf⟩
  ·have hko : kindOf m s = none := by rw [kindOf, hf]; rfl
   have hb : refBad m o.kind k s = 14 := by rw [refBad, hko]
   rw [hb, if_neg (by decide)] at hinv
   rw [hg] at hF
   refine awp_skip<|Sq<|awp_block<|Sq ?_
   refine awp_drawc follows ?_
   refine Cq (by exact opd_loadn_ref rfl Tryz.isAgg24 Tryz.sizeOf24 rfl rfl rfl rfl (by simp only [Zl, encTag, encObj, encStr, encInt]; rfl) rfl)<|Cq (fr' fo49_3)<|Cq (l1' Tryz.isAgg27)<|Cq mv'<|Cq (xp' so27)<|Cq (lp' Tryz.isAgg9)<|Cq (by exact opr_call rfl rfl Tryz.call39 rfl (hF _))<|Cq as' ?_
   refine dc_nil ⟨by kernel_rfl, ?_⟩
   refine Sq<|Sq<|Rg<|Dd mv'<|Dd lss'<|Zz ?_
   refine Cn (fun hc2 => ?_) fun hc2 => ?_
   ·skip
    refine Sq<|Rg<|Dd as'<|Zz<|awp_ret ?_
    refine Rt ?_
    exact ⟨by rw [hinv], rfl⟩
   cases hc2
  have hko : kindOf m s = some ob.kind := by rw [kindOf, hf]; rfl
  rw [hg] at hF
  have hio := map_get (f := encObj) hob
  refine awp_skip<|Sq<|awp_block<|Sq ?_
  refine awp_drawc follows ?_
  refine Cq (by exact opd_loadn_ref rfl Tryz.isAgg24 Tryz.sizeOf24 rfl rfl rfl rfl (by simp only [Zl, encTag, encObj, encStr, encInt]; rfl) rfl)<|Cq (fr' fo49_3)<|Cq (l1' Tryz.isAgg27)<|Cq mv'<|Cq (xp' so27)<|Cq (lp' Tryz.isAgg9)<|Cq (by exact opr_call rfl rfl Tryz.call39 rfl (hF _))<|Cq as' ?_
  refine dc_nil ⟨by kernel_rfl, ?_⟩
  refine Sq<|Sq<|Rg<|Dd mv'<|Dd lss'<|Zz ?_
  refine Cn (fun hc3 => ?_) fun hc3 => ?_
  ·have h := of_decide_eq_true hc3
   omega
  skip
  refine awp_skip<|Sq ?_
  refine awp_drawc follows ?_
  refine Cq (fr' fo24_0)<|Cq (l1' Tryz.isAgg22)<|Cq mv'<|Cq (xp' so22)<|Cq (fp' fo49_1)<|Cq (lp' Tryz.isAgg3)<|Cq (fr' fo49_1)<|Cq (l1' Tryz.isAgg3)<|Cq mv'<|Cq (by exact opr_call rfl rfl Tryz.call40 rfl (rWanted_c o.kind (k : Int) _))<|Cq ne' ?_
  refine dc_nil ⟨by kernel_rfl, ?_⟩
  refine Cn (fun hc4 => ?_) fun hc4 => ?_
  ·have hb : refBad m o.kind k s = 13 := by
    have h : (!decide (ob.kind = gWanted o.kind (k : Int))) = true := hc4
    rw [refBad, hko]
    exact if_neg (by simpa using h)
   rw [hb, if_neg (by decide)] at hinv
   refine Sq<|Rg<|Dd as'<|Zz<|awp_ret ?_
   refine Rt ?_
   exact ⟨by rw [hinv], rfl⟩
  have hb : refBad m o.kind k s = 0 := by
   have h : (!decide (ob.kind = gWanted o.kind (k : Int))) = false := hc4
   rw [refBad, hko]
   exact if_pos (by simpa using h)
  rw [if_pos hb] at hinv
  refine awp_skip<|Rg<|Dd mv'<|Dd ad'<|Dd as'<|Zz ?_
  exact ⟨k + 1, ⟨by omega, hinv⟩, by omega, Wk⟩
 have hge : k = o.refs.length := by have := of_decide_eq_false hc1; omega
 subst hge
 rw [List.drop_length, refErr] at hinv
 refine awp_exit<|Sq<|Rg<|Dd as'<|Zz<|awp_ret ?_
 refine Rt ?_
 exact ⟨by rw [hinv], rfl⟩
theorem rClosed_c (m : List GObj) (H : Heap) (hm : okM m) : ACalls Tryz.prog 7 [.agg [.pv (slObjs m)]] H (fun r H' => r = bv (closedB m) ∧ H' = H) := by
 refine ACalls.pure ?_ (by simp) H
 have hml : (m.map encObj).length = m.length := List.length_map _
 have hl := hm.1
 refine Bd Tryz.func7 rfl Tryz.ntmps7<|Sq<|Rg<|Dd (by exact opd_box (id := 1) rfl rfl rfl rfl rfl)<|Dd as'<|Zz<|Sq<|Sq<|Rg<|Dd (by exact opd_loadn_ref rfl Tryz.isAgg24 Tryz.sizeOf24 rfl rfl rfl rfl (by simp only [Zl, encTag, encObj, encStr, encInt]; rfl) rfl)<|Dd (by exact opr_call rfl rfl Tryz.call18 rfl (rMap_c m _ hm))<|Dd no'<|Zz ?_
 refine Cn (fun hc1 => ?_) fun hc1 => ?_
 ·have hg : gMap m = false := by
   have h : (!gMap m) = true := hc1
   simpa using h
  refine Sq<|Rg<|Dd as'<|Zz<|awp_ret ?_
  refine Rt ?_
  exact ⟨by rw [closedB, hg, Bool.false_and], rfl⟩
 have hg : gMap m = true := by
  have h : (!gMap m) = false := hc1
  simpa using h
 rw [closedB, hg, Bool.true_and]
 refine awp_skip<|Sq<|Sq<|Rg<|Dd as'<|Zz<|awp_block ?_
 refine awp_loop (σ := Nat) (fun k => ([(1, .ref 1 0 0 0), (3, iv (k : Int))], [(1, bx 1 24 [.pv (slObjs m)])])) (fun k => k ≤ m.length ∧ ∀ j, j < k → ∀ b, m[j]? = some b → (!decide (refErr m b.kind 0 b.refs = 0)) = false) (fun k => m.length - k) 0 ⟨by omega, by omega⟩ ?_ ?_
 ·exact Wk
 rintro k ⟨hk, hno⟩
 refine Sq<|Sq<|Rg<|Dd mv'<|Dd (fr' fo24_0)<|Dd (l1' Tryz.isAgg22)<|Dd (ll' Tryz.underlying22)<|Dd lss'<|Zz ?_
 refine Cn (fun hc2 => ?_) fun hc2 => ?_
 ·have hlt : k < m.length := by have := of_decide_eq_true hc2; omega
  obtain ⟨o, ho⟩ := get_of_lt hlt
  have hi := map_get (f := encObj) ho
  have hoo := hm.2 o (List.mem_of_getElem? ho)
  refine awp_skip<|Sq<|awp_block<|Sq ?_
  refine awp_drawc follows ?_
  refine Cq (by exact opd_loadn_ref rfl Tryz.isAgg24 Tryz.sizeOf24 rfl rfl rfl rfl (by simp only [Zl, encTag, encObj, encStr, encInt]; rfl) rfl)<|Cq (fr' fo24_0)<|Cq (l1' Tryz.isAgg22)<|Cq mv'<|Cq (xp' so22)<|Cq (by exact opd_loadn_pad rfl Tryz.isAgg49 Tryz.sizeOf49 rfl (by omega) (by simp only [Zl, encTag, encObj, encStr, encInt]; rfl) rfl)<|Cq (by exact opr_call rfl rfl Tryz.call19 rfl (rErr_c m o _ hl hoo.2.2.1))<|Cq ne' ?_
  refine dc_nil ⟨by kernel_rfl, ?_⟩
  refine Cn (fun hc3 => ?_) fun hc3 => ?_
  ·have hf : m.all (fun o => decide (refErr m o.kind 0 o.refs = 0)) = false := by
    rw [List.all_eq_false]
    exact ⟨o, List.mem_of_getElem? ho, by simpa using hc3⟩
   refine Sq<|Rg<|Dd as'<|Zz<|awp_ret ?_
   refine Rt ?_
   exact ⟨by rw [hf], rfl⟩
  skip
  refine awp_skip<|Rg<|Dd mv'<|Dd ad'<|Dd as'<|Zz ?_
  exact ⟨k + 1, ⟨by omega, pre_succ hno ho hc3⟩, by omega, Wk⟩
 have hge : k = m.length := by have := of_decide_eq_false hc2; omega
 subst hge
 have hf : m.all (fun o => decide (refErr m o.kind 0 o.refs = 0)) = true := by
  rw [List.all_eq_true]
  intro o ho
  obtain ⟨j, hj⟩ := List.mem_iff_getElem?.1 ho
  have := hno j (List.getElem?_eq_some_iff.1 hj).1 o hj
  simpa using this
 refine awp_exit<|Sq<|Rg<|Dd as'<|Zz<|awp_ret ?_
 refine Rt ?_
 exact ⟨by rw [hf], rfl⟩
end Go.Proofs.YtohdipdgnnamlaaGreatDoor
end
section
set_option linter.unusedVariables false
set_option linter.unusedSimpArgs false
set_option maxRecDepth 100000
set_option maxHeartbeats 1000000
namespace Go.Proofs.YtohdipdgnnamlaaGreatDoor
open Go.Abs
/-- The k-th elements are equal, for all k below n. -/
def eqTo {α : Type} (e : α → α → Bool) (a b : List α) : Bool := decide (a.length = b.length) && (List.range a.length).all fun k => match a[k]?, b[k]? with | some x, some y => e x y | _, _ => true
theorem eqTo_iff {α : Type} {e : α → α → Bool} (he : ∀ x y, e x y = true ↔ x = y) {a b : List α} : eqTo e a b = true ↔ a = b := by
 constructor
 ·intro h
  simp only [eqTo, Bool.and_eq_true, decide_eq_true_eq, List.all_eq_true, List.mem_range] at h
  apply List.ext_getElem h.1
  intro k h1 h2
  have := h.2 k h1
  rw [List.getElem?_eq_getElem h1, List.getElem?_eq_getElem h2] at this
  exact (he _ _).1 this
 rintro rfl
 simp only [eqTo, Bool.and_eq_true, decide_eq_true_eq, List.all_eq_true, List.mem_range, true_and]
 intro k hk
 rw [List.getElem?_eq_getElem hk]
 exact (he _ _).2 rfl
theorem eqTo_bad {α : Type} {e : α → α → Bool} {a b : List α} {k : Nat} {x y : α} (hx : a[k]? = some x) (hy : b[k]? = some y) (h : e x y = false) : eqTo e a b = false := by
 have hk := (List.getElem?_eq_some_iff.1 hx).1
 rw [eqTo, Bool.and_eq_false_iff]
 right
 rw [List.all_eq_false]
 exact ⟨k, List.mem_range.2 hk, by rw [hx, hy]; simp [h]⟩
theorem eqTo_len {α : Type} {e : α → α → Bool} {a b : List α} (h : ¬ a.length = b.length) : eqTo e a b = false := by simp [eqTo, h]
theorem eqTo_good {α : Type} {e : α → α → Bool} {a b : List α} (hl : a.length = b.length) (h : ∀ k, k < a.length → ∀ x y, a[k]? = some x → b[k]? = some y → e x y = true) : eqTo e a b = true := by
 simp only [eqTo, Bool.and_eq_true, decide_eq_true_eq, List.all_eq_true, List.mem_range]
 refine ⟨hl, fun k hk => ?_⟩
 rw [List.getElem?_eq_getElem hk, List.getElem?_eq_getElem (by omega)]
 exact h k hk _ _ (List.getElem?_eq_getElem hk) (List.getElem?_eq_getElem (by omega))
def strEq (a b : ByteArray) : Bool := decide (a = b)
theorem strEq_iff (a b : ByteArray) : strEq a b = true ↔ a = b := by simp [strEq]
def headEq (a b : GObj) : Bool := decide (a.id = b.id) && decide (a.kind = b.kind) && (decide (a.x = b.x) && decide (a.y = b.y)) && decide (a.refs.length = b.refs.length) && decide (a.tags.length = b.tags.length)
def gSameR (a b : GObj) : Bool := headEq a b && (eqTo strEq a.refs b.refs && eqTo tagEq a.tags b.tags)
theorem gSameR_iff {a b : GObj} : gSameR a b = true ↔ a = b := by
 rw [gSameR, Bool.and_eq_true, Bool.and_eq_true, eqTo_iff strEq_iff, eqTo_iff tagEq_iff]
 cases a; cases b
 simp only [headEq, Bool.and_eq_true, decide_eq_true_eq, GObj.mk.injEq]
 constructor
 ·rintro ⟨⟨⟨⟨⟨a1, a2⟩, a3, a4⟩, a5⟩, a6⟩, a7, a8⟩
  exact ⟨a1, a2, a3, a4, a7, a8⟩
 rintro ⟨a1, a2, a3, a4, a7, a8⟩
 exact ⟨⟨⟨⟨⟨a1, a2⟩, a3, a4⟩, by rw [a7]⟩, by rw [a8]⟩, a7, a8⟩
def headNe (a b : GObj) (n1 n2 n3 n4 : Int) : Bool := !decide (a.id = b.id) || !decide (a.kind = b.kind) || !(decide (a.x = b.x) && decide (a.y = b.y)) || !decide (n1 = n2) || !decide (n3 = n4)
theorem headNe_eq (a b : GObj) : headNe a b ((a.refs.map encStr).length : Int) ((b.refs.map encStr).length : Int) ((a.tags.map encTag).length : Int) ((b.tags.map encTag).length : Int) = !headEq a b := by
 simp only [headNe, headEq, List.length_map, Bool.not_and, Int.natCast_inj]
theorem same11_c (a b : GObj) (H : Heap) (ha : a.refs.length < 4611686018427387904) (ha2 : a.tags.length < 4611686018427387904) : ACalls Tryz.prog 34 [av (encObj a), av (encObj b)] H (fun r H' => r = bv (gSameR a b) ∧ H' = H) := by
 refine ACalls.pure ?_ (by simp) H
 have hra : (a.refs.map encStr).length = a.refs.length := List.length_map _
 have hta : (a.tags.map encTag).length = a.tags.length := List.length_map _
 refine Bd Tryz.func34 rfl Tryz.ntmps34<|Sq<|Rg<|Dd (by exact opd_box (id := 2) rfl rfl rfl rfl rfl)<|Dd (by exact opd_box (id := 3) rfl rfl rfl rfl rfl)<|Dd as'<|Zz<|Sq<|Sq ?_
 refine awp_bool (t := 43) (n := 41) (X := headNe a b ((a.refs.map encStr).length : Int) ((b.refs.map encStr).length : Int) ((a.tags.map encTag).length : Int) ((b.tags.map encTag).length : Int)) ?_ ?_
 ·all_goals refine Dd (fr' fo49_0) ?_
  all_goals refine Dd (l1' Tryz.isAgg9) ?_
  all_goals refine Dd (fr' fo49_0) ?_
  all_goals refine Dd (l1' Tryz.isAgg9) ?_
  all_goals refine Dd sn' ?_
  all_goals refine Dd mv' ?_
  all_goals refine Sp 12 (fun h12 => ?_) fun h12 => ?_
  all_goals try contradiction
  all_goals first | refine Fo ?_ | refine On (fr' fo49_1) ?_
  all_goals first | refine Fo ?_ | refine On (l1' Tryz.isAgg3) ?_
  all_goals first | refine Fo ?_ | refine On (fr' fo49_1) ?_
  all_goals first | refine Fo ?_ | refine On (l1' Tryz.isAgg3) ?_
  all_goals first | refine Fo ?_ | refine On ne' ?_
  all_goals refine Dd pk' ?_
  all_goals refine Dd mv' ?_
  all_goals refine Sp 19 (fun h19 => ?_) fun h19 => ?_
  all_goals try contradiction
  all_goals first | refine Fo ?_ | refine On (fr' fo49_2) ?_
  all_goals first | refine Fo ?_ | refine On (by exact opd_loadn_ref rfl Tryz.isAgg46 Tryz.sizeOf46 rfl rfl rfl rfl (by simp only [Zl, encTag, encObj, encStr]; rfl) rfl) ?_
  all_goals first | refine Fo ?_ | refine On (fr' fo49_2) ?_
  all_goals first | refine Fo ?_ | refine On (by exact opd_loadn_ref rfl Tryz.isAgg46 Tryz.sizeOf46 rfl rfl rfl rfl (by simp only [Zl, encTag, encObj, encStr]; rfl) rfl) ?_
  all_goals first | refine Fo ?_ | refine On (by exact opd_aneq rfl rfl rfl rfl rfl Tryz.eqGuardType46 (se46 _ _ _ _)) ?_
  all_goals refine Dd pk' ?_
  all_goals refine Dd mv' ?_
  all_goals refine Sp 26 (fun h26 => ?_) fun h26 => ?_
  all_goals try contradiction
  all_goals first | refine Fo ?_ | refine On (fr' fo49_3) ?_
  all_goals first | refine Fo ?_ | refine On (l1' Tryz.isAgg27) ?_
  all_goals first | refine Fo ?_ | refine On (ll' Tryz.underlying27) ?_
  all_goals first | refine Fo ?_ | refine On (fr' fo49_3) ?_
  all_goals first | refine Fo ?_ | refine On (l1' Tryz.isAgg27) ?_
  all_goals first | refine Fo ?_ | refine On (ll' Tryz.underlying27) ?_
  all_goals first | refine Fo ?_ | refine On ne' ?_
  all_goals refine Dd pk' ?_
  all_goals refine Dd mv' ?_
  all_goals refine Sp 35 (fun h35 => ?_) fun h35 => ?_
  all_goals try contradiction
  all_goals first | refine Fo ?_ | refine On (fr' fo49_4) ?_
  all_goals first | refine Fo ?_ | refine On (l1' Tryz.isAgg47) ?_
  all_goals first | refine Fo ?_ | refine On (ll' Tryz.underlying47) ?_
  all_goals first | refine Fo ?_ | refine On (fr' fo49_4) ?_
  all_goals first | refine Fo ?_ | refine On (l1' Tryz.isAgg47) ?_
  all_goals first | refine Fo ?_ | refine On (ll' Tryz.underlying47) ?_
  all_goals first | refine Fo ?_ | refine On ne' ?_
  all_goals refine Dd pk' ?_
  all_goals refine al_nil ?_
  all_goals (exact ⟨⟨_, rfl, by first | (simp only [headNe, *]; rfl) | (simp_all [headNe]; done)⟩, rfl, rfl, rfl⟩)
 refine Cn (fun hc1 => ?_) fun hc1 => ?_
 ·rw [headNe_eq] at hc1
  refine Sq<|Rg<|Dd as'<|Zz<|awp_ret ?_
  refine Rt ?_
  refine ⟨?_, rfl⟩
  have : headEq a b = false := by simpa using hc1
  rw [gSameR, this]; rfl
 rw [headNe_eq] at hc1
 have hh : headEq a b = true := by simpa using hc1
 have hlens : a.refs.length = b.refs.length ∧ a.tags.length = b.tags.length := by
  simp only [headEq, Bool.and_eq_true, decide_eq_true_eq] at hh
  exact ⟨hh.1.2, hh.2⟩
 obtain ⟨hl1, hl2⟩ := hlens
 rw [gSameR, hh, Bool.true_and]
 refine awp_skip<|Sq<|Sq<|Rg<|Dd as'<|Zz<|awp_block ?_
 refine awp_loop (σ := Nat) (fun k => ([(2, .ref 2 0 0 0), (3, .ref 3 0 0 0), (5, iv (k : Int))], [(3, bx 6 49 ((encObj b).map .pv)), (2, bx 6 49 ((encObj a).map .pv))])) (fun k => k ≤ a.refs.length ∧ ∀ j, j < k → ∀ x y, a.refs[j]? = some x → b.refs[j]? = some y → strEq x y = true) (fun k => a.refs.length - k) 0 ⟨by omega, by omega⟩ ?_ ?_
 ·exact Wk
 rintro k ⟨hk, hall⟩
 refine Sq<|Sq<|Rg<|Dd mv'<|Dd (fr' fo49_3)<|Dd (l1' Tryz.isAgg27)<|Dd (ll' Tryz.underlying27)<|Dd lss'<|Zz ?_
 refine Cn (fun hc2 => ?_) fun hc2 => ?_
 ·have hlt : k < a.refs.length := by have := of_decide_eq_true hc2; omega
  obtain ⟨x, hx⟩ := get_of_lt hlt
  obtain ⟨y, hy⟩ := get_of_lt (l := b.refs) (k := k) (by omega)
  have hi := map_get (f := encStr) hx
  have hi2 := map_get (f := encStr) hy
  refine awp_skip<|Sq<|awp_block<|Sq ?_
  refine awp_drawc follows ?_
  refine Cq (fr' fo49_3)<|Cq (l1' Tryz.isAgg27)<|Cq mv'<|Cq (xp' so27)<|Cq (lp' Tryz.isAgg9)<|Cq (fr' fo49_3)<|Cq (l1' Tryz.isAgg27)<|Cq mv'<|Cq (xp' so27)<|Cq (lp' Tryz.isAgg9)<|Cq sn' ?_
  refine dc_nil ⟨by kernel_rfl, ?_⟩
  refine Cn (fun hc3 => ?_) fun hc3 => ?_
  ·have ht : strEq x y = false := by
    have h : (!strEq x y) = true := hc3
    simpa using h
   refine Sq<|Rg<|Dd as'<|Zz<|awp_ret ?_
   refine Rt ?_
   exact ⟨by rw [eqTo_bad hx hy ht]; rfl, rfl⟩
  have ht : strEq x y = true := by
   have h : (!strEq x y) = false := hc3
   simpa using h
  refine awp_skip<|Rg<|Dd mv'<|Dd ad'<|Dd as'<|Zz ?_
  refine ⟨k + 1, ⟨by omega, fun j hj x' y' h1 h2 => ?_⟩, by omega, Wk⟩
  by_cases e : j = k
  ·subst e; rw [hx] at h1; rw [hy] at h2; cases h1; cases h2; exact ht
  exact hall j (by omega) x' y' h1 h2
 have hge : k = a.refs.length := by have := of_decide_eq_false hc2; omega
 subst hge
 rw [eqTo_good hl1 hall, Bool.true_and]
 refine awp_exit<|Sq<|Sq<|Rg<|Dd as'<|Zz<|awp_block ?_
 refine awp_loop (σ := Nat) (fun k => ([(2, .ref 2 0 0 0), (3, .ref 3 0 0 0), (6, iv (k : Int))], [(3, bx 6 49 ((encObj b).map .pv)), (2, bx 6 49 ((encObj a).map .pv))])) (fun k => k ≤ a.tags.length ∧ ∀ j, j < k → ∀ x y, a.tags[j]? = some x → b.tags[j]? = some y → tagEq x y = true) (fun k => a.tags.length - k) 0 ⟨by omega, by omega⟩ ?_ ?_
 ·exact Wk
 rintro k ⟨hk, hall2⟩
 refine Sq<|Sq<|Rg<|Dd mv'<|Dd (fr' fo49_4)<|Dd (l1' Tryz.isAgg47)<|Dd (ll' Tryz.underlying47)<|Dd lss'<|Zz ?_
 refine Cn (fun hc4 => ?_) fun hc4 => ?_
 ·have hlt : k < a.tags.length := by have := of_decide_eq_true hc4; omega
  obtain ⟨x, hx⟩ := get_of_lt hlt
  obtain ⟨y, hy⟩ := get_of_lt (l := b.tags) (k := k) (by omega)
  have hi := map_get (f := encTag) hx
  have hi2 := map_get (f := encTag) hy
  refine awp_skip<|Sq<|awp_block<|Sq ?_
  refine awp_drawc follows ?_
  refine Cq (fr' fo49_4)<|Cq (l1' Tryz.isAgg47)<|Cq mv'<|Cq (xp' so47)<|Cq (by exact opd_loadn_pad rfl Tryz.isAgg95 Tryz.sizeOf95 rfl (by omega) (by simp only [Zl, encTag, encObj, encStr]; rfl) rfl)<|Cq (fr' fo49_4)<|Cq (l1' Tryz.isAgg47)<|Cq mv'<|Cq (xp' so47)<|Cq (by exact opd_loadn_pad rfl Tryz.isAgg95 Tryz.sizeOf95 rfl (by omega) (by simp only [Zl, encTag, encObj, encStr]; rfl) rfl)<|Cq (by exact opd_aneq rfl rfl rfl rfl rfl Tryz.eqGuardType95 (se95 _ _ _ _)) ?_
  refine dc_nil ⟨by kernel_rfl, ?_⟩
  refine Cn (fun hc5 => ?_) fun hc5 => ?_
  ·have ht : tagEq x y = false := by
    have h : (!tagEq x y) = true := hc5
    simpa using h
   refine Sq<|Rg<|Dd as'<|Zz<|awp_ret ?_
   refine Rt ?_
   exact ⟨by rw [eqTo_bad hx hy ht], rfl⟩
  have ht : tagEq x y = true := by
   have h : (!tagEq x y) = false := hc5
   simpa using h
  refine awp_skip<|Rg<|Dd mv'<|Dd ad'<|Dd as'<|Zz ?_
  refine ⟨k + 1, ⟨by omega, fun j hj x' y' h1 h2 => ?_⟩, by omega, Wk⟩
  by_cases e : j = k
  ·subst e; rw [hx] at h1; rw [hy] at h2; cases h1; cases h2; exact ht
  exact hall2 j (by omega) x' y' h1 h2
 have hge : k = a.tags.length := by have := of_decide_eq_false hc4; omega
 subst hge
 refine awp_exit<|Sq<|Rg<|Dd as'<|Zz<|awp_ret ?_
 refine Rt ?_
 exact ⟨by rw [eqTo_good hl2 hall2], rfl⟩
def gSameM (a b : List GObj) : Bool := eqTo gSameR a b
theorem gSameM_iff {a b : List GObj} : gSameM a b = true ↔ a = b := eqTo_iff (fun _ _ => gSameR_iff)
def okL (m : List GObj) : Prop := m.length < 4611686018427387904 ∧ ∀ o ∈ m, o.refs.length < 4611686018427387904 ∧ o.tags.length < 4611686018427387904
theorem same12_c (a b : List GObj) (H : Heap) (ha : okL a) : ACalls Tryz.prog 11 [.agg [.pv (slObjs a)], .agg [.pv (slObjs b)]] H (fun r H' => r = bv (gSameM a b) ∧ H' = H) := by
 refine ACalls.pure ?_ (by simp) H
 have hma : (a.map encObj).length = a.length := List.length_map _
 have hmb : (b.map encObj).length = b.length := List.length_map _
 have hl := ha.1
 rw [gSameM]
 refine Bd Tryz.func11 rfl Tryz.ntmps11<|Sq<|Rg<|Dd (by exact opd_box (id := 2) rfl rfl rfl rfl rfl)<|Dd (by exact opd_box (id := 3) rfl rfl rfl rfl rfl)<|Dd as'<|Zz<|Sq<|Sq<|Rg<|Dd (fr' fo24_0)<|Dd (l1' Tryz.isAgg22)<|Dd (ll' Tryz.underlying22)<|Dd (fr' fo24_0)<|Dd (l1' Tryz.isAgg22)<|Dd (ll' Tryz.underlying22)<|Dd ne'<|Zz ?_
 refine Cn (fun hc1 => ?_) fun hc1 => ?_
 ·have hne : ¬ a.length = b.length := by
   simp only [hma, hmb, Bool.not_eq_true', decide_eq_false_iff_not] at hc1
   omega
  refine Sq<|Rg<|Dd as'<|Zz<|awp_ret ?_
  refine Rt ?_
  exact ⟨by rw [eqTo_len hne], rfl⟩
 have heq : a.length = b.length := by
  simp only [hma, hmb, Bool.not_eq_false', decide_eq_true_eq] at hc1
  omega
 refine awp_skip<|Sq<|Sq<|Rg<|Dd as'<|Zz<|awp_block ?_
 refine awp_loop (σ := Nat) (fun k => ([(2, .ref 2 0 0 0), (3, .ref 3 0 0 0), (5, iv (k : Int))], [(3, bx 1 24 [.pv (slObjs b)]), (2, bx 1 24 [.pv (slObjs a)])])) (fun k => k ≤ a.length ∧ ∀ j, j < k → ∀ x y, a[j]? = some x → b[j]? = some y → gSameR x y = true) (fun k => a.length - k) 0 ⟨by omega, by omega⟩ ?_ ?_
 ·exact Wk
 rintro k ⟨hk, hall⟩
 refine Sq<|Sq<|Rg<|Dd mv'<|Dd (fr' fo24_0)<|Dd (l1' Tryz.isAgg22)<|Dd (ll' Tryz.underlying22)<|Dd lss'<|Zz ?_
 refine Cn (fun hc2 => ?_) fun hc2 => ?_
 ·have hlt : k < a.length := by have := of_decide_eq_true hc2; omega
  obtain ⟨x, hx⟩ := get_of_lt hlt
  obtain ⟨y, hy⟩ := get_of_lt (l := b) (k := k) (by omega)
  have hi := map_get (f := encObj) hx
  have hi2 := map_get (f := encObj) hy
  have hox := ha.2 x (List.mem_of_getElem? hx)
  refine awp_skip<|Sq<|awp_block<|Sq ?_
  refine awp_drawc follows ?_
  refine Cq (fr' fo24_0)<|Cq (l1' Tryz.isAgg22)<|Cq mv'<|Cq (xp' so22)<|Cq (by exact opd_loadn_pad rfl Tryz.isAgg49 Tryz.sizeOf49 rfl (by omega) (by simp only [Zl, encTag, encObj, encStr]; rfl) rfl)<|Cq (fr' fo24_0)<|Cq (l1' Tryz.isAgg22)<|Cq mv'<|Cq (xp' so22)<|Cq (by exact opd_loadn_pad rfl Tryz.isAgg49 Tryz.sizeOf49 rfl (by omega) (by simp only [Zl, encTag, encObj, encStr]; rfl) rfl)<|Cq (by exact opr_call rfl rfl Tryz.call34 rfl (same11_c x y _ hox.1 hox.2))<|Cq no' ?_
  refine dc_nil ⟨by kernel_rfl, ?_⟩
  refine Cn (fun hc3 => ?_) fun hc3 => ?_
  ·have ht : gSameR x y = false := by
    have h : (!gSameR x y) = true := hc3
    simpa using h
   refine Sq<|Rg<|Dd as'<|Zz<|awp_ret ?_
   refine Rt ?_
   exact ⟨by rw [eqTo_bad hx hy ht], rfl⟩
  have ht : gSameR x y = true := by
   have h : (!gSameR x y) = false := hc3
   simpa using h
  refine awp_skip<|Rg<|Dd mv'<|Dd ad'<|Dd as'<|Zz ?_
  refine ⟨k + 1, ⟨by omega, fun j hj x' y' h1 h2 => ?_⟩, by omega, Wk⟩
  by_cases e : j = k
  ·subst e; rw [hx] at h1; rw [hy] at h2; cases h1; cases h2; exact ht
  exact hall j (by omega) x' y' h1 h2
 have hge : k = a.length := by have := of_decide_eq_false hc2; omega
 subst hge
 refine awp_exit<|Sq<|Rg<|Dd as'<|Zz<|awp_ret ?_
 refine Rt ?_
 exact ⟨by rw [eqTo_good heq hall], rfl⟩
end Go.Proofs.YtohdipdgnnamlaaGreatDoor
end
section
set_option linter.unusedVariables false
set_option linter.unusedSimpArgs false
set_option maxRecDepth 100000
set_option maxHeartbeats 1000000
namespace Go.Proofs.YtohdipdgnnamlaaGreatDoor
open Go.Abs

theorem from_app : ∀ (l1 l2 : List GEdit) (m : List GObj) (i : Nat), gAllFrom m i (l1 ++ l2) = if (gAllFrom m i l1).2.2 = 0 then gAllFrom (gAllFrom m i l1).1 (i + l1.length) l2 else gAllFrom m i l1
  | [], l2, m, i => by simp [gAllFrom]
  | e :: l1, l2, m, i => by
    by_cases h : (gAfter m e).2 = 0
    · have h2 : ∀ l, gAllFrom m i (e :: l) = gAllFrom (gAfter m e).1 (i + 1) l := fun l => by rw [gAllFrom, if_neg (by simp [h])]
      rw [List.cons_append, h2, h2, from_app l1 l2, List.length_cons, show i + 1 + l1.length = i + (l1.length + 1) by omega]
    · have h2 : ∀ l, gAllFrom m i (e :: l) = ([], (i : Int), (gAfter m e).2) := fun l => by rw [gAllFrom, if_pos (by simp [h])]
      rw [List.cons_append, h2, h2, if_neg h]
theorem from_ok : ∀ {l : List GEdit} {m : List GObj} {i : Nat}, okM m → closedB m = true → (∀ e, e ∈ l → okE e) → (gAllFrom m i l).2.2 = 0 → okM (gAllFrom m i l).1 ∧ closedB (gAllFrom m i l).1 = true ∧ (gAllFrom m i l).2.1 = -1
  | [], m, i, hm, hc, _, _ => ⟨hm, hc, rfl⟩
  | e :: l, m, i, hm, hc, he, h => by
    by_cases h1 : (gAfter m e).2 = 0
    · have h2 : gAllFrom m i (e :: l) = gAllFrom (gAfter m e).1 (i + 1) l := by rw [gAllFrom, if_neg (by simp [h1])]
      rw [h2] at h ⊢
      exact from_ok (after_okM hm (closed_gMap hc) (he e List.mem_cons_self) h1) (after_closed hc h1) (fun x hx => he x (List.mem_cons_of_mem _ hx)) h
    · have h2 : gAllFrom m i (e :: l) = ([], (i : Int), (gAfter m e).2) := by rw [gAllFrom, if_pos (by simp [h1])]
      rw [h2] at h
      exact absurd h h1
theorem from_err : ∀ {l : List GEdit} {m : List GObj} {i : Nat}, (gAllFrom m i l).2.2 ≠ 0 → (gAllFrom m i l).1 = [] ∧ ∃ j : Nat, (gAllFrom m i l).2.1 = (j : Int) ∧ j < i + l.length
  | [], m, i, h => absurd rfl h
  | e :: l, m, i, h => by
    by_cases h1 : (gAfter m e).2 = 0
    · have h2 : gAllFrom m i (e :: l) = gAllFrom (gAfter m e).1 (i + 1) l := by rw [gAllFrom, if_neg (by simp [h1])]
      rw [h2] at h ⊢
      obtain ⟨a, j, b, c⟩ := from_err h
      exact ⟨a, j, b, by rw [List.length_cons]; omega⟩
    · have h2 : gAllFrom m i (e :: l) = ([], (i : Int), (gAfter m e).2) := by rw [gAllFrom, if_pos (by simp [h1])]
      rw [h2]
      exact ⟨rfl, i, rfl, by rw [List.length_cons]; omega⟩
theorem from_shift (n : Nat) : ∀ (l : List GEdit) (m : List GObj) (i : Nat), gAllFrom m (i + n) l = ((gAllFrom m i l).1, (if (gAllFrom m i l).2.2 = 0 then -1 else (gAllFrom m i l).2.1 + (n : Int)), (gAllFrom m i l).2.2)
  | [], m, i => by simp [gAllFrom]
  | e :: l, m, i => by
    by_cases h1 : (gAfter m e).2 = 0
    · have h2 : ∀ i, gAllFrom m i (e :: l) = gAllFrom (gAfter m e).1 (i + 1) l := fun i => by rw [gAllFrom, if_neg (by simp [h1])]
      rw [h2, h2, show i + n + 1 = i + 1 + n by omega]
      exact from_shift n l _ (i + 1)
    · have h2 : ∀ i : Nat, gAllFrom m i (e :: l) = ([], (i : Int), (gAfter m e).2) := fun i => by rw [gAllFrom, if_pos (by simp [h1])]
      rw [h2, h2]
      simp [h1]
theorem all_cases {m : List GObj} {l1 l2 : List GEdit} (hm : okM m) (h1 : ∀ e, e ∈ l1 → okE e) (h2 : ∀ e, e ∈ l2 → okE e) :
    ((gAll m l1).2.2 ≠ 0 ∧ gAll m (l1 ++ l2) = gAll m l1 ∧ (gAll m l1).1 = []) ∨
    ((gAll m l1).2.2 = 0 ∧ okM (gAll m l1).1 ∧ (gAll m l1).2.1 = -1 ∧
      (((gAll (gAll m l1).1 l2).2.2 ≠ 0 ∧ (gAll m (l1 ++ l2)).2.2 = (gAll (gAll m l1).1 l2).2.2 ∧ (gAll m (l1 ++ l2)).1 = [] ∧ ∃ j : Nat, (gAll (gAll m l1).1 l2).2.1 = (j : Int) ∧ j < l2.length ∧ (gAll m (l1 ++ l2)).2.1 = ((j + l1.length : Nat) : Int)) ∨
       ((gAll (gAll m l1).1 l2).2.2 = 0 ∧ (gAll m (l1 ++ l2)).2.2 = 0 ∧ (gAll m (l1 ++ l2)).2.1 = -1 ∧ (gAll (gAll m l1).1 l2).2.1 = -1 ∧ (gAll m (l1 ++ l2)).1 = (gAll (gAll m l1).1 l2).1 ∧ okM (gAll (gAll m l1).1 l2).1))) := by
  by_cases hc : closedB m = true
  · have ha : ∀ l, gAll m l = gAllFrom m 0 l := fun l => by rw [gAll, if_pos hc]
    rw [ha, ha, from_app]
    by_cases h0 : (gAllFrom m 0 l1).2.2 = 0
    · obtain ⟨a, b, c⟩ := from_ok hm hc h1 h0
      refine .inr ⟨h0, a, c, ?_⟩
      rw [if_pos h0, show gAll (gAllFrom m 0 l1).1 l2 = gAllFrom (gAllFrom m 0 l1).1 0 l2 by rw [gAll, if_pos b], from_shift]
      have h2' := h2
      by_cases h2 : (gAllFrom (gAllFrom m 0 l1).1 0 l2).2.2 = 0
      · refine .inr ⟨h2, h2, by rw [if_pos h2], ?_, rfl, (from_ok a b h2' h2).1⟩
        exact ((from_ok a b h2' h2).2).2
      · obtain ⟨d, j, e, f⟩ := from_err h2
        exact .inl ⟨h2, rfl, d, j, e, by omega, by show (if _ then _ else _) = _; rw [if_neg h2, e, Int.natCast_add]⟩
    · rw [if_neg h0]
      exact .inl ⟨h0, rfl, (from_err h0).1⟩
  · have ha : ∀ l, gAll m l = ([], -1, 1) := fun l => by rw [gAll, if_neg hc]
    rw [ha, ha]
    exact .inl ⟨by decide, rfl, rfl⟩
theorem same12_t {a b : List GObj} (h : a = b) (H : Heap) (ha : okL a) : ACalls Tryz.prog 11 [.agg [.pv (slObjs a)], .agg [.pv (slObjs b)]] H (fun r H' => r = bv true ∧ H' = H) := by
  have := same12_c a b H ha
  rwa [gSameM_iff.2 h] at this
end Go.Proofs.YtohdipdgnnamlaaGreatDoor
end
section
set_option linter.unusedVariables false
set_option linter.unusedSimpArgs false
namespace Go.Abs
def SubG (H' H : Heap) : Prop := ∀ j o', H'.get j = some o' → ∃ o, H.get j = some o ∧ o'.g = o.g ∧ o'.sz = o.sz ∧ o'.rows.length = o.rows.length
/-- Rows that become other rows, a slice in them frozen. -/
def FzRows (H' : Heap) (id g : Nat) (ps : List (List PV)) (rows rows' : List (List AV)) : Prop :=
  rows'.length = rows.length ∧ ∀ (i : Nat) (r' : List AV), rows'[i]? = some r' → ∃ r, rows[i]? = some r ∧ r.length = r'.length ∧ ∀ (k : Nat) (a a' : AV), r[k]? = some a → r'[k]? = some a' → Fz H' id g ps a a'
def FOk (H H' : Heap) (id g : Nat) (ps : List (List PV)) : Heap → Prop
  | [] => True
  | (j, o') :: r => (∃ o, H.get j = some o ∧ o'.g = o.g ∧ o'.sz = o.sz ∧ o'.ty = o.ty ∧ FzRows H' id g ps o.rows o'.rows) ∧ FOk H H' id g ps r
end Go.Abs
end
section
set_option linter.unusedVariables false
set_option linter.unusedSimpArgs false
namespace Go.Abs
/-- The record of a loop as an object: the record, and what it keeps of the frame. -/
def LR (x : Go.Loop) (E0 : Env) : Ob := ⟨0, 0, 0, [[.raw x (E0.map (·.1))], E0.map (·.2)]⟩
section
variable {I : Nat → Prop} {ι : Plc} {H : Heap} {w : World}
theorem rec_at {id : Nat} {x : Go.Loop} {E0 : Env} (hr : Rel I ι H w) (hH : H.get id = some (LR x E0)) {v : Value} (hv : VRel w I ι H v (.yld id 0)) :
    ∃ b, ι id = some (b, 2) ∧ v = .func (.yield b) #[] #[] ∧ w.heap[b]? = some (.loop x) ∧ ¬ I b ∧ ∀ (i t : Nat) (a : AV), (E0.map (·.1))[i]? = some t → (E0.map (·.2))[i]? = some a → ∃ c, x.tmps[t]? = some c ∧ VRel w I ι H c a := by
  cases hv with
  | yld o h1 h2 h3 h4 =>
    rw [hH] at h1; cases h1
    obtain ⟨_, b, e1, e2⟩ := h4 rfl
    obtain ⟨_, b', y, k1, k2, k3, k4⟩ := (hr.obj id _ hH).rec rfl e1
    rw [e1] at k1; cases k1
    obtain ⟨q1, q2⟩ := k4 x _ _ rfl
    subst q1
    exact ⟨b, e1, e2, k2, k3, q2⟩
/-- The record turns: its state, and what is pending. -/
theorem Rel.setRec {id b : Nat} {x y : Go.Loop} {E0 : Env} {H' : Heap} (hr : Rel I ι H w) (hH : H.get id = some (LR x E0)) (hι : ι id = some (b, 2)) (hy : y.tmps = x.tmps)
    (h1 : H'.get id = some (LR y E0)) (h2 : ∀ j, j ≠ id → H'.get j = H.get j) : Rel I ι H' (w.putObj b (.loop y)) ∧ Step I ι H w I ι H' (w.putObj b (.loop y)) := by
  obtain ⟨_, b', z, k1, k2, k3, k4⟩ := (hr.obj id _ hH).rec rfl hι
  rw [hι] at k1; cases k1
  obtain ⟨q1, q2⟩ := k4 x _ _ rfl
  subst q1
  have hlt := (Array.getElem?_eq_some_iff.1 k2).1
  have hown : ∀ c, Own ι H' c → Own ι H c := fun c ⟨j, o, cap, ho, hc⟩ => by
    by_cases e : j = id
    · subst e; exact ⟨j, _, cap, hH, hc⟩
    · exact ⟨j, o, cap, (h2 j e).symm.trans ho, hc⟩
  have hst : Step I ι H w I ι H' (w.putObj b (.loop y)) := by
    refine ⟨rfl, rfl, rfl, by rw [World.putObj_size]; exact Nat.le_refl _, fun a ha _ => ?_, fun _ h => h, fun _ h => .inl h, fun c hc => .inl (hown c hc), fun c hc hn => ?_, fun j o hj => ?_⟩
    · unfold World.frozen?
      by_cases e : a.block = b
      · rw [e, World.putObj_heap_same hlt, k2]
      · rw [World.putObj_heap_other e]
    · exact World.putObj_heap_other fun e => hn ⟨id, _, 2, hH, by rw [e]; exact hι⟩
    · by_cases e : j = id
      · subst e
        rw [hH] at hj; cases hj
        exact ⟨_, h1, Nat.le_refl _, fun _ => ⟨rfl, rfl, fun h => by cases h⟩⟩
      · exact ⟨o, (h2 j e).trans hj, Nat.le_refl _, fun _ => ⟨rfl, rfl, fun _ => Nat.le_refl _⟩⟩
  refine ⟨⟨fun c hc => by rw [World.putObj_size]; exact hr.imm c hc, fun j o hj => ?_, fun j j' o o' c d d' hj hj' hc hc' => ?_, hst.glob hr⟩, hst⟩
  · by_cases e : j = id
    · subst e
      rw [h1] at hj; cases hj
      refine .inr (.inr (.inr ⟨rfl, b, y, hι, World.putObj_heap_same hlt, k3, fun z ts r hz => ?_⟩))
      simp only [LR, List.cons.injEq, AV.raw.injEq, and_true] at hz
      obtain ⟨⟨rfl, rfl⟩, rfl⟩ := hz
      refine ⟨rfl, fun i t a ht ha => ?_⟩
      obtain ⟨c, c1, c2⟩ := q2 i t a ht ha
      exact ⟨c, by rw [hy]; exact c1, c2.mono hr hst⟩
    · rw [h2 j e] at hj
      exact (hr.obj j o hj).keep rfl (fun c d hc _ => ⟨World.putObj_heap_other (fun hb => e (hr.inj j id o _ c d 2 hj hH hc (by rw [hb]; exact hι))), fun h => h⟩) (fun r _ a _ v hv => hv.mono hr hst)
  · have key : ∀ j o, H'.get j = some o → ∃ o, H.get j = some o := fun j o hj => by
      by_cases e : j = id
      · subst e; exact ⟨_, hH⟩
      · exact ⟨o, (h2 j e).symm.trans hj⟩
    obtain ⟨q, hq⟩ := key j o hj
    obtain ⟨q', hq'⟩ := key j' o' hj'
    exact hr.inj j j' q q' c d d' hq hq' hc hc'
/-- A new block that nobody owns. -/
theorem Rel.push (o : Obj) (hr : Rel I ι H w) : Rel I ι H (w.alloc o) ∧ Step I ι H w I ι H (w.alloc o) := by
  have hk : ∀ b, b < w.heap.size → (w.alloc o).heap[b]? = w.heap[b]? := fun b hb => by
    show (w.heap.push o)[b]? = _
    rw [Array.getElem?_push, if_neg (Nat.ne_of_lt hb)]
  have hst : Step I ι H w I ι H (w.alloc o) := by
    refine ⟨rfl, rfl, rfl, by rw [World.size_alloc]; omega, fun a ha _ => ?_, fun _ h => h, fun _ h => .inl h, fun _ h => .inl h, fun b hb _ => hk b hb, fun _ o h => ⟨o, h, Nat.le_refl _, fun _ => ⟨rfl, rfl, fun _ => Nat.le_refl _⟩⟩⟩
    unfold World.frozen?
    rw [hk _ ha]
  refine ⟨⟨fun b hb => by have := hr.imm b hb; rw [World.size_alloc]; omega, fun j o hj => ?_, hr.inj, hst.glob hr⟩, hst⟩
  exact (hr.obj j o hj).keep rfl (fun b c _ hb => ⟨hk b hb, fun h => h⟩) (fun r _ a _ v hv => hv.mono hr hst)
end
def busy (x : Go.Loop) : Go.Loop := { x with state := .busy }
def left (x : Go.Loop) (c : Code) : Go.Loop := { x with state := .done, pending := some c }
/-- How a round ends: K is the heap behind it, without the record. -/
def RoundQ (H0 : Heap) (id : Nat) (x : Go.Loop) (E0 : Env) (Q : AV → Heap → Prop) : Exit → Env → Heap → Prop
  | .normal, E, H => ∃ K, Ent H0 E H [] ((id, LR (busy x) E0) :: K) ∧ Q (.pv (.bool true)) ((id, LR x E0) :: K)
  | .ret, E, H => ∃ K, Ent H0 E H [] ((id, LR (busy x) E0) :: K) ∧ Q (.pv (.bool false)) ((id, LR (left x .ret) E0) :: K)
  | .exit j, E, H => ∃ K, Ent H0 E H [] ((id, LR (busy x) E0) :: K) ∧ Q (.pv (.bool false)) ((id, LR (left x (.exit j)) E0) :: K)
  | _, _, _ => False
theorem same_place {G : Entry} {I : Nat → Prop} {ι : Plc} {H : Heap} {w : World} {id b : Nat} {x y : Go.Loop} {E0 : Env} (hst : Step G.I G.ι G.H G.w I ι H w) (hG : G.H.get id = some (LR x E0)) (hι : G.ι id = some (b, 2)) (hH : H.get id = some (LR y E0)) : ι id = some (b, 2) := by
  obtain ⟨o', e1, _, e3⟩ := hst.objs id _ hG
  rw [hH] at e1; cases e1
  exact (e3 rfl).1.trans hι
theorem rec_heap {I : Nat → Prop} {ι : Plc} {H : Heap} {w : World} {id b : Nat} {x : Go.Loop} {E0 : Env} (hr : Rel I ι H w) (hH : H.get id = some (LR x E0)) (hι : ι id = some (b, 2)) : w.heap[b]? = some (.loop x) := by
  obtain ⟨_, b', z, k1, k2, k3, k4⟩ := (hr.obj id _ hH).rec rfl hι
  rw [hι] at k1; cases k1
  obtain ⟨q1, _⟩ := k4 x _ _ rfl
  subst q1
  exact k2
theorem hd_get (id : Nat) (o : Ob) (K : Heap) : Heap.get ((id, o) :: K) id = some o := by simp [Heap.get, beq_self]
theorem hd_other {id j : Nat} (o o' : Ob) (K : Heap) (h : j ≠ id) : Heap.get ((id, o) :: K) j = Heap.get ((id, o') :: K) j := by simp [Heap.get, beq_ne (Ne.symm h)]
/-- A ROUND, out of the walk of its assignment and of its body. -/
theorem ycalls {P : Program} {id p N : Nat} {x : Go.Loop} {assign body : Code} {E0 : Env} {a : AV} {K : Heap} {Q : AV → Heap → Prop} (E2 : Env) (K2 : Heap) (hx1 : x.state = .ready) (hx2 : x.pending = none) (hp : x.params = #[p]) (hN : x.tmps.size = N) (hxa : x.assign = assign) (hxb : x.body = body) (hpN : Nat.blt p N = true)
    (hok : okRound assign = true) (hok2 : okRound body = true)
    (h1 : AWp P ((id, LR x E0) :: K) N assign (AThen (fun E1 H1 => Ent ((id, LR x E0) :: K) E1 H1 E2 ((id, LR x E0) :: K2)) (fun _ _ _ => False)) ((p, a) :: E0) ((id, LR x E0) :: K))
    (h2 : AWp P ((id, LR x E0) :: K) N body (RoundQ ((id, LR x E0) :: K) id x E0 Q) E2 ((id, LR (busy x) E0) :: K2)) : YCalls P id 0 [a] ((id, LR x E0) :: K) Q := by
  subst hxa hxb
  have hpN : p < N := by simpa [Nat.blt_eq] using hpN
  intro I ι w vs v hr hv hl hvs
  obtain ⟨b, e1, e2, e3, e4, e5⟩ := rec_at hr (hd_get _ _ _) hv
  obtain ⟨u, rfl⟩ : ∃ u, vs = #[u] := by
    match vs, hl with
    | ⟨[u]⟩, _ => exact ⟨u, rfl⟩
  have hu := hvs 0 u a rfl rfl
  refine ⟨b, x.fn, _, x.assign, x.body, e2, run_yield e3 (by rw [hp]; rfl), ?_⟩
  refine roundIn_of_wpIn (F := Fence.wide) trivial ?_
  have hG : (⟨I, ι, (id, LR x E0) :: K, w⟩ : Entry).H = (id, LR x E0) :: K := rfl
  have hst : St ⟨I, ι, (id, LR x E0) :: K, w⟩ N ((p, a) :: E0) ((id, LR x E0) :: K) { tmps := (x.params.zip #[u]).foldl (fun tmps (t, a) => tmps.setIfInBounds t a) x.tmps, defers := [] } w := by
    have ht : (x.params.zip #[u]).foldl (fun tmps (t, a) => tmps.setIfInBounds t a) x.tmps = x.tmps.setIfInBounds p u := by rw [hp]; simp
    rw [ht]
    refine ⟨Marks.nil _ _, by simp [hN], I, ι, hr, Step.refl _ _ _ _, fun t y hy => ?_⟩
    by_cases e : p = t
    · subst e
      rw [Env.get_cons_same] at hy; cases hy
      exact ⟨u, by simp [hN, hpN], hu⟩
    · rw [Env.get_cons_other _ _ e] at hy
      obtain ⟨i, hi⟩ := List.mem_iff_getElem?.1 (mem_of_get hy)
      obtain ⟨c, c1, c2⟩ := e5 i t y (by rw [List.getElem?_map, hi]; rfl) (by rw [List.getElem?_map, hi]; rfl)
      exact ⟨c, by show (x.tmps.setIfInBounds p u)[t]? = some c; rw [Array.getElem?_setIfInBounds_ne e]; exact c1, c2⟩
  refine wpIn_mono (h1 _ hG _ w hst (some b) (.inr hok)) ?_
  rintro e a1 w1 ⟨E1, H1, q, hs1⟩
  cases e with
  | normal =>
    have hs2 := q _ hG N a1 w1 hs1
    obtain ⟨I1, ι1, hr1, hst1, he1⟩ := hs2.rel
    have hι1 := same_place hst1 (hd_get _ _ _) e1 (hd_get _ _ _)
    have hb1 := rec_heap hr1 (hd_get _ _ _) hι1
    obtain ⟨k1, k2⟩ := hr1.setRec (y := busy x) (H' := (id, LR (busy x) E0) :: K2) (hd_get _ _ _) hι1 rfl (hd_get _ _ _) (fun j hj => hd_other _ _ _ hj)
    refine ⟨_, run_beginRound hb1 hx1, ?_⟩
    have hs3 : St ⟨I, ι, (id, LR x E0) :: K, w⟩ N E2 ((id, LR (busy x) E0) :: K2) a1 (w1.putObj b (.loop (busy x))) :=
      ⟨hs2.defers.step hr1 k2, hs2.size, I1, ι1, k1, hst1.trans k2, fun t y hy => let ⟨c, c1, c2⟩ := he1 t y hy; ⟨c, c1, c2.mono hr1 k2⟩⟩
    refine wpIn_mono (h2 _ hG a1 _ hs3 (some b) (.inr hok2)) ?_
    rintro e a2 w3 ⟨E3, H3, q3, hs4⟩
    have fin : ∀ (jump : Option Code) (y : Go.Loop) (K3 : Heap), y = { busy x with state := if jump.isNone then .ready else .done, pending := jump } → Ent ((id, LR x E0) :: K) E3 H3 [] ((id, LR (busy x) E0) :: K3) → Q (.pv (.bool jump.isNone)) ((id, LR y E0) :: K3) →
        ∃ v w', (Instr.endRound b jump).run P w3 = .ok v w' ∧ ∃ r H' I' ι' v', Ending.returned v = .returned v' ∧ Q r H' ∧ VRel w' I' ι' H' v' r ∧ Rel I' ι' H' w' ∧ Step I ι ((id, LR x E0) :: K) w I' ι' H' w' := by
      intro jump y K3 hy hent hQ
      have hs5 := hent _ hG N a2 w3 hs4
      obtain ⟨I5, ι5, hr5, hst5, _⟩ := hs5.rel
      have hι5 := same_place hst5 (hd_get _ _ _) e1 (hd_get _ _ _)
      have hb5 := rec_heap hr5 (hd_get _ _ _) hι5
      obtain ⟨z1, z2⟩ := hr5.setRec (y := y) (H' := (id, LR y E0) :: K3) (hd_get _ _ _) hι5 (by rw [hy]) (hd_get _ _ _) (fun j hj => hd_other _ _ _ hj)
      refine ⟨_, _, run_endRound jump hb5, _, _, I5, ι5, _, rfl, hQ, .pv (.bool _), ?_, ?_⟩
      · rw [← hy]; exact z1
      · rw [← hy]; exact hst5.trans z2
    cases e with
    | normal =>
      obtain ⟨K3, hent, hQ⟩ := q3
      refine fin none x K3 ?_ hent hQ
      obtain ⟨st, pe, fn, tm, pa, ax, bo, de⟩ := x
      simp only at hx1 hx2
      subst hx1 hx2
      rfl
    | ret =>
      obtain ⟨K3, hent, hQ⟩ := q3
      exact fin (some .ret) (left x .ret) K3 rfl hent hQ
    | exit j =>
      obtain ⟨K3, hent, hQ⟩ := q3
      exact fin (some (.exit j)) (left x (.exit j)) K3 rfl hent hQ
    | goto l => exact q3.elim
    | panic ch => exact q3.elim
    | outgrown => exact q3.elim
  | exit j => exact q.elim
  | goto l => exact q.elim
  | ret => exact q.elim
  | panic ch => exact q.elim
  | outgrown => exact q.elim
/-- What a loop leads to, by what is pending. -/
def RangeQ (Q : Exit → Env → Heap → Prop) (E : Env) (H : Heap) : Option Code → Prop
  | none => Q .normal E H
  | some .ret => Q .ret E H
  | some (.exit j) => Q (.exit j) E H
  | _ => False
/-- THE STATEMENT, out of the iterator's contract. -/
theorem awp_range {P : Program} {G0 : Heap} {N f id p : Nat} {caps : List AV} {g : Operand} {ps : Array Tmp} {assign body : Code} {Q : Exit → Env → Heap → Prop} {E : Env} {H : Heap} (E0 : Env) (hg : aeval E g = some (.clo f caps)) (hc : ∀ (args : Array Value) (w : World), (callFunc f args).run P w = .ok (.enter f args) w)
    (hps : ps = #[p]) (hid : H.get id = none) (hE0 : ∀ q ∈ E0, E.get q.1 = some q.2)
    (h : ∀ x : Go.Loop, x.state = .ready → x.pending = none → x.params = #[p] → x.tmps.size = N → x.assign = assign → x.body = body →
      ACalls P f (.yld id 0 :: caps) ((id, LR x E0) :: H) (fun r H' => ∃ (y : Go.Loop) (K : Heap), y.tmps = x.tmps ∧ y.state ≠ .busy ∧ H' = (id, LR y E0) :: K ∧ ∀ z : Go.Loop, RangeQ Q E ((id, LR z E0) :: K) y.pending)) :
    AWp P G0 N (.rangeFunc g ps assign body) Q E H := by
  intro G hG a w hs ro hro
  obtain rfl : ro = none := hro.resolve_right (fun h => by cases h)
  obtain ⟨I, ι, hr, hst, he⟩ := hs.rel
  refine wpIn_rangeFunc (F := RF none) ?_
  intro fn _
  have hgv := aeval_rel he hg
  generalize hfc : a.eval g = fc at hgv
  cases hgv with
  | @clo _ us _ hl hh =>
    obtain ⟨x, hx⟩ : ∃ x : Go.Loop, x = { state := .ready, pending := none, fn, tmps := a.tmps, params := ps, assign, body, defers := w.heap.size } := ⟨_, rfl⟩
    obtain ⟨a1, a2⟩ := hr.push (.deferred (some []))
    obtain ⟨wd, hwd⟩ : ∃ wd, wd = w.alloc (.deferred (some [])) := ⟨_, rfl⟩
    rw [← hwd] at a1 a2
    have hwds : wd.heap.size = w.heap.size + 1 := by rw [hwd, World.size_alloc]
    have hDd : wd.heap[w.heap.size]? = some (.deferred (some [])) := by rw [hwd]; exact World.alloc_heap_new w _
    have hidH : Heap.get ((id, LR x E0) :: H) id = some (LR x E0) := hd_get _ _ _
    obtain ⟨b1, b2⟩ := a1.placeX (id := id) (cap := 2) (x := .loop x) (w' := wd.alloc (.loop x)) (H' := (id, LR x E0) :: H) (ob' := LR x E0) rfl rfl rfl rfl (fun o ho => by rw [hid] at ho; cases ho)
      (fun hnew hI hmono => .inr (.inr (.inr ⟨rfl, _, x, by simp, hnew, hI, fun y ts r hy => by
        simp only [LR, List.cons.injEq, AV.raw.injEq, and_true] at hy
        obtain ⟨⟨rfl, rfl⟩, rfl⟩ := hy
        refine ⟨rfl, fun i t v ht hv => ?_⟩
        rw [List.getElem?_map] at ht hv
        obtain ⟨q, hq, rfl⟩ := Option.map_eq_some_iff.1 ht
        rw [hq] at hv
        cases hv
        obtain ⟨c, c1, c2⟩ := he q.1 q.2 (hE0 q (List.mem_of_getElem? hq))
        exact ⟨c, by rw [hx]; exact c1, hmono _ _ (c2.mono hr a2)⟩⟩)))
      hidH (fun j hj => by simp [Heap.get, beq_ne (Ne.symm hj)])
    obtain ⟨w1, hw1⟩ : ∃ w1, w1 = wd.alloc (.loop x) := ⟨_, rfl⟩
    rw [← hw1] at b1 b2
    obtain ⟨ι1, hι1⟩ : ∃ ι1 : Plc, ι1 = fun j => if j = id then some (wd.heap.size, 2) else ι j := ⟨_, rfl⟩
    rw [← hι1] at b1 b2
    have hιid : ι1 id = some (w.heap.size + 1, 2) := by rw [hι1, hwds]; simp
    have hL1 := rec_heap b1 hidH hιid
    have hD1 : w1.heap[w.heap.size]? = some (.deferred (some [])) := by
      rw [b2.keep _ (by rw [hwds]; omega) (own_mark a1 hDd)]
      exact hDd
    have hcall := h x (by rw [hx]) (by rw [hx]) (by rw [hx, hps]) (by rw [hx]; exact hs.size) (by rw [hx]) (by rw [hx]) I ι1 w1 (#[.func (.yield (w.heap.size + 1)) #[] #[]] ++ us) b1 (by simp [hl]; omega) (fun i v c hv hc' => by
      cases i with
      | zero =>
        rw [Array.getElem?_append_left (by simp)] at hv
        simp at hv hc'
        subst hv hc'
        exact .yld (LR x E0) hidH (Nat.le_refl _) rfl (fun _ => ⟨rfl, _, hιid, rfl⟩)
      | succ i =>
        rw [Array.getElem?_append_right (by simp)] at hv
        simp only [List.getElem?_cons_succ] at hc'
        have := hh i v c (by simpa using hv) hc'
        exact (this.mono hr a2).mono a1 b2)
    refine ⟨w.heap.size + 1, [mark w.heap.size], w1, { target := .fn (.func f) us, args := #[.func (.yield (w.heap.size + 1)) #[] #[]] }, w1, f, #[.func (.yield (w.heap.size + 1)) #[] #[]] ++ us, w1, ?_, ?_, fun _ _ => trivial, ?_, (fun q => by cases q), ?_⟩
    · rw [hw1, hwd, hx]; exact run_enterLoop_outer _ _ _ _ _
    · simp only [resolve, hfc]
      simp [go_sem]
    · simp [invoke, go_sem, hc]
    · refine ((callsIn_wide (n := 0)).2 hcall).mono ?_
      rintro e w3 ⟨r, H', I3, ι3, v3, rfl, ⟨y, K, hy1, hy2, rfl, hq⟩, _, hr3, hst3⟩
      have hι3 := same_place (G := ⟨I, ι1, (id, LR x E0) :: H, w1⟩) hst3 hidH hιid (hd_get _ _ _)
      have hb3 := rec_heap hr3 (hd_get _ _ _) hι3
      obtain ⟨z, hz⟩ : ∃ z : Go.Loop, z = { y with state := .exhausted } := ⟨_, rfl⟩
      obtain ⟨z1, z2⟩ := hr3.setRec (y := z) (H' := (id, LR z E0) :: K) (hd_get _ _ _) hι3 (by rw [hz]) (hd_get _ _ _) (fun j hj => hd_other _ _ _ hj)
      obtain ⟨w4, hw4⟩ : ∃ w4, w4 = w3.putObj (w.heap.size + 1) (.loop z) := ⟨_, rfl⟩
      rw [← hw4] at z1 z2
      refine ⟨y.pending, w4, by rw [hw4, hz]; exact run_endLoop hb3 hy2, ?_⟩
      have hall : Step I ι H w I3 ι3 ((id, LR z E0) :: K) w4 := ((a2.trans b2).trans hst3).trans z2
      have hD4 : w4.heap[w.heap.size]? = some (.deferred (some [])) := by
        rw [(hst3.trans z2).keep _ (Array.getElem?_eq_some_iff.1 hD1).1 (own_mark b1 hD1)]
        exact hD1
      have hs4 : St G N E ((id, LR z E0) :: K) { a with defers := [mark w.heap.size] ++ a.defers } w4 := by
        refine ⟨?_, hs.size, I3, ι3, z1, hst.trans hall, fun t v hv => let ⟨c, c1, c2⟩ := he t v hv; ⟨c, c1, c2.mono hr hall⟩⟩
        obtain ⟨Ds, d1, d2, d3⟩ := hs.defers.step hr hall
        refine ⟨w.heap.size :: Ds, by rw [d1]; rfl, List.nodup_cons.2 ⟨fun hmem => ?_, d2⟩, fun D hD => ?_⟩
        · have hold : ∀ D ∈ Ds, D < w.heap.size := by
            obtain ⟨Ds', d1', _, d3'⟩ := hs.defers
            have he : Ds' = Ds := by
              have h0 : Ds'.map mark = Ds.map mark := by rw [← d1', ← d1]
              have hinj : ∀ (l l' : List Nat), l.map mark = l'.map mark → l = l' := by
                intro l
                induction l with
                | nil => intro l' h; cases l' with
                  | nil => rfl
                  | cons _ _ => cases h
                | cons D l ih => intro l' h; cases l' with
                  | nil => cases h
                  | cons D' l' =>
                    simp only [List.map_cons, List.cons.injEq, mark, Deferred.mk.injEq, Target.collected.injEq, and_true] at h
                    rw [h.1, ih l' h.2]
              exact hinj _ _ h0
            subst he
            exact fun D hD => (Array.getElem?_eq_some_iff.1 (d3' D hD).2).1
          exact Nat.lt_irrefl _ (hold _ hmem)
        · rcases List.mem_cons.1 hD with rfl | hD
          · exact ⟨hst.size, hD4⟩
          · exact d3 D hD
      have hq' := hq z
      generalize y.pending = pend at hq' ⊢
      match pend, hq' with
      | none, hq' => exact ⟨E, _, hq', hs4⟩
      | some .ret, hq' => exact wpIn_ret ⟨E, _, hq', hs4⟩
      | some (.exit j), hq' => exact wpIn_exit ⟨E, _, hq', hs4⟩
end Go.Abs
end
section
set_option linter.unusedVariables false
set_option linter.unusedSimpArgs false
namespace Go.Abs
theorem ACalls.congrG {P : Program} {f : FuncId} {args : List AV} {H H1 K K1 : Heap} {r0 : AV} (h : ACalls P f args H1 (fun r X => r = r0 ∧ X = K1)) (he : ∀ j, H1.get j = H.get j) (hk : ∀ j, K.get j = K1.get j) : ACalls P f args H (fun r X => r = r0 ∧ X = K) := by
  intro I ι w vs hr hl hv
  obtain ⟨p1, p2⟩ := hr.congr he
  refine (h I ι w vs p1 hl (fun i v a h1 h2 => (hv i v a h1 h2).mono hr p2)).mono ?_
  rintro e w' ⟨r, H', I', ι', v, rfl, ⟨rfl, rfl⟩, k1, k2, k3⟩
  obtain ⟨q1, q2⟩ := k2.congr hk
  exact ⟨r, K, I', ι', v, rfl, ⟨rfl, rfl⟩, k1.mono k2 q2, q1, (p2.trans k3).trans q2⟩
theorem YCalls.congrG {P : Program} {id g : Nat} {args : List AV} {H H1 K K1 : Heap} {r0 : AV} (h : YCalls P id g args H1 (fun r X => r = r0 ∧ X = K1)) (he : ∀ j, H1.get j = H.get j) (hk : ∀ j, K.get j = K1.get j) : YCalls P id g args H (fun r X => r = r0 ∧ X = K) := by
  intro I ι w vs v hr hvy hl hv
  obtain ⟨p1, p2⟩ := hr.congr he
  obtain ⟨l, f, tmps, assign, body, e1, e2, e3⟩ := h I ι w vs v p1 (hvy.mono hr p2) hl (fun i v a h1 h2 => (hv i v a h1 h2).mono hr p2)
  refine ⟨l, f, tmps, assign, body, e1, e2, e3.mono ?_⟩
  rintro e w' ⟨r, H', I', ι', v, rfl, ⟨rfl, rfl⟩, k1, k2, k3⟩
  obtain ⟨q1, q2⟩ := k2.congr hk
  exact ⟨r, K, I', ι', v, rfl, ⟨rfl, rfl⟩, k1.mono k2 q2, q1, (p2.trans k3).trans q2⟩
theorem CallsV.congrG {P : Program} {fv : AV} {args : List AV} {H H1 K K1 : Heap} {r0 : AV} (h : CallsV P fv args H1 (fun r X => r = r0 ∧ X = K1)) (he : ∀ j, H1.get j = H.get j) (hk : ∀ j, K.get j = K1.get j) : CallsV P fv args H (fun r X => r = r0 ∧ X = K) := by
  rcases h with ⟨id, g, e, h⟩ | ⟨F, caps, e, hc, h⟩
  · exact .inl ⟨id, g, e, h.congrG he hk⟩
  · exact .inr ⟨F, caps, e, hc, h.congrG he hk⟩
/-- Two objects in front change places. -/
theorem get_swap {i j : Nat} {a b : Ob} {K : Heap} (h : i ≠ j) (k : Nat) : Heap.get ((i, a) :: (j, b) :: K) k = Heap.get ((j, b) :: (i, a) :: K) k := by
  simp only [Heap.get]
  cases e1 : Nat.beq i k with
  | true =>
    have := Nat.eq_of_beq_eq_true e1
    subst this
    rw [beq_ne (Ne.symm h)]; rfl
  | false => cases e2 : Nat.beq j k <;> rfl
end Go.Abs
end
section
set_option linter.unusedVariables false
set_option linter.unusedSimpArgs false
namespace Go.Abs
open Go.Lib
section
variable {P : Program} {N : Nat} {o : Oper} {E : Env} {H : Heap} {T S : TypeId} {x y : Operand}
theorem strCells_rel {w : World} {I : Nat → Prop} {ι : Plc} (s : ByteArray) : LRel w I ι H 1 (strCells s) (brows s.data.toList) := by
  intro i r hi k a hk
  rw [brows, List.getElem?_map] at hi
  obtain ⟨b, hb, rfl⟩ := Option.map_eq_some_iff.1 hi
  cases k with
  | zero =>
    cases hk
    exact ⟨.int .u8 b.toNat, by rw [strCells, Nat.mul_one, Nat.add_zero, List.getElem?_map, hb]; rfl, rfl, .pv (.int _ _)⟩
  | succ k => simp at hk
theorem opd_append_str {e : TypeId} {id g n : Nat} {ob : Ob} {s : ByteArray} {H2 : Heap} (ho : o.op = .call { callee := .builtin .append, args := #[x, y], argTypes := #[T, S] }) (hT : P.underlying T = some (.slice e)) (hS : P.underlying S = some .string) (hinf : EInfo P e 1 1) (hz0 : ∀ i, P.info? e = some i → i.zero = some (.int .u8 0))
    (hx : aeval E x = some (.osl id g 0 n)) (hH : H.get id = some ob) (hg : ob.g = g) (hosz : ob.sz = 1) (hty : ob.ty = e) (hn : ob.rows.length = n)
    (hy : aeval E y = some (.pv (.str s))) (hmax : n + s.size ≤ 140737488355328)
    (hH2 : H.set id ⟨g + 1, 1, e, ob.rows ++ brows s.data.toList⟩ = H2) : OpD P N o E H (.osl id (g + 1) 0 (n + s.size)) H2 := by
  intro a w I ι _ _ hr he K Q hk
  obtain ⟨i, z, hi, hz, hsize, hby, hzs, hsz0⟩ := hinf
  have hzi := hz0 i hi
  subst hg hty hn hH2
  have hlen2 : (brows s.data.toList).length = s.size := by simp [brows]
  have hml : ob.rows.length + s.size ≤ maxLen := by simp only [maxLen]; omega
  have h1 : (H.set id ⟨ob.g + 1, 1, ob.ty, ob.rows ++ brows s.data.toList⟩).get id = some ⟨ob.g + 1, 1, ob.ty, ob.rows ++ brows s.data.toList⟩ := Heap.get_set_same _ _ _
  have h2 : ∀ j, j ≠ id → (H.set id ⟨ob.g + 1, 1, ob.ty, ob.rows ++ brows s.data.toList⟩).get j = H.get j := fun j hj => Heap.get_set_other _ _ hj
  have hpos : 0 < ob.sz := osl_sz (aeval_rel he hx) hH rfl
  have p2 := ((hr.obj id ob hH).cells hpos).2.1
  rw [hosz] at p2
  have hrl : ∀ r ∈ ob.rows ++ brows s.data.toList, r.length = 1 := fun r hr' => by
    rcases List.mem_append.1 hr' with h | h
    · exact p2 r h
    · obtain ⟨b, _, rfl⟩ := List.mem_map.1 h; rfl
  have hys := (aeval_rel he hy).str_inv
  have fin : ∀ (v' : Value) (w' : World) (ι' : Plc), (Builtin.append_ #[T, S] o.type #[a.eval x, .string s]).run P w = .ok v' w' → VRel w' I ι' (H.set id ⟨ob.g + 1, 1, ob.ty, ob.rows ++ brows s.data.toList⟩) v' (.osl id (ob.g + 1) 0 (ob.rows.length + s.size)) →
      Rel I ι' (H.set id ⟨ob.g + 1, 1, ob.ty, ob.rows ++ brows s.data.toList⟩) w' → Step I ι H w I ι' (H.set id ⟨ob.g + 1, 1, ob.ty, ob.rows ++ brows s.data.toList⟩) w' → o.wpW P a w K Q := by
    intro v' w' ι' hrun k1 k2 k3
    unfold Oper.wpW execOp
    simp only [ho, resolve, invoke, builtin, Sem.run_bind, Sem.run_pure, Result.andThen_ok, List.map_toArray, List.map_cons, List.map_nil, hys, hrun]
    exact hk v' w' I ι' _ _ ⟨rfl, rfl⟩ k1 k2 k3
  have hvx := aeval_rel he hx
  obtain ⟨_, hcase⟩ := osl_slice hvx hH rfl
  rcases hcase with ⟨b, cap, oo, c1, c2, c3⟩ | ⟨c1, c2, _, c4⟩
  · obtain ⟨p1, _, ⟨b', cap', cs, e1, e2, e3, e4, e5, e5', e6⟩ | ⟨e1, _⟩⟩ := (hr.obj id ob hH).cells hpos
    · rw [c1] at e1; cases e1
      rw [hosz] at e4 e6
      have hoo : oo = 0 := by rw [c3 (by omega)]; simp
      subst hoo
      rw [Nat.sub_zero] at c2
      have olds : LRel w I ι H 1 (cs.toList.take (ob.rows.length * 1)) ob.rows := by
        intro i' r hi' k a' hk'
        obtain ⟨u, q1, q2, q3⟩ := e6 i' r hi' k a' hk'
        have hk2 : k < 1 := by rw [← p2 r (List.mem_of_getElem? hi')]; exact (List.getElem?_eq_some_iff.1 hk').1
        have hi2 : i' < ob.rows.length := (List.getElem?_eq_some_iff.1 hi').1
        exact ⟨u, by rw [List.getElem?_take, if_pos (by omega)]; simpa using q1, q2, q3⟩
      have holen : (cs.toList.take (ob.rows.length * 1)).length = ob.rows.length * 1 := by simp; omega
      have hslen : (strCells s).length = s.size := strCells_length s
      by_cases hroom : ob.rows.length + s.size ≤ cap
      · have hrun := run_append_room_string (P := P) w T S o.type ob.ty i hT hS hi hsize b ob.rows.length cap cs e2 s hroom (by omega)
        obtain ⟨k2, k3⟩ := Rel.update (H' := H.set id ⟨ob.g + 1, 1, ob.ty, ob.rows ++ brows s.data.toList⟩) (ob' := ⟨ob.g + 1, 1, ob.ty, ob.rows ++ brows s.data.toList⟩)
          (cs' := (cs.toList.take ob.rows.length ++ strCells s ++ cs.toList.drop (ob.rows.length + s.size)).toArray) hr hH c1 e2 (by simp) hosz.symm rfl (fun e => by simp at e) (by
            simp only [List.size_toArray, List.length_append, List.length_take, List.length_drop, Array.length_toList, hslen, hosz]
            omega) (by simp only [List.length_append, hlen2]; exact hroom) (by rw [hosz]; exact hrl) (fun i' r hi' k a' hk' => by
              have := LRel.app (l3 := cs.toList.drop (ob.rows.length + s.size)) olds holen (strCells_rel (H := H) s) i' r hi' k a' hk'
              rw [hosz]
              simpa [List.append_assoc] using this) h1 h2
        exact fin _ _ ι (by rw [c2]; exact hrun) (.osl _ h1 (Nat.le_refl _) rfl fun _ => ⟨Nat.zero_lt_one, by simp [hlen2], .inl ⟨b, cap, 0, c1, by simp, fun _ => by simp⟩⟩) k2 k3
      · have holds : ∀ j v, (cs.toList.take ob.rows.length)[j]? = some v → w.cell? ((⟨b, 0, none⟩ : Addr).add j) = some v := by
          intro j v hv
          rw [Addr.add_lit, Nat.zero_add, cell_of_row w b _ cs ob.ty (0, 0) e2]
          rw [List.getElem?_take] at hv
          split at hv
          · simpa using hv
          · cases hv
        have hrun := run_append_grow_string (P := P) w T S o.type ob.ty i (.int .u8 0) hT hS hi hzi ⟨b, 0, none⟩ ob.rows.length cap _ (by rw [hsize]; simpa using holen) holds s (by omega) (by omega) (growslice_fits (by omega) (by rw [hby]; omega))
        have hge := grownCap_ge w (ob.rows.length + s.size) cap ob.ty
        have hcm := grownCap_le_maxLen w (ob.rows.length + s.size) cap ob.ty hml
        have hz1 : (Value.int IntKind.u8 0).cells.size = 1 := rfl
        obtain ⟨k2, k3⟩ := Rel.place (H' := H.set id ⟨ob.g + 1, 1, ob.ty, ob.rows ++ brows s.data.toList⟩) (id := id) (cap := grownCap w (ob.rows.length + s.size) cap ob.ty) (ob' := ⟨ob.g + 1, 1, ob.ty, ob.rows ++ brows s.data.toList⟩)
          (cs' := (cs.toList.take ob.rows.length).toArray ++ (strCells s).toArray ++ Builtin.zeroCells (Value.int .u8 0).cells (grownCap w (ob.rows.length + s.size) cap ob.ty - (ob.rows.length + s.size)))
          (w' := w.drew.alloc (.cells ((cs.toList.take ob.rows.length).toArray ++ (strCells s).toArray ++ Builtin.zeroCells (Value.int .u8 0).cells (grownCap w (ob.rows.length + s.size) cap ob.ty - (ob.rows.length + s.size))) ob.ty)) hr rfl rfl rfl rfl
          (fun o' ho' => by rw [hH] at ho'; cases ho'; simp) Nat.zero_lt_one (by
            simp only [Array.size_append, List.size_toArray, size_zeroCells, hz1, hslen, List.length_take, Array.length_toList]
            omega) (by simp only [List.length_append, hlen2]; exact hge) hcm hrl (fun i' r hi' k a' hk' => by
              obtain ⟨u, q1, q2, q3⟩ := LRel.app (l3 := (Builtin.zeroCells (Value.int .u8 0).cells (grownCap w (ob.rows.length + s.size) cap ob.ty - (ob.rows.length + s.size))).toList) olds holen (strCells_rel (H := H) s) i' r hi' k a' hk'
              refine ⟨u, ?_, q2, q3⟩
              rw [← Array.getElem?_toList]
              simpa [List.append_assoc] using q1) h1 h2
        exact fin _ _ _ (by rw [c2]; exact hrun) (.osl _ h1 (Nat.le_refl _) rfl fun _ => ⟨Nat.zero_lt_one, by simp [hlen2], .inl ⟨w.heap.size, _, 0, by simp; rfl, by simp, fun _ => by simp⟩⟩) k2 k3
    · rw [c1] at e1; cases e1
  · have hnil : ob.rows = [] := List.eq_nil_of_length_eq_zero c4
    by_cases h0 : s.size = 0
    · have hb0 : brows s.data.toList = [] := List.eq_nil_of_length_eq_zero (by rw [hlen2]; exact h0)
      have hrun : (Builtin.append_ #[T, S] o.type #[.slice none 0 0, .string s]).run P w = .ok (.slice none 0 0) w := by
        have hf := run_firstCells_string (P := P) w 1 s
        rw [h0] at hf
        simp [Builtin.append_, run_underlying hT, run_underlying hS, sizeOf, typeInfo, hi, hsize, Builtin.lenOf, h0, hf]
      obtain ⟨k2, k3⟩ := Rel.tick (H' := H.set id ⟨ob.g + 1, 1, ob.ty, ob.rows ++ brows s.data.toList⟩) (ob' := ⟨ob.g + 1, 1, ob.ty, ob.rows ++ brows s.data.toList⟩) hr hH (by simp) hosz.symm rfl (by simp [hb0]) h1 h2
      exact fin _ _ ι (by rw [c2]; exact hrun) (.osl _ h1 (Nat.le_refl _) rfl fun _ => ⟨Nat.zero_lt_one, by simp [hlen2], .inr ⟨c1, rfl, rfl, by simp [hnil, h0]⟩⟩) k2 k3
    · have hr0 := run_append_nil_string (P := P) w T S o.type ob.ty i (.int .u8 0) hT hS hi hzi s (by omega) (by omega) (by rw [hby]; omega)
      have hslen : (strCells s).length = s.size := strCells_length s
      have e1 : (s.data.map fun b => Value.int .u8 b.toNat) = (strCells s).toArray := by
        apply Array.ext'
        simp [strCells]
      rw [e1] at hr0
      have hml0 : s.size ≤ maxLen := by omega
      have hge := grownCap_ge w s.size 0 ob.ty
      have hcm := grownCap_le_maxLen w s.size 0 ob.ty hml0
      have hz1 : (Value.int IntKind.u8 0).cells.size = 1 := rfl
      obtain ⟨k2, k3⟩ := Rel.place (H' := H.set id ⟨ob.g + 1, 1, ob.ty, ob.rows ++ brows s.data.toList⟩) (id := id) (cap := grownCap w s.size 0 ob.ty) (ob' := ⟨ob.g + 1, 1, ob.ty, ob.rows ++ brows s.data.toList⟩)
        (cs' := (strCells s).toArray ++ Builtin.zeroCells (Value.int .u8 0).cells (grownCap w s.size 0 ob.ty - s.size))
        (w' := w.drew.alloc (.cells ((strCells s).toArray ++ Builtin.zeroCells (Value.int .u8 0).cells (grownCap w s.size 0 ob.ty - s.size)) ob.ty)) hr rfl rfl rfl rfl
        (fun o' ho' => by rw [hH] at ho'; cases ho'; simp) Nat.zero_lt_one (by
          simp only [Array.size_append, List.size_toArray, size_zeroCells, hz1, hslen]
          omega) (by simp only [List.length_append, hlen2, hnil, List.length_nil, Nat.zero_add]; exact hge) hcm hrl (fun i' r hi' k a' hk' => by
            simp only [hnil, List.nil_append] at hi'
            obtain ⟨u, q1, q2, q3⟩ := strCells_rel (w := w) (I := I) (ι := ι) (H := H) s i' r hi' k a' hk'
            have hlt := (List.getElem?_eq_some_iff.1 q1).1
            refine ⟨u, ?_, q2, q3⟩
            rw [Array.getElem?_append_left (by simpa using hlt)]
            simpa using q1) h1 h2
      exact fin _ _ _ (by rw [c2]; exact hr0) (.osl _ h1 (Nat.le_refl _) rfl fun _ => ⟨Nat.zero_lt_one, by simp [hlen2], .inl ⟨w.heap.size, _, 0, by simp; rfl, by simp [hnil], fun _ => by simp⟩⟩) k2 k3
/-- The rule in the form in which a walk uses it. -/
theorem x_append_str {e : TypeId} {id g n k : Nat} {ob : Ob} {s : ByteArray} {rows' : List (List AV)} (ho : o.op = .call { callee := .builtin .append, args := #[x, y], argTypes := #[T, S] }) (hSl : SliceOf P T e 1) (hS : P.underlying S = some .string) (hinf : EI P e 1 1) (hz0 : ∀ i, P.info? e = some i → i.zero = some (.int .u8 0))
    (hx : aeval E x = some (.osl id g 0 n)) (hH : H.get id = some ob) (hg : ob.g = g) (hosz : ob.sz = 1) (hty : ob.ty = e) (hn : ob.rows.length = n)
    (hy : aeval E y = some (.pv (.str s))) (hmax : n + s.size ≤ 140737488355328) (hk : n + s.size = k) (hrows : ob.rows ++ brows s.data.toList = rows') :
    OpD P N o E H (.osl id (g + 1) 0 k) ((id, ⟨g + 1, 1, e, rows'⟩) :: H) := by
  subst hk hrows
  exact OpD.congr (opd_append_str ho hSl.1 hS hinf.1 hz0 hx hH hg hosz hty hn hy hmax rfl) (fun j => set_cons _ _ _ j)
end
end Go.Abs
end
section
set_option linter.unusedVariables false
set_option linter.unusedSimpArgs false
namespace Go.Abs
def isPtr (v : Value) : Prop := ∃ p, v = .pointer p
theorem liesAt_self {P : Program} {e : TypeId} {s : Nat} (hc : P.cellsOf e = s + 1) (count : Nat) (hn : 1 ≤ count) : liesAt P P.depth e count 0 e 1 = true := by
  have hd : P.depth = (2 * (P.types.size + Made.depth) + 1) + 1 := rfl
  rw [hd]
  simp only [liesAt, Bool.or_eq_true]
  left
  rw [hd]
  simp [rowAt, hc, hn, sameLayout]
theorem ref_shape {I : Nat → Prop} {ι : Plc} {H : Heap} {w : World} {v : Value} {id g : Nat} {ob : Ob} (hr : Rel I ι H w) (h : VRel w I ι H v (.ref id g 0 0)) (hH : H.get id = some ob) (hg : ob.g = g) (hne : ob.rows ≠ []) :
    ∃ b cap, v = .pointer (some ⟨b, 0, none⟩) ∧ w.shape? b = some (ob.ty, cap * ob.sz) ∧ 0 < cap ∧ 0 < ob.sz := by
  obtain ⟨b, cap, e1, e2⟩ := ref_ptr h hH hg
  have hz := ref_sz h hH hg
  obtain ⟨_, _, ⟨b', cap', cs, f1, f2, f3, f4, f5, _⟩ | ⟨f1, _⟩⟩ := (hr.obj id ob hH).cells hz
  · rw [e1] at f1; cases f1
    refine ⟨b, cap, by rw [e2]; simp, by simp [World.shape?, f2, f4], ?_, hz⟩
    have : 0 < ob.rows.length := List.length_pos_iff.2 hne
    omega
  · rw [e1] at f1; cases f1
theorem VRel.sat_inv {w : World} {I : Nat → Prop} {ι : Plc} {H : Heap} {v : Value} {p : Value → Prop} (h : VRel w I ι H v (.pv (.sat p))) : p v := by
  have := h.pv_inv
  cases this with
  | sat h1 h2 => exact h2
section
variable {P : Program} {N : Nat} {o : Oper} {E : Env} {H : Heap} {S T t t' e : TypeId} {x y : Operand} {id g n : Nat} {ob : Ob}
theorem info_size {P : Program} {t : TypeId} {n : Nat} (h : (P.info? t).map (·.size) = some n) : ∃ j, P.info? t = some j ∧ j.size = n := by
  cases hi : P.info? t with
  | none => rw [hi] at h; cases h
  | some j => rw [hi] at h; exact ⟨j, rfl, Option.some.inj h⟩
theorem opd_to_unsafe (ho : o.op = .convert S T x) (hS : P.underlying S = some (.pointer t)) (hT : P.underlying T = some .unsafePointer) (hi : (P.info? t).map (·.size) = some (n + 1)) (hx : aeval E x = some (.ref id g 0 0)) (hH : H.get id = some ob) (hg : ob.g = g) (hne : ob.rows ≠ []) : OpD P N o E H (.ref id g 0 0) H :=
  .of_run fun a w I ι hr he => by
    have hv := aeval_rel he hx
    obtain ⟨b, cap, e1, e2, e3, e4⟩ := ref_shape hr hv hH hg hne
    obtain ⟨j, h1, h2⟩ := info_size hi
    rw [e1] at hv
    have hpos : 0 < cap * ob.sz := Nat.mul_pos e3 e4
    refine ⟨_, ?_, hv⟩
    simp only [execOp, ho, e1]
    rw [Sem.run_bind, Lib.run_to_unsafe w ⟨b, 0, none⟩ hS hT h1 (by omega) e2 hpos]
    rfl
theorem opd_from_unsafe (ho : o.op = .convert S T x) (hS : P.underlying S = some .unsafePointer) (hT : P.underlying T = some (.pointer t)) (hi : (P.info? t).map (·.size) = some (n + 1)) (hx : aeval E x = some (.ref id g 0 0)) (hH : H.get id = some ob) (hg : ob.g = g) (hne : ob.rows ≠ []) (hty : ob.ty = t) (hsz : ob.sz = n + 1) : OpD P N o E H (.ref id g 0 0) H :=
  .of_run fun a w I ι hr he => by
    have hv := aeval_rel he hx
    obtain ⟨b, cap, e1, e2, e3, e4⟩ := ref_shape hr hv hH hg hne
    obtain ⟨j, h1, h2⟩ := info_size hi
    rw [e1] at hv
    have hc : P.cellsOf t = n + 1 := by simp [Program.cellsOf, h1, h2]
    refine ⟨_, ?_, hv⟩
    simp only [execOp, ho, e1]
    rw [hty] at e2
    rw [Sem.run_bind, Lib.run_from_unsafe w ⟨b, 0, none⟩ hS hT h1 e2 (liesAt_self hc _ (by rw [hc, hsz, Nat.mul_div_cancel _ (by omega)]; exact e3))]
    rfl
theorem opd_pne_same {i k : Nat} (ho : o.op = .binOp .neq t x y t') (ht : P.underlying t = some (.pointer e)) (hi : (P.info? e).map (·.size) = some (n + 1)) (hx : aeval E x = some (.ref id g i k)) (hy : aeval E y = some (.ref id g i k)) (hH : H.get id = some ob) (hg : ob.g = g) : OpD P N o E H (.pv (.bool false)) H :=
  .of_run fun a w I ι _ he => ⟨.bool false, by
    obtain ⟨b, cap, q1, e1⟩ := ref_ptr (aeval_rel he hx) hH hg
    obtain ⟨b', cap', q2, e2⟩ := ref_ptr (aeval_rel he hy) hH hg
    rw [q1] at q2; cases q2
    obtain ⟨j, h1, h2⟩ := info_size hi
    simp only [execOp, ho, e1, e2, eqGuard_at_pointer, Sem.run_bind, Sem.run_pure, Result.andThen_ok, Lib.run_neq_ptr_same w _ ht h1], .pv (.bool _)⟩
theorem ext_same (v : AV) : ExtR P Extern.AbiNoEscape.same H [v] v := by
  intro w I ι cs hl h
  obtain ⟨l⟩ := cs
  match l, hl with
  | [u], _ => exact ⟨u, rfl, h 0 u v rfl rfl⟩
/-- The pointer to the bytes of an owned slice. -/
theorem opd_sliceData (ho : o.op = .call { callee := .builtin .unsafeSliceData, args := #[x], argTypes := #[T] }) (hx : aeval E x = some (.osl id g 0 n)) (hH : H.get id = some ob) (hg : ob.g = g) (hn : 0 < n) : OpD P N o E H (.ref id g 0 0) H :=
  .of_run fun a w I ι hr he => by
    have hv := aeval_rel he hx
    have hz := osl_sz hv hH hg
    obtain ⟨hl, ⟨b, cap, oo, e1, e2, e3⟩ | ⟨_, _, _, e4⟩⟩ := osl_slice hv hH hg
    · obtain ⟨_, _, ⟨b', cap', cs, f1, f2, f3, f4, f5, _⟩ | ⟨f1, _⟩⟩ := (hr.obj id ob hH).cells hz
      · rw [e1] at f1; cases f1
        obtain rfl : oo = 0 := by rw [e3 (.inr rfl)]; simp
        refine ⟨.pointer (some ⟨b, 0, none⟩), ?_, .ref ob hH (Nat.le_of_eq hg.symm) rfl fun _ => ⟨hz, b, cap, e1, by simp⟩⟩
        have hc : cap ≠ 0 := by omega
        simp [execOp, ho, resolve, invoke, builtin, e2, Lib.run_unsafeSliceData_row w _ _ _ _ _ hc]
      · rw [e1] at f1; cases f1
    · omega
/-- .. of a slice of no bytes. -/
theorem opd_sliceData0 (ho : o.op = .call { callee := .builtin .unsafeSliceData, args := #[x], argTypes := #[T] }) (hp : P.underlying o.type = some (.pointer e)) (hx : aeval E x = some (.osl id g 0 0)) (hH : H.get id = some ob) (hg : ob.g = g) : OpD P N o E H (.pv (.sat isPtr)) H := by
  intro a w I ι _ _ hr he K Q hk
  have hv := aeval_rel he hx
  have hz := osl_sz hv hH hg
  have fin : ∀ (c : Value) (w' : World), (Builtin.unsafeSliceData_ #[T] o.type #[a.eval x]).run P w = .ok c w' → isPtr c → Rel I ι H w' → Step I ι H w I ι H w' → o.wpW P a w K Q := fun c w' hrun hc k1 k2 => by
    have hone : c.oneCell' = true := by obtain ⟨p, rfl⟩ := hc; rfl
    unfold Oper.wpW
    have : (execOp a.eval o).run P w = .ok (.value c) w' := by
      simp [execOp, ho, resolve, invoke, builtin, hrun]
    rw [this]
    exact hk c w' I ι _ H ⟨rfl, rfl⟩ (.pv (.sat hone hc)) k1 k2
  obtain ⟨hl, ⟨b, cap, oo, e1, e2, e3⟩ | ⟨_, e2, _, e4⟩⟩ := osl_slice hv hH hg
  · by_cases hc : cap = 0
    · obtain ⟨_, _, ⟨b', cap', cs, f1, f2, f3, f4, f5, _⟩ | ⟨f1, _⟩⟩ := (hr.obj id ob hH).cells hz
      · rw [e1] at f1; cases f1
        obtain ⟨k1, k2⟩ := hr.push (.view ⟨b, oo, none⟩ e)
        refine fin (.pointer (some ⟨w.heap.size, 0, none⟩)) _ ?_ ⟨_, rfl⟩ k1 k2
        rw [e2, hc]
        exact Lib.run_unsafeSliceData_zero w #[T] o.type e hp ⟨b, oo, none⟩ 0 (ob.ty, cs.size) (by simp [World.shape?, f2])
      · rw [e1] at f1; cases f1
    · refine fin (.pointer (some ⟨b, oo, none⟩)) _ ?_ ⟨_, rfl⟩ hr (Step.refl _ _ _ _)
      rw [e2]
      exact Lib.run_unsafeSliceData_row w #[T] o.type ⟨b, oo, none⟩ 0 _ (by omega)
  · refine fin (.pointer none) _ ?_ ⟨_, rfl⟩ hr (Step.refl _ _ _ _)
    rw [e2]
    exact Lib.run_unsafeSliceData_nil w #[T] o.type 0 0
theorem opd_unsafeString0 {T2 : TypeId} (ho : o.op = .call { callee := .builtin .unsafeString, args := #[x, y], argTypes := #[T, T2] }) (hx : aeval E x = some (.pv (.sat isPtr))) (hy : aeval E y = some (.pv (.int .i64 0))) : OpD P N o E H (.pv (.str ⟨#[]⟩)) H :=
  .of_run fun a w I ι hr he => by
    have h2 := (aeval_rel he hy).int_inv
    have h1 := (aeval_rel he hx).sat_inv
    · obtain ⟨p, hp⟩ := h1
      refine ⟨_, ?_, .pv (.str _)⟩
      simp [execOp, ho, resolve, invoke, builtin, hp, h2, Lib.run_unsafeString_none w T T2 o.type p]
      rfl
/-- An object is given up; its block turns. -/
theorem Rel.lost {I : Nat → Prop} {ι : Plc} {w w' : World} {b cap : Nat} (hr : Rel I ι H w) (hH : H.get id = some ob) (hz : 0 < ob.sz) (hι : ι id = some (b, cap)) (hos : w'.os = w.os) (htape : w'.tape = w.tape) (hout : w'.output = w.output) (hsize : w'.heap.size = w.heap.size)
    (hw : ∀ c, c ≠ b → w'.heap[c]? = w.heap[c]?) : Rel I (away ι id) ((id, gone ob) :: H) w' ∧ Step I ι H w I (away ι id) ((id, gone ob) :: H) w' := by
  have hown : Own ι H b := ⟨id, ob, cap, hH, hι⟩
  have hst : Step I ι H w I (away ι id) ((id, gone ob) :: H) w' := by
    refine ⟨hos, htape, hout, by omega, fun a _ hn => ?_, fun _ h => h, fun _ h => .inl h, fun c hc => ?_, fun c _ hn => hw c (fun e => hn (e ▸ hown)), fun j o hj => ?_⟩
    · unfold World.frozen?
      rw [hw a.block (fun e => hn (by rw [e]; exact hown))]
    · obtain ⟨j, o, cp, hj, hi⟩ := hc
      by_cases e : j = id
      · rw [away, if_pos e] at hi; cases hi
      · rw [away, if_neg e] at hi
        rw [get_cons_other _ _ e] at hj
        exact .inl ⟨j, o, cp, hj, hi⟩
    · by_cases e : j = id
      · subst e
        rw [hH] at hj; cases hj
        exact ⟨gone ob, get_cons_same _ _ _, Nat.le_succ _, fun h => absurd h (by simp [gone])⟩
      · exact ⟨o, by rw [get_cons_other _ _ e]; exact hj, Nat.le_refl _, fun _ => ⟨if_neg e, rfl, fun _ => Nat.le_refl _⟩⟩
  refine ⟨⟨fun c hc => by rw [hsize]; exact hr.imm c hc, fun j o hj => ?_, fun j j' o o' c d d' hj hj' hi hi' => ?_, hst.glob hr⟩, hst⟩
  · by_cases e : j = id
    · subst e
      rw [get_cons_same] at hj; cases hj
      exact .inl ⟨hz, by simp [gone], .inr ⟨if_pos rfl, rfl⟩⟩
    · rw [get_cons_other _ _ e] at hj
      exact (hr.obj j o hj).keep (if_neg e) (fun c d e1 _ => ⟨hw c (fun hc => e (hr.inj j id o ob b d cap hj hH (by rw [← hc]; exact e1) hι)), fun h => h⟩) (fun r _ a _ v hv => hv.mono hr hst)
  · have n1 : j ≠ id := fun e => by rw [away, if_pos e] at hi; cases hi
    have n2 : j' ≠ id := fun e => by rw [away, if_pos e] at hi'; cases hi'
    rw [away, if_neg n1] at hi
    rw [away, if_neg n2] at hi'
    rw [get_cons_other _ _ n1] at hj
    rw [get_cons_other _ _ n2] at hj'
    exact hr.inj j j' o o' c d d' hj hj' hi hi'
/-- The string that shares the bytes of a row: the row is given up. -/
theorem opd_unsafeString {T2 : TypeId} {l : List UInt8} {s : ByteArray} (ho : o.op = .call { callee := .builtin .unsafeString, args := #[x, y], argTypes := #[T, T2] }) (hT : P.underlying T = some (.pointer e)) (hi : (P.info? e).map (·.size) = some 1) (hx : aeval E x = some (.ref id g 0 0)) (hy : aeval E y = some (.pv (.int .i64 n)))
    (hH : H.get id = some ob) (hg : ob.g = g) (hsz : ob.sz = 1) (hty : ob.ty = e) (hrows : ob.rows = brows l) (hl : l.length = n) (hn : 0 < n) (hn2 : n ≤ 9223372036854775807) (hs : (⟨l.toArray⟩ : ByteArray) = s) : OpD P N o E H (.pv (.str s)) ((id, gone ob) :: H) := by
  subst hs hl
  intro a w I ι _ _ hr he K Q hk
  have hv := aeval_rel he hx
  obtain ⟨b, cap, e1, e2⟩ := ref_ptr hv hH hg
  have h2 := (aeval_rel he hy).int_inv
  obtain ⟨j, h3, h4⟩ := info_size hi
  have hc : P.cellsOf e = 1 := by simp [Program.cellsOf, h3, h4]
  have hlen : ob.rows.length = l.length := by rw [hrows]; simp [brows]
  obtain ⟨_, _, ⟨b', cap', cs, f1, f2, f3, f4, f5, _, f6⟩ | ⟨f1, _⟩⟩ := (hr.obj id ob hH).cells (by omega)
  · rw [e1] at f1; cases f1
    rw [hsz, Nat.mul_one] at f4
    have hcell : ∀ j x, l[j]? = some x → w.cell? ((⟨b, 0, none⟩ : Addr).add j) = some (.int .u8 x.toNat) := fun j x hj => by
      obtain ⟨v, q1, _, q3⟩ := f6 j [.pv (.int .u8 x.toNat)] (by rw [hrows, brows, List.getElem?_map, hj]; rfl) 0 _ rfl
      rw [hsz, Nat.mul_one, Nat.add_zero, q3.int_inv] at q1
      rw [Addr.add_lit, Nat.zero_add, cell_of_row w b _ cs ob.ty (0, 0) f2]
      exact q1
    have hrun := Lib.run_unsafeString_row (P := P) w T T2 o.type e hT hc b cs.size (by rw [← hty]; simp [World.shape?, f2]) l (fun h0 => by rw [h0] at hn; exact Nat.lt_irrefl _ hn) (by omega) hn2 hcell
    have hw : ∀ c, c ≠ b → (w.freeze ⟨b, 0, none⟩ l.length).heap[c]? = w.heap[c]? := fun c hcb => by
      unfold World.freeze
      split
      · rfl
      · simp only [Array.getElem?_modify]
        rw [if_neg (fun h => hcb h.symm)]
    obtain ⟨k1, k2⟩ := hr.lost (w' := w.freeze ⟨b, 0, none⟩ l.length) hH (by omega) e1 (by unfold World.freeze; split <;> rfl) (by unfold World.freeze; split <;> rfl) (by unfold World.freeze; split <;> rfl) (by unfold World.freeze; split <;> simp) hw
    unfold Oper.wpW
    have : (execOp a.eval o).run P w = .ok (.value (.string ⟨l.toArray⟩)) (w.freeze ⟨b, 0, none⟩ l.length) := by
      rw [hsz] at e2
      simp [execOp, ho, resolve, invoke, builtin, e2, h2, hrun]
    rw [this]
    exact hk _ _ I (away ι id) _ _ ⟨rfl, rfl⟩ (.pv (.str _)) k1 k2
  · rw [e1] at f1; cases f1
end
end Go.Abs
end
section
set_option linter.unusedVariables false
set_option linter.unusedSimpArgs false
set_option maxRecDepth 100000
set_option maxHeartbeats 1000000
namespace Go.Proofs.YtohdipdgnnamlaaGreatDoor
open Go.Abs
/-- A builder (object 2001), its bytes (object 2002). -/
def bAddr (u : Bool) : AV := if u then .ref 2001 0 0 0 else .pv .nilp
def bObT (buf : AV) (u : Bool) : Ob := ⟨0, 2, 124, [[bAddr u, buf]]⟩
def bld (g : Nat) (l : List UInt8) (u : Bool) : Heap := [(2001, bObT (.osl 2002 g 0 l.length) u), (2002, ⟨g, 1, 5, brows l⟩)]
theorem brows_len (l : List UInt8) : (brows l).length = l.length := by simp [brows]
theorem brows_clo (H : Heap) (l : List UInt8) : ∀ r ∈ brows l, ∀ a ∈ r, Clo H a := by
 intro r hr a ha
 obtain ⟨b, _, rfl⟩ := List.mem_map.1 hr
 rw [List.mem_singleton] at ha
 subst ha
 simp
theorem brows_app (l m : List UInt8) : brows l ++ brows m = brows (l ++ m) := by simp [brows]
theorem bOb_cloT {H : Heap} {g n : Nat} {u : Bool} (h1 : (H.get 2001).isSome = true) (h2 : (H.get 2002).isSome = true) : ∀ r ∈ (bObT (.osl 2002 g 0 n) u).rows, ∀ a ∈ r, Clo H a := by
 intro r hr a ha
 simp only [bObT, List.mem_singleton] at hr
 subst hr
 simp only [List.mem_cons, List.not_mem_nil, or_false] at ha
 rcases ha with rfl | rfl
 ·cases u <;> simp [bAddr, h1]
 simp [h2]
/-- copyCheck. -/
theorem copyCheck_c (buf : AV) (u : Bool) (K : Heap) : ACalls Tryz.prog 103 [.ref 2001 0 0 0] ((2001, bObT buf u) :: K) (fun r H' => r = .tup [] ∧ H' = (2001, bObT buf true) :: K) := by
 cases u with
 | false =>
  refine Bd Tryz.func103 rfl Tryz.ntmps103<|Sq<|Rg<|Dd mv'<|Dd nc'<|Dd (fr' fo124_0)<|Dd (l1' Tryz.isAgg121)<|Dd (by exact opd_peq_nil rfl Tryz.underlying121 rfl rfl)<|Zz ?_
  refine Cn (fun hc1 => ?_) fun hc1 => ?_
  ·skip
   refine Rg<|Dd mv'<|Dd mv'<|Dd (by exact opd_to_unsafe (n := 1) rfl Tryz.underlying121 Tryz.underlying234 (by kernel_rfl) rfl rfl rfl (by simp [bObT]))<|Dd (by exact opd_ext rfl rfl Tryz.func162 rfl rfl rfl rfl rfl (ext_same (.ref 2001 0 0 0)))<|Dd (by exact opd_from_unsafe (n := 1) rfl Tryz.underlying234 Tryz.underlying121 (by kernel_rfl) rfl rfl rfl (by simp [bObT]) rfl rfl)<|Dd nc'<|Dd (fr' fo124_0)<|Uu (by exact x_store1 rfl Tryz.sizeOf121 rfl rfl rfl rfl rfl rfl (Nat.le_of_ble_eq_true rfl) rfl rfl)<|Zz ?_
   exact aret0 (.inl rfl) rfl (Fin.get' (H' := (2001, bObT buf true) :: K) (fun j => get_dup 2001 (bObT buf true) (bObT buf false) K j)) ⟨rfl, rfl⟩
  skip
  cases hc1
 | true =>
  refine Bd Tryz.func103 rfl Tryz.ntmps103<|Sq<|Rg<|Dd mv'<|Dd nc'<|Dd (fr' fo124_0)<|Dd (l1' Tryz.isAgg121)<|Dd (by exact opd_peq_ref rfl Tryz.underlying121 rfl rfl rfl rfl)<|Zz ?_
  refine Cn (fun hc1 => ?_) fun hc1 => ?_
  ·skip
   cases hc1
  skip
  refine Sq<|Rg<|Dd mv'<|Dd nc'<|Dd (fr' fo124_0)<|Dd (l1' Tryz.isAgg121)<|Dd mv'<|Dd (by exact opd_pne_same (n := 1) rfl Tryz.underlying121 (by kernel_rfl) rfl rfl rfl rfl)<|Zz ?_
  refine Cn (fun hc2 => ?_) fun hc2 => ?_
  ·skip
   cases hc2
  skip
  refine awp_skip ?_
  exact aret0 (.inl rfl) rfl Fin.refl ⟨rfl, rfl⟩
/-- Heaps with two objects, of which both were written anew. -/
theorem get_two {i j : Nat} {a b a' b' : Ob} {K : Heap} (h : i ≠ j) (k : Nat) : Heap.get ((i, a) :: (j, b) :: K) k = Heap.get ((i, a) :: (j, b) :: (i, a') :: (j, b') :: K) k := by
 simp only [Heap.get]
 cases e1 : Nat.beq i k with
 | true => rfl
 | false => cases e2 : Nat.beq j k <;> simp
theorem zero_u8 : ∀ i, Tryz.prog.info? 5 = some i → i.zero = some (.int .u8 0) := fun i hi => by
 have h : (Tryz.prog.info? 5).map (·.zero) = some (some (.int .u8 0)) := by kernel_rfl
 rw [hi] at h
 exact Option.some.inj h
theorem bld_app (g : Nat) (l m : List UInt8) {n : Nat} (h : m.length = n) : bld (g + 1) (l ++ m) true = [(2001, bObT (.osl 2002 (g + 1) 0 (l.length + n)) true), (2002, ⟨g + 1, 1, 5, brows (l ++ m)⟩)] := by
 subst h
 simp [bld]
theorem writeString_c (g : Nat) (l : List UInt8) (u : Bool) (s : ByteArray) (hl : l.length + s.size < 70368744177664) : ACalls Tryz.prog 63 [.ref 2001 0 0 0, sv s] (bld g l u) (fun r H' => r = .tup [iv (s.size : Int), .pv nilI] ∧ H' = bld (g + 1) (l ++ s.data.toList) true) := by
 refine Bd Tryz.func63 rfl Tryz.ntmps63<|Sq<|Rg<|Dd as'<|Dd as'<|Zz<|Sq<|Rg<|Dd mv'<|Dd (by exact opr_call rfl rfl Tryz.call103 rfl (copyCheck_c _ u _))<|Zz<|Sq<|Rg<|Dd mv'<|Dd mv'<|Dd nc'<|Dd (fr' fo124_1)<|Dd (l1' Tryz.isAgg122)<|Dd mv'<|Dd (by exact x_append_str rfl so122 Tryz.underlying9 ei5 zero_u8 rfl rfl rfl rfl rfl (brows_len l) rfl (by omega) rfl (brows_app l s.data.toList))<|Dd nc'<|Dd (fr' fo124_1)<|Uu (by exact x_store1 rfl Tryz.sizeOf122 rfl rfl rfl rfl rfl rfl (Nat.le_of_ble_eq_true rfl) rfl rfl)<|Zz<|Sq<|Rg<|Dd mv'<|Dd (ls' Tryz.underlying9)<|Dd as'<|Dd as'<|Zz<|awp_ret ?_
 rw [bld_app g l s.data.toList (n := s.size) rfl]
 refine aret2 (H' := [(2001, bObT (.osl 2002 (g + 1) 0 (l.length + s.size)) true), (2002, ⟨g + 1, 1, 5, brows (l ++ s.data.toList)⟩)]) (.inr rfl) rfl (rval_tmp rfl) (rval_tmp rfl) (Fin.get' (fun j => get_two (by decide) j)) ?_
 exact ⟨rfl, rfl⟩
def bEnd (g : Nat) (l : List UInt8) (u : Bool) : Heap := [(2002, ⟨g + 1, 1, 5, []⟩), (2001, bObT (.osl 2002 g 0 l.length) u)]
theorem get_mid {i j : Nat} {a b a' : Ob} {K : Heap} (h : i ≠ j) (k : Nat) : Heap.get ((i, a) :: (j, b) :: K) k = Heap.get ((i, a) :: (j, b) :: (i, a') :: K) k := by
 simp only [Heap.get]
 cases e1 : Nat.beq i k with
 | true => rfl
 | false => cases e2 : Nat.beq j k <;> simp
/-- The text of a builder; its bytes are given up. -/
theorem str_c (g : Nat) (l : List UInt8) (u : Bool) (hl : l.length < 70368744177664) : ACalls Tryz.prog 65 [.ref 2001 0 0 0] (bld g l u) (fun r H' => r = sv ⟨l.toArray⟩ ∧ H' = bEnd g l u) := by
 by_cases h0 : l = []
 ·subst h0
  refine Bd Tryz.func65 rfl Tryz.ntmps65<|Sq<|Rg<|Dd as'<|Zz<|Sq ?_
  refine awp_drawc follows ?_
  refine Cq mv'<|Cq nc'<|Cq (fr' fo124_1)<|Cq (l1' Tryz.isAgg122)<|Cq (by exact opd_sliceData0 rfl Tryz.underlying170 rfl rfl rfl)<|Cq mv'<|Cq nc'<|Cq (fr' fo124_1)<|Cq (l1' Tryz.isAgg122)<|Cq (by exact opd_len_osl rfl Tryz.underlying122 rfl rfl rfl)<|Cq (by exact opd_unsafeString0 rfl rfl rfl)<|Cq as' ?_
  refine dc_nil ⟨by kernel_rfl, ?_⟩
  refine awp_ret ?_
  refine aret1 (H' := (bEnd g [] u)) (.inr rfl) rfl (rval_tmp rfl) (Fin.trans (Fin.deadO (id := 2002) (k := g + 1) (ob := ⟨g, 1, 5, brows []⟩) rfl (Nat.lt_succ_self g) Nat.zero_lt_one rfl rfl) (Fin.get' (fun j => get_mid (by decide) j))) ?_
  exact ⟨rfl, rfl⟩
 have hpos : 0 < l.length := List.length_pos_iff.2 h0
 refine Bd Tryz.func65 rfl Tryz.ntmps65<|Sq<|Rg<|Dd as'<|Zz<|Sq ?_
 refine awp_drawc follows ?_
 refine Cr [2001] (fun _ _ => mv')<|Cr [2001] (fun H1 hH => by exact opd_nilCheck_ref rfl rfl ((hH _ rfl).trans rfl) rfl)<|Cr [2001] (fun _ h => fh fo124_1 h)<|Cr [2001] (fun _ h => lh Tryz.isAgg122 h)<|Cr [2002] (fun H1 hH => by exact opd_sliceData rfl rfl ((hH _ rfl).trans rfl) rfl hpos)<|Cr [2001] (fun _ _ => mv')<|Cr [2001] (fun H1 hH => by exact opd_nilCheck_ref rfl rfl ((hH _ rfl).trans rfl) rfl)<|Cr [2001] (fun _ h => fh fo124_1 h)<|Cr [2001] (fun _ h => lh Tryz.isAgg122 h)<|Cr [2002] (fun H1 hH => by exact opd_len_osl rfl Tryz.underlying122 rfl ((hH _ rfl).trans rfl) rfl)<|Cp [2001, 2002] (fun H1 hH => by exact opd_unsafeString (l := l) rfl Tryz.underlying170 (by kernel_rfl) rfl rfl ((hH _ rfl).trans rfl) rfl rfl rfl rfl rfl hpos (by omega) rfl)<|Cr [] (fun _ _ => as') ?_
 refine dc_nil ⟨by kernel_rfl, ?_⟩
 refine awp_ret ?_
 refine aret1 (H' := (bEnd g l u)) (.inr rfl) rfl (rval_tmp rfl) (Fin.get' (fun j => get_mid (by decide) j)) ?_
 exact ⟨rfl, rfl⟩
/-- A fresh builder. -/
def bFresh : Heap := [(2001, bObT (.pv .nils) false)]
end Go.Proofs.YtohdipdgnnamlaaGreatDoor
end
section
set_option linter.unusedVariables false
set_option linter.unusedSimpArgs false
set_option maxRecDepth 100000
set_option maxHeartbeats 1000000
namespace Go.Proofs.YtohdipdgnnamlaaGreatDoor
open Go.Abs

def bAt (s : ByteArray) (k : Nat) : UInt8 := (s.data.toList[k]?).getD 0
def gEsc (b : UInt8) : List UInt8 := if b = 10 then [92, 110] else if b = 34 ∨ b = 92 then [92, b] else [b]
def gQuote (l : List UInt8) : List UInt8 := 34 :: (l.flatMap gEsc ++ [34])
/-- A fresh builder, its bytes an object of its own. -/
theorem Ent.bld0 {E E' : Env} (hE : NzE E [(2002, ⟨0, 1, 5, []⟩), (2001, bObT (.osl 2002 0 0 0) false)] 2002 E') : Ent [] E bFresh E' (bld 0 [] false) := by
  refine (Ent.nz (G0 := []) (H := bFresh) (H' := [(2001, bObT (.osl 2002 0 0 0) false)]) 2002 1 5 rfl rfl hE ⟨⟨bObT (.pv .nils) false, rfl, rfl, rfl, rfl, .inr ⟨_, _, rfl, rfl, ⟨.same (by simp [bAddr]), ⟨.own, trivial⟩⟩⟩⟩, trivial⟩ trivial).trans ?_
  exact Ent.get (fun _ => rfl) (fun j => get_swap (by decide) j)
def qPre (s : ByteArray) (k : Nat) : List UInt8 := 34 :: (s.data.toList.take k).flatMap gEsc
/-- Texts joined. -/
def gJoinS (sep : List UInt8) : List (List UInt8) → List UInt8
  | [] => []
  | x :: l => x ++ l.flatMap (fun y => sep ++ y)
def bs (l : List ByteArray) : List (List UInt8) := l.map fun s => s.data.toList
def sizes (l : List ByteArray) : Nat := (l.map ByteArray.size).sum
def jPre (sep x : ByteArray) (l : List ByteArray) (k : Nat) : List UInt8 := x.data.toList ++ (bs (l.take k)).flatMap (fun y => sep.data.toList ++ y)
end Go.Proofs.YtohdipdgnnamlaaGreatDoor
end
section
set_option linter.unusedVariables false
set_option linter.unusedSimpArgs false
set_option maxRecDepth 100000
set_option maxHeartbeats 1000000
namespace Go.Proofs.YtohdipdgnnamlaaGreatDoor
open Go.Abs
def wRows (l : List ByteArray) : List (List AV) := l.map fun s => [.pv (.str s)]
theorem wRows_len (l : List ByteArray) : (wRows l).length = l.length := List.length_map _
theorem wRows_app (l : List ByteArray) (s : ByteArray) : wRows l ++ [[.pv (.str s)]] = wRows (l ++ [s]) := by rw [wRows, wRows, List.map_append]; rfl
theorem wRows_clo (H : Heap) (l : List ByteArray) : ∀ r ∈ wRows l, ∀ a ∈ r, Clo H a := by
  intro r hr a ha
  obtain ⟨b, _, rfl⟩ := List.mem_map.1 hr
  rw [List.mem_singleton] at ha
  subst ha
  simp
/-- A tag as text. -/
def gLine (t : GTag) : ByteArray := t.key ++ ⟨#[61]⟩ ++ ⟨(gQuote t.val.data.toList).toArray⟩
def wK (L : List ByteArray) : Heap := [(903, ⟨L.length, 1, 9, wRows L⟩), (4, bx 1 27 [.osl 903 L.length 0 L.length])]
def gTagS (l : List GTag) : ByteArray := ⟨(gJoinS [32] (bs (l.map gLine))).toArray⟩
/-- The text of tags. -/
def gText (l : List GTag) : ByteArray × Int := if gTags l then (if 20000 < (gTagS l).size then (sNil, 2) else (gTagS l, 0)) else (sNil, 1)
end Go.Proofs.YtohdipdgnnamlaaGreatDoor
end
section
set_option linter.unusedVariables false
set_option linter.unusedSimpArgs false
set_option maxRecDepth 100000
set_option maxHeartbeats 1000000
namespace Go.Proofs.YtohdipdgnnamlaaGreatDoor
open Go.Abs

/-- What an escaped byte stands for. -/
def gUnesc (c : UInt8) : Option UInt8 := if c = 92 then some 92 else if c = 34 then some 34 else if c = 110 then some 10 else none
/-- A string behind its opening quote: its bytes, and how many bytes it takes with the closing quote. -/
def unqL : List UInt8 → Option (List UInt8 × Nat)
  | [] => none
  | [c] => if c = 34 then some ([], 1) else none
  | c :: e :: r => if c = 34 then some ([], 1) else if c = 10 then none else if c = 92 then (gUnesc e).bind fun b => (unqL r).map fun p => (b :: p.1, p.2 + 2) else (unqL (e :: r)).map fun p => (c :: p.1, p.2 + 1)
def gUnq (s : ByteArray) : ByteArray × Int := match unqL (s.data.toList.drop 1) with
  | some (d, n) => (⟨d.toArray⟩, ((n + 1 : Nat) : Int))
  | none => (sNil, 0)
/-- The whole, from a place inside. -/
def unqAt (o : Option (List UInt8 × Nat)) (w : List UInt8) (i : Nat) : ByteArray × Int := match o with
  | some (d, n) => (⟨(w ++ d).toArray⟩, ((i + n : Nat) : Int))
  | none => (sNil, 0)
end Go.Proofs.YtohdipdgnnamlaaGreatDoor
end
section
set_option linter.unusedVariables false
set_option linter.unusedSimpArgs false
namespace Go.Abs
theorem LR_clo {H : Heap} {x : Go.Loop} {E0 : Env} (h : ∀ p ∈ E0, Clo H p.2) : ∀ r ∈ (LR x E0).rows, ∀ a ∈ r, Clo H a := by
  intro r hr a ha
  simp only [LR, List.mem_cons, List.not_mem_nil, or_false] at hr
  rcases hr with rfl | rfl
  · rw [List.mem_singleton] at ha
    subst ha
    simp
  · obtain ⟨p, hp, rfl⟩ := List.mem_map.1 ha
    exact h p hp
def KE (A B : Heap) : List Nat → Prop
  | [] => True
  | j :: r => A.get j = B.get j ∧ KE A B r
theorem KE.spec {A B : Heap} : ∀ {l : List Nat}, KE A B l → ∀ j ∈ l, A.get j = B.get j
  | i :: r, h, j, hj => by
    rcases List.mem_cons.1 hj with rfl | hj
    · exact h.1
    · exact KE.spec h.2 j hj
theorem get_not {D : Heap} {j : Nat} (h : j ∉ D.map (·.1)) : D.get j = none := by
  cases hg : D.get j with
  | none => rfl
  | some o => exact absurd (List.mem_map.2 ⟨_, mem_of_hget hg, rfl⟩) h
/-- Two heaps of which the fronts hold the same. -/
theorem get_same (A B : Heap) {K : Heap} (h : KE A B (A.map (·.1) ++ B.map (·.1))) (j : Nat) : Heap.get (A ++ K) j = Heap.get (B ++ K) j := by
  rw [hget_app, hget_app]
  have e : A.get j = B.get j := by
    by_cases hj : j ∈ A.map (·.1) ++ B.map (·.1)
    · exact h.spec j hj
    · rw [List.mem_append, not_or] at hj
      rw [get_not hj.1, get_not hj.2]
  rw [e]
end Go.Abs
end
section
set_option linter.unusedVariables false
set_option linter.unusedSimpArgs false
set_option maxRecDepth 100000
set_option maxHeartbeats 1000000
namespace Go.Proofs.YtohdipdgnnamlaaGreatDoor
open Go.Abs

/-- The class of the byte at a place. -/
def atC (s : ByteArray) (i : Nat) : Int := if i < s.size then cls (byteAt s i) else 0
def tS (s : ByteArray) : Ob := bx 1 9 [sv s]
def tC : Ob := bx 256 200 clsAgg
/-! ### what is yielded -/
def scan (p : Nat → Bool) : Nat → Nat → Nat
  | 0, i => i
  | n + 1, i => if p i then scan p n (i + 1) else i
def pLine (s : ByteArray) (j : Nat) : Bool := decide (j < s.size) && !decide (byteAt s j = 10)
def pWord (s : ByteArray) (j : Nat) : Bool := decide (atC s j = 3) || decide (atC s j = 4) || decide (atC s j = 5)
def pDig (s : ByteArray) (j : Nat) : Bool := decide (atC s j = 4)
def lineEnd (s : ByteArray) (i : Nat) : Nat := scan (pLine s) (s.size - i) i
def wordEnd (s : ByteArray) (i : Nat) : Nat := scan (pWord s) (s.size - i) i
def digEnd (s : ByteArray) (i : Nat) : Nat := scan (pDig s) (s.size - i) i
/-- A token, or an error. -/
structure GFound where
  kind : Int
  text : ByteArray
  pos : Nat
  err : Int
def encFound (f : GFound) : List PV := [.int .i64 f.kind, .str f.text, .int .i64 f.pos, .int .i64 f.err]
def noTok (i : Nat) : GFound := ⟨0, sNil, i, 3⟩
def gWordT (s : ByteArray) (i j : Nat) : GFound := ⟨1, s.extract i j, i, if 24 < j - i then 2 else 0⟩
def gNumT (s : ByteArray) (i j : Nat) : GFound := ⟨2, s.extract i j, i, if decide (7 < j - i) || decide (atC s j = 3) || decide (atC s j = 5) then 4 else 0⟩
def gStr (s : ByteArray) (i : Nat) : GFound × Nat := if 0 < (gUnq (s.extract i s.size)).2 then (⟨3, (gUnq (s.extract i s.size)).1, i, 0⟩, i + (gUnq (s.extract i s.size)).2.toNat) else (noTok i, i)
/-- What begins at a place, and where it goes on. -/
def gStep (s : ByteArray) (i : Nat) : Option GFound × Nat :=
  if atC s i = 1 then (none, i + 1) else if atC s i = 2 then (none, lineEnd s i) else if atC s i = 3 then (some (gWordT s i (wordEnd s i)), wordEnd s i)
  else if atC s i = 4 then (some (gNumT s i (digEnd s i)), digEnd s i) else if atC s i = 7 then (some (gStr s i).1, (gStr s i).2)
  else if atC s i = 6 then (some ⟨4, s.extract i (i + 1), i, 0⟩, i + 1) else (some (noTok i), i)
def gToks (s : ByteArray) : Nat → Nat → List GFound
  | 0, _ => []
  | n + 1, i => if i < s.size then (match gStep s i with
    | (none, j) => gToks s n j
    | (some f, j) => f :: (if f.err = 0 then gToks s n j else [])) else []
end Go.Proofs.YtohdipdgnnamlaaGreatDoor
end
section
set_option linter.unusedVariables false
set_option linter.unusedSimpArgs false
set_option maxRecDepth 100000
set_option maxHeartbeats 1000000
namespace Go.Proofs.YtohdipdgnnamlaaGreatDoor
open Go.Abs
def encTok (f : GFound) : List PV := [.int .i64 f.kind, .str f.text, .int .i64 f.pos]
def slToks (l : List GFound) : PV := .sl (l.map encTok)
def tkRows (l : List GFound) : List (List AV) := l.map fun f => (encTok f).map AV.pv
def lexRun : List GFound → List GFound → List GFound × Int × Int
  | acc, [] => (acc, 0, 0)
  | acc, f :: r => if f.err ≠ 0 then ([], f.err, f.pos) else if acc.length = 5000 then ([], 2, f.pos) else lexRun (acc ++ [f]) r
/-- The tokens of a text, or an error and its place. -/
def gLex (s : ByteArray) : List GFound × Int × Int := if 20000 < s.size then ([], 2, -1) else lexRun [] (gToks s (s.size + 1) 0)
def okAt (ds : List GFound) (k : Nat) : Bool := match ds[k]? with
  | some f => decide (f.err = 0) && !decide (k = 5000)
  | none => true
/-- What a range over the tokens keeps of the frame. -/
def lexE : Env := [(2, .ref 2 0 0 0), (3, .ref 3 0 0 0), (4, .ref 4 0 0 0), (5, .ref 5 0 0 0)]
end Go.Proofs.YtohdipdgnnamlaaGreatDoor
end
section
set_option linter.unusedVariables false
set_option linter.unusedSimpArgs false
set_option maxRecDepth 100000
set_option maxHeartbeats 1000000
namespace Go.Proofs.YtohdipdgnnamlaaGreatDoor
open Go.Abs
def cN : Ob := bx 1 3 [iv 3]
/-- The k-th piece. -/
def piece (l : List GFound) (k : Nat) : List GFound := (l.drop (3 * k)).take 3
/-- The tags that tokens spell, three by three. -/
def tagsOf : List GFound → Option (List GTag)
  | [] => some []
  | a :: _ :: c :: r => (tagsOf r).map fun l => ⟨a.text, c.text⟩ :: l
  | _ => none
/-- The tags of a text. -/
def gParse (s : ByteArray) : List GTag × Int := if 20000 < s.size then ([], 2) else match tagsOf (gLex s).1 with
  | none => ([], 5)
  | some l => if (gLex s).2.1 ≠ 0 ∨ (gText l).2 ≠ 0 ∨ (gText l).1 ≠ s then ([], 5) else (l, 0)
def tagAt (l : List GFound) (k : Nat) : GTag := ⟨((l[3 * k]?).map GFound.text).getD sNil, ((l[3 * k + 2]?).map GFound.text).getD sNil⟩
/-- The first tags. -/
def firstTags (l : List GFound) (k : Nat) : List GTag := (List.range k).map (tagAt l)
def tgRowsT (l : List GTag) : List (List AV) := l.map fun t => (encTag t).map AV.pv
def parE : Env := [(2, .ref 2 0 0 0), (3, .ref 3 0 0 0), (7, .ref 7 0 0 0)]
end Go.Proofs.YtohdipdgnnamlaaGreatDoor
end
