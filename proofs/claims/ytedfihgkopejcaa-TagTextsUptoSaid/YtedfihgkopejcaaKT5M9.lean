/-
  TAGS MERGED, plain: tag.Merge by lookups. Conditions: none.
  THE LAW planispherelaw09.TagMerges: it answers true. Conditions: sizes below 2^36.
  THE TEXT OF TAGS IS LEXED BACK, plain. Conditions: none.
  THE LAW planispherelaw09.TagTexts: it answers true. Conditions: sizes below 2^36.
-/
import Derived.Test.YtedfihgkopejcaaKT5M8
section
set_option linter.unusedVariables false
set_option linter.unusedSimpArgs false
namespace Go.Proofs.Ytedfihgkopejcaa
open Go.Abs
/-! ### names in order -/
/-! ### what the three sides have for a key -/
/-- The keys of three sides, in order. -/
def keys3 (b o t : List GTag) : List ByteArray := sortS ((all3 b o t).map M3.k)
def at3 (b o t : List GTag) (k : ByteArray) : M3 := ⟨k, vOf b k, vOf o k, vOf t k⟩
/-! ### the merge -/
def neB (p : M3) : Bool := !decide ((m1 p).1 = ⟨#[]⟩)
def mv (b o t : List GTag) (k : ByteArray) : ByteArray := (m1 (at3 b o t k)).1
def mc (b o t : List GTag) (k : ByteArray) : Bool := (m1 (at3 b o t k)).2
end Go.Proofs.Ytedfihgkopejcaa
end
section
set_option linter.unusedVariables false
set_option linter.unusedSimpArgs false
set_option maxRecDepth 100000
namespace Go.Proofs.Ytedfihgkopejcaa
open Go.Abs
theorem valid9v {l : List GTag} {v : Bool} (h : gTags l = v) (H : Heap) (hl : okTags l) : ACalls Try.prog 23 [.pv (slTags l)] H (fun r H' => r = bv v ∧ H' = H) := by
  have := tagValid_c l H hl
  rwa [h] at this
theorem encTs_rl (ls : List (List GTag)) : ∀ r ∈ ls.map encTs, r.length = 1 := fun r hr => by
  obtain ⟨l, _, rfl⟩ := List.mem_map.1 hr
  rfl
end Go.Proofs.Ytedfihgkopejcaa
end
section
set_option linter.unusedVariables false
set_option linter.unusedSimpArgs false
set_option maxRecDepth 100000
namespace Go.Proofs.Ytedfihgkopejcaa
open Go.Abs
theorem size_list (s : ByteArray) : s.data.toList.length = s.size := by simp
theorem ba_ext {a b : ByteArray} (h : a.data.toList = b.data.toList) : a = b := by
  cases a with | mk a => cases b with | mk b => cases a; cases b; simp at h; rw [h]
theorem extract_list (s : ByteArray) (i j : Nat) : (s.extract i j).data.toList = (s.data.toList.drop i).take (j - i) := by
  rw [ByteArray.data_extract, Array.toList_extract, List.extract_eq_take_drop]
theorem at_of {s : ByteArray} {i : Nat} {c : UInt8} {r : List UInt8} (h : s.data.toList.drop i = c :: r) : i < s.size ∧ byteAt s i = (c.toNat : Int) ∧ s.data.toList.drop (i + 1) = r := by
  obtain ⟨h1, h2⟩ := head_of h
  refine ⟨by rw [← size_list]; exact (List.getElem?_eq_some_iff.1 h1).1, by rw [byteAt, h1]; rfl, h2⟩
theorem atC_of {s : ByteArray} {i : Nat} {c : UInt8} {r : List UInt8} (h : s.data.toList.drop i = c :: r) : atC s i = cls (c.toNat : Int) := by
  obtain ⟨h1, h2, _⟩ := at_of h
  rw [atC, if_pos h1, h2]
theorem atC_end {s : ByteArray} {i : Nat} (h : s.data.toList.drop i = []) : atC s i = 0 := by
  have := List.drop_eq_nil_iff.1 h
  rw [size_list] at this
  rw [atC, if_neg (by omega)]
theorem drop_app {s : ByteArray} {i : Nat} {w r : List UInt8} (h : s.data.toList.drop i = w ++ r) : s.data.toList.drop (i + w.length) = r := by
  rw [← List.drop_drop, h, List.drop_left]
theorem drop_at {s : ByteArray} {i k : Nat} {w r : List UInt8} {c : UInt8} (h : s.data.toList.drop i = w ++ r) (hk : w[k]? = some c) : s.data.toList.drop (i + k) = c :: ((w.drop (k + 1)) ++ r) := by
  have hlt := (List.getElem?_eq_some_iff.1 hk).1
  have e : w = w.take k ++ c :: w.drop (k + 1) := by
    conv => lhs; rw [← List.take_append_drop k w]
    rw [List.drop_eq_getElem_cons hlt, (List.getElem?_eq_some_iff.1 hk).2]
  have h2 : s.data.toList.drop i = w.take k ++ (c :: w.drop (k + 1) ++ r) := by
    rw [h]
    exact (congrArg (· ++ r) e).trans (List.append_assoc _ _ _)
  have h3 := drop_app h2
  rw [List.length_take, Nat.min_eq_left (by omega)] at h3
  exact h3
theorem extract_app {s : ByteArray} {i : Nat} {w r : List UInt8} (h : s.data.toList.drop i = w ++ r) : s.extract i (i + w.length) = ⟨w.toArray⟩ := by
  refine ba_ext ?_
  rw [extract_list, h, Nat.add_sub_cancel_left, List.take_left]
theorem extract_end {s : ByteArray} {i : Nat} : (s.extract i s.size).data.toList = s.data.toList.drop i := by
  rw [extract_list]
  exact List.take_of_length_le (by rw [List.length_drop, size_list]; exact Nat.le_refl _)
/-! ### one word -/
theorem name_chars {k : ByteArray} (h : gName k = true) : 0 < k.size ∧ k.size ≤ 24 ∧ cls (byteAt k 0) = 3 ∧ ∀ j, j < k.size → (cls (byteAt k j) = 3 ∨ cls (byteAt k j) = 4 ∨ cls (byteAt k j) = 5) := by
  rw [gName, Bool.and_eq_true, Bool.and_eq_true, Bool.not_eq_true', Bool.not_eq_true', List.any_eq_false, decide_eq_false_iff_not, decide_eq_true_eq] at h
  obtain ⟨h1, h2, h3⟩ := h
  have hpos : 0 < k.size := by
    rcases Nat.eq_zero_or_pos k.size with e | e
    · refine absurd (ba_ext ?_) h2
      rw [← size_list] at e
      rw [List.length_eq_zero_iff.1 e]
    · exact e
  have hb : ∀ j, j < k.size → badC k j = false := fun j hj => by
    have := h1 j (List.mem_range.2 hj)
    simpa using this
  refine ⟨hpos, by omega, ?_, fun j hj => ?_⟩
  · have := hb 0 hpos
    simpa [badC] using this
  · have := hb j hj
    rw [badC] at this
    by_cases e1 : cls (byteAt k j) = 3
    · exact .inl e1
    · by_cases e2 : cls (byteAt k j) = 4
      · exact .inr (.inl e2)
      · by_cases e3 : cls (byteAt k j) = 5
        · exact .inr (.inr e3)
        · simp [e1, e2, e3] at this
theorem list_at {k : ByteArray} {j : Nat} (h : j < k.size) : ∃ c, k.data.toList[j]? = some c ∧ byteAt k j = (c.toNat : Int) := by
  rw [← size_list] at h
  exact ⟨_, List.getElem?_eq_getElem h, by rw [byteAt, List.getElem?_eq_getElem h]; rfl⟩
theorem step_word {s k : ByteArray} {i : Nat} {r : List UInt8} (h : s.data.toList.drop i = k.data.toList ++ r) (hk : gName k = true) (hr : ∀ c r', r = c :: r' → cls (c.toNat : Int) ≠ 3 ∧ cls (c.toNat : Int) ≠ 4 ∧ cls (c.toNat : Int) ≠ 5) :
    gStep s i = (some ⟨1, k, i, 0⟩, i + k.size) := by
  obtain ⟨hpos, hle, h0, hall⟩ := name_chars hk
  have hat : ∀ j, j < k.size → atC s (i + j) = cls (byteAt k j) := fun j hj => by
    obtain ⟨c, hc, e⟩ := list_at hj
    rw [atC_of (drop_at h hc), e]
  have hlen : i + k.size ≤ s.size := by
    have := congrArg List.length h
    rw [List.length_drop, List.length_append, size_list, size_list] at this
    omega
  have ha0 : atC s i = 3 := by
    have := hat 0 hpos
    rw [Nat.add_zero, h0] at this
    exact this
  have hend : wordEnd s i = i + k.size := by
    refine scan_eq (pWord s) (by omega) (by omega) (fun j h1 h2 => ?_) ?_
    · have := hat (j - i) (by omega)
      rw [show i + (j - i) = j by omega] at this
      rw [pWord, this]
      rcases hall (j - i) (by omega) with e | e | e <;> rw [e] <;> rfl
    · left
      have hd := drop_app h
      rw [size_list] at hd
      cases r with
      | nil => rw [pWord, atC_end hd]; rfl
      | cons c r' =>
        obtain ⟨e1, e2, e3⟩ := hr c r' rfl
        rw [pWord, atC_of hd, decide_eq_false e1, decide_eq_false e2, decide_eq_false e3]; rfl
  have hex := extract_app h
  rw [size_list] at hex
  have hkk : (⟨k.data.toList.toArray⟩ : ByteArray) = k := ba_ext (by simp)
  rw [gStep, if_neg (by rw [ha0]; decide), if_neg (by rw [ha0]; decide), if_pos ha0, hend, gWordT, hex, hkk, if_neg (by omega)]
theorem step_eq {s : ByteArray} {i : Nat} {r : List UInt8} (h : s.data.toList.drop i = 61 :: r) : ∃ x, gStep s i = (some ⟨4, x, i, 0⟩, i + 1) := by
  have ha : atC s i = 6 := by rw [atC_of h]; rfl
  exact ⟨s.extract i (i + 1), by rw [gStep, if_neg (by rw [ha]; decide), if_neg (by rw [ha]; decide), if_neg (by rw [ha]; decide), if_neg (by rw [ha]; decide), if_neg (by rw [ha]; decide), if_pos ha]⟩
theorem step_sp {s : ByteArray} {i : Nat} {r : List UInt8} (h : s.data.toList.drop i = 32 :: r) : gStep s i = (none, i + 1) := by
  have ha : atC s i = 1 := by rw [atC_of h]; rfl
  rw [gStep, if_pos ha]
theorem unqL_esc : ∀ (v r : List UInt8), unqL (v.flatMap gEsc ++ 34 :: r) = some (v, (v.flatMap gEsc).length + 1)
  | [], r => unqL_quote
  | b :: v, r => by
    have ih := unqL_esc v r
    rw [List.flatMap_cons, List.append_assoc, List.length_append]
    by_cases h1 : b = 10
    · have e : gEsc b = [92, 110] := by rw [gEsc, if_pos h1]
      rw [e]
      show unqL (92 :: 110 :: (v.flatMap gEsc ++ 34 :: r)) = _
      rw [unqL_bs, ih, h1]
      show some (10 :: v, _) = some (10 :: v, _)
      congr 2
      show (v.flatMap gEsc).length + 1 + 2 = 2 + _ + 1
      omega
    · by_cases h2 : b = 34 ∨ b = 92
      · have e : gEsc b = [92, b] := by rw [gEsc, if_neg h1, if_pos h2]
        have hu : gUnesc b = some b := by
          rcases h2 with e | e <;> subst e <;> rfl
        rw [e]
        show unqL (92 :: b :: (v.flatMap gEsc ++ 34 :: r)) = _
        rw [unqL_bs, ih, hu]
        show some (b :: v, _) = some (b :: v, _)
        congr 2
        show (v.flatMap gEsc).length + 1 + 2 = 2 + _ + 1
        omega
      · have e : gEsc b = [b] := by rw [gEsc, if_neg h1, if_neg h2]
        have h3 : b ≠ 34 ∧ b ≠ 92 := ⟨fun e => h2 (.inl e), fun e => h2 (.inr e)⟩
        rw [e]
        show unqL (b :: (v.flatMap gEsc ++ 34 :: r)) = _
        rw [unqL_other h3.1 h1 h3.2, ih]
        show some (b :: v, _) = some (b :: v, _)
        congr 2
        show (v.flatMap gEsc).length + 1 + 1 = 1 + _ + 1
        omega
theorem step_str {s v : ByteArray} {i : Nat} {r : List UInt8} (h : s.data.toList.drop i = gQuote v.data.toList ++ r) : gStep s i = (some ⟨3, v, i, 0⟩, i + (gQuote v.data.toList).length) := by
  have h' : s.data.toList.drop i = 34 :: (v.data.toList.flatMap gEsc ++ 34 :: r) := by rw [h, gQuote]; simp
  have ha : atC s i = 7 := by rw [atC_of h']; rfl
  have hu : gUnq (s.extract i s.size) = (v, (((v.data.toList.flatMap gEsc).length + 1 + 1 : Nat) : Int)) := by
    rw [gUnq, extract_end, h', List.drop_succ_cons, List.drop_zero, unqL_esc]
  have hs : gStr s i = (⟨3, v, i, 0⟩, i + (gQuote v.data.toList).length) := by
    rw [gStr, hu, if_pos (by show (0 : Int) < ((_ : Nat) : Int); omega)]
    congr 1
    show i + _ = i + _
    congr 1
    rw [Int.toNat_natCast, gQuote, List.length_cons, List.length_append, List.length_singleton]
  rw [gStep, if_neg (by rw [ha]; decide), if_neg (by rw [ha]; decide), if_neg (by rw [ha]; decide), if_neg (by rw [ha]; decide), if_pos ha, hs]
/-! ### the text -/
def lineL (t : GTag) : List UInt8 := t.key.data.toList ++ 61 :: gQuote t.val.data.toList
theorem line_list (t : GTag) : (gLine t).data.toList = lineL t := by
  rw [gLine, lineL]
  simp
def moreL (l : List GTag) : List UInt8 := l.flatMap fun t => 32 :: lineL t
/-- What has been read: tags, one by one, without an error. -/
def Reads (T : List GFound) (l : List GTag) : Prop := tagsOf T = some l ∧ (∀ f, f ∈ T → f.err = 0) ∧ T.length = 3 * l.length
theorem Reads.cons {T : List GFound} {l : List GTag} {a b c : GFound} (h : Reads T l) (ha : a.err = 0) (hb : b.err = 0) (hc : c.err = 0) : Reads (a :: b :: c :: T) (⟨a.text, c.text⟩ :: l) := by
  obtain ⟨h1, h2, h3⟩ := h
  refine ⟨by rw [tagsOf, h1]; rfl, fun f hf => ?_, by rw [List.length_cons, List.length_cons, List.length_cons, List.length_cons, h3]; omega⟩
  rcases List.mem_cons.1 hf with rfl | hf
  · exact ha
  · rcases List.mem_cons.1 hf with rfl | hf
    · exact hb
    · rcases List.mem_cons.1 hf with rfl | hf
      · exact hc
      · exact h2 f hf
theorem toks_line {s : ByteArray} {t : GTag} {i n : Nat} {r : List UInt8} (h : s.data.toList.drop i = lineL t ++ r) (hk : gName t.key = true) :
    ∃ x, gToks s (n + 3) i = ⟨1, t.key, i, 0⟩ :: ⟨4, x, i + t.key.size, 0⟩ :: ⟨3, t.val, i + t.key.size + 1, 0⟩ :: gToks s n (i + (lineL t).length) := by
  have h1 : s.data.toList.drop i = t.key.data.toList ++ (61 :: (gQuote t.val.data.toList ++ r)) := by rw [h, lineL]; simp
  have hpos := (name_chars hk).1
  have e1 := step_word h1 hk (fun c r' e => by cases e; exact ⟨by decide, by decide, by decide⟩)
  have h2 := drop_app h1
  rw [size_list] at h2
  obtain ⟨x, e2⟩ := step_eq h2
  obtain ⟨l2, _, h3⟩ := at_of h2
  have e3 := step_str h3
  have l3 : i + t.key.size + 1 < s.size := by
    have h3' : s.data.toList.drop (i + t.key.size + 1) = 34 :: (t.val.data.toList.flatMap gEsc ++ [34] ++ r) := by rw [h3, gQuote]; simp
    exact (at_of h3').1
  have hl : i + t.key.size + 1 + (gQuote t.val.data.toList).length = i + (lineL t).length := by
    rw [lineL, List.length_append, List.length_cons, size_list]; omega
  refine ⟨x, ?_⟩
  rw [gToks, if_pos (by omega), e1]
  show _ :: (if (0 : Int) = 0 then gToks s (n + 2) (i + t.key.size) else []) = _
  rw [if_pos rfl, gToks, if_pos l2, e2]
  show _ :: _ :: (if (0 : Int) = 0 then gToks s (n + 1) (i + t.key.size + 1) else []) = _
  rw [if_pos rfl, gToks, if_pos l3, e3]
  show _ :: _ :: _ :: (if (0 : Int) = 0 then gToks s n _ else []) = _
  rw [if_pos rfl, hl]
theorem line_pos (t : GTag) : 3 ≤ (lineL t).length := by
  rw [lineL, List.length_append, List.length_cons, gQuote, List.length_cons, List.length_append, List.length_singleton]
  omega
theorem toks_more {s : ByteArray} : ∀ (l : List GTag) (i n : Nat), (∀ t, t ∈ l → gName t.key = true) → s.data.toList.drop i = moreL l → (moreL l).length ≤ n → Reads (gToks s n i) l
  | [], i, n, _, h, _ => by
    have hge : ¬ i < s.size := by
      have := List.drop_eq_nil_iff.1 h
      rw [size_list] at this
      omega
    have e : gToks s n i = [] := by
      cases n with
      | zero => rfl
      | succ n => rw [gToks, if_neg hge]
    rw [e]
    exact ⟨rfl, (by intro f hf; cases hf), rfl⟩
  | t :: l, i, n, hk, h, hn => by
    have hm : moreL (t :: l) = 32 :: (lineL t ++ moreL l) := by rw [moreL, List.flatMap_cons]; rfl
    rw [hm] at h hn
    obtain ⟨l1, _, h2⟩ := at_of h
    have hp := line_pos t
    rw [List.length_cons, List.length_append] at hn
    obtain ⟨m, rfl⟩ : ∃ m, n = m + 3 + 1 := ⟨n - 4, by omega⟩
    obtain ⟨x, e⟩ := toks_line (n := m) h2 (hk t List.mem_cons_self)
    have h3 := drop_app h2
    have ih := toks_more l _ m (fun t ht => hk t (List.mem_cons_of_mem _ ht)) h3 (by omega)
    have e1 : gToks s (m + 3 + 1) i = gToks s (m + 3) (i + 1) := by rw [gToks, if_pos l1, step_sp h]
    rw [e1, e]
    exact Reads.cons ih rfl rfl rfl
theorem tagS_list (t : GTag) (l : List GTag) : (gTagS (t :: l)).data.toList = lineL t ++ moreL l := by
  show gJoin [32] (bs ((t :: l).map gLine)) = _
  rw [bs, List.map_map, List.map_cons, gJoin]
  show (gLine t).data.toList ++ _ = _
  rw [line_list, moreL, List.flatMap_map]
  congr 1
  congr 1
  funext x
  show [32] ++ (gLine x).data.toList = _
  rw [line_list]
  rfl
theorem toks_tags {l : List GTag} (hk : ∀ t, t ∈ l → gName t.key = true) : Reads (gToks (gTagS l) ((gTagS l).size + 1) 0) l := by
  cases l with
  | nil => exact ⟨rfl, (by intro f hf; cases hf), rfl⟩
  | cons t l =>
    have hs := tagS_list t l
    have hsz : (gTagS (t :: l)).size = (lineL t).length + (moreL l).length := by rw [← size_list, hs, List.length_append]
    have hp := line_pos t
    obtain ⟨m, hm⟩ : ∃ m, (gTagS (t :: l)).size + 1 = m + 3 := ⟨(gTagS (t :: l)).size - 2, by omega⟩
    have hd : (gTagS (t :: l)).data.toList.drop 0 = lineL t ++ moreL l := hs
    obtain ⟨x, e⟩ := toks_line (n := m) hd (hk t List.mem_cons_self)
    have h3 := drop_app hd
    have ih := toks_more l _ m (fun t ht => hk t (List.mem_cons_of_mem _ ht)) h3 (by omega)
    rw [hm, e]
    exact Reads.cons ih rfl rfl rfl
theorem lexRun_ok : ∀ (T acc : List GFound), (∀ f, f ∈ T → f.err = 0) → acc.length + T.length ≤ 5000 → lexRun acc T = (acc ++ T, 0, 0)
  | [], acc, _, _ => by rw [lexRun, List.append_nil]
  | f :: T, acc, h, hl => by
    rw [List.length_cons] at hl
    rw [lexRun, if_neg (fun e => e (h f List.mem_cons_self)), if_neg (by omega), lexRun_ok T (acc ++ [f]) (fun g hg => h g (List.mem_cons_of_mem _ hg)) (by rw [List.length_append, List.length_singleton]; omega), List.append_assoc]
    rfl
/-- The text of tags is parsed as the tags. -/
theorem parse_text {l : List GTag} (h : (gText l).2 = 0) : gParse (gText l).1 = (l, 0) ∧ tagsOf (gLex (gText l).1).1 = some l := by
  have hg : gTags l = true := by
    rw [gText] at h
    split at h
    · assumption
    · cases h
  have hsz : ¬ 20000 < (gTagS l).size := by
    rw [gText, if_pos hg] at h
    split at h
    · cases h
    · assumption
  have ht : gText l = (gTagS l, 0) := by rw [gText, if_pos hg, if_neg hsz]
  obtain ⟨g1, g2, g3⟩ := gTags_iff.1 hg
  obtain ⟨r1, r2, r3⟩ := toks_tags fun t ht => (g1 t ht).1
  have hlex : gLex (gTagS l) = (gToks (gTagS l) ((gTagS l).size + 1) 0, 0, 0) := by
    rw [gLex, if_neg hsz, lexRun_ok _ [] r2 (by rw [List.length_nil]; omega), List.nil_append]
  rw [ht]
  have htags : tagsOf (gLex (gTagS l)).1 = some l := by rw [hlex]; exact r1
  refine ⟨?_, htags⟩
  rw [gParse, if_neg hsz, htags]
  show (if _ then _ else _) = _
  rw [if_neg]
  rw [hlex, ht]
  rintro (h | h | h)
  · exact h rfl
  · exact h rfl
  · exact h rfl
end Go.Proofs.Ytedfihgkopejcaa
end
section
set_option linter.unusedVariables false
set_option linter.unusedSimpArgs false
set_option maxRecDepth 100000
namespace Go.Abs
theorem OpD.val {P : Program} {N : Nat} {o : Oper} {E : Env} {H H' : Heap} {b b' : Bool} (h : OpD P N o E H (.pv (.bool b)) H') (e : b = b') : OpD P N o E H (.pv (.bool b')) H' := e ▸ h
end Go.Abs
namespace Go.Proofs.Ytedfihgkopejcaa
open Go.Abs
theorem unqL_dat : ∀ (l : List UInt8) (p : List UInt8 × Nat), unqL l = some p → p.1.length ≤ l.length
  | [], p, h => by cases h
  | [c], p, h => by
    rw [unqL] at h
    split at h
    · cases h; exact Nat.zero_le _
    · cases h
  | c :: e :: r, p, h => by
    rw [unqL] at h
    split at h
    · cases h; exact Nat.zero_le _
    · split at h
      · cases h
      · split at h
        · cases hg : gUnesc e with
          | none => rw [hg] at h; cases h
          | some b =>
            rw [hg] at h
            cases hu : unqL r with
            | none => rw [hu] at h; cases h
            | some q =>
              rw [hu] at h; cases h
              have := unqL_dat r q hu
              show q.1.length + 1 ≤ r.length + 1 + 1
              omega
        · cases hu : unqL (e :: r) with
          | none => rw [hu] at h; cases h
          | some q =>
            rw [hu] at h; cases h
            have := unqL_dat (e :: r) q hu
            show q.1.length + 1 ≤ r.length + 1 + 1
            rw [List.length_cons] at this
            omega
theorem extract_size (s : ByteArray) (i j : Nat) : (s.extract i j).size ≤ s.size := by
  rw [← size_list, extract_list, List.length_take, List.length_drop, size_list]
  omega
theorem unq_size (s : ByteArray) : (gUnq s).1.size ≤ s.size := by
  rw [gUnq]
  cases h : unqL (s.data.toList.drop 1) with
  | none => exact Nat.zero_le _
  | some p =>
    have := unqL_dat _ _ h
    rw [List.length_drop, size_list] at this
    show (⟨p.1.toArray⟩ : ByteArray).size ≤ _
    rw [← size_list]
    show p.1.length ≤ _
    omega
theorem step_size {s : ByteArray} {i : Nat} {f : GFound} {j : Nat} (h : gStep s i = (some f, j)) : f.text.size ≤ s.size := by
  rw [gStep] at h
  split at h
  · cases h
  · split at h
    · cases h
    · split at h
      · cases h; exact extract_size _ _ _
      · split at h
        · cases h; exact extract_size _ _ _
        · split at h
          · cases h
            rw [gStr]
            split
            · have h1 := unq_size (s.extract i s.size)
              have h2 := extract_size s i s.size
              show (gUnq (s.extract i s.size)).1.size ≤ _
              omega
            · exact Nat.zero_le _
          · split at h
            · cases h; exact extract_size _ _ _
            · cases h; exact Nat.zero_le _
theorem toks_size (s : ByteArray) : ∀ (n i : Nat) (f : GFound), f ∈ gToks s n i → f.text.size ≤ s.size
  | 0, _, _, h => by cases h
  | n + 1, i, f, h => by
    rw [gToks] at h
    split at h
    · split at h
      · exact toks_size s n _ f h
      · rename_i g j hg
        rcases List.mem_cons.1 h with rfl | h
        · exact step_size hg
        · split at h
          · exact toks_size s n _ f h
          · cases h
    · cases h
theorem run_mem : ∀ (ds acc : List GFound) (f : GFound), f ∈ (lexRun acc ds).1 → f ∈ acc ∨ f ∈ ds
  | [], acc, f, h => .inl h
  | d :: ds, acc, f, h => by
    rw [lexRun] at h
    split at h
    · cases h
    · split at h
      · cases h
      · rcases run_mem ds _ f h with h | h
        · rcases List.mem_append.1 h with h | h
          · exact .inl h
          · rw [List.mem_singleton] at h
            subst h
            exact .inr List.mem_cons_self
        · exact .inr (List.mem_cons_of_mem _ h)
theorem lex_size (s : ByteArray) (f : GFound) (h : f ∈ (gLex s).1) : f.text.size ≤ s.size := by
  rw [gLex] at h
  split at h
  · cases h
  · rcases run_mem _ _ f h with h | h
    · cases h
    · exact toks_size s _ _ f h
theorem tagsOf_mem : ∀ (T : List GFound) (l : List GTag), tagsOf T = some l → l.length ≤ T.length ∧ ∀ t, t ∈ l → (∃ f, f ∈ T ∧ f.text = t.key) ∧ (∃ f, f ∈ T ∧ f.text = t.val)
  | [], l, h => by cases h; exact ⟨Nat.le_refl _, fun t ht => by cases ht⟩
  | [a], l, h => by cases h
  | [a, b], l, h => by cases h
  | a :: b :: c :: r, l, h => by
    rw [tagsOf] at h
    cases hr : tagsOf r with
    | none => rw [hr] at h; cases h
    | some m =>
      rw [hr] at h
      cases h
      obtain ⟨h1, h2⟩ := tagsOf_mem r m hr
      refine ⟨by simp only [List.length_cons]; omega, fun t ht => ?_⟩
      rcases List.mem_cons.1 ht with rfl | ht
      · exact ⟨⟨a, by simp, rfl⟩, ⟨c, by simp, rfl⟩⟩
      · obtain ⟨⟨f, hf, e⟩, ⟨g, hg, e'⟩⟩ := h2 t ht
        exact ⟨⟨f, by simp [hf], e⟩, ⟨g, by simp [hg], e'⟩⟩
theorem lex_ok {s : ByteArray} (hs : s.size < 1099511627776) {l : List GTag} (h : tagsOf (gLex s).1 = some l) : okTags l := by
  obtain ⟨h1, h2⟩ := tagsOf_mem _ _ h
  have h3 := lex_toks_len s hs
  refine ⟨by omega, fun t ht => ?_⟩
  obtain ⟨⟨f, hf, e⟩, ⟨g, hg, e'⟩⟩ := h2 t ht
  have a := lex_size s f hf
  have b := lex_size s g hg
  rw [e] at a
  rw [e'] at b
  omega
theorem parse_cases {s : ByteArray} (hs : ¬ 20000 < s.size) : gParse s = ([], 5) ∨ ∃ l, gParse s = (l, 0) ∧ gText l = (s, 0) ∧ gTags l = true := by
  rw [gParse, if_neg hs]
  cases h : tagsOf (gLex s).1 with
  | none => exact .inl rfl
  | some l =>
    show (if _ then _ else _) = _ ∨ _
    by_cases hc : (gLex s).2.1 ≠ 0 ∨ (gText l).2 ≠ 0 ∨ (gText l).1 ≠ s
    · left
      rw [if_pos hc]
    · right
      have hc' := hc
      simp only [not_or, Decidable.not_not] at hc'
      obtain ⟨h1, h2, h3⟩ := hc'
      refine ⟨l, ?_, Prod.ext h3 h2, ?_⟩
      · show (if _ then _ else _) = _
        rw [if_neg hc]
      · rw [gText] at h2
        split at h2
        · assumption
        · cases h2
theorem text_cases (l : List GTag) : (gTags l = false ∧ gText l = (⟨#[]⟩, 1)) ∨ (gTags l = true ∧ gText l = (⟨#[]⟩, 2)) ∨ (gTags l = true ∧ ∃ s, gText l = (s, 0) ∧ ¬ 20000 < s.size) := by
  rw [gText]
  cases h : gTags l with
  | false => exact .inl ⟨rfl, rfl⟩
  | true =>
    right
    rw [if_pos rfl]
    by_cases hs : 20000 < (gTagS l).size
    · rw [if_pos hs]; exact .inl ⟨rfl, rfl⟩
    · rw [if_neg hs]; exact .inr ⟨rfl, _, rfl, hs⟩
theorem tagTexts_c (a b : List GTag) (text : ByteArray) (H : Heap) (ha : szT a) (hb : szT b) (ht : text.size < 1099511627776) : ACalls Try.prog 4 [.pv (slTags a), .pv (slTags b), sv text] H (fun r H' => r = bv true ∧ H' = H) := by
  refine ACalls.pure ?_ (by simp) H
  have ha2 := ha.2
  have hb2 := hb.2
  refine ACalls.body Try.func4 rfl Try.ntmps4 (Nat.le_of_ble_eq_true rfl) ?_
  refine awp_seq ?_
  refine awp_region ?_
  refine al_d rfl rfl rfl (by exact opd_assign rfl rfl) ?_
  refine al_nil ?_
  refine awp_seq ?_
  refine awp_region ?_
  refine al_d rfl rfl rfl (by exact opr_call rfl rfl Try.call9 rfl (head9_c _)) ?_
  refine al_d rfl rfl rfl (by exact opd_assign rfl rfl) ?_
  refine al_nil ?_
  refine awp_seq ?_
  refine awp_seq ?_
  refine awp_bool (t := 28) (n := 11) (X := !fewAll [a, b] || decide (5000 < (text.size : Int))) ?_ ?_
  · all_goals (refine al_d rfl rfl rfl (by exact opd_move rfl rfl) ?_)
    all_goals (refine al_d rfl rfl rfl (by exact opd_move rfl rfl) ?_)
    all_goals (refine al_d rfl rfl rfl (by exact (by first | exact x_buildSlice ([a, b].map encTs) rfl so47 rfl rfl rfl rfl rfl (encTs_rl _) | (apply x_buildSlice (ps := ([a, b].map encTs)) (hS := so47) <;> first | rfl | exact (encTs_rl _) | simp))) ?_)
    all_goals (refine al_d rfl rfl rfl (by exact opr_call rfl rfl Try.call10 rfl (fewLaw_c [a, b] _ (by show 2 < _; omega) (by intro x hx; simp only [List.mem_cons, List.not_mem_nil, or_false] at hx; rcases hx with rfl | rfl; exact ha.1; exact hb.1))) ?_)
    all_goals (refine al_d rfl rfl rfl (by exact opd_not rfl rfl) ?_)
    all_goals (refine al_d rfl rfl rfl (by exact opd_move rfl rfl) ?_)
    all_goals (first | refine al_split (t := 24) rfl (fun h24 => ?_) (fun h24 => ?_) | refine al_dup (t := 24) rfl ?_ | skip)
    all_goals (try contradiction)
    all_goals (first | refine al_off rfl rfl rfl rfl rfl ?_ | refine al_offu rfl rfl rfl rfl ?_ | refine al_ond rfl rfl rfl rfl rfl rfl (by exact opd_move rfl rfl) ?_)
    all_goals (first | refine al_off rfl rfl rfl rfl rfl ?_ | refine al_offu rfl rfl rfl rfl ?_ | refine al_ond rfl rfl rfl rfl rfl rfl (by exact opd_len_str rfl Try.underlying9 rfl) ?_)
    all_goals (first | refine al_off rfl rfl rfl rfl rfl ?_ | refine al_offu rfl rfl rfl rfl ?_ | refine al_ond rfl rfl rfl rfl rfl rfl (by exact opd_gtr rfl rfl rfl) ?_)
    all_goals (refine al_d rfl rfl rfl (by exact (by first | exact opd_pick_t rfl rfl rfl | exact opd_pick_f rfl rfl rfl | exact opd_pickt rfl rfl (by assumption) rfl | exact opd_pickf rfl rfl (by assumption) rfl | exact opd_pick rfl rfl rfl)) ?_)
    all_goals (refine al_nil ?_)
    all_goals (exact ⟨⟨_, rfl, by first | rfl | (simp only [*, Bool.false_and, Bool.true_and, Bool.and_false, Bool.and_true, Bool.true_or, Bool.false_or, Bool.or_true, Bool.or_false, Bool.not_true, Bool.not_false]; done) | (simp_all; done) | (simp_all; omega)⟩, rfl, rfl, rfl⟩)
  refine awp_cond rfl (fun hc1 => ?_) (fun hc1 => ?_)
  -- cond 1
  · skip
    refine awp_seq ?_
    refine awp_region ?_
    refine al_d rfl rfl rfl (by exact opd_move rfl rfl) ?_
    refine al_d rfl rfl rfl (by exact opd_assign rfl rfl) ?_
    refine al_nil ?_
    refine awp_ret ?_
    -- return
    refine aret1 (H' := []) (by first | exact .inr rfl | exact .inl rfl) rfl (rval_tmp rfl) (Fin.wk (by simp) trivial trivial) ?_
    exact ⟨rfl, rfl⟩
  · have h := hc1
    simp only [Bool.or_eq_false_iff, decide_eq_false_iff_not] at h
    obtain ⟨_, h5⟩ := h
    have hvv : decide (text = text) = true := decide_eq_true rfl
    have hnn : (!decide ((⟨#[]⟩ : ByteArray) = ⟨#[]⟩)) = false := by simp
    obtain ⟨tb, fb, hB⟩ : ∃ s f, gText b = (s, f) := ⟨_, _, rfl⟩
    rcases text_cases a with ⟨v1, e1⟩ | ⟨v1, e1⟩ | ⟨v1, s, e1, hs⟩
    · skip
      refine awp_skip ?_
      refine awp_seq ?_
      refine awp_region ?_
      refine al_d rfl rfl rfl (by exact opd_move rfl rfl) ?_
      refine al_d rfl rfl rfl (by exact opr_call rfl rfl Try.call15 rfl (text9_t e1 _ ha.1)) ?_
      refine al_d rfl rfl rfl (by exact opd_move rfl rfl) ?_
      refine al_d rfl rfl rfl (by exact opd_extract rfl rfl rfl) ?_
      refine al_d rfl rfl rfl (by exact opd_extract rfl rfl rfl) ?_
      refine al_d rfl rfl rfl (by exact opd_assign rfl rfl) ?_
      refine al_d rfl rfl rfl (by exact opd_assign rfl rfl) ?_
      refine al_nil ?_
      refine awp_seq ?_
      refine awp_region ?_
      refine al_d rfl rfl rfl (by exact opd_move rfl rfl) ?_
      refine al_d rfl rfl rfl (by exact opr_call rfl rfl Try.call15 rfl (text9_t hB _ hb.1)) ?_
      refine al_d rfl rfl rfl (by exact opd_move rfl rfl) ?_
      refine al_d rfl rfl rfl (by exact opd_extract rfl rfl rfl) ?_
      refine al_d rfl rfl rfl (by exact opd_extract rfl rfl rfl) ?_
      refine al_d rfl rfl rfl (by exact opd_assign rfl rfl) ?_
      refine al_d rfl rfl rfl (by exact opd_assign rfl rfl) ?_
      refine al_nil ?_
      refine awp_seq ?_
      refine awp_seq ?_
      refine awp_region ?_
      refine al_d rfl rfl rfl (by exact opd_move rfl rfl) ?_
      refine al_d rfl rfl rfl (by exact opd_eql rfl rfl rfl) ?_
      refine al_d rfl rfl rfl (by exact opd_move rfl rfl) ?_
      refine al_d rfl rfl rfl (by exact opr_call rfl rfl Try.call23 rfl (valid9v v1 _ ha.1)) ?_
      refine al_d rfl rfl rfl (by exact opd_beql rfl Try.underlying4 rfl rfl) ?_
      refine al_d rfl rfl rfl (by exact opd_move rfl rfl) ?_
      refine al_ond rfl rfl rfl (by first | rfl | assumption) rfl rfl (by exact opd_move rfl rfl) ?_
      refine al_ond rfl rfl rfl (by first | rfl | assumption) rfl rfl (by exact opd_neq rfl rfl rfl) ?_
      refine al_ond rfl rfl rfl (by first | rfl | assumption) rfl rfl (by exact opd_move rfl rfl) ?_
      refine al_ond rfl rfl rfl (by first | rfl | assumption) rfl rfl (by exact opd_move rfl rfl) ?_
      refine al_ond rfl rfl rfl (by first | rfl | assumption) rfl rfl (by exact OpD.val (by exact opd_sneq rfl rfl rfl) (hnn)) ?_
      refine al_ond rfl rfl rfl (by first | rfl | assumption) rfl rfl (by exact (by first | exact opd_pick_t rfl rfl rfl | exact opd_pick_f rfl rfl rfl | exact opd_pickt rfl rfl (by assumption) rfl | exact opd_pickf rfl rfl (by assumption) rfl | exact opd_pick rfl rfl rfl)) ?_
      refine al_d rfl rfl rfl (by exact (by first | exact opd_pick_t rfl rfl rfl | exact opd_pick_f rfl rfl rfl | exact opd_pickt rfl rfl (by assumption) rfl | exact opd_pickf rfl rfl (by assumption) rfl | exact opd_pick rfl rfl rfl)) ?_
      refine al_d rfl rfl rfl (by exact opd_move rfl rfl) ?_
      refine al_ond rfl rfl rfl (by first | rfl | assumption) rfl rfl (by exact opd_move rfl rfl) ?_
      refine al_ond rfl rfl rfl (by first | rfl | assumption) rfl rfl (by exact opd_neq rfl rfl rfl) ?_
      refine al_ond rfl rfl rfl (by first | rfl | assumption) rfl rfl (by exact opd_move rfl rfl) ?_
      refine al_ond rfl rfl rfl (by first | rfl | assumption) rfl rfl (by exact opd_move rfl rfl) ?_
      refine al_ond rfl rfl rfl (by first | rfl | assumption) rfl rfl (by exact opd_neq rfl rfl rfl) ?_
      refine al_ond rfl rfl rfl (by first | rfl | assumption) rfl rfl (by exact (by first | exact opd_pick_t rfl rfl rfl | exact opd_pick_f rfl rfl rfl | exact opd_pickt rfl rfl (by assumption) rfl | exact opd_pickf rfl rfl (by assumption) rfl | exact opd_pick rfl rfl rfl)) ?_
      refine al_ond rfl rfl rfl (by first | rfl | assumption) rfl rfl (by exact opd_move rfl rfl) ?_
      refine al_off rfl rfl rfl (by first | rfl | assumption) rfl ?_
      refine al_off rfl rfl rfl (by first | rfl | assumption) rfl ?_
      refine al_ond rfl rfl rfl (by first | rfl | assumption) rfl rfl (by exact (by first | exact opd_pick_t rfl rfl rfl | exact opd_pick_f rfl rfl rfl | exact opd_pickt rfl rfl (by assumption) rfl | exact opd_pickf rfl rfl (by assumption) rfl | exact opd_pick rfl rfl rfl)) ?_
      refine al_d rfl rfl rfl (by exact (by first | exact opd_pick_t rfl rfl rfl | exact opd_pick_f rfl rfl rfl | exact opd_pickt rfl rfl (by assumption) rfl | exact opd_pickf rfl rfl (by assumption) rfl | exact opd_pick rfl rfl rfl)) ?_
      refine al_nil ?_
      refine awp_cond rfl (fun hc2 => ?_) (fun hc2 => ?_)
      -- cond 2
      · skip
        (first | (cases hc2; done) | (revert hc2; simp; done) | (revert hc2; simp_all; done) | (revert hc2; simp_all; omega))
      · skip
        refine awp_skip ?_
        refine awp_seq ?_
        refine awp_seq ?_
        refine awp_region ?_
        refine al_d rfl rfl rfl (by exact opd_move rfl rfl) ?_
        refine al_d rfl rfl rfl (by exact opd_eql rfl rfl rfl) ?_
        refine al_nil ?_
        refine awp_cond rfl (fun hc3 => ?_) (fun hc3 => ?_)
        -- cond 3
        · skip
          (first | (cases hc3; done) | (revert hc3; simp; done) | (revert hc3; simp_all; done) | (revert hc3; simp_all; omega))
        · skip
          refine awp_skip ?_
          refine awp_seq ?_
          -- before the slot
          rcases parse_cases (s := text) (by omega) with hp | ⟨l, hp, hl, hv⟩
          · skip
            refine awp_region ?_
            refine al_d rfl rfl rfl (by exact opd_move rfl rfl) ?_
            refine al_d rfl rfl rfl (by exact opr_call rfl rfl Try.call17 rfl (parse9_t hp _ ht (fun l h => lex_ok ht h))) ?_
            refine al_d rfl rfl rfl (by exact opd_move rfl rfl) ?_
            refine al_d rfl rfl rfl (by exact opd_extract rfl rfl rfl) ?_
            refine al_d rfl rfl rfl (by exact opd_extract rfl rfl rfl) ?_
            refine al_d rfl rfl rfl (by exact opd_assign rfl rfl) ?_
            refine al_d rfl rfl rfl (by exact opd_assign rfl rfl) ?_
            refine al_nil ?_
            refine awp_seq ?_
            refine awp_seq ?_
            refine awp_region ?_
            refine al_d rfl rfl rfl (by exact opd_move rfl rfl) ?_
            refine al_d rfl rfl rfl (by exact opd_neq rfl rfl rfl) ?_
            refine al_nil ?_
            refine awp_cond rfl (fun hc4 => ?_) (fun hc4 => ?_)
            -- cond 4
            · skip
              refine awp_seq ?_
              refine awp_region ?_
              refine al_d rfl rfl rfl (by exact opd_move rfl rfl) ?_
              refine al_d rfl rfl rfl (by exact opd_move rfl rfl) ?_
              refine al_ond rfl rfl rfl (by first | rfl | assumption) rfl rfl (by exact opd_move rfl rfl) ?_
              refine al_ond rfl rfl rfl (by first | rfl | assumption) rfl rfl (by exact opd_eql rfl rfl rfl) ?_
              refine al_d rfl rfl rfl (by exact (by first | exact opd_pick_t rfl rfl rfl | exact opd_pick_f rfl rfl rfl | exact opd_pickt rfl rfl (by assumption) rfl | exact opd_pickf rfl rfl (by assumption) rfl | exact opd_pick rfl rfl rfl)) ?_
              refine al_d rfl rfl rfl (by exact opd_move rfl rfl) ?_
              refine al_ond rfl rfl rfl (by first | rfl | assumption) rfl rfl (by exact opd_move rfl rfl) ?_
              refine al_ond rfl rfl rfl (by first | rfl | assumption) rfl rfl (by exact (by first | exact opd_len_sl rfl Try.underlying22 rfl | exact opd_len_osl rfl Try.underlying22 rfl rfl rfl)) ?_
              refine al_ond rfl rfl rfl (by first | rfl | assumption) rfl rfl (by exact opd_eql rfl rfl rfl) ?_
              refine al_d rfl rfl rfl (by exact (by first | exact opd_pick_t rfl rfl rfl | exact opd_pick_f rfl rfl rfl | exact opd_pickt rfl rfl (by assumption) rfl | exact opd_pickf rfl rfl (by assumption) rfl | exact opd_pick rfl rfl rfl)) ?_
              refine al_d rfl rfl rfl (by exact opd_assign rfl rfl) ?_
              refine al_nil ?_
              refine awp_ret ?_
              -- return
              refine aret1 (H' := []) (by first | exact .inr rfl | exact .inl rfl) rfl (rval_tmp rfl) (Fin.wk (by simp) trivial trivial) ?_
              exact ⟨rfl, rfl⟩
            · skip
              (first | (cases hc4; done) | (revert hc4; simp; done) | (revert hc4; simp_all; done) | (revert hc4; simp_all; omega))
          · obtain ⟨g1, g2, g3⟩ := gTags_iff.1 hv
            have hlo : okTags l := ⟨by omega, fun t ht => ⟨by have := gName_size (g1 t ht).1; omega, by have := (g1 t ht).2.2; omega⟩⟩
            refine awp_region ?_
            refine al_d rfl rfl rfl (by exact opd_move rfl rfl) ?_
            refine al_d rfl rfl rfl (by exact opr_call rfl rfl Try.call17 rfl (parse9_t hp _ ht (fun l h => lex_ok ht h))) ?_
            refine al_d rfl rfl rfl (by exact opd_move rfl rfl) ?_
            refine al_d rfl rfl rfl (by exact opd_extract rfl rfl rfl) ?_
            refine al_d rfl rfl rfl (by exact opd_extract rfl rfl rfl) ?_
            refine al_d rfl rfl rfl (by exact opd_assign rfl rfl) ?_
            refine al_d rfl rfl rfl (by exact opd_assign rfl rfl) ?_
            refine al_nil ?_
            refine awp_seq ?_
            refine awp_seq ?_
            refine awp_region ?_
            refine al_d rfl rfl rfl (by exact opd_move rfl rfl) ?_
            refine al_d rfl rfl rfl (by exact opd_neq rfl rfl rfl) ?_
            refine al_nil ?_
            refine awp_cond rfl (fun hc5 => ?_) (fun hc5 => ?_)
            -- cond 5
            · skip
              (first | (cases hc5; done) | (revert hc5; simp; done) | (revert hc5; simp_all; done) | (revert hc5; simp_all; omega))
            · skip
              refine awp_skip ?_
              refine awp_seq ?_
              refine awp_region ?_
              refine al_d rfl rfl rfl (by exact opd_move rfl rfl) ?_
              refine al_d rfl rfl rfl (by exact opr_call rfl rfl Try.call15 rfl (text9_t hl _ hlo)) ?_
              refine al_d rfl rfl rfl (by exact opd_move rfl rfl) ?_
              refine al_d rfl rfl rfl (by exact opd_extract rfl rfl rfl) ?_
              refine al_d rfl rfl rfl (by exact opd_extract rfl rfl rfl) ?_
              refine al_d rfl rfl rfl (by exact opd_assign rfl rfl) ?_
              refine al_d rfl rfl rfl (by exact opd_assign rfl rfl) ?_
              refine al_nil ?_
              refine awp_seq ?_
              refine awp_region ?_
              refine al_d rfl rfl rfl (by exact opd_move rfl rfl) ?_
              refine al_d rfl rfl rfl (by exact opd_move rfl rfl) ?_
              refine al_ond rfl rfl rfl (by first | rfl | assumption) rfl rfl (by exact opd_move rfl rfl) ?_
              refine al_ond rfl rfl rfl (by first | rfl | assumption) rfl rfl (by exact opd_eql rfl rfl rfl) ?_
              refine al_d rfl rfl rfl (by exact (by first | exact opd_pick_t rfl rfl rfl | exact opd_pick_f rfl rfl rfl | exact opd_pickt rfl rfl (by assumption) rfl | exact opd_pickf rfl rfl (by assumption) rfl | exact opd_pick rfl rfl rfl)) ?_
              refine al_d rfl rfl rfl (by exact opd_move rfl rfl) ?_
              refine al_ond rfl rfl rfl (by first | rfl | assumption) rfl rfl (by exact opd_move rfl rfl) ?_
              refine al_ond rfl rfl rfl (by first | rfl | assumption) rfl rfl (by exact opd_move rfl rfl) ?_
              refine al_ond rfl rfl rfl (by first | rfl | assumption) rfl rfl (by exact OpD.val (by exact opd_seql rfl rfl rfl) (hvv)) ?_
              refine al_d rfl rfl rfl (by exact (by first | exact opd_pick_t rfl rfl rfl | exact opd_pick_f rfl rfl rfl | exact opd_pickt rfl rfl (by assumption) rfl | exact opd_pickf rfl rfl (by assumption) rfl | exact opd_pick rfl rfl rfl)) ?_
              refine al_d rfl rfl rfl (by exact opd_move rfl rfl) ?_
              refine al_ond rfl rfl rfl (by first | rfl | assumption) rfl rfl (by exact opd_move rfl rfl) ?_
              refine al_ond rfl rfl rfl (by first | rfl | assumption) rfl rfl (by exact opr_call rfl rfl Try.call23 rfl (valid9_t hv _ hlo)) ?_
              refine al_d rfl rfl rfl (by exact (by first | exact opd_pick_t rfl rfl rfl | exact opd_pick_f rfl rfl rfl | exact opd_pickt rfl rfl (by assumption) rfl | exact opd_pickf rfl rfl (by assumption) rfl | exact opd_pick rfl rfl rfl)) ?_
              refine al_d rfl rfl rfl (by exact opd_assign rfl rfl) ?_
              refine al_nil ?_
              refine awp_ret ?_
              -- return
              refine aret1 (H' := []) (by first | exact .inr rfl | exact .inl rfl) rfl (rval_tmp rfl) (Fin.wk (by simp) trivial trivial) ?_
              exact ⟨rfl, rfl⟩
    · skip
      refine awp_skip ?_
      refine awp_seq ?_
      refine awp_region ?_
      refine al_d rfl rfl rfl (by exact opd_move rfl rfl) ?_
      refine al_d rfl rfl rfl (by exact opr_call rfl rfl Try.call15 rfl (text9_t e1 _ ha.1)) ?_
      refine al_d rfl rfl rfl (by exact opd_move rfl rfl) ?_
      refine al_d rfl rfl rfl (by exact opd_extract rfl rfl rfl) ?_
      refine al_d rfl rfl rfl (by exact opd_extract rfl rfl rfl) ?_
      refine al_d rfl rfl rfl (by exact opd_assign rfl rfl) ?_
      refine al_d rfl rfl rfl (by exact opd_assign rfl rfl) ?_
      refine al_nil ?_
      refine awp_seq ?_
      refine awp_region ?_
      refine al_d rfl rfl rfl (by exact opd_move rfl rfl) ?_
      refine al_d rfl rfl rfl (by exact opr_call rfl rfl Try.call15 rfl (text9_t hB _ hb.1)) ?_
      refine al_d rfl rfl rfl (by exact opd_move rfl rfl) ?_
      refine al_d rfl rfl rfl (by exact opd_extract rfl rfl rfl) ?_
      refine al_d rfl rfl rfl (by exact opd_extract rfl rfl rfl) ?_
      refine al_d rfl rfl rfl (by exact opd_assign rfl rfl) ?_
      refine al_d rfl rfl rfl (by exact opd_assign rfl rfl) ?_
      refine al_nil ?_
      refine awp_seq ?_
      refine awp_seq ?_
      refine awp_region ?_
      refine al_d rfl rfl rfl (by exact opd_move rfl rfl) ?_
      refine al_d rfl rfl rfl (by exact opd_eql rfl rfl rfl) ?_
      refine al_d rfl rfl rfl (by exact opd_move rfl rfl) ?_
      refine al_d rfl rfl rfl (by exact opr_call rfl rfl Try.call23 rfl (valid9v v1 _ ha.1)) ?_
      refine al_d rfl rfl rfl (by exact opd_beql rfl Try.underlying4 rfl rfl) ?_
      refine al_d rfl rfl rfl (by exact opd_move rfl rfl) ?_
      refine al_ond rfl rfl rfl (by first | rfl | assumption) rfl rfl (by exact opd_move rfl rfl) ?_
      refine al_ond rfl rfl rfl (by first | rfl | assumption) rfl rfl (by exact opd_neq rfl rfl rfl) ?_
      refine al_ond rfl rfl rfl (by first | rfl | assumption) rfl rfl (by exact opd_move rfl rfl) ?_
      refine al_ond rfl rfl rfl (by first | rfl | assumption) rfl rfl (by exact opd_move rfl rfl) ?_
      refine al_ond rfl rfl rfl (by first | rfl | assumption) rfl rfl (by exact OpD.val (by exact opd_sneq rfl rfl rfl) (hnn)) ?_
      refine al_ond rfl rfl rfl (by first | rfl | assumption) rfl rfl (by exact (by first | exact opd_pick_t rfl rfl rfl | exact opd_pick_f rfl rfl rfl | exact opd_pickt rfl rfl (by assumption) rfl | exact opd_pickf rfl rfl (by assumption) rfl | exact opd_pick rfl rfl rfl)) ?_
      refine al_d rfl rfl rfl (by exact (by first | exact opd_pick_t rfl rfl rfl | exact opd_pick_f rfl rfl rfl | exact opd_pickt rfl rfl (by assumption) rfl | exact opd_pickf rfl rfl (by assumption) rfl | exact opd_pick rfl rfl rfl)) ?_
      refine al_d rfl rfl rfl (by exact opd_move rfl rfl) ?_
      refine al_ond rfl rfl rfl (by first | rfl | assumption) rfl rfl (by exact opd_move rfl rfl) ?_
      refine al_ond rfl rfl rfl (by first | rfl | assumption) rfl rfl (by exact opd_neq rfl rfl rfl) ?_
      refine al_ond rfl rfl rfl (by first | rfl | assumption) rfl rfl (by exact opd_move rfl rfl) ?_
      refine al_ond rfl rfl rfl (by first | rfl | assumption) rfl rfl (by exact opd_move rfl rfl) ?_
      refine al_ond rfl rfl rfl (by first | rfl | assumption) rfl rfl (by exact opd_neq rfl rfl rfl) ?_
      refine al_ond rfl rfl rfl (by first | rfl | assumption) rfl rfl (by exact (by first | exact opd_pick_t rfl rfl rfl | exact opd_pick_f rfl rfl rfl | exact opd_pickt rfl rfl (by assumption) rfl | exact opd_pickf rfl rfl (by assumption) rfl | exact opd_pick rfl rfl rfl)) ?_
      refine al_ond rfl rfl rfl (by first | rfl | assumption) rfl rfl (by exact opd_move rfl rfl) ?_
      refine al_ond rfl rfl rfl (by first | rfl | assumption) rfl rfl (by exact opd_move rfl rfl) ?_
      refine al_ond rfl rfl rfl (by first | rfl | assumption) rfl rfl (by exact opd_neq rfl rfl rfl) ?_
      refine al_ond rfl rfl rfl (by first | rfl | assumption) rfl rfl (by exact (by first | exact opd_pick_t rfl rfl rfl | exact opd_pick_f rfl rfl rfl | exact opd_pickt rfl rfl (by assumption) rfl | exact opd_pickf rfl rfl (by assumption) rfl | exact opd_pick rfl rfl rfl)) ?_
      refine al_d rfl rfl rfl (by exact (by first | exact opd_pick_t rfl rfl rfl | exact opd_pick_f rfl rfl rfl | exact opd_pickt rfl rfl (by assumption) rfl | exact opd_pickf rfl rfl (by assumption) rfl | exact opd_pick rfl rfl rfl)) ?_
      refine al_nil ?_
      refine awp_cond rfl (fun hc6 => ?_) (fun hc6 => ?_)
      -- cond 6
      · skip
        (first | (cases hc6; done) | (revert hc6; simp; done) | (revert hc6; simp_all; done) | (revert hc6; simp_all; omega))
      · skip
        refine awp_skip ?_
        refine awp_seq ?_
        refine awp_seq ?_
        refine awp_region ?_
        refine al_d rfl rfl rfl (by exact opd_move rfl rfl) ?_
        refine al_d rfl rfl rfl (by exact opd_eql rfl rfl rfl) ?_
        refine al_nil ?_
        refine awp_cond rfl (fun hc7 => ?_) (fun hc7 => ?_)
        -- cond 7
        · skip
          (first | (cases hc7; done) | (revert hc7; simp; done) | (revert hc7; simp_all; done) | (revert hc7; simp_all; omega))
        · skip
          refine awp_skip ?_
          refine awp_seq ?_
          -- before the slot
          rcases parse_cases (s := text) (by omega) with hp | ⟨l, hp, hl, hv⟩
          · skip
            refine awp_region ?_
            refine al_d rfl rfl rfl (by exact opd_move rfl rfl) ?_
            refine al_d rfl rfl rfl (by exact opr_call rfl rfl Try.call17 rfl (parse9_t hp _ ht (fun l h => lex_ok ht h))) ?_
            refine al_d rfl rfl rfl (by exact opd_move rfl rfl) ?_
            refine al_d rfl rfl rfl (by exact opd_extract rfl rfl rfl) ?_
            refine al_d rfl rfl rfl (by exact opd_extract rfl rfl rfl) ?_
            refine al_d rfl rfl rfl (by exact opd_assign rfl rfl) ?_
            refine al_d rfl rfl rfl (by exact opd_assign rfl rfl) ?_
            refine al_nil ?_
            refine awp_seq ?_
            refine awp_seq ?_
            refine awp_region ?_
            refine al_d rfl rfl rfl (by exact opd_move rfl rfl) ?_
            refine al_d rfl rfl rfl (by exact opd_neq rfl rfl rfl) ?_
            refine al_nil ?_
            refine awp_cond rfl (fun hc8 => ?_) (fun hc8 => ?_)
            -- cond 8
            · skip
              refine awp_seq ?_
              refine awp_region ?_
              refine al_d rfl rfl rfl (by exact opd_move rfl rfl) ?_
              refine al_d rfl rfl rfl (by exact opd_move rfl rfl) ?_
              refine al_ond rfl rfl rfl (by first | rfl | assumption) rfl rfl (by exact opd_move rfl rfl) ?_
              refine al_ond rfl rfl rfl (by first | rfl | assumption) rfl rfl (by exact opd_eql rfl rfl rfl) ?_
              refine al_d rfl rfl rfl (by exact (by first | exact opd_pick_t rfl rfl rfl | exact opd_pick_f rfl rfl rfl | exact opd_pickt rfl rfl (by assumption) rfl | exact opd_pickf rfl rfl (by assumption) rfl | exact opd_pick rfl rfl rfl)) ?_
              refine al_d rfl rfl rfl (by exact opd_move rfl rfl) ?_
              refine al_ond rfl rfl rfl (by first | rfl | assumption) rfl rfl (by exact opd_move rfl rfl) ?_
              refine al_ond rfl rfl rfl (by first | rfl | assumption) rfl rfl (by exact (by first | exact opd_len_sl rfl Try.underlying22 rfl | exact opd_len_osl rfl Try.underlying22 rfl rfl rfl)) ?_
              refine al_ond rfl rfl rfl (by first | rfl | assumption) rfl rfl (by exact opd_eql rfl rfl rfl) ?_
              refine al_d rfl rfl rfl (by exact (by first | exact opd_pick_t rfl rfl rfl | exact opd_pick_f rfl rfl rfl | exact opd_pickt rfl rfl (by assumption) rfl | exact opd_pickf rfl rfl (by assumption) rfl | exact opd_pick rfl rfl rfl)) ?_
              refine al_d rfl rfl rfl (by exact opd_assign rfl rfl) ?_
              refine al_nil ?_
              refine awp_ret ?_
              -- return
              refine aret1 (H' := []) (by first | exact .inr rfl | exact .inl rfl) rfl (rval_tmp rfl) (Fin.wk (by simp) trivial trivial) ?_
              exact ⟨rfl, rfl⟩
            · skip
              (first | (cases hc8; done) | (revert hc8; simp; done) | (revert hc8; simp_all; done) | (revert hc8; simp_all; omega))
          · obtain ⟨g1, g2, g3⟩ := gTags_iff.1 hv
            have hlo : okTags l := ⟨by omega, fun t ht => ⟨by have := gName_size (g1 t ht).1; omega, by have := (g1 t ht).2.2; omega⟩⟩
            refine awp_region ?_
            refine al_d rfl rfl rfl (by exact opd_move rfl rfl) ?_
            refine al_d rfl rfl rfl (by exact opr_call rfl rfl Try.call17 rfl (parse9_t hp _ ht (fun l h => lex_ok ht h))) ?_
            refine al_d rfl rfl rfl (by exact opd_move rfl rfl) ?_
            refine al_d rfl rfl rfl (by exact opd_extract rfl rfl rfl) ?_
            refine al_d rfl rfl rfl (by exact opd_extract rfl rfl rfl) ?_
            refine al_d rfl rfl rfl (by exact opd_assign rfl rfl) ?_
            refine al_d rfl rfl rfl (by exact opd_assign rfl rfl) ?_
            refine al_nil ?_
            refine awp_seq ?_
            refine awp_seq ?_
            refine awp_region ?_
            refine al_d rfl rfl rfl (by exact opd_move rfl rfl) ?_
            refine al_d rfl rfl rfl (by exact opd_neq rfl rfl rfl) ?_
            refine al_nil ?_
            refine awp_cond rfl (fun hc9 => ?_) (fun hc9 => ?_)
            -- cond 9
            · skip
              (first | (cases hc9; done) | (revert hc9; simp; done) | (revert hc9; simp_all; done) | (revert hc9; simp_all; omega))
            · skip
              refine awp_skip ?_
              refine awp_seq ?_
              refine awp_region ?_
              refine al_d rfl rfl rfl (by exact opd_move rfl rfl) ?_
              refine al_d rfl rfl rfl (by exact opr_call rfl rfl Try.call15 rfl (text9_t hl _ hlo)) ?_
              refine al_d rfl rfl rfl (by exact opd_move rfl rfl) ?_
              refine al_d rfl rfl rfl (by exact opd_extract rfl rfl rfl) ?_
              refine al_d rfl rfl rfl (by exact opd_extract rfl rfl rfl) ?_
              refine al_d rfl rfl rfl (by exact opd_assign rfl rfl) ?_
              refine al_d rfl rfl rfl (by exact opd_assign rfl rfl) ?_
              refine al_nil ?_
              refine awp_seq ?_
              refine awp_region ?_
              refine al_d rfl rfl rfl (by exact opd_move rfl rfl) ?_
              refine al_d rfl rfl rfl (by exact opd_move rfl rfl) ?_
              refine al_ond rfl rfl rfl (by first | rfl | assumption) rfl rfl (by exact opd_move rfl rfl) ?_
              refine al_ond rfl rfl rfl (by first | rfl | assumption) rfl rfl (by exact opd_eql rfl rfl rfl) ?_
              refine al_d rfl rfl rfl (by exact (by first | exact opd_pick_t rfl rfl rfl | exact opd_pick_f rfl rfl rfl | exact opd_pickt rfl rfl (by assumption) rfl | exact opd_pickf rfl rfl (by assumption) rfl | exact opd_pick rfl rfl rfl)) ?_
              refine al_d rfl rfl rfl (by exact opd_move rfl rfl) ?_
              refine al_ond rfl rfl rfl (by first | rfl | assumption) rfl rfl (by exact opd_move rfl rfl) ?_
              refine al_ond rfl rfl rfl (by first | rfl | assumption) rfl rfl (by exact opd_move rfl rfl) ?_
              refine al_ond rfl rfl rfl (by first | rfl | assumption) rfl rfl (by exact OpD.val (by exact opd_seql rfl rfl rfl) (hvv)) ?_
              refine al_d rfl rfl rfl (by exact (by first | exact opd_pick_t rfl rfl rfl | exact opd_pick_f rfl rfl rfl | exact opd_pickt rfl rfl (by assumption) rfl | exact opd_pickf rfl rfl (by assumption) rfl | exact opd_pick rfl rfl rfl)) ?_
              refine al_d rfl rfl rfl (by exact opd_move rfl rfl) ?_
              refine al_ond rfl rfl rfl (by first | rfl | assumption) rfl rfl (by exact opd_move rfl rfl) ?_
              refine al_ond rfl rfl rfl (by first | rfl | assumption) rfl rfl (by exact opr_call rfl rfl Try.call23 rfl (valid9_t hv _ hlo)) ?_
              refine al_d rfl rfl rfl (by exact (by first | exact opd_pick_t rfl rfl rfl | exact opd_pick_f rfl rfl rfl | exact opd_pickt rfl rfl (by assumption) rfl | exact opd_pickf rfl rfl (by assumption) rfl | exact opd_pick rfl rfl rfl)) ?_
              refine al_d rfl rfl rfl (by exact opd_assign rfl rfl) ?_
              refine al_nil ?_
              refine awp_ret ?_
              -- return
              refine aret1 (H' := []) (by first | exact .inr rfl | exact .inl rfl) rfl (rval_tmp rfl) (Fin.wk (by simp) trivial trivial) ?_
              exact ⟨rfl, rfl⟩
    · obtain ⟨p1, p2⟩ := parse_text (l := a) (by rw [e1])
      rw [e1] at p1 p2
      have hsz : s.size < 1099511627776 := by omega
      have hl1 : ∀ l, tagsOf (gLex s).1 = some l → okTags l := fun l h => by rw [p2] at h; cases h; exact ha.1
      by_cases hf : fb = 0
      · subst hf
        obtain ⟨q1, q2⟩ := parse_text (l := b) (by rw [hB])
        rw [hB] at q1 q2
        have hfb : decide ((0 : Int) = 0) = true := rfl
        have hst : (!decide (decide (s = tb) = decide (a = b))) = false := by
          have : s = tb ↔ a = b := ⟨fun e => by subst e; rw [p1] at q1; exact (Prod.mk.inj q1).1, fun e => by subst e; rw [e1] at hB; exact (Prod.mk.inj hB).1⟩
          rw [decide_eq_true (show decide (s = tb) = decide (a = b) by rw [Bool.eq_iff_iff, decide_eq_true_eq, decide_eq_true_eq]; exact this)]
          rfl
        refine awp_skip ?_
        refine awp_seq ?_
        refine awp_region ?_
        refine al_d rfl rfl rfl (by exact opd_move rfl rfl) ?_
        refine al_d rfl rfl rfl (by exact opr_call rfl rfl Try.call15 rfl (text9_t e1 _ ha.1)) ?_
        refine al_d rfl rfl rfl (by exact opd_move rfl rfl) ?_
        refine al_d rfl rfl rfl (by exact opd_extract rfl rfl rfl) ?_
        refine al_d rfl rfl rfl (by exact opd_extract rfl rfl rfl) ?_
        refine al_d rfl rfl rfl (by exact opd_assign rfl rfl) ?_
        refine al_d rfl rfl rfl (by exact opd_assign rfl rfl) ?_
        refine al_nil ?_
        refine awp_seq ?_
        refine awp_region ?_
        refine al_d rfl rfl rfl (by exact opd_move rfl rfl) ?_
        refine al_d rfl rfl rfl (by exact opr_call rfl rfl Try.call15 rfl (text9_t hB _ hb.1)) ?_
        refine al_d rfl rfl rfl (by exact opd_move rfl rfl) ?_
        refine al_d rfl rfl rfl (by exact opd_extract rfl rfl rfl) ?_
        refine al_d rfl rfl rfl (by exact opd_extract rfl rfl rfl) ?_
        refine al_d rfl rfl rfl (by exact opd_assign rfl rfl) ?_
        refine al_d rfl rfl rfl (by exact opd_assign rfl rfl) ?_
        refine al_nil ?_
        refine awp_seq ?_
        refine awp_seq ?_
        refine awp_region ?_
        refine al_d rfl rfl rfl (by exact opd_move rfl rfl) ?_
        refine al_d rfl rfl rfl (by exact opd_eql rfl rfl rfl) ?_
        refine al_d rfl rfl rfl (by exact opd_move rfl rfl) ?_
        refine al_d rfl rfl rfl (by exact opr_call rfl rfl Try.call23 rfl (valid9v v1 _ ha.1)) ?_
        refine al_d rfl rfl rfl (by exact opd_beql rfl Try.underlying4 rfl rfl) ?_
        refine al_d rfl rfl rfl (by exact opd_move rfl rfl) ?_
        refine al_ond rfl rfl rfl (by first | rfl | assumption) rfl rfl (by exact opd_move rfl rfl) ?_
        refine al_ond rfl rfl rfl (by first | rfl | assumption) rfl rfl (by exact opd_neq rfl rfl rfl) ?_
        refine al_ond rfl rfl rfl (by first | rfl | assumption) rfl rfl (by exact opd_move rfl rfl) ?_
        refine al_off rfl rfl rfl (by first | rfl | assumption) rfl ?_
        refine al_off rfl rfl rfl (by first | rfl | assumption) rfl ?_
        refine al_ond rfl rfl rfl (by first | rfl | assumption) rfl rfl (by exact (by first | exact opd_pick_t rfl rfl rfl | exact opd_pick_f rfl rfl rfl | exact opd_pickt rfl rfl (by assumption) rfl | exact opd_pickf rfl rfl (by assumption) rfl | exact opd_pick rfl rfl rfl)) ?_
        refine al_d rfl rfl rfl (by exact (by first | exact opd_pick_t rfl rfl rfl | exact opd_pick_f rfl rfl rfl | exact opd_pickt rfl rfl (by assumption) rfl | exact opd_pickf rfl rfl (by assumption) rfl | exact opd_pick rfl rfl rfl)) ?_
        refine al_d rfl rfl rfl (by exact opd_move rfl rfl) ?_
        refine al_ond rfl rfl rfl (by first | rfl | assumption) rfl rfl (by exact opd_move rfl rfl) ?_
        refine al_ond rfl rfl rfl (by first | rfl | assumption) rfl rfl (by exact opd_neq rfl rfl rfl) ?_
        refine al_ond rfl rfl rfl (by first | rfl | assumption) rfl rfl (by exact opd_move rfl rfl) ?_
        refine al_off rfl rfl rfl (by first | rfl | assumption) rfl ?_
        refine al_off rfl rfl rfl (by first | rfl | assumption) rfl ?_
        refine al_ond rfl rfl rfl (by first | rfl | assumption) rfl rfl (by exact (by first | exact opd_pick_t rfl rfl rfl | exact opd_pick_f rfl rfl rfl | exact opd_pickt rfl rfl (by assumption) rfl | exact opd_pickf rfl rfl (by assumption) rfl | exact opd_pick rfl rfl rfl)) ?_
        refine al_ond rfl rfl rfl (by first | rfl | assumption) rfl rfl (by exact opd_move rfl rfl) ?_
        refine al_off rfl rfl rfl (by first | rfl | assumption) rfl ?_
        refine al_off rfl rfl rfl (by first | rfl | assumption) rfl ?_
        refine al_ond rfl rfl rfl (by first | rfl | assumption) rfl rfl (by exact (by first | exact opd_pick_t rfl rfl rfl | exact opd_pick_f rfl rfl rfl | exact opd_pickt rfl rfl (by assumption) rfl | exact opd_pickf rfl rfl (by assumption) rfl | exact opd_pick rfl rfl rfl)) ?_
        refine al_d rfl rfl rfl (by exact (by first | exact opd_pick_t rfl rfl rfl | exact opd_pick_f rfl rfl rfl | exact opd_pickt rfl rfl (by assumption) rfl | exact opd_pickf rfl rfl (by assumption) rfl | exact opd_pick rfl rfl rfl)) ?_
        refine al_nil ?_
        refine awp_cond rfl (fun hc10 => ?_) (fun hc10 => ?_)
        -- cond 10
        · skip
          (first | (cases hc10; done) | (revert hc10; simp; done) | (revert hc10; simp_all; done) | (revert hc10; simp_all; omega))
        · skip
          refine awp_skip ?_
          refine awp_seq ?_
          refine awp_seq ?_
          refine awp_region ?_
          refine al_d rfl rfl rfl (by exact opd_move rfl rfl) ?_
          refine al_d rfl rfl rfl (by exact opd_eql rfl rfl rfl) ?_
          refine al_nil ?_
          refine awp_cond rfl (fun hc11 => ?_) (fun hc11 => ?_)
          -- cond 11
          · skip
            refine awp_seq ?_
            refine awp_region ?_
            refine al_d rfl rfl rfl (by exact opd_move rfl rfl) ?_
            refine al_d rfl rfl rfl (by exact opr_call rfl rfl Try.call17 rfl (parse9_t p1 _ hsz hl1)) ?_
            refine al_d rfl rfl rfl (by exact opd_move rfl rfl) ?_
            refine al_d rfl rfl rfl (by exact opd_extract rfl rfl rfl) ?_
            refine al_d rfl rfl rfl (by exact opd_extract rfl rfl rfl) ?_
            refine al_d rfl rfl rfl (by exact opd_assign rfl rfl) ?_
            refine al_d rfl rfl rfl (by exact opd_assign rfl rfl) ?_
            refine al_nil ?_
            refine awp_seq ?_
            refine awp_region ?_
            refine al_d rfl rfl rfl (by exact opd_move rfl rfl) ?_
            refine al_d rfl rfl rfl (by exact opd_neq rfl rfl rfl) ?_
            refine al_d rfl rfl rfl (by exact opd_move rfl rfl) ?_
            refine al_ond rfl rfl rfl (by first | rfl | assumption) rfl rfl (by exact opd_move rfl rfl) ?_
            refine al_ond rfl rfl rfl (by first | rfl | assumption) rfl rfl (by exact opd_move rfl rfl) ?_
            refine al_ond rfl rfl rfl (by first | rfl | assumption) rfl rfl (by exact opr_call rfl rfl Try.call21 rfl (same9_t rfl _ (by omega))) ?_
            refine al_ond rfl rfl rfl (by first | rfl | assumption) rfl rfl (by exact opd_not rfl rfl) ?_
            refine al_d rfl rfl rfl (by exact (by first | exact opd_pick_t rfl rfl rfl | exact opd_pick_f rfl rfl rfl | exact opd_pickt rfl rfl (by assumption) rfl | exact opd_pickf rfl rfl (by assumption) rfl | exact opd_pick rfl rfl rfl)) ?_
            refine al_d rfl rfl rfl (by exact opd_move rfl rfl) ?_
            refine al_ond rfl rfl rfl (by first | rfl | assumption) rfl rfl (by exact opd_move rfl rfl) ?_
            refine al_ond rfl rfl rfl (by first | rfl | assumption) rfl rfl (by exact OpD.val (by exact opd_eql rfl rfl rfl) (hfb)) ?_
            refine al_ond rfl rfl rfl (by first | rfl | assumption) rfl rfl (by exact opd_move rfl rfl) ?_
            refine al_ond rfl rfl rfl (by first | rfl | assumption) rfl rfl (by exact opd_move rfl rfl) ?_
            refine al_ond rfl rfl rfl (by first | rfl | assumption) rfl rfl (by exact opd_move rfl rfl) ?_
            refine al_ond rfl rfl rfl (by first | rfl | assumption) rfl rfl (by exact opd_seql rfl rfl rfl) ?_
            refine al_ond rfl rfl rfl (by first | rfl | assumption) rfl rfl (by exact opd_move rfl rfl) ?_
            refine al_ond rfl rfl rfl (by first | rfl | assumption) rfl rfl (by exact opd_move rfl rfl) ?_
            refine al_ond rfl rfl rfl (by first | rfl | assumption) rfl rfl (by exact opr_call rfl rfl Try.call21 rfl (same09_c a b _ (by omega))) ?_
            refine al_ond rfl rfl rfl (by first | rfl | assumption) rfl rfl (by exact OpD.val (by exact opd_bneq rfl Try.underlying4 rfl rfl) (hst)) ?_
            refine al_ond rfl rfl rfl (by first | rfl | assumption) rfl rfl (by exact (by first | exact opd_pick_t rfl rfl rfl | exact opd_pick_f rfl rfl rfl | exact opd_pickt rfl rfl (by assumption) rfl | exact opd_pickf rfl rfl (by assumption) rfl | exact opd_pick rfl rfl rfl)) ?_
            refine al_d rfl rfl rfl (by exact (by first | exact opd_pick_t rfl rfl rfl | exact opd_pick_f rfl rfl rfl | exact opd_pickt rfl rfl (by assumption) rfl | exact opd_pickf rfl rfl (by assumption) rfl | exact opd_pick rfl rfl rfl)) ?_
            refine al_nil ?_
            refine awp_cond rfl (fun hc12 => ?_) (fun hc12 => ?_)
            -- cond 12
            · skip
              (first | (cases hc12; done) | (revert hc12; simp; done) | (revert hc12; simp_all; done) | (revert hc12; simp_all; omega))
            · skip
              refine awp_skip ?_
              refine awp_seq ?_
              -- before the slot
              rcases parse_cases (s := text) (by omega) with hp | ⟨l, hp, hl, hv⟩
              · skip
                refine awp_region ?_
                refine al_d rfl rfl rfl (by exact opd_move rfl rfl) ?_
                refine al_d rfl rfl rfl (by exact opr_call rfl rfl Try.call17 rfl (parse9_t hp _ ht (fun l h => lex_ok ht h))) ?_
                refine al_d rfl rfl rfl (by exact opd_move rfl rfl) ?_
                refine al_d rfl rfl rfl (by exact opd_extract rfl rfl rfl) ?_
                refine al_d rfl rfl rfl (by exact opd_extract rfl rfl rfl) ?_
                refine al_d rfl rfl rfl (by exact opd_assign rfl rfl) ?_
                refine al_d rfl rfl rfl (by exact opd_assign rfl rfl) ?_
                refine al_nil ?_
                refine awp_seq ?_
                refine awp_seq ?_
                refine awp_region ?_
                refine al_d rfl rfl rfl (by exact opd_move rfl rfl) ?_
                refine al_d rfl rfl rfl (by exact opd_neq rfl rfl rfl) ?_
                refine al_nil ?_
                refine awp_cond rfl (fun hc13 => ?_) (fun hc13 => ?_)
                -- cond 13
                · skip
                  refine awp_seq ?_
                  refine awp_region ?_
                  refine al_d rfl rfl rfl (by exact opd_move rfl rfl) ?_
                  refine al_d rfl rfl rfl (by exact opd_move rfl rfl) ?_
                  refine al_ond rfl rfl rfl (by first | rfl | assumption) rfl rfl (by exact opd_move rfl rfl) ?_
                  refine al_ond rfl rfl rfl (by first | rfl | assumption) rfl rfl (by exact opd_eql rfl rfl rfl) ?_
                  refine al_d rfl rfl rfl (by exact (by first | exact opd_pick_t rfl rfl rfl | exact opd_pick_f rfl rfl rfl | exact opd_pickt rfl rfl (by assumption) rfl | exact opd_pickf rfl rfl (by assumption) rfl | exact opd_pick rfl rfl rfl)) ?_
                  refine al_d rfl rfl rfl (by exact opd_move rfl rfl) ?_
                  refine al_ond rfl rfl rfl (by first | rfl | assumption) rfl rfl (by exact opd_move rfl rfl) ?_
                  refine al_ond rfl rfl rfl (by first | rfl | assumption) rfl rfl (by exact (by first | exact opd_len_sl rfl Try.underlying22 rfl | exact opd_len_osl rfl Try.underlying22 rfl rfl rfl)) ?_
                  refine al_ond rfl rfl rfl (by first | rfl | assumption) rfl rfl (by exact opd_eql rfl rfl rfl) ?_
                  refine al_d rfl rfl rfl (by exact (by first | exact opd_pick_t rfl rfl rfl | exact opd_pick_f rfl rfl rfl | exact opd_pickt rfl rfl (by assumption) rfl | exact opd_pickf rfl rfl (by assumption) rfl | exact opd_pick rfl rfl rfl)) ?_
                  refine al_d rfl rfl rfl (by exact opd_assign rfl rfl) ?_
                  refine al_nil ?_
                  refine awp_ret ?_
                  -- return
                  refine aret1 (H' := []) (by first | exact .inr rfl | exact .inl rfl) rfl (rval_tmp rfl) (Fin.wk (by simp) trivial trivial) ?_
                  exact ⟨rfl, rfl⟩
                · skip
                  (first | (cases hc13; done) | (revert hc13; simp; done) | (revert hc13; simp_all; done) | (revert hc13; simp_all; omega))
              · obtain ⟨g1, g2, g3⟩ := gTags_iff.1 hv
                have hlo : okTags l := ⟨by omega, fun t ht => ⟨by have := gName_size (g1 t ht).1; omega, by have := (g1 t ht).2.2; omega⟩⟩
                refine awp_region ?_
                refine al_d rfl rfl rfl (by exact opd_move rfl rfl) ?_
                refine al_d rfl rfl rfl (by exact opr_call rfl rfl Try.call17 rfl (parse9_t hp _ ht (fun l h => lex_ok ht h))) ?_
                refine al_d rfl rfl rfl (by exact opd_move rfl rfl) ?_
                refine al_d rfl rfl rfl (by exact opd_extract rfl rfl rfl) ?_
                refine al_d rfl rfl rfl (by exact opd_extract rfl rfl rfl) ?_
                refine al_d rfl rfl rfl (by exact opd_assign rfl rfl) ?_
                refine al_d rfl rfl rfl (by exact opd_assign rfl rfl) ?_
                refine al_nil ?_
                refine awp_seq ?_
                refine awp_seq ?_
                refine awp_region ?_
                refine al_d rfl rfl rfl (by exact opd_move rfl rfl) ?_
                refine al_d rfl rfl rfl (by exact opd_neq rfl rfl rfl) ?_
                refine al_nil ?_
                refine awp_cond rfl (fun hc14 => ?_) (fun hc14 => ?_)
                -- cond 14
                · skip
                  (first | (cases hc14; done) | (revert hc14; simp; done) | (revert hc14; simp_all; done) | (revert hc14; simp_all; omega))
                · skip
                  refine awp_skip ?_
                  refine awp_seq ?_
                  refine awp_region ?_
                  refine al_d rfl rfl rfl (by exact opd_move rfl rfl) ?_
                  refine al_d rfl rfl rfl (by exact opr_call rfl rfl Try.call15 rfl (text9_t hl _ hlo)) ?_
                  refine al_d rfl rfl rfl (by exact opd_move rfl rfl) ?_
                  refine al_d rfl rfl rfl (by exact opd_extract rfl rfl rfl) ?_
                  refine al_d rfl rfl rfl (by exact opd_extract rfl rfl rfl) ?_
                  refine al_d rfl rfl rfl (by exact opd_assign rfl rfl) ?_
                  refine al_d rfl rfl rfl (by exact opd_assign rfl rfl) ?_
                  refine al_nil ?_
                  refine awp_seq ?_
                  refine awp_region ?_
                  refine al_d rfl rfl rfl (by exact opd_move rfl rfl) ?_
                  refine al_d rfl rfl rfl (by exact opd_move rfl rfl) ?_
                  refine al_ond rfl rfl rfl (by first | rfl | assumption) rfl rfl (by exact opd_move rfl rfl) ?_
                  refine al_ond rfl rfl rfl (by first | rfl | assumption) rfl rfl (by exact opd_eql rfl rfl rfl) ?_
                  refine al_d rfl rfl rfl (by exact (by first | exact opd_pick_t rfl rfl rfl | exact opd_pick_f rfl rfl rfl | exact opd_pickt rfl rfl (by assumption) rfl | exact opd_pickf rfl rfl (by assumption) rfl | exact opd_pick rfl rfl rfl)) ?_
                  refine al_d rfl rfl rfl (by exact opd_move rfl rfl) ?_
                  refine al_ond rfl rfl rfl (by first | rfl | assumption) rfl rfl (by exact opd_move rfl rfl) ?_
                  refine al_ond rfl rfl rfl (by first | rfl | assumption) rfl rfl (by exact opd_move rfl rfl) ?_
                  refine al_ond rfl rfl rfl (by first | rfl | assumption) rfl rfl (by exact OpD.val (by exact opd_seql rfl rfl rfl) (hvv)) ?_
                  refine al_d rfl rfl rfl (by exact (by first | exact opd_pick_t rfl rfl rfl | exact opd_pick_f rfl rfl rfl | exact opd_pickt rfl rfl (by assumption) rfl | exact opd_pickf rfl rfl (by assumption) rfl | exact opd_pick rfl rfl rfl)) ?_
                  refine al_d rfl rfl rfl (by exact opd_move rfl rfl) ?_
                  refine al_ond rfl rfl rfl (by first | rfl | assumption) rfl rfl (by exact opd_move rfl rfl) ?_
                  refine al_ond rfl rfl rfl (by first | rfl | assumption) rfl rfl (by exact opr_call rfl rfl Try.call23 rfl (valid9_t hv _ hlo)) ?_
                  refine al_d rfl rfl rfl (by exact (by first | exact opd_pick_t rfl rfl rfl | exact opd_pick_f rfl rfl rfl | exact opd_pickt rfl rfl (by assumption) rfl | exact opd_pickf rfl rfl (by assumption) rfl | exact opd_pick rfl rfl rfl)) ?_
                  refine al_d rfl rfl rfl (by exact opd_assign rfl rfl) ?_
                  refine al_nil ?_
                  refine awp_ret ?_
                  -- return
                  refine aret1 (H' := []) (by first | exact .inr rfl | exact .inl rfl) rfl (rval_tmp rfl) (Fin.wk (by simp) trivial trivial) ?_
                  exact ⟨rfl, rfl⟩
          · skip
            (first | (cases hc11; done) | (revert hc11; simp; done) | (revert hc11; simp_all; done) | (revert hc11; simp_all; omega))
      · have hfb : decide (fb = 0) = false := decide_eq_false hf
        refine awp_skip ?_
        refine awp_seq ?_
        refine awp_region ?_
        refine al_d rfl rfl rfl (by exact opd_move rfl rfl) ?_
        refine al_d rfl rfl rfl (by exact opr_call rfl rfl Try.call15 rfl (text9_t e1 _ ha.1)) ?_
        refine al_d rfl rfl rfl (by exact opd_move rfl rfl) ?_
        refine al_d rfl rfl rfl (by exact opd_extract rfl rfl rfl) ?_
        refine al_d rfl rfl rfl (by exact opd_extract rfl rfl rfl) ?_
        refine al_d rfl rfl rfl (by exact opd_assign rfl rfl) ?_
        refine al_d rfl rfl rfl (by exact opd_assign rfl rfl) ?_
        refine al_nil ?_
        refine awp_seq ?_
        refine awp_region ?_
        refine al_d rfl rfl rfl (by exact opd_move rfl rfl) ?_
        refine al_d rfl rfl rfl (by exact opr_call rfl rfl Try.call15 rfl (text9_t hB _ hb.1)) ?_
        refine al_d rfl rfl rfl (by exact opd_move rfl rfl) ?_
        refine al_d rfl rfl rfl (by exact opd_extract rfl rfl rfl) ?_
        refine al_d rfl rfl rfl (by exact opd_extract rfl rfl rfl) ?_
        refine al_d rfl rfl rfl (by exact opd_assign rfl rfl) ?_
        refine al_d rfl rfl rfl (by exact opd_assign rfl rfl) ?_
        refine al_nil ?_
        refine awp_seq ?_
        refine awp_seq ?_
        refine awp_region ?_
        refine al_d rfl rfl rfl (by exact opd_move rfl rfl) ?_
        refine al_d rfl rfl rfl (by exact opd_eql rfl rfl rfl) ?_
        refine al_d rfl rfl rfl (by exact opd_move rfl rfl) ?_
        refine al_d rfl rfl rfl (by exact opr_call rfl rfl Try.call23 rfl (valid9v v1 _ ha.1)) ?_
        refine al_d rfl rfl rfl (by exact opd_beql rfl Try.underlying4 rfl rfl) ?_
        refine al_d rfl rfl rfl (by exact opd_move rfl rfl) ?_
        refine al_ond rfl rfl rfl (by first | rfl | assumption) rfl rfl (by exact opd_move rfl rfl) ?_
        refine al_ond rfl rfl rfl (by first | rfl | assumption) rfl rfl (by exact opd_neq rfl rfl rfl) ?_
        refine al_ond rfl rfl rfl (by first | rfl | assumption) rfl rfl (by exact opd_move rfl rfl) ?_
        refine al_off rfl rfl rfl (by first | rfl | assumption) rfl ?_
        refine al_off rfl rfl rfl (by first | rfl | assumption) rfl ?_
        refine al_ond rfl rfl rfl (by first | rfl | assumption) rfl rfl (by exact (by first | exact opd_pick_t rfl rfl rfl | exact opd_pick_f rfl rfl rfl | exact opd_pickt rfl rfl (by assumption) rfl | exact opd_pickf rfl rfl (by assumption) rfl | exact opd_pick rfl rfl rfl)) ?_
        refine al_d rfl rfl rfl (by exact (by first | exact opd_pick_t rfl rfl rfl | exact opd_pick_f rfl rfl rfl | exact opd_pickt rfl rfl (by assumption) rfl | exact opd_pickf rfl rfl (by assumption) rfl | exact opd_pick rfl rfl rfl)) ?_
        refine al_d rfl rfl rfl (by exact opd_move rfl rfl) ?_
        refine al_ond rfl rfl rfl (by first | rfl | assumption) rfl rfl (by exact opd_move rfl rfl) ?_
        refine al_ond rfl rfl rfl (by first | rfl | assumption) rfl rfl (by exact opd_neq rfl rfl rfl) ?_
        refine al_ond rfl rfl rfl (by first | rfl | assumption) rfl rfl (by exact opd_move rfl rfl) ?_
        refine al_off rfl rfl rfl (by first | rfl | assumption) rfl ?_
        refine al_off rfl rfl rfl (by first | rfl | assumption) rfl ?_
        refine al_ond rfl rfl rfl (by first | rfl | assumption) rfl rfl (by exact (by first | exact opd_pick_t rfl rfl rfl | exact opd_pick_f rfl rfl rfl | exact opd_pickt rfl rfl (by assumption) rfl | exact opd_pickf rfl rfl (by assumption) rfl | exact opd_pick rfl rfl rfl)) ?_
        refine al_ond rfl rfl rfl (by first | rfl | assumption) rfl rfl (by exact opd_move rfl rfl) ?_
        refine al_off rfl rfl rfl (by first | rfl | assumption) rfl ?_
        refine al_off rfl rfl rfl (by first | rfl | assumption) rfl ?_
        refine al_ond rfl rfl rfl (by first | rfl | assumption) rfl rfl (by exact (by first | exact opd_pick_t rfl rfl rfl | exact opd_pick_f rfl rfl rfl | exact opd_pickt rfl rfl (by assumption) rfl | exact opd_pickf rfl rfl (by assumption) rfl | exact opd_pick rfl rfl rfl)) ?_
        refine al_d rfl rfl rfl (by exact (by first | exact opd_pick_t rfl rfl rfl | exact opd_pick_f rfl rfl rfl | exact opd_pickt rfl rfl (by assumption) rfl | exact opd_pickf rfl rfl (by assumption) rfl | exact opd_pick rfl rfl rfl)) ?_
        refine al_nil ?_
        refine awp_cond rfl (fun hc15 => ?_) (fun hc15 => ?_)
        -- cond 15
        · skip
          (first | (cases hc15; done) | (revert hc15; simp; done) | (revert hc15; simp_all; done) | (revert hc15; simp_all; omega))
        · skip
          refine awp_skip ?_
          refine awp_seq ?_
          refine awp_seq ?_
          refine awp_region ?_
          refine al_d rfl rfl rfl (by exact opd_move rfl rfl) ?_
          refine al_d rfl rfl rfl (by exact opd_eql rfl rfl rfl) ?_
          refine al_nil ?_
          refine awp_cond rfl (fun hc16 => ?_) (fun hc16 => ?_)
          -- cond 16
          · skip
            refine awp_seq ?_
            refine awp_region ?_
            refine al_d rfl rfl rfl (by exact opd_move rfl rfl) ?_
            refine al_d rfl rfl rfl (by exact opr_call rfl rfl Try.call17 rfl (parse9_t p1 _ hsz hl1)) ?_
            refine al_d rfl rfl rfl (by exact opd_move rfl rfl) ?_
            refine al_d rfl rfl rfl (by exact opd_extract rfl rfl rfl) ?_
            refine al_d rfl rfl rfl (by exact opd_extract rfl rfl rfl) ?_
            refine al_d rfl rfl rfl (by exact opd_assign rfl rfl) ?_
            refine al_d rfl rfl rfl (by exact opd_assign rfl rfl) ?_
            refine al_nil ?_
            refine awp_seq ?_
            refine awp_region ?_
            refine al_d rfl rfl rfl (by exact opd_move rfl rfl) ?_
            refine al_d rfl rfl rfl (by exact opd_neq rfl rfl rfl) ?_
            refine al_d rfl rfl rfl (by exact opd_move rfl rfl) ?_
            refine al_ond rfl rfl rfl (by first | rfl | assumption) rfl rfl (by exact opd_move rfl rfl) ?_
            refine al_ond rfl rfl rfl (by first | rfl | assumption) rfl rfl (by exact opd_move rfl rfl) ?_
            refine al_ond rfl rfl rfl (by first | rfl | assumption) rfl rfl (by exact opr_call rfl rfl Try.call21 rfl (same9_t rfl _ (by omega))) ?_
            refine al_ond rfl rfl rfl (by first | rfl | assumption) rfl rfl (by exact opd_not rfl rfl) ?_
            refine al_d rfl rfl rfl (by exact (by first | exact opd_pick_t rfl rfl rfl | exact opd_pick_f rfl rfl rfl | exact opd_pickt rfl rfl (by assumption) rfl | exact opd_pickf rfl rfl (by assumption) rfl | exact opd_pick rfl rfl rfl)) ?_
            refine al_d rfl rfl rfl (by exact opd_move rfl rfl) ?_
            refine al_ond rfl rfl rfl (by first | rfl | assumption) rfl rfl (by exact opd_move rfl rfl) ?_
            refine al_ond rfl rfl rfl (by first | rfl | assumption) rfl rfl (by exact OpD.val (by exact opd_eql rfl rfl rfl) (hfb)) ?_
            refine al_ond rfl rfl rfl (by first | rfl | assumption) rfl rfl (by exact opd_move rfl rfl) ?_
            refine al_off rfl rfl rfl (by first | rfl | assumption) rfl ?_
            refine al_off rfl rfl rfl (by first | rfl | assumption) rfl ?_
            refine al_off rfl rfl rfl (by first | rfl | assumption) rfl ?_
            refine al_off rfl rfl rfl (by first | rfl | assumption) rfl ?_
            refine al_off rfl rfl rfl (by first | rfl | assumption) rfl ?_
            refine al_off rfl rfl rfl (by first | rfl | assumption) rfl ?_
            refine al_off rfl rfl rfl (by first | rfl | assumption) rfl ?_
            refine al_ond rfl rfl rfl (by first | rfl | assumption) rfl rfl (by exact (by first | exact opd_pick_t rfl rfl rfl | exact opd_pick_f rfl rfl rfl | exact opd_pickt rfl rfl (by assumption) rfl | exact opd_pickf rfl rfl (by assumption) rfl | exact opd_pick rfl rfl rfl)) ?_
            refine al_d rfl rfl rfl (by exact (by first | exact opd_pick_t rfl rfl rfl | exact opd_pick_f rfl rfl rfl | exact opd_pickt rfl rfl (by assumption) rfl | exact opd_pickf rfl rfl (by assumption) rfl | exact opd_pick rfl rfl rfl)) ?_
            refine al_nil ?_
            refine awp_cond rfl (fun hc17 => ?_) (fun hc17 => ?_)
            -- cond 17
            · skip
              (first | (cases hc17; done) | (revert hc17; simp; done) | (revert hc17; simp_all; done) | (revert hc17; simp_all; omega))
            · skip
              refine awp_skip ?_
              refine awp_seq ?_
              -- before the slot
              rcases parse_cases (s := text) (by omega) with hp | ⟨l, hp, hl, hv⟩
              · skip
                refine awp_region ?_
                refine al_d rfl rfl rfl (by exact opd_move rfl rfl) ?_
                refine al_d rfl rfl rfl (by exact opr_call rfl rfl Try.call17 rfl (parse9_t hp _ ht (fun l h => lex_ok ht h))) ?_
                refine al_d rfl rfl rfl (by exact opd_move rfl rfl) ?_
                refine al_d rfl rfl rfl (by exact opd_extract rfl rfl rfl) ?_
                refine al_d rfl rfl rfl (by exact opd_extract rfl rfl rfl) ?_
                refine al_d rfl rfl rfl (by exact opd_assign rfl rfl) ?_
                refine al_d rfl rfl rfl (by exact opd_assign rfl rfl) ?_
                refine al_nil ?_
                refine awp_seq ?_
                refine awp_seq ?_
                refine awp_region ?_
                refine al_d rfl rfl rfl (by exact opd_move rfl rfl) ?_
                refine al_d rfl rfl rfl (by exact opd_neq rfl rfl rfl) ?_
                refine al_nil ?_
                refine awp_cond rfl (fun hc18 => ?_) (fun hc18 => ?_)
                -- cond 18
                · skip
                  refine awp_seq ?_
                  refine awp_region ?_
                  refine al_d rfl rfl rfl (by exact opd_move rfl rfl) ?_
                  refine al_d rfl rfl rfl (by exact opd_move rfl rfl) ?_
                  refine al_ond rfl rfl rfl (by first | rfl | assumption) rfl rfl (by exact opd_move rfl rfl) ?_
                  refine al_ond rfl rfl rfl (by first | rfl | assumption) rfl rfl (by exact opd_eql rfl rfl rfl) ?_
                  refine al_d rfl rfl rfl (by exact (by first | exact opd_pick_t rfl rfl rfl | exact opd_pick_f rfl rfl rfl | exact opd_pickt rfl rfl (by assumption) rfl | exact opd_pickf rfl rfl (by assumption) rfl | exact opd_pick rfl rfl rfl)) ?_
                  refine al_d rfl rfl rfl (by exact opd_move rfl rfl) ?_
                  refine al_ond rfl rfl rfl (by first | rfl | assumption) rfl rfl (by exact opd_move rfl rfl) ?_
                  refine al_ond rfl rfl rfl (by first | rfl | assumption) rfl rfl (by exact (by first | exact opd_len_sl rfl Try.underlying22 rfl | exact opd_len_osl rfl Try.underlying22 rfl rfl rfl)) ?_
                  refine al_ond rfl rfl rfl (by first | rfl | assumption) rfl rfl (by exact opd_eql rfl rfl rfl) ?_
                  refine al_d rfl rfl rfl (by exact (by first | exact opd_pick_t rfl rfl rfl | exact opd_pick_f rfl rfl rfl | exact opd_pickt rfl rfl (by assumption) rfl | exact opd_pickf rfl rfl (by assumption) rfl | exact opd_pick rfl rfl rfl)) ?_
                  refine al_d rfl rfl rfl (by exact opd_assign rfl rfl) ?_
                  refine al_nil ?_
                  refine awp_ret ?_
                  -- return
                  refine aret1 (H' := []) (by first | exact .inr rfl | exact .inl rfl) rfl (rval_tmp rfl) (Fin.wk (by simp) trivial trivial) ?_
                  exact ⟨rfl, rfl⟩
                · skip
                  (first | (cases hc18; done) | (revert hc18; simp; done) | (revert hc18; simp_all; done) | (revert hc18; simp_all; omega))
              · obtain ⟨g1, g2, g3⟩ := gTags_iff.1 hv
                have hlo : okTags l := ⟨by omega, fun t ht => ⟨by have := gName_size (g1 t ht).1; omega, by have := (g1 t ht).2.2; omega⟩⟩
                refine awp_region ?_
                refine al_d rfl rfl rfl (by exact opd_move rfl rfl) ?_
                refine al_d rfl rfl rfl (by exact opr_call rfl rfl Try.call17 rfl (parse9_t hp _ ht (fun l h => lex_ok ht h))) ?_
                refine al_d rfl rfl rfl (by exact opd_move rfl rfl) ?_
                refine al_d rfl rfl rfl (by exact opd_extract rfl rfl rfl) ?_
                refine al_d rfl rfl rfl (by exact opd_extract rfl rfl rfl) ?_
                refine al_d rfl rfl rfl (by exact opd_assign rfl rfl) ?_
                refine al_d rfl rfl rfl (by exact opd_assign rfl rfl) ?_
                refine al_nil ?_
                refine awp_seq ?_
                refine awp_seq ?_
                refine awp_region ?_
                refine al_d rfl rfl rfl (by exact opd_move rfl rfl) ?_
                refine al_d rfl rfl rfl (by exact opd_neq rfl rfl rfl) ?_
                refine al_nil ?_
                refine awp_cond rfl (fun hc19 => ?_) (fun hc19 => ?_)
                -- cond 19
                · skip
                  (first | (cases hc19; done) | (revert hc19; simp; done) | (revert hc19; simp_all; done) | (revert hc19; simp_all; omega))
                · skip
                  refine awp_skip ?_
                  refine awp_seq ?_
                  refine awp_region ?_
                  refine al_d rfl rfl rfl (by exact opd_move rfl rfl) ?_
                  refine al_d rfl rfl rfl (by exact opr_call rfl rfl Try.call15 rfl (text9_t hl _ hlo)) ?_
                  refine al_d rfl rfl rfl (by exact opd_move rfl rfl) ?_
                  refine al_d rfl rfl rfl (by exact opd_extract rfl rfl rfl) ?_
                  refine al_d rfl rfl rfl (by exact opd_extract rfl rfl rfl) ?_
                  refine al_d rfl rfl rfl (by exact opd_assign rfl rfl) ?_
                  refine al_d rfl rfl rfl (by exact opd_assign rfl rfl) ?_
                  refine al_nil ?_
                  refine awp_seq ?_
                  refine awp_region ?_
                  refine al_d rfl rfl rfl (by exact opd_move rfl rfl) ?_
                  refine al_d rfl rfl rfl (by exact opd_move rfl rfl) ?_
                  refine al_ond rfl rfl rfl (by first | rfl | assumption) rfl rfl (by exact opd_move rfl rfl) ?_
                  refine al_ond rfl rfl rfl (by first | rfl | assumption) rfl rfl (by exact opd_eql rfl rfl rfl) ?_
                  refine al_d rfl rfl rfl (by exact (by first | exact opd_pick_t rfl rfl rfl | exact opd_pick_f rfl rfl rfl | exact opd_pickt rfl rfl (by assumption) rfl | exact opd_pickf rfl rfl (by assumption) rfl | exact opd_pick rfl rfl rfl)) ?_
                  refine al_d rfl rfl rfl (by exact opd_move rfl rfl) ?_
                  refine al_ond rfl rfl rfl (by first | rfl | assumption) rfl rfl (by exact opd_move rfl rfl) ?_
                  refine al_ond rfl rfl rfl (by first | rfl | assumption) rfl rfl (by exact opd_move rfl rfl) ?_
                  refine al_ond rfl rfl rfl (by first | rfl | assumption) rfl rfl (by exact OpD.val (by exact opd_seql rfl rfl rfl) (hvv)) ?_
                  refine al_d rfl rfl rfl (by exact (by first | exact opd_pick_t rfl rfl rfl | exact opd_pick_f rfl rfl rfl | exact opd_pickt rfl rfl (by assumption) rfl | exact opd_pickf rfl rfl (by assumption) rfl | exact opd_pick rfl rfl rfl)) ?_
                  refine al_d rfl rfl rfl (by exact opd_move rfl rfl) ?_
                  refine al_ond rfl rfl rfl (by first | rfl | assumption) rfl rfl (by exact opd_move rfl rfl) ?_
                  refine al_ond rfl rfl rfl (by first | rfl | assumption) rfl rfl (by exact opr_call rfl rfl Try.call23 rfl (valid9_t hv _ hlo)) ?_
                  refine al_d rfl rfl rfl (by exact (by first | exact opd_pick_t rfl rfl rfl | exact opd_pick_f rfl rfl rfl | exact opd_pickt rfl rfl (by assumption) rfl | exact opd_pickf rfl rfl (by assumption) rfl | exact opd_pick rfl rfl rfl)) ?_
                  refine al_d rfl rfl rfl (by exact opd_assign rfl rfl) ?_
                  refine al_nil ?_
                  refine awp_ret ?_
                  -- return
                  refine aret1 (H' := []) (by first | exact .inr rfl | exact .inl rfl) rfl (rval_tmp rfl) (Fin.wk (by simp) trivial trivial) ?_
                  exact ⟨rfl, rfl⟩
          · skip
            (first | (cases hc16; done) | (revert hc16; simp; done) | (revert hc16; simp_all; done) | (revert hc16; simp_all; omega))
end Go.Proofs.Ytedfihgkopejcaa
end
