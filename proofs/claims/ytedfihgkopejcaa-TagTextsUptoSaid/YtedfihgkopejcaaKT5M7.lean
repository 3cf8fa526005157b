/-
  CONTRACTS: lexer.Lex. Conditions: lengths below 2^40.
  CONTRACTS: slices.Chunk, tag.Parse. Conditions: lengths below 2^40.
  slices.Sort OF AN OWNED SLICE OF TEXTS: the library's contract, carried over. Conditions: lengths below 2^62.
  slices.Sort at this program: the library's contract laid. Conditions: lengths below 2^62.
  CONTRACTS: maps.Keys, slices.Sorted; equal arrays of texts. Conditions: lengths below 2^40.
-/
import Derived.Test.YtedfihgkopejcaaKT5M6
import Derived.Shelf.SortM.Plain
import Derived.Shelf.SortM.SortNone
import Derived.Ground.SlgmProg
import Derived.DeepKeys
section
set_option linter.unusedVariables false
set_option linter.unusedSimpArgs false
set_option maxRecDepth 100000
namespace Go.Proofs.Ytedfihgkopejcaa
open Go.Abs
def encTok (f : GFound) : List PV := [.int .i64 f.kind, .str f.text, .int .i64 f.pos]
def slToks (l : List GFound) : PV := .sl (l.map encTok)
def tkRows (l : List GFound) : List (List AV) := l.map fun f => (encTok f).map AV.pv
theorem tkRows_len (l : List GFound) : (tkRows l).length = l.length := List.length_map _
theorem tkRows_app (l : List GFound) (f : GFound) : tkRows l ++ [(encTok f).map AV.pv] = tkRows (l ++ [f]) := by rw [tkRows, tkRows, List.map_append]; rfl
theorem tkRows_clo (H : Heap) (l : List GFound) : ∀ r ∈ tkRows l, ∀ a ∈ r, Clo H a := by
  intro r hr a ha
  obtain ⟨d, _, rfl⟩ := List.mem_map.1 hr
  obtain ⟨p, _, rfl⟩ := List.mem_map.1 ha
  simp
theorem tA_clo {H : Heap} (h1 : (H.get 921).isSome = true) (h2 : (H.get 923).isSome = true) : ∀ r ∈ tA.rows, ∀ a ∈ r, Clo H a := by
  intro r hr a ha
  simp only [tA, bx, List.mem_singleton] at hr
  subst hr
  rw [List.mem_singleton] at ha
  subst ha
  simp [h1, h2]
theorem tS_clo (H : Heap) (s : ByteArray) : ∀ r ∈ (tS s).rows, ∀ a ∈ r, Clo H a := by
  intro r hr a ha
  simp only [tS, bx, List.mem_singleton] at hr
  subst hr
  rw [List.mem_singleton] at ha
  subst ha
  simp

def lexRun : List GFound → List GFound → List GFound × Int × Int
  | acc, [] => (acc, 0, 0)
  | acc, f :: r => if f.err ≠ 0 then ([], f.err, f.pos) else if acc.length = 5000 then ([], 2, f.pos) else lexRun (acc ++ [f]) r
/-- The tokens of a text, or an error and its place. -/
def gLex (s : ByteArray) : List GFound × Int × Int := if 20000 < s.size then ([], 2, -1) else lexRun [] (gToks s (s.size + 1) 0)
def okAt (ds : List GFound) (k : Nat) : Bool := match ds[k]? with
  | some f => decide (f.err = 0) && !decide (k = 5000)
  | none => true
theorem lexRun_to {ds : List GFound} : ∀ {k : Nat}, k ≤ ds.length → (∀ j, j < k → okAt ds j = true) → lexRun [] ds = lexRun (ds.take k) (ds.drop k)
  | 0, _, _ => rfl
  | k + 1, hk, h => by
    rw [lexRun_to (Nat.le_of_succ_le hk) (fun j hj => h j (by omega))]
    have hd : ds.drop k = ds[k] :: ds.drop (k + 1) := List.drop_eq_getElem_cons hk
    have hok := h k (Nat.lt_succ_self k)
    rw [okAt, List.getElem?_eq_getElem hk] at hok
    simp only [Bool.and_eq_true, decide_eq_true_eq, Bool.not_eq_true', decide_eq_false_iff_not] at hok
    have htl : (ds.take k).length = k := by rw [List.length_take]; omega
    rw [hd, lexRun, if_neg (fun h => h hok.1), if_neg (by rw [htl]; exact hok.2), List.take_add_one, List.getElem?_eq_getElem hk]
    rfl
theorem toks_len (s : ByteArray) : ∀ (n i : Nat), (gToks s n i).length ≤ n
  | 0, _ => Nat.zero_le _
  | n + 1, i => by
    rw [gToks]
    split
    · split
      · exact Nat.le_succ_of_le (toks_len s n _)
      · rw [List.length_cons]
        split
        · exact Nat.succ_le_succ (toks_len s n _)
        · exact Nat.succ_le_succ (Nat.zero_le _)
    · exact Nat.zero_le _
def kL (s : ByteArray) (L : List GFound) (a : AV) (e p : Int) : Heap := [(905, ⟨L.length, 3, 78, tkRows L⟩), (5, bx 1 71 [.osl 905 L.length 0 L.length]), (924, tA), (923, tC), (921, tS s), (4, bx 1 3 [iv p]), (3, bx 1 25 [iv e]), (2, bx 1 71 [a])]
theorem kL_app (s : ByteArray) (L : List GFound) (f : GFound) (a : AV) (e p : Int) : kL s (L ++ [f]) a e p = [(905, ⟨L.length + 1, 3, 78, tkRows (L ++ [f])⟩), (5, bx 1 71 [.osl 905 (L.length + 1) 0 (L.length + 1)]), (924, tA), (923, tC), (921, tS s), (4, bx 1 3 [iv p]), (3, bx 1 25 [iv e]), (2, bx 1 71 [a])] := by simp [kL]
/-- What a range over the tokens keeps of the frame. -/
def lexE : Env := [(2, .ref 2 0 0 0), (3, .ref 3 0 0 0), (4, .ref 4 0 0 0), (5, .ref 5 0 0 0)]
theorem okAt_iff {ds : List GFound} {k : Nat} {f : GFound} (h : ds[k]? = some f) : okAt ds k = (decide (f.err = 0) && !decide (k = 5000)) := by rw [okAt, h]
theorem lex_c (s : ByteArray) (H : Heap) (hs : s.size < 1099511627776) : ACalls Try.prog 43 [sv s] H (fun r H' => r = .tup [.pv (slToks (gLex s).1), iv (gLex s).2.1, iv (gLex s).2.2] ∧ H' = H) := by
  refine ACalls.pure ?_ (by simp) H
  refine ACalls.body Try.func43 rfl Try.ntmps43 (Nat.le_of_ble_eq_true rfl) ?_
  refine awp_seq ?_
  refine awp_region ?_
  refine al_d rfl rfl rfl (by exact x_alloc (id := 2) rfl zo71 rfl rfl) ?_
  refine al_d rfl rfl rfl (by exact x_alloc (id := 3) rfl zo25 rfl rfl) ?_
  refine al_d rfl rfl rfl (by exact x_alloc (id := 4) rfl zo3 rfl rfl) ?_
  refine al_nil ?_
  refine awp_seq ?_
  refine awp_seq ?_
  refine awp_region ?_
  refine al_d rfl rfl rfl (by exact opd_move rfl rfl) ?_
  refine al_d rfl rfl rfl (by exact opd_len_str rfl Try.underlying9 rfl) ?_
  refine al_d rfl rfl rfl (by exact opd_gtr rfl rfl rfl) ?_
  refine al_nil ?_
  refine awp_cond rfl (fun hc1 => ?_) (fun hc1 => ?_)
  -- cond 1
  · have e : gLex s = ([], 2, -1) := by rw [gLex, if_pos (by have := of_decide_eq_true hc1; omega)]
    rw [e]
    refine awp_seq ?_
    refine awp_region ?_
    refine al_n rfl rfl (by exact (by first | exact x_store_all rfl Try.sizeOf71 rfl rfl rfl rfl rfl rfl rfl rfl | exact x_store1 rfl Try.sizeOf71 rfl rfl rfl rfl rfl rfl (by simp only [List.length_cons, List.length_nil]; omega) (by simp only [List.drop_succ_cons, List.drop_zero, List.take_succ_cons, List.take_zero, List.take_nil, List.map_cons, List.map_nil, List.set_cons_zero, List.set_cons_succ, List.cons_append, List.nil_append, encFound, encTok]; rfl) (by simp only [List.drop_succ_cons, List.drop_zero, List.take_succ_cons, List.take_zero, List.take_nil, List.map_cons, List.map_nil, List.set_cons_zero, List.set_cons_succ, List.cons_append, List.nil_append, encFound, encTok]; rfl) | exact x_store1 rfl Try.sizeOf71 rfl rfl rfl rfl rfl rfl (Nat.le_of_ble_eq_true rfl) rfl rfl)) ?_
    refine al_n rfl rfl (by exact (by first | exact x_store_all rfl Try.sizeOf25 rfl rfl rfl rfl rfl rfl rfl rfl | exact x_store1 rfl Try.sizeOf25 rfl rfl rfl rfl rfl rfl (by simp only [List.length_cons, List.length_nil]; omega) (by simp only [List.drop_succ_cons, List.drop_zero, List.take_succ_cons, List.take_zero, List.take_nil, List.map_cons, List.map_nil, List.set_cons_zero, List.set_cons_succ, List.cons_append, List.nil_append, encFound, encTok]; rfl) (by simp only [List.drop_succ_cons, List.drop_zero, List.take_succ_cons, List.take_zero, List.take_nil, List.map_cons, List.map_nil, List.set_cons_zero, List.set_cons_succ, List.cons_append, List.nil_append, encFound, encTok]; rfl) | exact x_store1 rfl Try.sizeOf25 rfl rfl rfl rfl rfl rfl (Nat.le_of_ble_eq_true rfl) rfl rfl)) ?_
    refine al_n rfl rfl (by exact (by first | exact x_store_all rfl Try.sizeOf3 rfl rfl rfl rfl rfl rfl rfl rfl | exact x_store1 rfl Try.sizeOf3 rfl rfl rfl rfl rfl rfl (by simp only [List.length_cons, List.length_nil]; omega) (by simp only [List.drop_succ_cons, List.drop_zero, List.take_succ_cons, List.take_zero, List.take_nil, List.map_cons, List.map_nil, List.set_cons_zero, List.set_cons_succ, List.cons_append, List.nil_append, encFound, encTok]; rfl) (by simp only [List.drop_succ_cons, List.drop_zero, List.take_succ_cons, List.take_zero, List.take_nil, List.map_cons, List.map_nil, List.set_cons_zero, List.set_cons_succ, List.cons_append, List.nil_append, encFound, encTok]; rfl) | exact x_store1 rfl Try.sizeOf3 rfl rfl rfl rfl rfl rfl (Nat.le_of_ble_eq_true rfl) rfl rfl)) ?_
    refine al_nil ?_
    refine awp_ret ?_
    -- return
    refine aret3 (H' := []) (by first | exact .inr rfl | exact .inl rfl) rfl (rval_cell1 rfl Try.isAgg71 rfl rfl rfl rfl) (rval_cell1 rfl Try.isAgg25 rfl rfl rfl rfl) (rval_cell1 rfl Try.isAgg3 rfl rfl rfl rfl) (Fin.wk (by simp) trivial trivial) ?_
    exact ⟨rfl, rfl⟩
  · have hsz : ¬ 20000 < s.size := by have := of_decide_eq_false hc1; omega
    obtain ⟨ds, hds⟩ : ∃ ds, ds = gToks s (s.size + 1) 0 := ⟨_, rfl⟩
    have hg : gLex s = lexRun [] ds := by rw [gLex, if_neg hsz, hds]
    refine awp_skip ?_
    refine awp_seq ?_
    refine awp_region ?_
    refine al_d rfl rfl rfl (by exact x_alloc (id := 5) rfl zoN71 rfl rfl) ?_
    refine al_nil ?_
    refine awp_seq ?_
    refine awp_seq ?_
    refine awp_region ?_
    refine al_d rfl rfl rfl (by exact opd_move rfl rfl) ?_
    refine al_d rfl rfl rfl (by exact opr_call rfl rfl Try.call60 rfl (tokens_c s _ rfl rfl rfl (Closed.ofL ⟨(by first | (simp; done) | (simp; rfl) | (simp; exact ⟨rfl, rfl⟩) | (simp [LR]; done) | (simp [LR]; rfl) | (simp [LR]; exact ⟨rfl, rfl, rfl, rfl⟩) | exact clsA_clo _ | exact LR_clo (by simp [lexE]; exact ⟨rfl, rfl, rfl, rfl⟩) | exact tA_clo rfl rfl | exact tS_clo _ _ | exact tkRows_clo _ _ | exact tF_clo _ _), (by first | (simp; done) | (simp; rfl) | (simp; exact ⟨rfl, rfl⟩) | (simp [LR]; done) | (simp [LR]; rfl) | (simp [LR]; exact ⟨rfl, rfl, rfl, rfl⟩) | exact clsA_clo _ | exact LR_clo (by simp [lexE]; exact ⟨rfl, rfl, rfl, rfl⟩) | exact tA_clo rfl rfl | exact tS_clo _ _ | exact tkRows_clo _ _ | exact tF_clo _ _), (by first | (simp; done) | (simp; rfl) | (simp; exact ⟨rfl, rfl⟩) | (simp [LR]; done) | (simp [LR]; rfl) | (simp [LR]; exact ⟨rfl, rfl, rfl, rfl⟩) | exact clsA_clo _ | exact LR_clo (by simp [lexE]; exact ⟨rfl, rfl, rfl, rfl⟩) | exact tA_clo rfl rfl | exact tS_clo _ _ | exact tkRows_clo _ _ | exact tF_clo _ _), (by first | (simp; done) | (simp; rfl) | (simp; exact ⟨rfl, rfl⟩) | (simp [LR]; done) | (simp [LR]; rfl) | (simp [LR]; exact ⟨rfl, rfl, rfl, rfl⟩) | exact clsA_clo _ | exact LR_clo (by simp [lexE]; exact ⟨rfl, rfl, rfl, rfl⟩) | exact tA_clo rfl rfl | exact tS_clo _ _ | exact tkRows_clo _ _ | exact tF_clo _ _), trivial⟩))) ?_
    refine al_nil ?_
    refine awp_block ?_
    -- range
    refine AWp.ent (E' := [(2, .ref 2 0 0 0), (3, .ref 3 0 0 0), (4, .ref 4 0 0 0), (5, .ref 5 0 0 0), (11, .clo 74 [.ref 921 0 0 0, .ref 924 0 0 0])]) (H' := [(905, ⟨0, 3, 78, []⟩), (5, bx 1 71 [.osl 905 0 0 0]), (924, tA), (923, tC), (921, tS s), (4, bx 1 3 [iv 0]), (3, bx 1 25 [iv 0]), (2, bx 1 71 [.pv (.sl [])])]) ?_ ?_
    · exact (Ent.nz 905 3 78 rfl rfl ⟨⟨_, rfl, (by first | exact Nz.own | exact Nz.weak | exact Nz.same (by first | (simp; done) | (simp; rfl) | (simp; exact ⟨rfl, rfl⟩) | (simp [LR]; done) | (simp [LR]; rfl) | (simp [LR]; exact ⟨rfl, rfl, rfl, rfl⟩) | exact clsA_clo _ | exact LR_clo (by simp [lexE]; exact ⟨rfl, rfl, rfl, rfl⟩) | exact tA_clo rfl rfl | exact tS_clo _ _ | exact tkRows_clo _ _ | exact tF_clo _ _))⟩, ⟨_, rfl, (by first | exact Nz.own | exact Nz.weak | exact Nz.same (by first | (simp; done) | (simp; rfl) | (simp; exact ⟨rfl, rfl⟩) | (simp [LR]; done) | (simp [LR]; rfl) | (simp [LR]; exact ⟨rfl, rfl, rfl, rfl⟩) | exact clsA_clo _ | exact LR_clo (by simp [lexE]; exact ⟨rfl, rfl, rfl, rfl⟩) | exact tA_clo rfl rfl | exact tS_clo _ _ | exact tkRows_clo _ _ | exact tF_clo _ _))⟩, ⟨_, rfl, (by first | exact Nz.own | exact Nz.weak | exact Nz.same (by first | (simp; done) | (simp; rfl) | (simp; exact ⟨rfl, rfl⟩) | (simp [LR]; done) | (simp [LR]; rfl) | (simp [LR]; exact ⟨rfl, rfl, rfl, rfl⟩) | exact clsA_clo _ | exact LR_clo (by simp [lexE]; exact ⟨rfl, rfl, rfl, rfl⟩) | exact tA_clo rfl rfl | exact tS_clo _ _ | exact tkRows_clo _ _ | exact tF_clo _ _))⟩, ⟨_, rfl, (by first | exact Nz.own | exact Nz.weak | exact Nz.same (by first | (simp; done) | (simp; rfl) | (simp; exact ⟨rfl, rfl⟩) | (simp [LR]; done) | (simp [LR]; rfl) | (simp [LR]; exact ⟨rfl, rfl, rfl, rfl⟩) | exact clsA_clo _ | exact LR_clo (by simp [lexE]; exact ⟨rfl, rfl, rfl, rfl⟩) | exact tA_clo rfl rfl | exact tS_clo _ _ | exact tkRows_clo _ _ | exact tF_clo _ _))⟩, ⟨_, rfl, (by first | exact Nz.own | exact Nz.weak | exact Nz.same (by first | (simp; done) | (simp; rfl) | (simp; exact ⟨rfl, rfl⟩) | (simp [LR]; done) | (simp [LR]; rfl) | (simp [LR]; exact ⟨rfl, rfl, rfl, rfl⟩) | exact clsA_clo _ | exact LR_clo (by simp [lexE]; exact ⟨rfl, rfl, rfl, rfl⟩) | exact tA_clo rfl rfl | exact tS_clo _ _ | exact tkRows_clo _ _ | exact tF_clo _ _))⟩, trivial⟩ ⟨⟨_, rfl, rfl, rfl, rfl, (by first | exact .inl ⟨rfl, (by first | (simp; done) | (simp; rfl) | (simp; exact ⟨rfl, rfl⟩) | (simp [LR]; done) | (simp [LR]; rfl) | (simp [LR]; exact ⟨rfl, rfl, rfl, rfl⟩) | exact clsA_clo _ | exact LR_clo (by simp [lexE]; exact ⟨rfl, rfl, rfl, rfl⟩) | exact tA_clo rfl rfl | exact tS_clo _ _ | exact tkRows_clo _ _ | exact tF_clo _ _)⟩ | exact .inr ⟨_, _, rfl, rfl, (by repeat (first | exact trivial | refine ⟨(by first | exact Nz.own | exact Nz.weak | exact Nz.same (by first | (simp; done) | (simp; rfl) | (simp; exact ⟨rfl, rfl⟩) | (simp [LR]; done) | (simp [LR]; rfl) | (simp [LR]; exact ⟨rfl, rfl, rfl, rfl⟩) | exact clsA_clo _ | exact LR_clo (by simp [lexE]; exact ⟨rfl, rfl, rfl, rfl⟩) | exact tA_clo rfl rfl | exact tS_clo _ _ | exact tkRows_clo _ _ | exact tF_clo _ _)), ?_⟩))⟩)⟩, ⟨_, rfl, rfl, rfl, rfl, (by first | exact .inl ⟨rfl, (by first | (simp; done) | (simp; rfl) | (simp; exact ⟨rfl, rfl⟩) | (simp [LR]; done) | (simp [LR]; rfl) | (simp [LR]; exact ⟨rfl, rfl, rfl, rfl⟩) | exact clsA_clo _ | exact LR_clo (by simp [lexE]; exact ⟨rfl, rfl, rfl, rfl⟩) | exact tA_clo rfl rfl | exact tS_clo _ _ | exact tkRows_clo _ _ | exact tF_clo _ _)⟩ | exact .inr ⟨_, _, rfl, rfl, (by repeat (first | exact trivial | refine ⟨(by first | exact Nz.own | exact Nz.weak | exact Nz.same (by first | (simp; done) | (simp; rfl) | (simp; exact ⟨rfl, rfl⟩) | (simp [LR]; done) | (simp [LR]; rfl) | (simp [LR]; exact ⟨rfl, rfl, rfl, rfl⟩) | exact clsA_clo _ | exact LR_clo (by simp [lexE]; exact ⟨rfl, rfl, rfl, rfl⟩) | exact tA_clo rfl rfl | exact tS_clo _ _ | exact tkRows_clo _ _ | exact tF_clo _ _)), ?_⟩))⟩)⟩, ⟨_, rfl, rfl, rfl, rfl, (by first | exact .inl ⟨rfl, (by first | (simp; done) | (simp; rfl) | (simp; exact ⟨rfl, rfl⟩) | (simp [LR]; done) | (simp [LR]; rfl) | (simp [LR]; exact ⟨rfl, rfl, rfl, rfl⟩) | exact clsA_clo _ | exact LR_clo (by simp [lexE]; exact ⟨rfl, rfl, rfl, rfl⟩) | exact tA_clo rfl rfl | exact tS_clo _ _ | exact tkRows_clo _ _ | exact tF_clo _ _)⟩ | exact .inr ⟨_, _, rfl, rfl, (by repeat (first | exact trivial | refine ⟨(by first | exact Nz.own | exact Nz.weak | exact Nz.same (by first | (simp; done) | (simp; rfl) | (simp; exact ⟨rfl, rfl⟩) | (simp [LR]; done) | (simp [LR]; rfl) | (simp [LR]; exact ⟨rfl, rfl, rfl, rfl⟩) | exact clsA_clo _ | exact LR_clo (by simp [lexE]; exact ⟨rfl, rfl, rfl, rfl⟩) | exact tA_clo rfl rfl | exact tS_clo _ _ | exact tkRows_clo _ _ | exact tF_clo _ _)), ?_⟩))⟩)⟩, ⟨_, rfl, rfl, rfl, rfl, (by first | exact .inl ⟨rfl, (by first | (simp; done) | (simp; rfl) | (simp; exact ⟨rfl, rfl⟩) | (simp [LR]; done) | (simp [LR]; rfl) | (simp [LR]; exact ⟨rfl, rfl, rfl, rfl⟩) | exact clsA_clo _ | exact LR_clo (by simp [lexE]; exact ⟨rfl, rfl, rfl, rfl⟩) | exact tA_clo rfl rfl | exact tS_clo _ _ | exact tkRows_clo _ _ | exact tF_clo _ _)⟩ | exact .inr ⟨_, _, rfl, rfl, (by repeat (first | exact trivial | refine ⟨(by first | exact Nz.own | exact Nz.weak | exact Nz.same (by first | (simp; done) | (simp; rfl) | (simp; exact ⟨rfl, rfl⟩) | (simp [LR]; done) | (simp [LR]; rfl) | (simp [LR]; exact ⟨rfl, rfl, rfl, rfl⟩) | exact clsA_clo _ | exact LR_clo (by simp [lexE]; exact ⟨rfl, rfl, rfl, rfl⟩) | exact tA_clo rfl rfl | exact tS_clo _ _ | exact tkRows_clo _ _ | exact tF_clo _ _)), ?_⟩))⟩)⟩, ⟨_, rfl, rfl, rfl, rfl, (by first | exact .inl ⟨rfl, (by first | (simp; done) | (simp; rfl) | (simp; exact ⟨rfl, rfl⟩) | (simp [LR]; done) | (simp [LR]; rfl) | (simp [LR]; exact ⟨rfl, rfl, rfl, rfl⟩) | exact clsA_clo _ | exact LR_clo (by simp [lexE]; exact ⟨rfl, rfl, rfl, rfl⟩) | exact tA_clo rfl rfl | exact tS_clo _ _ | exact tkRows_clo _ _ | exact tF_clo _ _)⟩ | exact .inr ⟨_, _, rfl, rfl, (by repeat (first | exact trivial | refine ⟨(by first | exact Nz.own | exact Nz.weak | exact Nz.same (by first | (simp; done) | (simp; rfl) | (simp; exact ⟨rfl, rfl⟩) | (simp [LR]; done) | (simp [LR]; rfl) | (simp [LR]; exact ⟨rfl, rfl, rfl, rfl⟩) | exact clsA_clo _ | exact LR_clo (by simp [lexE]; exact ⟨rfl, rfl, rfl, rfl⟩) | exact tA_clo rfl rfl | exact tS_clo _ _ | exact tkRows_clo _ _ | exact tF_clo _ _)), ?_⟩))⟩)⟩, ⟨_, rfl, rfl, rfl, rfl, (by first | exact .inl ⟨rfl, (by first | (simp; done) | (simp; rfl) | (simp; exact ⟨rfl, rfl⟩) | (simp [LR]; done) | (simp [LR]; rfl) | (simp [LR]; exact ⟨rfl, rfl, rfl, rfl⟩) | exact clsA_clo _ | exact LR_clo (by simp [lexE]; exact ⟨rfl, rfl, rfl, rfl⟩) | exact tA_clo rfl rfl | exact tS_clo _ _ | exact tkRows_clo _ _ | exact tF_clo _ _)⟩ | exact .inr ⟨_, _, rfl, rfl, (by repeat (first | exact trivial | refine ⟨(by first | exact Nz.own | exact Nz.weak | exact Nz.same (by first | (simp; done) | (simp; rfl) | (simp; exact ⟨rfl, rfl⟩) | (simp [LR]; done) | (simp [LR]; rfl) | (simp [LR]; exact ⟨rfl, rfl, rfl, rfl⟩) | exact clsA_clo _ | exact LR_clo (by simp [lexE]; exact ⟨rfl, rfl, rfl, rfl⟩) | exact tA_clo rfl rfl | exact tS_clo _ _ | exact tkRows_clo _ _ | exact tF_clo _ _)), ?_⟩))⟩)⟩, ⟨_, rfl, rfl, rfl, rfl, (by first | exact .inl ⟨rfl, (by first | (simp; done) | (simp; rfl) | (simp; exact ⟨rfl, rfl⟩) | (simp [LR]; done) | (simp [LR]; rfl) | (simp [LR]; exact ⟨rfl, rfl, rfl, rfl⟩) | exact clsA_clo _ | exact LR_clo (by simp [lexE]; exact ⟨rfl, rfl, rfl, rfl⟩) | exact tA_clo rfl rfl | exact tS_clo _ _ | exact tkRows_clo _ _ | exact tF_clo _ _)⟩ | exact .inr ⟨_, _, rfl, rfl, (by repeat (first | exact trivial | refine ⟨(by first | exact Nz.own | exact Nz.weak | exact Nz.same (by first | (simp; done) | (simp; rfl) | (simp; exact ⟨rfl, rfl⟩) | (simp [LR]; done) | (simp [LR]; rfl) | (simp [LR]; exact ⟨rfl, rfl, rfl, rfl⟩) | exact clsA_clo _ | exact LR_clo (by simp [lexE]; exact ⟨rfl, rfl, rfl, rfl⟩) | exact tA_clo rfl rfl | exact tS_clo _ _ | exact tkRows_clo _ _ | exact tF_clo _ _)), ?_⟩))⟩)⟩, trivial⟩ trivial)
    · have hdl : ds.length ≤ s.size + 1 := by rw [hds]; exact toks_len s _ _
      obtain ⟨j, hj⟩ : ∃ j, j = scan (okAt ds) ds.length 0 := ⟨_, rfl⟩
      have hj1 : j ≤ ds.length := by have := (scan_le (okAt ds) ds.length 0).2; omega
      have hj2 : ∀ k, k < j → okAt ds k = true := fun k hk => scan_all (okAt ds) ds.length 0 k (Nat.zero_le _) (by rw [← hj]; exact hk)
      have hj3 : j < ds.length → okAt ds j = false := fun h => by have := scan_stop (okAt ds) ds.length 0 (by omega); rwa [← hj] at this
      have hrun := lexRun_to hj1 hj2
      refine awp_range (id := 904) (p := 12) lexE rfl Try.call74 rfl rfl (by simp [lexE]; exact ⟨rfl, rfl, rfl, rfl⟩) ?_
      intro x hx1 hx2 hx3 hx4 hx5 hx6
      have hround : ∀ (k : Nat) (d : GFound), ds[k]? = some d → k ≤ j →
          CallsV Try.prog (.yld 904 0) [.agg ((encFound d).map .pv)] ((904, LR x lexE) :: (926, tF d) :: kL s (ds.take k) (.pv (.sl [])) 0 0) (fun r H' => r = bv (okAt ds k) ∧ H' = (if okAt ds k then (904, LR x lexE) :: (926, tF d) :: kL s (ds.take (k + 1)) (.pv (.sl [])) 0 0 else (904, LR (left x .ret) lexE) :: (926, tF d) :: kL s (ds.take k) (.pv (.sl [])) (if d.err ≠ 0 then d.err else 2) d.pos)) := by
        intro k d hd hkj
        have hok := okAt_iff hd
        have hkl : k < ds.length := (List.getElem?_eq_some_iff.1 hd).1
        have htl : (ds.take k).length = k := by rw [List.length_take]; omega
        have hnx : ds.take (k + 1) = ds.take k ++ [d] := by rw [List.take_add_one, hd]; rfl
        refine .inl ⟨904, 0, rfl, ?_⟩
        refine ycalls [(2, .ref 2 0 0 0), (3, .ref 3 0 0 0), (4, .ref 4 0 0 0), (5, .ref 5 0 0 0), (6, .ref 907 0 0 0)] ((907, tF d) :: (926, tF d) :: kL s (ds.take k) (.pv (.sl [])) 0 0) hx1 hx2 hx3 hx4 hx5 hx6 rfl rfl rfl ?_ ?_
        · skip
          refine awp_region ?_
          refine al_d rfl rfl rfl (by exact x_alloc (id := 907) rfl zo101 rfl rfl) ?_
          refine al_n rfl rfl (by exact (by first | exact x_store_all rfl Try.sizeOf101 rfl rfl rfl rfl rfl rfl rfl rfl | exact x_store rfl Try.sizeOf101 rfl rfl rfl rfl rfl rfl rfl (by simp only [List.length_cons, List.length_nil]; omega) (by simp only [List.drop_succ_cons, List.drop_zero, List.take_succ_cons, List.take_zero, List.take_nil, List.map_cons, List.map_nil, List.set_cons_zero, List.set_cons_succ, List.cons_append, List.nil_append, encFound, encTok]; rfl) (by simp only [List.drop_succ_cons, List.drop_zero, List.take_succ_cons, List.take_zero, List.take_nil, List.map_cons, List.map_nil, List.set_cons_zero, List.set_cons_succ, List.cons_append, List.nil_append, encFound, encTok]; rfl) | exact x_store rfl Try.sizeOf101 rfl rfl rfl rfl rfl rfl rfl (Nat.le_of_ble_eq_true rfl) rfl rfl)) ?_
          refine al_nil ?_
          -- end of the piece
          exact (Ent.wk ⟨⟨_, rfl, rfl⟩, (by first | (simp; done) | (simp; rfl) | (simp; exact ⟨rfl, rfl⟩) | (simp [LR]; done) | (simp [LR]; rfl) | (simp [LR]; exact ⟨rfl, rfl, rfl, rfl⟩) | exact clsA_clo _ | exact LR_clo (by simp [lexE]; exact ⟨rfl, rfl, rfl, rfl⟩) | exact tA_clo rfl rfl | exact tS_clo _ _ | exact tkRows_clo _ _ | exact tF_clo _ _), ⟨_, rfl, rfl⟩, (by first | (simp; done) | (simp; rfl) | (simp; exact ⟨rfl, rfl⟩) | (simp [LR]; done) | (simp [LR]; rfl) | (simp [LR]; exact ⟨rfl, rfl, rfl, rfl⟩) | exact clsA_clo _ | exact LR_clo (by simp [lexE]; exact ⟨rfl, rfl, rfl, rfl⟩) | exact tA_clo rfl rfl | exact tS_clo _ _ | exact tkRows_clo _ _ | exact tF_clo _ _), ⟨_, rfl, rfl⟩, (by first | (simp; done) | (simp; rfl) | (simp; exact ⟨rfl, rfl⟩) | (simp [LR]; done) | (simp [LR]; rfl) | (simp [LR]; exact ⟨rfl, rfl, rfl, rfl⟩) | exact clsA_clo _ | exact LR_clo (by simp [lexE]; exact ⟨rfl, rfl, rfl, rfl⟩) | exact tA_clo rfl rfl | exact tS_clo _ _ | exact tkRows_clo _ _ | exact tF_clo _ _), ⟨_, rfl, rfl⟩, (by first | (simp; done) | (simp; rfl) | (simp; exact ⟨rfl, rfl⟩) | (simp [LR]; done) | (simp [LR]; rfl) | (simp [LR]; exact ⟨rfl, rfl, rfl, rfl⟩) | exact clsA_clo _ | exact LR_clo (by simp [lexE]; exact ⟨rfl, rfl, rfl, rfl⟩) | exact tA_clo rfl rfl | exact tS_clo _ _ | exact tkRows_clo _ _ | exact tF_clo _ _), ⟨_, rfl, rfl⟩, (by first | (simp; done) | (simp; rfl) | (simp; exact ⟨rfl, rfl⟩) | (simp [LR]; done) | (simp [LR]; rfl) | (simp [LR]; exact ⟨rfl, rfl, rfl, rfl⟩) | exact clsA_clo _ | exact LR_clo (by simp [lexE]; exact ⟨rfl, rfl, rfl, rfl⟩) | exact tA_clo rfl rfl | exact tS_clo _ _ | exact tkRows_clo _ _ | exact tF_clo _ _), trivial⟩ ⟨⟨_, rfl, rfl⟩, (by first | (simp; done) | (simp; rfl) | (simp; exact ⟨rfl, rfl⟩) | (simp [LR]; done) | (simp [LR]; rfl) | (simp [LR]; exact ⟨rfl, rfl, rfl, rfl⟩) | exact clsA_clo _ | exact LR_clo (by simp [lexE]; exact ⟨rfl, rfl, rfl, rfl⟩) | exact tA_clo rfl rfl | exact tS_clo _ _ | exact tkRows_clo _ _ | exact tF_clo _ _), ⟨_, rfl, rfl⟩, (by first | (simp; done) | (simp; rfl) | (simp; exact ⟨rfl, rfl⟩) | (simp [LR]; done) | (simp [LR]; rfl) | (simp [LR]; exact ⟨rfl, rfl, rfl, rfl⟩) | exact clsA_clo _ | exact LR_clo (by simp [lexE]; exact ⟨rfl, rfl, rfl, rfl⟩) | exact tA_clo rfl rfl | exact tS_clo _ _ | exact tkRows_clo _ _ | exact tF_clo _ _), ⟨_, rfl, rfl⟩, (by first | (simp; done) | (simp; rfl) | (simp; exact ⟨rfl, rfl⟩) | (simp [LR]; done) | (simp [LR]; rfl) | (simp [LR]; exact ⟨rfl, rfl, rfl, rfl⟩) | exact clsA_clo _ | exact LR_clo (by simp [lexE]; exact ⟨rfl, rfl, rfl, rfl⟩) | exact tA_clo rfl rfl | exact tS_clo _ _ | exact tkRows_clo _ _ | exact tF_clo _ _), ⟨_, rfl, rfl⟩, (by first | (simp; done) | (simp; rfl) | (simp; exact ⟨rfl, rfl⟩) | (simp [LR]; done) | (simp [LR]; rfl) | (simp [LR]; exact ⟨rfl, rfl, rfl, rfl⟩) | exact clsA_clo _ | exact LR_clo (by simp [lexE]; exact ⟨rfl, rfl, rfl, rfl⟩) | exact tA_clo rfl rfl | exact tS_clo _ _ | exact tkRows_clo _ _ | exact tF_clo _ _), ⟨_, rfl, rfl⟩, (by first | (simp; done) | (simp; rfl) | (simp; exact ⟨rfl, rfl⟩) | (simp [LR]; done) | (simp [LR]; rfl) | (simp [LR]; exact ⟨rfl, rfl, rfl, rfl⟩) | exact clsA_clo _ | exact LR_clo (by simp [lexE]; exact ⟨rfl, rfl, rfl, rfl⟩) | exact tA_clo rfl rfl | exact tS_clo _ _ | exact tkRows_clo _ _ | exact tF_clo _ _), ⟨_, rfl, rfl⟩, (by first | (simp; done) | (simp; rfl) | (simp; exact ⟨rfl, rfl⟩) | (simp [LR]; done) | (simp [LR]; rfl) | (simp [LR]; exact ⟨rfl, rfl, rfl, rfl⟩) | exact clsA_clo _ | exact LR_clo (by simp [lexE]; exact ⟨rfl, rfl, rfl, rfl⟩) | exact tA_clo rfl rfl | exact tS_clo _ _ | exact tkRows_clo _ _ | exact tF_clo _ _), ⟨_, rfl, rfl⟩, (by first | (simp; done) | (simp; rfl) | (simp; exact ⟨rfl, rfl⟩) | (simp [LR]; done) | (simp [LR]; rfl) | (simp [LR]; exact ⟨rfl, rfl, rfl, rfl⟩) | exact clsA_clo _ | exact LR_clo (by simp [lexE]; exact ⟨rfl, rfl, rfl, rfl⟩) | exact tA_clo rfl rfl | exact tS_clo _ _ | exact tkRows_clo _ _ | exact tF_clo _ _), ⟨_, rfl, rfl⟩, (by first | (simp; done) | (simp; rfl) | (simp; exact ⟨rfl, rfl⟩) | (simp [LR]; done) | (simp [LR]; rfl) | (simp [LR]; exact ⟨rfl, rfl, rfl, rfl⟩) | exact clsA_clo _ | exact LR_clo (by simp [lexE]; exact ⟨rfl, rfl, rfl, rfl⟩) | exact tA_clo rfl rfl | exact tS_clo _ _ | exact tkRows_clo _ _ | exact tF_clo _ _), ⟨_, rfl, rfl⟩, (by first | (simp; done) | (simp; rfl) | (simp; exact ⟨rfl, rfl⟩) | (simp [LR]; done) | (simp [LR]; rfl) | (simp [LR]; exact ⟨rfl, rfl, rfl, rfl⟩) | exact clsA_clo _ | exact LR_clo (by simp [lexE]; exact ⟨rfl, rfl, rfl, rfl⟩) | exact tA_clo rfl rfl | exact tS_clo _ _ | exact tkRows_clo _ _ | exact tF_clo _ _), ⟨_, rfl, rfl⟩, (by first | (simp; done) | (simp; rfl) | (simp; exact ⟨rfl, rfl⟩) | (simp [LR]; done) | (simp [LR]; rfl) | (simp [LR]; exact ⟨rfl, rfl, rfl, rfl⟩) | exact clsA_clo _ | exact LR_clo (by simp [lexE]; exact ⟨rfl, rfl, rfl, rfl⟩) | exact tA_clo rfl rfl | exact tS_clo _ _ | exact tkRows_clo _ _ | exact tF_clo _ _), ⟨_, rfl, rfl⟩, (by first | (simp; done) | (simp; rfl) | (simp; exact ⟨rfl, rfl⟩) | (simp [LR]; done) | (simp [LR]; rfl) | (simp [LR]; exact ⟨rfl, rfl, rfl, rfl⟩) | exact clsA_clo _ | exact LR_clo (by simp [lexE]; exact ⟨rfl, rfl, rfl, rfl⟩) | exact tA_clo rfl rfl | exact tS_clo _ _ | exact tkRows_clo _ _ | exact tF_clo _ _), trivial⟩ ⟨rfl, rfl, rfl, rfl, rfl, rfl, rfl, rfl, rfl, rfl, trivial⟩)
        · skip
          refine awp_block ?_
          refine awp_seq ?_
          refine awp_block ?_
          refine awp_seq ?_
          refine awp_region ?_
          refine al_d rfl rfl rfl (by exact (by first | exact opd_field_ref rfl fo101_1 rfl rfl rfl rfl | exact opd_field_pad rfl fo101_1 rfl rfl)) ?_
          refine al_d rfl rfl rfl (by exact (by first | exact opd_load1_ref rfl Try.isAgg25 rfl rfl rfl rfl rfl | exact opd_load1_pad rfl Try.isAgg25 rfl (by first | omega | assumption) rfl)) ?_
          refine al_d rfl rfl rfl (by exact opd_neq rfl rfl rfl) ?_
          refine al_d rfl rfl rfl (by exact opd_assign rfl rfl) ?_
          refine al_nil ?_
          refine awp_cond rfl (fun hc2 => ?_) (fun hc2 => ?_)
          -- cond 2
          · have he : d.err ≠ 0 := by have h := hc2; rw [Bool.not_eq_true', decide_eq_false_iff_not] at h; exact h
            have h0 : okAt ds k = false := by rw [hok, decide_eq_false he]; rfl
            rw [h0, if_neg (by decide), if_pos he]
            refine awp_seq ?_
            refine awp_drawc follows ?_
            refine dc_cons (r := ⟨_, some [907], []⟩) (DStep.plain rfl (fun H1 hH => by exact (by first | exact opd_field_ref rfl fo101_1 rfl ((hH _ rfl).trans rfl) rfl rfl | exact opd_field_pad rfl fo101_1 rfl rfl))) rfl ?_
            refine dc_cons (r := ⟨_, some [907], []⟩) (DStep.plain rfl (fun H1 hH => by exact (by first | exact opd_load1_ref rfl Try.isAgg25 rfl ((hH _ rfl).trans rfl) rfl rfl rfl | exact opd_load1_pad rfl Try.isAgg25 rfl (by first | omega | assumption) rfl))) rfl ?_
            refine dc_cons (r := ⟨_, some [907], []⟩) (DStep.plain rfl (fun H1 hH => by exact (by first | exact opd_field_ref rfl fo101_0 rfl ((hH _ rfl).trans rfl) rfl rfl | exact opd_field_pad rfl fo101_0 rfl rfl))) rfl ?_
            refine dc_cons (r := ⟨_, some [907], []⟩) (DStep.plain rfl (fun H1 hH => by exact (by first | exact opd_field_ref rfl fo78_2 rfl ((hH _ rfl).trans rfl) rfl rfl | exact opd_field_pad rfl fo78_2 rfl rfl))) rfl ?_
            refine dc_cons (r := ⟨_, some [907], []⟩) (DStep.plain rfl (fun H1 hH => by exact (by first | exact opd_load1_ref rfl Try.isAgg3 rfl ((hH _ rfl).trans rfl) rfl rfl rfl | exact opd_load1_pad rfl Try.isAgg3 rfl (by first | omega | assumption) rfl))) rfl ?_
            refine dc_cons (r := ⟨_, some [2], [_]⟩) (DStep.plain rfl (fun H1 hH => by exact (by first | exact x_store_all rfl Try.sizeOf71 rfl rfl rfl rfl ((hH _ rfl).trans rfl) rfl rfl rfl | exact x_store1 rfl Try.sizeOf71 rfl rfl rfl ((hH _ rfl).trans rfl) rfl rfl (by simp only [List.length_cons, List.length_nil]; omega) (by simp only [List.drop_succ_cons, List.drop_zero, List.take_succ_cons, List.take_zero, List.take_nil, List.map_cons, List.map_nil, List.set_cons_zero, List.set_cons_succ, List.cons_append, List.nil_append, encFound, encTok]; rfl) (by simp only [List.drop_succ_cons, List.drop_zero, List.take_succ_cons, List.take_zero, List.take_nil, List.map_cons, List.map_nil, List.set_cons_zero, List.set_cons_succ, List.cons_append, List.nil_append, encFound, encTok]; rfl) | exact x_store1 rfl Try.sizeOf71 rfl rfl rfl ((hH _ rfl).trans rfl) rfl rfl (Nat.le_of_ble_eq_true rfl) rfl rfl))) rfl ?_
            refine dc_cons (r := ⟨_, some [3], [_]⟩) (DStep.plain rfl (fun H1 hH => by exact (by first | exact x_store_all rfl Try.sizeOf25 rfl rfl rfl rfl ((hH _ rfl).trans rfl) rfl rfl rfl | exact x_store1 rfl Try.sizeOf25 rfl rfl rfl ((hH _ rfl).trans rfl) rfl rfl (by simp only [List.length_cons, List.length_nil]; omega) (by simp only [List.drop_succ_cons, List.drop_zero, List.take_succ_cons, List.take_zero, List.take_nil, List.map_cons, List.map_nil, List.set_cons_zero, List.set_cons_succ, List.cons_append, List.nil_append, encFound, encTok]; rfl) (by simp only [List.drop_succ_cons, List.drop_zero, List.take_succ_cons, List.take_zero, List.take_nil, List.map_cons, List.map_nil, List.set_cons_zero, List.set_cons_succ, List.cons_append, List.nil_append, encFound, encTok]; rfl) | exact x_store1 rfl Try.sizeOf25 rfl rfl rfl ((hH _ rfl).trans rfl) rfl rfl (Nat.le_of_ble_eq_true rfl) rfl rfl))) rfl ?_
            refine dc_cons (r := ⟨_, some [4], [_]⟩) (DStep.plain rfl (fun H1 hH => by exact (by first | exact x_store_all rfl Try.sizeOf3 rfl rfl rfl rfl ((hH _ rfl).trans rfl) rfl rfl rfl | exact x_store1 rfl Try.sizeOf3 rfl rfl rfl ((hH _ rfl).trans rfl) rfl rfl (by simp only [List.length_cons, List.length_nil]; omega) (by simp only [List.drop_succ_cons, List.drop_zero, List.take_succ_cons, List.take_zero, List.take_nil, List.map_cons, List.map_nil, List.set_cons_zero, List.set_cons_succ, List.cons_append, List.nil_append, encFound, encTok]; rfl) (by simp only [List.drop_succ_cons, List.drop_zero, List.take_succ_cons, List.take_zero, List.take_nil, List.map_cons, List.map_nil, List.set_cons_zero, List.set_cons_succ, List.cons_append, List.nil_append, encFound, encTok]; rfl) | exact x_store1 rfl Try.sizeOf3 rfl rfl rfl ((hH _ rfl).trans rfl) rfl rfl (Nat.le_of_ble_eq_true rfl) rfl rfl))) rfl ?_
            refine dc_nil ⟨by kernel_rfl, ?_⟩
            refine awp_ret ?_
            -- return
            exact ⟨(926, tF d) :: kL s (ds.take k) (.pv (.sl [])) d.err d.pos, (Ent.wk trivial ⟨⟨_, rfl, rfl⟩, (by first | (simp; done) | (simp; rfl) | (simp; exact ⟨rfl, rfl⟩) | (simp [LR]; done) | (simp [LR]; rfl) | (simp [LR]; exact ⟨rfl, rfl, rfl, rfl⟩) | exact clsA_clo _ | exact LR_clo (by simp [lexE]; exact ⟨rfl, rfl, rfl, rfl⟩) | exact tA_clo rfl rfl | exact tS_clo _ _ | exact tkRows_clo _ _ | exact tF_clo _ _), ⟨_, rfl, rfl⟩, (by first | (simp; done) | (simp; rfl) | (simp; exact ⟨rfl, rfl⟩) | (simp [LR]; done) | (simp [LR]; rfl) | (simp [LR]; exact ⟨rfl, rfl, rfl, rfl⟩) | exact clsA_clo _ | exact LR_clo (by simp [lexE]; exact ⟨rfl, rfl, rfl, rfl⟩) | exact tA_clo rfl rfl | exact tS_clo _ _ | exact tkRows_clo _ _ | exact tF_clo _ _), ⟨_, rfl, rfl⟩, (by first | (simp; done) | (simp; rfl) | (simp; exact ⟨rfl, rfl⟩) | (simp [LR]; done) | (simp [LR]; rfl) | (simp [LR]; exact ⟨rfl, rfl, rfl, rfl⟩) | exact clsA_clo _ | exact LR_clo (by simp [lexE]; exact ⟨rfl, rfl, rfl, rfl⟩) | exact tA_clo rfl rfl | exact tS_clo _ _ | exact tkRows_clo _ _ | exact tF_clo _ _), ⟨_, rfl, rfl⟩, (by first | (simp; done) | (simp; rfl) | (simp; exact ⟨rfl, rfl⟩) | (simp [LR]; done) | (simp [LR]; rfl) | (simp [LR]; exact ⟨rfl, rfl, rfl, rfl⟩) | exact clsA_clo _ | exact LR_clo (by simp [lexE]; exact ⟨rfl, rfl, rfl, rfl⟩) | exact tA_clo rfl rfl | exact tS_clo _ _ | exact tkRows_clo _ _ | exact tF_clo _ _), ⟨_, rfl, rfl⟩, (by first | (simp; done) | (simp; rfl) | (simp; exact ⟨rfl, rfl⟩) | (simp [LR]; done) | (simp [LR]; rfl) | (simp [LR]; exact ⟨rfl, rfl, rfl, rfl⟩) | exact clsA_clo _ | exact LR_clo (by simp [lexE]; exact ⟨rfl, rfl, rfl, rfl⟩) | exact tA_clo rfl rfl | exact tS_clo _ _ | exact tkRows_clo _ _ | exact tF_clo _ _), ⟨_, rfl, rfl⟩, (by first | (simp; done) | (simp; rfl) | (simp; exact ⟨rfl, rfl⟩) | (simp [LR]; done) | (simp [LR]; rfl) | (simp [LR]; exact ⟨rfl, rfl, rfl, rfl⟩) | exact clsA_clo _ | exact LR_clo (by simp [lexE]; exact ⟨rfl, rfl, rfl, rfl⟩) | exact tA_clo rfl rfl | exact tS_clo _ _ | exact tkRows_clo _ _ | exact tF_clo _ _), ⟨_, rfl, rfl⟩, (by first | (simp; done) | (simp; rfl) | (simp; exact ⟨rfl, rfl⟩) | (simp [LR]; done) | (simp [LR]; rfl) | (simp [LR]; exact ⟨rfl, rfl, rfl, rfl⟩) | exact clsA_clo _ | exact LR_clo (by simp [lexE]; exact ⟨rfl, rfl, rfl, rfl⟩) | exact tA_clo rfl rfl | exact tS_clo _ _ | exact tkRows_clo _ _ | exact tF_clo _ _), ⟨_, rfl, rfl⟩, (by first | (simp; done) | (simp; rfl) | (simp; exact ⟨rfl, rfl⟩) | (simp [LR]; done) | (simp [LR]; rfl) | (simp [LR]; exact ⟨rfl, rfl, rfl, rfl⟩) | exact clsA_clo _ | exact LR_clo (by simp [lexE]; exact ⟨rfl, rfl, rfl, rfl⟩) | exact tA_clo rfl rfl | exact tS_clo _ _ | exact tkRows_clo _ _ | exact tF_clo _ _), ⟨_, rfl, rfl⟩, (by first | (simp; done) | (simp; rfl) | (simp; exact ⟨rfl, rfl⟩) | (simp [LR]; done) | (simp [LR]; rfl) | (simp [LR]; exact ⟨rfl, rfl, rfl, rfl⟩) | exact clsA_clo _ | exact LR_clo (by simp [lexE]; exact ⟨rfl, rfl, rfl, rfl⟩) | exact tA_clo rfl rfl | exact tS_clo _ _ | exact tkRows_clo _ _ | exact tF_clo _ _), ⟨_, rfl, rfl⟩, (by first | (simp; done) | (simp; rfl) | (simp; exact ⟨rfl, rfl⟩) | (simp [LR]; done) | (simp [LR]; rfl) | (simp [LR]; exact ⟨rfl, rfl, rfl, rfl⟩) | exact clsA_clo _ | exact LR_clo (by simp [lexE]; exact ⟨rfl, rfl, rfl, rfl⟩) | exact tA_clo rfl rfl | exact tS_clo _ _ | exact tkRows_clo _ _ | exact tF_clo _ _), trivial⟩ ⟨rfl, rfl, rfl, rfl, rfl, rfl, rfl, rfl, rfl, rfl, trivial⟩), rfl, rfl⟩
          · have he : d.err = 0 := by have h := hc2; rw [Bool.not_eq_false', decide_eq_true_eq] at h; exact h
            refine awp_seq ?_
            refine awp_region ?_
            refine al_d rfl rfl rfl (by exact (by first | exact opd_load1_ref rfl Try.isAgg71 rfl rfl rfl rfl rfl | exact opd_load1_pad rfl Try.isAgg71 rfl (by first | omega | assumption) rfl)) ?_
            refine al_d rfl rfl rfl (by exact (by first | exact opd_len_sl rfl Try.underlying71 rfl | exact opd_len_osl rfl Try.underlying71 rfl rfl rfl)) ?_
            refine al_d rfl rfl rfl (by exact opd_eql rfl rfl rfl) ?_
            refine al_d rfl rfl rfl (by exact opd_assign rfl rfl) ?_
            refine al_nil ?_
            refine awp_cond rfl (fun hc3 => ?_) (fun hc3 => ?_)
            -- cond 3
            · have hk5 : k = 5000 := by have := of_decide_eq_true hc3; omega
              have h0 : okAt ds k = false := by rw [hok, decide_eq_true he, decide_eq_true hk5]; rfl
              rw [h0, if_neg (by decide), if_neg (fun h => h he)]
              refine awp_seq ?_
              refine awp_drawc follows ?_
              refine dc_cons (r := ⟨_, some [907], []⟩) (DStep.plain rfl (fun H1 hH => by exact (by first | exact opd_field_ref rfl fo101_0 rfl ((hH _ rfl).trans rfl) rfl rfl | exact opd_field_pad rfl fo101_0 rfl rfl))) rfl ?_
              refine dc_cons (r := ⟨_, some [907], []⟩) (DStep.plain rfl (fun H1 hH => by exact (by first | exact opd_field_ref rfl fo78_2 rfl ((hH _ rfl).trans rfl) rfl rfl | exact opd_field_pad rfl fo78_2 rfl rfl))) rfl ?_
              refine dc_cons (r := ⟨_, some [907], []⟩) (DStep.plain rfl (fun H1 hH => by exact (by first | exact opd_load1_ref rfl Try.isAgg3 rfl ((hH _ rfl).trans rfl) rfl rfl rfl | exact opd_load1_pad rfl Try.isAgg3 rfl (by first | omega | assumption) rfl))) rfl ?_
              refine dc_cons (r := ⟨_, some [2], [_]⟩) (DStep.plain rfl (fun H1 hH => by exact (by first | exact x_store_all rfl Try.sizeOf71 rfl rfl rfl rfl ((hH _ rfl).trans rfl) rfl rfl rfl | exact x_store1 rfl Try.sizeOf71 rfl rfl rfl ((hH _ rfl).trans rfl) rfl rfl (by simp only [List.length_cons, List.length_nil]; omega) (by simp only [List.drop_succ_cons, List.drop_zero, List.take_succ_cons, List.take_zero, List.take_nil, List.map_cons, List.map_nil, List.set_cons_zero, List.set_cons_succ, List.cons_append, List.nil_append, encFound, encTok]; rfl) (by simp only [List.drop_succ_cons, List.drop_zero, List.take_succ_cons, List.take_zero, List.take_nil, List.map_cons, List.map_nil, List.set_cons_zero, List.set_cons_succ, List.cons_append, List.nil_append, encFound, encTok]; rfl) | exact x_store1 rfl Try.sizeOf71 rfl rfl rfl ((hH _ rfl).trans rfl) rfl rfl (Nat.le_of_ble_eq_true rfl) rfl rfl))) rfl ?_
              refine dc_cons (r := ⟨_, some [3], [_]⟩) (DStep.plain rfl (fun H1 hH => by exact (by first | exact x_store_all rfl Try.sizeOf25 rfl rfl rfl rfl ((hH _ rfl).trans rfl) rfl rfl rfl | exact x_store1 rfl Try.sizeOf25 rfl rfl rfl ((hH _ rfl).trans rfl) rfl rfl (by simp only [List.length_cons, List.length_nil]; omega) (by simp only [List.drop_succ_cons, List.drop_zero, List.take_succ_cons, List.take_zero, List.take_nil, List.map_cons, List.map_nil, List.set_cons_zero, List.set_cons_succ, List.cons_append, List.nil_append, encFound, encTok]; rfl) (by simp only [List.drop_succ_cons, List.drop_zero, List.take_succ_cons, List.take_zero, List.take_nil, List.map_cons, List.map_nil, List.set_cons_zero, List.set_cons_succ, List.cons_append, List.nil_append, encFound, encTok]; rfl) | exact x_store1 rfl Try.sizeOf25 rfl rfl rfl ((hH _ rfl).trans rfl) rfl rfl (Nat.le_of_ble_eq_true rfl) rfl rfl))) rfl ?_
              refine dc_cons (r := ⟨_, some [4], [_]⟩) (DStep.plain rfl (fun H1 hH => by exact (by first | exact x_store_all rfl Try.sizeOf3 rfl rfl rfl rfl ((hH _ rfl).trans rfl) rfl rfl rfl | exact x_store1 rfl Try.sizeOf3 rfl rfl rfl ((hH _ rfl).trans rfl) rfl rfl (by simp only [List.length_cons, List.length_nil]; omega) (by simp only [List.drop_succ_cons, List.drop_zero, List.take_succ_cons, List.take_zero, List.take_nil, List.map_cons, List.map_nil, List.set_cons_zero, List.set_cons_succ, List.cons_append, List.nil_append, encFound, encTok]; rfl) (by simp only [List.drop_succ_cons, List.drop_zero, List.take_succ_cons, List.take_zero, List.take_nil, List.map_cons, List.map_nil, List.set_cons_zero, List.set_cons_succ, List.cons_append, List.nil_append, encFound, encTok]; rfl) | exact x_store1 rfl Try.sizeOf3 rfl rfl rfl ((hH _ rfl).trans rfl) rfl rfl (Nat.le_of_ble_eq_true rfl) rfl rfl))) rfl ?_
              refine dc_nil ⟨by kernel_rfl, ?_⟩
              refine awp_ret ?_
              -- return
              exact ⟨(926, tF d) :: kL s (ds.take k) (.pv (.sl [])) 2 d.pos, (Ent.wk trivial ⟨⟨_, rfl, rfl⟩, (by first | (simp; done) | (simp; rfl) | (simp; exact ⟨rfl, rfl⟩) | (simp [LR]; done) | (simp [LR]; rfl) | (simp [LR]; exact ⟨rfl, rfl, rfl, rfl⟩) | exact clsA_clo _ | exact LR_clo (by simp [lexE]; exact ⟨rfl, rfl, rfl, rfl⟩) | exact tA_clo rfl rfl | exact tS_clo _ _ | exact tkRows_clo _ _ | exact tF_clo _ _), ⟨_, rfl, rfl⟩, (by first | (simp; done) | (simp; rfl) | (simp; exact ⟨rfl, rfl⟩) | (simp [LR]; done) | (simp [LR]; rfl) | (simp [LR]; exact ⟨rfl, rfl, rfl, rfl⟩) | exact clsA_clo _ | exact LR_clo (by simp [lexE]; exact ⟨rfl, rfl, rfl, rfl⟩) | exact tA_clo rfl rfl | exact tS_clo _ _ | exact tkRows_clo _ _ | exact tF_clo _ _), ⟨_, rfl, rfl⟩, (by first | (simp; done) | (simp; rfl) | (simp; exact ⟨rfl, rfl⟩) | (simp [LR]; done) | (simp [LR]; rfl) | (simp [LR]; exact ⟨rfl, rfl, rfl, rfl⟩) | exact clsA_clo _ | exact LR_clo (by simp [lexE]; exact ⟨rfl, rfl, rfl, rfl⟩) | exact tA_clo rfl rfl | exact tS_clo _ _ | exact tkRows_clo _ _ | exact tF_clo _ _), ⟨_, rfl, rfl⟩, (by first | (simp; done) | (simp; rfl) | (simp; exact ⟨rfl, rfl⟩) | (simp [LR]; done) | (simp [LR]; rfl) | (simp [LR]; exact ⟨rfl, rfl, rfl, rfl⟩) | exact clsA_clo _ | exact LR_clo (by simp [lexE]; exact ⟨rfl, rfl, rfl, rfl⟩) | exact tA_clo rfl rfl | exact tS_clo _ _ | exact tkRows_clo _ _ | exact tF_clo _ _), ⟨_, rfl, rfl⟩, (by first | (simp; done) | (simp; rfl) | (simp; exact ⟨rfl, rfl⟩) | (simp [LR]; done) | (simp [LR]; rfl) | (simp [LR]; exact ⟨rfl, rfl, rfl, rfl⟩) | exact clsA_clo _ | exact LR_clo (by simp [lexE]; exact ⟨rfl, rfl, rfl, rfl⟩) | exact tA_clo rfl rfl | exact tS_clo _ _ | exact tkRows_clo _ _ | exact tF_clo _ _), ⟨_, rfl, rfl⟩, (by first | (simp; done) | (simp; rfl) | (simp; exact ⟨rfl, rfl⟩) | (simp [LR]; done) | (simp [LR]; rfl) | (simp [LR]; exact ⟨rfl, rfl, rfl, rfl⟩) | exact clsA_clo _ | exact LR_clo (by simp [lexE]; exact ⟨rfl, rfl, rfl, rfl⟩) | exact tA_clo rfl rfl | exact tS_clo _ _ | exact tkRows_clo _ _ | exact tF_clo _ _), ⟨_, rfl, rfl⟩, (by first | (simp; done) | (simp; rfl) | (simp; exact ⟨rfl, rfl⟩) | (simp [LR]; done) | (simp [LR]; rfl) | (simp [LR]; exact ⟨rfl, rfl, rfl, rfl⟩) | exact clsA_clo _ | exact LR_clo (by simp [lexE]; exact ⟨rfl, rfl, rfl, rfl⟩) | exact tA_clo rfl rfl | exact tS_clo _ _ | exact tkRows_clo _ _ | exact tF_clo _ _), ⟨_, rfl, rfl⟩, (by first | (simp; done) | (simp; rfl) | (simp; exact ⟨rfl, rfl⟩) | (simp [LR]; done) | (simp [LR]; rfl) | (simp [LR]; exact ⟨rfl, rfl, rfl, rfl⟩) | exact clsA_clo _ | exact LR_clo (by simp [lexE]; exact ⟨rfl, rfl, rfl, rfl⟩) | exact tA_clo rfl rfl | exact tS_clo _ _ | exact tkRows_clo _ _ | exact tF_clo _ _), ⟨_, rfl, rfl⟩, (by first | (simp; done) | (simp; rfl) | (simp; exact ⟨rfl, rfl⟩) | (simp [LR]; done) | (simp [LR]; rfl) | (simp [LR]; exact ⟨rfl, rfl, rfl, rfl⟩) | exact clsA_clo _ | exact LR_clo (by simp [lexE]; exact ⟨rfl, rfl, rfl, rfl⟩) | exact tA_clo rfl rfl | exact tS_clo _ _ | exact tkRows_clo _ _ | exact tF_clo _ _), ⟨_, rfl, rfl⟩, (by first | (simp; done) | (simp; rfl) | (simp; exact ⟨rfl, rfl⟩) | (simp [LR]; done) | (simp [LR]; rfl) | (simp [LR]; exact ⟨rfl, rfl, rfl, rfl⟩) | exact clsA_clo _ | exact LR_clo (by simp [lexE]; exact ⟨rfl, rfl, rfl, rfl⟩) | exact tA_clo rfl rfl | exact tS_clo _ _ | exact tkRows_clo _ _ | exact tF_clo _ _), trivial⟩ ⟨rfl, rfl, rfl, rfl, rfl, rfl, rfl, rfl, rfl, rfl, trivial⟩), rfl, rfl⟩
            · have hk5 : ¬ k = 5000 := by have := of_decide_eq_false hc3; omega
              have h0 : okAt ds k = true := by rw [hok, decide_eq_true he, decide_eq_false hk5]; rfl
              rw [h0, if_pos rfl, hnx, kL_app]
              refine awp_skip ?_
              refine awp_region ?_
              refine al_d rfl rfl rfl (by exact (by first | exact opd_load1_ref rfl Try.isAgg71 rfl rfl rfl rfl rfl | exact opd_load1_pad rfl Try.isAgg71 rfl (by first | omega | assumption) rfl)) ?_
              refine al_d rfl rfl rfl (by exact (by first | exact opd_field_ref rfl fo101_0 rfl rfl rfl rfl | exact opd_field_pad rfl fo101_0 rfl rfl)) ?_
              refine al_d rfl rfl rfl (by exact (by first | exact opd_loadn_ref rfl Try.isAgg78 Try.sizeOf78 rfl rfl rfl rfl rfl rfl | exact opd_loadn_pad rfl Try.isAgg78 Try.sizeOf78 rfl (by first | omega | assumption) rfl rfl)) ?_
              refine al_d rfl rfl rfl (by exact (by first | exact x_buildSlice [encTok d] rfl so71 rfl rfl rfl rfl rfl (by intro r hr; rw [List.mem_singleton] at hr; subst hr; rfl) | (apply x_buildSlice (ps := [encTok d]) (hS := so71) <;> first | rfl | exact (by intro r hr; rw [List.mem_singleton] at hr; subst hr; rfl) | simp))) ?_
              refine al_d rfl rfl rfl (by exact x_append (ps := [encTok d]) rfl so71 ei78 rfl rfl rfl rfl rfl (tkRows_len _) rfl (by intro r hr; rw [List.mem_singleton] at hr; subst hr; rfl) (m := 1) rfl (by omega) rfl (tkRows_app (ds.take k) d)) ?_
              refine al_n rfl rfl (by exact (by first | exact x_store_all rfl Try.sizeOf71 rfl rfl rfl rfl rfl rfl rfl rfl | exact x_store1 rfl Try.sizeOf71 rfl rfl rfl rfl rfl rfl (by simp only [List.length_cons, List.length_nil]; omega) (by simp only [List.drop_succ_cons, List.drop_zero, List.take_succ_cons, List.take_zero, List.take_nil, List.map_cons, List.map_nil, List.set_cons_zero, List.set_cons_succ, List.cons_append, List.nil_append, encFound, encTok]; rfl) (by simp only [List.drop_succ_cons, List.drop_zero, List.take_succ_cons, List.take_zero, List.take_nil, List.map_cons, List.map_nil, List.set_cons_zero, List.set_cons_succ, List.cons_append, List.nil_append, encFound, encTok]; rfl) | exact x_store1 rfl Try.sizeOf71 rfl rfl rfl rfl rfl rfl (Nat.le_of_ble_eq_true rfl) rfl rfl)) ?_
              refine al_nil ?_
              -- end of the piece
              exact ⟨(926, tF d) :: [(905, ⟨(ds.take k).length + 1, 3, 78, tkRows (ds.take k ++ [d])⟩), (5, bx 1 71 [.osl 905 ((ds.take k).length + 1) 0 ((ds.take k).length + 1)]), (924, tA), (923, tC), (921, tS s), (4, bx 1 3 [iv 0]), (3, bx 1 25 [iv 0]), (2, bx 1 71 [.pv (.sl [])])], (Ent.wk trivial ⟨⟨_, rfl, rfl⟩, (by first | (simp; done) | (simp; rfl) | (simp; exact ⟨rfl, rfl⟩) | (simp [LR]; done) | (simp [LR]; rfl) | (simp [LR]; exact ⟨rfl, rfl, rfl, rfl⟩) | exact clsA_clo _ | exact LR_clo (by simp [lexE]; exact ⟨rfl, rfl, rfl, rfl⟩) | exact tA_clo rfl rfl | exact tS_clo _ _ | exact tkRows_clo _ _ | exact tF_clo _ _), ⟨_, rfl, rfl⟩, (by first | (simp; done) | (simp; rfl) | (simp; exact ⟨rfl, rfl⟩) | (simp [LR]; done) | (simp [LR]; rfl) | (simp [LR]; exact ⟨rfl, rfl, rfl, rfl⟩) | exact clsA_clo _ | exact LR_clo (by simp [lexE]; exact ⟨rfl, rfl, rfl, rfl⟩) | exact tA_clo rfl rfl | exact tS_clo _ _ | exact tkRows_clo _ _ | exact tF_clo _ _), ⟨_, rfl, rfl⟩, (by first | (simp; done) | (simp; rfl) | (simp; exact ⟨rfl, rfl⟩) | (simp [LR]; done) | (simp [LR]; rfl) | (simp [LR]; exact ⟨rfl, rfl, rfl, rfl⟩) | exact clsA_clo _ | exact LR_clo (by simp [lexE]; exact ⟨rfl, rfl, rfl, rfl⟩) | exact tA_clo rfl rfl | exact tS_clo _ _ | exact tkRows_clo _ _ | exact tF_clo _ _), ⟨_, rfl, rfl⟩, (by first | (simp; done) | (simp; rfl) | (simp; exact ⟨rfl, rfl⟩) | (simp [LR]; done) | (simp [LR]; rfl) | (simp [LR]; exact ⟨rfl, rfl, rfl, rfl⟩) | exact clsA_clo _ | exact LR_clo (by simp [lexE]; exact ⟨rfl, rfl, rfl, rfl⟩) | exact tA_clo rfl rfl | exact tS_clo _ _ | exact tkRows_clo _ _ | exact tF_clo _ _), ⟨_, rfl, rfl⟩, (by first | (simp; done) | (simp; rfl) | (simp; exact ⟨rfl, rfl⟩) | (simp [LR]; done) | (simp [LR]; rfl) | (simp [LR]; exact ⟨rfl, rfl, rfl, rfl⟩) | exact clsA_clo _ | exact LR_clo (by simp [lexE]; exact ⟨rfl, rfl, rfl, rfl⟩) | exact tA_clo rfl rfl | exact tS_clo _ _ | exact tkRows_clo _ _ | exact tF_clo _ _), ⟨_, rfl, rfl⟩, (by first | (simp; done) | (simp; rfl) | (simp; exact ⟨rfl, rfl⟩) | (simp [LR]; done) | (simp [LR]; rfl) | (simp [LR]; exact ⟨rfl, rfl, rfl, rfl⟩) | exact clsA_clo _ | exact LR_clo (by simp [lexE]; exact ⟨rfl, rfl, rfl, rfl⟩) | exact tA_clo rfl rfl | exact tS_clo _ _ | exact tkRows_clo _ _ | exact tF_clo _ _), ⟨_, rfl, rfl⟩, (by first | (simp; done) | (simp; rfl) | (simp; exact ⟨rfl, rfl⟩) | (simp [LR]; done) | (simp [LR]; rfl) | (simp [LR]; exact ⟨rfl, rfl, rfl, rfl⟩) | exact clsA_clo _ | exact LR_clo (by simp [lexE]; exact ⟨rfl, rfl, rfl, rfl⟩) | exact tA_clo rfl rfl | exact tS_clo _ _ | exact tkRows_clo _ _ | exact tF_clo _ _), ⟨_, rfl, rfl⟩, (by first | (simp; done) | (simp; rfl) | (simp; exact ⟨rfl, rfl⟩) | (simp [LR]; done) | (simp [LR]; rfl) | (simp [LR]; exact ⟨rfl, rfl, rfl, rfl⟩) | exact clsA_clo _ | exact LR_clo (by simp [lexE]; exact ⟨rfl, rfl, rfl, rfl⟩) | exact tA_clo rfl rfl | exact tS_clo _ _ | exact tkRows_clo _ _ | exact tF_clo _ _), ⟨_, rfl, rfl⟩, (by first | (simp; done) | (simp; rfl) | (simp; exact ⟨rfl, rfl⟩) | (simp [LR]; done) | (simp [LR]; rfl) | (simp [LR]; exact ⟨rfl, rfl, rfl, rfl⟩) | exact clsA_clo _ | exact LR_clo (by simp [lexE]; exact ⟨rfl, rfl, rfl, rfl⟩) | exact tA_clo rfl rfl | exact tS_clo _ _ | exact tkRows_clo _ _ | exact tF_clo _ _), ⟨_, rfl, rfl⟩, (by first | (simp; done) | (simp; rfl) | (simp; exact ⟨rfl, rfl⟩) | (simp [LR]; done) | (simp [LR]; rfl) | (simp [LR]; exact ⟨rfl, rfl, rfl, rfl⟩) | exact clsA_clo _ | exact LR_clo (by simp [lexE]; exact ⟨rfl, rfl, rfl, rfl⟩) | exact tA_clo rfl rfl | exact tS_clo _ _ | exact tkRows_clo _ _ | exact tF_clo _ _), trivial⟩ ⟨rfl, rfl, rfl, rfl, rfl, rfl, rfl, rfl, rfl, rfl, trivial⟩), rfl, rfl⟩
      rcases Nat.lt_or_ge j ds.length with hlt | hge
      · obtain ⟨f, hf⟩ := get_of_lt hlt
        have hbad := hj3 hlt
        have hdj : ds.drop j = f :: ds.drop (j + 1) := by
          rw [List.drop_eq_getElem_cons hlt]
          rw [List.getElem?_eq_getElem hlt] at hf
          cases hf; rfl
        have hres : gLex s = ([], (if f.err ≠ 0 then f.err else 2), (f.pos : Int)) := by
          rw [hg, hrun, hdj, lexRun]
          split
          · rfl
          · rename_i he
            have he0 : f.err = 0 := by
              by_cases h : f.err = 0
              · exact h
              · exact absurd h he
            rw [okAt_iff hf, decide_eq_true he0, Bool.true_and, Bool.not_eq_false', decide_eq_true_eq] at hbad
            rw [if_pos (by rw [List.length_take]; omega)]
        rw [hres]
        refine (tokens2_c s (.yld 904 0) (fun k => if k ≤ j then (904, LR x lexE) :: kL s (ds.take k) (.pv (.sl [])) 0 0 else (904, LR (left x .ret) lexE) :: kL s (ds.take j) (.pv (.sl [])) (if f.err ≠ 0 then f.err else 2) f.pos) (okAt ds) (j + 1) hs (fun k => ?_) (fun k => ?_) (fun k => ?_) (fun k => ?_) (fun k => ?_) (fun k => ?_) (by rw [← hds]; exact hlt) (fun k hk => hj2 k (by omega)) (.inr ⟨Nat.succ_pos _, by rw [Nat.add_sub_cancel]; exact hbad⟩) ?_).mono ?_
        · split <;> rfl
        · split <;> rfl
        · split <;> rfl
        · split <;> rfl
        · split
          · exact (Closed.ofL ⟨(by first | (simp; done) | (simp; rfl) | (simp; exact ⟨rfl, rfl⟩) | (simp [LR]; done) | (simp [LR]; rfl) | (simp [LR]; exact ⟨rfl, rfl, rfl, rfl⟩) | exact clsA_clo _ | exact LR_clo (by simp [lexE]; exact ⟨rfl, rfl, rfl, rfl⟩) | exact tA_clo rfl rfl | exact tS_clo _ _ | exact tkRows_clo _ _ | exact tF_clo _ _), (by first | (simp; done) | (simp; rfl) | (simp; exact ⟨rfl, rfl⟩) | (simp [LR]; done) | (simp [LR]; rfl) | (simp [LR]; exact ⟨rfl, rfl, rfl, rfl⟩) | exact clsA_clo _ | exact LR_clo (by simp [lexE]; exact ⟨rfl, rfl, rfl, rfl⟩) | exact tA_clo rfl rfl | exact tS_clo _ _ | exact tkRows_clo _ _ | exact tF_clo _ _), (by first | (simp; done) | (simp; rfl) | (simp; exact ⟨rfl, rfl⟩) | (simp [LR]; done) | (simp [LR]; rfl) | (simp [LR]; exact ⟨rfl, rfl, rfl, rfl⟩) | exact clsA_clo _ | exact LR_clo (by simp [lexE]; exact ⟨rfl, rfl, rfl, rfl⟩) | exact tA_clo rfl rfl | exact tS_clo _ _ | exact tkRows_clo _ _ | exact tF_clo _ _), (by first | (simp; done) | (simp; rfl) | (simp; exact ⟨rfl, rfl⟩) | (simp [LR]; done) | (simp [LR]; rfl) | (simp [LR]; exact ⟨rfl, rfl, rfl, rfl⟩) | exact clsA_clo _ | exact LR_clo (by simp [lexE]; exact ⟨rfl, rfl, rfl, rfl⟩) | exact tA_clo rfl rfl | exact tS_clo _ _ | exact tkRows_clo _ _ | exact tF_clo _ _), (by first | (simp; done) | (simp; rfl) | (simp; exact ⟨rfl, rfl⟩) | (simp [LR]; done) | (simp [LR]; rfl) | (simp [LR]; exact ⟨rfl, rfl, rfl, rfl⟩) | exact clsA_clo _ | exact LR_clo (by simp [lexE]; exact ⟨rfl, rfl, rfl, rfl⟩) | exact tA_clo rfl rfl | exact tS_clo _ _ | exact tkRows_clo _ _ | exact tF_clo _ _), (by first | (simp; done) | (simp; rfl) | (simp; exact ⟨rfl, rfl⟩) | (simp [LR]; done) | (simp [LR]; rfl) | (simp [LR]; exact ⟨rfl, rfl, rfl, rfl⟩) | exact clsA_clo _ | exact LR_clo (by simp [lexE]; exact ⟨rfl, rfl, rfl, rfl⟩) | exact tA_clo rfl rfl | exact tS_clo _ _ | exact tkRows_clo _ _ | exact tF_clo _ _), (by first | (simp; done) | (simp; rfl) | (simp; exact ⟨rfl, rfl⟩) | (simp [LR]; done) | (simp [LR]; rfl) | (simp [LR]; exact ⟨rfl, rfl, rfl, rfl⟩) | exact clsA_clo _ | exact LR_clo (by simp [lexE]; exact ⟨rfl, rfl, rfl, rfl⟩) | exact tA_clo rfl rfl | exact tS_clo _ _ | exact tkRows_clo _ _ | exact tF_clo _ _), (by first | (simp; done) | (simp; rfl) | (simp; exact ⟨rfl, rfl⟩) | (simp [LR]; done) | (simp [LR]; rfl) | (simp [LR]; exact ⟨rfl, rfl, rfl, rfl⟩) | exact clsA_clo _ | exact LR_clo (by simp [lexE]; exact ⟨rfl, rfl, rfl, rfl⟩) | exact tA_clo rfl rfl | exact tS_clo _ _ | exact tkRows_clo _ _ | exact tF_clo _ _), (by first | (simp; done) | (simp; rfl) | (simp; exact ⟨rfl, rfl⟩) | (simp [LR]; done) | (simp [LR]; rfl) | (simp [LR]; exact ⟨rfl, rfl, rfl, rfl⟩) | exact clsA_clo _ | exact LR_clo (by simp [lexE]; exact ⟨rfl, rfl, rfl, rfl⟩) | exact tA_clo rfl rfl | exact tS_clo _ _ | exact tkRows_clo _ _ | exact tF_clo _ _), trivial⟩)
          · exact (Closed.ofL ⟨(by first | (simp; done) | (simp; rfl) | (simp; exact ⟨rfl, rfl⟩) | (simp [LR]; done) | (simp [LR]; rfl) | (simp [LR]; exact ⟨rfl, rfl, rfl, rfl⟩) | exact clsA_clo _ | exact LR_clo (by simp [lexE]; exact ⟨rfl, rfl, rfl, rfl⟩) | exact tA_clo rfl rfl | exact tS_clo _ _ | exact tkRows_clo _ _ | exact tF_clo _ _), (by first | (simp; done) | (simp; rfl) | (simp; exact ⟨rfl, rfl⟩) | (simp [LR]; done) | (simp [LR]; rfl) | (simp [LR]; exact ⟨rfl, rfl, rfl, rfl⟩) | exact clsA_clo _ | exact LR_clo (by simp [lexE]; exact ⟨rfl, rfl, rfl, rfl⟩) | exact tA_clo rfl rfl | exact tS_clo _ _ | exact tkRows_clo _ _ | exact tF_clo _ _), (by first | (simp; done) | (simp; rfl) | (simp; exact ⟨rfl, rfl⟩) | (simp [LR]; done) | (simp [LR]; rfl) | (simp [LR]; exact ⟨rfl, rfl, rfl, rfl⟩) | exact clsA_clo _ | exact LR_clo (by simp [lexE]; exact ⟨rfl, rfl, rfl, rfl⟩) | exact tA_clo rfl rfl | exact tS_clo _ _ | exact tkRows_clo _ _ | exact tF_clo _ _), (by first | (simp; done) | (simp; rfl) | (simp; exact ⟨rfl, rfl⟩) | (simp [LR]; done) | (simp [LR]; rfl) | (simp [LR]; exact ⟨rfl, rfl, rfl, rfl⟩) | exact clsA_clo _ | exact LR_clo (by simp [lexE]; exact ⟨rfl, rfl, rfl, rfl⟩) | exact tA_clo rfl rfl | exact tS_clo _ _ | exact tkRows_clo _ _ | exact tF_clo _ _), (by first | (simp; done) | (simp; rfl) | (simp; exact ⟨rfl, rfl⟩) | (simp [LR]; done) | (simp [LR]; rfl) | (simp [LR]; exact ⟨rfl, rfl, rfl, rfl⟩) | exact clsA_clo _ | exact LR_clo (by simp [lexE]; exact ⟨rfl, rfl, rfl, rfl⟩) | exact tA_clo rfl rfl | exact tS_clo _ _ | exact tkRows_clo _ _ | exact tF_clo _ _), (by first | (simp; done) | (simp; rfl) | (simp; exact ⟨rfl, rfl⟩) | (simp [LR]; done) | (simp [LR]; rfl) | (simp [LR]; exact ⟨rfl, rfl, rfl, rfl⟩) | exact clsA_clo _ | exact LR_clo (by simp [lexE]; exact ⟨rfl, rfl, rfl, rfl⟩) | exact tA_clo rfl rfl | exact tS_clo _ _ | exact tkRows_clo _ _ | exact tF_clo _ _), (by first | (simp; done) | (simp; rfl) | (simp; exact ⟨rfl, rfl⟩) | (simp [LR]; done) | (simp [LR]; rfl) | (simp [LR]; exact ⟨rfl, rfl, rfl, rfl⟩) | exact clsA_clo _ | exact LR_clo (by simp [lexE]; exact ⟨rfl, rfl, rfl, rfl⟩) | exact tA_clo rfl rfl | exact tS_clo _ _ | exact tkRows_clo _ _ | exact tF_clo _ _), (by first | (simp; done) | (simp; rfl) | (simp; exact ⟨rfl, rfl⟩) | (simp [LR]; done) | (simp [LR]; rfl) | (simp [LR]; exact ⟨rfl, rfl, rfl, rfl⟩) | exact clsA_clo _ | exact LR_clo (by simp [lexE]; exact ⟨rfl, rfl, rfl, rfl⟩) | exact tA_clo rfl rfl | exact tS_clo _ _ | exact tkRows_clo _ _ | exact tF_clo _ _), (by first | (simp; done) | (simp; rfl) | (simp; exact ⟨rfl, rfl⟩) | (simp [LR]; done) | (simp [LR]; rfl) | (simp [LR]; exact ⟨rfl, rfl, rfl, rfl⟩) | exact clsA_clo _ | exact LR_clo (by simp [lexE]; exact ⟨rfl, rfl, rfl, rfl⟩) | exact tA_clo rfl rfl | exact tS_clo _ _ | exact tkRows_clo _ _ | exact tF_clo _ _), trivial⟩)
        · split <;> (simp; rfl)
        · rw [← hds]
          intro k d hd hk
          have hr := hround k d hd (by omega)
          rw [if_pos (by omega)]
          by_cases hkj : k = j
          · subst hkj
            rw [hf] at hd
            cases hd
            rw [hbad, if_neg (by decide)] at hr
            rw [if_neg (by omega), hbad]
            exact CallsV.congrG hr (fun j => get_swap (by decide) j) (fun j => get_swap (by decide) j)
          · have hok := hj2 k (by omega)
            rw [hok, if_pos rfl] at hr
            rw [if_pos (by omega), hok]
            exact CallsV.congrG hr (fun j => get_swap (by decide) j) (fun j => get_swap (by decide) j)
        · rintro r H' ⟨rfl, rfl⟩
          rw [if_neg (by omega)]
          refine ⟨left x .ret, _, rfl, by simp [left], rfl, fun z => ?_⟩
          show ARet _ _ _ _ _ _ _
          refine aret3 (H' := []) (by first | exact .inr rfl | exact .inl rfl) rfl (rval_cell1 rfl Try.isAgg71 rfl rfl rfl rfl) (rval_cell1 rfl Try.isAgg25 rfl rfl rfl rfl) (rval_cell1 rfl Try.isAgg3 rfl rfl rfl rfl) (Fin.wk (by simp) trivial trivial) ?_
          exact ⟨rfl, rfl⟩
      · have hje : j = ds.length := Nat.le_antisymm hj1 hge
        rw [hje, List.take_length, List.drop_length] at hrun
        rw [hg, hrun, lexRun]
        refine (tokens2_c s (.yld 904 0) (fun k => (904, LR x lexE) :: kL s (ds.take k) (.pv (.sl [])) 0 0) (okAt ds) ds.length hs (fun k => rfl) (fun k => rfl) (fun k => rfl) (fun k => rfl) (fun k => (Closed.ofL ⟨(by first | (simp; done) | (simp; rfl) | (simp; exact ⟨rfl, rfl⟩) | (simp [LR]; done) | (simp [LR]; rfl) | (simp [LR]; exact ⟨rfl, rfl, rfl, rfl⟩) | exact clsA_clo _ | exact LR_clo (by simp [lexE]; exact ⟨rfl, rfl, rfl, rfl⟩) | exact tA_clo rfl rfl | exact tS_clo _ _ | exact tkRows_clo _ _ | exact tF_clo _ _), (by first | (simp; done) | (simp; rfl) | (simp; exact ⟨rfl, rfl⟩) | (simp [LR]; done) | (simp [LR]; rfl) | (simp [LR]; exact ⟨rfl, rfl, rfl, rfl⟩) | exact clsA_clo _ | exact LR_clo (by simp [lexE]; exact ⟨rfl, rfl, rfl, rfl⟩) | exact tA_clo rfl rfl | exact tS_clo _ _ | exact tkRows_clo _ _ | exact tF_clo _ _), (by first | (simp; done) | (simp; rfl) | (simp; exact ⟨rfl, rfl⟩) | (simp [LR]; done) | (simp [LR]; rfl) | (simp [LR]; exact ⟨rfl, rfl, rfl, rfl⟩) | exact clsA_clo _ | exact LR_clo (by simp [lexE]; exact ⟨rfl, rfl, rfl, rfl⟩) | exact tA_clo rfl rfl | exact tS_clo _ _ | exact tkRows_clo _ _ | exact tF_clo _ _), (by first | (simp; done) | (simp; rfl) | (simp; exact ⟨rfl, rfl⟩) | (simp [LR]; done) | (simp [LR]; rfl) | (simp [LR]; exact ⟨rfl, rfl, rfl, rfl⟩) | exact clsA_clo _ | exact LR_clo (by simp [lexE]; exact ⟨rfl, rfl, rfl, rfl⟩) | exact tA_clo rfl rfl | exact tS_clo _ _ | exact tkRows_clo _ _ | exact tF_clo _ _), (by first | (simp; done) | (simp; rfl) | (simp; exact ⟨rfl, rfl⟩) | (simp [LR]; done) | (simp [LR]; rfl) | (simp [LR]; exact ⟨rfl, rfl, rfl, rfl⟩) | exact clsA_clo _ | exact LR_clo (by simp [lexE]; exact ⟨rfl, rfl, rfl, rfl⟩) | exact tA_clo rfl rfl | exact tS_clo _ _ | exact tkRows_clo _ _ | exact tF_clo _ _), (by first | (simp; done) | (simp; rfl) | (simp; exact ⟨rfl, rfl⟩) | (simp [LR]; done) | (simp [LR]; rfl) | (simp [LR]; exact ⟨rfl, rfl, rfl, rfl⟩) | exact clsA_clo _ | exact LR_clo (by simp [lexE]; exact ⟨rfl, rfl, rfl, rfl⟩) | exact tA_clo rfl rfl | exact tS_clo _ _ | exact tkRows_clo _ _ | exact tF_clo _ _), (by first | (simp; done) | (simp; rfl) | (simp; exact ⟨rfl, rfl⟩) | (simp [LR]; done) | (simp [LR]; rfl) | (simp [LR]; exact ⟨rfl, rfl, rfl, rfl⟩) | exact clsA_clo _ | exact LR_clo (by simp [lexE]; exact ⟨rfl, rfl, rfl, rfl⟩) | exact tA_clo rfl rfl | exact tS_clo _ _ | exact tkRows_clo _ _ | exact tF_clo _ _), (by first | (simp; done) | (simp; rfl) | (simp; exact ⟨rfl, rfl⟩) | (simp [LR]; done) | (simp [LR]; rfl) | (simp [LR]; exact ⟨rfl, rfl, rfl, rfl⟩) | exact clsA_clo _ | exact LR_clo (by simp [lexE]; exact ⟨rfl, rfl, rfl, rfl⟩) | exact tA_clo rfl rfl | exact tS_clo _ _ | exact tkRows_clo _ _ | exact tF_clo _ _), (by first | (simp; done) | (simp; rfl) | (simp; exact ⟨rfl, rfl⟩) | (simp [LR]; done) | (simp [LR]; rfl) | (simp [LR]; exact ⟨rfl, rfl, rfl, rfl⟩) | exact clsA_clo _ | exact LR_clo (by simp [lexE]; exact ⟨rfl, rfl, rfl, rfl⟩) | exact tA_clo rfl rfl | exact tS_clo _ _ | exact tkRows_clo _ _ | exact tF_clo _ _), trivial⟩)) (fun k => by simp; rfl) (by rw [← hds]; exact Nat.le_refl _) (fun k hk => hj2 k (by omega)) (.inl (by rw [← hds])) ?_).mono ?_
        · rw [← hds]
          intro k d hd hk
          have hr := hround k d hd (by omega)
          have hok := hj2 k (by omega)
          rw [hok, if_pos rfl] at hr
          rw [hok]
          exact CallsV.congrG hr (fun j => get_swap (by decide) j) (fun j => get_swap (by decide) j)
        · rintro r H' ⟨rfl, rfl⟩
          rw [List.take_length]
          refine ⟨x, _, rfl, by rw [hx1]; decide, rfl, fun z => ?_⟩
          rw [hx2]
          refine awp_seq ?_
          refine awp_region ?_
          refine al_d rfl rfl rfl (by exact (by first | exact opd_load1_ref rfl Try.isAgg71 rfl rfl rfl rfl rfl | exact opd_load1_pad rfl Try.isAgg71 rfl (by first | omega | assumption) rfl)) ?_
          refine al_n rfl rfl (by exact (by first | exact x_store_all rfl Try.sizeOf71 rfl rfl rfl rfl rfl rfl rfl rfl | exact x_store1 rfl Try.sizeOf71 rfl rfl rfl rfl rfl rfl (by simp only [List.length_cons, List.length_nil]; omega) (by simp only [List.drop_succ_cons, List.drop_zero, List.take_succ_cons, List.take_zero, List.take_nil, List.map_cons, List.map_nil, List.set_cons_zero, List.set_cons_succ, List.cons_append, List.nil_append, encFound, encTok]; rfl) (by simp only [List.drop_succ_cons, List.drop_zero, List.take_succ_cons, List.take_zero, List.take_nil, List.map_cons, List.map_nil, List.set_cons_zero, List.set_cons_succ, List.cons_append, List.nil_append, encFound, encTok]; rfl) | exact x_store1 rfl Try.sizeOf71 rfl rfl rfl rfl rfl rfl (Nat.le_of_ble_eq_true rfl) rfl rfl)) ?_
          refine al_n rfl rfl (by exact (by first | exact x_store_all rfl Try.sizeOf25 rfl rfl rfl rfl rfl rfl rfl rfl | exact x_store1 rfl Try.sizeOf25 rfl rfl rfl rfl rfl rfl (by simp only [List.length_cons, List.length_nil]; omega) (by simp only [List.drop_succ_cons, List.drop_zero, List.take_succ_cons, List.take_zero, List.take_nil, List.map_cons, List.map_nil, List.set_cons_zero, List.set_cons_succ, List.cons_append, List.nil_append, encFound, encTok]; rfl) (by simp only [List.drop_succ_cons, List.drop_zero, List.take_succ_cons, List.take_zero, List.take_nil, List.map_cons, List.map_nil, List.set_cons_zero, List.set_cons_succ, List.cons_append, List.nil_append, encFound, encTok]; rfl) | exact x_store1 rfl Try.sizeOf25 rfl rfl rfl rfl rfl rfl (Nat.le_of_ble_eq_true rfl) rfl rfl)) ?_
          refine al_n rfl rfl (by exact (by first | exact x_store_all rfl Try.sizeOf3 rfl rfl rfl rfl rfl rfl rfl rfl | exact x_store1 rfl Try.sizeOf3 rfl rfl rfl rfl rfl rfl (by simp only [List.length_cons, List.length_nil]; omega) (by simp only [List.drop_succ_cons, List.drop_zero, List.take_succ_cons, List.take_zero, List.take_nil, List.map_cons, List.map_nil, List.set_cons_zero, List.set_cons_succ, List.cons_append, List.nil_append, encFound, encTok]; rfl) (by simp only [List.drop_succ_cons, List.drop_zero, List.take_succ_cons, List.take_zero, List.take_nil, List.map_cons, List.map_nil, List.set_cons_zero, List.set_cons_succ, List.cons_append, List.nil_append, encFound, encTok]; rfl) | exact x_store1 rfl Try.sizeOf3 rfl rfl rfl rfl rfl rfl (Nat.le_of_ble_eq_true rfl) rfl rfl)) ?_
          refine al_nil ?_
          refine awp_ret ?_
          -- return
          refine aret3 (H' := []) (by first | exact .inr rfl | exact .inl rfl) rfl (rval_cell1 rfl Try.isAgg71 rfl rfl rfl rfl) (rval_cell1 rfl Try.isAgg25 rfl rfl rfl rfl) (rval_cell1 rfl Try.isAgg3 rfl rfl rfl rfl) (Fin.fz (r' := .tup [.pv (slToks ds), iv 0, iv 0]) (id := 905) (ob := ⟨ds.length, 3, 78, tkRows ds⟩) (ds.map encTok) rfl (by rw [List.map_map]; rfl) (.tup rfl (fz_cons (.osl (qs := ds.map encTok) (by rw [Nat.zero_add, List.drop_zero]; exact List.take_of_length_le (Nat.le_of_eq (List.length_map encTok)))) (fz_cons (.same (by simp)) (fz_cons (.same (by simp)) fz_nil)))) rfl trivial trivial) ?_
          exact ⟨rfl, rfl⟩
end Go.Proofs.Ytedfihgkopejcaa
end
section
set_option linter.unusedVariables false
set_option linter.unusedSimpArgs false
set_option maxRecDepth 100000
namespace Go.Proofs.Ytedfihgkopejcaa
open Go.Abs
theorem encTok_rl (l : List GFound) : ∀ r ∈ l.map encTok, r.length = 3 := fun r hr => by
  obtain ⟨t, _, rfl⟩ := List.mem_map.1 hr
  rfl

def cS (l : List GFound) : Ob := bx 1 71 [.pv (slToks l)]
def cN : Ob := bx 1 3 [iv 3]
theorem chunk_c (l : List GFound) (H : Heap) (h1 : H.get 931 = none) (h2 : H.get 932 = none) :
    ACalls Try.prog 44 [.pv (slToks l), iv 3] H (fun r H' => r = .clo 61 [.ref 931 0 0 0, .ref 932 0 0 0] ∧ H' = (932, cN) :: (931, cS l) :: H) := by
  have h2' : Heap.get ((931, cS l) :: H) 932 = none := h2
  refine ACalls.body Try.func44 rfl Try.ntmps44 (Nat.le_of_ble_eq_true rfl) ?_
  refine awp_seq ?_
  refine awp_region ?_
  refine al_d rfl rfl rfl (by exact opd_box (id := 931) rfl rfl rfl rfl h1) ?_
  refine al_d rfl rfl rfl (by exact opd_box (id := 932) rfl rfl rfl rfl h2') ?_
  refine al_d rfl rfl rfl (by exact opd_assign rfl rfl) ?_
  refine al_nil ?_
  refine awp_seq ?_
  refine awp_seq ?_
  refine awp_region ?_
  refine al_d rfl rfl rfl (by exact (by first | exact opd_load1_ref rfl Try.isAgg3 rfl rfl rfl rfl rfl | exact opd_load1_pad rfl Try.isAgg3 rfl (by first | omega | assumption) rfl)) ?_
  refine al_d rfl rfl rfl (by exact opd_lss rfl rfl rfl) ?_
  refine al_nil ?_
  refine awp_cond rfl (fun hc1 => ?_) (fun hc1 => ?_)
  -- cond 1
  · skip
    cases hc1
  · skip
    refine awp_skip ?_
    refine awp_seq ?_
    refine awp_region ?_
    refine al_d rfl rfl rfl (by exact opd_makeFunc rfl rfl) ?_
    refine al_d rfl rfl rfl (by exact opd_assign rfl rfl) ?_
    refine al_nil ?_
    refine awp_ret ?_
    -- return
    refine aret1 (H' := ((932, cN) :: (931, cS l) :: H)) (by first | exact .inr rfl | exact .inl rfl) rfl (rval_tmp rfl) Fin.refl ?_
    exact ⟨rfl, rfl⟩
/-- The k-th piece. -/
def piece (l : List GFound) (k : Nat) : List GFound := (l.drop (3 * k)).take 3
theorem piece_enc {l : List GFound} {k c : Nat} (hc : c = min 3 (l.length - 3 * k)) : ((l.map encTok).drop (3 * k)).take c = (piece l k).map encTok := by
  rw [piece, List.map_take, List.map_drop]
  have hdl : ((l.map encTok).drop (3 * k)).length = l.length - 3 * k := by rw [List.length_drop, List.length_map]
  rcases Nat.le_total 3 (l.length - 3 * k) with h | h
  · rw [hc, Nat.min_eq_left h]
  · rw [hc, Nat.min_eq_right h, List.take_of_length_le (by omega), List.take_of_length_le (by omega)]
theorem min_cast (n : Nat) : min (3 : Int) (n : Int) = ((min 3 n : Nat) : Int) := by
  rcases Nat.le_total 3 n with h | h
  · rw [Nat.min_eq_left h]
    exact Int.min_eq_left (by omega)
  · rw [Nat.min_eq_right h]
    exact Int.min_eq_right (by omega)
theorem chunk1_c (l : List GFound) (fv : AV) (Hs : Nat → Heap) (cont : Nat → Bool) (m : Nat) (hl : l.length < 1099511627776) (h1 : ∀ k, (Hs k).get 931 = some (cS l)) (h2 : ∀ k, (Hs k).get 932 = some cN) (hm : m ≤ (l.length + 2) / 3) (hall : ∀ k, k + 1 < m → cont k = true) (hend : m = (l.length + 2) / 3 ∨ (0 < m ∧ cont (m - 1) = false))
    (hy : ∀ k, 3 * k < l.length → k < m → CallsV Try.prog fv [.pv (slToks (piece l k))] (Hs k) (fun r H' => r = bv (cont k) ∧ H' = Hs (k + 1))) :
    ACalls Try.prog 61 [fv, .ref 931 0 0 0, .ref 932 0 0 0] (Hs 0) (fun r H' => r = .tup [] ∧ H' = Hs m) := by
  have hml : (l.map encTok).length = l.length := List.length_map _
  refine ACalls.body Try.func61 rfl Try.ntmps61 (Nat.le_of_ble_eq_true rfl) ?_
  refine awp_seq ?_
  refine awp_region ?_
  refine al_d rfl rfl rfl (by exact opd_assign rfl rfl) ?_
  refine al_nil ?_
  refine awp_block ?_
  -- loop
  refine awp_loop (σ := Nat) (fun k => ([(0, fv), (1, .ref 931 0 0 0), (2, .ref 932 0 0 0), (4, iv ((3 * k : Nat) : Int))], Hs k)) (fun k => k ≤ m ∧ (k = 0 ∨ cont (k - 1) = true)) (fun k => l.length + 3 - 3 * k) 0 ⟨Nat.zero_le _, .inl rfl⟩ ?_ ?_
  · exact Ent.e0 ⟨⟨_, rfl, rfl⟩, ⟨_, rfl, rfl⟩, ⟨_, rfl, rfl⟩, ⟨_, rfl, rfl⟩, trivial⟩
  · rintro k ⟨hkm, hkc⟩
    refine awp_seq ?_
    refine awp_seq ?_
    refine awp_region ?_
    refine al_d rfl rfl rfl (by exact opd_move rfl rfl) ?_
    refine al_d rfl rfl rfl (by exact (by first | exact opd_load1_ref rfl Try.isAgg71 rfl (h1 k) rfl rfl rfl | exact opd_load1_pad rfl Try.isAgg71 rfl (by first | omega | assumption) rfl)) ?_
    refine al_d rfl rfl rfl (by exact (by first | exact opd_len_sl rfl Try.underlying71 rfl | exact opd_len_osl rfl Try.underlying71 rfl rfl rfl)) ?_
    refine al_d rfl rfl rfl (by exact opd_lss rfl rfl rfl) ?_
    refine al_nil ?_
    refine awp_cond rfl (fun hc1 => ?_) (fun hc1 => ?_)
    -- cond 1
    · have hlt : 3 * k < l.length := by have := of_decide_eq_true hc1; omega
      have hkm2 : k < m := by
        rcases Nat.lt_or_ge k m with h | h
        · exact h
        · have hkem : k = m := Nat.le_antisymm hkm h
          subst hkem
          rcases hend with h | ⟨h, h'⟩
          · omega
          · rcases hkc with h2 | h2
            · omega
            · rw [h2] at h'; cases h'
      have hyk := hy k hlt hkm2
      obtain ⟨c, hc⟩ : ∃ c, c = min 3 (l.length - 3 * k) := ⟨_, rfl⟩
      have hdl : ((l.map encTok).drop (3 * k)).length = l.length - 3 * k := by rw [List.length_drop, hml]
      refine awp_skip ?_
      refine awp_seq ?_
      refine awp_block ?_
      refine awp_seq ?_
      refine awp_drawc follows ?_
      refine dc_cons (DStep.q rfl (by exact (by first | exact opd_load1_ref rfl Try.isAgg3 rfl (h2 k) rfl rfl rfl | exact opd_load1_pad rfl Try.isAgg3 rfl (by first | omega | assumption) rfl))) rfl ?_
      refine dc_cons (DStep.q rfl (by exact (by first | exact opd_load1_ref rfl Try.isAgg71 rfl (h1 k) rfl rfl rfl | exact opd_load1_pad rfl Try.isAgg71 rfl (by first | omega | assumption) rfl))) rfl ?_
      refine dc_cons (DStep.q rfl (by exact opd_move rfl rfl)) rfl ?_
      refine dc_cons (DStep.q rfl (by exact x_slice_sl (l := 3 * k) (h := (l.map encTok).length) (rows' := (l.map encTok).drop (3 * k)) rfl so71 rfl (encTok_rl l) rfl rfl (by omega) (Nat.le_refl _) (by rw [List.take_length]))) rfl ?_
      refine dc_cons (DStep.q rfl (by exact (by first | exact opd_len_sl rfl Try.underlying71 rfl | exact opd_len_osl rfl Try.underlying71 rfl rfl rfl))) rfl ?_
      refine dc_cons (DStep.q rfl (by exact opd_min (r := (c : Int)) rfl rfl rfl (by rw [hdl, hc]; exact min_cast _))) rfl ?_
      refine dc_cons (DStep.q rfl (by exact opd_assign rfl rfl)) rfl ?_
      refine dc_nil ⟨by kernel_rfl, ?_⟩
      refine awp_seq ?_
      refine awp_region ?_
      refine al_d rfl rfl rfl (by exact opd_move rfl rfl) ?_
      refine al_d rfl rfl rfl (by exact (by first | exact opd_load1_ref rfl Try.isAgg71 rfl (h1 k) rfl rfl rfl | exact opd_load1_pad rfl Try.isAgg71 rfl (by first | omega | assumption) rfl)) ?_
      refine al_d rfl rfl rfl (by exact opd_move rfl rfl) ?_
      refine al_d rfl rfl rfl (by exact opd_move rfl rfl) ?_
      refine al_d rfl rfl rfl (by exact opd_move rfl rfl) ?_
      refine al_d rfl rfl rfl (by exact opd_add rfl rfl rfl (show IntKind.i64.wrap (((3 * k : Nat) : Int) + (c : Int)) = ((3 * k + c : Nat) : Int) by rw [IntKind.wrap_i64]; omega)) ?_
      refine al_d rfl rfl rfl (by exact opd_move rfl rfl) ?_
      refine al_d rfl rfl rfl (by exact opd_move rfl rfl) ?_
      refine al_d rfl rfl rfl (by exact opd_add rfl rfl rfl (show IntKind.i64.wrap (((3 * k : Nat) : Int) + (c : Int)) = ((3 * k + c : Nat) : Int) by rw [IntKind.wrap_i64]; omega)) ?_
      refine al_d rfl rfl rfl (by exact x_slice3 (l := 3 * k) (h := 3 * k + c) (rows' := (piece l k).map encTok) rfl so71 rfl (encTok_rl l) rfl rfl rfl (by omega) (by omega) (by intro h; rw [List.map_eq_nil_iff] at h; rw [h] at hlt; exact absurd hlt (Nat.not_lt_zero _)) (by rw [List.drop_take, Nat.add_sub_cancel_left]; exact piece_enc hc)) ?_
      refine al_d rfl rfl rfl (by exact opr_callV rfl rfl rfl (hyk)) ?_
      refine al_d rfl rfl rfl (by exact opd_not rfl rfl) ?_
      refine al_nil ?_
      refine awp_cond rfl (fun hc2 => ?_) (fun hc2 => ?_)
      -- cond 2
      · have hck : cont k = false := by have h := hc2; rwa [Bool.not_eq_true'] at h
        have hkk : k + 1 = m := by
          rcases Nat.lt_or_ge (k + 1) m with h3 | h3
          · rw [hall k h3] at hck; cases hck
          · omega
        refine awp_ret ?_
        -- return
        rw [← hkk]
        exact aret0 (H' := Hs (k + 1)) (.inr rfl) rfl Fin.refl ⟨rfl, rfl⟩
      · have hck : cont k = true := by have h := hc2; rwa [Bool.not_eq_false'] at h
        refine awp_skip ?_
        refine awp_region ?_
        refine al_d rfl rfl rfl (by exact opd_move rfl rfl) ?_
        refine al_d rfl rfl rfl (by exact (by first | exact opd_load1_ref rfl Try.isAgg3 rfl (h2 (k + 1)) rfl rfl rfl | exact opd_load1_pad rfl Try.isAgg3 rfl (by first | omega | assumption) rfl)) ?_
        refine al_d rfl rfl rfl (by exact opd_add rfl rfl rfl (show IntKind.i64.wrap (((3 * k : Nat) : Int) + 3) = ((3 * (k + 1) : Nat) : Int) by rw [IntKind.wrap_i64]; omega)) ?_
        refine al_d rfl rfl rfl (by exact opd_assign rfl rfl) ?_
        refine al_nil ?_
        -- end of a round
        exact ⟨k + 1, ⟨hkm2, .inr hck⟩, by omega, Ent.e0 ⟨⟨_, rfl, rfl⟩, ⟨_, rfl, rfl⟩, ⟨_, rfl, rfl⟩, ⟨_, rfl, rfl⟩, trivial⟩⟩
    · have hge : l.length ≤ 3 * k := by have := of_decide_eq_false hc1; omega
      have hkk : k = m := by omega
      refine awp_exit ?_
      -- end of the body
      rw [← hkk]
      exact aret0 (H' := Hs k) (.inl rfl) rfl Fin.refl ⟨rfl, rfl⟩
/-- The tags that tokens spell, three by three. -/
def tagsOf : List GFound → Option (List GTag)
  | [] => some []
  | a :: _ :: c :: r => (tagsOf r).map fun l => ⟨a.text, c.text⟩ :: l
  | _ => none
/-- The tags of a text. -/
def gParse (s : ByteArray) : List GTag × Int := if 20000 < s.size then ([], 2) else match tagsOf (gLex s).1 with
  | none => ([], 5)
  | some l => if (gLex s).2.1 ≠ 0 ∨ (gText l).2 ≠ 0 ∨ (gText l).1 ≠ s then ([], 5) else (l, 0)
def tagAt (l : List GFound) (k : Nat) : GTag := ⟨((l[3 * k]?).map GFound.text).getD sNil, ((l[3 * k + 2]?).map GFound.text).getD sNil⟩
/-- The first tags. -/
def firstTags (l : List GFound) (k : Nat) : List GTag := (List.range k).map (tagAt l)
theorem firstTags_next (l : List GFound) (k : Nat) : firstTags l (k + 1) = firstTags l k ++ [tagAt l k] := by rw [firstTags, List.range_succ, List.map_append]; rfl
theorem firstTags_len (l : List GFound) (k : Nat) : (firstTags l k).length = k := by rw [firstTags, List.length_map, List.length_range]
theorem tagsOf_eq : ∀ (l : List GFound), tagsOf l = if l.length % 3 = 0 then some (firstTags l (l.length / 3)) else none
  | [] => rfl
  | [a] => rfl
  | [a, b] => rfl
  | a :: b :: c :: r => by
    rw [tagsOf, tagsOf_eq r]
    have h1 : (a :: b :: c :: r).length = r.length + 3 := rfl
    rw [h1, Nat.add_mod_right, Nat.add_div_right _ (by decide)]
    split
    · rw [Option.map_some, firstTags, firstTags, List.range_succ_eq_map, List.map_cons, List.map_map]
      congr 2
    · rfl
def tgRows (l : List GTag) : List (List AV) := l.map fun t => (encTag t).map AV.pv
theorem tgRows_len (l : List GTag) : (tgRows l).length = l.length := List.length_map _
theorem tgRows_app (l : List GTag) (t : GTag) : tgRows l ++ [(encTag t).map AV.pv] = tgRows (l ++ [t]) := by rw [tgRows, tgRows, List.map_append]; rfl
def pK (T : List GFound) (L : List GTag) (a : AV) (e : Int) : Heap := [(905, ⟨L.length, 2, 46, tgRows L⟩), (7, bx 1 22 [.osl 905 L.length 0 L.length]), (932, cN), (931, cS T), (3, bx 1 25 [iv e]), (2, bx 1 22 [a])]
theorem pK_app (T : List GFound) (L : List GTag) (t : GTag) (a : AV) (e : Int) : pK T (L ++ [t]) a e = [(905, ⟨L.length + 1, 2, 46, tgRows (L ++ [t])⟩), (7, bx 1 22 [.osl 905 (L.length + 1) 0 (L.length + 1)]), (932, cN), (931, cS T), (3, bx 1 25 [iv e]), (2, bx 1 22 [a])] := by simp [pK]
theorem tgRows_clo (H : Heap) (l : List GTag) : ∀ r ∈ tgRows l, ∀ a ∈ r, Clo H a := by
  intro r hr a ha
  obtain ⟨d, _, rfl⟩ := List.mem_map.1 hr
  obtain ⟨p, _, rfl⟩ := List.mem_map.1 ha
  simp
theorem cS_clo (H : Heap) (l : List GFound) : ∀ r ∈ (cS l).rows, ∀ a ∈ r, Clo H a := by
  intro r hr a ha
  simp only [cS, bx, List.mem_singleton] at hr
  subst hr
  rw [List.mem_singleton] at ha
  subst ha
  simp
theorem cN_clo (H : Heap) : ∀ r ∈ cN.rows, ∀ a ∈ r, Clo H a := by
  intro r hr a ha
  simp only [cN, bx, List.mem_singleton] at hr
  subst hr
  rw [List.mem_singleton] at ha
  subst ha
  simp
def parE : Env := [(2, .ref 2 0 0 0), (3, .ref 3 0 0 0), (7, .ref 7 0 0 0)]
theorem piece_full {l : List GFound} {k : Nat} (h : 3 * k + 3 ≤ l.length) : ∃ a b c, piece l k = [a, b, c] ∧ tagAt l k = ⟨a.text, c.text⟩ := by
  have h0 : 3 * k < l.length := by omega
  have h1 : 3 * k + 1 < l.length := by omega
  have h2 : 3 * k + 2 < l.length := by omega
  refine ⟨l[3 * k], l[3 * k + 1], l[3 * k + 2], ?_, ?_⟩
  · rw [piece, List.drop_eq_getElem_cons h0, List.drop_eq_getElem_cons h1, List.drop_eq_getElem_cons h2]
    rfl
  · rw [tagAt, List.getElem?_eq_getElem h0, List.getElem?_eq_getElem h2]
    rfl
theorem piece_len (l : List GFound) (k : Nat) : (piece l k).length = min 3 (l.length - 3 * k) := by rw [piece, List.length_take, List.length_drop]
theorem lexRun_len : ∀ (r acc : List GFound), (lexRun acc r).1.length ≤ acc.length + r.length
  | [], acc => Nat.le_refl _
  | f :: r, acc => by
    rw [lexRun]
    split
    · exact Nat.zero_le _
    · split
      · exact Nat.zero_le _
      · have := lexRun_len r (acc ++ [f])
        rw [List.length_append, List.length_singleton] at this
        rw [List.length_cons]
        omega
theorem lex_toks_len (s : ByteArray) (h : s.size < 1099511627776) : (gLex s).1.length < 549755813888 := by
  unfold gLex
  split
  · decide
  · have h1 := lexRun_len (gToks s (s.size + 1) 0) []
    have h2 := toks_len s (s.size + 1) 0
    rw [List.length_nil] at h1
    omega
theorem parse_c (s : ByteArray) (H : Heap) (hs : s.size < 1099511627776) (hN : ∀ l, tagsOf (gLex s).1 = some l → okTags l) : ACalls Try.prog 17 [sv s] H (fun r H' => r = .tup [.pv (slTags (gParse s).1), iv (gParse s).2] ∧ H' = H) := by
  refine ACalls.pure ?_ (by simp) H
  refine ACalls.body Try.func17 rfl Try.ntmps17 (Nat.le_of_ble_eq_true rfl) ?_
  refine awp_seq ?_
  refine awp_region ?_
  refine al_d rfl rfl rfl (by exact x_alloc (id := 2) rfl zo22 rfl rfl) ?_
  refine al_d rfl rfl rfl (by exact x_alloc (id := 3) rfl zo25 rfl rfl) ?_
  refine al_nil ?_
  refine awp_seq ?_
  refine awp_seq ?_
  refine awp_region ?_
  refine al_d rfl rfl rfl (by exact opd_move rfl rfl) ?_
  refine al_d rfl rfl rfl (by exact opd_len_str rfl Try.underlying9 rfl) ?_
  refine al_d rfl rfl rfl (by exact opd_gtr rfl rfl rfl) ?_
  refine al_nil ?_
  refine awp_cond rfl (fun hc1 => ?_) (fun hc1 => ?_)
  -- cond 1
  · have e : gParse s = ([], 2) := by rw [gParse, if_pos (by have := of_decide_eq_true hc1; omega)]
    rw [e]
    refine awp_seq ?_
    refine awp_region ?_
    refine al_n rfl rfl (by exact (by first | exact x_store_all rfl Try.sizeOf22 rfl rfl rfl rfl rfl rfl rfl rfl | exact x_store1 rfl Try.sizeOf22 rfl rfl rfl rfl rfl rfl (by simp only [List.length_cons, List.length_nil]; omega) (by simp only [List.drop_succ_cons, List.drop_zero, List.take_succ_cons, List.take_zero, List.take_nil, List.map_cons, List.map_nil, List.set_cons_zero, List.set_cons_succ, List.cons_append, List.nil_append, encTok, encTag]; rfl) (by simp only [List.drop_succ_cons, List.drop_zero, List.take_succ_cons, List.take_zero, List.take_nil, List.map_cons, List.map_nil, List.set_cons_zero, List.set_cons_succ, List.cons_append, List.nil_append, encTok, encTag]; rfl) | exact x_store1 rfl Try.sizeOf22 rfl rfl rfl rfl rfl rfl (Nat.le_of_ble_eq_true rfl) rfl rfl)) ?_
    refine al_n rfl rfl (by exact (by first | exact x_store_all rfl Try.sizeOf25 rfl rfl rfl rfl rfl rfl rfl rfl | exact x_store1 rfl Try.sizeOf25 rfl rfl rfl rfl rfl rfl (by simp only [List.length_cons, List.length_nil]; omega) (by simp only [List.drop_succ_cons, List.drop_zero, List.take_succ_cons, List.take_zero, List.take_nil, List.map_cons, List.map_nil, List.set_cons_zero, List.set_cons_succ, List.cons_append, List.nil_append, encTok, encTag]; rfl) (by simp only [List.drop_succ_cons, List.drop_zero, List.take_succ_cons, List.take_zero, List.take_nil, List.map_cons, List.map_nil, List.set_cons_zero, List.set_cons_succ, List.cons_append, List.nil_append, encTok, encTag]; rfl) | exact x_store1 rfl Try.sizeOf25 rfl rfl rfl rfl rfl rfl (Nat.le_of_ble_eq_true rfl) rfl rfl)) ?_
    refine al_nil ?_
    refine awp_ret ?_
    -- return
    refine aret2 (H' := []) (by first | exact .inr rfl | exact .inl rfl) rfl (rval_cell1 rfl Try.isAgg22 rfl rfl rfl rfl) (rval_cell1 rfl Try.isAgg25 rfl rfl rfl rfl) (Fin.wk (by simp) trivial trivial) ?_
    exact ⟨rfl, rfl⟩
  · have hsz : ¬ 20000 < s.size := by have := of_decide_eq_false hc1; omega
    have hTl := lex_toks_len s hs
    have hpar : gParse s = match tagsOf (gLex s).1 with
      | none => ([], 5)
      | some l => if (gLex s).2.1 ≠ 0 ∨ (gText l).2 ≠ 0 ∨ (gText l).1 ≠ s then ([], 5) else (l, 0) := by rw [gParse, if_neg hsz]
    obtain ⟨g, hg⟩ : ∃ g, g = gLex s := ⟨_, rfl⟩
    rw [← hg] at hpar hTl hN
    obtain ⟨T, e, ep⟩ := g
    simp only at hpar hTl hN
    have hTe : (gLex s).1 = T ∧ (gLex s).2.1 = e ∧ (gLex s).2.2 = ep := by rw [← hg]; exact ⟨rfl, rfl, rfl⟩
    have hlx := fun H => lex_c s H hs
    rw [hTe.1, hTe.2.1, hTe.2.2] at hlx
    obtain ⟨res, hres⟩ : ∃ res, res = gParse s := ⟨_, rfl⟩
    rw [← hres] at hpar ⊢
    clear hTe hg
    refine awp_skip ?_
    refine awp_seq ?_
    refine awp_region ?_
    refine al_d rfl rfl rfl (by exact opd_move rfl rfl) ?_
    refine al_d rfl rfl rfl (by exact opr_call rfl rfl Try.call43 rfl (hlx _)) ?_
    refine al_d rfl rfl rfl (by exact opd_move rfl rfl) ?_
    refine al_d rfl rfl rfl (by exact opd_extract rfl rfl rfl) ?_
    refine al_d rfl rfl rfl (by exact opd_extract rfl rfl rfl) ?_
    refine al_d rfl rfl rfl (by exact opd_extract rfl rfl rfl) ?_
    refine al_d rfl rfl rfl (by exact opd_assign rfl rfl) ?_
    refine al_d rfl rfl rfl (by exact opd_assign rfl rfl) ?_
    refine al_d rfl rfl rfl (by exact opd_assign rfl rfl) ?_
    refine al_nil ?_
    refine awp_seq ?_
    refine awp_region ?_
    refine al_d rfl rfl rfl (by exact x_alloc (id := 7) rfl zoN22 rfl rfl) ?_
    refine al_nil ?_
    refine awp_seq ?_
    refine awp_seq ?_
    refine awp_region ?_
    refine al_d rfl rfl rfl (by exact opd_move rfl rfl) ?_
    refine al_d rfl rfl rfl (by exact opr_call rfl rfl Try.call44 rfl (chunk_c T _ rfl rfl)) ?_
    refine al_nil ?_
    refine awp_block ?_
    -- range
    refine AWp.ent (E' := [(0, sv s), (2, .ref 2 0 0 0), (3, .ref 3 0 0 0), (5, iv e), (7, .ref 7 0 0 0), (21, .clo 61 [.ref 931 0 0 0, .ref 932 0 0 0])]) (H' := [(905, ⟨0, 2, 46, []⟩), (7, bx 1 22 [.osl 905 0 0 0]), (932, cN), (931, cS T), (3, bx 1 25 [iv 0]), (2, bx 1 22 [.pv (.sl [])])]) ?_ ?_
    · exact (Ent.nz 905 2 46 rfl rfl ⟨⟨_, rfl, (by first | exact Nz.own | exact Nz.weak | exact Nz.same (by first | (simp; done) | (simp; rfl) | (simp; exact ⟨rfl, rfl⟩) | exact LR_clo (by simp [parE]; exact ⟨rfl, rfl, rfl⟩) | exact tgRows_clo _ _ | exact cS_clo _ _ | exact cN_clo _ | exact clo_map _ _ _))⟩, ⟨_, rfl, (by first | exact Nz.own | exact Nz.weak | exact Nz.same (by first | (simp; done) | (simp; rfl) | (simp; exact ⟨rfl, rfl⟩) | exact LR_clo (by simp [parE]; exact ⟨rfl, rfl, rfl⟩) | exact tgRows_clo _ _ | exact cS_clo _ _ | exact cN_clo _ | exact clo_map _ _ _))⟩, ⟨_, rfl, (by first | exact Nz.own | exact Nz.weak | exact Nz.same (by first | (simp; done) | (simp; rfl) | (simp; exact ⟨rfl, rfl⟩) | exact LR_clo (by simp [parE]; exact ⟨rfl, rfl, rfl⟩) | exact tgRows_clo _ _ | exact cS_clo _ _ | exact cN_clo _ | exact clo_map _ _ _))⟩, ⟨_, rfl, (by first | exact Nz.own | exact Nz.weak | exact Nz.same (by first | (simp; done) | (simp; rfl) | (simp; exact ⟨rfl, rfl⟩) | exact LR_clo (by simp [parE]; exact ⟨rfl, rfl, rfl⟩) | exact tgRows_clo _ _ | exact cS_clo _ _ | exact cN_clo _ | exact clo_map _ _ _))⟩, ⟨_, rfl, (by first | exact Nz.own | exact Nz.weak | exact Nz.same (by first | (simp; done) | (simp; rfl) | (simp; exact ⟨rfl, rfl⟩) | exact LR_clo (by simp [parE]; exact ⟨rfl, rfl, rfl⟩) | exact tgRows_clo _ _ | exact cS_clo _ _ | exact cN_clo _ | exact clo_map _ _ _))⟩, ⟨_, rfl, (by first | exact Nz.own | exact Nz.weak | exact Nz.same (by first | (simp; done) | (simp; rfl) | (simp; exact ⟨rfl, rfl⟩) | exact LR_clo (by simp [parE]; exact ⟨rfl, rfl, rfl⟩) | exact tgRows_clo _ _ | exact cS_clo _ _ | exact cN_clo _ | exact clo_map _ _ _))⟩, trivial⟩ ⟨⟨_, rfl, rfl, rfl, rfl, (by first | exact .inl ⟨rfl, (by first | (simp; done) | (simp; rfl) | (simp; exact ⟨rfl, rfl⟩) | exact LR_clo (by simp [parE]; exact ⟨rfl, rfl, rfl⟩) | exact tgRows_clo _ _ | exact cS_clo _ _ | exact cN_clo _ | exact clo_map _ _ _)⟩ | exact .inr ⟨_, _, rfl, rfl, (by repeat (first | exact trivial | refine ⟨(by first | exact Nz.own | exact Nz.weak | exact Nz.same (by first | (simp; done) | (simp; rfl) | (simp; exact ⟨rfl, rfl⟩) | exact LR_clo (by simp [parE]; exact ⟨rfl, rfl, rfl⟩) | exact tgRows_clo _ _ | exact cS_clo _ _ | exact cN_clo _ | exact clo_map _ _ _)), ?_⟩))⟩)⟩, ⟨_, rfl, rfl, rfl, rfl, (by first | exact .inl ⟨rfl, (by first | (simp; done) | (simp; rfl) | (simp; exact ⟨rfl, rfl⟩) | exact LR_clo (by simp [parE]; exact ⟨rfl, rfl, rfl⟩) | exact tgRows_clo _ _ | exact cS_clo _ _ | exact cN_clo _ | exact clo_map _ _ _)⟩ | exact .inr ⟨_, _, rfl, rfl, (by repeat (first | exact trivial | refine ⟨(by first | exact Nz.own | exact Nz.weak | exact Nz.same (by first | (simp; done) | (simp; rfl) | (simp; exact ⟨rfl, rfl⟩) | exact LR_clo (by simp [parE]; exact ⟨rfl, rfl, rfl⟩) | exact tgRows_clo _ _ | exact cS_clo _ _ | exact cN_clo _ | exact clo_map _ _ _)), ?_⟩))⟩)⟩, ⟨_, rfl, rfl, rfl, rfl, (by first | exact .inl ⟨rfl, (by first | (simp; done) | (simp; rfl) | (simp; exact ⟨rfl, rfl⟩) | exact LR_clo (by simp [parE]; exact ⟨rfl, rfl, rfl⟩) | exact tgRows_clo _ _ | exact cS_clo _ _ | exact cN_clo _ | exact clo_map _ _ _)⟩ | exact .inr ⟨_, _, rfl, rfl, (by repeat (first | exact trivial | refine ⟨(by first | exact Nz.own | exact Nz.weak | exact Nz.same (by first | (simp; done) | (simp; rfl) | (simp; exact ⟨rfl, rfl⟩) | exact LR_clo (by simp [parE]; exact ⟨rfl, rfl, rfl⟩) | exact tgRows_clo _ _ | exact cS_clo _ _ | exact cN_clo _ | exact clo_map _ _ _)), ?_⟩))⟩)⟩, ⟨_, rfl, rfl, rfl, rfl, (by first | exact .inl ⟨rfl, (by first | (simp; done) | (simp; rfl) | (simp; exact ⟨rfl, rfl⟩) | exact LR_clo (by simp [parE]; exact ⟨rfl, rfl, rfl⟩) | exact tgRows_clo _ _ | exact cS_clo _ _ | exact cN_clo _ | exact clo_map _ _ _)⟩ | exact .inr ⟨_, _, rfl, rfl, (by repeat (first | exact trivial | refine ⟨(by first | exact Nz.own | exact Nz.weak | exact Nz.same (by first | (simp; done) | (simp; rfl) | (simp; exact ⟨rfl, rfl⟩) | exact LR_clo (by simp [parE]; exact ⟨rfl, rfl, rfl⟩) | exact tgRows_clo _ _ | exact cS_clo _ _ | exact cN_clo _ | exact clo_map _ _ _)), ?_⟩))⟩)⟩, ⟨_, rfl, rfl, rfl, rfl, (by first | exact .inl ⟨rfl, (by first | (simp; done) | (simp; rfl) | (simp; exact ⟨rfl, rfl⟩) | exact LR_clo (by simp [parE]; exact ⟨rfl, rfl, rfl⟩) | exact tgRows_clo _ _ | exact cS_clo _ _ | exact cN_clo _ | exact clo_map _ _ _)⟩ | exact .inr ⟨_, _, rfl, rfl, (by repeat (first | exact trivial | refine ⟨(by first | exact Nz.own | exact Nz.weak | exact Nz.same (by first | (simp; done) | (simp; rfl) | (simp; exact ⟨rfl, rfl⟩) | exact LR_clo (by simp [parE]; exact ⟨rfl, rfl, rfl⟩) | exact tgRows_clo _ _ | exact cS_clo _ _ | exact cN_clo _ | exact clo_map _ _ _)), ?_⟩))⟩)⟩, trivial⟩ trivial)
    · refine awp_range (id := 904) (p := 22) parE rfl Try.call61 rfl rfl (by simp [parE]; exact ⟨rfl, rfl, rfl⟩) ?_
      intro x hx1 hx2 hx3 hx4 hx5 hx6
      have hround : ∀ (k : Nat), 3 * k < T.length →
          CallsV Try.prog (.yld 904 0) [.pv (slToks (piece T k))] ((904, LR x parE) :: pK T (firstTags T k) (.pv (.sl [])) 0) (fun r H' => r = bv (decide (3 * k + 3 ≤ T.length)) ∧ H' = (if 3 * k + 3 ≤ T.length then (904, LR x parE) :: pK T (firstTags T (k + 1)) (.pv (.sl [])) 0 else (904, LR (left x .ret) parE) :: pK T (firstTags T k) (.pv (.sl [])) 5)) := by
        intro k hk
        have hpl := piece_len T k
        refine .inl ⟨904, 0, rfl, ?_⟩
        refine ycalls [(2, .ref 2 0 0 0), (3, .ref 3 0 0 0), (7, .ref 7 0 0 0), (8, .pv (slToks (piece T k)))] (pK T (firstTags T k) (.pv (.sl [])) 0) hx1 hx2 hx3 hx4 hx5 hx6 rfl rfl rfl ?_ ?_
        · skip
          refine awp_region ?_
          refine al_d rfl rfl rfl (by exact opd_assign rfl rfl) ?_
          refine al_nil ?_
          -- end of the piece
          exact (Ent.wk ⟨⟨_, rfl, rfl⟩, (by first | (simp; done) | (simp; rfl) | (simp; exact ⟨rfl, rfl⟩) | exact LR_clo (by simp [parE]; exact ⟨rfl, rfl, rfl⟩) | exact tgRows_clo _ _ | exact cS_clo _ _ | exact cN_clo _ | exact clo_map _ _ _), ⟨_, rfl, rfl⟩, (by first | (simp; done) | (simp; rfl) | (simp; exact ⟨rfl, rfl⟩) | exact LR_clo (by simp [parE]; exact ⟨rfl, rfl, rfl⟩) | exact tgRows_clo _ _ | exact cS_clo _ _ | exact cN_clo _ | exact clo_map _ _ _), ⟨_, rfl, rfl⟩, (by first | (simp; done) | (simp; rfl) | (simp; exact ⟨rfl, rfl⟩) | exact LR_clo (by simp [parE]; exact ⟨rfl, rfl, rfl⟩) | exact tgRows_clo _ _ | exact cS_clo _ _ | exact cN_clo _ | exact clo_map _ _ _), ⟨_, rfl, rfl⟩, (by first | (simp; done) | (simp; rfl) | (simp; exact ⟨rfl, rfl⟩) | exact LR_clo (by simp [parE]; exact ⟨rfl, rfl, rfl⟩) | exact tgRows_clo _ _ | exact cS_clo _ _ | exact cN_clo _ | exact clo_map _ _ _), trivial⟩ ⟨⟨_, rfl, rfl⟩, (by first | (simp; done) | (simp; rfl) | (simp; exact ⟨rfl, rfl⟩) | exact LR_clo (by simp [parE]; exact ⟨rfl, rfl, rfl⟩) | exact tgRows_clo _ _ | exact cS_clo _ _ | exact cN_clo _ | exact clo_map _ _ _), ⟨_, rfl, rfl⟩, (by first | (simp; done) | (simp; rfl) | (simp; exact ⟨rfl, rfl⟩) | exact LR_clo (by simp [parE]; exact ⟨rfl, rfl, rfl⟩) | exact tgRows_clo _ _ | exact cS_clo _ _ | exact cN_clo _ | exact clo_map _ _ _), ⟨_, rfl, rfl⟩, (by first | (simp; done) | (simp; rfl) | (simp; exact ⟨rfl, rfl⟩) | exact LR_clo (by simp [parE]; exact ⟨rfl, rfl, rfl⟩) | exact tgRows_clo _ _ | exact cS_clo _ _ | exact cN_clo _ | exact clo_map _ _ _), ⟨_, rfl, rfl⟩, (by first | (simp; done) | (simp; rfl) | (simp; exact ⟨rfl, rfl⟩) | exact LR_clo (by simp [parE]; exact ⟨rfl, rfl, rfl⟩) | exact tgRows_clo _ _ | exact cS_clo _ _ | exact cN_clo _ | exact clo_map _ _ _), ⟨_, rfl, rfl⟩, (by first | (simp; done) | (simp; rfl) | (simp; exact ⟨rfl, rfl⟩) | exact LR_clo (by simp [parE]; exact ⟨rfl, rfl, rfl⟩) | exact tgRows_clo _ _ | exact cS_clo _ _ | exact cN_clo _ | exact clo_map _ _ _), ⟨_, rfl, rfl⟩, (by first | (simp; done) | (simp; rfl) | (simp; exact ⟨rfl, rfl⟩) | exact LR_clo (by simp [parE]; exact ⟨rfl, rfl, rfl⟩) | exact tgRows_clo _ _ | exact cS_clo _ _ | exact cN_clo _ | exact clo_map _ _ _), ⟨_, rfl, rfl⟩, (by first | (simp; done) | (simp; rfl) | (simp; exact ⟨rfl, rfl⟩) | exact LR_clo (by simp [parE]; exact ⟨rfl, rfl, rfl⟩) | exact tgRows_clo _ _ | exact cS_clo _ _ | exact cN_clo _ | exact clo_map _ _ _), trivial⟩ ⟨rfl, rfl, rfl, rfl, rfl, rfl, rfl, trivial⟩)
        · skip
          refine awp_block ?_
          refine awp_seq ?_
          refine awp_seq ?_
          refine awp_region ?_
          refine al_d rfl rfl rfl (by exact opd_move rfl rfl) ?_
          refine al_d rfl rfl rfl (by exact (by first | exact opd_len_sl rfl Try.underlying71 rfl | exact opd_len_osl rfl Try.underlying71 rfl rfl rfl)) ?_
          refine al_d rfl rfl rfl (by exact opd_lss rfl rfl rfl) ?_
          refine al_nil ?_
          refine awp_cond rfl (fun hc2 => ?_) (fun hc2 => ?_)
          -- cond 2
          · have h3 : ¬ 3 * k + 3 ≤ T.length := by have h := of_decide_eq_true hc2; rw [List.length_map, hpl] at h; omega
            rw [decide_eq_false h3, if_neg h3]
            refine awp_seq ?_
            refine awp_region ?_
            refine al_n rfl rfl (by exact (by first | exact x_store_all rfl Try.sizeOf22 rfl rfl rfl rfl rfl rfl rfl rfl | exact x_store1 rfl Try.sizeOf22 rfl rfl rfl rfl rfl rfl (by simp only [List.length_cons, List.length_nil]; omega) (by simp only [List.drop_succ_cons, List.drop_zero, List.take_succ_cons, List.take_zero, List.take_nil, List.map_cons, List.map_nil, List.set_cons_zero, List.set_cons_succ, List.cons_append, List.nil_append, encTok, encTag]; rfl) (by simp only [List.drop_succ_cons, List.drop_zero, List.take_succ_cons, List.take_zero, List.take_nil, List.map_cons, List.map_nil, List.set_cons_zero, List.set_cons_succ, List.cons_append, List.nil_append, encTok, encTag]; rfl) | exact x_store1 rfl Try.sizeOf22 rfl rfl rfl rfl rfl rfl (Nat.le_of_ble_eq_true rfl) rfl rfl)) ?_
            refine al_n rfl rfl (by exact (by first | exact x_store_all rfl Try.sizeOf25 rfl rfl rfl rfl rfl rfl rfl rfl | exact x_store1 rfl Try.sizeOf25 rfl rfl rfl rfl rfl rfl (by simp only [List.length_cons, List.length_nil]; omega) (by simp only [List.drop_succ_cons, List.drop_zero, List.take_succ_cons, List.take_zero, List.take_nil, List.map_cons, List.map_nil, List.set_cons_zero, List.set_cons_succ, List.cons_append, List.nil_append, encTok, encTag]; rfl) (by simp only [List.drop_succ_cons, List.drop_zero, List.take_succ_cons, List.take_zero, List.take_nil, List.map_cons, List.map_nil, List.set_cons_zero, List.set_cons_succ, List.cons_append, List.nil_append, encTok, encTag]; rfl) | exact x_store1 rfl Try.sizeOf25 rfl rfl rfl rfl rfl rfl (Nat.le_of_ble_eq_true rfl) rfl rfl)) ?_
            refine al_nil ?_
            refine awp_ret ?_
            -- return
            exact ⟨pK T (firstTags T k) (.pv (.sl [])) 5, (Ent.wk trivial ⟨⟨_, rfl, rfl⟩, (by first | (simp; done) | (simp; rfl) | (simp; exact ⟨rfl, rfl⟩) | exact LR_clo (by simp [parE]; exact ⟨rfl, rfl, rfl⟩) | exact tgRows_clo _ _ | exact cS_clo _ _ | exact cN_clo _ | exact clo_map _ _ _), ⟨_, rfl, rfl⟩, (by first | (simp; done) | (simp; rfl) | (simp; exact ⟨rfl, rfl⟩) | exact LR_clo (by simp [parE]; exact ⟨rfl, rfl, rfl⟩) | exact tgRows_clo _ _ | exact cS_clo _ _ | exact cN_clo _ | exact clo_map _ _ _), ⟨_, rfl, rfl⟩, (by first | (simp; done) | (simp; rfl) | (simp; exact ⟨rfl, rfl⟩) | exact LR_clo (by simp [parE]; exact ⟨rfl, rfl, rfl⟩) | exact tgRows_clo _ _ | exact cS_clo _ _ | exact cN_clo _ | exact clo_map _ _ _), ⟨_, rfl, rfl⟩, (by first | (simp; done) | (simp; rfl) | (simp; exact ⟨rfl, rfl⟩) | exact LR_clo (by simp [parE]; exact ⟨rfl, rfl, rfl⟩) | exact tgRows_clo _ _ | exact cS_clo _ _ | exact cN_clo _ | exact clo_map _ _ _), ⟨_, rfl, rfl⟩, (by first | (simp; done) | (simp; rfl) | (simp; exact ⟨rfl, rfl⟩) | exact LR_clo (by simp [parE]; exact ⟨rfl, rfl, rfl⟩) | exact tgRows_clo _ _ | exact cS_clo _ _ | exact cN_clo _ | exact clo_map _ _ _), ⟨_, rfl, rfl⟩, (by first | (simp; done) | (simp; rfl) | (simp; exact ⟨rfl, rfl⟩) | exact LR_clo (by simp [parE]; exact ⟨rfl, rfl, rfl⟩) | exact tgRows_clo _ _ | exact cS_clo _ _ | exact cN_clo _ | exact clo_map _ _ _), ⟨_, rfl, rfl⟩, (by first | (simp; done) | (simp; rfl) | (simp; exact ⟨rfl, rfl⟩) | exact LR_clo (by simp [parE]; exact ⟨rfl, rfl, rfl⟩) | exact tgRows_clo _ _ | exact cS_clo _ _ | exact cN_clo _ | exact clo_map _ _ _), trivial⟩ ⟨rfl, rfl, rfl, rfl, rfl, rfl, rfl, trivial⟩), rfl, rfl⟩
          · have h3 : 3 * k + 3 ≤ T.length := by have h := of_decide_eq_false hc2; rw [List.length_map, hpl] at h; omega
            rw [decide_eq_true h3, if_pos h3, firstTags_next, pK_app]
            obtain ⟨a, b, c, hp, ht⟩ := piece_full h3
            have hi0 : ((piece T k).map encTok)[0]? = some (encTok a) := by rw [hp]; rfl
            have hi2 : ((piece T k).map encTok)[2]? = some (encTok c) := by rw [hp]; rfl
            have hfl := firstTags_len T k
            rw [ht]
            refine awp_skip ?_
            refine awp_drawc follows ?_
            refine dc_cons (r := ⟨_, some [7], []⟩) (DStep.plain rfl (fun H1 hH => by exact (by first | exact opd_load1_ref rfl Try.isAgg22 rfl ((hH _ rfl).trans rfl) rfl rfl rfl | exact opd_load1_pad rfl Try.isAgg22 rfl (by first | omega | assumption) rfl))) rfl ?_
            refine dc_cons (r := ⟨_, some [], []⟩) (DStep.plain rfl (fun H1 hH => by exact opd_move rfl rfl)) rfl ?_
            refine dc_cons (r := ⟨_, some [], []⟩) (DStep.plain rfl (fun H1 hH => by exact (by first | exact x_index_pad rfl so71 rfl rfl (by omega) (by first | exact Int.toNat_natCast _ | rfl) hi0 rfl | exact x_index_osl rfl so71 rfl ((hH _ rfl).trans rfl) rfl rfl rfl (by omega) (by first | exact Int.toNat_natCast _ | rfl) hi0 rfl))) rfl ?_
            refine dc_cons (r := ⟨_, some [], []⟩) (DStep.plain rfl (fun H1 hH => by exact (by first | exact opd_field_ref rfl fo78_1 rfl ((hH _ rfl).trans rfl) rfl rfl | exact opd_field_pad rfl fo78_1 rfl rfl))) rfl ?_
            refine dc_cons (r := ⟨_, some [], []⟩) (DStep.plain rfl (fun H1 hH => by exact (by first | exact opd_load1_ref rfl Try.isAgg9 rfl ((hH _ rfl).trans rfl) rfl hi0 rfl | exact opd_load1_pad rfl Try.isAgg9 rfl hi0 rfl))) rfl ?_
            refine dc_cons (r := ⟨_, some [], []⟩) (DStep.plain rfl (fun H1 hH => by exact opd_move rfl rfl)) rfl ?_
            refine dc_cons (r := ⟨_, some [], []⟩) (DStep.plain rfl (fun H1 hH => by exact (by first | exact x_index_pad rfl so71 rfl rfl (by omega) (by first | exact Int.toNat_natCast _ | rfl) hi2 rfl | exact x_index_osl rfl so71 rfl ((hH _ rfl).trans rfl) rfl rfl rfl (by omega) (by first | exact Int.toNat_natCast _ | rfl) hi2 rfl))) rfl ?_
            refine dc_cons (r := ⟨_, some [], []⟩) (DStep.plain rfl (fun H1 hH => by exact (by first | exact opd_field_ref rfl fo78_1 rfl ((hH _ rfl).trans rfl) rfl rfl | exact opd_field_pad rfl fo78_1 rfl rfl))) rfl ?_
            refine dc_cons (r := ⟨_, some [], []⟩) (DStep.plain rfl (fun H1 hH => by exact (by first | exact opd_load1_ref rfl Try.isAgg9 rfl ((hH _ rfl).trans rfl) rfl hi2 rfl | exact opd_load1_pad rfl Try.isAgg9 rfl hi2 rfl))) rfl ?_
            refine dc_cons (r := ⟨_, some [], []⟩) (DStep.plain rfl (fun H1 hH => by exact x_build rfl bo46 rfl rfl)) rfl ?_
            refine dc_cons (r := ⟨_, some [], []⟩) (DStep.plain rfl (fun H1 hH => by exact (by first | exact x_buildSlice [encTag ⟨a.text, c.text⟩] rfl so22 rfl rfl rfl rfl rfl (by intro r hr; rw [List.mem_singleton] at hr; subst hr; rfl) | (apply x_buildSlice (ps := [encTag ⟨a.text, c.text⟩]) (hS := so22) <;> first | rfl | exact (by intro r hr; rw [List.mem_singleton] at hr; subst hr; rfl) | simp)))) rfl ?_
            refine dc_cons (r := ⟨_, some [905], [_]⟩) (DStep.plain rfl (fun H1 hH => by exact x_append (ps := [encTag ⟨a.text, c.text⟩]) rfl so22 ei46 rfl ((hH _ rfl).trans rfl) rfl rfl rfl (tgRows_len _) rfl (by intro r hr; rw [List.mem_singleton] at hr; subst hr; rfl) (m := 1) rfl (by omega) rfl (tgRows_app (firstTags T k) ⟨a.text, c.text⟩))) rfl ?_
            refine dc_cons (r := ⟨_, some [7], [_]⟩) (DStep.plain rfl (fun H1 hH => by exact (by first | exact x_store_all rfl Try.sizeOf22 rfl rfl rfl rfl ((hH _ rfl).trans rfl) rfl rfl rfl | exact x_store1 rfl Try.sizeOf22 rfl rfl rfl ((hH _ rfl).trans rfl) rfl rfl (by simp only [List.length_cons, List.length_nil]; omega) (by simp only [List.drop_succ_cons, List.drop_zero, List.take_succ_cons, List.take_zero, List.take_nil, List.map_cons, List.map_nil, List.set_cons_zero, List.set_cons_succ, List.cons_append, List.nil_append, encTok, encTag]; rfl) (by simp only [List.drop_succ_cons, List.drop_zero, List.take_succ_cons, List.take_zero, List.take_nil, List.map_cons, List.map_nil, List.set_cons_zero, List.set_cons_succ, List.cons_append, List.nil_append, encTok, encTag]; rfl) | exact x_store1 rfl Try.sizeOf22 rfl rfl rfl ((hH _ rfl).trans rfl) rfl rfl (Nat.le_of_ble_eq_true rfl) rfl rfl))) rfl ?_
            refine dc_nil ⟨by kernel_rfl, ?_⟩
            -- end of the piece
            exact ⟨[(905, ⟨(firstTags T k).length + 1, 2, 46, tgRows (firstTags T k ++ [⟨a.text, c.text⟩])⟩), (7, bx 1 22 [.osl 905 ((firstTags T k).length + 1) 0 ((firstTags T k).length + 1)]), (932, cN), (931, cS T), (3, bx 1 25 [iv 0]), (2, bx 1 22 [.pv (.sl [])])], (Ent.wk trivial ⟨⟨_, rfl, rfl⟩, (by first | (simp; done) | (simp; rfl) | (simp; exact ⟨rfl, rfl⟩) | exact LR_clo (by simp [parE]; exact ⟨rfl, rfl, rfl⟩) | exact tgRows_clo _ _ | exact cS_clo _ _ | exact cN_clo _ | exact clo_map _ _ _), ⟨_, rfl, rfl⟩, (by first | (simp; done) | (simp; rfl) | (simp; exact ⟨rfl, rfl⟩) | exact LR_clo (by simp [parE]; exact ⟨rfl, rfl, rfl⟩) | exact tgRows_clo _ _ | exact cS_clo _ _ | exact cN_clo _ | exact clo_map _ _ _), ⟨_, rfl, rfl⟩, (by first | (simp; done) | (simp; rfl) | (simp; exact ⟨rfl, rfl⟩) | exact LR_clo (by simp [parE]; exact ⟨rfl, rfl, rfl⟩) | exact tgRows_clo _ _ | exact cS_clo _ _ | exact cN_clo _ | exact clo_map _ _ _), ⟨_, rfl, rfl⟩, (by first | (simp; done) | (simp; rfl) | (simp; exact ⟨rfl, rfl⟩) | exact LR_clo (by simp [parE]; exact ⟨rfl, rfl, rfl⟩) | exact tgRows_clo _ _ | exact cS_clo _ _ | exact cN_clo _ | exact clo_map _ _ _), ⟨_, rfl, rfl⟩, (by first | (simp; done) | (simp; rfl) | (simp; exact ⟨rfl, rfl⟩) | exact LR_clo (by simp [parE]; exact ⟨rfl, rfl, rfl⟩) | exact tgRows_clo _ _ | exact cS_clo _ _ | exact cN_clo _ | exact clo_map _ _ _), ⟨_, rfl, rfl⟩, (by first | (simp; done) | (simp; rfl) | (simp; exact ⟨rfl, rfl⟩) | exact LR_clo (by simp [parE]; exact ⟨rfl, rfl, rfl⟩) | exact tgRows_clo _ _ | exact cS_clo _ _ | exact cN_clo _ | exact clo_map _ _ _), ⟨_, rfl, rfl⟩, (by first | (simp; done) | (simp; rfl) | (simp; exact ⟨rfl, rfl⟩) | exact LR_clo (by simp [parE]; exact ⟨rfl, rfl, rfl⟩) | exact tgRows_clo _ _ | exact cS_clo _ _ | exact cN_clo _ | exact clo_map _ _ _), trivial⟩ ⟨rfl, rfl, rfl, rfl, rfl, rfl, rfl, trivial⟩), rfl, rfl⟩
      by_cases h0 : T.length % 3 = 0
      · have hto : tagsOf T = some (firstTags T (T.length / 3)) := by rw [tagsOf_eq, if_pos h0]
        have hok := hN _ hto
        rw [hto] at hpar
        refine (chunk1_c T (.yld 904 0) (fun k => (904, LR x parE) :: pK T (firstTags T k) (.pv (.sl [])) 0) (fun _ => true) (T.length / 3) (by omega) (fun k => rfl) (fun k => rfl) (by omega) (fun k hk => rfl) (.inl (by omega)) ?_).mono ?_
        · intro k hk _
          have hr := hround k hk
          have h3 : 3 * k + 3 ≤ T.length := by omega
          rw [decide_eq_true h3, if_pos h3] at hr
          exact hr
        · rintro r H' ⟨rfl, rfl⟩
          obtain ⟨out, hout⟩ : ∃ out, out = firstTags T (T.length / 3) := ⟨_, rfl⟩
          rw [← hout] at hpar hok ⊢
          refine ⟨x, _, rfl, by rw [hx1]; decide, rfl, fun z => ?_⟩
          rw [hx2]
          have hol : (out.map encTag).length = out.length := List.length_map _
          have hgt := tagText_c out [(7, bx 1 22 [.pv (slTags out)]), (3, bx 1 25 [iv 0]), (2, bx 1 22 [.pv (.sl [])])] hok
          have hpar : res = (if e ≠ 0 ∨ (gText out).2 ≠ 0 ∨ (gText out).1 ≠ s then ([], 5) else (out, 0)) := hpar
          generalize gText out = go at hpar hgt
          obtain ⟨own, f⟩ := go
          simp only at hpar hgt
          refine AWp.ent (Ent.fzG (id := 905) (E' := [(0, sv s), (2, .ref 2 0 0 0), (3, .ref 3 0 0 0), (5, iv e), (7, .ref 7 0 0 0)]) (H' := [(7, bx 1 22 [.pv (slTags out)]), (3, bx 1 25 [iv 0]), (2, bx 1 22 [.pv (.sl [])])]) (out.map encTag) rfl (by rw [List.map_map]; rfl) ?_ rfl ?_ ?_) ?_
          · intro p hp
            simp only [List.mem_cons, List.not_mem_nil, or_false] at hp
            rcases hp with rfl | rfl | rfl | rfl | rfl
            · exact ⟨_, rfl, .same (by simp)⟩
            · exact ⟨_, rfl, .same (by simp; rfl)⟩
            · exact ⟨_, rfl, .same (by simp; rfl)⟩
            · exact ⟨_, rfl, .same (by simp)⟩
            · exact ⟨_, rfl, .same (by simp; rfl)⟩
          · refine ⟨⟨_, rfl, rfl, rfl, rfl, fzr_one rfl (fz_cons (.osl ?_) fz_nil)⟩, ⟨_, rfl, rfl, rfl, rfl, fzr_same (by simp)⟩, ⟨_, rfl, rfl, rfl, rfl, fzr_same (by simp)⟩, trivial⟩
            rw [Nat.zero_add, List.drop_zero, ← hol, List.take_length]
          · exact trivial
          · skip
            refine awp_seq ?_
            refine awp_seq ?_
            refine awp_region ?_
            refine al_d rfl rfl rfl (by exact (by first | exact opd_load1_ref rfl Try.isAgg22 rfl rfl rfl rfl rfl | exact opd_load1_pad rfl Try.isAgg22 rfl (by first | omega | assumption) rfl)) ?_
            refine al_d rfl rfl rfl (by exact opr_call rfl rfl Try.call15 rfl (hgt)) ?_
            refine al_d rfl rfl rfl (by exact opd_move rfl rfl) ?_
            refine al_d rfl rfl rfl (by exact opd_extract rfl rfl rfl) ?_
            refine al_d rfl rfl rfl (by exact opd_extract rfl rfl rfl) ?_
            refine al_d rfl rfl rfl (by exact opd_assign rfl rfl) ?_
            refine al_d rfl rfl rfl (by exact opd_assign rfl rfl) ?_
            refine al_nil ?_
            refine awp_seq ?_
            refine awp_bool (t := 53) (n := 13) (X := (!decide (e = 0) || !decide (f = 0)) || !decide (own = s)) ?_ ?_
            · all_goals (refine al_d rfl rfl rfl (by exact opd_move rfl rfl) ?_)
              all_goals (refine al_d rfl rfl rfl (by exact opd_neq rfl rfl rfl) ?_)
              all_goals (refine al_d rfl rfl rfl (by exact opd_move rfl rfl) ?_)
              all_goals (first | refine al_split (t := 45) rfl (fun h45 => ?_) (fun h45 => ?_) | refine al_dup (t := 45) rfl ?_ | skip)
              all_goals (try contradiction)
              all_goals (first | refine al_off rfl rfl rfl rfl rfl ?_ | refine al_offu rfl rfl rfl rfl ?_ | refine al_ond rfl rfl rfl rfl rfl rfl (by exact opd_move rfl rfl) ?_)
              all_goals (first | refine al_off rfl rfl rfl rfl rfl ?_ | refine al_offu rfl rfl rfl rfl ?_ | refine al_ond rfl rfl rfl rfl rfl rfl (by exact opd_neq rfl rfl rfl) ?_)
              all_goals (refine al_d rfl rfl rfl (by exact (by first | exact opd_pick_t rfl rfl rfl | exact opd_pick_f rfl rfl rfl | exact opd_pickt rfl rfl (by assumption) rfl | exact opd_pickf rfl rfl (by assumption) rfl | exact opd_pick rfl rfl rfl)) ?_)
              all_goals (refine al_d rfl rfl rfl (by exact opd_move rfl rfl) ?_)
              all_goals (first | refine al_split (t := 49) rfl (fun h49 => ?_) (fun h49 => ?_) | refine al_dup (t := 49) rfl ?_ | skip)
              all_goals (try contradiction)
              all_goals (first | refine al_off rfl rfl rfl rfl rfl ?_ | refine al_offu rfl rfl rfl rfl ?_ | refine al_ond rfl rfl rfl rfl rfl rfl (by exact opd_move rfl rfl) ?_)
              all_goals (first | refine al_off rfl rfl rfl rfl rfl ?_ | refine al_offu rfl rfl rfl rfl ?_ | refine al_ond rfl rfl rfl rfl rfl rfl (by exact opd_move rfl rfl) ?_)
              all_goals (first | refine al_off rfl rfl rfl rfl rfl ?_ | refine al_offu rfl rfl rfl rfl ?_ | refine al_ond rfl rfl rfl rfl rfl rfl (by exact opd_sneq rfl rfl rfl) ?_)
              all_goals (refine al_d rfl rfl rfl (by exact (by first | exact opd_pick_t rfl rfl rfl | exact opd_pick_f rfl rfl rfl | exact opd_pickt rfl rfl (by assumption) rfl | exact opd_pickf rfl rfl (by assumption) rfl | exact opd_pick rfl rfl rfl)) ?_)
              all_goals (refine al_nil ?_)
              all_goals (exact ⟨⟨_, rfl, by first | rfl | (simp only [*, Bool.false_and, Bool.true_and, Bool.and_false, Bool.and_true, Bool.true_or, Bool.false_or, Bool.or_true, Bool.or_false, Bool.not_true, Bool.not_false]; done) | (simp_all; done) | (simp_all; omega)⟩, rfl, rfl, rfl⟩)
            refine awp_cond rfl (fun hc3 => ?_) (fun hc3 => ?_)
            -- cond 3
            · have h := hc3
              have hr : res = ([], 5) := by
                rw [hpar, if_pos]
                simp only [Bool.or_eq_true, Bool.not_eq_true', decide_eq_false_iff_not] at h
                rcases h with (h | h) | h
                · exact .inl h
                · exact .inr (.inl h)
                · exact .inr (.inr h)
              rw [hr]
              refine awp_seq ?_
              refine awp_region ?_
              refine al_n rfl rfl (by exact (by first | exact x_store_all rfl Try.sizeOf22 rfl rfl rfl rfl rfl rfl rfl rfl | exact x_store1 rfl Try.sizeOf22 rfl rfl rfl rfl rfl rfl (by simp only [List.length_cons, List.length_nil]; omega) (by simp only [List.drop_succ_cons, List.drop_zero, List.take_succ_cons, List.take_zero, List.take_nil, List.map_cons, List.map_nil, List.set_cons_zero, List.set_cons_succ, List.cons_append, List.nil_append, encTok, encTag]; rfl) (by simp only [List.drop_succ_cons, List.drop_zero, List.take_succ_cons, List.take_zero, List.take_nil, List.map_cons, List.map_nil, List.set_cons_zero, List.set_cons_succ, List.cons_append, List.nil_append, encTok, encTag]; rfl) | exact x_store1 rfl Try.sizeOf22 rfl rfl rfl rfl rfl rfl (Nat.le_of_ble_eq_true rfl) rfl rfl)) ?_
              refine al_n rfl rfl (by exact (by first | exact x_store_all rfl Try.sizeOf25 rfl rfl rfl rfl rfl rfl rfl rfl | exact x_store1 rfl Try.sizeOf25 rfl rfl rfl rfl rfl rfl (by simp only [List.length_cons, List.length_nil]; omega) (by simp only [List.drop_succ_cons, List.drop_zero, List.take_succ_cons, List.take_zero, List.take_nil, List.map_cons, List.map_nil, List.set_cons_zero, List.set_cons_succ, List.cons_append, List.nil_append, encTok, encTag]; rfl) (by simp only [List.drop_succ_cons, List.drop_zero, List.take_succ_cons, List.take_zero, List.take_nil, List.map_cons, List.map_nil, List.set_cons_zero, List.set_cons_succ, List.cons_append, List.nil_append, encTok, encTag]; rfl) | exact x_store1 rfl Try.sizeOf25 rfl rfl rfl rfl rfl rfl (Nat.le_of_ble_eq_true rfl) rfl rfl)) ?_
              refine al_nil ?_
              refine awp_ret ?_
              -- return
              refine aret2 (H' := []) (by first | exact .inr rfl | exact .inl rfl) rfl (rval_cell1 rfl Try.isAgg22 rfl rfl rfl rfl) (rval_cell1 rfl Try.isAgg25 rfl rfl rfl rfl) (Fin.wk (by simp) trivial trivial) ?_
              exact ⟨rfl, rfl⟩
            · have h := hc3
              have hr : res = (out, 0) := by
                rw [hpar, if_neg]
                simp only [Bool.or_eq_false_iff, Bool.not_eq_false', decide_eq_true_eq] at h
                rintro (h1 | h1 | h1)
                · exact h1 h.1.1
                · exact h1 h.1.2
                · exact h1 h.2
              rw [hr]
              refine awp_skip ?_
              refine awp_seq ?_
              refine awp_region ?_
              refine al_d rfl rfl rfl (by exact (by first | exact opd_load1_ref rfl Try.isAgg22 rfl rfl rfl rfl rfl | exact opd_load1_pad rfl Try.isAgg22 rfl (by first | omega | assumption) rfl)) ?_
              refine al_n rfl rfl (by exact (by first | exact x_store_all rfl Try.sizeOf22 rfl rfl rfl rfl rfl rfl rfl rfl | exact x_store1 rfl Try.sizeOf22 rfl rfl rfl rfl rfl rfl (by simp only [List.length_cons, List.length_nil]; omega) (by simp only [List.drop_succ_cons, List.drop_zero, List.take_succ_cons, List.take_zero, List.take_nil, List.map_cons, List.map_nil, List.set_cons_zero, List.set_cons_succ, List.cons_append, List.nil_append, encTok, encTag]; rfl) (by simp only [List.drop_succ_cons, List.drop_zero, List.take_succ_cons, List.take_zero, List.take_nil, List.map_cons, List.map_nil, List.set_cons_zero, List.set_cons_succ, List.cons_append, List.nil_append, encTok, encTag]; rfl) | exact x_store1 rfl Try.sizeOf22 rfl rfl rfl rfl rfl rfl (Nat.le_of_ble_eq_true rfl) rfl rfl)) ?_
              refine al_n rfl rfl (by exact (by first | exact x_store_all rfl Try.sizeOf25 rfl rfl rfl rfl rfl rfl rfl rfl | exact x_store1 rfl Try.sizeOf25 rfl rfl rfl rfl rfl rfl (by simp only [List.length_cons, List.length_nil]; omega) (by simp only [List.drop_succ_cons, List.drop_zero, List.take_succ_cons, List.take_zero, List.take_nil, List.map_cons, List.map_nil, List.set_cons_zero, List.set_cons_succ, List.cons_append, List.nil_append, encTok, encTag]; rfl) (by simp only [List.drop_succ_cons, List.drop_zero, List.take_succ_cons, List.take_zero, List.take_nil, List.map_cons, List.map_nil, List.set_cons_zero, List.set_cons_succ, List.cons_append, List.nil_append, encTok, encTag]; rfl) | exact x_store1 rfl Try.sizeOf25 rfl rfl rfl rfl rfl rfl (Nat.le_of_ble_eq_true rfl) rfl rfl)) ?_
              refine al_nil ?_
              refine awp_ret ?_
              -- return
              refine aret2 (H' := []) (by first | exact .inr rfl | exact .inl rfl) rfl (rval_cell1 rfl Try.isAgg22 rfl rfl rfl rfl) (rval_cell1 rfl Try.isAgg25 rfl rfl rfl rfl) (Fin.wk (by simp) trivial trivial) ?_
              exact ⟨rfl, rfl⟩
      · have hto : tagsOf T = none := by rw [tagsOf_eq, if_neg h0]
        rw [hto] at hpar
        refine (chunk1_c T (.yld 904 0) (fun k => if k ≤ T.length / 3 then (904, LR x parE) :: pK T (firstTags T k) (.pv (.sl [])) 0 else (904, LR (left x .ret) parE) :: pK T (firstTags T (T.length / 3)) (.pv (.sl [])) 5) (fun k => decide (3 * k + 3 ≤ T.length)) (T.length / 3 + 1) (by omega) (fun k => ?_) (fun k => ?_) (by omega) (fun k hk => decide_eq_true (by omega)) (.inl (by omega)) ?_).mono ?_
        · split <;> rfl
        · split <;> rfl
        · intro k hk hkm
          have hr := hround k hk
          rw [if_pos (by omega)]
          by_cases h3 : 3 * k + 3 ≤ T.length
          · rw [if_pos (by omega)]
            rw [if_pos h3] at hr
            exact hr
          · have hkk : k = T.length / 3 := by omega
            rw [if_neg (by omega), ← hkk]
            rw [if_neg h3] at hr
            exact hr
        · rintro r H' ⟨rfl, rfl⟩
          rw [if_neg (by omega)]
          refine ⟨left x .ret, _, rfl, by simp [left], rfl, fun z => ?_⟩
          show ARet _ _ _ _ _ _ _
          rw [hpar]
          refine aret2 (H' := []) (by first | exact .inr rfl | exact .inl rfl) rfl (rval_cell1 rfl Try.isAgg22 rfl rfl rfl rfl) (rval_cell1 rfl Try.isAgg25 rfl rfl rfl rfl) (Fin.wk (by simp) trivial trivial) ?_
          exact ⟨rfl, rfl⟩
end Go.Proofs.Ytedfihgkopejcaa
end
section
set_option linter.unusedVariables false
set_option linter.unusedSimpArgs false
namespace Go.Abs
open Go.Proofs
/-- New blocks behind all others. -/
theorem Rel.grown {I : Nat → Prop} {ι : Plc} {H : Heap} {w : World} (os : Array Obj) (hr : Rel I ι H w) : Rel I ι H (Sort.grow w os) ∧ Step I ι H w I ι H (Sort.grow w os) := by
  have hk : ∀ b, b < w.heap.size → (Sort.grow w os).heap[b]? = w.heap[b]? := fun b hb => by
    show (w.heap ++ os)[b]? = _
    rw [Array.getElem?_append_left hb]
  have hst : Step I ι H w I ι H (Sort.grow w os) := by
    refine ⟨rfl, rfl, rfl, ?_, fun a ha _ => ?_, fun _ h => h, fun _ h => .inl h, fun _ h => .inl h, fun b hb _ => hk b hb, fun _ o h => ⟨o, h, Nat.le_refl _, fun _ => ⟨rfl, rfl, fun _ => Nat.le_refl _⟩⟩⟩
    · show w.heap.size ≤ (w.heap ++ os).size
      simp
    · unfold World.frozen?
      rw [hk _ ha]
  refine ⟨⟨fun b hb => ?_, fun j o hj => ?_, hr.inj⟩, hst⟩
  · have := hr.imm b hb
    show b < (w.heap ++ os).size
    simp; omega
  · exact (hr.obj j o hj).keep rfl (fun b c _ hb => ⟨hk b hb, fun h => h⟩) (fun r _ a _ v hv => hv.mono hr hst)
def strRows (l : List ByteArray) : List (List AV) := l.map fun s => [.pv (.str s)]
def toU (s : ByteArray) : List UInt8 := s.data.toList
def ofU (l : List UInt8) : ByteArray := ⟨l.toArray⟩
theorem ofU_toU (s : ByteArray) : ofU (toU s) = s := by
  cases s; simp [ofU, toU]
/-- The texts in order. -/
def sortS (l : List ByteArray) : List ByteArray := ((l.map toU).mergeSort fun x y => decide (x ≤ y)).map ofU
theorem sortS_length (l : List ByteArray) : (sortS l).length = l.length := by simp [sortS, List.length_mergeSort]
theorem map_toU (l : List ByteArray) : (l.map toU).map ofU = l := by
  rw [List.map_map]
  conv => rhs; rw [← List.map_id l]
  exact List.map_congr_left fun s _ => ofU_toU s
theorem sortS_perm (l : List ByteArray) : (sortS l).Perm l := by
  have h := (List.mergeSort_perm (l.map toU) (fun x y => decide (x ≤ y))).map ofU
  rw [map_toU] at h
  exact h
theorem heap_putRow {w : World} {b : Nat} {cs : Array Value} {t : TypeId} {f : Nat × Nat} (h : w.heap[b]? = some (.cells cs t f)) (d : Array (List UInt8)) : (Sort.putRow Proofs.encStr w b 0 d) = w.setRow b (Sort.putCells Proofs.encStr 0 d cs) := by
  unfold Sort.putRow Sort.mapBlock World.setRow
  congr 1
  apply Array.ext_getElem?
  intro k
  simp only [Array.getElem?_modify]
  by_cases e : b = k
  · subst e
    simp [h, Sort.onCells]
  · simp [e]
theorem sort_c {P : Program} {ρ : Shelf.Ren} (Ly : SlLaysM.n6 P ρ) (ss : List ByteArray) {id g n ty : Nat} {H : Heap} (hH : H.get id = some ⟨g, 1, ty, strRows ss⟩) (hn : n = ss.length) (hl : ss.length < 4611686018427387904) :
    ACalls P (ρ.f 6) [.osl id g 0 n] H (fun r H' => r = .tup [] ∧ H' = (id, ⟨g, 1, ty, strRows (sortS ss)⟩) :: H) := by
  subst hn
  intro I ι w vs hr hvl hv
  obtain ⟨v, rfl⟩ : ∃ v, vs = #[v] := by
    match vs, hvl with
    | ⟨[v]⟩, _ => exact ⟨v, rfl⟩
  have h1 := hv 0 v _ rfl rfl
  obtain ⟨_, hcase⟩ := osl_slice h1 hH rfl
  have hrowlen : ∀ r ∈ strRows (sortS ss), r.length = 1 := fun r hr => by
    obtain ⟨s, _, rfl⟩ := List.mem_map.1 hr; rfl
  have g1 : Heap.get ((id, ⟨g, 1, ty, strRows (sortS ss)⟩) :: H) id = some ⟨g, 1, ty, strRows (sortS ss)⟩ := by simp [Heap.get, beq_self]
  have g2 : ∀ j, j ≠ id → Heap.get ((id, ⟨g, 1, ty, strRows (sortS ss)⟩) :: H) j = H.get j := fun j hj => by simp [Heap.get, beq_ne (Ne.symm hj)]
  rcases hcase with ⟨b, cap, oo, c1, c2, c3⟩ | ⟨c1, c2, _, c4⟩
  · have hoo : oo = 0 := by rw [c3 (.inr rfl)]; simp
    subst hoo c2
    have hobj := (hr.obj id _ hH).cells (Nat.succ_pos 0)
    obtain ⟨p1, p2, ⟨b', cap', cs, e1, e2, e3, e4, e5, e5', e6⟩ | ⟨e1, _⟩⟩ := hobj
    · rw [c1] at e1; cases e1
      simp only [Nat.mul_one] at e4 e6
      have hlen : (strRows ss).length = ss.length := by simp [strRows]
      simp only [hlen] at e5
      have hcs : ∀ (i : Nat) (s : ByteArray), ss[i]? = some s → cs[i]? = some (.string s) := fun i s hs => by
        obtain ⟨u, q1, q2, q3⟩ := e6 i [.pv (.str s)] (by rw [strRows, List.getElem?_map, hs]; rfl) 0 _ rfl
        rw [q3.str_inv] at q1
        exact q1
      have hholds : Sort.Holds Proofs.encStr w b 0 (ss.map toU).toArray := by
        intro j hj
        simp only [List.size_toArray, List.length_map] at hj
        refine ⟨?_, ?_⟩
        · have := hcs j _ (List.getElem?_eq_getElem hj)
          rw [Nat.zero_add]
          simp only [World.cell?, e2, this]
          congr 1
          rw [getElem!_pos _ _ (by simpa using hj)]
          simp only [List.getElem_toArray, List.getElem_map]
          show some (Value.string ss[j]) = some (Value.string (ofU (toU ss[j])))
          rw [ofU_toU]
        · simp [World.frozen?, e2]
      have hrun := AnyM.slices_Sort_string Ly b 0 (cap - 0) (ss.map toU) w hholds (Array.getElem?_eq_some_iff.1 e2).1 (by rw [List.length_map]; exact hl)
      rw [List.length_map] at hrun
      refine hrun.mono ?_
      rintro e w' ⟨rfl, n, os, rfl⟩
      obtain ⟨k1, k2⟩ := Rel.drawn (w' := Sort.ahead w n) hr rfl rfl rfl rfl
      have e2' : (Sort.ahead w n).heap[b]? = some (.cells cs ty (0, 0)) := e2
      rw [heap_putRow e2']
      obtain ⟨m1, m2⟩ := Rel.update (H' := (id, ⟨g, 1, ty, strRows (sortS ss)⟩) :: H) (ob' := ⟨g, 1, ty, strRows (sortS ss)⟩) (cs' := Sort.putCells Proofs.encStr 0 ((ss.map toU).mergeSort fun x y => decide (x ≤ y)).toArray cs) k1 hH c1 e2' (Nat.le_refl _) rfl rfl
        (fun _ => by simp [strRows, sortS_length]) (by rw [Sort.putCells]; simp; omega) (by simp only [strRows, List.length_map, sortS_length]; omega) hrowlen (fun i r hi k a hk => by
          rw [strRows, List.getElem?_map] at hi
          obtain ⟨s, hs, rfl⟩ := Option.map_eq_some_iff.1 hi
          cases k with
          | succ k => simp at hk
          | zero =>
            cases hk
            have hil := (List.getElem?_eq_some_iff.1 hs).1
            rw [sortS_length] at hil
            have hics : i < cs.size := by omega
            refine ⟨.string s, ?_, rfl, .pv (.str s)⟩
            rw [Nat.mul_one, Nat.add_zero, Sort.putCells, Array.getElem?_mapIdx, Array.getElem?_eq_getElem hics, Option.map_some]
            have hsz : i < ((ss.map toU).mergeSort fun x y => decide (x ≤ y)).length := by rw [List.length_mergeSort, List.length_map]; exact hil
            rw [if_pos ⟨Nat.zero_le _, by simpa using hsz⟩]
            congr 1
            rw [Nat.sub_zero, getElem!_pos _ _ (by simpa using hsz)]
            rw [sortS, List.getElem?_map] at hs
            obtain ⟨u, hu, rfl⟩ := Option.map_eq_some_iff.1 hs
            simp only [List.getElem_toArray]
            rw [(List.getElem?_eq_some_iff.1 hu).2]
            rfl) g1 g2
      obtain ⟨n1, n2⟩ := Rel.grown os m1
      exact ⟨_, _, I, ι, .tuple #[], rfl, ⟨rfl, rfl⟩, .tup rfl (by simp), n1, (k2.trans m2).trans n2⟩
    · rw [c1] at e1; cases e1
  · subst c2
    have h0 : ss = [] := List.eq_nil_of_length_eq_zero c4
    subst h0
    refine (AnyM.slices_Sort_string_none Ly none 0 w).mono ?_
    rintro e w' ⟨rfl, rfl⟩
    have hg : ∀ j, Heap.get ((id, ⟨g, 1, ty, strRows (sortS [])⟩) :: H) j = H.get j := fun j => by
      by_cases e : j = id
      · subst e
        rw [g1, hH, show sortS [] = [] by simp [sortS]]
      · exact g2 j e
    obtain ⟨k1, k2⟩ := hr.congr hg
    exact ⟨_, _, I, ι, .tuple #[], rfl, ⟨rfl, rfl⟩, .tup rfl (by simp), k1, k2⟩
end Go.Abs
end
section
set_option linter.unusedVariables false
set_option linter.unusedSimpArgs false
namespace Go.Proofs
open Go.RowKit Go.Sort Go.Shelf
def Try.sortStr_ren : Go.Shelf.Ren := ⟨fun | 6 => 53 | 8 => 70 | 9 => 69 | 19 => 89 | 20 => 90 | 21 => 80 | 22 => 81 | 23 => 82 | 24 => 83 | 25 => 84 | 26 => 85 | 27 => 86 | 28 => 87 | 29 => 88 | 36 => 94 | 31 => 95 | 32 => 96 | 37 => 97 | 38 => 98 | 39 => 99 | 41 => 100 | n => n, fun | 27 => 28 | 29 => 9 | 3 => 3 | 32 => 81 | 26 => 28 | 0 => 0 | 44 => 128 | 46 => 130 | 4 => 4 | 36 => 121 | 35 => 120 | 41 => 50 | 5 => 5 | 9 => 9 | 53 => 134 | 57 => 138 | 63 => 140 | 64 => 141 | n => n, fun | n => n⟩
theorem Try.sortStr : Go.Proofs.SlLaysM.n6 Try.prog Try.sortStr_ren := {
  mixed := by kernel_rfl
  f6 := ⟨Try.f53.name, by decide, Try.func53.trans (congrArg some (by kernel_rfl))⟩
  f8 := Try.func70.trans (congrArg some (by kernel_rfl))
  f9 := ⟨Try.f69.name, by decide, Try.func69.trans (congrArg some (by kernel_rfl))⟩
  f19 := Try.func89.trans (congrArg some (by kernel_rfl))
  f20 := Try.func90.trans (congrArg some (by kernel_rfl))
  f21 := ⟨Try.f80.name, by decide, Try.func80.trans (congrArg some (by kernel_rfl))⟩
  f22 := ⟨Try.f81.name, by decide, Try.func81.trans (congrArg some (by kernel_rfl))⟩
  f23 := ⟨Try.f82.name, by decide, Try.func82.trans (congrArg some (by kernel_rfl))⟩
  f24 := ⟨Try.f83.name, by decide, Try.func83.trans (congrArg some (by kernel_rfl))⟩
  f25 := ⟨Try.f84.name, by decide, Try.func84.trans (congrArg some (by kernel_rfl))⟩
  f26 := ⟨Try.f85.name, by decide, Try.func85.trans (congrArg some (by kernel_rfl))⟩
  f27 := ⟨Try.f86.name, by decide, Try.func86.trans (congrArg some (by kernel_rfl))⟩
  f28 := ⟨Try.f87.name, by decide, Try.func87.trans (congrArg some (by kernel_rfl))⟩
  f29 := ⟨Try.f88.name, by decide, Try.func88.trans (congrArg some (by kernel_rfl))⟩
  f31 := Try.func95.trans (congrArg some (by kernel_rfl))
  f32 := Try.func96.trans (congrArg some (by kernel_rfl))
  f36 := ⟨Try.f94.name, by decide, Try.func94.trans (congrArg some (by kernel_rfl))⟩
  f37 := ⟨Try.f97.name, by decide, Try.func97.trans (congrArg some (by kernel_rfl))⟩
  f38 := ⟨Try.f98.name, by decide, Try.func98.trans (congrArg some (by kernel_rfl))⟩
  f39 := ⟨Try.f99.name, by decide, Try.func99.trans (congrArg some (by kernel_rfl))⟩
  f41 := ⟨Try.f100.name, by decide, Try.func100.trans (congrArg some (by kernel_rfl))⟩
  t0 := Try.underlying0
  a0 := Try.isAgg0
  z0 := Try.sizeOf0
  v0 := Try.zeroValue0
  t3 := Try.underlying3
  a3 := Try.isAgg3
  z3 := Try.sizeOf3
  v3 := Try.zeroValue3
  t4 := Try.underlying4
  a4 := Try.isAgg4
  z4 := Try.sizeOf4
  v4 := Try.zeroValue4
  t5 := Try.underlying5
  a5 := Try.isAgg5
  z5 := Try.sizeOf5
  v5 := Try.zeroValue5
  t9 := Try.underlying9
  a9 := Try.isAgg9
  z9 := Try.sizeOf9
  v9 := Try.zeroValue9
  t26 := Try.underlying28
  a26 := Try.isAgg28
  z26 := Try.sizeOf28
  v26 := Try.zeroValue28
  t27 := Try.underlying28
  a27 := Try.isAgg28
  z27 := Try.sizeOf28
  v27 := Try.zeroValue28
  t29 := Try.underlying9
  a29 := Try.isAgg9
  z29 := Try.sizeOf9
  v29 := Try.zeroValue9
  t32 := Try.underlying81
  a32 := Try.isAgg81
  z32 := Try.sizeOf81
  v32 := Try.zeroValue81
  t35 := Try.underlying120
  a35 := Try.isAgg120
  z35 := Try.sizeOf120
  v35 := Try.zeroValue120
  t36 := Try.underlying121
  a36 := Try.isAgg121
  z36 := Try.sizeOf121
  v36 := Try.zeroValue121
  t41 := Try.underlying50
  a41 := Try.isAgg50
  z41 := Try.sizeOf50
  v41 := Try.zeroValue50
  t44 := Try.underlying128
  a44 := Try.isAgg128
  z44 := Try.sizeOf128
  v44 := Try.zeroValue128
  t46 := Try.underlying130
  a46 := Try.isAgg130
  z46 := Try.sizeOf130
  v46 := Try.zeroValue130
  t53 := Try.underlying134
  a53 := Try.isAgg134
  z53 := Try.sizeOf134
  v53 := Try.zeroValue134
  t57 := Try.underlying138
  a57 := Try.isAgg138
  z57 := Try.sizeOf138
  v57 := Try.zeroValue138
  t63 := Try.underlying140
  a63 := Try.isAgg140
  z63 := Try.sizeOf140
  v63 := Try.zeroValue140
  t64 := Try.underlying141
  a64 := Try.isAgg141
  z64 := Try.sizeOf141
  v64 := Try.zeroValue141 }
end Go.Proofs
namespace Go.Proofs.Ytedfihgkopejcaa
open Go.Abs
theorem sortStr_c (ss : List ByteArray) {id g n ty : Nat} {H : Heap} (hH : H.get id = some ⟨g, 1, ty, strRows ss⟩) (hn : n = ss.length) (hl : ss.length < 4611686018427387904) :
    ACalls Try.prog 53 [.osl id g 0 n] H (fun r H' => r = .tup [] ∧ H' = (id, ⟨g, 1, ty, strRows (sortS ss)⟩) :: H) := sort_c Try.sortStr ss hH hn hl
theorem nodup_le : ∀ (n : Nat) (l : List Nat), l.Nodup → (∀ i ∈ l, i < n) → l.length ≤ n
  | 0, l, _, h => by
    cases l with
    | nil => simp
    | cons a l => have := h a (by simp); omega
  | n + 1, l, hd, h => by
    by_cases e : n ∈ l
    · have h1 := nodup_le n (l.erase n) (hd.erase n) (fun i hi => by
        rw [hd.mem_erase_iff] at hi
        have := h i hi.2
        omega)
      rw [List.length_erase_of_mem e] at h1
      have := List.length_pos_of_mem e
      omega
    · have := nodup_le n l hd (fun i hi => by
        have h2 := h i hi
        have : i ≠ n := fun e2 => e (e2 ▸ hi)
        omega)
      omega
/-- What has come of a list, by places. -/
def pick (L : List ByteArray) (seen : List Nat) : List ByteArray := seen.map fun i => (L[i]?).getD ⟨#[]⟩
theorem pick_all {L : List ByteArray} {seen : List Nat} (hd : seen.Nodup) (h1 : ∀ i ∈ seen, i < L.length) (h2 : ∀ i, i < L.length → i ∈ seen) : (pick L seen).Perm L := by
  have hp : seen.Perm (List.range L.length) := (List.perm_ext_iff_of_nodup hd List.nodup_range).2 fun a => ⟨fun h => List.mem_range.2 (h1 a h), fun h => h2 a (List.mem_range.1 h)⟩
  have h3 := hp.map (fun i => (L[i]?).getD ⟨#[]⟩)
  have h4 : (List.range L.length).map (fun i => (L[i]?).getD ⟨#[]⟩) = L := by
    apply List.ext_getElem
    · simp
    · intro i h5 h6
      simp [h6]
  rw [h4] at h3
  exact h3
theorem u8_le_total (a b : List UInt8) : decide (a ≤ b) || decide (b ≤ a) := by
  rcases List.le_total a b with h | h <;> simp [h]
theorem sortS_eq {a b : List ByteArray} (h : a.Perm b) : sortS a = sortS b := by
  unfold sortS
  congr 1
  have hs : ∀ l : List ByteArray, ((l.map toU).mergeSort fun x y => decide (x ≤ y)).Pairwise (fun x y => decide (x ≤ y) = true) := fun l =>
    List.pairwise_mergeSort (le := fun (x y : List UInt8) => decide (x ≤ y)) (fun a b c h1 h2 => decide_eq_true (List.le_trans (of_decide_eq_true h1) (of_decide_eq_true h2))) u8_le_total _
  exact List.Perm.eq_of_pairwise (fun x y _ _ h3 h4 => List.le_antisymm (of_decide_eq_true h3) (of_decide_eq_true h4)) (hs a) (hs b) (((List.mergeSort_perm _ _).trans (h.map toU)).trans (List.mergeSort_perm _ _).symm)
end Go.Proofs.Ytedfihgkopejcaa
end
section
set_option linter.unusedVariables false
set_option linter.unusedSimpArgs false
set_option maxRecDepth 100000
namespace Go.Proofs.Ytedfihgkopejcaa
open Go.Abs
theorem eq3 (a b c x y z : ByteArray) (w : World) : (Op.equalIn 10000 61 (.agg [.string a, .string b, .string c].toArray) (.agg [.string x, .string y, .string z].toArray)).run Try.prog w = .ok (decide (a = x) && decide (b = y) && decide (c = z)) w := by
  have hs : ∀ (p q : ByteArray) (w : World), (Op.equalIn 9999 9 (.string p) (.string q)).run Try.prog w = .ok (decide (p = q)) w := fun p q w => by
    rw [run_equalIn_string w 9998 9 p q Try.underlying9, list_beq]
  obtain ⟨i, hi, hsz⟩ := info_size (P := Try.prog) (t := 9) (n := 1) (by kernel_rfl)
  have hc : Try.prog.cellsOf 9 = 1 := by simp [Program.cellsOf, hi, hsz]
  have hu : Try.prog.underlying 61 = some (.array 3 9) := by kernel_rfl
  rw [run_equalIn_array w 9999 _ _ hu hi, hc]
  simp only [List.range, List.range.loop, Op.eqItems, part, Try.isAgg9]
  by_cases h1 : a = x <;> by_cases h2 : b = y <;> by_cases h3 : c = z <;> simp [h1, h2, h3, hs, Try.isAgg9]
def itO (l : List (ByteArray × AV)) (s : List Nat) : Ob := ⟨0, 0, 0, irows (.mp 950 0) l.length l.length s⟩
def mO (l : List (ByteArray × AV)) : Ob := ⟨0, 0, l.length, mrows strK l⟩
def mB : Ob := bx 1 59 [.mp 950 0]
theorem keys1_c (l : List (ByteArray × AV)) (fv : AV) (Hs : List Nat → Heap) (hl : l.length < 1099511627776) (h1 : ∀ s, (Hs s).get 951 = some mB) (h2 : ∀ s, (Hs s).get 950 = some (mO l)) (h6 : ∀ s, (Hs s).get 946 = none) (hcl : ∀ s, Closed (Hs s)) (hf : ∀ s, Clo (Hs s) fv)
    (hy : ∀ s i p, l[i]? = some p → i ∉ s → s.Nodup → (∀ j, j ∈ s → j < l.length) → CallsV Try.prog fv [sv p.1] ((946, itO l (s ++ [i])) :: Hs s) (fun r H' => r = bv true ∧ H' = (946, itO l (s ++ [i])) :: Hs (s ++ [i]))) :
    ACalls Try.prog 54 [fv, .ref 951 0 0 0] (Hs []) (fun r H' => r = .tup [] ∧ ∃ s, s.Nodup ∧ (∀ i, i ∈ s → i < l.length) ∧ (∀ i, i < l.length → i ∈ s) ∧ H' = Hs s) := by
  refine ACalls.body Try.func54 rfl Try.ntmps54 (Nat.le_of_ble_eq_true rfl) ?_
  refine awp_seq ?_
  refine awp_region ?_
  refine al_d rfl rfl rfl (by exact (by first | exact opd_load1_ref rfl Try.isAgg59 rfl (h1 []) rfl rfl rfl | exact opd_load1_pad rfl Try.isAgg59 rfl (by first | omega | assumption) rfl)) ?_
  refine al_d rfl rfl rfl (by exact opd_range (q := 946) (κ := strK) rfl Try.underlying59 rfl (h2 []) rfl rfl rfl (h6 [])) ?_
  refine al_nil ?_
  refine awp_block ?_
  -- loop
  refine awp_loop (σ := List Nat) (fun s => ([(0, fv), (5, .it 946 0)], (946, itO l s) :: Hs s)) (fun s => s.Nodup ∧ ∀ i, i ∈ s → i < l.length) (fun s => l.length - s.length) [] ⟨List.nodup_nil, by simp⟩ ?_ ?_
  · exact Ent.e0 ⟨⟨_, rfl, rfl⟩, ⟨_, rfl, rfl⟩, trivial⟩
  · rintro s ⟨hd, hb⟩
    refine awp_seq ?_
    refine awp_region ?_
    refine al_r rfl rfl (opr_next (κ := strK) rfl rfl rfl rfl rfl (h2 s) rfl rfl rfl (by omega) (by omega)) ?_
    rintro _ _ (⟨rfl, rfl, hn0⟩ | ⟨hni, hnp, hn1, hn2, rfl, rfl⟩)
    -- next at 
    · skip
      refine al_d rfl rfl rfl (by exact opd_extract rfl rfl rfl) ?_
      refine al_nil ?_
      refine awp_seq ?_
      refine awp_cond rfl (fun hc1 => ?_) (fun hc1 => ?_)
      -- cond 1
      · skip
        cases hc1
      · skip
        refine awp_exit ?_
        -- end of the body
        exact aret0 (H' := Hs s) (.inl rfl) rfl (Fin.pops' [(946, itO l s)] (by simp) (hcl _) (by simp [h6]) (by simp [h6])) ⟨rfl, s, hd, hb, hn0, rfl⟩
    · have hlt : hni < l.length := (List.getElem?_eq_some_iff.1 hn1).1
      have hb2 : ∀ i, i ∈ s ++ [hni] → i < l.length := fun i hi => by
        rcases List.mem_append.1 hi with h | h
        · exact hb i h
        · rw [List.mem_singleton] at h; omega
      have hd2 : (s ++ [hni]).Nodup := List.nodup_append.2 ⟨hd, by simp, fun a ha b hb e => by rw [List.mem_singleton] at hb; subst hb; subst e; exact hn2 ha⟩
      have hlen := nodup_le _ _ hd2 hb2
      rw [List.length_append, List.length_singleton] at hlen
      refine al_d rfl rfl rfl (by exact opd_extract rfl rfl rfl) ?_
      refine al_nil ?_
      refine awp_seq ?_
      refine awp_cond rfl (fun hc2 => ?_) (fun hc2 => ?_)
      -- cond 2
      · skip
        refine awp_skip ?_
        refine awp_block ?_
        refine awp_seq ?_
        refine awp_region ?_
        refine al_d rfl rfl rfl (by exact opd_entry rfl rfl rfl rfl rfl (h2 s) rfl rfl rfl hn1) ?_
        refine al_d rfl rfl rfl (by exact opd_extract rfl rfl rfl) ?_
        refine al_d rfl rfl rfl (by exact opd_assign rfl rfl) ?_
        refine al_nil ?_
        refine awp_seq ?_
        -- before the slot
        refine AWp.ent (E' := [(0, fv), (5, .it 946 0), (3, sv hnp.1)]) (H' := (946, itO l (s ++ [hni])) :: Hs s) (Ent.get' ⟨⟨_, rfl, rfl⟩, ⟨_, rfl, rfl⟩, ⟨_, rfl, rfl⟩, trivial⟩ (fun j => get_dup 946 (itO l (s ++ [hni])) (itO l s) (Hs s) j)) ?_
        refine awp_region ?_
        refine al_d rfl rfl rfl (by exact opd_move rfl rfl) ?_
        refine al_d rfl rfl rfl (by exact opd_move rfl rfl) ?_
        refine al_d rfl rfl rfl (by exact opr_callV rfl rfl rfl (hy s hni hnp hn1 hn2 hd hb)) ?_
        refine al_d rfl rfl rfl (by exact opd_not rfl rfl) ?_
        refine al_nil ?_
        refine awp_cond rfl (fun hc3 => ?_) (fun hc3 => ?_)
        -- cond 3
        · skip
          cases hc3
        · skip
          refine awp_skip ?_
          -- end of a round
          refine ⟨s ++ [hni], ⟨hd2, hb2⟩, by rw [List.length_append, List.length_singleton]; omega, ?_⟩
          exact Ent.e0 ⟨⟨_, rfl, rfl⟩, ⟨_, rfl, rfl⟩, trivial⟩
      · skip
        cases hc2
theorem pickM {l : List (ByteArray × AV)} {seen : List Nat} {i : Nat} {p : ByteArray × AV} (h : l[i]? = some p) : pick (l.map Prod.fst) (seen ++ [i]) = pick (l.map Prod.fst) seen ++ [p.1] := by
  simp only [pick, List.map_append, List.map_cons, List.map_nil, List.getElem?_map, h, Option.map_some, Option.getD_some]
theorem pick_len (L : List ByteArray) (s : List Nat) : (pick L s).length = s.length := List.length_map _
def apE : Env := [(2, .ref 942 0 0 0)]
def apK (M : List ByteArray) (K : Heap) : Heap := (945, ⟨M.length, 1, 9, wRows M⟩) :: (942, bx 1 28 [.osl 945 M.length 0 M.length]) :: K
theorem apK_app (M : List ByteArray) (s : ByteArray) (K : Heap) : apK (M ++ [s]) K = (945, ⟨M.length + 1, 1, 9, wRows (M ++ [s])⟩) :: (942, bx 1 28 [.osl 945 (M.length + 1) 0 (M.length + 1)]) :: K := by simp [apK]
theorem apK_closed {M : List ByteArray} {K : Heap} {x : Go.Loop} (h : Closed K) : Closed ((944, LR x apE) :: apK M K) := by
  refine Closed.app (D := [(944, LR x apE), (945, ⟨M.length, 1, 9, wRows M⟩), (942, bx 1 28 [.osl 945 M.length 0 M.length])]) ?_ h
  refine ClosedL.spec ⟨LR_clo (by simp [apE]; rfl), wRows_clo _ _, ?_, trivial⟩
  intro r hr a ha
  simp only [bx, List.mem_singleton] at hr
  subst hr
  rw [List.mem_singleton] at ha
  subst ha
  exact .osl rfl
theorem appendSeq_c (l : List (ByteArray × AV)) (K : Heap) (hl : l.length < 1099511627776) (k2 : K.get 942 = none) (k4 : K.get 944 = none) (k5 : K.get 945 = none) (k6 : K.get 946 = none) (h0 : K.get 950 = some (mO l)) (h1 : K.get 951 = some mB) (hc : Closed K) :
    ACalls Try.prog 68 [.pv .nils, .clo 54 [.ref 951 0 0 0]] K (fun r H' => ∃ M, M.Perm (l.map Prod.fst) ∧ r = .osl 945 M.length 0 M.length ∧ H' = (945, ⟨M.length, 1, 9, wRows M⟩) :: K) := by
  have k2' : Heap.get ((945, ⟨0, 1, 9, []⟩) :: K) 942 = none := k2
  refine ACalls.body Try.func68 rfl Try.ntmps68 (Nat.le_of_ble_eq_true rfl) ?_
  refine awp_nilc (t := 0) (id := 945) (sz := 1) (ty := 9) rfl k5 rfl ?_
  refine awp_uncap (t := 0) rfl rfl rfl (Nat.le_refl _) ?_
  refine awp_seq ?_
  refine awp_region ?_
  refine al_d rfl rfl rfl (by exact opd_box (id := 942) rfl rfl rfl rfl k2') ?_
  refine al_d rfl rfl rfl (by exact opd_assign rfl rfl) ?_
  refine al_nil ?_
  refine awp_seq ?_
  refine awp_seq ?_
  refine awp_region ?_
  refine al_d rfl rfl rfl (by exact opd_move rfl rfl) ?_
  refine al_nil ?_
  refine awp_block ?_
  -- range
  refine AWp.ent (E' := [(2, .ref 942 0 0 0), (6, .clo 54 [.ref 951 0 0 0])]) (H' := apK [] K) (Ent.get' ⟨⟨_, rfl, rfl⟩, ⟨_, rfl, rfl⟩, trivial⟩ (fun j => get_swap (by decide) j)) ?_
  refine awp_range (id := 944) (p := 7) apE rfl Try.call54 rfl k4 (by simp [apE]; rfl) ?_
  intro x hx1 hx2 hx3 hx4 hx5 hx6
  refine (keys1_c l (.yld 944 0) (fun s => (944, LR x apE) :: apK (pick (l.map Prod.fst) s) K) hl (fun s => h1) (fun s => h0) (fun s => k6) (fun s => apK_closed hc) (fun s => by simp; rfl) ?_).mono ?_
  · intro s i p hi hni hd hb
    have hsl : (pick (l.map Prod.fst) s).length < 1099511627777 := by
      rw [pick_len]
      have := nodup_le _ _ hd hb
      omega
    refine CallsV.congrG (H1 := (944, LR x apE) :: (946, itO l (s ++ [i])) :: apK (pick (l.map Prod.fst) s) K) (K1 := (944, LR x apE) :: (946, itO l (s ++ [i])) :: apK (pick (l.map Prod.fst) (s ++ [i])) K) (.inl ⟨944, 0, rfl, ?_⟩) (fun j => get_swap (by decide) j) (fun j => get_swap (by decide) j)
    rw [pickM hi, apK_app]
    refine ycalls [(2, .ref 942 0 0 0), (5, sv p.1)] ((946, itO l (s ++ [i])) :: apK (pick (l.map Prod.fst) s) K) hx1 hx2 hx3 hx4 hx5 hx6 rfl rfl rfl ?_ ?_
    · skip
      refine awp_region ?_
      refine al_d rfl rfl rfl (by exact opd_assign rfl rfl) ?_
      refine al_nil ?_
      -- end of the piece
      exact Ent.e0 ⟨⟨_, rfl, rfl⟩, ⟨_, rfl, rfl⟩, trivial⟩
    · skip
      refine awp_block ?_
      refine awp_region ?_
      refine al_d rfl rfl rfl (by exact (by first | exact opd_load1_ref rfl Try.isAgg28 rfl rfl rfl rfl rfl | exact opd_load1_pad rfl Try.isAgg28 rfl (by first | omega | assumption) rfl)) ?_
      refine al_d rfl rfl rfl (by exact opd_move rfl rfl) ?_
      refine al_d rfl rfl rfl (by exact (by first | exact x_buildSlice [[.str p.1]] rfl so28 rfl rfl rfl rfl rfl (by intro r hr; rw [List.mem_singleton] at hr; subst hr; rfl) | (apply x_buildSlice (ps := [[.str p.1]]) (hS := so28) <;> first | rfl | exact (by intro r hr; rw [List.mem_singleton] at hr; subst hr; rfl) | simp))) ?_
      refine al_d rfl rfl rfl (by exact x_append (ps := [[.str p.1]]) rfl so28 ei9 rfl rfl rfl rfl rfl (wRows_len _) rfl (by intro r hr; rw [List.mem_singleton] at hr; subst hr; rfl) (m := 1) rfl (by omega) rfl (wRows_app _ p.1)) ?_
      refine al_n rfl rfl (by exact (by first | exact x_store_all rfl Try.sizeOf28 rfl rfl rfl rfl rfl rfl rfl rfl | exact x_store1 rfl Try.sizeOf28 rfl rfl rfl rfl rfl rfl (by simp only [List.length_cons, List.length_nil]; omega) (by simp only [List.drop_succ_cons, List.drop_zero, List.take_succ_cons, List.take_zero, List.take_nil, List.map_cons, List.map_nil, List.set_cons_zero, List.set_cons_succ, List.cons_append, List.nil_append]; rfl) (by simp only [List.drop_succ_cons, List.drop_zero, List.take_succ_cons, List.take_zero, List.take_nil, List.map_cons, List.map_nil, List.set_cons_zero, List.set_cons_succ, List.cons_append, List.nil_append]; rfl) | exact x_store1 rfl Try.sizeOf28 rfl rfl rfl rfl rfl rfl (Nat.le_of_ble_eq_true rfl) rfl rfl)) ?_
      refine al_nil ?_
      -- end of the piece
      exact ⟨(946, itO l (s ++ [i])) :: (945, ⟨(pick (l.map Prod.fst) s).length + 1, 1, 9, wRows (pick (l.map Prod.fst) s ++ [p.1])⟩) :: (942, bx 1 28 [.osl 945 ((pick (l.map Prod.fst) s).length + 1) 0 ((pick (l.map Prod.fst) s).length + 1)]) :: K, Ent.get' trivial (fun j => get_same [_, _, _, _] [_, _, _, _, _, _] (by repeat (first | exact trivial | refine ⟨rfl, ?_⟩)) j), rfl, rfl⟩
  · rintro r H' ⟨rfl, s, hd, hb, hall, rfl⟩
    obtain ⟨M, hM⟩ : ∃ M, M = pick (l.map Prod.fst) s := ⟨_, rfl⟩
    have hperm : M.Perm (l.map Prod.fst) := by rw [hM]; exact pick_all hd (by rw [List.length_map]; exact hb) (by rw [List.length_map]; exact hall)
    rw [← hM]
    refine ⟨x, _, rfl, by rw [hx1]; decide, rfl, fun z => ?_⟩
    rw [hx2]
    refine awp_seq ?_
    refine awp_region ?_
    refine al_d rfl rfl rfl (by exact (by first | exact opd_load1_ref rfl Try.isAgg28 rfl rfl rfl rfl rfl | exact opd_load1_pad rfl Try.isAgg28 rfl (by first | omega | assumption) rfl)) ?_
    refine al_d rfl rfl rfl (by exact opd_assign rfl rfl) ?_
    refine al_nil ?_
    refine awp_ret ?_
    -- return
    refine aret1 (H' := ((945, ⟨M.length, 1, 9, wRows M⟩) :: K)) (by first | exact .inr rfl | exact .inl rfl) rfl (rval_tmp rfl) (Fin.front' [(944, LR z apE), (945, ⟨M.length, 1, 9, wRows M⟩), (942, bx 1 28 [.osl 945 M.length 0 M.length])] [(945, ⟨M.length, 1, 9, wRows M⟩)] (.osl rfl) (by simp [k2, k4, Heap.get]) (by intro p hp; rw [List.mem_singleton] at hp; subst hp; rfl) (ClosedL.spec ⟨wRows_clo _ _, trivial⟩) hc (by simp [k2, k4, Heap.get])) ?_
    exact ⟨M, hperm, rfl, rfl⟩
theorem collect_c (l : List (ByteArray × AV)) (K : Heap) (hl : l.length < 1099511627776) (k2 : K.get 942 = none) (k4 : K.get 944 = none) (k5 : K.get 945 = none) (k6 : K.get 946 = none) (h0 : K.get 950 = some (mO l)) (h1 : K.get 951 = some mB) (hc : Closed K) :
    ACalls Try.prog 52 [.clo 54 [.ref 951 0 0 0]] K (fun r H' => ∃ M, M.Perm (l.map Prod.fst) ∧ r = .osl 945 M.length 0 M.length ∧ H' = (945, ⟨M.length, 1, 9, wRows M⟩) :: K) := by
  refine ACalls.body Try.func52 rfl Try.ntmps52 (Nat.le_of_ble_eq_true rfl) ?_
  refine awp_seq ?_
  refine awp_region ?_
  refine al_d rfl rfl rfl (by exact opd_assign rfl rfl) ?_
  refine al_nil ?_
  refine awp_seq ?_
  refine awp_region ?_
  refine al_d rfl rfl rfl (by exact opd_move rfl rfl) ?_
  -- op at iter.go:60 slot 4 call [["rec", {"callee": ["app", "Callee.value", [["app", "Operand.func", [["num", 68]]]]], "args": ["arr", [["app", "Operand.const", [["app", "Value.slice", [["id",
  refine al_r rfl rfl (opr_call_nil rfl rfl Try.call68 rfl (appendSeq_c l K hl k2 k4 k5 k6 h0 h1 hc)) ?_
  rintro r H' ⟨M, hperm, rfl, rfl⟩
  refine al_d rfl rfl rfl (by exact opd_assign rfl rfl) ?_
  refine al_nil ?_
  refine awp_ret ?_
  -- return
  refine aret1 (H' := ((945, ⟨M.length, 1, 9, wRows M⟩) :: K)) (by first | exact .inr rfl | exact .inl rfl) rfl (rval_tmp rfl) Fin.refl ?_
  exact ⟨M, hperm, rfl, rfl⟩
theorem keys_c (H : Heap) (h1 : H.get 951 = none) :
    ACalls Try.prog 36 [.mp 950 0] H (fun r H' => r = .clo 54 [.ref 951 0 0 0] ∧ H' = (951, mB) :: H) := by
  refine ACalls.body Try.func36 rfl Try.ntmps36 (Nat.le_of_ble_eq_true rfl) ?_
  refine awp_seq ?_
  refine awp_region ?_
  refine al_d rfl rfl rfl (by exact opd_box (id := 951) rfl rfl rfl rfl h1) ?_
  refine al_d rfl rfl rfl (by exact opd_assign rfl rfl) ?_
  refine al_nil ?_
  refine awp_seq ?_
  refine awp_region ?_
  refine al_d rfl rfl rfl (by exact opd_makeFunc rfl rfl) ?_
  refine al_d rfl rfl rfl (by exact opd_assign rfl rfl) ?_
  refine al_nil ?_
  refine awp_ret ?_
  -- return
  refine aret1 (H' := ((951, mB) :: H)) (by first | exact .inr rfl | exact .inl rfl) rfl (rval_tmp rfl) Fin.refl ?_
  exact ⟨rfl, rfl⟩
theorem strRows_enc (l : List ByteArray) : strRows l = (l.map encStr).map (·.map .pv) := by rw [List.map_map]; rfl
theorem sorted_c (l : List (ByteArray × AV)) (K : Heap) (hl : l.length < 1099511627776) (k2 : K.get 942 = none) (k4 : K.get 944 = none) (k5 : K.get 945 = none) (k6 : K.get 946 = none) (h0 : K.get 950 = some (mO l)) (h1 : K.get 951 = some mB) (hc : Closed K) :
    ACalls Try.prog 35 [.clo 54 [.ref 951 0 0 0]] K (fun r H' => r = .pv (slStrs (sortS (l.map Prod.fst))) ∧ H' = K) := by
  refine ACalls.body Try.func35 rfl Try.ntmps35 (Nat.le_of_ble_eq_true rfl) ?_
  refine awp_seq ?_
  refine awp_region ?_
  refine al_d rfl rfl rfl (by exact opd_assign rfl rfl) ?_
  refine al_nil ?_
  refine awp_seq ?_
  refine awp_region ?_
  refine al_d rfl rfl rfl (by exact opd_move rfl rfl) ?_
  -- op at iter.go:67 slot 5 call [["rec", {"callee": ["app", "Callee.value", [["app", "Operand.func", [["num", 52]]]]], "args": ["arr", [["app", "Operand.tmp", [["num", 4]]]]], "argTypes": ["ar
  refine al_r rfl rfl (opr_call rfl rfl Try.call52 rfl (collect_c l K hl k2 k4 k5 k6 h0 h1 hc)) ?_
  rintro r H' ⟨M, hperm, rfl, rfl⟩
  have hMl : M.length < 4611686018427387904 := by rw [hperm.length_eq, List.length_map]; omega
  have hS := sortS_eq hperm
  have hSl : (sortS M).length = M.length := by rw [sortS, List.length_map, List.length_mergeSort, List.length_map]
  refine al_d rfl rfl rfl (by exact opd_assign rfl rfl) ?_
  refine al_nil ?_
  refine awp_seq ?_
  refine awp_region ?_
  refine al_d rfl rfl rfl (by exact opd_move rfl rfl) ?_
  refine al_d rfl rfl rfl (by exact opr_call rfl rfl Try.call53 rfl (sortStr_c M rfl rfl hMl)) ?_
  refine al_nil ?_
  refine awp_seq ?_
  refine awp_region ?_
  refine al_d rfl rfl rfl (by exact opd_move rfl rfl) ?_
  refine al_d rfl rfl rfl (by exact opd_assign rfl rfl) ?_
  refine al_nil ?_
  refine awp_ret ?_
  -- return
  refine aret1 (H' := K) (by first | exact .inr rfl | exact .inl rfl) rfl (rval_tmp rfl) (Fin.slice [(945, ⟨M.length, 1, 9, strRows (sortS M)⟩), (945, ⟨M.length, 1, 9, wRows M⟩)] ((sortS M).map encStr) rfl rfl (strRows_enc _) (by rw [List.length_map, hSl]) hc (by simp [k5]) (by simp [k5]) k5) ?_
  exact ⟨by rw [← hS]; rfl, rfl⟩
end Go.Proofs.Ytedfihgkopejcaa
end
