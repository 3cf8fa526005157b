/-
  THE ABSTRACT LOGIC, 19: a map's iterator; what a call of an entry of the model yields. Conditions: each rule's own premises.
-/
import Derived.Test.YtdgoodjhndeojaaAbs18
import Derived.Lib.Bytealg
set_option linter.unusedVariables false
set_option linter.unusedSimpArgs false
namespace Go.Abs

/-- The rows of an iterator. -/
def irows (m : AV) (since last : Nat) (seen : List Nat) : List (List AV) := [m, .pv (.int .i64 since), .pv (.int .i64 last)] :: seen.map fun (n : Nat) => [.pv (.int .i64 n)]

theorem it_ptr {w : World} {I : Nat → Prop} {ι : Plc} {H : Heap} {v : Value} {id g : Nat} {ob : Ob} (h : VRel w I ι H v (.it id g)) (hH : H.get id = some ob) (hg : ob.g = g) : ob.sz = 0 ∧ ∃ b, ι id = some (b, 1) ∧ v = .pointer (some ⟨b, 0, none⟩) := by
  cases h with
  | it o' h1 h2 _ h3 =>
    rw [hH] at h1; cases h1
    exact h3 hg
theorem iter_at {w : World} {I : Nat → Prop} {ι : Plc} {H : Heap} {q b mid mg since last : Nat} {oq om : Ob} {seen : List Nat} (h : ObjRel w I ι H q oq) (hz : oq.sz = 0) (hι : ι q = some (b, 1)) (hrows : oq.rows = irows (.mp mid mg) since last seen) (hM : H.get mid = some om) (hmg : om.g = mg) :
    ∃ bm, ι mid = some (bm, 0) ∧ om.sz = 0 ∧ w.heap[b]? = some (.mapIter (some bm) since seen.toArray last) ∧ ¬ I b := by
  obtain ⟨_, b', bm, since', seen', last', e1, e2, e3, e4, ⟨m, n, k, z1, z2, z3, z4⟩, e6⟩ := h.iter hz hι
  rw [hι] at e1; cases e1
  rw [hrows] at z1
  simp only [irows, List.getElem?_cons_zero, Option.some.injEq, List.cons.injEq, and_true] at z1
  obtain ⟨rfl, rfl, rfl⟩ := z1
  obtain ⟨q1, bm', q2, q3⟩ := mp_ptr z2 hM hmg
  cases q3
  injection z3.int_inv with _ h1
  injection z4.int_inv with _ h2
  have h1' : since' = since := by omega
  have h2' : last' = last := by omega
  subst h1' h2'
  refine ⟨bm, q2, q1, ?_, e3⟩
  have hs : seen' = seen.toArray := by
    have hl : seen'.size = seen.length := by rw [hrows] at e4; simpa [irows] using e4.symm
    apply Array.ext
    · simpa using hl
    · intro i hi1 hi2
      obtain ⟨x, n, y1, y2, y3⟩ := e6 i [.pv (.int .i64 (seen[i]'(by simpa using hi2)))] (by rw [hrows]; show (seen.map _)[i]? = _; rw [List.getElem?_map, List.getElem?_eq_getElem (by simpa using hi2)]; rfl)
      cases y2
      injection y3.int_inv with _ h3
      rw [Array.getElem?_eq_getElem hi1] at y1
      cases y1
      simp only [List.getElem_toArray]
      omega
  rw [← hs]; exact e2

section
variable {α : Type}
theorem run_next {P : Program} (w : World) (ty : TypeId) (r bm since c0 : Nat) (seen : Array Nat) (es : Array MapEntry) (clock : Nat) (hr : w.heap[r]? = some (.mapIter (some bm) since seen c0)) (hb : w.heap[bm]? = some (.map es clock)) (hold : ∀ x ∈ es.toList, x.born < since) (hsc : since ≤ c0) :
    ((leftOf es seen).size = 0 ∧ (Instr.next (.pointer (some ⟨r, 0, none⟩)) false ty).run P w = .ok (.tuple #[.bool false]) w) ∨
    ∃ e ∈ (leftOf es seen).toList, ∃ d : Nat, (Instr.next (.pointer (some ⟨r, 0, none⟩)) false ty).run P w = .ok (.tuple #[.bool true, e.key, e.val]) (World.setObj { w with drawn := d } r (.mapIter (some bm) since (seen.push e.born) clock)) := by
  simp only [Instr.next, getObj, Sem.run_bind, Sem.run, hr, hb, Result.andThen, next_test_false seen es since c0 hold hsc, Bool.false_eq_true, if_false]
  unfold leftOf
  have hmem : ∀ x ∈ (Array.filter (fun e => !seen.contains e.born) es).toList, x.born < since := fun x hx => hold x (by simp at hx ⊢; exact hx.1)
  generalize Array.filter (fun e => !seen.contains e.born) es = L at hmem ⊢
  have e1 : L.filter (fun x => decide (x.born < since)) = L := Array.filter_eq_self.2 (fun x hx => by simpa using hmem x (by simpa using hx))
  have e2 : L.filter (fun x => decide (x.born ≥ since)) = #[] := by
    rw [Array.filter_eq_empty_iff]
    intro x hx
    have := hmem x (by simpa using hx)
    simp
    omega
  simp only [e1, e2, Array.append_empty]
  by_cases h0 : L.size = 0
  · left
    have : L = #[] := Array.eq_empty_of_size_eq_zero h0
    subst this
    refine ⟨rfl, ?_⟩
    simp [choose, Sem.run, Question.forced]
  · right
    have hne : L.isEmpty = false := by simp [Array.isEmpty, h0]
    simp only [hne, Bool.false_eq_true, if_false, Array.empty_append, Array.size_map]
    have hch : ∃ (j d : Nat), j < L.size ∧ (choose (Question.mapNext L.size)).run P w = .ok j { w with drawn := d } := by
      by_cases hf : L.size ≤ 1
      · exact ⟨0, w.drawn, by omega, by simp [choose, Sem.run, Question.forced, hf]⟩
      · exact ⟨_, w.drawn + 1, Nat.mod_lt _ (by omega), by
          simp only [choose, Sem.run, Question.forced, decide_eq_true_eq, hf, if_false, Question.cut]
          rfl⟩
    obtain ⟨j, d, hj, hrun⟩ := hch
    refine ⟨L[j], by simp, d, ?_⟩
    have hset : ∀ (o' : Obj), (setObj r o').run P { w with drawn := d } = .ok () (World.setObj { w with drawn := d } r o') := fun o' => by
      simp [setObj, Sem.run, hr, World.setObj]
    simp only [hrun, Array.getElem?_map, Array.getElem?_eq_getElem hj, Option.map_some, Sem.run_bind, hset, Result.andThen]
    rfl
theorem left_at {w : World} {I : Nat → Prop} {ι : Plc} {H : Heap} {κ : KeyKind α} {l : List (α × AV)} {es : Array MapEntry} {seen : List Nat} (h : MapAt w I ι H κ l es) :
    ((leftOf es seen.toArray).size = 0 → ∀ i, i < l.length → i ∈ seen) ∧ ∀ e ∈ (leftOf es seen.toArray).toList, ∃ (i : Nat) (p : α × AV), l[i]? = some p ∧ i ∉ seen ∧ e.born = i ∧ e.key = κ.val p.1 ∧ VRel w I ι H e.val p.2 := by
  constructor
  · intro h0 i hi
    obtain ⟨e, q1, q2, _⟩ := h.rel i l[i] (List.getElem?_eq_getElem hi)
    have h1 : leftOf es seen.toArray = #[] := Array.eq_empty_of_size_eq_zero h0
    rw [leftOf, Array.filter_eq_empty_iff] at h1
    have := h1 e (Array.mem_of_getElem? q1)
    simp only [Bool.not_eq_true', Bool.not_eq_false, List.contains_toArray, List.contains_eq_mem, decide_eq_true_eq] at this
    rw [← q2]; simpa using this
  · intro e he
    simp only [leftOf, Array.toList_filter, List.mem_filter, Bool.not_eq_true', List.contains_toArray, List.contains_eq_mem, decide_eq_false_iff_not] at he
    obtain ⟨h1, h2⟩ := he
    obtain ⟨i, hi⟩ := List.mem_iff_getElem?.1 h1
    have hi' : es[i]? = some e := by simpa using hi
    obtain ⟨q1, q2⟩ := h.born hi'
    obtain ⟨e', z1, z2, z3⟩ := h.rel i l[i] (List.getElem?_eq_getElem q2)
    rw [hi'] at z1; cases z1
    exact ⟨i, l[i], List.getElem?_eq_getElem q2, by rw [← q1]; exact h2, q1, z3⟩

section
variable {P : Program} {N : Nat} {o : Oper} {E : Env} {H : Heap} {T kt et : TypeId} {x y z : Operand} {κ : KeyKind α} {l : List (α × AV)} {id g q gq since last : Nat} {ob oq : Ob} {seen : List Nat}
/-- The loop begins. -/
theorem opd_range (ho : o.op = .range T x) (hT : P.underlying T = some (.map kt et)) (hx : aeval E x = some (.mp id g)) (hH : H.get id = some ob) (hg : ob.g = g) (hrows : ob.rows = mrows κ l) (hty : ob.ty = l.length) (hq : H.get q = none) :
    OpD P N o E H (.it q 0) ((q, ⟨0, 0, 0, irows (.mp id g) l.length l.length []⟩) :: H) := by
  intro a w I ι _ _ hr he K Q hk
  have hvx0 := aeval_rel he hx
  obtain ⟨hsz, b, hι, hvx⟩ := mp_ptr hvx0 hH hg
  obtain ⟨es, e2, e3, e4⟩ := map_at (hr.obj id ob hH) hsz hι hrows
  rw [hty] at e2
  obtain ⟨k2, k3⟩ := Rel.placeX (H' := (q, ⟨0, 0, 0, irows (.mp id g) l.length l.length []⟩) :: H) (id := q) (cap := 1) (ob' := ⟨0, 0, 0, irows (.mp id g) l.length l.length []⟩) (x := .mapIter (some b) l.length #[] l.length) (w' := w.alloc (.mapIter (some b) l.length #[] l.length)) hr rfl rfl rfl rfl
    (fun o ho => by rw [hq] at ho; cases ho) (fun hnew hI hmono => .inr (.inr ⟨rfl, w.heap.size, b, l.length, #[], l.length, by simp, hnew, hI, rfl, ⟨_, _, _, rfl, by rw [← hvx]; exact hmono _ _ hvx0, .pv (.int _ _), .pv (.int _ _)⟩, fun i r hr' => by simp [irows] at hr'⟩))
    (get_cons_same _ _ _) (fun j hj => get_cons_other _ _ hj)
  have hrun : (execOp a.eval o).run P w = .ok (.value (.pointer (some ⟨w.heap.size, 0, none⟩))) (w.alloc (.mapIter (some b) l.length #[] l.length)) := by
    simp only [execOp, ho, hvx]
    simp [Instr.range, run_underlying hT, MapKept.run_getObj_map e2]
  unfold Oper.wp
  rw [hrun]
  exact hk _ _ I _ _ _ ⟨rfl, rfl⟩ (.it ⟨0, 0, 0, irows (.mp id g) l.length l.length []⟩ (get_cons_same _ _ _) (Nat.le_refl _) rfl fun _ => ⟨rfl, w.heap.size, by simp, rfl⟩) k2 k3
/-- A step: nothing is left; or one that has not come comes. -/
theorem opr_next (ho : o.op = .next x false) (hx : aeval E x = some (.it q gq)) (hQ : H.get q = some oq) (hgq : oq.g = gq) (hrq : oq.rows = irows (.mp id g) since last seen) (hH : H.get id = some ob) (hg : ob.g = g) (hrows : ob.rows = mrows κ l) (hty : ob.ty = l.length)
    (hold : l.length ≤ since) (hlast : since ≤ last) :
    OpR P N o E H (fun r H' => (r = .tup [.pv (.bool false)] ∧ H' = H ∧ ∀ i, i < l.length → i ∈ seen) ∨ ∃ (i : Nat) (p : α × AV), l[i]? = some p ∧ i ∉ seen ∧ r = .tup [.pv (.bool true), .pv (κ.pv p.1), p.2] ∧ H' = (q, ⟨gq, 0, oq.ty, irows (.mp id g) since l.length (seen ++ [i])⟩) :: H) := by
  intro a w I ι _ _ hr he K Q hk
  obtain ⟨hsz, b, hι, hvx⟩ := it_ptr (aeval_rel he hx) hQ hgq
  obtain ⟨bm, hιm, hmz, hbq, hI⟩ := iter_at (hr.obj q oq hQ) hsz hι hrq hH hg
  obtain ⟨es, e2, e3, e4⟩ := map_at (hr.obj id ob hH) hmz hιm hrows
  rw [hty] at e2
  have hold' : ∀ x ∈ es.toList, x.born < since := fun x hx => by
    obtain ⟨i, hi⟩ := List.mem_iff_getElem?.1 hx
    obtain ⟨q1, q2⟩ := e4.born (i := i) (e := x) (by simpa using hi)
    omega
  obtain ⟨l1, l2⟩ := left_at (seen := seen) e4
  rcases run_next (P := P) w o.type b bm since last seen.toArray es l.length hbq e2 hold' hlast with ⟨h0, hrun⟩ | ⟨e, he', d, hrun⟩
  · unfold Oper.wp execOp
    simp only [ho, hvx, Sem.run_bind, hrun, Result.andThen_ok, Sem.run_pure]
    refine hk _ _ I ι _ _ (.inl ⟨rfl, rfl, l1 h0⟩) (.tup rfl (fun i v c hv hc => ?_)) hr (Step.refl _ _ _ _)
    match i with
    | 0 => simp at hv hc; subst hv hc; exact .pv (.bool _)
    | i + 1 => simp at hv
  · obtain ⟨i, p, hip, hni, hbn, hkey, hval⟩ := l2 e he'
    obtain ⟨r1, r2⟩ := hr.drawn (w' := { w with drawn := d }) rfl rfl rfl rfl
    have hq2 : Heap.get ((q, ⟨gq, 0, oq.ty, irows (.mp id g) since l.length (seen ++ [i])⟩) :: H) q = some ⟨gq, 0, oq.ty, irows (.mp id g) since l.length (seen ++ [i])⟩ := get_cons_same _ _ _
    have hmp : VRel { w with drawn := d } I ι H (.map (some bm)) (.mp id g) := .mp ob hH (by omega) rfl fun _ => ⟨hmz, bm, hιm, rfl⟩
    obtain ⟨k2, k3⟩ := Rel.rewrite (H' := (q, ⟨gq, 0, oq.ty, irows (.mp id g) since l.length (seen ++ [i])⟩) :: H) (ob' := ⟨gq, 0, oq.ty, irows (.mp id g) since l.length (seen ++ [i])⟩) (x := .mapIter (some bm) since (seen.toArray.push e.born) l.length) r1 hQ hι hsz hbq rfl rfl hgq.symm rfl
      (fun _ hs1 hI' hmono => .inr (.inr ⟨rfl, b, bm, since, seen.toArray.push e.born, l.length, hι, hs1, hI', by simp [irows], ⟨_, _, _, rfl, hmono _ _ hmp, .pv (.int _ _), .pv (.int _ _)⟩, fun j r hj => by
        simp only [irows, List.getElem?_cons_succ, List.getElem?_map] at hj
        obtain ⟨n, hn, rfl⟩ := Option.map_eq_some_iff.1 hj
        refine ⟨n, _, ?_, rfl, .pv (.int _ _)⟩
        rw [hbn]
        simpa using hn⟩)) hq2 (fun j hj => get_cons_other _ _ hj)
    unfold Oper.wp execOp
    simp only [ho, hvx, Sem.run_bind, hrun, Result.andThen_ok, Sem.run_pure]
    refine hk _ _ I ι _ _ (.inr ⟨i, p, hip, hni, rfl, rfl⟩) (.tup rfl (fun j v c hv hc => ?_)) k2 (r2.trans k3)
    match j with
    | 0 => simp at hv hc; subst hv hc; exact .pv (.bool _)
    | 1 => simp at hv hc; subst hv hc; rw [hkey]; exact .pv (κ.rep _ _ _)
    | 2 => simp at hv hc; subst hv hc; exact (hval.mono hr r2).mono r1 k3
    | j + 3 => simp at hv
/-- The entry of the last step. -/
theorem opd_entry {i : Nat} {p : α × AV} (ho : o.op = .entry x) (hx : aeval E x = some (.it q gq)) (hQ : H.get q = some oq) (hgq : oq.g = gq) (hrq : oq.rows = irows (.mp id g) since l.length (seen ++ [i])) (hH : H.get id = some ob) (hg : ob.g = g) (hrows : ob.rows = mrows κ l) (hty : ob.ty = l.length)
    (hip : l[i]? = some p) : OpD P N o E H (.tup [.pv (κ.pv p.1), p.2]) H :=
  .of_run fun a w I ι hr he => by
    obtain ⟨hsz, b, hι, hvx⟩ := it_ptr (aeval_rel he hx) hQ hgq
    obtain ⟨bm, hιm, hmz, hbq, hI⟩ := iter_at (hr.obj q oq hQ) hsz hι hrq hH hg
    obtain ⟨es, e2, e3, e4⟩ := map_at (hr.obj id ob hH) hmz hιm hrows
    rw [hty] at e2
    obtain ⟨e, q1, q2, q3, q4⟩ := e4.rel i p hip
    have hf : es.find? (·.born == i) = some e := by
      rw [← Array.find?_toList, ← q2]
      refine find_born e es.toList ?_ (by simpa using Array.mem_of_getElem? q1)
      refine List.pairwise_iff_getElem.2 fun j k hj hk hjk => ?_
      have hk' : k < es.size := by simpa using hk
      have z1 := (e4.born (i := k) (e := es[k]) (Array.getElem?_eq_getElem hk')).1
      have z2 := (e4.born (i := j) (e := es[j]) (Array.getElem?_eq_getElem (by omega))).1
      simp only [List.getElem_map, Array.getElem_toList, z1, z2]
      omega
    refine ⟨.tuple #[e.key, e.val], ?_, .tup rfl (fun j v c hv hc => ?_)⟩
    · simp only [execOp, ho, hvx]
      simp [Instr.entry, getObj, Sem.run, hbq, e2, hf]
    · match j with
      | 0 => simp at hv hc; subst hv hc; rw [q3]; exact .pv (κ.rep _ _ _)
      | 1 => simp at hv hc; subst hv hc; exact q4
      | j + 2 => simp at hv
end
end

/-! ### entries of the model -/
section
variable {P : Program} {N : Nat} {o : Oper} {E : Env} {H : Heap} {f : Operand} {args : Array Operand} {at_ : Array TypeId} {F : FuncId} {fn : Func} {e : Array Value → Sem Value} {vs : List AV} {r : AV}
/-- What an entry yields, at these arguments. -/
def ExtR (P : Program) (e : Array Value → Sem Value) (H : Heap) (vs : List AV) (r : AV) : Prop :=
  ∀ (w : World) (I : Nat → Prop) (ι : Plc) (cs : Array Value), cs.size = vs.length → (∀ (i : Nat) (v : Value) (a : AV), cs[i]? = some v → vs[i]? = some a → VRel w I ι H v a) → ∃ c, (e cs).run P w = .ok c w ∧ VRel w I ι H c r
theorem opd_ext (ho : o.op = .call { callee := .value f, args := args, argTypes := at_ }) (hf : aeval E f = some (.pv (.fn F))) (hF : P.funcs[F]? = some fn) (hname : (fn.name == "runtime.NumGoroutine") = false)
    (hb : fn.body.isNone = true) (hn : Extern.findNext fn = none) (he : Extern.find fn = some e) (hv : aargs E args.toList = some vs) (h : ExtR P e H vs r) : OpD P N o E H r H :=
  .of_run fun a w I ι hr hE => by
    have hfv := (aeval_rel hE hf).fn_inv
    obtain ⟨h1, h2⟩ := mapM_aeval hE (aargs_mapM hv)
    obtain ⟨c, hc, hcr⟩ := h w I ι (args.map a.eval) (by simpa using h1) (fun i v b hv hb => h2 i v b (by simpa using hv) hb)
    refine ⟨c, ?_, hcr⟩
    unfold execOp
    simp only [ho, resolve, hfv, Deferred.ofValue, Sem.run_bind, Sem.run_pure, Result.andThen_ok, invoke, Array.empty_append, Array.append_empty, run_callFunc_extern hF hname hb hn he, hc]
theorem two_vals {w : World} {I : Nat → Prop} {ι : Plc} {H : Heap} {x y : AV} {cs : Array Value} (hl : cs.size = [x, y].length) (h : ∀ (i : Nat) (v : Value) (a : AV), cs[i]? = some v → [x, y][i]? = some a → VRel w I ι H v a) : ∃ u v, cs = #[u, v] ∧ VRel w I ι H u x ∧ VRel w I ι H v y := by
  obtain ⟨l⟩ := cs
  match l, hl with
  | [u, v], _ => exact ⟨u, v, rfl, h 0 u x rfl rfl, h 1 v y rfl rfl⟩
theorem ext_indexByte (s : ByteArray) (c : Int) : ExtR P Extern.BytealgIndexByte.indexByte H [.pv (.str s), .pv (.int .u8 c)] (.pv (.int .i64 (Lib.indexByte s.data.toList c.toNat.toUInt8))) := by
  intro w I ι cs hl h
  obtain ⟨u, v, rfl, h1, h2⟩ := two_vals hl h
  rw [h1.str_inv, h2.int_inv]
  exact ⟨_, Lib.run_indexByteString s c w, .pv (.int _ _)⟩
theorem ext_compare (s t : ByteArray) : ExtR P Extern.BytealgCompare.compare H [.pv (.str s), .pv (.str t)] (.pv (.int .i64 (Lib.compareBytes s.data.toList t.data.toList))) := by
  intro w I ι cs hl h
  obtain ⟨u, v, rfl, h1, h2⟩ := two_vals hl h
  rw [h1.str_inv, h2.str_inv]
  exact ⟨_, Lib.run_compareString s t w, .pv (.int _ _)⟩
end
/-- A slot is laid once more. -/
theorem al_dup {P : Program} {G0 : Heap} {N : Nat} {ops : Array Oper} {K : Env → Heap → Prop} {E : Env} {H : Heap} {l : List Oper} {t : Tmp} {v : AV} (hb : E.get t = some v) (h : AL P G0 N ops K l ((t, v) :: E) H) : AL P G0 N ops K l E H := by
  intro G hG a w hs
  refine h G hG a w (Ent.sub (G0 := G0) (fun k u hk => ?_) G hG N a w hs)
  by_cases e : t = k
  · subst e
    rw [Env.get_cons_same] at hk
    rw [hb, hk]
  · rwa [Env.get_cons_other _ _ e] at hk
end Go.Abs
