/-
  THE ABSTRACT LOGIC, 38: a box is frozen: a pointer to what is never written again; such pointers and nil. Conditions: each rule's own premises.
  CONTRACTS: maps.Keys, slices.Sorted over a map of objects. Conditions: lengths below 2^40.
  THE ABSTRACT LOGIC, 36: strconv.Itoa and math/bits.Mul64, the library's contracts carried over; the table of the door. Conditions: each rule's own premises.
  THE ABSTRACT LOGIC, 37: a text copied into an array of bytes; an array of bytes as a text. Conditions: each rule's own premises.
  CONTRACTS: strconv.Itoa; digest.mix, digest.digits. Conditions: numbers of 64 bits.
  CONTRACTS: digest.Sum. Conditions: lengths below 2^62.
  CONTRACTS: digest.List, object.Digest, atlas.Digest. Conditions: lengths (together) below 2^45.
  CONTRACT: atlas.Digest. Conditions: lengths (together) below 2^45.
  CONTRACTS: merge.objects, merge.same, the merge of an object that at most one side changed. Conditions: lengths below 2^40.
  CONTRACTS: the merger's need where nothing is needed; slices.SortedFunc over the keys of an empty map. Conditions: lengths below 2^40.
  CONTRACTS: slices.SortedFunc over the keys of an empty map. Conditions: none.
  PLAIN: what differs between two maps; a possible edit changes at most two objects, which it names. Conditions: none.
  CONTRACT: merge.Merge where each object was changed by one side at most. Conditions: lengths below 2^40.
  CONTRACT: merge.Merge where each object was changed by one side at most. Conditions: lengths below 2^38.
-/
import Derived.Test.YtohdipdgnnamlaaGreatDoorKI1M8
import Derived.Shelf.Strconv.Itoa3
import Derived.Shelf.Bits.Mul64
import Derived.Shelf.LaysM
import Derived.Shelf.Lays
import Derived.Ground.NamesProg
import Derived.Laws.Bits64b
import Derived.Lib.ItoaLen
section
set_option linter.unusedVariables false
set_option linter.unusedSimpArgs false
namespace Go.Abs
/-- A slot's box is frozen. -/
theorem Ent.fzP {G0 : Heap} {E E' : Env} {H H' : Heap} {id g t : Nat} {ob : Ob} (row : List PV) (ht : E.get t = some (.ref id g 0 0)) (hH : H.get id = some ob) (hg : ob.g = g) (hrow : ob.rows = [row.map .pv]) (hz : ob.sz = row.length) (h0 : 0 < row.length)
    (hE : ∀ p ∈ E', p = (t, .pad [row] 0 0) ∨ (E.get p.1 = some p.2 ∧ Clo H' p.2)) (hno : H'.get id = none) (hs : Sub H' H) (hc : Closed H') (hk : Kept G0 H' H) : Ent G0 E H E' H' := by
  intro G hG N a w hst
  obtain ⟨I, ι, hr, hs', he⟩ := hst.rel
  subst hG
  refine ⟨hst.defers, hst.size, _, ι, hr.freeze hs hc hH hno, hs'.freeze hs hk hH, fun u v hu => ?_⟩
  rcases hE _ (mem_of_get hu) with e | ⟨e1, e2⟩
  · obtain ⟨rfl, rfl⟩ := Prod.mk.inj e
    obtain ⟨c, hc1, hv⟩ := he _ _ ht
    refine ⟨c, hc1, ?_⟩
    obtain ⟨b, cap, h1, h2⟩ := ref_ptr hv hH hg
    obtain ⟨p1, p2, ⟨b', cap', cs, f1, f2, f3, f4, f5, f5', f6⟩ | ⟨f1, _⟩⟩ := (hr.obj id ob hH).cells (by omega)
    rotate_left
    · rw [h1] at f1; cases f1
    rw [h1] at f1; cases f1
    have hcells : ∀ (i : Nat) (r : List PV), [row][i]? = some r → ∀ (k : Nat) (p : PV), r[k]? = some p → ∃ u, cs[i * ob.sz + k]? = some u ∧ VRel w I ι H u (.pv p) := fun i r hi k p hk => by
      cases i with
      | succ i => simp at hi
      | zero =>
        obtain rfl : row = r := by simpa using hi
        obtain ⟨u, q1, _, q3⟩ := f6 0 (row.map .pv) (by rw [hrow]; rfl) k (.pv p) (by rw [List.getElem?_map, hk]; rfl)
        exact ⟨u, q1, q3⟩
    have hI : ImmPlus I ι id b := .inr ⟨cap, h1⟩
    have hlen : ∀ r ∈ [row], r.length = ob.sz := fun r hr' => by rw [List.mem_singleton] at hr'; rw [hr', hz]
    have hcell : ∀ (i : Nat) (r : List PV), [row][i]? = some r → ∀ (k : Nat) (p : PV), r[k]? = some p → w.cell? ⟨b, 0 + i * ob.sz + k, none⟩ = some ((cs[i * ob.sz + k]?).getD undef) := fun i r hi k p hk => by
      obtain ⟨u, q1, _⟩ := hcells i r hi k p hk
      rw [Nat.zero_add, cell_of_row w b _ cs ob.ty (0, 0) f2, q1]
      rfl
    have hrep : ∀ (i : Nat) (r : List PV), [row][i]? = some r → ∀ (k : Nat) (p : PV), r[k]? = some p → PRep w (ImmPlus I ι id) ((cs[i * ob.sz + k]?).getD undef) p := fun i r hi k p hk => by
      obtain ⟨u, q1, q2⟩ := hcells i r hi k p hk
      rw [q1]
      exact q2.pv_inv.mono (fun _ _ => rfl) (fun _ h => .inl h)
    have hsl : PRep w (ImmPlus I ι id) (.slice (some ⟨b, 0, none⟩) [row].length cap) (.sl [row]) :=
      .sl b 0 cap ob.sz [row] (fun i k => (cs[i * ob.sz + k]?).getD undef) hI (by omega) hlen (by rw [hrow] at f5; simpa using f5) hcell hrep
    have e : c = .pointer (some ⟨b, 0 + 0 * ob.sz + 0, none⟩) := by rw [h2]; simp
    rw [e]
    exact .pad b 0 cap ob.sz hsl (by omega) hlen (fun i k => (cs[i * ob.sz + k]?).getD undef) hI hcell hrep
  · obtain ⟨c, hc1, hv⟩ := he _ _ e1
    exact ⟨c, hc1, (hv.restrict hs e2).mono' (fun _ _ => rfl) (fun _ h => .inl h) (fun _ o h => ⟨o, h, Nat.le_refl _, fun _ => ⟨rfl, rfl, fun _ => Nat.le_refl _⟩⟩)⟩
section
variable {P : Program} {N : Nat} {o : Oper} {E : Env} {H : Heap} {t t' e : TypeId} {x y : Operand}
theorem pad_ptr {w : World} {I : Nat → Prop} {ι : Plc} {v : Value} {rows : List (List PV)} {i k : Nat} (h : VRel w I ι H v (.pad rows i k)) : ∃ a, v = .pointer (some a) := by
  cases h with
  | pad b off cap sz => exact ⟨_, rfl⟩
/-- A pointer that is nil, or leads to what is never written. -/
def optP (p : Option (List PV)) : AV := match p with
  | none => .pv .nilp
  | some r => .pad [r] 0 0
theorem optP_ptr {w : World} {I : Nat → Prop} {ι : Plc} {v : Value} {p : Option (List PV)} (h : VRel w I ι H v (optP p)) : ∃ a : Option Addr, v = .pointer a ∧ a.isNone = p.isNone := by
  cases p with
  | none => exact ⟨none, h.nilp_inv, rfl⟩
  | some r =>
    obtain ⟨a, rfl⟩ := pad_ptr h
    exact ⟨some a, rfl, rfl⟩
theorem run_equalIn_np {w : World} (d : Nat) {p : Option Addr} (ht : P.underlying t = some (.pointer e)) : (Op.equalIn (d + 1) t (.pointer none) (.pointer p)).run P w = .ok p.isNone w := by
  cases p <;> simp [Op.equalIn, run_underlying ht]
theorem run_eql_np {w : World} {p : Option Addr} (ht : P.underlying t = some (.pointer e)) : (binOp .eql t (.pointer none) (.pointer p)).run P w = .ok (.bool p.isNone) w := by
  have h : (Op.equalIn (9999 + 1) t (.pointer none) (.pointer p)).run P w = .ok p.isNone w := run_equalIn_np 9999 ht
  simp only [binOp]
  simp only [Op.equal, Op.maxDepth, Sem.run_bind, h, Result.andThen_ok, Sem.run_pure]
theorem opd_peq_opt {p q : Option (List PV)} {V W : AV} (ho : o.op = .binOp .eql t x y t') (ht : P.underlying t = some (.pointer e)) (hx : aeval E x = some V) (hy : aeval E y = some W) (hV : V = optP p) (hW : W = optP q) (hn : p = none ∨ q = none) : OpD P N o E H (.pv (.bool (p.isNone && q.isNone))) H :=
  .of_run fun a w I ι _ he => ⟨.bool (p.isNone && q.isNone), by
    subst hV hW
    obtain ⟨a1, e1, i1⟩ := optP_ptr (aeval_rel he hx)
    obtain ⟨a2, e2, i2⟩ := optP_ptr (aeval_rel he hy)
    rcases hn with rfl | rfl
    · obtain rfl : a1 = none := by simpa using i1
      rw [← i2]
      simp only [execOp, ho, e1, e2, eqGuard_at_pointer, Sem.run_bind, Sem.run_pure, Result.andThen_ok, run_eql_np ht]
      cases a2 <;> rfl
    · obtain rfl : a2 = none := by simpa using i2
      rw [← i1]
      simp only [execOp, ho, e1, e2, eqGuard_at_pointer, Sem.run_bind, Sem.run_pure, Result.andThen_ok, run_eql_pn ht]
      cases a1 <;> rfl, .pv (.bool _)⟩
theorem opd_peq_n {p : Option (List PV)} {V : AV} (ho : o.op = .binOp .eql t x y t') (ht : P.underlying t = some (.pointer e)) (hx : aeval E x = some V) (hy : aeval E y = some (.pv .nilp)) (hV : V = optP p) : OpD P N o E H (.pv (.bool p.isNone)) H :=
  .of_run fun a w I ι _ he => ⟨.bool p.isNone, by
    subst hV
    obtain ⟨a1, e1, i1⟩ := optP_ptr (aeval_rel he hx)
    have e2 := (aeval_rel he hy).nilp_inv
    rw [← i1]
    simp only [execOp, ho, e1, e2, eqGuard_at_pointer, Sem.run_bind, Sem.run_pure, Result.andThen_ok, run_eql_pn ht], .pv (.bool _)⟩
theorem opd_pne_n {p : Option (List PV)} {V : AV} (ho : o.op = .binOp .neq t x y t') (ht : P.underlying t = some (.pointer e)) (hx : aeval E x = some V) (hy : aeval E y = some (.pv .nilp)) (hV : V = optP p) : OpD P N o E H (.pv (.bool p.isSome)) H :=
  .of_run fun a w I ι _ he => ⟨.bool p.isSome, by
    subst hV
    obtain ⟨a1, e1, i1⟩ := optP_ptr (aeval_rel he hx)
    have e2 := (aeval_rel he hy).nilp_inv
    have i2 : a1.isSome = p.isSome := by cases a1 <;> cases p <;> simp_all
    rw [← i2]
    simp only [execOp, ho, e1, e2, eqGuard_at_pointer, Sem.run_bind, Sem.run_pure, Result.andThen_ok, run_neq_pn ht]
    cases a1 <;> rfl, .pv (.bool _)⟩
theorem opd_nilCheck_pad {rows : List (List PV)} {i k : Nat} (ho : o.op = .nilCheck x) (hx : aeval E x = some (.pad rows i k)) : OpD P N o E H (.pad rows i k) H :=
  .of_run fun a w I ι _ he => by
    have hv := aeval_rel he hx
    obtain ⟨b, e1⟩ := pad_ptr hv
    rw [e1] at hv
    exact ⟨_, by simp [execOp, ho, e1], hv⟩
end
/-- A call that leaves its heap as it is, in a greater one. -/
theorem ACalls.sub {P : Program} {f : FuncId} {args : List AV} {H0 H : Heap} {r0 : AV} (h : ACalls P f args H0 (fun r H' => r = r0 ∧ H' = H0)) (hs : Sub H0 H) (hc : Closed H0) (ha : ∀ a ∈ args, Clo H0 a) : ACalls P f args H (fun r H' => r = r0 ∧ H' = H) := by
  intro I ι w vs hr hl hv
  refine (ACalls.frame h hs hc ha (fun id h => .inl h) I ι w vs hr hl hv).mono ?_
  rintro e w' ⟨r, H', I', ι', v, rfl, ⟨rfl, rfl⟩, k1, k2, k3⟩
  obtain ⟨m1, m2⟩ := k2.congr (H' := H) (fun j => by
    rw [hget_app]
    cases e : H0.get j with
    | none => rfl
    | some o => exact hs j o e)
  exact ⟨r, H, I', ι', v, rfl, ⟨rfl, rfl⟩, k1.mono k2 m2, m1, k3.trans m2⟩
end Go.Abs
end
section
set_option linter.unusedVariables false
set_option linter.unusedSimpArgs false
set_option maxRecDepth 100000
set_option maxHeartbeats 1000000
namespace Go.Proofs.YtohdipdgnnamlaaGreatDoor
open Go.Abs
def itOP (l : List (ByteArray × AV)) (s : List Nat) : Ob := ⟨0, 0, 0, irows (.mp 950 0) l.length l.length s⟩
def mOP (l : List (ByteArray × AV)) : Ob := ⟨0, 0, l.length, mrows strK l⟩
def mBP : Ob := bx 1 68 [.mp 950 0]
theorem keys1_cP (l : List (ByteArray × AV)) (fv : AV) (Hs : List Nat → Heap) (hl : l.length < 1099511627776) (h1 : ∀ s, (Hs s).get 951 = some mBP) (h2 : ∀ s, (Hs s).get 950 = some (mOP l)) (h6 : ∀ s, (Hs s).get 946 = none) (hcl : ∀ s, Closed (Hs s)) (hf : ∀ s, Clo (Hs s) fv)
  (hy : ∀ s i p, l[i]? = some p → i ∉ s → s.Nodup → (∀ j, j ∈ s → j < l.length) → CallsV Tryz.prog fv [sv p.1] ((946, itOP l (s ++ [i])) :: Hs s) (fun r H' => r = bv true ∧ H' = (946, itOP l (s ++ [i])) :: Hs (s ++ [i]))) :
  ACalls Tryz.prog 54 [fv, .ref 951 0 0 0] (Hs []) (fun r H' => r = .tup [] ∧ ∃ s, s.Nodup ∧ (∀ i, i ∈ s → i < l.length) ∧ (∀ i, i < l.length → i ∈ s) ∧ H' = Hs s) := by
 refine Bd Tryz.func54 rfl Tryz.ntmps54<|Sq<|Rg<|Dd (by exact opd_load1_ref rfl Tryz.isAgg68 rfl (h1 []) rfl rfl rfl)<|Dd (by exact opd_range (q := 946) (κ := strK) rfl Tryz.underlying68 rfl (h2 []) rfl rfl rfl (h6 []))<|Zz<|awp_block ?_
 refine awp_loop (σ := List Nat) (fun s => ([(0, fv), (5, .it 946 0)], (946, itOP l s) :: Hs s)) (fun s => s.Nodup ∧ ∀ i, i ∈ s → i < l.length) (fun s => l.length - s.length) [] ⟨List.nodup_nil, by simp⟩ ?_ ?_
 ·exact E0
 rintro s ⟨hd, hb⟩
 refine Sq<|Rg ?_
 refine al_r rfl rfl (opr_next (κ := strK) rfl rfl rfl rfl rfl (h2 s) rfl rfl rfl (by omega) (by omega)) ?_
 rintro _ _ (⟨rfl, rfl, hn0⟩ | ⟨hni, hnp, hn1, hn2, rfl, rfl⟩)
 ·skip
  refine Dd ex'<|Zz<|Sq ?_
  refine Cn (fun hc1 => ?_) fun hc1 => ?_
  ·skip
   cases hc1
  skip
  refine awp_exit ?_
  exact aret0 (H' := Hs s) (.inl rfl) rfl (Fin.pops' [(946, itOP l s)] (by simp) (hcl _) (by simp [h6]) (by simp [h6])) ⟨rfl, s, hd, hb, hn0, rfl⟩
 have hlt : hni < l.length := (List.getElem?_eq_some_iff.1 hn1).1
 have hb2 : ∀ i, i ∈ s ++ [hni] → i < l.length := fun i hi => by
  rcases List.mem_append.1 hi with h | h
  ·exact hb i h
  rw [List.mem_singleton] at h; omega
 have hd2 : (s ++ [hni]).Nodup := List.nodup_append.2 ⟨hd, by simp, fun a ha b hb e => by rw [List.mem_singleton] at hb; subst hb; subst e; exact hn2 ha⟩
 have hlen := nodup_le _ _ hd2 hb2
 rw [List.length_append, List.length_singleton] at hlen
 refine Dd ex'<|Zz<|Sq ?_
 refine Cn (fun hc2 => ?_) fun hc2 => ?_
 ·skip
  refine awp_skip<|awp_block<|Sq<|Rg<|Dd (by exact opd_entry rfl rfl rfl rfl rfl (h2 s) rfl rfl rfl hn1)<|Dd ex'<|Dd as'<|Zz<|Sq ?_
  refine AWp.ent (E' := [(0, fv), (5, .it 946 0), (3, sv hnp.1)]) (H' := (946, itOP l (s ++ [hni])) :: Hs s) (Ent.get' ⟨⟨_, rfl, rfl⟩, ⟨_, rfl, rfl⟩, ⟨_, rfl, rfl⟩, trivial⟩ (fun j => get_dup 946 (itOP l (s ++ [hni])) (itOP l s) (Hs s) j)) ?_
  refine Rg<|Dd mv'<|Dd mv'<|Dd (by exact opr_callV rfl rfl rfl (hy s hni hnp hn1 hn2 hd hb))<|Dd no'<|Zz ?_
  refine Cn (fun hc3 => ?_) fun hc3 => ?_
  ·skip
   cases hc3
  skip
  refine awp_skip ?_
  refine ⟨s ++ [hni], ⟨hd2, hb2⟩, by rw [List.length_append, List.length_singleton]; omega, ?_⟩
  exact E0
 skip
 cases hc2
theorem pickMP {l : List (ByteArray × AV)} {seen : List Nat} {i : Nat} {p : ByteArray × AV} (h : l[i]? = some p) : pick (l.map Prod.fst) (seen ++ [i]) = pick (l.map Prod.fst) seen ++ [p.1] := by
 simp only [pick, List.map_append, List.map_cons, List.map_nil, List.getElem?_map, h, Option.map_some, Option.getD_some]
theorem pick_lenP (L : List ByteArray) (s : List Nat) : (pick L s).length = s.length := List.length_map _
def apEP : Env := [(2, .ref 942 0 0 0)]
def apKP (M : List ByteArray) (K : Heap) : Heap := (945, ⟨M.length, 1, 9, wRows M⟩) :: (942, bx 1 27 [.osl 945 M.length 0 M.length]) :: K
theorem apK_appP (M : List ByteArray) (s : ByteArray) (K : Heap) : apKP (M ++ [s]) K = (945, ⟨M.length + 1, 1, 9, wRows (M ++ [s])⟩) :: (942, bx 1 27 [.osl 945 (M.length + 1) 0 (M.length + 1)]) :: K := by simp [apKP]
theorem apK_closedP {M : List ByteArray} {K : Heap} {x : Go.Loop} (h : Closed K) : Closed ((944, LR x apEP) :: apKP M K) := by
 refine Closed.app (D := [(944, LR x apEP), (945, ⟨M.length, 1, 9, wRows M⟩), (942, bx 1 27 [.osl 945 M.length 0 M.length])]) ?_ h
 refine ClosedL.spec ⟨LR_clo (by simp [apEP]; rfl), wRows_clo _ _, ?_, trivial⟩
 intro r hr a ha
 simp only [bx, List.mem_singleton] at hr
 subst hr
 rw [List.mem_singleton] at ha
 subst ha
 exact .osl rfl
theorem appendSeq_cP (l : List (ByteArray × AV)) (K : Heap) (hl : l.length < 1099511627776) (k2 : K.get 942 = none) (k4 : K.get 944 = none) (k5 : K.get 945 = none) (k6 : K.get 946 = none) (h0 : K.get 950 = some (mOP l)) (h1 : K.get 951 = some mBP) (hc : Closed K) :
  ACalls Tryz.prog 97 [.pv .nils, .clo 54 [.ref 951 0 0 0]] K (fun r H' => ∃ M, M.Perm (l.map Prod.fst) ∧ r = .osl 945 M.length 0 M.length ∧ H' = (945, ⟨M.length, 1, 9, wRows M⟩) :: K) := by
 have k2' : Heap.get ((945, ⟨0, 1, 9, []⟩) :: K) 942 = none := k2
 refine Bd Tryz.func97 rfl Tryz.ntmps97 ?_
 refine awp_nilc (t := 0) (id := 945) (sz := 1) (ty := 9) rfl k5 rfl ?_
 refine awp_uncap (t := 0) rfl rfl rfl (Nat.le_refl _) ?_
 refine Sq<|Rg<|Dd (by exact opd_box (id := 942) rfl rfl rfl rfl k2')<|Dd as'<|Zz<|Sq<|Sq<|Rg<|Dd mv'<|Zz<|awp_block ?_
 refine AWp.ent (E' := [(2, .ref 942 0 0 0), (6, .clo 54 [.ref 951 0 0 0])]) (H' := apKP [] K) (Ent.get' ⟨⟨_, rfl, rfl⟩, ⟨_, rfl, rfl⟩, trivial⟩ (fun j => get_swap (by decide) j)) ?_
 refine awp_range (id := 944) (p := 7) apEP rfl Tryz.call54 rfl k4 (by simp [apEP]; rfl) ?_
 intro x hx1 hx2 hx3 hx4 hx5 hx6
 refine (keys1_cP l (.yld 944 0) (fun s => (944, LR x apEP) :: apKP (pick (l.map Prod.fst) s) K) hl (fun s => h1) (fun s => h0) (fun s => k6) (fun s => apK_closedP hc) (fun s => by simp; rfl) ?_).mono ?_
 ·intro s i p hi hni hd hb
  have hsl : (pick (l.map Prod.fst) s).length < 1099511627777 := by
   rw [pick_lenP]
   have := nodup_le _ _ hd hb
   omega
  refine CallsV.congrG (H1 := (944, LR x apEP) :: (946, itOP l (s ++ [i])) :: apKP (pick (l.map Prod.fst) s) K) (K1 := (944, LR x apEP) :: (946, itOP l (s ++ [i])) :: apKP (pick (l.map Prod.fst) (s ++ [i])) K) (.inl ⟨944, 0, rfl, ?_⟩) (fun j => get_swap (by decide) j) (fun j => get_swap (by decide) j)
  rw [pickMP hi, apK_appP]
  refine ycalls [(2, .ref 942 0 0 0), (5, sv p.1)] ((946, itOP l (s ++ [i])) :: apKP (pick (l.map Prod.fst) s) K) hx1 hx2 hx3 hx4 hx5 hx6 rfl rfl rfl ?_ ?_
  ·skip
   refine Rg<|Dd as'<|Zz ?_
   exact E0
  skip
  refine awp_block<|Rg<|Dd (l1' Tryz.isAgg27)<|Dd mv'<|Dd (by exact x_buildSlice [[.str p.1]] rfl so27 rfl rfl rfl rfl rfl (by intro r hr; rw [List.mem_singleton] at hr; subst hr; rfl))<|Dd (by exact x_append (ps := [[.str p.1]]) rfl so27 ei9 rfl rfl rfl rfl rfl (wRows_len _) rfl (by intro r hr; rw [List.mem_singleton] at hr; subst hr; rfl) (m := 1) rfl (by omega) rfl (wRows_app _ p.1))<|Uu (sa' Tryz.sizeOf27)<|Zz ?_
  exact ⟨(946, itOP l (s ++ [i])) :: (945, ⟨(pick (l.map Prod.fst) s).length + 1, 1, 9, wRows (pick (l.map Prod.fst) s ++ [p.1])⟩) :: (942, bx 1 27 [.osl 945 ((pick (l.map Prod.fst) s).length + 1) 0 ((pick (l.map Prod.fst) s).length + 1)]) :: K, Ent.get' trivial (fun j => get_same [_, _, _, _] [_, _, _, _, _, _] (by repeat (first | exact trivial | refine ⟨rfl, ?_⟩)) j), rfl, rfl⟩
 rintro r H' ⟨rfl, s, hd, hb, hall, rfl⟩
 obtain ⟨M, hMT⟩ : ∃ M, M = pick (l.map Prod.fst) s := ⟨_, rfl⟩
 have hperm : M.Perm (l.map Prod.fst) := by rw [hMT]; exact pick_all hd (by rw [List.length_map]; exact hb) (by rw [List.length_map]; exact hall)
 rw [← hMT]
 refine ⟨x, _, rfl, by rw [hx1]; decide, rfl, fun z => ?_⟩
 rw [hx2]
 refine Sq<|Rg<|Dd (l1' Tryz.isAgg27)<|Dd as'<|Zz<|awp_ret ?_
 refine aret1 (H' := ((945, ⟨M.length, 1, 9, wRows M⟩) :: K)) (.inr rfl) rfl (rval_tmp rfl) (Fin.front' [(944, LR z apEP), (945, ⟨M.length, 1, 9, wRows M⟩), (942, bx 1 27 [.osl 945 M.length 0 M.length])] [(945, ⟨M.length, 1, 9, wRows M⟩)] (.osl rfl) (by simp [k2, k4, Heap.get]) (by intro p hp; rw [List.mem_singleton] at hp; subst hp; rfl) (ClosedL.spec ⟨wRows_clo _ _, trivial⟩) hc (by simp [k2, k4, Heap.get])) ?_
 exact ⟨M, hperm, rfl, rfl⟩
theorem collect_cP (l : List (ByteArray × AV)) (K : Heap) (hl : l.length < 1099511627776) (k2 : K.get 942 = none) (k4 : K.get 944 = none) (k5 : K.get 945 = none) (k6 : K.get 946 = none) (h0 : K.get 950 = some (mOP l)) (h1 : K.get 951 = some mBP) (hc : Closed K) :
  ACalls Tryz.prog 53 [.clo 54 [.ref 951 0 0 0]] K (fun r H' => ∃ M, M.Perm (l.map Prod.fst) ∧ r = .osl 945 M.length 0 M.length ∧ H' = (945, ⟨M.length, 1, 9, wRows M⟩) :: K) := by
 refine Bd Tryz.func53 rfl Tryz.ntmps53<|Sq<|Rg<|Dd as'<|Zz<|Sq<|Rg<|Dd mv' ?_
 refine al_r rfl rfl (opr_call_nil rfl rfl Tryz.call97 rfl (appendSeq_cP l K hl k2 k4 k5 k6 h0 h1 hc)) ?_
 rintro r H' ⟨M, hperm, rfl, rfl⟩
 refine Dd as'<|Zz<|awp_ret ?_
 refine aret1 (H' := ((945, ⟨M.length, 1, 9, wRows M⟩) :: K)) (.inr rfl) rfl (rval_tmp rfl) Fin.refl ?_
 exact ⟨M, hperm, rfl, rfl⟩
theorem keys_cP (H : Heap) (h1 : H.get 951 = none) :
  ACalls Tryz.prog 27 [.mp 950 0] H (fun r H' => r = .clo 54 [.ref 951 0 0 0] ∧ H' = (951, mBP) :: H) := by
 refine Bd Tryz.func27 rfl Tryz.ntmps27<|Sq<|Rg<|Dd (by exact opd_box (id := 951) rfl rfl rfl rfl h1)<|Dd as'<|Zz<|Sq<|Rg<|Dd (by exact opd_makeFunc rfl rfl)<|Dd as'<|Zz<|awp_ret ?_
 refine aret1 (H' := ((951, mBP) :: H)) (.inr rfl) rfl (rval_tmp rfl) Fin.refl ?_
 exact ⟨rfl, rfl⟩
theorem strRows_encP (l : List ByteArray) : strRows l = (l.map encStr).map (·.map .pv) := by rw [List.map_map]; rfl
theorem sorted_cP (l : List (ByteArray × AV)) (K : Heap) (hl : l.length < 1099511627776) (k2 : K.get 942 = none) (k4 : K.get 944 = none) (k5 : K.get 945 = none) (k6 : K.get 946 = none) (h0 : K.get 950 = some (mOP l)) (h1 : K.get 951 = some mBP) (hc : Closed K) :
  ACalls Tryz.prog 26 [.clo 54 [.ref 951 0 0 0]] K (fun r H' => r = .pv (slStrs (sortS (l.map Prod.fst))) ∧ H' = K) := by
 refine Bd Tryz.func26 rfl Tryz.ntmps26<|Sq<|Rg<|Dd as'<|Zz<|Sq<|Rg<|Dd mv' ?_
 refine al_r rfl rfl (opr_call rfl rfl Tryz.call53 rfl (collect_cP l K hl k2 k4 k5 k6 h0 h1 hc)) ?_
 rintro r H' ⟨M, hperm, rfl, rfl⟩
 have hMl : M.length < 4611686018427387904 := by rw [hperm.length_eq, List.length_map]; omega
 have hS := sortS_eq hperm
 have hSl : (sortS M).length = M.length := by rw [sortS, List.length_map, List.length_mergeSort, List.length_map]
 refine Dd as'<|Zz<|Sq<|Rg<|Dd mv'<|Dd (by exact opr_call rfl rfl Tryz.call43 rfl (sortStr_c M rfl rfl hMl))<|Zz<|Sq<|Rg<|Dd mv'<|Dd as'<|Zz<|awp_ret ?_
 refine aret1 (H' := K) (.inr rfl) rfl (rval_tmp rfl) (Fin.slice [(945, ⟨M.length, 1, 9, strRows (sortS M)⟩), (945, ⟨M.length, 1, 9, wRows M⟩)] ((sortS M).map encStr) rfl rfl (strRows_encP _) (by rw [List.length_map, hSl]) hc (by simp [k5]) (by simp [k5]) k5) ?_
 exact ⟨by rw [← hS]; rfl, rfl⟩
end Go.Proofs.YtohdipdgnnamlaaGreatDoor
end
section
set_option linter.unusedVariables false
set_option linter.unusedSimpArgs false
namespace Go.Abs
open Go.Proofs
/-- A number's decimal digits. -/
def itoaB (n : Int) : ByteArray := ⟨(Lib.itoa n).toArray⟩
theorem itoa_c {P : Program} {ρ : Shelf.Ren} (L : LaysM.n171 P ρ) {G : Nat} (hg : (G, GV.ints .u64 Lib.pow10Tab) ∈ gtab) (hn : P.globalNamed "internal/strconv.uint64pow10" = some G) (n : Int) (h0 : -9223372036854775808 ≤ n) (h1 : n ≤ 9223372036854775807) (H : Heap) :
    ACalls P (ρ.f 171) [.pv (.int .i64 n)] H (fun r H' => r = .pv (.str (itoaB n)) ∧ H' = H) := by
  intro I ι w vs hr hvl hv
  obtain ⟨v, rfl⟩ : ∃ v, vs = #[v] := by
    match vs, hvl with
    | ⟨[v]⟩, _ => exact ⟨v, rfl⟩
  have e1 := (hv 0 v _ rfl rfl).int_inv
  subst e1
  have htab : Lib.TabIs P w "internal/strconv.uint64pow10" .u64 Lib.pow10Tab := by
    obtain ⟨_, cs, t, f, h2, h3⟩ := hr.glob _ hg
    have h3' : cs = (Lib.pow10Tab.map fun z => Value.int .u64 z).toArray := h3
    subst h3'
    simp only [Lib.TabIs, World.var?, hn, Option.bind_some, h2]
  refine (Any.strconv_Itoa L n h0 h1 w htab).mono ?_
  rintro e w' ⟨rfl, k, os, rfl⟩
  obtain ⟨k1, k2⟩ := Rel.drawn (w' := w.drewN k) hr rfl rfl rfl rfl
  obtain ⟨m1, m2⟩ := Rel.grown os k1
  exact ⟨_, _, I, ι, _, rfl, ⟨rfl, rfl⟩, .pv (.str _), m1, k2.trans m2⟩
theorem mul64_c {P : Program} {ρ : Shelf.Ren} (L : Lays.n264 P ρ) (x y : Nat) (hx : x < 18446744073709551616) (hy : y < 18446744073709551616) (H : Heap) :
    ACalls P (ρ.f 264) [.pv (.int .u64 (x : Int)), .pv (.int .u64 (y : Int))] H (fun r H' => r = .tup [.pv (.int .u64 ((x * y / 18446744073709551616 : Nat) : Int)), .pv (.int .u64 ((x * y % 18446744073709551616 : Nat) : Int))] ∧ H' = H) := by
  intro I ι w vs hr hvl hv
  obtain ⟨v, u, rfl⟩ : ∃ v u, vs = #[v, u] := by
    match vs, hvl with
    | ⟨[v, u]⟩, _ => exact ⟨v, u, rfl⟩
  have e1 := (hv 0 v _ rfl rfl).int_inv
  have e2 := (hv 1 u _ rfl rfl).int_inv
  subst e1 e2
  refine (Any.bits_Mul64 L x y hx hy w).mono ?_
  rintro e w' ⟨rfl, rfl⟩
  refine ⟨_, _, I, ι, _, rfl, ⟨rfl, rfl⟩, .tup rfl fun i v a h1 h2 => ?_, hr, Step.refl _ _ _ _⟩
  match i, h1, h2 with
  | 0, h1, h2 => cases h1; cases h2; exact .pv (.int _ _)
  | 1, h1, h2 => cases h1; cases h2; exact .pv (.int _ _)
  | i + 2, h1, h2 => simp at h1
end Go.Abs
end
section
set_option linter.unusedVariables false
set_option linter.unusedSimpArgs false
namespace Go.Abs
section
variable {P : Program} {G0 : Heap} {N : Nat} {E : Env} {H : Heap} {ops : Array Oper} {K : Env → Heap → Prop} {o : Oper} {rest : List Oper}
/-- A list of operations; of the value of one slot more is known. -/
def ALx (P : Program) (G0 : Heap) (N : Nat) (ops : Array Oper) (K : Env → Heap → Prop) (l : List Oper) (E : Env) (H : Heap) (d : Nat) (F : Plc → Value → Prop) : Prop :=
  ∀ G : Entry, G.H = G0 → ∀ (a : Act) (w : World) (I : Nat → Prop) (ι : Plc), Marks G.w w a.defers → a.tmps.size = N → Rel I ι H w → Step G.I G.ι G.H G.w I ι H w → ERel w I ι H E a → (∃ c, a.tmps[d]? = some c ∧ F ι c) →
    ∀ ro, (ro = none ∨ l.all Oper.noDefer = true) → ∀ Q : Exit → Act → World → Prop, (∀ E H a w, K E H → St G N E H a w → Q .normal a w) → wpListIn (RF ro) 0 P ops Q l a w
/-- The place of an object, as a slice of its first cells. -/
def SlOf (id n : Nat) (ι : Plc) (c : Value) : Prop := ∃ b cap, ι id = some (b, cap) ∧ c = .slice (some ⟨b, 0, none⟩) n n
theorem put_size (a : Act) (d : Nat) (c : Value) : (a.put (some d) c).tmps.size = a.tmps.size := by simp [Act.put]
theorem put_same (a : Act) {d : Nat} (c : Value) (h : d < a.tmps.size) : (a.put (some d) c).tmps[d]? = some c := by simp [Act.put, h]
theorem put_other (a : Act) {d d2 : Nat} (c : Value) (h : d2 ≠ d) : (a.put (some d2) c).tmps[d]? = a.tmps[d]? := by simp [Act.put, h]
theorem al_slice_arr {T e : TypeId} {p : Operand} {d id g n : Nat} {ob : Ob} (hg0 : o.guard = none) (hd : o.dst = some d) (hdN : Nat.blt d N = true) (ho : o.op = .slice T p none none none) (hT : P.underlying T = some (.array n e)) (hs : ∀ w, (sizeOf e).run P w = .ok 1 w)
    (hx : aeval E p = some (.ref id g 0 0)) (hH : H.get id = some ob) (hg : ob.g = g) (hk : ALx P G0 N ops K rest ((d, .any) :: E) H d (SlOf id n)) : AL P G0 N ops K (o :: rest) E H := by
  intro G hG a w hst ro hro Q hq
  refine wpListIn_plain hg0 fun K' hK => ?_
  refine Oper.wpW_in (ro_cons hro).1 ?_
  obtain ⟨I, ι, hr, hs', he⟩ := hst.rel
  obtain ⟨b, cap, h1, h3⟩ := ref_ptr (aeval_rel he hx) hH hg
  have hdn : d < N := by simpa [Nat.blt_eq] using hdN
  have hrun : (execOp a.eval o).run P w = .ok (.value (.slice (some ⟨b, 0, none⟩) n n)) w := by
    simp only [execOp, ho, h3, Option.map_none]
    simp [Instr.sliceAt, run_underlying hT, Instr.sureAddr, Instr.sliceBounds, hs, Addr.add_lit]
  unfold Oper.wpW
  rw [hrun]
  show K' (a.put o.dst _) w
  rw [hd]
  exact hK _ _ (hk G hG _ w I ι (by rw [put_defers]; exact hst.defers) (by rw [put_size]; exact hst.size) hr hs' (ERel.put (d := some d) hr (Step.refl _ _ _ _) he (.any _) (by rw [hst.size]; exact hdN)) ⟨_, put_same a _ (by rw [hst.size]; exact hdn), b, cap, h1, rfl⟩ ro (ro_cons hro).2 Q hq)
theorem alx_move {d d2 : Nat} {F : Plc → Value → Prop} {x : Operand} {v : AV} (hg0 : o.guard = none) (hd : o.dst = some d2) (hdN : Nat.blt d2 N = true) (hne : d2 ≠ d) (ho : o.op = .move x) (hx : aeval E x = some v) (hk : ALx P G0 N ops K rest ((d2, v) :: E) H d F) : ALx P G0 N ops K (o :: rest) E H d F := by
  intro G hG a w I ι hm hsz hr hs' he ⟨c, hc, hF⟩ ro hro Q hq
  refine wpListIn_plain hg0 fun K' hK => ?_
  refine Oper.wpW_in (ro_cons hro).1 ?_
  have hrun : (execOp a.eval o).run P w = .ok (.value (a.eval x)) w := by simp [execOp, ho]
  unfold Oper.wpW
  rw [hrun]
  show K' (a.put o.dst _) w
  rw [hd]
  exact hK _ _ (hk G hG _ w I ι (by rw [put_defers]; exact hm) (by rw [put_size]; exact hsz) hr hs' (ERel.put (d := some d2) hr (Step.refl _ _ _ _) he (aeval_rel he hx) (by rw [hsz]; exact hdN)) ⟨c, by rw [put_other a _ hne]; exact hc, hF⟩ ro (ro_cons hro).2 Q hq)
/-- The cells of a text's first bytes. -/
def bcells (s : List UInt8) : List AV := s.map fun b => .pv (.int .u8 b.toNat)
theorem bcells_len (s : List UInt8) : (bcells s).length = s.length := List.length_map _
theorem alx_copy_str {D S e : TypeId} {y : Operand} {d d2 id g n m T : Nat} {cells : List AV} {s : ByteArray} (hg0 : o.guard = none) (hd : o.dst = some d2) (hdN : Nat.blt d2 N = true) (ho : o.op = .call { callee := .builtin .copy, args := #[.tmp d, y], argTypes := #[D, S] }) (hD : P.underlying D = some (.slice e)) (hs : ∀ w, (sizeOf e).run P w = .ok 1 w)
    (hH : H.get id = some ⟨g, n, T, [cells]⟩) (hn0 : 0 < n) (hy : aeval E y = some (.pv (.str s))) (hm : min s.size n = m)
    (hk : AL P G0 N ops K rest ((d2, .pv (.int .i64 m)) :: E) ((id, ⟨g, n, T, [bcells (s.data.toList.take m) ++ cells.drop m]⟩) :: H)) : ALx P G0 N ops K (o :: rest) E H d (SlOf id n) := by
  intro G hG a w I ι hmk hsz hr hs' he ⟨c, hc, b, cap, hι, hcv⟩ ro hro Q hq
  refine wpListIn_plain hg0 fun K' hK => ?_
  refine Oper.wpW_in (ro_cons hro).1 ?_
  have e2y := (aeval_rel he hy).str_inv
  have e1 : a.eval (.tmp d) = .slice (some ⟨b, 0, none⟩) n n := by simp [Act.eval, hc, hcv]
  obtain ⟨p1, p2, ⟨b', cap', cs, f1, f2, f3, f4, f5, f5', f6⟩ | ⟨f1, _⟩⟩ := (hr.obj id _ hH).cells hn0
  rotate_left
  · rw [hι] at f1; cases f1
  rw [hι] at f1; cases f1
  have hlen : cells.length = n := p2 cells (by simp)
  have hms : m ≤ s.size := by omega
  have hmn : m ≤ n := by omega
  simp only [List.length_singleton] at f5
  have hcs : n ≤ cs.size := by rw [f4]; exact Nat.le_mul_of_pos_left _ (by omega)
  have hmm : min m s.data.size = m := by have : s.data.size = s.size := rfl; omega
  have hcells : ((s.extract 0 m).data.map fun b => Value.int .u8 b.toNat).toList = (s.data.toList.take m).map fun b => Value.int .u8 b.toNat := by simp
  have hst := run_storeCells_at P b 0 T ((s.data.toList.take m).map fun b => Value.int .u8 b.toNat) 0 cs w f2 (by simp [hmm]; omega) (by intro v hv; obtain ⟨b, _, rfl⟩ := List.mem_map.1 hv; rfl)
  simp only [Nat.add_zero, Nat.zero_add, List.take_zero, List.nil_append, List.length_map, List.length_take, Array.length_toList] at hst
  rw [hmm] at hst
  have hnl : (bcells (s.data.toList.take m) ++ cells.drop m).length = n := by
    rw [List.length_append, bcells_len, List.length_take, List.length_drop, Array.length_toList, hmm, hlen]; omega
  obtain ⟨k2, k3⟩ := Rel.update (H' := (id, ⟨g, n, T, [bcells (s.data.toList.take m) ++ cells.drop m]⟩) :: H) (ob' := ⟨g, n, T, [bcells (s.data.toList.take m) ++ cells.drop m]⟩)
    (cs' := ((s.data.toList.take m).map (fun b => Value.int .u8 b.toNat) ++ cs.toList.drop m).toArray) hr hH hι f2 (Nat.le_refl _) rfl rfl (fun _ => Nat.le_refl _) (by
      simp only [List.size_toArray, List.length_append, List.length_map, List.length_take, List.length_drop, Array.length_toList, hmm]
      rw [← f4]; omega) (by simpa using f5) (by intro r hr'; rw [List.mem_singleton] at hr'; subst hr'; exact hnl) (fun i r hi k a' hk' => by
        cases i with
        | succ i => simp at hi
        | zero =>
          simp only [List.getElem?_cons_zero, Option.some.injEq] at hi
          subst hi
          rw [Nat.zero_mul, Nat.zero_add]
          simp only [List.getElem?_toArray]
          by_cases ck : k < m
          · rw [List.getElem?_append_left (by rw [bcells_len, List.length_take, Array.length_toList, hmm]; exact ck), bcells, List.getElem?_map] at hk'
            rw [List.getElem?_append_left (by rw [List.length_map, List.length_take, Array.length_toList, hmm]; exact ck), List.getElem?_map]
            cases e : (s.data.toList.take m)[k]? with
            | none => rw [e] at hk'; cases hk'
            | some q =>
              rw [e] at hk'
              cases hk'
              exact ⟨.int .u8 q.toNat, rfl, rfl, .pv (.int _ _)⟩
          · rw [List.getElem?_append_right (by rw [bcells_len, List.length_take, Array.length_toList, hmm]; omega), bcells_len, List.length_take, Array.length_toList, hmm, List.getElem?_drop, show m + (k - m) = k by omega] at hk'
            obtain ⟨u, q1, q2, q3⟩ := f6 0 cells rfl k a' hk'
            rw [Nat.zero_mul, Nat.zero_add] at q1
            refine ⟨u, ?_, q2, q3⟩
            rw [List.getElem?_append_right (by rw [List.length_map, List.length_take, Array.length_toList, hmm]; omega), List.length_map, List.length_take, Array.length_toList, hmm, List.getElem?_drop, show m + (k - m) = k by omega]
            simpa using q1) (get_cons_same _ _ _) (fun j hj => get_cons_other _ _ hj)
  have hmin : Nat.min s.size n = m := hm
  unfold Oper.wpW execOp
  simp only [ho, resolve, invoke, builtin, Sem.run_bind, Sem.run_pure, Result.andThen_ok, List.map_toArray, List.map_cons, List.map_nil, e1, e2y, Builtin.copy_, run_underlying hD, hs]
  simp only [List.getElem?_toArray, List.getElem?_cons_zero, List.getElem?_cons_succ, run_underlying hD, Builtin.lenOf, Builtin.firstCells, Sem.run_bind, Sem.run_pure, Result.andThen_ok, hs, hmin, hcells, hst]
  show K' (a.put o.dst _) _
  rw [hd]
  refine hK _ _ (hk G hG _ _ ⟨?_, ?_, I, ι, k2, hs'.trans k3, ERel.put (d := some d2) hr k3 he (.pv (.int _ _)) (by rw [hsz]; exact hdN)⟩ ro (ro_cons hro).2 Q hq)
  · rw [put_defers]; exact hmk.step hr k3
  · rw [put_size]; exact hsz
theorem alx_str {S T e : TypeId} {d d2 id g n A : Nat} {bs : List UInt8} {r : ByteArray} (hg0 : o.guard = none) (hd : o.dst = some d2) (hdN : Nat.blt d2 N = true) (ho : o.op = .convert S T (.tmp d)) (hS : P.underlying S = some (.slice e)) (he' : P.underlying e = some (.int .u8)) (hT : P.underlying T = some .string)
    (hH : H.get id = some ⟨g, n, A, [bcells bs]⟩) (hn0 : 0 < n) (hr' : (⟨bs.toArray⟩ : ByteArray) = r) (hk : AL P G0 N ops K rest ((d2, .pv (.str r)) :: E) H) : ALx P G0 N ops K (o :: rest) E H d (SlOf id n) := by
  intro G hG a w I ι hmk hsz hr hs' he ⟨c, hc, b, cap, hι, hcv⟩ ro hro Q hq
  refine wpListIn_plain hg0 fun K' hK => ?_
  refine Oper.wpW_in (ro_cons hro).1 ?_
  have e1 : a.eval (.tmp d) = .slice (some ⟨b, 0, none⟩) n n := by simp [Act.eval, hc, hcv]
  obtain ⟨p1, p2, ⟨b', cap', cs, f1, f2, f3, f4, f5, f5', f6⟩ | ⟨f1, _⟩⟩ := (hr.obj id _ hH).cells hn0
  rotate_left
  · rw [hι] at f1; cases f1
  rw [hι] at f1; cases f1
  have hlen : bs.length = n := by rw [← bcells_len bs]; exact p2 (bcells bs) (by simp)
  subst hr'
  have hl : (loadCells ⟨b, 0, none⟩ n).run P w = .ok ((bs.map fun b => (b.toNat : Int)).map (Value.int .u8)).toArray w := by
    have h0 := run_loadCells_list (P := P) w ⟨b, 0, none⟩ ((bs.map fun b => (b.toNat : Int)).map (Value.int .u8)) (fun j v hv => by
      rw [List.map_map, List.getElem?_map] at hv
      obtain ⟨q, hq1, rfl⟩ := Option.map_eq_some_iff.1 hv
      rw [Addr.add_lit, Nat.zero_add, cell_of_row w b _ cs _ (0, 0) f2]
      obtain ⟨u, q1, q2, q3⟩ := f6 0 (bcells bs) rfl j (.pv (.int .u8 q.toNat)) (by rw [bcells, List.getElem?_map, hq1]; rfl)
      rw [Nat.zero_mul, Nat.zero_add] at q1
      rw [q1, q3.int_inv]
      rfl)
    rwa [List.length_map, List.length_map, hlen] at h0
  have hrun : (execOp a.eval o).run P w = .ok (.value (.string ⟨bs.toArray⟩)) w := by
    simp only [execOp, ho, e1, Sem.run_bind]
    rw [run_convert_bytes_string w S T e _ _ n hS he' hT, run_bytesToString w _ _ n _ hl, foldl_push_bytes]
    have e3 : (bs.map fun b => (b.toNat : Int)).map (fun n => UInt8.ofNat n.toNat) = bs := by
      rw [List.map_map]
      conv => rhs; rw [← List.map_id bs]
      refine List.map_congr_left fun b _ => ?_
      simp
    rw [e3]
    simp [ByteArray.empty, ByteArray.emptyWithCapacity]
    rfl
  unfold Oper.wpW
  rw [hrun]
  show K' (a.put o.dst _) w
  rw [hd]
  exact hK _ _ (hk G hG _ w ⟨by rw [put_defers]; exact hmk, by rw [put_size]; exact hsz, I, ι, hr, hs', ERel.put (d := some d2) hr (Step.refl _ _ _ _) he (.pv (.str _)) (by rw [hsz]; exact hdN)⟩ ro (ro_cons hro).2 Q hq)
end
end Go.Abs
end
section
set_option linter.unusedVariables false
set_option linter.unusedSimpArgs false
set_option maxRecDepth 100000
set_option maxHeartbeats 1000000
namespace Go.Proofs
open Go.RowKit Go.Sort Go.Shelf
def Tryz.itoaL_ren : Go.Shelf.Ren := ⟨fun | 171 => 62 | 243 => 102 | 246 => 161 | 283 => 189 | 284 => 190 | 285 => 191 | 286 => 192 | 129 => 121 | 317 => 199 | 318 => 200 | 319 => 201 | 320 => 202 | 337 => 205 | 338 => 206 | n => n, fun | 3 => 3 | 9 => 9 | 2 => 2 | 4 => 4 | 171 => 259 | 0 => 0 | 53 => 164 | 37 => 122 | 5 => 5 | 173 => 261 | 212 => 271 | 51 => 183 | 20 => 20 | 213 => 272 | 46 => 137 | 232 => 274 | 233 => 275 | n => n, fun | 17 => 1 | 18 => 2 | 19 => 3 | n => n⟩
theorem Tryz.itoaL : Go.Proofs.LaysM.n171 Tryz.prog Tryz.itoaL_ren := {
 mixed := by kernel_rfl
 f129 := Tryz.func121.trans (congrArg some (by kernel_rfl))
 f171 := Tryz.func62.trans (congrArg some (by kernel_rfl))
 f243 := Tryz.func102.trans (congrArg some (by kernel_rfl))
 f246 := Tryz.func161.trans (congrArg some (by kernel_rfl))
 f283 := Tryz.func189.trans (congrArg some (by kernel_rfl))
 f284 := Tryz.func190.trans (congrArg some (by kernel_rfl))
 f285 := Tryz.func191.trans (congrArg some (by kernel_rfl))
 f286 := Tryz.func192.trans (congrArg some (by kernel_rfl))
 f317 := Tryz.func199.trans (congrArg some (by kernel_rfl))
 f318 := Tryz.func200.trans (congrArg some (by kernel_rfl))
 f319 := Tryz.func201.trans (congrArg some (by kernel_rfl))
 f320 := Tryz.func202.trans (congrArg some (by kernel_rfl))
 f337 := Tryz.func205.trans (congrArg some (by kernel_rfl))
 f338 := Tryz.func206.trans (congrArg some (by kernel_rfl))
 t0 := Tryz.underlying0
 a0 := Tryz.isAgg0
 z0 := Tryz.sizeOf0
 v0 := Tryz.zeroValue0
 t2 := Tryz.underlying2
 a2 := Tryz.isAgg2
 z2 := Tryz.sizeOf2
 v2 := Tryz.zeroValue2
 t3 := Tryz.underlying3
 a3 := Tryz.isAgg3
 z3 := Tryz.sizeOf3
 v3 := Tryz.zeroValue3
 t4 := Tryz.underlying4
 a4 := Tryz.isAgg4
 z4 := Tryz.sizeOf4
 v4 := Tryz.zeroValue4
 t5 := Tryz.underlying5
 a5 := Tryz.isAgg5
 z5 := Tryz.sizeOf5
 v5 := Tryz.zeroValue5
 t9 := Tryz.underlying9
 a9 := Tryz.isAgg9
 z9 := Tryz.sizeOf9
 v9 := Tryz.zeroValue9
 t20 := Tryz.underlying20
 a20 := Tryz.isAgg20
 z20 := Tryz.sizeOf20
 v20 := Tryz.zeroValue20
 t37 := Tryz.underlying122
 a37 := Tryz.isAgg122
 z37 := Tryz.sizeOf122
 v37 := Tryz.zeroValue122
 t46 := Tryz.underlying137
 a46 := Tryz.isAgg137
 z46 := Tryz.sizeOf137
 v46 := Tryz.zeroValue137
 t51 := Tryz.underlying183
 a51 := Tryz.isAgg183
 z51 := Tryz.sizeOf183
 v51 := Tryz.zeroValue183
 t53 := Tryz.underlying164
 a53 := Tryz.isAgg164
 z53 := Tryz.sizeOf164
 v53 := Tryz.zeroValue164
 t171 := Tryz.underlying259
 a171 := Tryz.isAgg259
 z171 := Tryz.sizeOf259
 v171 := Tryz.zeroValue259
 t173 := Tryz.underlying261
 a173 := Tryz.isAgg261
 z173 := Tryz.sizeOf261
 v173 := Tryz.zeroValue261
 t212 := Tryz.underlying271
 a212 := Tryz.isAgg271
 z212 := Tryz.sizeOf271
 v212 := Tryz.zeroValue271
 t213 := Tryz.underlying272
 a213 := Tryz.isAgg272
 z213 := Tryz.sizeOf272
 t232 := Tryz.underlying274
 a232 := Tryz.isAgg274
 z232 := Tryz.sizeOf274
 v232 := Tryz.zeroValue274
 t233 := Tryz.underlying275
 a233 := Tryz.isAgg275
 z233 := Tryz.sizeOf275
 v233 := Tryz.zeroValue275
 g17 := by kernel_rfl
 g18 := by kernel_rfl
 g19 := by kernel_rfl
 i0 := by kernel_rfl
 i2 := by kernel_rfl
 i3 := by kernel_rfl
 i4 := by kernel_rfl
 i5 := by kernel_rfl
 i9 := by kernel_rfl
 i20 := by kernel_rfl
 i37 := by kernel_rfl
 i46 := by kernel_rfl
 i51 := by kernel_rfl
 i53 := by kernel_rfl
 i171 := by kernel_rfl
 i173 := by kernel_rfl
 i212 := by kernel_rfl
 i232 := by kernel_rfl
 i233 := by kernel_rfl
 m17 := by kernel_rfl
 m18 := by kernel_rfl
 m19 := by kernel_rfl }
def Tryz.mul64L_ren : Go.Shelf.Ren := ⟨fun | 264 => 163 | n => n, fun | 53 => 164 | 46 => 137 | n => n, fun | n => n⟩
theorem Tryz.mul64L : Go.Proofs.Lays.n264 Tryz.prog Tryz.mul64L_ren := {
 mixed := by kernel_rfl
 f264 := Tryz.func163.trans (congrArg some (by kernel_rfl))
 t46 := Tryz.underlying137
 a46 := Tryz.isAgg137
 z46 := Tryz.sizeOf137
 v46 := Tryz.zeroValue137
 t53 := Tryz.underlying164
 a53 := Tryz.isAgg164
 z53 := Tryz.sizeOf164
 v53 := Tryz.zeroValue164 }
end Go.Proofs
namespace Go.Proofs.YtohdipdgnnamlaaGreatDoor
open Go.Abs
theorem itoa_cT (n : Int) (h0 : -9223372036854775808 ≤ n) (h1 : n ≤ 9223372036854775807) (H : Heap) : ACalls Tryz.prog 62 [iv n] H (fun r H' => r = sv (itoaB n) ∧ H' = H) :=
 Go.Abs.itoa_c Tryz.itoaL (G := 1) (by unfold gtab; exact .head _) (by kernel_rfl) n h0 h1 H
abbrev uv (n : Nat) : AV := .pv (.int .u64 (n : Int))
theorem mul64_cT (x y : Nat) (hx : x < 18446744073709551616) (hy : y < 18446744073709551616) (H : Heap) : ACalls Tryz.prog 163 [uv x, uv y] H (fun r H' => r = .tup [uv (x * y / 18446744073709551616), uv (x * y % 18446744073709551616)] ∧ H' = H) :=
 Go.Abs.mul64_c Tryz.mul64L x y hx hy H
theorem shrN (a k : Nat) {m : Int} (h : m.toNat = k) : (a : Int) / 2 ^ m.toNat = ((a / 2 ^ k : Nat) : Int) := by
 rw [h]
 push_cast
 rfl
/-- What mixes a number. -/
def mixA (x : Nat) : Nat := x * 2862933555777941757 % 18446744073709551616
def mixB (x : Nat) : Nat := mixA x ^^^ (mixA x / 2 ^ 32)
def mixC (x : Nat) : Nat := mixB x * 3935559000370003845 % 18446744073709551616
def mixN (x : Nat) : Nat := mixC x ^^^ (mixC x / 2 ^ 29)
theorem mixA_lt (x : Nat) : mixA x < 18446744073709551616 := Nat.mod_lt _ (by decide)
theorem mixC_lt (x : Nat) : mixC x < 18446744073709551616 := Nat.mod_lt _ (by decide)
theorem div_lt64 {x : Nat} (k : Nat) (h : x < 18446744073709551616) : x / 2 ^ k < 18446744073709551616 := Nat.lt_of_le_of_lt (Nat.div_le_self _ _) h
theorem xor_lt64 {x y : Nat} (h : x < 18446744073709551616) (h' : y < 18446744073709551616) : x ^^^ y < 18446744073709551616 := Nat.xor_lt_two_pow (n := 64) h h'
theorem mixB_lt (x : Nat) : mixB x < 18446744073709551616 := xor_lt64 (mixA_lt x) (div_lt64 32 (mixA_lt x))
theorem mixN_lt (x : Nat) : mixN x < 18446744073709551616 := xor_lt64 (mixC_lt x) (div_lt64 29 (mixC_lt x))
theorem mix_c (x : Nat) (hx : x < 18446744073709551616) (H : Heap) : ACalls Tryz.prog 105 [uv x] H (fun r H' => r = uv (mixN x) ∧ H' = H) := by
 refine ACalls.pure ?_ (by simp) H
 refine Bd Tryz.func105 rfl Tryz.ntmps105<|Sq<|Rg<|Dd as'<|Zz<|Sq<|Rg<|Dd mv'<|Dd (by exact opr_call rfl rfl Tryz.call163 rfl (mul64_cT x 2862933555777941757 hx (by decide) _))<|Dd mv'<|Dd ex'<|Dd ex'<|Dd as'<|Zz<|Sq<|Rg<|Dd mv'<|Dd mv'<|Dd (by exact opd_shr rfl rfl rfl (by decide) (by decide) (shrN (mixA x) 32 rfl))<|Dd (by exact opd_bits rfl (by simp) rfl rfl (bits_xor_u64_nat (mixA x) (mixA x / 2 ^ 32) (mixA_lt x) (div_lt64 32 (mixA_lt x))))<|Dd as'<|Zz<|Sq<|Rg<|Dd mv'<|Dd (by exact opr_call rfl rfl Tryz.call163 rfl (mul64_cT (mixB x) 3935559000370003845 (mixB_lt x) (by decide) _))<|Dd mv'<|Dd ex'<|Dd ex'<|Dd as'<|Zz<|Sq<|Rg<|Dd mv'<|Dd mv'<|Dd (by exact opd_shr rfl rfl rfl (by decide) (by decide) (shrN (mixC x) 29 rfl))<|Dd (by exact opd_bits rfl (by simp) rfl rfl (bits_xor_u64_nat (mixC x) (mixC x / 2 ^ 29) (mixC_lt x) (div_lt64 29 (mixC_lt x))))<|Dd as'<|Zz<|awp_ret ?_
 refine Rt ?_
 exact ⟨rfl, rfl⟩
/-- The digits of a digest. -/
def hexI (n : Nat) : Int := if n < 10 then 48 + (n : Int) else 87 + (n : Int)
def dCells (i : Nat) : List AV := (List.range 16).map fun j => .pv (.int .u8 (if j < i then hexI j else 0))
theorem dCells_len (i : Nat) : (dCells i).length = 16 := by simp [dCells]
theorem dCells_get {i j : Nat} (h : j < 16) : (dCells i)[j]? = some (.pv (.int .u8 (if j < i then hexI j else 0))) := by
 rw [dCells, List.getElem?_map, List.getElem?_range h]
 rfl
theorem dCells_set {i : Nat} (h : i < 16) : (dCells i).set i (.pv (.int .u8 (hexI i))) = dCells (i + 1) := by
 apply List.ext_getElem?
 intro j
 by_cases hj : j < 16
 ·rw [dCells_get hj]
  by_cases e : i = j
  ·subst e
   rw [List.getElem?_set_self (by rw [dCells_len]; exact h), if_pos (Nat.lt_succ_self _)]
  rw [List.getElem?_set_ne e, dCells_get hj]
  by_cases h1 : j < i
  ·rw [if_pos h1, if_pos (by omega)]
  rw [if_neg h1, if_neg (by omega)]
 rw [List.getElem?_eq_none (by rw [List.length_set, dCells_len]; omega), List.getElem?_eq_none (by rw [dCells_len]; omega)]
theorem dCells_one {i : Nat} (h : i < 16) (x : AV) {y : AV} (hy : y = .pv (.int .u8 (hexI i))) : ((dCells i).set i x).set i y = dCells (i + 1) := by
 rw [List.set_set, hy, dCells_set h]
theorem dCells_clo {H : Heap} {n T i : Nat} : ∀ r ∈ (bx n T (dCells i)).rows, ∀ a ∈ r, Clo H a := by
 intro r hr a ha
 rw [bx, List.mem_singleton] at hr
 subst hr
 obtain ⟨j, _, rfl⟩ := List.mem_map.1 ha
 exact .pv _
theorem dC_clo {H : Heap} {i : Nat} : ∀ a ∈ dCells i, Clo H a := by
 intro a ha
 obtain ⟨j, _, rfl⟩ := List.mem_map.1 ha
 exact .pv _
theorem dC_load : ((dCells 16).drop 0).take 16 = dCells 16 := rfl
theorem digits_c (H : Heap) : ACalls Tryz.prog 106 [] H (fun r H' => r = .agg (dCells 16) ∧ H' = H) := by
 refine ACalls.pure ?_ (by simp) H
 refine Bd Tryz.func106 rfl Tryz.ntmps106<|Sq<|Rg<|Dd (by exact x_alloc (id := 0) rfl zo168 rfl rfl)<|Zz<|Sq<|Rg<|Dd (by exact x_alloc (id := 1) rfl zo168 rfl rfl)<|Zz<|Sq<|Sq<|Rg<|Dd mv'<|Zz<|awp_block ?_
 refine awp_loop (σ := Nat) (fun i => ([(0, .ref 0 0 0 0), (1, .ref 1 0 0 0), (3, iv (i : Int))], [(1, bx 16 168 (dCells i)), (0, bx 16 168 (dCells 0))])) (fun i => i ≤ 16) (fun i => 16 - i) 0 (Nat.zero_le _) ?_ ?_
 ·exact (Ent.wk ⟨⟨_, rfl, rfl⟩, (by (simp; rfl)), ⟨_, rfl, rfl⟩, (by (simp; rfl)), ⟨_, rfl, rfl⟩, (by (simp; done)), trivial⟩ ⟨⟨_, rfl, rfl⟩, (by exact dCells_clo), ⟨_, rfl, rfl⟩, (by exact dCells_clo), trivial⟩ trivial)
 intro i hi
 refine Sq<|Rg<|Dd lss'<|Zz<|Sq ?_
 refine Cn (fun hc1 => ?_) fun hc1 => ?_
 ·have hlt : i < 16 := by have := of_decide_eq_true hc1; omega
  refine awp_skip<|Sq<|awp_block<|Sq<|Rg<|Dd mv'<|Dd as'<|Zz<|Sq<|Rg<|Dd mv'<|Dd mv'<|Dd ad'<|Dd (by exact opd_conv_int rfl Tryz.underlying3 Tryz.underlying5 rfl (by exact wu8 (by omega) (by omega)))<|Dd (by exact opd_index_arr rfl Tryz.underlying168 Tryz.sizeOf5 rfl rfl rfl rfl (by omega) (by exact Int.toNat_natCast _) (by omega) rfl)<|Uu (by exact x_store1 rfl Tryz.sizeOf5 rfl rfl rfl rfl rfl rfl (by rw [dCells_len]; omega) (show (dCells i).set (0 + i * 1) (.pv (.int .u8 (48 + (i : Int)))) = (dCells i).set i (.pv (.int .u8 (48 + (i : Int)))) by rw [Nat.zero_add, Nat.mul_one]) rfl)<|Zz<|Sq<|Rg<|Dd mv'<|Dd ge'<|Zz ?_
  refine Cn (fun hc2 => ?_) fun hc2 => ?_
  ·have h10 : ¬ i < 10 := by have := of_decide_eq_true hc2; omega
   refine Rg<|Dd mv'<|Dd mv'<|Dd ad'<|Dd (by exact opd_sub rfl rfl rfl (by exact w64 (by omega) (by omega)))<|Dd (by exact opd_conv_int rfl Tryz.underlying3 Tryz.underlying5 rfl (by exact wu8 (by omega) (by omega)))<|Dd (by exact opd_index_arr rfl Tryz.underlying168 Tryz.sizeOf5 rfl rfl rfl rfl (by omega) (by exact Int.toNat_natCast _) (by omega) rfl)<|Uu (by exact x_store1 rfl Tryz.sizeOf5 rfl rfl rfl rfl rfl rfl (by rw [List.length_set, dCells_len]; omega) (show ((dCells i).set i (.pv (.int .u8 (48 + (i : Int))))).set (0 + i * 1) (.pv (.int .u8 (97 + (i : Int) - 10))) = dCells (i + 1) by rw [Nat.zero_add, Nat.mul_one]; exact dCells_one hlt _ (by rw [hexI, if_neg (by have := of_decide_eq_true hc2; omega)]; congr 2; omega)) rfl)<|Zz<|Rg<|Dd ad'<|Dd mv'<|Zz ?_
   exact ⟨i + 1, by omega, by omega, (Ent.wk ⟨⟨_, rfl, rfl⟩, (by (simp; rfl)), ⟨_, rfl, rfl⟩, (by (simp; rfl)), ⟨_, rfl, rfl⟩, (by (simp; done)), trivial⟩ ⟨⟨_, rfl, rfl⟩, (by exact dCells_clo), ⟨_, rfl, rfl⟩, (by exact dCells_clo), trivial⟩ trivial)⟩
  have h10 : i < 10 := by have := of_decide_eq_false hc2; omega
  refine awp_skip<|Rg<|Dd ad'<|Dd mv'<|Zz ?_
  refine ⟨i + 1, by omega, by omega, ?_⟩
  have e : (dCells i).set i (.pv (.int .u8 (48 + (i : Int)))) = dCells (i + 1) := by
   rw [← dCells_set hlt, hexI, if_pos h10]
  rw [e]
  exact (Ent.wk ⟨⟨_, rfl, rfl⟩, (by (simp; rfl)), ⟨_, rfl, rfl⟩, (by (simp; rfl)), ⟨_, rfl, rfl⟩, (by (simp; done)), trivial⟩ ⟨⟨_, rfl, rfl⟩, (by exact dCells_clo), ⟨_, rfl, rfl⟩, (by exact dCells_clo), trivial⟩ trivial)
 have hge : i = 16 := by have := of_decide_eq_false hc1; omega
 subst hge
 refine awp_exit<|Sq<|Rg<|Dd (by exact opd_loadn_ref rfl Tryz.isAgg168 Tryz.sizeOf168 rfl rfl rfl rfl dC_load rfl)<|Uu (sa' Tryz.sizeOf168)<|Zz<|awp_ret ?_
 refine aret1 (H' := []) (.inr rfl) rfl (rval_cell rfl Tryz.isAgg168 Tryz.sizeOf168 rfl rfl rfl dC_load rfl) (Fin.wk (.agg dC_clo) trivial trivial) ?_
 exact ⟨rfl, rfl⟩
end Go.Proofs.YtohdipdgnnamlaaGreatDoor
end
section
set_option linter.unusedVariables false
set_option linter.unusedSimpArgs false
set_option maxRecDepth 100000
set_option maxHeartbeats 1000000
namespace Go.Proofs.YtohdipdgnnamlaaGreatDoor
open Go.Abs
/-- Eight bytes as a number. -/
def accN (l : List UInt8) : Nat := l.foldl (fun n b => n * 256 + b.toNat) 0
def pad8 (l : List UInt8) : List UInt8 := l.take 8 ++ List.replicate (8 - l.length) 0
theorem pad8_len (l : List UInt8) : (pad8 l).length = 8 := by
 rw [pad8, List.length_append, List.length_take, List.length_replicate]
 omega
theorem accN_snoc (l : List UInt8) (b : UInt8) : accN (l ++ [b]) = accN l * 256 + b.toNat := by rw [accN, List.foldl_append]; rfl
theorem accN_lt (l : List UInt8) : accN l < 256 ^ l.length := by
 suffices h : ∀ (l : List UInt8) (n : Nat), l.foldl (fun n b => n * 256 + b.toNat) n < (n + 1) * 256 ^ l.length by
  have := h l 0
  rw [Nat.zero_add, Nat.one_mul] at this
  exact this
 intro l
 induction l with
 | nil => intro n; simp
 | cons b r ih =>
  intro n
  have h1 := ih (n * 256 + b.toNat)
  have h2 : b.toNat < 256 := b.toNat_lt
  refine Nat.lt_of_lt_of_le h1 ?_
  rw [List.length_cons, Nat.pow_succ, Nat.mul_comm (256 ^ r.length) 256, ← Nat.mul_assoc]
  exact Nat.mul_le_mul_right _ (by omega)
theorem accN_lt8 {l : List UInt8} (h : l.length ≤ 8) : accN l < 18446744073709551616 := by
 refine Nat.lt_of_lt_of_le (accN_lt l) ?_
 exact Nat.le_trans (Nat.pow_le_pow_right (by decide) h) (by decide)
theorem accN_lt7 {l : List UInt8} (h : l.length ≤ 7) : accN l < 72057594037927936 := by
 refine Nat.lt_of_lt_of_le (accN_lt l) ?_
 exact Nat.le_trans (Nat.pow_le_pow_right (by decide) h) (by decide)
/-- A digest's state behind a text. -/
def digS : Nat → List UInt8 → Nat
 | s, a :: b :: c :: d :: e :: f :: g :: h :: r => digS (mixN (s ^^^ accN [a, b, c, d, e, f, g, h])) r
 | s, l => mixN (s ^^^ accN (pad8 l))
theorem digS_step (s : Nat) {l : List UInt8} (h : 8 ≤ l.length) : digS s l = digS (mixN (s ^^^ accN (pad8 (l.take 8)))) (l.drop 8) := by
 match l, h with
 | a :: b :: c :: d :: e :: f :: g :: h :: r, _ => rfl
theorem digS_last (s : Nat) {l : List UInt8} (h : l.length < 8) : digS s l = mixN (s ^^^ accN (pad8 l)) := by
 match l, h with
 | [], _ => rfl
 | [a], _ => rfl
 | [a, b], _ => rfl
 | [a, b, c], _ => rfl
 | [a, b, c, d], _ => rfl
 | [a, b, c, d, e], _ => rfl
 | [a, b, c, d, e, f], _ => rfl
 | [a, b, c, d, e, f, g], _ => rfl
 | _ :: _ :: _ :: _ :: _ :: _ :: _ :: _ :: r, h => simp only [List.length_cons] at h; omega
def nib (st j : Nat) : Nat := st / 2 ^ (60 - 4 * j) % 16
def hexB (st : Nat) : List UInt8 := (List.range 16).map fun j => UInt8.ofNat (hexI (nib st j)).toNat
def oCells (st i : Nat) : List AV := (List.range 16).map fun j => .pv (.int .u8 (if j < i then hexI (nib st j) else 0))
theorem oCells_len (st i : Nat) : (oCells st i).length = 16 := by simp [oCells]
theorem oCells_get {st i j : Nat} (h : j < 16) : (oCells st i)[j]? = some (.pv (.int .u8 (if j < i then hexI (nib st j) else 0))) := by
 rw [oCells, List.getElem?_map, List.getElem?_range h]
 rfl
theorem oCells_set {st i : Nat} (h : i < 16) : (oCells st i).set i (.pv (.int .u8 (hexI (nib st i)))) = oCells st (i + 1) := by
 apply List.ext_getElem?
 intro j
 by_cases hj : j < 16
 ·rw [oCells_get hj]
  by_cases e : i = j
  ·subst e
   rw [List.getElem?_set_self (by rw [oCells_len]; exact h), if_pos (Nat.lt_succ_self _)]
  rw [List.getElem?_set_ne e, oCells_get hj]
  by_cases h1 : j < i
  ·rw [if_pos h1, if_pos (by omega)]
  rw [if_neg h1, if_neg (by omega)]
 rw [List.getElem?_eq_none (by rw [List.length_set, oCells_len]; omega), List.getElem?_eq_none (by rw [oCells_len]; omega)]
theorem oC_clo {H : Heap} {st i : Nat} : ∀ a ∈ oCells st i, Clo H a := by
 intro a ha
 obtain ⟨j, _, rfl⟩ := List.mem_map.1 ha
 exact .pv _
theorem bC_clo {H : Heap} {l : List UInt8} : ∀ a ∈ bcells l, Clo H a := by
 intro a ha
 obtain ⟨j, _, rfl⟩ := List.mem_map.1 ha
 exact .pv _
theorem bx_clo {H : Heap} {n T : Nat} {l : List AV} (h : ∀ a ∈ l, Clo H a) : ∀ r ∈ (bx n T l).rows, ∀ a ∈ r, Clo H a := by
 intro r hr a ha
 rw [bx, List.mem_singleton] at hr
 subst hr
 exact h a ha
theorem nib_lt (st j : Nat) : nib st j < 16 := Nat.mod_lt _ (by decide)
theorem hexI_bd {n : Nat} (h : n < 16) : 0 ≤ hexI n ∧ hexI n < 256 := by
 unfold hexI
 split <;> omega
theorem oCells_all (st : Nat) : oCells st 16 = bcells (hexB st) := by
 rw [oCells, bcells, hexB, List.map_map]
 refine List.map_congr_left fun j hj => ?_
 have hj' := List.mem_range.1 hj
 have hb := hexI_bd (nib_lt st j)
 simp only [Function.comp]
 rw [if_pos hj', UInt8.toNat_ofNat']
 have h2 : (hexI (nib st j)).toNat % 2 ^ 8 = (hexI (nib st j)).toNat := Nat.mod_eq_of_lt (by omega)
 rw [h2, Int.toNat_of_nonneg hb.1]
/-- A digest's state at the beginning. -/
def dig0 (n : Nat) : Nat := 1181783497276652981 ^^^ n
/-- The digest of a text. -/
def digB (s : ByteArray) : ByteArray := ⟨(hexB (digS (dig0 s.size) s.data.toList)).toArray⟩
theorem dig0_lt {n : Nat} (h : n < 18446744073709551616) : dig0 n < 18446744073709551616 := xor_lt64 (by decide) h
theorem orN {a b : Nat} (ha : a < 72057594037927936) (hb : b < 256) : bits .or .u64 ((a * 256 : Nat) : Int) (b : Int) = ((a * 256 + b : Nat) : Int) := by
 rw [bits_or_u64_nat _ _ (by omega) (by omega)]
 have h := Nat.two_pow_add_eq_or_of_lt (i := 8) (b := b) (by omega) a
 rw [Nat.mul_comm] at h
 rw [show a * 256 = a * 2 ^ 8 from rfl, h]
theorem shl8 {a : Nat} (h : a < 72057594037927936) : IntKind.u64.wrap ((a : Int) * 2 ^ ((8 : Int)).toNat) = ((a * 256 : Nat) : Int) := by
 show IntKind.u64.wrap ((a : Int) * 256) = _
 rw [IntKind.wrap_u64]
 omega
theorem w_u64 {n : Nat} (h : n < 18446744073709551616) : IntKind.u64.wrap (n : Int) = (n : Int) := by
 rw [IntKind.wrap_u64]
 omega
theorem sum1_c (s : ByteArray) (st : Nat) (hst : st < 18446744073709551616) : ACalls Tryz.prog 104 [sv s, .ref 903 0 0 0] [(903, bx 1 164 [uv st])] (fun r H' => r = .tup [] ∧ H' = [(903, bx 1 164 [uv (mixN (st ^^^ accN (pad8 s.data.toList)))])]) := by
 have hp : (List.replicate 8 (AV.pv (.int .u8 0))) = bcells (List.replicate 8 0) := by rw [bcells, List.map_replicate]; rfl
 have hm : min s.size 8 ≤ 8 := by omega
 have hsl : s.data.toList.length = s.size := by simp
 have hcell : bcells (s.data.toList.take (min s.size 8)) ++ (List.replicate 8 (AV.pv (.int .u8 0))).drop (min s.size 8) = bcells (pad8 s.data.toList) := by
  rw [hp, bcells, bcells, ← List.map_drop, ← List.map_append, List.drop_replicate, bcells, pad8, hsl]
  congr 2
  ·by_cases h : s.size ≤ 8
   ·rw [Nat.min_eq_left h, List.take_of_length_le (by omega), List.take_of_length_le (by omega)]
   rw [Nat.min_eq_right (by omega)]
  congr 1
  omega
 refine Bd Tryz.func104 rfl Tryz.ntmps104<|Sq<|Rg<|Dd (by exact x_alloc (id := 3) rfl zo165 rfl rfl)<|Zz<|Sq<|Rg ?_
 refine al_slice_arr (id := 3) rfl rfl rfl rfl Tryz.underlying165 Tryz.sizeOf5 rfl rfl rfl ?_
 refine alx_move rfl rfl rfl (by decide) rfl rfl ?_
 refine alx_copy_str rfl rfl rfl rfl Tryz.underlying122 Tryz.sizeOf5 rfl (by decide) rfl rfl ?_
 refine Zz<|Sq<|Rg<|Dd as'<|Zz<|Sq<|Sq<|Rg<|Dd mv'<|Zz<|awp_block ?_
 refine awp_loop (σ := Nat) (fun i => ([(0, sv s), (1, .ref 903 0 0 0), (3, .ref 3 0 0 0), (4, uv (accN ((pad8 s.data.toList).take i))), (9, iv (i : Int))], [(3, bx 8 165 (bcells (pad8 s.data.toList))), (903, bx 1 164 [uv st])])) (fun i => i ≤ 8) (fun i => 8 - i) 0 (Nat.zero_le _) ?_ ?_
 ·rw [← hcell]
  refine Ent.wk ⟨⟨_, rfl, rfl⟩, by simp, ⟨_, rfl, rfl⟩, by (simp; rfl), ⟨_, rfl, rfl⟩, by (simp; rfl), ⟨_, rfl, rfl⟩, by simp, ⟨_, rfl, rfl⟩, by simp, trivial⟩ ⟨⟨_, rfl, rfl⟩, ?_, ⟨_, rfl, rfl⟩, by simp, trivial⟩ ⟨rfl, trivial⟩
  rw [hcell]
  exact bx_clo bC_clo
 intro i hi
 have hpl := pad8_len s.data.toList
 have hti : ((pad8 s.data.toList).take i).length ≤ 8 := by rw [List.length_take]; omega
 refine Sq<|Rg<|Dd lss'<|Zz<|Sq ?_
 refine Cn (fun hc1 => ?_) fun hc1 => ?_
 ·have hlt : i < 8 := by have := of_decide_eq_true hc1; omega
  obtain ⟨b, hb⟩ : ∃ b, (pad8 s.data.toList)[i]? = some b := ⟨_, List.getElem?_eq_getElem (by omega)⟩
  have hb2 : (bcells (pad8 s.data.toList))[i]? = some (.pv (.int .u8 (b.toNat : Int))) := by rw [bcells, List.getElem?_map, hb]; rfl
  have ht7 : ((pad8 s.data.toList).take i).length ≤ 7 := by rw [List.length_take]; omega
  have ha := accN_lt7 ht7
  have hb3 := b.toNat_lt
  refine awp_skip<|Sq<|awp_block<|Sq<|Rg<|Dd mv'<|Dd as'<|Zz<|Rg<|Dd mv'<|Dd (by exact opd_shl rfl rfl rfl (by decide) (by decide) (shl8 ha))<|Dd mv'<|Dd (by exact opd_index_arr rfl Tryz.underlying165 Tryz.sizeOf5 rfl rfl rfl rfl (by omega) (by exact Int.toNat_natCast _) (by omega) rfl)<|Dd (by exact opd_load1_ref rfl Tryz.isAgg5 rfl rfl rfl rfl (by rw [Nat.zero_add, Nat.mul_one]; exact hb2))<|Dd (by exact opd_conv_int rfl Tryz.underlying5 Tryz.underlying164 rfl (w_u64 (by omega)))<|Dd (by exact opd_bits rfl (by simp) rfl rfl (orN ha (by omega)))<|Dd as'<|Zz<|Rg<|Dd ad'<|Dd mv'<|Zz ?_
  refine ⟨i + 1, by omega, by omega, ?_⟩
  have e : accN ((pad8 s.data.toList).take (i + 1)) = accN ((pad8 s.data.toList).take i) * 256 + b.toNat := by rw [List.take_add_one, hb, Option.toList_some, accN_snoc]
  rw [e]
  exact (Ent.wk ⟨⟨_, rfl, rfl⟩, (by (simp; done)), ⟨_, rfl, rfl⟩, (by (simp; rfl)), ⟨_, rfl, rfl⟩, (by (simp; rfl)), ⟨_, rfl, rfl⟩, (by (simp; done)), ⟨_, rfl, rfl⟩, (by (simp; done)), trivial⟩ ⟨⟨_, rfl, rfl⟩, (by exact bx_clo bC_clo), ⟨_, rfl, rfl⟩, (by (simp; done)), trivial⟩ ⟨rfl, trivial⟩)
 have hge : i = 8 := by have := of_decide_eq_false hc1; omega
 subst hge
 have e : (pad8 s.data.toList).take 8 = pad8 s.data.toList := List.take_of_length_le (by omega)
 rw [e]
 refine awp_exit<|Rg<|Dd (l1' Tryz.isAgg164)<|Dd mv'<|Dd (by exact opd_bits rfl (by simp) rfl rfl (bits_xor_u64_nat st _ hst (accN_lt8 (Nat.le_of_eq hpl))))<|Dd (by exact opr_call rfl rfl Tryz.call105 rfl (mix_c _ (xor_lt64 hst (accN_lt8 (Nat.le_of_eq hpl))) _))<|Uu (sa' Tryz.sizeOf164)<|Zz ?_
 exact aret0 (H' := [(903, bx 1 164 [uv (mixN (st ^^^ accN (pad8 s.data.toList)))])]) (.inl rfl) rfl (Fin.wk (by simp) ⟨⟨_, rfl, rfl⟩, by simp, trivial⟩ ⟨rfl, trivial⟩) ⟨rfl, rfl⟩
theorem exd_list (s : ByteArray) (i j : Nat) : (s.extract i j).data.toList = (s.data.toList.drop i).take (j - i) := by
 rw [ByteArray.data_extract, Array.toList_extract, List.extract_eq_take_drop]
theorem dAt (st i : Nat) : (dCells 16)[0 + nib st i * 1]? = some (.pv (.int .u8 (hexI (nib st i)))) := by
 rw [Nat.zero_add, Nat.mul_one, dCells_get (nib_lt st i), if_pos (nib_lt st i)]
theorem andN {a : Nat} (ha : a < 18446744073709551616) : bits .and .u64 (a : Int) 15 = ((a % 16 : Nat) : Int) := by
 have h := bits_and_u64_nat a 15 ha (by decide)
 rw [Nat.and_two_pow_sub_one_eq_mod a 4] at h
 exact h
theorem sum_c (s : ByteArray) (H : Heap) (hs : s.size < 4611686018427387904) : ACalls Tryz.prog 64 [sv s] H (fun r H' => r = sv (digB s) ∧ H' = H) := by
 refine ACalls.pure ?_ (by simp) H
 have hd0 : dig0 s.size < 18446744073709551616 := dig0_lt (by omega)
 have hsl : s.data.toList.length = s.size := by simp
 refine Bd Tryz.func64 rfl Tryz.ntmps64<|Sq<|Rg<|Dd as'<|Zz<|Sq<|Rg<|Dd mv'<|Dd (ls' Tryz.underlying9)<|Dd (by exact opd_conv_int rfl Tryz.underlying3 Tryz.underlying164 rfl (w_u64 (by omega)))<|Dd (by exact opd_bits rfl (by simp) rfl rfl (bits_xor_u64_nat 1181783497276652981 s.size (by decide) (by omega)))<|Dd (by exact x_alloc (id := 903) rfl zo164 rfl rfl)<|Uu (sa' Tryz.sizeOf164)<|Zz<|Sq<|Rg<|Dd (by exact opd_makeFunc rfl rfl)<|Dd as'<|Zz<|Sq<|awp_block ?_
 refine awp_loop2 (fun (x : ByteArray) (st : Nat) => ([(0, sv x), (3, .ref 903 0 0 0), (4, .clo 104 [.ref 903 0 0 0])], [(903, bx 1 164 [uv st])])) (fun x st => st < 18446744073709551616 ∧ x.size ≤ s.size ∧ digS st x.data.toList = digS (dig0 s.size) s.data.toList) (fun x st => x.size) s (dig0 s.size) ⟨hd0, Nat.le_refl _, rfl⟩ ?_ ?_
 ·exact Wk
 rintro x st ⟨hst, hx, hD⟩
 have hxl : x.data.toList.length = x.size := by simp
 refine Sq<|Sq<|Rg<|Dd mv'<|Dd (ls' Tryz.underlying9)<|Dd ge'<|Zz ?_
 refine Cn (fun hc1 => ?_) fun hc1 => ?_
 ·have h8 : 8 ≤ x.size := by have := of_decide_eq_true hc1; omega
  refine awp_skip<|Sq<|awp_block<|Rg<|Dd mv'<|Dd mv'<|Dd (by exact opd_slice_str (l := 0) (h := 8) rfl Tryz.underlying9 rfl rfl rfl (by omega) (by omega) rfl)<|Dd (by exact opr_callV rfl rfl rfl (CallsV.clo Tryz.call104 (sum1_c (x.extract 0 8) st hst)))<|Zz<|Rg<|Dd mv'<|Dd (by exact opd_slice_str (l := 8) (h := x.size) rfl Tryz.underlying9 rfl rfl rfl (by omega) (by omega) rfl)<|Dd as'<|Zz ?_
  refine ⟨x.extract 8 x.size, mixN (st ^^^ accN (pad8 (x.extract 0 8).data.toList)), ⟨mixN_lt _, by rw [ByteArray.size_extract]; omega, ?_⟩, by rw [ByteArray.size_extract]; omega, Wk⟩
  rw [← hD, digS_step st (by omega : 8 ≤ x.data.toList.length), exd_list, exd_list, List.drop_zero, List.take_of_length_le (l := x.data.toList.drop 8) (by rw [List.length_drop]; omega)]
 have h8 : x.size < 8 := by have := of_decide_eq_false hc1; omega
 have hL := digS_last st (by omega : x.data.toList.length < 8)
 obtain ⟨S, hS⟩ : ∃ S, S = mixN (st ^^^ accN (pad8 x.data.toList)) := ⟨_, rfl⟩
 have hSl : S < 18446744073709551616 := by rw [hS]; exact mixN_lt _
 have hres : digB s = ⟨(hexB S).toArray⟩ := by rw [digB, ← hD, hL, hS]
 rw [hres]
 refine awp_exit<|Sq<|Rg<|Dd mv'<|Dd mv'<|Dd (by exact opr_callV rfl rfl rfl (CallsV.clo Tryz.call104 (sum1_c x st hst)))<|Zz<|Sq<|Rg<|Dd (by exact opr_call rfl rfl Tryz.call106 rfl (digits_c _))<|Dd (by exact x_alloc (id := 5) rfl zo168 rfl rfl)<|Uu (sa' Tryz.sizeOf168)<|Zz<|Sq<|Rg<|Dd (by exact x_alloc (id := 6) rfl zo168 rfl rfl)<|Zz<|Sq<|Sq<|Rg<|Dd mv'<|Zz<|awp_block ?_
 rw [← hS]
 refine awp_loop (σ := Nat) (fun i => ([(3, .ref 903 0 0 0), (5, .ref 5 0 0 0), (6, .ref 6 0 0 0), (26, iv (i : Int))], [(6, bx 16 168 (oCells S i)), (5, bx 16 168 (dCells 16)), (903, bx 1 164 [uv S])])) (fun i => i ≤ 16) (fun i => 16 - i) 0 (Nat.zero_le _) ?_ ?_
 ·exact (Ent.wk ⟨⟨_, rfl, rfl⟩, (by (simp; rfl)), ⟨_, rfl, rfl⟩, (by (simp; rfl)), ⟨_, rfl, rfl⟩, (by (simp; rfl)), ⟨_, rfl, rfl⟩, (by (simp; done)), trivial⟩ ⟨⟨_, rfl, rfl⟩, (by exact bx_clo oC_clo), ⟨_, rfl, rfl⟩, (by exact bx_clo dC_clo), ⟨_, rfl, rfl⟩, (by (simp; done)), trivial⟩ trivial)
 intro i hi
 refine Sq<|Rg<|Dd lss'<|Zz<|Sq ?_
 refine Cn (fun hc2 => ?_) fun hc2 => ?_
 ·have hlt : i < 16 := by have := of_decide_eq_true hc2; omega
  refine awp_skip<|Sq<|awp_block<|Sq<|Rg<|Dd mv'<|Dd as'<|Zz<|Rg<|Dd mv'<|Dd (l1' Tryz.isAgg164)<|Dd mv'<|Dd (by exact opd_mul rfl rfl rfl (by exact w64 (by omega) (by omega)))<|Dd (by exact opd_sub rfl rfl rfl (by exact w64 (by omega) (by omega)))<|Dd (by exact opd_shr rfl rfl rfl (by omega) (by simp [IntKind.bits]; omega) (shrN S (60 - 4 * i) (by omega)))<|Dd (by exact opd_bits rfl (by simp) rfl rfl (andN (div_lt64 _ hSl)))<|Dd (by exact opd_index_arr rfl Tryz.underlying168 Tryz.sizeOf5 rfl rfl rfl rfl (by omega) (Int.toNat_natCast _) (nib_lt S i) rfl)<|Dd (by exact opd_load1_ref rfl Tryz.isAgg5 rfl rfl rfl rfl (dAt S i))<|Dd (by exact opd_index_arr rfl Tryz.underlying168 Tryz.sizeOf5 rfl rfl rfl rfl (by omega) (by exact Int.toNat_natCast _) (by omega) rfl)<|Uu (by exact x_store1 rfl Tryz.sizeOf5 rfl rfl rfl rfl rfl rfl (by rw [oCells_len]; omega) (show (oCells S i).set (0 + i * 1) (.pv (.int .u8 (hexI (nib S i)))) = oCells S (i + 1) by rw [Nat.zero_add, Nat.mul_one]; exact oCells_set hlt) rfl) ?_
  refine Zz<|Rg<|Dd ad'<|Dd mv'<|Zz ?_
  exact ⟨i + 1, by omega, by omega, (Ent.wk ⟨⟨_, rfl, rfl⟩, (by (simp; rfl)), ⟨_, rfl, rfl⟩, (by (simp; rfl)), ⟨_, rfl, rfl⟩, (by (simp; rfl)), ⟨_, rfl, rfl⟩, (by (simp; done)), trivial⟩ ⟨⟨_, rfl, rfl⟩, (by exact bx_clo oC_clo), ⟨_, rfl, rfl⟩, (by exact bx_clo dC_clo), ⟨_, rfl, rfl⟩, (by (simp; done)), trivial⟩ trivial)⟩
 have hge : i = 16 := by have := of_decide_eq_false hc2; omega
 subst hge
 refine awp_exit<|Sq<|Rg ?_
 refine al_slice_arr (id := 6) rfl rfl rfl rfl Tryz.underlying168 Tryz.sizeOf5 rfl rfl rfl ?_
 refine alx_str (bs := hexB S) rfl rfl rfl rfl Tryz.underlying122 Tryz.underlying5 Tryz.underlying9 (by rw [← oCells_all]; rfl) (by decide) rfl ?_
 refine Dd as'<|Zz<|awp_ret ?_
 refine Rt ?_
 exact ⟨rfl, rfl⟩
end Go.Proofs.YtohdipdgnnamlaaGreatDoor
end
section
set_option linter.unusedVariables false
set_option linter.unusedSimpArgs false
set_option maxRecDepth 100000
set_option maxHeartbeats 1000000
namespace Go.Proofs.YtohdipdgnnamlaaGreatDoor
open Go.Abs
/-- A text with its length ahead of it. -/
def pieceB (s : ByteArray) : ByteArray := itoaB (s.size : Int) ++ ⟨#[58]⟩ ++ s
def joinedL (l : List ByteArray) : List UInt8 := l.flatMap fun s => (pieceB s).data.toList
def digL (l : List ByteArray) : ByteArray := digB ⟨(joinedL l).toArray⟩
theorem itoaB_size {n : Int} (h0 : -9223372036854775808 ≤ n) (h1 : n ≤ 9223372036854775807) : (itoaB n).size ≤ 21 := by
 have := Lib.itoa_length_le n h0 h1
 show (Lib.itoa n).toArray.size ≤ 21
 simpa using this
theorem pieceB_size (s : ByteArray) : (pieceB s).size = (itoaB (s.size : Int)).size + 1 + s.size := by
 rw [pieceB, ByteArray.size_append, ByteArray.size_append]
 rfl
theorem joinedL_snoc (l : List ByteArray) (s : ByteArray) : joinedL (l ++ [s]) = joinedL l ++ (pieceB s).data.toList := by
 rw [joinedL, joinedL, List.flatMap_append, List.flatMap_cons, List.flatMap_nil, List.append_nil]
theorem joinedL_le : ∀ (l : List ByteArray) (k : Nat), (joinedL (l.take k)).length ≤ (joinedL l).length := fun l k => by
 have h : joinedL l = joinedL (l.take k) ++ joinedL (l.drop k) := by rw [joinedL, joinedL, joinedL, ← List.flatMap_append, List.take_append_drop]
 rw [h, List.length_append]
 omega
theorem take_next {α : Type} {l : List α} {k : Nat} {a : α} (h : l[k]? = some a) : l.take (k + 1) = l.take k ++ [a] := by rw [List.take_add_one, h, Option.toList_some]
theorem size_toList (s : ByteArray) : s.data.toList.length = s.size := by simp
theorem joinedL_len : ∀ l : List ByteArray, l.length ≤ (joinedL l).length
 | [] => Nat.le_refl _
 | s :: r => by
  have ih := joinedL_len r
  have h : joinedL (s :: r) = (pieceB s).data.toList ++ joinedL r := by rw [joinedL, List.flatMap_cons]; rfl
  rw [h, List.length_append, List.length_cons, size_toList, pieceB_size]
  omega
theorem list_c (l : List ByteArray) (H : Heap) (hl : (joinedL l).length < 35184372088832) : ACalls Tryz.prog 37 [.pv (slStrs l)] H (fun r H' => r = sv (digL l) ∧ H' = H) := by
 refine ACalls.pure ?_ (by simp) H
 have hml : (l.map encStr).length = l.length := List.length_map _
 have hll := joinedL_len l
 refine Bd Tryz.func37 rfl Tryz.ntmps37<|Sq<|Rg<|Dd as'<|Zz<|Sq<|Rg<|Dd (by exact x_alloc (id := 2001) rfl zoN124 rfl rfl)<|Zz<|Sq<|Sq ?_
 refine AWp.ent (E' := [(0, .pv (slStrs l)), (3, .ref 2001 0 0 0)]) (H' := bld 0 [] false) (Ent.bld0 ⟨⟨_, rfl, .same (by simp)⟩, ⟨_, rfl, .same (by simp; rfl)⟩, trivial⟩) ?_
 skip
 refine Rg<|Dd mv'<|Dd (ll' Tryz.underlying27)<|Dd mv'<|Zz<|awp_block ?_
 refine awp_loop3 (fun (k g : Nat) (u : Bool) => ([(3, .ref 2001 0 0 0), (6, .pv (slStrs l)), (7, iv ((l.map encStr).length : Int)), (8, iv (k : Int))], bld g (joinedL (l.take k)) u)) (fun k g u => k ≤ l.length) (fun k g u => l.length - k) 0 0 false (Nat.zero_le _) ?_ ?_
 ·exact (Ent.wk ⟨⟨_, rfl, rfl⟩, (by (simp; rfl)), ⟨_, rfl, rfl⟩, (by (simp; done)), ⟨_, rfl, rfl⟩, (by (simp; done)), ⟨_, rfl, rfl⟩, (by (simp; done)), trivial⟩ ⟨⟨_, rfl, rfl⟩, (by exact bOb_cloT rfl rfl), ⟨_, rfl, rfl⟩, (by exact brows_clo _ _), trivial⟩ trivial)
 intro k g u hk
 have hle := joinedL_le l k
 refine Sq<|Rg<|Dd lss'<|Zz<|Sq ?_
 refine Cn (fun hc1 => ?_) fun hc1 => ?_
 ·have hlt : k < l.length := by have := of_decide_eq_true hc1; omega
  obtain ⟨s, hs⟩ := get_of_lt hlt
  have hi := map_get (f := encStr) hs
  have hle2 := joinedL_le l (k + 1)
  rw [take_next hs, joinedL_snoc, List.length_append, size_toList, pieceB_size] at hle2
  have hsz : s.size < 35184372088832 := by omega
  refine awp_skip<|Sq<|awp_block<|Sq<|Rg<|Dd (xp' so27)<|Dd (lp' Tryz.isAgg9)<|Dd as'<|Zz<|Rg<|Dd mv'<|Dd (ls' Tryz.underlying9)<|Dd (by exact opr_call rfl rfl Tryz.call62 rfl (itoa_cT (s.size : Int) (by omega) (by omega) _))<|Dd (by exact opd_sadd rfl rfl rfl (by have : (⟨#[58]⟩ : ByteArray).size = 1 := rfl; omega) rfl)<|Dd mv'<|Dd (by exact opd_sadd rfl rfl rfl (by rw [ByteArray.size_append]; have : (⟨#[58]⟩ : ByteArray).size = 1 := rfl; omega) rfl)<|Dd (by exact opr_call rfl rfl Tryz.call63 rfl (writeString_c g (joinedL (l.take k)) u (pieceB s) (by rw [pieceB_size]; omega)))<|Zz<|Rg<|Dd ad'<|Dd mv'<|Zz ?_
  refine ⟨k + 1, g + 1, true, by omega, by omega, ?_⟩
  rw [take_next hs, joinedL_snoc]
  exact (Ent.wk ⟨⟨_, rfl, rfl⟩, (by (simp; rfl)), ⟨_, rfl, rfl⟩, (by (simp; done)), ⟨_, rfl, rfl⟩, (by (simp; done)), ⟨_, rfl, rfl⟩, (by (simp; done)), trivial⟩ ⟨⟨_, rfl, rfl⟩, (by exact bOb_cloT rfl rfl), ⟨_, rfl, rfl⟩, (by exact brows_clo _ _), trivial⟩ trivial)
 have hge : k = l.length := by have := of_decide_eq_false hc1; omega
 subst hge
 rw [List.take_length]
 refine awp_exit<|Sq<|Rg<|Dd (by exact opr_call rfl rfl Tryz.call65 rfl (str_c g (joinedL l) u (by omega)))<|Dd (by exact opr_call rfl rfl Tryz.call64 rfl (sum_c ⟨(joinedL l).toArray⟩ _ (by show (joinedL l).toArray.size < _; rw [List.size_toArray]; omega)))<|Dd as'<|Zz<|awp_ret ?_
 refine Rt ?_
 exact ⟨rfl, rfl⟩
/-- What an object's digest is made of. -/
def objWords (o : GObj) : List ByteArray := [gWord o.kind, o.id, itoaB o.x, itoaB o.y, itoaB (o.refs.length : Int)] ++ o.refs ++ o.tags.flatMap fun t => [t.key, t.val]
def digO (o : GObj) : ByteArray := if gObj o then digL (objWords o) else sNil
theorem gObj_kind2 {o : GObj} (h : gObj o = true) : gKind o = true := by
 rw [gObj, Bool.and_eq_true, Bool.and_eq_true] at h
 exact h.2.2
theorem gObj_xy {o : GObj} (h : gObj o = true) : (0 ≤ o.x ∧ o.x < 1048576) ∧ 0 ≤ o.y ∧ o.y < 1048576 := by
 have h := gObj_kind2 h
 unfold gKind at h
 split at h
 ·rw [Bool.and_eq_true, gOn] at h
  simp only [Bool.and_eq_true, decide_eq_true_eq] at h
  omega
 split at h <;> simp only [Bool.and_eq_true, decide_eq_true_eq] at h <;> omega
theorem flat_snoc {o : GObj} {k : Nat} {t : GTag} (h : o.tags[k]? = some t) : ((o.tags.take (k + 1)).flatMap fun t => [t.key, t.val]) = ((o.tags.take k).flatMap fun t => [t.key, t.val]) ++ [t.key, t.val] := by
 rw [take_next h, List.flatMap_append, List.flatMap_cons, List.flatMap_nil, List.append_nil]
theorem flat_len (l : List GTag) : (l.flatMap fun t => [t.key, t.val]).length = 2 * l.length := by
 induction l with
 | nil => rfl
 | cons a l ih => rw [List.flatMap_cons, List.length_append, ih, List.length_cons, List.length_cons, List.length_cons, List.length_nil]; omega
def dWords (o : GObj) (k : Nat) : List ByteArray := [gWord o.kind, o.id, itoaB o.x, itoaB o.y, itoaB (o.refs.length : Int)] ++ o.refs ++ (o.tags.take k).flatMap fun t => [t.key, t.val]
theorem dWords_len (o : GObj) {k : Nat} (h : k ≤ o.tags.length) : (dWords o k).length = 5 + o.refs.length + 2 * k := by
 rw [dWords, List.length_append, List.length_append, flat_len, List.length_take, Nat.min_eq_left h]
 rfl
theorem strRows_enc2 (l : List ByteArray) : (l.map encStr).map (·.map AV.pv) = strRows l := by rw [strRows, List.map_map]; rfl
theorem strRows_len (l : List ByteArray) : (strRows l).length = l.length := List.length_map _
theorem strRows_clo (H : Heap) (l : List ByteArray) : ∀ r ∈ strRows l, ∀ a ∈ r, Clo H a := by
 intro r hr a ha
 obtain ⟨s, _, rfl⟩ := List.mem_map.1 hr
 rw [List.mem_singleton] at ha
 subst ha
 exact .pv _
theorem strRows_snoc2 {o : GObj} {k : Nat} {t : GTag} (h : ((o.tags.take (k + 1)).flatMap fun t => [t.key, t.val]) = ((o.tags.take k).flatMap fun t => [t.key, t.val]) ++ [t.key, t.val]) : strRows (dWords o k) ++ [[PV.str t.key], [PV.str t.val]].map (·.map AV.pv) = strRows (dWords o (k + 1)) := by
 rw [dWords, dWords, h, ← List.append_assoc, strRows, strRows, List.map_append (l₂ := [t.key, t.val])]
 rfl
theorem objDigest_c (o : GObj) (H : Heap) (ho : okO o) (hr : o.refs.length < 1099511627776) (ht : o.tags.length < 1099511627776) (hj : gObj o = true → (joinedL (objWords o)).length < 35184372088832) :
  ACalls Tryz.prog 36 [av (encObj o)] H (fun r H' => r = sv (digO o) ∧ H' = H) := by
 refine ACalls.pure ?_ (by simp) H
 have hmr : (o.refs.map encStr).length = o.refs.length := List.length_map _
 have hmt : (o.tags.map encTag).length = o.tags.length := List.length_map _
 refine Bd Tryz.func36 rfl Tryz.ntmps36<|Sq<|Rg<|Dd (by exact opd_box (id := 1) rfl rfl rfl rfl rfl)<|Dd as'<|Zz<|Sq<|Sq<|Rg<|Dd (by exact opd_loadn_ref rfl Tryz.isAgg49 Tryz.sizeOf49 rfl rfl rfl rfl (by simp only [Zl, encTag, encObj, encStr]; rfl) rfl)<|Dd (by exact opr_call rfl rfl Tryz.call48 rfl (objValid_c o _ ho))<|Dd no'<|Zz ?_
 refine Cn (fun hc1 => ?_) fun hc1 => ?_
 ·have hg : gObj o = false := by have h := hc1; rwa [Bool.not_eq_true'] at h
  refine Sq<|Rg<|Dd as'<|Zz<|awp_ret ?_
  refine Rt ?_
  exact ⟨by rw [digO, hg]; rfl, rfl⟩
 have hg : gObj o = true := by have h := hc1; rwa [Bool.not_eq_false'] at h
 obtain ⟨hx, hy⟩ := gObj_xy hg
 refine awp_skip<|Sq ?_
 refine awp_drawc follows ?_
 refine Cr [1] (fun _ h => fh fo49_1 h)<|Cr [1] (fun _ h => lh Tryz.isAgg3 h)<|Cr [] (fun H1 hH => by exact opr_call rfl rfl Tryz.call61 rfl (word_c o.kind _))<|Cr [1] (fun _ h => fh fo49_0 h)<|Cr [1] (fun _ h => lh Tryz.isAgg9 h)<|Cr [1] (fun _ h => fh fo49_2 h)<|Cr [1] (fun _ h => fh fo46_0 h)<|Cr [1] (fun _ h => lh Tryz.isAgg3 h)<|Cr [] (fun H1 hH => by exact opr_call rfl rfl Tryz.call62 rfl (itoa_cT o.x (by omega) (by omega) _))<|Cr [1] (fun _ h => fh fo49_2 h)<|Cr [1] (fun _ h => fh fo46_1 h)<|Cr [1] (fun _ h => lh Tryz.isAgg3 h)<|Cr [] (fun H1 hH => by exact opr_call rfl rfl Tryz.call62 rfl (itoa_cT o.y (by omega) (by omega) _))<|Cr [1] (fun _ h => fh fo49_3 h)<|Cr [1] (fun _ h => lh Tryz.isAgg27 h)<|Cr [] (fun _ _ => (ll' Tryz.underlying27))<|Cr [] (fun H1 hH => by exact opr_call rfl rfl Tryz.call62 rfl (itoa_cT ((o.refs.map encStr).length : Int) (by omega) (by omega) _))<|Cp [26] (fun H1 hH => by exact x_buildSlice_own (id := 26) rfl so27 rfl rfl rfl rfl (by simp) ((hH _ rfl).trans rfl)) ?_
 refine Cr [26] (fun _ _ => as') ?_
 refine dc_nil ⟨by kernel_rfl, ?_⟩
 refine Sq<|Rg<|Dd mv'<|Dd (fr' fo49_3)<|Dd (l1' Tryz.isAgg27)<|Dd (by exact x_append rfl so27 ei9 rfl rfl rfl rfl rfl rfl rfl (by simp [encStr]) rfl (by omega) rfl rfl)<|Dd as'<|Zz<|Sq<|Sq<|Rg<|Dd (fr' fo49_4)<|Dd (l1' Tryz.isAgg47)<|Dd (ll' Tryz.underlying47)<|Dd mv'<|Zz<|awp_block ?_
 have e0 : [[sv (gWord o.kind)], [sv o.id], [sv (itoaB o.x)], [sv (itoaB o.y)], [sv (itoaB ((o.refs.map encStr).length : Int))]] ++ (o.refs.map encStr).map (·.map AV.pv) = strRows (dWords o 0) := by
  rw [hmr, strRows_enc2, dWords, List.take_zero, List.flatMap_nil, List.append_nil, strRows, strRows, List.map_append]
  rfl
 refine awp_loop (σ := Nat) (fun k => ([(1, .ref 1 0 0 0), (3, .osl 26 (k + 1) 0 (dWords o k).length), (32, .pv (slTags o.tags)), (33, iv ((o.tags.map encTag).length : Int)), (34, iv (k : Int))], [(26, ⟨k + 1, 1, 9, strRows (dWords o k)⟩), (1, bx 6 49 ((encObj o).map .pv))])) (fun k => k ≤ o.tags.length) (fun k => o.tags.length - k) 0 (Nat.zero_le _) ?_ ?_
 ·rw [← e0]
  refine Ent.wk ⟨⟨_, rfl, rfl⟩, by (simp; rfl), ⟨_, rfl, ?_⟩, by (simp; rfl), ⟨_, rfl, rfl⟩, by simp, ⟨_, rfl, rfl⟩, by simp, ⟨_, rfl, rfl⟩, by simp, trivial⟩ ⟨⟨_, rfl, rfl⟩, ?_, ⟨_, rfl, rfl⟩, by simp, trivial⟩ trivial
  ·rw [dWords_len o (Nat.zero_le _), hmr]
   rfl
  rw [e0]
  exact strRows_clo _ _
 intro k hk
 have hdl := dWords_len o hk
 refine Sq<|Rg<|Dd lss'<|Zz<|Sq ?_
 refine Cn (fun hc2 => ?_) fun hc2 => ?_
 ·have hlt : k < o.tags.length := by have := of_decide_eq_true hc2; omega
  obtain ⟨t, htk⟩ := get_of_lt hlt
  have hi := map_get (f := encTag) htk
  have hdl2 := dWords_len o (k := k + 1) hlt
  refine awp_skip<|Sq<|awp_block<|Sq<|Rg<|Dd (xp' so47)<|Dd (by exact opd_loadn_pad rfl Tryz.isAgg95 Tryz.sizeOf95 rfl (by omega) (by simp only [Zl, encTag, encObj, encStr]; rfl) rfl)<|Dd (by exact x_alloc (id := 5) rfl zo95 rfl rfl)<|Uu (sa' Tryz.sizeOf95)<|Zz<|Rg<|Dd mv'<|Dd (fr' fo95_0)<|Dd (l1' Tryz.isAgg9)<|Dd (fr' fo95_1)<|Dd (l1' Tryz.isAgg9)<|Dd (by exact x_buildSlice [[.str t.key], [.str t.val]] rfl so27 rfl rfl rfl rfl rfl (by simp))<|Dd (by exact x_append (ps := [[.str t.key], [.str t.val]]) rfl so27 ei9 rfl rfl rfl rfl rfl (strRows_len _) rfl (by simp) (m := 2) rfl (by omega) (show (dWords o k).length + 2 = (dWords o (k + 1)).length by omega) (strRows_snoc2 (flat_snoc htk)))<|Dd as'<|Zz<|Rg<|Dd ad'<|Dd mv'<|Zz ?_
  exact ⟨k + 1, by omega, by omega, (Ent.wk ⟨⟨_, rfl, rfl⟩, (by (simp; rfl)), ⟨_, rfl, rfl⟩, (by (simp; rfl)), ⟨_, rfl, rfl⟩, (by (simp; done)), ⟨_, rfl, rfl⟩, (by (simp; done)), ⟨_, rfl, rfl⟩, (by (simp; done)), trivial⟩ ⟨⟨_, rfl, rfl⟩, (by exact strRows_clo _ _), ⟨_, rfl, rfl⟩, (by (simp; done)), trivial⟩ trivial)⟩
 have hge : k = o.tags.length := by have := of_decide_eq_false hc2; omega
 subst hge
 have hw : dWords o o.tags.length = objWords o := by rw [dWords, List.take_length]; rfl
 rw [hw]
 refine awp_exit<|Sq ?_
 refine AWp.ent (Ent.fz (id := 26) (E' := [(3, .pv (slStrs (objWords o)))]) (H' := []) ((objWords o).map encStr) rfl (strRows_enc2 _).symm (by
  intro p hp
  simp only [List.mem_singleton] at hp
  subst hp
  exact ⟨_, rfl, .osl (by rw [Nat.zero_add, List.drop_zero, List.take_of_length_le (by rw [List.length_map]; exact Nat.le_refl _)])⟩) rfl trivial trivial) ?_
 skip
 refine Rg<|Dd mv'<|Dd (by exact opr_call rfl rfl Tryz.call37 rfl (list_c (objWords o) _ (hj hg)))<|Dd as'<|Zz<|awp_ret ?_
 refine Rt ?_
 exact ⟨by rw [digO, if_pos hg], rfl⟩
end Go.Proofs.YtohdipdgnnamlaaGreatDoor
end
section
set_option linter.unusedVariables false
set_option linter.unusedSimpArgs false
set_option maxRecDepth 100000
set_option maxHeartbeats 1000000
namespace Go.Proofs.YtohdipdgnnamlaaGreatDoor
open Go.Abs
theorem digB_size (s : ByteArray) : (digB s).size = 16 := by
 show (hexB _).toArray.size = 16
 simp [hexB]
theorem digO_size (o : GObj) : (digO o).size ≤ 16 := by
 unfold digO
 split
 ·rw [digL, digB_size]; exact Nat.le_refl _
 exact Nat.zero_le _
theorem joinedL_small : ∀ (l : List ByteArray), (∀ s ∈ l, s.size ≤ 16) → (joinedL l).length ≤ 38 * l.length
 | [], _ => Nat.le_refl _
 | s :: r, h => by
  have ih := joinedL_small r (fun x hx => h x (List.mem_cons_of_mem _ hx))
  have hs := h s List.mem_cons_self
  have h1 : joinedL (s :: r) = (pieceB s).data.toList ++ joinedL r := by rw [joinedL, List.flatMap_cons]; rfl
  have h2 := itoaB_size (n := (s.size : Int)) (by omega) (by omega)
  rw [h1, List.length_append, List.length_cons, size_toList, pieceB_size]
  omega
/-- The digest of a map. -/
def digM (m : List GObj) : ByteArray := if gMap m then digL (m.map digO) else sNil
def okD (o : GObj) : Prop := okO o ∧ o.refs.length < 1099511627776 ∧ o.tags.length < 1099511627776 ∧ (joinedL (objWords o)).length < 35184372088832
theorem strRows_snoc (l : List ByteArray) (s : ByteArray) : strRows l ++ [[PV.str s]].map (·.map AV.pv) = strRows (l ++ [s]) := by rw [strRows, strRows, List.map_append]; rfl
theorem atlasDigest_c (m : List GObj) (H : Heap) (hml : m.length < 1073741824) (hd : ∀ o ∈ m, okD o) : ACalls Tryz.prog 12 [.agg [.pv (slObjs m)]] H (fun r H' => r = sv (digM m) ∧ H' = H) := by
 refine ACalls.pure ?_ (by simp) H
 have hmm : (m.map encObj).length = m.length := List.length_map _
 have hm : okM m := ⟨by omega, fun o ho => (hd o ho).1⟩
 have hv := fun H => valids_c [m] H (by show 1 < _; omega) (by intro x hx; rw [List.mem_singleton] at hx; subst hx; exact hm)
 rw [show ([m].all gMap) = gMap m by simp] at hv
 refine Bd Tryz.func12 rfl Tryz.ntmps12<|Sq<|Rg<|Dd (by exact opd_box (id := 1) rfl rfl rfl rfl rfl)<|Dd as'<|Zz<|Sq<|Sq<|Rg<|Dd (by exact opd_loadn_ref rfl Tryz.isAgg24 Tryz.sizeOf24 rfl rfl rfl rfl (by simp only [Zl, encTag, encObj, encStr]; rfl) rfl)<|Dd (by exact x_buildSlice ([m].map encMap) rfl so118 rfl rfl rfl rfl rfl (by simp [encMap]))<|Dd (by exact opr_call rfl rfl Tryz.call35 rfl (hv _))<|Dd no'<|Zz ?_
 refine Cn (fun hc1 => ?_) fun hc1 => ?_
 ·have hg : gMap m = false := by have h := hc1; rwa [Bool.not_eq_true'] at h
  refine Sq<|Rg<|Dd as'<|Zz<|awp_ret ?_
  refine Rt ?_
  exact ⟨by rw [digM, hg]; rfl, rfl⟩
 have hg : gMap m = true := by have h := hc1; rwa [Bool.not_eq_false'] at h
 refine awp_skip<|Sq<|Rg<|Dd (by exact opd_assign_own (id := 3) (sz := 1) (ty := 9) rfl rfl rfl)<|Zz<|Sq<|Sq<|Rg<|Dd (fr' fo24_0)<|Dd (l1' Tryz.isAgg22)<|Dd (ll' Tryz.underlying22)<|Dd mv'<|Zz<|awp_block ?_
 refine awp_loop (σ := Nat) (fun k => ([(1, .ref 1 0 0 0), (3, .osl 3 k 0 k), (11, .pv (slObjs m)), (12, iv ((m.map encObj).length : Int)), (13, iv (k : Int))], [(3, ⟨k, 1, 9, strRows ((m.take k).map digO)⟩), (1, bx 1 24 [.pv (slObjs m)])])) (fun k => k ≤ m.length) (fun k => m.length - k) 0 (Nat.zero_le _) ?_ ?_
 ·exact (Ent.wk ⟨⟨_, rfl, rfl⟩, (by (simp; rfl)), ⟨_, rfl, rfl⟩, (by (simp; rfl)), ⟨_, rfl, rfl⟩, (by (simp; done)), ⟨_, rfl, rfl⟩, (by (simp; done)), ⟨_, rfl, rfl⟩, (by (simp; done)), trivial⟩ ⟨⟨_, rfl, rfl⟩, (by exact strRows_clo _ _), ⟨_, rfl, rfl⟩, (by (simp; done)), trivial⟩ trivial)
 intro k hk
 have hlk : ((m.take k).map digO).length = k := by rw [List.length_map, List.length_take]; omega
 refine Sq<|Rg<|Dd lss'<|Zz<|Sq ?_
 refine Cn (fun hc2 => ?_) fun hc2 => ?_
 ·have hlt : k < m.length := by have := of_decide_eq_true hc2; omega
  obtain ⟨o, ho⟩ := get_of_lt hlt
  have hi := map_get (f := encObj) ho
  obtain ⟨d1, d2, d3, d4⟩ := hd o (List.mem_of_getElem? ho)
  refine awp_skip<|Sq<|awp_block<|Sq<|Rg<|Dd (xp' so22)<|Dd (by exact opd_loadn_pad rfl Tryz.isAgg49 Tryz.sizeOf49 rfl (by omega) (by simp only [Zl, encTag, encObj, encStr]; rfl) rfl)<|Dd (by exact x_alloc (id := 5) rfl zo49 rfl rfl)<|Uu (sa' Tryz.sizeOf49)<|Zz<|Rg<|Dd mv'<|Dd (by exact opd_loadn_ref rfl Tryz.isAgg49 Tryz.sizeOf49 rfl rfl rfl rfl (by simp only [Zl, encTag, encObj, encStr]; rfl) rfl)<|Dd (by exact opr_call rfl rfl Tryz.call36 rfl (objDigest_c o _ d1 d2 d3 (fun _ => d4)))<|Dd (by exact x_buildSlice [[.str (digO o)]] rfl so27 rfl rfl rfl rfl rfl (by simp))<|Dd (by exact x_append (ps := [[.str (digO o)]]) rfl so27 ei9 rfl rfl rfl rfl rfl ((strRows_len _).trans hlk) rfl (by simp) (m := 1) rfl (by omega) rfl (strRows_snoc _ _))<|Dd as'<|Zz<|Rg<|Dd ad'<|Dd mv'<|Zz ?_
  refine ⟨k + 1, by omega, by omega, ?_⟩
  rw [take_next ho, List.map_append, List.map_cons, List.map_nil]
  exact (Ent.wk ⟨⟨_, rfl, rfl⟩, (by (simp; rfl)), ⟨_, rfl, rfl⟩, (by (simp; rfl)), ⟨_, rfl, rfl⟩, (by (simp; done)), ⟨_, rfl, rfl⟩, (by (simp; done)), ⟨_, rfl, rfl⟩, (by (simp; done)), trivial⟩ ⟨⟨_, rfl, rfl⟩, (by exact strRows_clo _ _), ⟨_, rfl, rfl⟩, (by (simp; done)), trivial⟩ trivial)
 have hge : k = m.length := by have := of_decide_eq_false hc2; omega
 subst hge
 rw [List.take_length]
 have hjl : (joinedL (m.map digO)).length < 35184372088832 := by
  have h1 := joinedL_small (m.map digO) (fun s hs => by obtain ⟨o, _, rfl⟩ := List.mem_map.1 hs; exact digO_size o)
  rw [List.length_map] at h1
  omega
 refine awp_exit<|Sq ?_
 refine AWp.ent (Ent.fz (id := 3) (E' := [(3, .pv (slStrs (m.map digO)))]) (H' := []) ((m.map digO).map encStr) rfl (strRows_enc2 _).symm (by
  intro p hp
  simp only [List.mem_singleton] at hp
  subst hp
  exact ⟨_, rfl, .osl (by rw [Nat.zero_add, List.drop_zero, List.take_of_length_le (by rw [List.length_map, List.length_map]; exact Nat.le_refl _)])⟩) rfl trivial trivial) ?_
 skip
 refine Rg<|Dd mv'<|Dd (by exact opr_call rfl rfl Tryz.call37 rfl (list_c (m.map digO) _ hjl))<|Dd as'<|Zz<|awp_ret ?_
 refine Rt ?_
 exact ⟨by rw [digM, if_pos hg], rfl⟩
end Go.Proofs.YtohdipdgnnamlaaGreatDoor
end
section
set_option linter.unusedVariables false
set_option linter.unusedSimpArgs false
set_option maxRecDepth 100000
set_option maxHeartbeats 1000000
namespace Go.Proofs.YtohdipdgnnamlaaGreatDoor
open Go.Abs
/-- A map's objects by their Ids. -/
def pO (o : GObj) : AV := .pad [encObj o] 0 0
def oM (l : List GObj) : List (ByteArray × AV) := l.map fun o => (o.id, pO o)
def optO (o : Option GObj) : AV := optP (o.map encObj)
theorem look_oM : ∀ (l : List GObj) (s : ByteArray), (mget (oM l) s).getD (.pv .nilp) = optO (look l s)
 | [], _ => rfl
 | o :: r, s => by
  by_cases e : o.id = s
  ·have h1 : look (o :: r) s = some o := by rw [look, List.find?_cons_of_pos (show idIs s o = true from decide_eq_true e)]
   rw [h1, oM, List.map_cons, mget, if_pos e]
   rfl
  have h1 : look (o :: r) s = look r s := by rw [look, List.find?_cons_of_neg (fun h => e (of_decide_eq_true (show idIs s o = true from h)))]
  rw [h1, oM, List.map_cons, mget, if_neg e]
  exact look_oM r s
theorem oM_none {l : List GObj} {s : ByteArray} (h : ∀ o ∈ l, o.id ≠ s) : mget (oM l) s = none := by
 induction l with
 | nil => rfl
 | cons o r ih =>
  rw [oM, List.map_cons, mget, if_neg (h o List.mem_cons_self)]
  exact ih (fun x hx => h x (List.mem_cons_of_mem _ hx))
theorem oM_snoc {m : List GObj} (hu : ups m) {k : Nat} {o : GObj} (ho : m[k]? = some o) : mput (oM (m.take k)) o.id (pO o) = oM (m.take (k + 1)) := by
 rw [mput_new _ (oM_none fun x hx => ?_), oM, oM, take_next ho, List.map_append]
 ·rfl
 obtain ⟨j, hj⟩ := List.mem_iff_getElem?.1 hx
 have hjk : j < k := by
  have := (List.getElem?_eq_some_iff.1 hj).1
  rw [List.length_take] at this
  omega
 rw [List.getElem?_take, if_pos hjk] at hj
 have := asc_get (f := GObj.id) hu hjk hj ho
 intro e
 rw [e, slt_irr] at this
 cases this
theorem mrowsP_clo {H : Heap} (l : List GObj) : ∀ r ∈ (mOP (oM l)).rows, ∀ a ∈ r, Clo H a := by
 intro r hr a ha
 obtain ⟨i, hi⟩ := List.mem_iff_getElem?.1 hr
 obtain ⟨p, hp, rfl⟩ := mrows_get.1 hi
 rw [oM, List.getElem?_map] at hp
 obtain ⟨q, _, rfl⟩ := Option.map_eq_some_iff.1 hp
 simp only [List.mem_cons, List.not_mem_nil, or_false] at ha
 rcases ha with rfl | rfl | rfl
 ·exact .pv _
 ·exact .pad _ _ _
 exact .pv _
theorem oM_len (l : List GObj) : (oM l).length = l.length := List.length_map _
theorem objects971_c (m : List GObj) (hu : ups m) (hl : m.length < 1099511627776) (H : Heap) (hH : H.get 971 = none) : ACalls Tryz.prog 24 [.agg [.pv (slObjs m)]] H (fun r H' => r = .mp 971 0 ∧ H' = (971, mOP (oM m)) :: H) := by
 refine ACalls.frame (H0 := []) (H1 := [(971, mOP (oM m))]) ?_ (fun _ _ h => by cases h) (fun _ _ h => by cases h) (by simp) (fun id h => .inr (by
  by_cases e : id = 971
  ·rw [e]; exact hH
  rw [get_cons_other _ _ e] at h; cases h))
 have hml : (m.map encObj).length = m.length := List.length_map _
 refine Bd Tryz.func24 rfl Tryz.ntmps24<|Sq<|Rg<|Dd (by exact opd_box (id := 1) rfl rfl rfl rfl rfl)<|Dd as'<|Zz<|Sq<|Rg<|Dd (fr' fo24_0)<|Dd (l1' Tryz.isAgg22)<|Dd (ll' Tryz.underlying22)<|Dd (by exact opd_makeMap_n (id := 971) strK rfl Tryz.underlying68 rfl rfl)<|Dd as'<|Zz<|Sq<|Sq<|Rg<|Dd (fr' fo24_0)<|Dd (l1' Tryz.isAgg22)<|Dd (ll' Tryz.underlying22)<|Dd mv'<|Zz<|awp_block ?_
 refine awp_loop (σ := Nat) (fun k => ([(3, .mp 971 0), (11, .pv (slObjs m)), (12, iv ((m.map encObj).length : Int)), (13, iv (k : Int))], [(971, mOP (oM (m.take k)))])) (fun k => k ≤ m.length) (fun k => m.length - k) 0 (Nat.zero_le _) ?_ ?_
 ·exact (Ent.wk ⟨⟨_, rfl, rfl⟩, (by (simp; rfl)), ⟨_, rfl, rfl⟩, (by (simp; done)), ⟨_, rfl, rfl⟩, (by (simp; done)), ⟨_, rfl, rfl⟩, (by (simp; done)), trivial⟩ ⟨⟨_, rfl, rfl⟩, (by exact mrowsP_clo _), trivial⟩ trivial)
 intro k hk
 refine Sq<|Rg<|Dd lss'<|Zz<|Sq ?_
 refine Cn (fun hc1 => ?_) fun hc1 => ?_
 ·have hlt : k < m.length := by have := of_decide_eq_true hc1; omega
  obtain ⟨o, ho⟩ := get_of_lt hlt
  have hi := map_get (f := encObj) ho
  have hlk : (m.take k).length = k := by rw [List.length_take]; omega
  refine awp_skip<|Sq<|awp_block<|Sq<|Rg<|Dd (xp' so22)<|Dd (by exact opd_loadn_pad rfl Tryz.isAgg49 Tryz.sizeOf49 rfl (by omega) (by simp only [Zl, encTag, encObj, encStr]; rfl) rfl)<|Dd (by exact x_alloc (id := 5) rfl zo49 rfl rfl)<|Uu (sa' Tryz.sizeOf49)<|Zz ?_
  refine AWp.ent (E' := [(3, .mp 971 0), (11, .pv (slObjs m)), (12, iv ((m.map encObj).length : Int)), (13, iv (k : Int)), (5, pO o)]) (H' := [(971, mOP (oM (m.take k)))]) (Ent.fzP (id := 5) (encObj o) (t := 5) rfl rfl rfl rfl rfl (by simp [encObj]) (by
   intro p hp
   simp only [List.mem_cons, List.not_mem_nil, or_false] at hp
   rcases hp with rfl | rfl | rfl | rfl | rfl
   ·exact .inr ⟨rfl, by simp; rfl⟩
   ·exact .inr ⟨rfl, by simp⟩
   ·exact .inr ⟨rfl, by simp⟩
   ·exact .inr ⟨rfl, by simp⟩
   exact .inl rfl) rfl (fun id ob h => ?_) (Closed.of fun p hp => by rw [List.mem_singleton] at hp; subst hp; exact mrowsP_clo _) (fun _ h => by cases h)) ?_
  ·by_cases e : id = 971
   ·subst e
    rw [get_cons_same] at h
    cases h
    rfl
   rw [get_cons_other _ _ e] at h
   cases h
  skip
  refine Rg<|Dd mv'<|Dd (fp' fo49_0)<|Dd (lp' Tryz.isAgg9 (hi := rfl))<|Uu (by exact x_mapUpdate (κ := strK) (.inl rfl) Tryz.underlying68 Tryz.underlying9 rfl rfl rfl rfl rfl rfl rfl (oM_snoc hu ho))<|Zz<|Rg<|Dd ad'<|Dd mv'<|Zz ?_
  exact ⟨k + 1, by omega, by omega, (Ent.wk ⟨⟨_, rfl, rfl⟩, (by (simp; rfl)), ⟨_, rfl, rfl⟩, (by (simp; done)), ⟨_, rfl, rfl⟩, (by (simp; done)), ⟨_, rfl, rfl⟩, (by (simp; done)), trivial⟩ ⟨⟨_, rfl, rfl⟩, (by exact mrowsP_clo _), trivial⟩ trivial)⟩
 have hge : k = m.length := by have := of_decide_eq_false hc1; omega
 subst hge
 rw [List.take_length]
 refine awp_exit<|Sq<|Rg<|Dd mv'<|Dd as'<|Zz<|awp_ret ?_
 refine aret1 (H' := [(971, mOP (oM m))]) (.inr rfl) rfl (rval_tmp rfl) (Fin.wk (by simp; rfl) ⟨⟨_, rfl, rfl⟩, mrowsP_clo _, trivial⟩ trivial) ?_
 exact ⟨rfl, rfl⟩
theorem objects972_c (m : List GObj) (hu : ups m) (hl : m.length < 1099511627776) (H : Heap) (hH : H.get 972 = none) : ACalls Tryz.prog 24 [.agg [.pv (slObjs m)]] H (fun r H' => r = .mp 972 0 ∧ H' = (972, mOP (oM m)) :: H) := by
 refine ACalls.frame (H0 := []) (H1 := [(972, mOP (oM m))]) ?_ (fun _ _ h => by cases h) (fun _ _ h => by cases h) (by simp) (fun id h => .inr (by
  by_cases e : id = 972
  ·rw [e]; exact hH
  rw [get_cons_other _ _ e] at h; cases h))
 have hml : (m.map encObj).length = m.length := List.length_map _
 refine Bd Tryz.func24 rfl Tryz.ntmps24<|Sq<|Rg<|Dd (by exact opd_box (id := 1) rfl rfl rfl rfl rfl)<|Dd as'<|Zz<|Sq<|Rg<|Dd (fr' fo24_0)<|Dd (l1' Tryz.isAgg22)<|Dd (ll' Tryz.underlying22)<|Dd (by exact opd_makeMap_n (id := 972) strK rfl Tryz.underlying68 rfl rfl)<|Dd as'<|Zz<|Sq<|Sq<|Rg<|Dd (fr' fo24_0)<|Dd (l1' Tryz.isAgg22)<|Dd (ll' Tryz.underlying22)<|Dd mv'<|Zz<|awp_block ?_
 refine awp_loop (σ := Nat) (fun k => ([(3, .mp 972 0), (11, .pv (slObjs m)), (12, iv ((m.map encObj).length : Int)), (13, iv (k : Int))], [(972, mOP (oM (m.take k)))])) (fun k => k ≤ m.length) (fun k => m.length - k) 0 (Nat.zero_le _) ?_ ?_
 ·exact (Ent.wk ⟨⟨_, rfl, rfl⟩, (by (simp; rfl)), ⟨_, rfl, rfl⟩, (by (simp; done)), ⟨_, rfl, rfl⟩, (by (simp; done)), ⟨_, rfl, rfl⟩, (by (simp; done)), trivial⟩ ⟨⟨_, rfl, rfl⟩, (by exact mrowsP_clo _), trivial⟩ trivial)
 intro k hk
 refine Sq<|Rg<|Dd lss'<|Zz<|Sq ?_
 refine Cn (fun hc1 => ?_) fun hc1 => ?_
 ·have hlt : k < m.length := by have := of_decide_eq_true hc1; omega
  obtain ⟨o, ho⟩ := get_of_lt hlt
  have hi := map_get (f := encObj) ho
  have hlk : (m.take k).length = k := by rw [List.length_take]; omega
  refine awp_skip<|Sq<|awp_block<|Sq<|Rg<|Dd (xp' so22)<|Dd (by exact opd_loadn_pad rfl Tryz.isAgg49 Tryz.sizeOf49 rfl (by omega) (by simp only [Zl, encTag, encObj, encStr]; rfl) rfl)<|Dd (by exact x_alloc (id := 5) rfl zo49 rfl rfl)<|Uu (sa' Tryz.sizeOf49)<|Zz ?_
  refine AWp.ent (E' := [(3, .mp 972 0), (11, .pv (slObjs m)), (12, iv ((m.map encObj).length : Int)), (13, iv (k : Int)), (5, pO o)]) (H' := [(972, mOP (oM (m.take k)))]) (Ent.fzP (id := 5) (encObj o) (t := 5) rfl rfl rfl rfl rfl (by simp [encObj]) (by
   intro p hp
   simp only [List.mem_cons, List.not_mem_nil, or_false] at hp
   rcases hp with rfl | rfl | rfl | rfl | rfl
   ·exact .inr ⟨rfl, by simp; rfl⟩
   ·exact .inr ⟨rfl, by simp⟩
   ·exact .inr ⟨rfl, by simp⟩
   ·exact .inr ⟨rfl, by simp⟩
   exact .inl rfl) rfl (fun id ob h => ?_) (Closed.of fun p hp => by rw [List.mem_singleton] at hp; subst hp; exact mrowsP_clo _) (fun _ h => by cases h)) ?_
  ·by_cases e : id = 972
   ·subst e
    rw [get_cons_same] at h
    cases h
    rfl
   rw [get_cons_other _ _ e] at h
   cases h
  skip
  refine Rg<|Dd mv'<|Dd (fp' fo49_0)<|Dd (lp' Tryz.isAgg9 (hi := rfl))<|Uu (by exact x_mapUpdate (κ := strK) (.inl rfl) Tryz.underlying68 Tryz.underlying9 rfl rfl rfl rfl rfl rfl rfl (oM_snoc hu ho))<|Zz<|Rg<|Dd ad'<|Dd mv'<|Zz ?_
  exact ⟨k + 1, by omega, by omega, (Ent.wk ⟨⟨_, rfl, rfl⟩, (by (simp; rfl)), ⟨_, rfl, rfl⟩, (by (simp; done)), ⟨_, rfl, rfl⟩, (by (simp; done)), ⟨_, rfl, rfl⟩, (by (simp; done)), trivial⟩ ⟨⟨_, rfl, rfl⟩, (by exact mrowsP_clo _), trivial⟩ trivial)⟩
 have hge : k = m.length := by have := of_decide_eq_false hc1; omega
 subst hge
 rw [List.take_length]
 refine awp_exit<|Sq<|Rg<|Dd mv'<|Dd as'<|Zz<|awp_ret ?_
 refine aret1 (H' := [(972, mOP (oM m))]) (.inr rfl) rfl (rval_tmp rfl) (Fin.wk (by simp; rfl) ⟨⟨_, rfl, rfl⟩, mrowsP_clo _, trivial⟩ trivial) ?_
 exact ⟨rfl, rfl⟩
theorem objects973_c (m : List GObj) (hu : ups m) (hl : m.length < 1099511627776) (H : Heap) (hH : H.get 973 = none) : ACalls Tryz.prog 24 [.agg [.pv (slObjs m)]] H (fun r H' => r = .mp 973 0 ∧ H' = (973, mOP (oM m)) :: H) := by
 refine ACalls.frame (H0 := []) (H1 := [(973, mOP (oM m))]) ?_ (fun _ _ h => by cases h) (fun _ _ h => by cases h) (by simp) (fun id h => .inr (by
  by_cases e : id = 973
  ·rw [e]; exact hH
  rw [get_cons_other _ _ e] at h; cases h))
 have hml : (m.map encObj).length = m.length := List.length_map _
 refine Bd Tryz.func24 rfl Tryz.ntmps24<|Sq<|Rg<|Dd (by exact opd_box (id := 1) rfl rfl rfl rfl rfl)<|Dd as'<|Zz<|Sq<|Rg<|Dd (fr' fo24_0)<|Dd (l1' Tryz.isAgg22)<|Dd (ll' Tryz.underlying22)<|Dd (by exact opd_makeMap_n (id := 973) strK rfl Tryz.underlying68 rfl rfl)<|Dd as'<|Zz<|Sq<|Sq<|Rg<|Dd (fr' fo24_0)<|Dd (l1' Tryz.isAgg22)<|Dd (ll' Tryz.underlying22)<|Dd mv'<|Zz<|awp_block ?_
 refine awp_loop (σ := Nat) (fun k => ([(3, .mp 973 0), (11, .pv (slObjs m)), (12, iv ((m.map encObj).length : Int)), (13, iv (k : Int))], [(973, mOP (oM (m.take k)))])) (fun k => k ≤ m.length) (fun k => m.length - k) 0 (Nat.zero_le _) ?_ ?_
 ·exact (Ent.wk ⟨⟨_, rfl, rfl⟩, (by (simp; rfl)), ⟨_, rfl, rfl⟩, (by (simp; done)), ⟨_, rfl, rfl⟩, (by (simp; done)), ⟨_, rfl, rfl⟩, (by (simp; done)), trivial⟩ ⟨⟨_, rfl, rfl⟩, (by exact mrowsP_clo _), trivial⟩ trivial)
 intro k hk
 refine Sq<|Rg<|Dd lss'<|Zz<|Sq ?_
 refine Cn (fun hc1 => ?_) fun hc1 => ?_
 ·have hlt : k < m.length := by have := of_decide_eq_true hc1; omega
  obtain ⟨o, ho⟩ := get_of_lt hlt
  have hi := map_get (f := encObj) ho
  have hlk : (m.take k).length = k := by rw [List.length_take]; omega
  refine awp_skip<|Sq<|awp_block<|Sq<|Rg<|Dd (xp' so22)<|Dd (by exact opd_loadn_pad rfl Tryz.isAgg49 Tryz.sizeOf49 rfl (by omega) (by simp only [Zl, encTag, encObj, encStr]; rfl) rfl)<|Dd (by exact x_alloc (id := 5) rfl zo49 rfl rfl)<|Uu (sa' Tryz.sizeOf49)<|Zz ?_
  refine AWp.ent (E' := [(3, .mp 973 0), (11, .pv (slObjs m)), (12, iv ((m.map encObj).length : Int)), (13, iv (k : Int)), (5, pO o)]) (H' := [(973, mOP (oM (m.take k)))]) (Ent.fzP (id := 5) (encObj o) (t := 5) rfl rfl rfl rfl rfl (by simp [encObj]) (by
   intro p hp
   simp only [List.mem_cons, List.not_mem_nil, or_false] at hp
   rcases hp with rfl | rfl | rfl | rfl | rfl
   ·exact .inr ⟨rfl, by simp; rfl⟩
   ·exact .inr ⟨rfl, by simp⟩
   ·exact .inr ⟨rfl, by simp⟩
   ·exact .inr ⟨rfl, by simp⟩
   exact .inl rfl) rfl (fun id ob h => ?_) (Closed.of fun p hp => by rw [List.mem_singleton] at hp; subst hp; exact mrowsP_clo _) (fun _ h => by cases h)) ?_
  ·by_cases e : id = 973
   ·subst e
    rw [get_cons_same] at h
    cases h
    rfl
   rw [get_cons_other _ _ e] at h
   cases h
  skip
  refine Rg<|Dd mv'<|Dd (fp' fo49_0)<|Dd (lp' Tryz.isAgg9 (hi := rfl))<|Uu (by exact x_mapUpdate (κ := strK) (.inl rfl) Tryz.underlying68 Tryz.underlying9 rfl rfl rfl rfl rfl rfl rfl (oM_snoc hu ho))<|Zz<|Rg<|Dd ad'<|Dd mv'<|Zz ?_
  exact ⟨k + 1, by omega, by omega, (Ent.wk ⟨⟨_, rfl, rfl⟩, (by (simp; rfl)), ⟨_, rfl, rfl⟩, (by (simp; done)), ⟨_, rfl, rfl⟩, (by (simp; done)), ⟨_, rfl, rfl⟩, (by (simp; done)), trivial⟩ ⟨⟨_, rfl, rfl⟩, (by exact mrowsP_clo _), trivial⟩ trivial)⟩
 have hge : k = m.length := by have := of_decide_eq_false hc1; omega
 subst hge
 rw [List.take_length]
 refine awp_exit<|Sq<|Rg<|Dd mv'<|Dd as'<|Zz<|awp_ret ?_
 refine aret1 (H' := [(973, mOP (oM m))]) (.inr rfl) rfl (rval_tmp rfl) (Fin.wk (by simp; rfl) ⟨⟨_, rfl, rfl⟩, mrowsP_clo _, trivial⟩ trivial) ?_
 exact ⟨rfl, rfl⟩
end Go.Proofs.YtohdipdgnnamlaaGreatDoor
namespace Go.Abs
theorem x_lookup_p {P : Program} {N : Nat} {o : Oper} {E : Env} {H : Heap} {T kt et : TypeId} {x y : Operand} {id g : Nat} {ob : Ob} {α : Type} [DecidableEq α] {κ : KeyKind α} {k : α} {l : List (α × AV)} {zv : Value} {v0 r : AV} (ho : o.op = .lookup T x y false) (hT : P.underlying T = some (.map kt et)) (hd : P.underlying kt = some κ.d) (hx : aeval E x = some (.mp id g)) (hH : H.get id = some ob) (hg : ob.g = g)
  (hrows : ob.rows = mrows κ l) (hy : aeval E y = some (.pv (κ.pv k))) (hz : ∀ w, (zeroValue et).run P w = .ok zv w) (hv : ZV zv v0) (hm : (mget l k).getD v0 = r) : OpD P N o E H r H := hm ▸ opd_lookup ho hT hd hx hH hg hrows hy hz hv
end Go.Abs
namespace Go.Proofs.YtohdipdgnnamlaaGreatDoor
open Go.Abs
/-- Both objects are equal, or none is there. -/
def sameOp : Option GObj → Option GObj → Bool
 | some x, some y => gSameO x y
 | none, none => true
 | _, _ => false
theorem sameOp_iff {a b : Option GObj} : sameOp a b = true ↔ a = b := by
 cases a with
 | none => cases b <;> simp [sameOp]
 | some x =>
  cases b with
  | none => simp [sameOp]
  | some y => rw [sameOp, gSameO_iff, Option.some.injEq]
def okOp (a : Option GObj) : Prop := ∀ x, a = some x → okS x
theorem sameP_c (a b : Option GObj) (H : Heap) (ha : okOp a) : ACalls Tryz.prog 49 [optO a, optO b] H (fun r H' => r = bv (sameOp a b) ∧ H' = H) := by
 refine ACalls.pure ?_ (by cases a <;> cases b <;> simp [optO, optP]) H
 refine Bd Tryz.func49 rfl Tryz.ntmps49<|Sq<|Rg<|Dd as'<|Zz<|Sq<|Sq ?_
 refine awp_bool (t := 10) (n := 7) (X := a.isNone || b.isNone) ?_ ?_
 ·all_goals refine Dd mv' ?_
  all_goals refine Dd (by exact opd_peq_n rfl Tryz.underlying74 rfl rfl (p := a.map encObj) rfl) ?_
  all_goals refine Dd mv' ?_
  all_goals refine Sp 7 (fun h7 => ?_) fun h7 => ?_
  all_goals try contradiction
  all_goals first | refine Fo ?_ | refine On mv' ?_
  all_goals first | refine Fo ?_ | refine On (by exact opd_peq_n rfl Tryz.underlying74 rfl rfl (p := b.map encObj) rfl) ?_
  all_goals refine Dd pk' ?_
  all_goals refine al_nil ?_
  all_goals (exact ⟨⟨_, rfl, by (cases a <;> cases b <;> simp_all)⟩, rfl, rfl, rfl⟩)
 refine Cn (fun hc1 => ?_) fun hc1 => ?_
 ·have hn : a = none ∨ b = none := by
   revert hc1
   cases a <;> cases b <;> simp
  refine Sq<|Rg<|Dd mv'<|Dd mv'<|Dd (by exact opd_peq_opt rfl Tryz.underlying74 rfl rfl (p := a.map encObj) (q := b.map encObj) rfl rfl (by rcases hn with rfl | rfl <;> simp))<|Dd as'<|Zz<|awp_ret ?_
  refine Rt ?_
  refine ⟨?_, rfl⟩
  revert hc1
  cases a <;> cases b <;> simp [sameOp]
 obtain ⟨x, y, rfl, rfl⟩ : ∃ x y, a = some x ∧ b = some y := by
  revert hc1
  cases a <;> cases b <;> simp
 refine awp_skip<|Sq ?_
 refine awp_drawc follows ?_
 refine Cq mv'<|Cq (by exact opd_nilCheck_pad rfl rfl)<|Cq (by exact opd_loadn_pad rfl Tryz.isAgg49 Tryz.sizeOf49 rfl rfl rfl rfl)<|Cq mv'<|Cq (by exact opd_nilCheck_pad rfl rfl)<|Cq (by exact opd_loadn_pad rfl Tryz.isAgg49 Tryz.sizeOf49 rfl rfl rfl rfl)<|Cq (by exact opr_call rfl rfl Tryz.call92 rfl (sameO_c x y _ (ha x rfl)))<|Cq as' ?_
 refine dc_nil ⟨by kernel_rfl, ?_⟩
 refine awp_ret ?_
 refine Rt ?_
 exact ⟨rfl, rfl⟩
/-- The merger. -/
def mgOb : Ob := bx 5 72 [.mp 971 0, .mp 972 0, .mp 973 0, .mp 950 0, .mp 974 0]
def mgH (b o t : List GObj) (L : List (ByteArray × AV)) : Heap := [(975, mgOb), (950, mOP L), (974, ⟨0, 0, 0, []⟩), (973, mOP (oM t)), (972, mOP (oM o)), (971, mOP (oM b))]
/-- An object merged, if at most one side changed it. -/
def mgO (b o t : Option GObj) : Option GObj := if o = t then o else if t = b then o else t
def tidy (b o t : Option GObj) : Prop := o = t ∨ t = b ∨ o = b
theorem merge1_c (b o t : List GObj) (L : List (ByteArray × AV)) (s : ByteArray) (hb : ∀ x ∈ b, okS x) (ho : ∀ x ∈ o, okS x) (ht : ∀ x ∈ t, okS x) (hd : tidy (look b s) (look o s) (look t s)) :
  ACalls Tryz.prog 25 [.ref 975 0 0 0, sv s] (mgH b o t L) (fun r H' => r = optO (mgO (look b s) (look o s) (look t s)) ∧ H' = mgH b o t L) := by
 have kb : okOp (look b s) := fun x hx => hb x (look_mem hx)
 have ko : okOp (look o s) := fun x hx => ho x (look_mem hx)
 have kt : okOp (look t s) := fun x hx => ht x (look_mem hx)
 have cb : Clo (mgH b o t L) (optO (look b s)) := by cases look b s <;> simp [optO, optP]
 have co : Clo (mgH b o t L) (optO (look o s)) := by cases look o s <;> simp [optO, optP]
 have ct : Clo (mgH b o t L) (optO (look t s)) := by cases look t s <;> simp [optO, optP]
 refine Bd Tryz.func25 rfl Tryz.ntmps25<|Sq<|Rg<|Dd as'<|Zz<|Sq ?_
 refine awp_drawc follows ?_
 refine Cq mv'<|Cq nc'<|Cq (fr' fo72_0)<|Cq (l1' Tryz.isAgg68)<|Cq mv'<|Cq (by exact x_lookup_p (κ := strK) (k := s) (l := oM b) rfl Tryz.underlying68 Tryz.underlying9 rfl rfl rfl rfl rfl Tryz.zeroValue74 (.inl rfl) (look_oM b s))<|Cq mv'<|Cq nc'<|Cq (fr' fo72_1)<|Cq (l1' Tryz.isAgg68)<|Cq mv'<|Cq (by exact x_lookup_p (κ := strK) (k := s) (l := oM o) rfl Tryz.underlying68 Tryz.underlying9 rfl rfl rfl rfl rfl Tryz.zeroValue74 (.inl rfl) (look_oM o s))<|Cq mv'<|Cq nc'<|Cq (fr' fo72_2)<|Cq (l1' Tryz.isAgg68)<|Cq mv'<|Cq (by exact x_lookup_p (κ := strK) (k := s) (l := oM t) rfl Tryz.underlying68 Tryz.underlying9 rfl rfl rfl rfl rfl Tryz.zeroValue74 (.inl rfl) (look_oM t s))<|Cq as'<|Cq as'<|Cq as' ?_
 refine dc_nil ⟨by kernel_rfl, ?_⟩
 refine Sq<|awp_block<|Sq<|Sq<|Rg<|Dd mv'<|Dd mv'<|Dd (by exact opr_call rfl rfl Tryz.call49 rfl (sameP_c (look o s) (look t s) _ ko))<|Dd as'<|Zz ?_
 refine Cn (fun hc1 => ?_) fun hc1 => ?_
 ·have e1 : look o s = look t s := sameOp_iff.1 hc1
  refine awp_skip ?_
  refine Cn (fun hc2 => ?_) fun hc2 => ?_
  ·skip
   refine Sq<|Rg<|Dd mv'<|Dd as'<|Zz<|awp_ret ?_
   refine aret1 (H' := (mgH b o t L)) (.inr rfl) rfl (rval_tmp rfl) Fin.refl ?_
   exact ⟨by rw [mgO, if_pos e1], rfl⟩
  skip
  rw [hc1] at hc2; cases hc2
 have e1 : ¬ look o s = look t s := fun e => by rw [sameOp_iff.2 e] at hc1; cases hc1
 refine Rg<|Dd mv'<|Dd mv'<|Dd (by exact opr_call rfl rfl Tryz.call49 rfl (sameP_c (look t s) (look b s) _ kt))<|Dd as'<|Zz ?_
 refine Cn (fun hc3 => ?_) fun hc3 => ?_
 ·have e2 : look t s = look b s := sameOp_iff.1 hc3
  refine Sq<|Rg<|Dd mv'<|Dd as'<|Zz<|awp_ret ?_
  refine aret1 (H' := (mgH b o t L)) (.inr rfl) rfl (rval_tmp rfl) Fin.refl ?_
  exact ⟨by rw [mgO, if_neg e1, if_pos e2], rfl⟩
 have e2 : ¬ look t s = look b s := fun e => by rw [sameOp_iff.2 e] at hc3; cases hc3
 refine Sq<|Rg<|Dd mv'<|Dd mv'<|Dd (by exact opr_call rfl rfl Tryz.call49 rfl (sameP_c (look o s) (look b s) _ ko))<|Dd as'<|Zz ?_
 refine Cn (fun hc4 => ?_) fun hc4 => ?_
 ·skip
  refine Sq<|Rg<|Dd mv'<|Dd as'<|Zz<|awp_ret ?_
  refine aret1 (H' := (mgH b o t L)) (.inr rfl) rfl (rval_tmp rfl) Fin.refl ?_
  exact ⟨by rw [mgO, if_neg e1, if_neg e2], rfl⟩
 have e3 : ¬ look o s = look b s := fun e => by rw [sameOp_iff.2 e] at hc4; cases hc4
 exfalso
 rcases hd with h | h | h
 ·exact e1 h
 ·exact e2 h
 exact e3 h
end Go.Proofs.YtohdipdgnnamlaaGreatDoor
end
section
set_option linter.unusedVariables false
set_option linter.unusedSimpArgs false
set_option maxRecDepth 100000
set_option maxHeartbeats 1000000
namespace Go.Proofs.YtohdipdgnnamlaaGreatDoor
open Go.Abs
theorem need_c (b o t : List GObj) (L : List (ByteArray × AV)) (x : GObj) (hl : x.refs.length < 1099511627776) (hr : ∀ s ∈ x.refs, ∃ y, mget L s = some (pO y)) :
  ACalls Tryz.prog 28 [.ref 975 0 0 0, pO x] (mgH b o t L) (fun r H' => r = .tup [] ∧ H' = mgH b o t L) := by
 have hml : (x.refs.map encStr).length = x.refs.length := List.length_map _
 refine Bd Tryz.func28 rfl Tryz.ntmps28<|Sq<|Rg<|Dd mv'<|Dd (by exact opd_nilCheck_pad rfl rfl)<|Dd (fp' fo49_3)<|Dd (lp' Tryz.isAgg27 (hi := rfl))<|Dd (ll' Tryz.underlying27)<|Dd mv'<|Zz<|awp_block ?_
 refine awp_loop (σ := Nat) (fun k => ([(0, .ref 975 0 0 0), (10, .pv (slStrs x.refs)), (11, iv ((x.refs.map encStr).length : Int)), (12, iv (k : Int))], mgH b o t L)) (fun k => k ≤ x.refs.length) (fun k => x.refs.length - k) 0 (Nat.zero_le _) ?_ ?_
 ·exact E0
 intro k hk
 refine Sq<|Rg<|Dd lss'<|Zz<|Sq ?_
 refine Cn (fun hc1 => ?_) fun hc1 => ?_
 ·have hlt : k < x.refs.length := by have := of_decide_eq_true hc1; omega
  obtain ⟨s, hs⟩ := get_of_lt hlt
  have hi := map_get (f := encStr) hs
  obtain ⟨y, hy⟩ := hr s (List.mem_of_getElem? hs)
  refine awp_skip<|Sq<|awp_block<|Sq<|Rg<|Dd (xp' so27)<|Dd (lp' Tryz.isAgg9)<|Dd as'<|Zz<|Sq<|Sq<|Rg<|Dd mv'<|Dd nc'<|Dd (fr' fo72_3)<|Dd (l1' Tryz.isAgg68)<|Dd mv'<|Dd (by exact x_lookup_p (κ := strK) (k := s) (l := L) rfl Tryz.underlying68 Tryz.underlying9 rfl rfl rfl rfl rfl Tryz.zeroValue74 (.inl rfl) (show (mget L s).getD (.pv .nilp) = pO y by rw [hy]; rfl))<|Dd (by exact opd_pne_n rfl Tryz.underlying74 rfl rfl (p := some (encObj y)) rfl)<|Zz ?_
  refine Cn (fun hc2 => ?_) fun hc2 => ?_
  ·skip
   refine awp_exit<|Rg<|Dd ad'<|Dd mv'<|Zz ?_
   exact ⟨k + 1, by omega, by omega, E0⟩
  skip
  cases hc2
 skip
 refine awp_exit ?_
 exact aret0 (.inl rfl) rfl Fin.refl ⟨rfl, rfl⟩
end Go.Proofs.YtohdipdgnnamlaaGreatDoor
end
section
set_option linter.unusedVariables false
set_option linter.unusedSimpArgs false
set_option maxRecDepth 100000
set_option maxHeartbeats 1000000
namespace Go.Proofs.YtohdipdgnnamlaaGreatDoor
open Go.Abs
def noKey : List (ByteArray × AV) := []
def nOb : Ob := ⟨0, 0, 0, []⟩
def nBox : Ob := bx 1 70 [.mp 974 0]
def nIt : Ob := ⟨0, 0, 0, irows (.mp 974 0) 0 0 []⟩
theorem keysN_c (H : Heap) (h : H.get 976 = none) : ACalls Tryz.prog 30 [.mp 974 0] H (fun r H' => r = .clo 57 [.ref 976 0 0 0] ∧ H' = (976, nBox) :: H) := by
 refine Bd Tryz.func30 rfl Tryz.ntmps30<|Sq<|Rg<|Dd (by exact opd_box (id := 976) rfl rfl rfl rfl h)<|Dd as'<|Zz<|Sq<|Rg<|Dd (by exact opd_makeFunc rfl rfl)<|Dd as'<|Zz<|awp_ret ?_
 refine aret1 (H' := ((976, nBox) :: H)) (.inr rfl) rfl (rval_tmp rfl) Fin.refl ?_
 exact ⟨rfl, rfl⟩
theorem keysN1_c (fv : AV) (H : Heap) (hc : Closed H) (hf : Clo H fv) (h1 : H.get 976 = some nBox) (h2 : H.get 974 = some nOb) (h3 : H.get 946 = none) :
  ACalls Tryz.prog 57 [fv, .ref 976 0 0 0] H (fun r H' => r = .tup [] ∧ H' = H) := by
 refine Bd Tryz.func57 rfl Tryz.ntmps57<|Sq<|Rg<|Dd (by exact opd_load1_ref rfl Tryz.isAgg70 rfl h1 rfl rfl rfl)<|Dd (by exact opd_range (q := 946) (κ := strK) (l := noKey) rfl Tryz.underlying70 rfl h2 rfl rfl rfl h3)<|Zz<|awp_block ?_
 refine awp_loop (σ := Unit) (fun _ => ([(0, fv), (5, .it 946 0)], (946, nIt) :: H)) (fun _ => True) (fun _ => 0) () trivial ?_ ?_
 ·exact E0
 rintro _ _
 refine Sq<|Rg ?_
 refine al_r rfl rfl (opr_next (κ := strK) (l := noKey) rfl rfl rfl rfl rfl h2 rfl rfl rfl (Nat.le_refl _) (Nat.le_refl _)) ?_
 rintro _ _ (⟨rfl, rfl, hn0⟩ | ⟨hni, hnp, hn1, hn2, rfl, rfl⟩)
 ·skip
  refine Dd ex'<|Zz<|Sq ?_
  refine Cn (fun hc1 => ?_) fun hc1 => ?_
  ·skip
   cases hc1
  skip
  refine awp_exit ?_
  exact aret0 (H' := H) (.inl rfl) rfl (Fin.pops' [(946, nIt)] (by simp) hc (by simp [h3]) (by simp [h3])) ⟨rfl, rfl⟩
 cases hn1
def nE8 : Env := [(2, .ref 942 0 0 0)]
def nLs : Ob := bx 1 39 [.pv (.sl [])]
theorem nK_closed {K : Heap} {x : Go.Loop} (h : Closed K) : Closed ((944, LR x nE8) :: (942, nLs) :: K) := by
 refine Closed.app (D := [(944, LR x nE8), (942, nLs)]) ?_ h
 refine ClosedL.spec ⟨LR_clo (by simp [nE8]; rfl), ?_, trivial⟩
 intro r hr a ha
 simp only [nLs, bx, List.mem_singleton] at hr
 subst hr
 rw [List.mem_singleton] at ha
 subst ha
 exact .pv _
theorem appendN_c (K : Heap) (hc : Closed K) (k2 : K.get 942 = none) (k4 : K.get 944 = none) (k6 : K.get 946 = none) (h1 : K.get 976 = some nBox) (h2 : K.get 974 = some nOb) :
  ACalls Tryz.prog 98 [.pv (.sl []), .clo 57 [.ref 976 0 0 0]] K (fun r H' => r = .pv (.sl []) ∧ H' = K) := by
 refine Bd Tryz.func98 rfl Tryz.ntmps98<|Sq<|Rg<|Dd (by exact opd_box (id := 942) rfl rfl rfl rfl k2)<|Dd as'<|Zz<|Sq<|Sq<|Rg<|Dd mv'<|Zz<|awp_block ?_
 refine AWp.ent (E' := [(2, .ref 942 0 0 0), (6, .clo 57 [.ref 976 0 0 0])]) (H' := (942, nLs) :: K) (Ent.get' ⟨⟨_, rfl, rfl⟩, ⟨_, rfl, rfl⟩, trivial⟩ (fun j => rfl)) ?_
 refine awp_range (id := 944) (p := 7) nE8 rfl Tryz.call57 rfl k4 (by simp [nE8]; rfl) ?_
 intro x hx1 hx2 hx3 hx4 hx5 hx6
 refine (keysN1_c (.yld 944 0) ((944, LR x nE8) :: (942, nLs) :: K) (nK_closed hc) (by simp; rfl) h1 h2 k6).mono ?_
 rintro r H' ⟨rfl, rfl⟩
 refine ⟨x, _, rfl, by rw [hx1]; decide, rfl, fun z => ?_⟩
 rw [hx2]
 refine Sq<|Rg<|Dd (l1' Tryz.isAgg39)<|Dd as'<|Zz<|awp_ret ?_
 refine aret1 (H' := K) (.inr rfl) rfl (rval_tmp rfl) (Fin.pops' [(944, LR z nE8), (942, nLs)] (by simp) hc (by simp [k2, k4]) (by simp [k2, k4])) ?_
 exact ⟨rfl, rfl⟩
theorem collectN_c (K : Heap) (hc : Closed K) (k2 : K.get 942 = none) (k4 : K.get 944 = none) (k6 : K.get 946 = none) (h1 : K.get 976 = some nBox) (h2 : K.get 974 = some nOb) :
  ACalls Tryz.prog 55 [.clo 57 [.ref 976 0 0 0]] K (fun r H' => r = .pv (.sl []) ∧ H' = K) := by
 refine Bd Tryz.func55 rfl Tryz.ntmps55<|Sq<|Rg<|Dd as'<|Zz<|Sq<|Rg<|Dd mv'<|Dd (by exact opr_call rfl rfl Tryz.call98 rfl (appendN_c K hc k2 k4 k6 h1 h2))<|Dd as'<|Zz<|awp_ret ?_
 refine aret1 (H' := K) (.inr rfl) rfl (rval_tmp rfl) Fin.refl ?_
 exact ⟨rfl, rfl⟩
theorem len64_c (H : Heap) : ACalls Tryz.prog 121 [.pv (.int .u64 0)] H (fun r H' => r = iv 0 ∧ H' = H) := by
 refine ACalls.pure ?_ (by simp) H
 refine Bd Tryz.func121 rfl Tryz.ntmps121<|Sq<|Rg<|Dd as'<|Zz<|Sq<|Sq<|Rg<|Dd mv'<|Dd ge'<|Zz ?_
 refine Cn (fun hc1 => ?_) fun hc1 => ?_
 ·skip
  cases hc1
 skip
 refine awp_skip<|Sq<|Sq<|Rg<|Dd mv'<|Dd ge'<|Zz ?_
 refine Cn (fun hc2 => ?_) fun hc2 => ?_
 ·skip
  cases hc2
 skip
 refine awp_skip<|Sq<|Sq<|Rg<|Dd mv'<|Dd ge'<|Zz ?_
 refine Cn (fun hc3 => ?_) fun hc3 => ?_
 ·skip
  cases hc3
 skip
 refine awp_skip<|Sq<|Rg<|Dd mv'<|Dd mv'<|Dd (by exact opd_conv_int rfl Tryz.underlying164 Tryz.underlying5 rfl (by exact wu8 (by omega) (by omega)))<|Dd (by exact opd_index_str rfl Tryz.underlying9 rfl rfl (by omega) (by exact Int.toNat_natCast _) (by decide) rfl)<|Dd (by exact opd_conv_int rfl Tryz.underlying5 Tryz.underlying3 rfl (by rfl))<|Dd (by exact opd_add rfl rfl rfl (by rfl))<|Dd as'<|Zz<|awp_ret ?_
 refine Rt ?_
 exact ⟨rfl, rfl⟩
theorem len_c (H : Heap) : ACalls Tryz.prog 74 [.pv (.int .u64 0)] H (fun r H' => r = iv 0 ∧ H' = H) := by
 refine ACalls.pure ?_ (by simp) H
 refine Bd Tryz.func74 rfl Tryz.ntmps74<|Sq<|Rg<|Dd as'<|Zz<|Sq ?_
 refine Cn (fun hc1 => ?_) fun hc1 => ?_
 ·skip
  cases hc1
 skip
 refine awp_skip<|Sq<|Rg<|Dd mv'<|Dd (by exact opr_call rfl rfl Tryz.call121 rfl (len64_c _))<|Dd as'<|Zz<|awp_ret ?_
 refine Rt ?_
 exact ⟨rfl, rfl⟩
theorem insN_c (f : AV) (H : Heap) (hf : Clo [] f) : ACalls Tryz.prog 153 [.pv (.sl []), iv 0, iv 0, f] H (fun r H' => r = .tup [] ∧ H' = H) := by
 refine ACalls.pure ?_ (by simp [hf]) H
 refine Bd Tryz.func153 rfl Tryz.ntmps153<|Sq<|Rg<|Dd mv'<|Dd ad'<|Dd as'<|Zz<|awp_block ?_
 refine awp_loop (σ := Unit) (fun _ => ([(2, iv 0), (8, iv 1)], [])) (fun _ => True) (fun _ => 0) () trivial ?_ ?_
 ·exact E0
 rintro _ _
 refine Sq<|Sq<|Rg<|Dd mv'<|Dd mv'<|Dd lss'<|Zz ?_
 refine Cn (fun hc1 => ?_) fun hc1 => ?_
 ·skip
  cases hc1
 skip
 refine awp_exit ?_
 exact aret0 (.inl rfl) rfl Fin.refl ⟨rfl, rfl⟩
theorem pdqN_c (f : AV) (n : Int) (H : Heap) (hf : Clo [] f) : ACalls Tryz.prog 99 [.pv (.sl []), iv 0, iv 0, iv n, f] H (fun r H' => r = .tup [] ∧ H' = H) := by
 refine ACalls.pure ?_ (by simp [hf]) H
 refine Bd Tryz.func99 rfl Tryz.ntmps99<|Sq<|Rg<|Dd as'<|Zz<|Sq<|Rg<|Dd as'<|Zz<|awp_block ?_
 refine awp_loop (σ := Unit) (fun _ => ([(0, .pv (.sl [])), (1, iv 0), (2, iv 0), (4, f)], [])) (fun _ => True) (fun _ => 0) () trivial ?_ ?_
 ·exact E0
 rintro _ _
 refine awp_block<|Sq<|Rg<|Dd mv'<|Dd mv'<|Dd (by exact opd_sub rfl rfl rfl (by exact w64 (by omega) (by omega)))<|Dd as'<|Zz<|Sq<|Sq<|Rg<|Dd mv'<|Dd le'<|Zz ?_
 refine Cn (fun hc1 => ?_) fun hc1 => ?_
 ·skip
  refine Sq<|Rg<|Dd mv'<|Dd mv'<|Dd mv'<|Dd mv'<|Dd (by exact opr_call rfl rfl Tryz.call153 rfl (insN_c f _ hf))<|Zz<|awp_ret ?_
  exact aret0 (.inr rfl) rfl Fin.refl ⟨rfl, rfl⟩
 skip
 cases hc1
theorem sortN_c (f : AV) (H : Heap) (hf : Clo [] f) : ACalls Tryz.prog 56 [.pv (.sl []), f] H (fun r H' => r = .tup [] ∧ H' = H) := by
 refine ACalls.pure ?_ (by simp [hf]) H
 refine Bd Tryz.func56 rfl Tryz.ntmps56<|Sq<|Rg<|Dd mv'<|Dd (ll' Tryz.underlying39)<|Dd as'<|Zz<|Rg<|Dd mv'<|Dd mv'<|Dd mv'<|Dd (by exact opd_conv_int rfl Tryz.underlying3 Tryz.underlying137 rfl (by rfl))<|Dd (by exact opr_call rfl rfl Tryz.call74 rfl (len_c _))<|Dd mv'<|Dd (by exact opr_call rfl rfl Tryz.call99 rfl (pdqN_c f 0 _ hf))<|Zz ?_
 exact aret0 (.inl rfl) rfl Fin.refl ⟨rfl, rfl⟩
theorem sortedN_c (K : Heap) (hc : Closed K) (k2 : K.get 942 = none) (k4 : K.get 944 = none) (k6 : K.get 946 = none) (h1 : K.get 976 = some nBox) (h2 : K.get 974 = some nOb) :
  ACalls Tryz.prog 29 [.clo 57 [.ref 976 0 0 0], .pv (.fn 31)] K (fun r H' => r = .pv (.sl []) ∧ H' = K) := by
 refine Bd Tryz.func29 rfl Tryz.ntmps29<|Sq<|Rg<|Dd as'<|Zz<|Sq<|Rg<|Dd mv'<|Dd (by exact opr_call rfl rfl Tryz.call55 rfl (collectN_c K hc k2 k4 k6 h1 h2))<|Dd as'<|Zz<|Sq<|Rg<|Dd mv'<|Dd mv'<|Dd (by exact opr_call rfl rfl Tryz.call56 rfl (sortN_c (.pv (.fn 31)) _ (by simp)))<|Zz<|Sq<|Rg<|Dd mv'<|Dd as'<|Zz<|awp_ret ?_
 refine aret1 (H' := K) (.inr rfl) rfl (rval_tmp rfl) Fin.refl ?_
 exact ⟨rfl, rfl⟩
end Go.Proofs.YtohdipdgnnamlaaGreatDoor
end
section
set_option linter.unusedVariables false
set_option linter.unusedSimpArgs false
set_option maxRecDepth 100000
set_option maxHeartbeats 1000000
namespace Go.Proofs.YtohdipdgnnamlaaGreatDoor
open Go.Abs
structure GDelta where
  id : ByteArray
  was : Bool
  is : Bool
  old : GObj
  new : GObj
/-- The first pair of two lists of objects. -/
def dTakesL : List GObj → List GObj → Bool
  | [], _ => false
  | _ :: _, [] => true
  | x :: _, y :: _ => !slt y.id x.id
def dTakesR : List GObj → List GObj → Bool
  | _, [] => false
  | [], _ :: _ => true
  | x :: _, y :: _ => !slt x.id y.id
def gPairs : Nat → List GObj → List GObj → List GDelta
  | 0, _, _ => []
  | _ + 1, [], [] => []
  | n + 1, x :: a, [] => ⟨x.id, true, false, x, zObj⟩ :: gPairs n a []
  | n + 1, [], y :: b => ⟨y.id, false, true, zObj, y⟩ :: gPairs n [] b
  | n + 1, x :: a, y :: b => if x.id = y.id then ⟨x.id, true, true, x, y⟩ :: gPairs n a b else if slt x.id y.id then ⟨x.id, true, false, x, zObj⟩ :: gPairs n a (y :: b) else ⟨y.id, false, true, zObj, y⟩ :: gPairs n (x :: a) b
def dDiff (d : GDelta) : Bool := !(d.was == d.is) || !gSameO d.old d.new
def gDiff (a b : List GObj) : List GDelta := if gMap a && gMap b then (gPairs (a.length + b.length) a b).filter dDiff else []
/-- Names are in strictly increasing order. -/
theorem sortS_asc {l : List ByteArray} (hn : l.Pairwise (fun a b => a ≠ b)) (hle : (sortS l).Pairwise (fun a b => slt b a = false)) : (sortS l).Pairwise (fun a b => slt a b = true) := by
  have hp : (sortS l).Pairwise (fun a b => a ≠ b) := (sortS_perm l).symm.pairwise hn (fun {a b} h => h.symm)
  refine (hp.and hle).imp fun {a b} h => ?_
  obtain ⟨h1, h2⟩ := h
  cases hc : slt a b with
  | true => rfl
  | false => exact absurd (slt_tri hc h2) h1
theorem slt_toU (a b : ByteArray) : slt a b = decide (toU a < toU b) := by
  unfold slt
  rw [bytesLess_eq, ByteArray.toList_eq, ByteArray.toList_eq]
  rfl
theorem toU_ofU (l : List UInt8) : toU (ofU l) = l := by simp [toU, ofU]
theorem sortS_le (l : List ByteArray) : (sortS l).Pairwise (fun a b => slt b a = false) := by
  unfold sortS
  rw [List.pairwise_map]
  refine List.Pairwise.imp (R := fun (x y : List UInt8) => decide (x ≤ y) = true) (fun {x y} h => ?_) (List.pairwise_mergeSort (le := fun (x y : List UInt8) => decide (x ≤ y)) (fun a b c h1 h2 => decide_eq_true (List.le_trans (of_decide_eq_true h1) (of_decide_eq_true h2))) u8_le_total _)
  rw [slt_toU, toU_ofU, toU_ofU]
  exact decide_eq_false (List.not_lt.2 (of_decide_eq_true h))
end Go.Proofs.YtohdipdgnnamlaaGreatDoor
end
section
set_option linter.unusedVariables false
set_option linter.unusedSimpArgs false
set_option maxRecDepth 100000
set_option maxHeartbeats 1000000
namespace Go.Proofs.YtohdipdgnnamlaaGreatDoor
open Go.Abs
theorem mget_mput : ∀ (L : List (ByteArray × AV)) (k : ByteArray) (v : AV) (s : ByteArray), mget (mput L k v) s = if k = s then some v else mget L s
  | [], k, v, s => rfl
  | (k', a) :: r, k, v, s => by
    rw [mput]
    by_cases e : k' = k
    · rw [if_pos e, mget]
      by_cases e2 : k = s
      · rw [if_pos e2, if_pos e2]
      · rw [if_neg e2, if_neg e2, mget, if_neg (by rw [e]; exact e2)]
    · rw [if_neg e, mget]
      by_cases e2 : k' = s
      · rw [if_pos e2, if_neg (fun h => e (e2.trans h.symm)), mget, if_pos e2]
      · rw [if_neg e2, mget_mput r k v s, mget, if_neg e2]
theorem mget_none : ∀ {L : List (ByteArray × AV)} {s : ByteArray}, mget L s = none ↔ s ∉ L.map Prod.fst
  | [], s => by simp [mget]
  | (k, a) :: r, s => by
    rw [mget, List.map_cons, List.mem_cons, not_or]
    by_cases e : k = s
    · rw [if_pos e]
      exact ⟨fun h => (by cases h), fun h => absurd e.symm h.1⟩
    · rw [if_neg e, mget_none]
      exact ⟨fun h => ⟨fun h2 => e h2.symm, h⟩, fun h => h.2⟩
theorem mput_keys : ∀ (L : List (ByteArray × AV)) (k : ByteArray) (v : AV), k ∈ L.map Prod.fst → (mput L k v).map Prod.fst = L.map Prod.fst
  | [], k, v, h => by cases h
  | (k', a) :: r, k, v, h => by
    rw [mput]
    by_cases e : k' = k
    · rw [if_pos e, List.map_cons, List.map_cons, e]
    · rw [if_neg e, List.map_cons, List.map_cons, mput_keys r k v ?_]
      rw [List.map_cons, List.mem_cons] at h
      exact h.resolve_left (fun h2 => e h2.symm)
theorem mput_nodup {L : List (ByteArray × AV)} (h : (L.map Prod.fst).Nodup) (k : ByteArray) (v : AV) : ((mput L k v).map Prod.fst).Nodup := by
  by_cases hk : k ∈ L.map Prod.fst
  · rw [mput_keys L k v hk]; exact h
  · rw [mput_new v (mget_none.2 hk), List.map_append]
    refine List.nodup_append.2 ⟨h, by simp, fun a ha b hb e => ?_⟩
    simp only [List.map_cons, List.map_nil, List.mem_singleton] at hb
    subst hb; subst e
    exact hk ha
theorem mput_vals {L : List (ByteArray × AV)} (h : ∀ p ∈ L, ∃ y, p.2 = pO y) (k : ByteArray) (y : GObj) : ∀ p ∈ mput L k (pO y), ∃ y, p.2 = pO y := by
  induction L with
  | nil => intro p hp; rw [mput, List.mem_singleton] at hp; subst hp; exact ⟨y, rfl⟩
  | cons q r ih =>
    obtain ⟨k', a⟩ := q
    intro p hp
    rw [mput] at hp
    split at hp
    · rcases List.mem_cons.1 hp with rfl | hp
      · exact ⟨y, rfl⟩
      · exact h p (List.mem_cons_of_mem _ hp)
    · rcases List.mem_cons.1 hp with rfl | hp
      · exact h _ List.mem_cons_self
      · exact ih (fun p hp => h p (List.mem_cons_of_mem _ hp)) p hp
/-- What the merge of an Id is. -/
def mgS (b o t : List GObj) (s : ByteArray) : Option GObj := mgO (look b s) (look o s) (look t s)
structure OutOk (b o t : List GObj) (S : List ByteArray) (L : List (ByteArray × AV)) : Prop where
  nodup : (L.map Prod.fst).Nodup
  inS : ∀ s, s ∈ S → mget L s = (mgS b o t s).map pO
  out : ∀ s, s ∉ S → mget L s = none
  vals : ∀ p ∈ L, ∃ y, p.2 = pO y
theorem OutOk.nil (b o t : List GObj) : OutOk b o t [] [] := ⟨List.nodup_nil, fun _ h => (by cases h), fun _ _ => rfl, fun _ h => (by cases h)⟩
theorem OutOk.put {b o t : List GObj} {S : List ByteArray} {L : List (ByteArray × AV)} (h : OutOk b o t S L) {s : ByteArray} {y : GObj} (hy : mgS b o t s = some y) : OutOk b o t (S ++ [s]) (mput L s (pO y)) where
  nodup := mput_nodup h.nodup _ _
  inS := fun u hu => by
    rw [mget_mput]
    by_cases e : s = u
    · rw [if_pos e, ← e, hy]; rfl
    · rw [if_neg e]
      rcases List.mem_append.1 hu with h1 | h1
      · exact h.inS u h1
      · rw [List.mem_singleton] at h1; exact absurd h1.symm e
  out := fun u hu => by
    rw [List.mem_append, not_or, List.mem_singleton] at hu
    rw [mget_mput, if_neg (fun e => hu.2 e.symm)]
    exact h.out u hu.1
  vals := mput_vals h.vals _ _
theorem OutOk.skip {b o t : List GObj} {S : List ByteArray} {L : List (ByteArray × AV)} (h : OutOk b o t S L) {s : ByteArray} (hy : mgS b o t s = none) : OutOk b o t (S ++ [s]) L where
  nodup := h.nodup
  inS := fun u hu => by
    rcases List.mem_append.1 hu with h1 | h1
    · exact h.inS u h1
    · rw [List.mem_singleton] at h1
      subst h1
      by_cases hs : u ∈ S
      · exact h.inS u hs
      · rw [h.out u hs, hy]; rfl
  out := fun u hu => h.out u (fun h2 => hu (List.mem_append_left _ h2))
  vals := h.vals
theorem OutOk.perm {b o t : List GObj} {S S' : List ByteArray} {L : List (ByteArray × AV)} (h : OutOk b o t S L) (hp : ∀ s, s ∈ S ↔ s ∈ S') : OutOk b o t S' L := ⟨h.nodup, fun s hs => h.inS s ((hp s).2 hs), fun s hs => h.out s (fun h2 => hs ((hp s).1 h2)), h.vals⟩
def sideM (b o t : List GObj) : Nat → List GObj
  | 0 => b
  | 1 => o
  | _ => t
def idsTo (b o t : List GObj) (i : Nat) : List ByteArray := (List.range i).flatMap fun j => (sideM b o t j).map GObj.id
theorem idsTo_succ (b o t : List GObj) (i : Nat) : idsTo b o t (i + 1) = idsTo b o t i ++ (sideM b o t i).map GObj.id := by
  rw [idsTo, idsTo, List.range_succ, List.flatMap_append, List.flatMap_cons, List.flatMap_nil, List.append_nil]
theorem look_notin {m : List GObj} {s : ByteArray} (h : s ∉ m.map GObj.id) : look m s = none := look_none.2 fun o ho e => h (List.mem_map.2 ⟨o, ho, e⟩)
theorem OutOk.all {b o t : List GObj} {L : List (ByteArray × AV)} (h : OutOk b o t (idsTo b o t 3) L) (s : ByteArray) : mget L s = (mgS b o t s).map pO := by
  by_cases hs : s ∈ idsTo b o t 3
  · exact h.inS s hs
  · rw [h.out s hs]
    have e : idsTo b o t 3 = b.map GObj.id ++ o.map GObj.id ++ t.map GObj.id := by
      rw [idsTo_succ, idsTo_succ, idsTo_succ]
      rfl
    rw [e, List.mem_append, List.mem_append, not_or, not_or] at hs
    rw [mgS, look_notin hs.1.1, look_notin hs.1.2, look_notin hs.2]
    rfl
/-- The keys, in order, are the Ids of the merged map. -/
theorem out_sort {b o t m : List GObj} {L : List (ByteArray × AV)} (h : OutOk b o t (idsTo b o t 3) L) (hu : ups m) (hm : ∀ s, look m s = mgS b o t s) : sortS (L.map Prod.fst) = m.map GObj.id := by
  refine asc_eq (f := id) (sortS_asc (List.Pairwise.imp (fun h => h) h.nodup) (sortS_le _)) ?_ fun s => ?_
  · exact List.pairwise_map.2 hu
  · rw [(sortS_perm _).mem_iff]
    have h1 : s ∈ L.map Prod.fst ↔ mget L s ≠ none := by rw [Ne, mget_none]; exact ⟨fun h1 h2 => h2 h1, fun h1 => Classical.not_not.1 h1⟩
    rw [h1, h.all s, ← hm s]
    constructor
    · intro h2
      cases hl : look m s with
      | none => rw [hl] at h2; exact absurd rfl h2
      | some x => exact List.mem_map.2 ⟨x, look_mem hl, look_id hl⟩
    · intro h2
      obtain ⟨x, hx, rfl⟩ := List.mem_map.1 h2
      rw [mem_look hu hx]
      intro h3
      cases h3
end Go.Proofs.YtohdipdgnnamlaaGreatDoor
end
section
set_option linter.unusedVariables false
set_option linter.unusedSimpArgs false
set_option maxRecDepth 100000
set_option maxHeartbeats 1000000
namespace Go.Proofs.YtohdipdgnnamlaaGreatDoor
open Go.Abs
def mgL : Ob := ⟨0, 1, 68, [[.mp 971 0], [.mp 972 0], [.mp 973 0]]⟩
def mgZ : Ob := bx 1 24 [.pv (.sl [])]
def mgX (b o t : List GObj) (L : List (ByteArray × AV)) : Heap := (55, mgL) :: (6, mgZ) :: mgH b o t L
theorem mgOb_clo {K : Heap} (h1 : (K.get 971).isSome = true) (h2 : (K.get 972).isSome = true) (h3 : (K.get 973).isSome = true) (h4 : (K.get 950).isSome = true) (h5 : (K.get 974).isSome = true) : ∀ r ∈ mgOb.rows, ∀ a ∈ r, Clo K a := by
 intro r hr a ha
 rw [mgOb, bx, List.mem_singleton] at hr
 subst hr
 simp only [List.mem_cons, List.not_mem_nil, or_false] at ha
 rcases ha with rfl | rfl | rfl | rfl | rfl
 ·exact .mp h1
 ·exact .mp h2
 ·exact .mp h3
 ·exact .mp h4
 exact .mp h5
theorem outL_clo {K : Heap} {L : List (ByteArray × AV)} (hv : ∀ p ∈ L, ∃ y, p.2 = pO y) : ∀ r ∈ (mOP L).rows, ∀ a ∈ r, Clo K a := by
 intro r hr a ha
 obtain ⟨i, hi⟩ := List.mem_iff_getElem?.1 hr
 obtain ⟨p, hp, rfl⟩ := mrows_get.1 hi
 obtain ⟨y, hy⟩ := hv p (List.mem_of_getElem? hp)
 simp only [List.mem_cons, List.not_mem_nil, or_false] at ha
 rcases ha with rfl | rfl | rfl
 ·exact .pv _
 ·rw [hy]; exact .pad _ _ _
 exact .pv _
theorem noRow_clo {K : Heap} : ∀ r ∈ (⟨0, 0, 0, []⟩ : Ob).rows, ∀ a ∈ r, Clo K a := by
 intro r hr
 cases hr
theorem mgH_clo {b o t : List GObj} {L : List (ByteArray × AV)} (hv : ∀ p ∈ L, ∃ y, p.2 = pO y) : Closed (mgH b o t L) := by
 have h : ClosedL (mgH b o t L) (mgH b o t L) := ⟨mgOb_clo rfl rfl rfl rfl rfl, outL_clo hv, noRow_clo, mrowsP_clo t, mrowsP_clo o, mrowsP_clo b, trivial⟩
 exact Closed.of h.spec
theorem mgL_clo {K : Heap} (h1 : (K.get 971).isSome = true) (h2 : (K.get 972).isSome = true) (h3 : (K.get 973).isSome = true) : ∀ r ∈ mgL.rows, ∀ a ∈ r, Clo K a := by
 intro r hr a ha
 simp only [mgL, List.mem_cons, List.not_mem_nil, or_false] at hr
 rcases hr with rfl | rfl | rfl
 ·rw [List.mem_singleton] at ha; subst ha; exact .mp h1
 ·rw [List.mem_singleton] at ha; subst ha; exact .mp h2
 rw [List.mem_singleton] at ha; subst ha; exact .mp h3
theorem mgZ_clo {K : Heap} : ∀ r ∈ mgZ.rows, ∀ a ∈ r, Clo K a := by
 intro r hr a ha
 rw [mgZ, bx, List.mem_singleton] at hr
 subst hr
 rw [List.mem_singleton] at ha
 subst ha
 exact .pv _
theorem mgX_clo {b o t : List GObj} {L : List (ByteArray × AV)} (hv : ∀ p ∈ L, ∃ y, p.2 = pO y) : Closed (mgX b o t L) := by
 have h : ClosedL (mgX b o t L) (mgX b o t L) := ⟨mgL_clo rfl rfl rfl, mgZ_clo, mgOb_clo rfl rfl rfl rfl rfl, outL_clo hv, noRow_clo, mrowsP_clo t, mrowsP_clo o, mrowsP_clo b, trivial⟩
 exact Closed.of h.spec
theorem oM_keys (l : List GObj) : (oM l).map Prod.fst = l.map GObj.id := by rw [oM, List.map_map]; rfl
def itQ (q : Nat) (l : List (ByteArray × AV)) (s : List Nat) : Ob := ⟨0, 0, 0, irows (.mp q 0) l.length l.length s⟩
theorem sideM_get {b o t : List GObj} {L : List (ByteArray × AV)} : ∀ {i : Nat}, i < 3 → Heap.get (mgX b o t L) (971 + i) = some (mOP (oM (sideM b o t i)))
 | 0, _ => rfl
 | 1, _ => rfl
 | 2, _ => rfl
theorem sideM_idx : ∀ {i : Nat}, i < 3 → mgL.rows[i]? = some [.mp (971 + i) 0]
 | 0, _ => rfl
 | 1, _ => rfl
 | 2, _ => rfl
theorem mgH_sub {b o t : List GObj} {L : List (ByteArray × AV)} {D : Heap} (h : ∀ p ∈ D, Heap.get (mgX b o t L) p.1 = none) : Sub (mgH b o t L) (D ++ mgX b o t L) := by
 intro id ob hid
 have h1 : Heap.get (mgX b o t L) id = some ob := by
  have e1 : id ≠ 55 := fun e => by subst e; cases hid
  have e2 : id ≠ 6 := fun e => by subst e; cases hid
  rw [mgX, get_cons_other _ _ e1, get_cons_other _ _ e2]
  exact hid
 rw [hget_app]
 cases e : D.get id with
 | none => exact h1
 | some x =>
  rw [h _ (mem_of_hget e)] at h1
  cases h1
abbrev moRows (l : List GObj) : List (List AV) := l.map (fun e => (encObj e).map .pv)
theorem moRows_enc (l : List GObj) : moRows l = (l.map encObj).map (·.map .pv) := by rw [List.map_map]; rfl
theorem one_clo {K : Heap} {T : Nat} (p : PV) : ∀ r ∈ (bx 1 T [.pv p]).rows, ∀ a ∈ r, Clo K a := by
 intro r hr a ha
 rw [bx, List.mem_singleton] at hr
 subst hr
 rw [List.mem_singleton] at ha
 subst ha
 exact .pv _
theorem mBP_clo {K : Heap} (h : (K.get 950).isSome = true) : ∀ r ∈ mBP.rows, ∀ a ∈ r, Clo K a := by
 intro r hr a ha
 rw [mBP, bx, List.mem_singleton] at hr
 subst hr
 rw [List.mem_singleton] at ha
 subst ha
 exact .mp h
theorem moRows_next {m : List GObj} {k : Nat} {x : GObj} (h : m[k]? = some x) : moRows (m.take k) ++ [encObj x].map (·.map AV.pv) = moRows (m.take (k + 1)) := by
 rw [take_next h]
 exact ((List.map_append (l₂ := [x])).symm)
theorem mergeM_c (b o t m : List GObj) (hb : okM b) (ho : okM o) (ht : okM t) (gb : gMap b = true) (go : gMap o = true) (gt : gMap t = true) (lb : b.length < 274877906944) (lo : o.length < 274877906944) (lt : t.length < 274877906944) (lm : m.length < 274877906944)
  (hd : ∀ s, tidy (look b s) (look o s) (look t s)) (hu : ups m) (hm : ∀ s, look m s = mgS b o t s) (hcl : ∀ x ∈ m, x.refs.length < 1099511627776 ∧ ∀ s ∈ x.refs, (look m s).isSome = true) :
  ACalls Tryz.prog 10 [.agg [.pv (slObjs b)], .agg [.pv (slObjs o)], .agg [.pv (slObjs t)]] [] (fun r H' => r = .tup [.agg [.pv (slObjs m)], .pv (.sl [])] ∧ H' = []) := by
 have ub : ups b := (gMap_iff.1 gb).2.1
 have uo : ups o := (gMap_iff.1 go).2.1
 have ut : ups t := (gMap_iff.1 gt).2.1
 refine Bd Tryz.func10 rfl Tryz.ntmps10<|Sq<|Rg<|Dd (by exact opd_box (id := 3) rfl rfl rfl rfl rfl)<|Dd (by exact opd_box (id := 4) rfl rfl rfl rfl rfl)<|Dd (by exact opd_box (id := 5) rfl rfl rfl rfl rfl)<|Dd (by exact x_alloc (id := 6) rfl zo24 rfl rfl)<|Dd as'<|Zz<|Sq<|Sq ?_
 refine awp_bool (t := 31) (n := 15) (X := (!gMap b || !gMap o) || !gMap t) ?_ ?_
 ·all_goals refine Dd (by exact opd_loadn_ref rfl Tryz.isAgg24 Tryz.sizeOf24 rfl rfl rfl rfl (by simp only [Zl, encTag, encObj, encStr]; rfl) rfl) ?_
  all_goals refine Dd (by exact opr_call rfl rfl Tryz.call23 rfl (atlasValid_c b _ hb)) ?_
  all_goals refine Dd no' ?_
  all_goals refine Dd mv' ?_
  all_goals refine Sp 22 (fun h22 => ?_) fun h22 => ?_
  all_goals try contradiction
  all_goals first | refine Fo ?_ | refine On (by exact opd_loadn_ref rfl Tryz.isAgg24 Tryz.sizeOf24 rfl rfl rfl rfl (by simp only [Zl, encTag, encObj, encStr]; rfl) rfl) ?_
  all_goals first | refine Fo ?_ | refine On (by exact opr_call rfl rfl Tryz.call23 rfl (atlasValid_c o _ ho)) ?_
  all_goals first | refine Fo ?_ | refine On no' ?_
  all_goals refine Dd pk' ?_
  all_goals refine Dd mv' ?_
  all_goals refine Sp 27 (fun h27 => ?_) fun h27 => ?_
  all_goals try contradiction
  all_goals first | refine Fo ?_ | refine On (by exact opd_loadn_ref rfl Tryz.isAgg24 Tryz.sizeOf24 rfl rfl rfl rfl (by simp only [Zl, encTag, encObj, encStr]; rfl) rfl) ?_
  all_goals first | refine Fo ?_ | refine On (by exact opr_call rfl rfl Tryz.call23 rfl (atlasValid_c t _ ht)) ?_
  all_goals first | refine Fo ?_ | refine On no' ?_
  all_goals refine Dd pk' ?_
  all_goals refine al_nil ?_
  all_goals (exact ⟨⟨_, rfl, by first | (simp only [*, Zo]; done) | (simp_all; done)⟩, rfl, rfl, rfl⟩)
 refine Cn (fun hc1 => ?_) fun hc1 => ?_
 ·skip
  rw [gb, go, gt] at hc1; cases hc1
 skip
 refine awp_skip<|Sq ?_
 refine awp_drawc follows ?_
 refine Cr [3] (fun H1 hH => by exact opd_loadn_ref rfl Tryz.isAgg24 Tryz.sizeOf24 rfl ((hH _ rfl).trans rfl) rfl rfl (by simp only [Zl, encTag, encObj, encStr]; rfl) rfl)<|Cp [971] (fun H1 hH => by exact opr_call rfl rfl Tryz.call24 rfl (objects971_c b ub (by omega) _ ((hH _ rfl).trans rfl)))<|Cr [4] (fun H1 hH => by exact opd_loadn_ref rfl Tryz.isAgg24 Tryz.sizeOf24 rfl ((hH _ rfl).trans rfl) rfl rfl (by simp only [Zl, encTag, encObj, encStr]; rfl) rfl)<|Cp [972] (fun H1 hH => by exact opr_call rfl rfl Tryz.call24 rfl (objects972_c o uo (by omega) _ ((hH _ rfl).trans rfl)))<|Cr [5] (fun H1 hH => by exact opd_loadn_ref rfl Tryz.isAgg24 Tryz.sizeOf24 rfl ((hH _ rfl).trans rfl) rfl rfl (by simp only [Zl, encTag, encObj, encStr]; rfl) rfl)<|Cp [973] (fun H1 hH => by exact opr_call rfl rfl Tryz.call24 rfl (objects973_c t ut (by omega) _ ((hH _ rfl).trans rfl)))<|Cp [950] (fun H1 hH => by exact opd_makeMap (id := 950) strK rfl ((hH _ rfl).trans rfl)) ?_
 refine Cp [974] (fun H1 hH => by exact opd_makeMap (id := 974) strK rfl ((hH _ rfl).trans rfl))<|Cr [950] (fun _ _ => (bu' bo72))<|Cp [975] (fun H1 hH => by exact opd_box (id := 975) rfl rfl rfl rfl ((hH _ rfl).trans rfl))<|Cr [975] (fun _ _ => as') ?_
 refine dc_nil ⟨by kernel_rfl, ?_⟩
 refine Sq<|Sq ?_
 refine awp_drawc follows ?_
 refine Cr [975] (fun _ _ => mv')<|Cr [975] (fun H1 hH => by exact opd_nilCheck_ref rfl rfl ((hH _ rfl).trans rfl) rfl)<|Cr [975] (fun _ h => fh fo72_0 h)<|Cr [975] (fun _ h => lh Tryz.isAgg68 h)<|Cr [975] (fun _ _ => mv')<|Cr [975] (fun H1 hH => by exact opd_nilCheck_ref rfl rfl ((hH _ rfl).trans rfl) rfl)<|Cr [975] (fun _ h => fh fo72_1 h)<|Cr [975] (fun _ h => lh Tryz.isAgg68 h)<|Cr [975] (fun _ _ => mv')<|Cr [975] (fun H1 hH => by exact opd_nilCheck_ref rfl rfl ((hH _ rfl).trans rfl) rfl)<|Cr [975] (fun _ h => fh fo72_2 h)<|Cr [975] (fun _ h => lh Tryz.isAgg68 h)<|Cp [55] (fun H1 hH => by exact x_buildSlice_own (id := 55) rfl so73 rfl rfl rfl rfl (by simp) ((hH _ rfl).trans rfl))<|Cr [55] (fun H1 hH => by exact opd_len_osl rfl Tryz.underlying73 rfl ((hH _ rfl).trans rfl) rfl)<|Cr [] (fun _ _ => mv') ?_
 refine dc_nil ⟨by kernel_rfl, ?_⟩
 refine awp_block ?_
 refine AWp.ent (E' := [(8, .ref 975 0 0 0), (6, .ref 6 0 0 0), (55, .osl 55 0 0 3), (56, iv 3), (57, iv 0)]) (H' := mgX b o t []) (by unfold mgX mgH; exact Ent.wk ⟨⟨_, rfl, rfl⟩, .ref rfl, ⟨_, rfl, rfl⟩, .ref rfl, ⟨_, rfl, rfl⟩, .osl rfl, ⟨_, rfl, rfl⟩, .pv _, ⟨_, rfl, rfl⟩, .pv _, trivial⟩ ⟨⟨_, rfl, rfl⟩, mgL_clo rfl rfl rfl, ⟨_, rfl, rfl⟩, mgZ_clo, ⟨_, rfl, rfl⟩, mgOb_clo rfl rfl rfl rfl rfl, ⟨_, rfl, rfl⟩, outL_clo (fun _ h => (by cases h)), ⟨_, rfl, rfl⟩, noRow_clo, ⟨_, rfl, rfl⟩, mrowsP_clo t, ⟨_, rfl, rfl⟩, mrowsP_clo o, ⟨_, rfl, rfl⟩, mrowsP_clo b, trivial⟩ trivial) ?_
 refine awp_loop2 (fun (i : Nat) (L : List (ByteArray × AV)) => ([(8, .ref 975 0 0 0), (6, .ref 6 0 0 0), (55, .osl 55 0 0 3), (56, iv 3), (57, iv (i : Int))], mgX b o t L)) (fun i L => i ≤ 3 ∧ OutOk b o t (idsTo b o t i) L) (fun i _ => 3 - i) 0 [] ⟨by omega, OutOk.nil b o t⟩ ?_ ?_
 ·exact E0
 rintro i L ⟨hi, hL⟩
 refine Sq<|Rg<|Dd lss'<|Zz<|Sq ?_
 refine Cn (fun hc2 => ?_) fun hc2 => ?_
 ·have hi3 : i < 3 := by have := of_decide_eq_true hc2; omega
  have hg := fun L' => sideM_get (b := b) (o := o) (t := t) (L := L') hi3
  have hg2 : ∀ (o1 : Ob) L', Heap.get ((946, o1) :: mgX b o t L') (971 + i) = some (mOP (oM (sideM b o t i))) := fun o1 L' => (get_cons_other _ _ (by omega)).trans (hg L')
  have hg3 : ∀ (o1 o2 : Ob) L', Heap.get ((946, o1) :: (946, o2) :: mgX b o t L') (971 + i) = some (mOP (oM (sideM b o t i))) := fun o1 o2 L' => (get_cons_other _ _ (by omega)).trans (hg2 o2 L')
  have hlm : (oM (sideM b o t i)).length < 274877906944 := by
   rw [oM_len]
   match i, hi3 with
   | 0, _ => exact lb
   | 1, _ => exact lo
   | 2, _ => exact lt
  refine awp_skip<|Sq<|awp_block<|Sq<|Rg<|Dd (by exact x_index_osl rfl so73 rfl rfl rfl rfl rfl (by omega) (by exact Int.toNat_natCast _) hi3 (Nat.zero_add _))<|Dd (by exact opd_load1_ref rfl Tryz.isAgg68 rfl rfl rfl (sideM_idx hi3) rfl)<|Dd as'<|Zz<|Sq<|Rg<|Dd mv'<|Dd (by exact opd_range (q := 946) (κ := strK) (l := oM (sideM b o t i)) rfl Tryz.underlying68 rfl (hg L) rfl rfl rfl rfl)<|Zz<|awp_block ?_
  refine awp_loop2 (fun (s : List Nat) (L : List (ByteArray × AV)) => ([(8, .ref 975 0 0 0), (6, .ref 6 0 0 0), (55, .osl 55 0 0 3), (56, iv 3), (57, iv (i : Int)), (62, .it 946 0)], (946, itQ (971 + i) (oM (sideM b o t i)) s) :: mgX b o t L)) (fun s L => s.Nodup ∧ (∀ k, k ∈ s → k < (oM (sideM b o t i)).length) ∧ OutOk b o t (idsTo b o t i ++ pick ((oM (sideM b o t i)).map Prod.fst) s) L) (fun s _ => (oM (sideM b o t i)).length - s.length) [] L ⟨List.nodup_nil, by simp, by simpa [pick] using hL⟩ ?_ ?_
  ·exact E0
  rintro s L2 ⟨hnd, hb2, hL2⟩
  refine Sq<|Rg ?_
  refine al_r rfl rfl (opr_next (κ := strK) (l := oM (sideM b o t i)) rfl rfl rfl rfl rfl (hg2 _ L2) rfl rfl rfl (Nat.le_refl _) (Nat.le_refl _)) ?_
  rintro _ _ (⟨rfl, rfl, hn0⟩ | ⟨hni, hnp, hn1, hn2, rfl, rfl⟩)
  ·skip
   refine Dd ex'<|Zz<|Sq ?_
   refine Cn (fun hc3 => ?_) fun hc3 => ?_
   ·skip
    cases hc3
   skip
   refine awp_exit<|Rg<|Dd ad'<|Dd mv'<|Zz ?_
   have hperm := pick_all hnd (L := (oM (sideM b o t i)).map Prod.fst) (by rw [List.length_map]; exact hb2) (by rw [List.length_map]; exact hn0)
   have hL3 : OutOk b o t (idsTo b o t (i + 1)) L2 := hL2.perm fun s => by
    rw [idsTo_succ, List.mem_append, List.mem_append, hperm.mem_iff, oM_keys]
   exact ⟨i + 1, L2, ⟨by omega, hL3⟩, by omega, Ent.front [(946, itQ (971 + i) (oM (sideM b o t i)) s)] [] (K := mgX b o t L2) ⟨⟨_, rfl, rfl⟩, .ref rfl, ⟨_, rfl, rfl⟩, .ref rfl, ⟨_, rfl, rfl⟩, .osl rfl, ⟨_, rfl, rfl⟩, .pv _, ⟨_, rfl, rfl⟩, .pv _, trivial⟩ (by simp; rfl) (by simp) (by simp) (mgX_clo hL2.vals) (by simp; rfl)⟩
  have hlt : hni < (oM (sideM b o t i)).length := (List.getElem?_eq_some_iff.1 hn1).1
  have hb3 : ∀ k, k ∈ s ++ [hni] → k < (oM (sideM b o t i)).length := fun k hk => by
   rcases List.mem_append.1 hk with h | h
   ·exact hb2 k h
   rw [List.mem_singleton] at h; omega
  have hd2 : (s ++ [hni]).Nodup := List.nodup_append.2 ⟨hnd, by simp, fun a ha b hb e => by rw [List.mem_singleton] at hb; subst hb; subst e; exact hn2 ha⟩
  have hlen := nodup_le _ _ hd2 hb3
  rw [List.length_append, List.length_singleton] at hlen
  have hpk := pickMP (seen := s) hn1
  obtain ⟨v, hv⟩ : ∃ v, v = mgS b o t hnp.1 := ⟨_, rfl⟩
  have hcall := ACalls.sub (merge1_c b o t L2 hnp.1 (fun x hx => okS_of (hb.2 x hx)) (fun x hx => okS_of (ho.2 x hx)) (fun x hx => okS_of (ht.2 x hx)) (hd hnp.1)) (mgH_sub (D := [(946, itQ (971 + i) (oM (sideM b o t i)) (s ++ [hni]))]) (by simp; rfl)) (mgH_clo hL2.vals) (by simp; rfl)
  rw [← show mgS b o t hnp.1 = mgO (look b hnp.1) (look o hnp.1) (look t hnp.1) from rfl, ← hv] at hcall
  refine Dd ex'<|Zz<|Sq ?_
  refine Cn (fun hc4 => ?_) fun hc4 => ?_
  ·skip
   refine awp_skip<|awp_block<|Sq<|Rg<|Dd (by exact opd_entry rfl rfl rfl rfl rfl (hg3 _ _ L2) rfl rfl rfl hn1)<|Dd ex'<|Dd as'<|Zz<|Sq ?_
   refine AWp.ent (E' := [(8, .ref 975 0 0 0), (6, .ref 6 0 0 0), (55, .osl 55 0 0 3), (56, iv 3), (57, iv (i : Int)), (62, .it 946 0), (11, sv hnp.1)]) (H' := (946, itQ (971 + i) (oM (sideM b o t i)) (s ++ [hni])) :: mgX b o t L2) (Ent.get' ⟨⟨_, rfl, rfl⟩, ⟨_, rfl, rfl⟩, ⟨_, rfl, rfl⟩, ⟨_, rfl, rfl⟩, ⟨_, rfl, rfl⟩, ⟨_, rfl, rfl⟩, ⟨_, rfl, rfl⟩, trivial⟩ (fun j => get_dup 946 _ _ _ j)) ?_
   refine Rg<|Dd mv'<|Dd mv'<|Dd (by exact opr_call rfl rfl Tryz.call25 rfl (hcall))<|Dd as'<|Zz<|Sq<|Rg<|Dd mv'<|Dd (by exact opd_pne_n rfl Tryz.underlying74 rfl rfl (p := v.map encObj) rfl)<|Zz ?_
   refine Cn (fun hc5 => ?_) fun hc5 => ?_
   ·obtain ⟨y, rfl⟩ : ∃ y, v = some y := by
     revert hc5
     cases v <;> simp
    refine Rg<|Dd mv'<|Dd nc'<|Dd (fr' fo72_3)<|Dd (l1' Tryz.isAgg68)<|Dd mv'<|Dd mv'<|Uu (by exact x_mapUpdate (κ := strK) (l := L2) (v := pO y) (.inl rfl) Tryz.underlying68 Tryz.underlying9 rfl rfl rfl rfl rfl rfl rfl rfl)<|Zz ?_
    refine ⟨s ++ [hni], mput L2 hnp.1 (pO y), ⟨hd2, hb3, ?_⟩, by rw [List.length_append, List.length_singleton]; omega, ?_⟩
    ·rw [hpk, ← List.append_assoc]
     exact hL2.put hv.symm
    exact Ent.get' ⟨⟨_, rfl, rfl⟩, ⟨_, rfl, rfl⟩, ⟨_, rfl, rfl⟩, ⟨_, rfl, rfl⟩, ⟨_, rfl, rfl⟩, ⟨_, rfl, rfl⟩, trivial⟩ (fun j => get_same [_, _, _, _, _] [_, _, _, _, _, _] (by repeat (first | exact trivial | refine ⟨rfl, ?_⟩)) j)
   obtain rfl : v = none := by
    revert hc5
    cases v <;> simp
   refine awp_skip ?_
   refine ⟨s ++ [hni], L2, ⟨hd2, hb3, ?_⟩, by rw [List.length_append, List.length_singleton]; omega, E0⟩
   rw [hpk, ← List.append_assoc]
   exact hL2.skip hv.symm
  skip
  cases hc4
 obtain rfl : i = 3 := by have := of_decide_eq_false hc2; omega
 have hsort := out_sort hL hu hm
 have hlL : L.length = m.length := by
  have h := congrArg List.length hsort
  rw [sortS_length, List.length_map, List.length_map] at h
  exact h
 have hmi : ((m.map GObj.id).map encStr).length = m.length := by rw [List.length_map, List.length_map]
 have hat : ∀ x, x ∈ m → (mget L x.id).getD (.pv .nilp) = pO x := fun x hx => by rw [hL.all x.id, ← hm, mem_look hu hx]; rfl
 have hneed : ∀ x, x ∈ m → ∀ s ∈ x.refs, ∃ y, mget L s = some (pO y) := fun x hx s hs => by
  obtain ⟨y, hy⟩ := Option.isSome_iff_exists.1 ((hcl x hx).2 s hs)
  exact ⟨y, by rw [hL.all s, ← hm, hy]; rfl⟩
 have hso := sorted_cP L ((951, mBP) :: mgX b o t L) (by omega) rfl rfl rfl rfl rfl rfl (Closed.cons (mBP_clo rfl) (mgX_clo hL.vals))
 rw [hsort] at hso
 refine awp_exit<|Sq<|Sq<|Rg<|Dd mv'<|Dd nc'<|Dd (fr' fo72_3)<|Dd (l1' Tryz.isAgg68)<|Dd (by exact opr_call rfl rfl Tryz.call27 rfl (keys_cP _ rfl))<|Dd (by exact opr_call rfl rfl Tryz.call26 rfl (hso))<|Dd (ll' Tryz.underlying27)<|Dd mv'<|Zz<|awp_block ?_
 refine awp_loop (σ := Nat) (fun k => ([(8, .ref 975 0 0 0), (6, .ref 6 0 0 0), (84, .pv (slStrs (m.map GObj.id))), (85, iv (((m.map GObj.id).map encStr).length : Int)), (86, iv (k : Int))], mgX b o t L)) (fun k => k ≤ m.length) (fun k => m.length - k) 0 (Nat.zero_le _) ?_ ?_
 ·exact Ent.front [(951, mBP)] [] (K := mgX b o t L) ⟨⟨_, rfl, rfl⟩, .ref rfl, ⟨_, rfl, rfl⟩, .ref rfl, ⟨_, rfl, rfl⟩, .pv _, ⟨_, rfl, rfl⟩, .pv _, ⟨_, rfl, rfl⟩, .pv _, trivial⟩ (by simp; rfl) (by simp) (by simp) (mgX_clo hL.vals) (by simp; rfl)
 intro k hk
 refine Sq<|Rg<|Dd lss'<|Zz<|Sq ?_
 refine Cn (fun hc6 => ?_) fun hc6 => ?_
 ·have hlt : k < m.length := by have := of_decide_eq_true hc6; omega
  obtain ⟨x, hx⟩ := get_of_lt hlt
  have hxm := List.mem_of_getElem? hx
  have hi : ((m.map GObj.id).map encStr)[k]? = some (encStr x.id) := by rw [List.getElem?_map, List.getElem?_map, hx]; rfl
  have hnd := ACalls.sub (need_c b o t L x (hcl x hxm).1 (hneed x hxm)) (mgH_sub (D := []) (by simp)) (mgH_clo hL.vals) (by simp; exact ⟨rfl, .pad _ _ _⟩)
  refine awp_skip<|Sq<|awp_block<|Sq<|Rg<|Dd (xp' so27)<|Dd (lp' Tryz.isAgg9)<|Dd as'<|Zz<|Rg<|Dd mv'<|Dd mv'<|Dd nc'<|Dd (fr' fo72_3)<|Dd (l1' Tryz.isAgg68)<|Dd mv'<|Dd (by exact x_lookup_p (κ := strK) (k := x.id) (l := L) rfl Tryz.underlying68 Tryz.underlying9 rfl rfl rfl rfl rfl Tryz.zeroValue74 (.inl rfl) (hat x hxm))<|Dd (by exact opr_call rfl rfl Tryz.call28 rfl (hnd))<|Zz<|Rg<|Dd ad'<|Dd mv'<|Zz ?_
  exact ⟨k + 1, by omega, by omega, E0⟩
 skip
 have hso2 := sorted_cP L ((951, mBP) :: (15, bx 1 24 [.pv .nils]) :: mgX b o t L) (by omega) rfl rfl rfl rfl rfl rfl (Closed.cons (mBP_clo rfl) (Closed.cons (one_clo _) (mgX_clo hL.vals)))
 rw [hsort] at hso2
 refine awp_exit<|Sq<|Rg<|Dd (by exact x_alloc (id := 15) rfl zoN24 rfl rfl)<|Zz<|Sq<|Sq<|Rg<|Dd mv'<|Dd nc'<|Dd (fr' fo72_3)<|Dd (l1' Tryz.isAgg68)<|Dd (by exact opr_call rfl rfl Tryz.call27 rfl (keys_cP _ rfl))<|Dd (by exact opr_call rfl rfl Tryz.call26 rfl (hso2))<|Dd (ll' Tryz.underlying27)<|Dd mv'<|Zz<|awp_block ?_
 refine awp_loop2 (fun (k g : Nat) => ([(8, .ref 975 0 0 0), (6, .ref 6 0 0 0), (15, .ref 15 0 0 0), (104, .pv (slStrs (m.map GObj.id))), (105, iv (((m.map GObj.id).map encStr).length : Int)), (106, iv (k : Int))], (150, ⟨g, 6, 49, moRows (m.take k)⟩) :: (15, bx 1 24 [.osl 150 g 0 (m.take k).length]) :: mgX b o t L)) (fun k g => k ≤ m.length) (fun k g => m.length - k) 0 0 (Nat.zero_le _) ?_ ?_
 ·refine (Ent.front [(951, mBP)] [] (K := (15, bx 1 24 [.pv .nils]) :: mgX b o t L) (E' := [(8, .ref 975 0 0 0), (6, .ref 6 0 0 0), (15, .ref 15 0 0 0), (104, .pv (slStrs (m.map GObj.id))), (105, iv (((m.map GObj.id).map encStr).length : Int)), (106, iv 0)]) ⟨⟨_, rfl, rfl⟩, .ref rfl, ⟨_, rfl, rfl⟩, .ref rfl, ⟨_, rfl, rfl⟩, .ref rfl, ⟨_, rfl, rfl⟩, .pv _, ⟨_, rfl, rfl⟩, .pv _, ⟨_, rfl, rfl⟩, .pv _, trivial⟩ (by simp; rfl) (by simp) (by simp) (Closed.cons (one_clo _) (mgX_clo hL.vals)) (by simp; rfl)).trans ?_
  exact Ent.nz 150 6 49 rfl rfl ⟨⟨_, rfl, .same (.ref rfl)⟩, ⟨_, rfl, .same (.ref rfl)⟩, ⟨_, rfl, .same (.ref rfl)⟩, ⟨_, rfl, .same (.pv _)⟩, ⟨_, rfl, .same (.pv _)⟩, ⟨_, rfl, .same (.pv _)⟩, trivial⟩ ⟨⟨_, rfl, rfl, rfl, rfl, .inr ⟨_, _, rfl, rfl, ⟨.own, trivial⟩⟩⟩, ⟨_, rfl, rfl, rfl, rfl, .inl ⟨rfl, mgL_clo rfl rfl rfl⟩⟩, ⟨_, rfl, rfl, rfl, rfl, .inl ⟨rfl, mgZ_clo⟩⟩, ⟨_, rfl, rfl, rfl, rfl, .inl ⟨rfl, mgOb_clo rfl rfl rfl rfl rfl⟩⟩, ⟨_, rfl, rfl, rfl, rfl, .inl ⟨rfl, outL_clo hL.vals⟩⟩, ⟨_, rfl, rfl, rfl, rfl, .inl ⟨rfl, noRow_clo⟩⟩, ⟨_, rfl, rfl, rfl, rfl, .inl ⟨rfl, mrowsP_clo t⟩⟩, ⟨_, rfl, rfl, rfl, rfl, .inl ⟨rfl, mrowsP_clo o⟩⟩, ⟨_, rfl, rfl, rfl, rfl, .inl ⟨rfl, mrowsP_clo b⟩⟩, trivial⟩ trivial
 intro k g hk
 refine Sq<|Rg<|Dd lss'<|Zz<|Sq ?_
 refine Cn (fun hc7 => ?_) fun hc7 => ?_
 ·have hlt : k < m.length := by have := of_decide_eq_true hc7; omega
  obtain ⟨x, hx⟩ := get_of_lt hlt
  have hxm := List.mem_of_getElem? hx
  have hi : ((m.map GObj.id).map encStr)[k]? = some (encStr x.id) := by rw [List.getElem?_map, List.getElem?_map, hx]; rfl
  have hkl : (m.take k).length = k := by rw [List.length_take]; omega
  have hkl2 : (m.take (k + 1)).length = k + 1 := by rw [List.length_take]; omega
  refine awp_skip<|Sq<|awp_block<|Sq<|Rg<|Dd (xp' so27)<|Dd (lp' Tryz.isAgg9)<|Dd as'<|Zz ?_
  refine awp_drawc follows ?_
  refine Cr [15] (fun _ h => fh fo24_0 h)<|Cr [15] (fun _ h => lh Tryz.isAgg22 h)<|Cr [975] (fun _ _ => mv')<|Cr [975] (fun H1 hH => by exact opd_nilCheck_ref rfl rfl ((hH _ rfl).trans rfl) rfl)<|Cr [975] (fun _ h => fh fo72_3 h)<|Cr [975] (fun _ h => lh Tryz.isAgg68 h)<|Cr [] (fun _ _ => mv')<|Cr [950] (fun H1 hH => by exact x_lookup_p (κ := strK) (k := x.id) (l := L) rfl Tryz.underlying68 Tryz.underlying9 rfl ((hH _ rfl).trans rfl) rfl rfl rfl Tryz.zeroValue74 (.inl rfl) (hat x hxm))<|Cr [] (fun H1 hH => by exact opd_nilCheck_pad rfl rfl)<|Cr [] (fun H1 hH => by exact opd_loadn_pad rfl Tryz.isAgg49 Tryz.sizeOf49 rfl rfl (by simp only [Zl, encTag, encObj, encStr]; rfl) rfl)<|Cr [] (fun H1 hH => by exact x_buildSlice [encObj x] rfl so22 rfl rfl rfl rfl rfl (by simp [encObj]))<|Cp [150] (fun H1 hH => by exact x_append (ps := [encObj x]) rfl so22 ei49 rfl ((hH _ rfl).trans rfl) rfl rfl rfl (List.length_map _) rfl (by simp [encObj]) (m := 1) rfl (by omega) (show (m.take k).length + 1 = (m.take (k + 1)).length by omega) (moRows_next hx)) ?_
  refine Cr [15] (fun _ h => fh fo24_0 h)<|Cp [15] (fun H1 hH => by exact x_store_all rfl Tryz.sizeOf22 rfl rfl rfl rfl ((hH _ rfl).trans rfl) rfl rfl rfl) ?_
  refine dc_nil ⟨by kernel_rfl, ?_⟩
  refine Rg<|Dd ad'<|Dd mv'<|Zz ?_
  exact ⟨k + 1, g + 1, by omega, by omega, Ent.get' ⟨⟨_, rfl, rfl⟩, ⟨_, rfl, rfl⟩, ⟨_, rfl, rfl⟩, ⟨_, rfl, rfl⟩, ⟨_, rfl, rfl⟩, ⟨_, rfl, rfl⟩, trivial⟩ (fun j => get_same [_, _] [_, _, _, _] (by repeat (first | exact trivial | refine ⟨rfl, ?_⟩)) j)⟩
 obtain rfl : k = m.length := by have := of_decide_eq_false hc7; omega
 rw [List.take_length]
 have hK : Closed ((150, ⟨g, 6, 49, moRows m⟩) :: (15, bx 1 24 [.osl 150 g 0 m.length]) :: mgX b o t L) := by
  have h : ClosedL ((150, ⟨g, 6, 49, moRows m⟩) :: (15, bx 1 24 [.osl 150 g 0 m.length]) :: mgX b o t L) ((150, ⟨g, 6, 49, moRows m⟩) :: (15, bx 1 24 [.osl 150 g 0 m.length]) :: mgX b o t L) := by
   refine ⟨clo_map _ _ _, ?_, mgL_clo rfl rfl rfl, mgZ_clo, mgOb_clo rfl rfl rfl rfl rfl, outL_clo hL.vals, noRow_clo, mrowsP_clo t, mrowsP_clo o, mrowsP_clo b, trivial⟩
   intro r hr a ha
   rw [bx, List.mem_singleton] at hr
   subst hr
   rw [List.mem_singleton] at ha
   subst ha
   exact .osl rfl
  exact Closed.of h.spec
 have hsn := sortedN_c ((976, nBox) :: (150, ⟨g, 6, 49, moRows m⟩) :: (15, bx 1 24 [.osl 150 g 0 m.length]) :: mgX b o t L) (Closed.cons (by
  intro r hr a ha
  rw [nBox, bx, List.mem_singleton] at hr
  subst hr
  rw [List.mem_singleton] at ha
  subst ha
  exact .mp rfl) hK) rfl rfl rfl rfl rfl
 refine awp_exit<|Sq<|Rg<|Dd mv'<|Dd nc'<|Dd (fr' fo72_4)<|Dd (l1' Tryz.isAgg70)<|Dd (by exact opr_call rfl rfl Tryz.call30 rfl (keysN_c _ rfl))<|Dd (by exact opr_call rfl rfl Tryz.call29 rfl (hsn))<|Dd as'<|Zz<|Sq<|Rg<|Dd (by exact opd_loadn_ref rfl Tryz.isAgg24 Tryz.sizeOf24 rfl rfl rfl rfl (by simp only [Zl, encTag, encObj, encStr]; rfl) rfl)<|Dd mv'<|Uu (sa' Tryz.sizeOf24)<|Dd as'<|Zz<|awp_ret ?_
 refine aret2 (H' := []) (.inr rfl) rfl (rval_cell rfl Tryz.isAgg24 Tryz.sizeOf24 rfl rfl rfl (by simp only [Zl, encTag, encObj, encStr]; rfl) rfl) (rval_tmp rfl) (Fin.fz (id := 150) (m.map encObj) rfl (moRows_enc m) (.tup (by rfl) (fz_cons (.agg (by rfl) (fz_cons (.osl (by rw [Nat.zero_add, List.drop_zero, ← List.length_map (f := encObj), List.take_length])) fz_nil)) (fz_cons (.same (by simp)) fz_nil))) rfl trivial trivial) ?_
 exact ⟨rfl, rfl⟩
end Go.Proofs.YtohdipdgnnamlaaGreatDoor
end
