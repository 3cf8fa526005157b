/-
  PLAIN: sets that are joined (a forest of indices), and what links join. Conditions: none.
  PLAIN: the groups of a labelling of indices. Conditions: none.
  PLAIN: the units of a change set. Conditions: none.
  THE ABSTRACT LOGIC, 44: a slice of one nil slice; append to a nil slice. Conditions: each rule's own premises.
  GROUPS AS OBJECTS, plain: an owned slice of owned slices of numbers; all of them frozen. Conditions: none.
  CONTRACTS: change.writes, the sets' top and join. Conditions: lengths.
  CONTRACT: change.Units of a valid change set: an owned slice of its units. Conditions: the edits' sizes.
  CONTRACTS: change.Units: its result frozen, or owned. Conditions: the edits' sizes.
  CONTRACTS: lists of Ids compared. Conditions: lengths below 2^62.
  PLAIN LAWS of Go's order of strings. Conditions: none.
  CONTRACTS: planisphereref22.Writes, Same, All; planispherelaw22.few, writes, node. Conditions: lengths.
  CONTRACT: edit.All where each edit is possible, out of the edits' own contracts. Conditions: the maps on the way are closed and of a moderate size.
  CONTRACT: planispherelaw22.head answers true. Conditions: none.
-/
import Derived.Test.YtlnfjkdacimblaaGreatDoorKW2M10
set_option linter.unusedVariables false
set_option linter.unusedSimpArgs false
set_option maxRecDepth 100000
set_option maxHeartbeats 2000000
namespace Go.Proofs.YtlnfjkdacimblaaGreatDoor
section
/-- One step up. -/
def upAt (u:List Nat) (i:Nat):Nat:=u.getD i i
def topN:Nat→List Nat→Nat→Nat
 | 0,_,i=>i
 | n+1,u,i=>if upAt u i=i then i else topN n u (upAt u i)
/-- The top of an index. -/
def top (u:List Nat) (i:Nat):Nat:=topN i u i
/-- No index is above its own. -/
def UpOk (u:List Nat):Prop:=∀ i,upAt u i≤i
theorem topN_fuel {u:List Nat} (h:UpOk u):∀ (n m i:Nat),i≤n→i≤m→topN n u i=topN m u i
 | 0,m,i,h1,h2=>by
  obtain rfl:i=0:=by omega
  cases m with
  | zero=>rfl
  | succ m=>rw [topN,topN,if_pos (by have:=h 0;omega)]
 | n+1,0,i,h1,h2=>by
  obtain rfl:i=0:=by omega
  rw [topN,topN,if_pos (by have:=h 0;omega)]
 | n+1,m+1,i,h1,h2=>by
  rw [topN,topN]
  by_cases e:upAt u i=i
  ·rw [if_pos e,if_pos e]
  rw [if_neg e,if_neg e]
  have:=h i
  exact topN_fuel h n m _ (by omega) (by omega)
theorem top_step {u:List Nat} (h:UpOk u) (i:Nat):top u i=if upAt u i=i then i else top u (upAt u i):=by
 by_cases e:upAt u i=i
 ·rw [if_pos e,top]
  cases i with
  | zero=>rfl
  | succ i=>rw [topN,if_pos e]
 rw [if_neg e,top,top]
 have:=h i
 obtain ⟨j,rfl⟩:∃ j,i=j+1:=⟨i - 1,by omega⟩
 rw [topN,if_neg e]
 exact topN_fuel h _ _ _ (by omega) (Nat.le_refl _)
theorem top_self {u:List Nat} (h:UpOk u) {i:Nat} (e:upAt u i=i):top u i=i:=by rw [top_step h,if_pos e]
theorem top_up {u:List Nat} (h:UpOk u) {i:Nat} (e:upAt u i≠i):top u i=top u (upAt u i):=by rw [top_step h,if_neg e]
theorem top_props {u:List Nat} (h:UpOk u):∀ n i,i≤n→top u i≤i∧upAt u (top u i)=top u i
 | 0,i,hi=>by
  obtain rfl:i=0:=by omega
  have e:upAt u 0=0:=by have:=h 0;omega
  rw [top_self h e]
  exact⟨Nat.le_refl _,e⟩
 | n+1,i,hi=>by
  by_cases e:upAt u i=i
  ·rw [top_self h e];exact⟨Nat.le_refl _,e⟩
  have h1:=h i
  obtain ⟨h2,h3⟩:=top_props h n (upAt u i) (by omega)
  rw [top_up h e]
  exact⟨by omega,h3⟩
theorem top_le {u:List Nat} (h:UpOk u) (i:Nat):top u i≤i:=(top_props h i i (Nat.le_refl _)).1
theorem top_root {u:List Nat} (h:UpOk u) (i:Nat):upAt u (top u i)=top u i:=(top_props h i i (Nat.le_refl _)).2
/-- The sets of two indices joined. -/
def joinU (u:List Nat) (a b:Nat):List Nat:=u.set (max (top u a) (top u b)) (min (top u a) (top u b))
theorem joinU_len (u:List Nat) (a b:Nat):(joinU u a b).length=u.length:=List.length_set
theorem upAt_set {u:List Nat} {M m:Nat} (hM:M < u.length) (i:Nat):upAt (u.set M m) i=if i=M then m else upAt u i:=by
 unfold upAt
 rw [List.getD_eq_getElem?_getD,List.getD_eq_getElem?_getD,List.getElem?_set]
 by_cases e:i=M
 ·subst e
  rw [if_pos rfl,if_pos rfl,if_pos hM];rfl
 rw [if_neg e,if_neg (Ne.symm e)]
theorem joinU_ok {u:List Nat} (h:UpOk u) {a b:Nat} (ha:a < u.length) (hb:b < u.length):UpOk (joinU u a b):=by
 intro i
 have h1:=top_le h a
 have h2:=top_le h b
 rw [joinU,upAt_set (by omega)]
 by_cases e:i=max (top u a) (top u b)
 ·rw [if_pos e];omega
 rw [if_neg e];exact h i
theorem top_join {u:List Nat} (h:UpOk u) {a b:Nat} (ha:a < u.length) (hb:b < u.length):∀ n z,z≤n→top (joinU u a b) z=if top u z=max (top u a) (top u b)then min (top u a) (top u b)else top u z:=by
 have h1:=top_le h a
 have h2:=top_le h b
 have r1:=top_root h a
 have r2:=top_root h b
 have h':=joinU_ok h ha hb
 have hup:∀ i,upAt (joinU u a b) i=if i=max (top u a) (top u b)then min (top u a) (top u b)else upAt u i:=fun i=>upAt_set (by omega) i
 obtain ⟨M,hM⟩:∃ M,M=max (top u a) (top u b):=⟨_,rfl⟩
 obtain ⟨m,hm⟩:∃ m,m=min (top u a) (top u b):=⟨_,rfl⟩
 have rM:upAt u M=M:=by rcases Nat.le_total (top u a) (top u b)with g|g<;>(rw [hM];first|rw [Nat.max_eq_right g];exact r2|rw [Nat.max_eq_left g];exact r1)
 have rm:upAt u m=m:=by rcases Nat.le_total (top u a) (top u b)with g|g<;>(rw [hm];first|rw [Nat.min_eq_left g];exact r1|rw [Nat.min_eq_right g];exact r2)
 have hmM:m≤M:=by omega
 rw [← hM,← hm] at hup ⊢
 intro n
 induction n with
 | zero =>
  intro z hz
  obtain rfl:z=0:=by omega
  have e0:upAt u 0=0:=by have:=h 0;omega
  rw [top_self h e0]
  by_cases e:(0:Nat)=M
  ·rw [if_pos e,top_self h' (by rw [hup,if_pos e];omega)];omega
  rw [if_neg e,top_self h' (by rw [hup,if_neg e];exact e0)]
 | succ n ih =>
  intro z hz
  by_cases e0:upAt u z=z
  ·rw [top_self h e0]
   by_cases e:z=M
   ·rw [if_pos e]
    by_cases em:m=M
    ·rw [top_self h' (by rw [hup,if_pos e];omega)];omega
    rw [top_up h' (by rw [hup,if_pos e];omega),hup,if_pos e]
    exact top_self h' (by rw [hup,if_neg em];exact rm)
   rw [if_neg e,top_self h' (by rw [hup,if_neg e];exact e0)]
  have hzM:z≠M:=fun e=>e0 (by rw [e];exact rM)
  have:=h z
  rw [top_up h' (by rw [hup,if_neg hzM];exact e0),hup,if_neg hzM,top_up h e0]
  exact ih _ (by omega)
theorem upAt_snoc (u:List Nat) (i:Nat):upAt (u++[u.length]) i=upAt u i:=by
 unfold upAt
 rw [List.getD_eq_getElem?_getD,List.getD_eq_getElem?_getD]
 rcases Nat.lt_trichotomy i u.length with h|h|h
 ·rw [List.getElem?_append_left h]
 ·subst h
  simp
 rw [List.getElem?_eq_none (by simp;omega),List.getElem?_eq_none (by omega)]
theorem topN_congr {u v:List Nat} (h:∀ i,upAt u i=upAt v i):∀ n i,topN n u i=topN n v i
 | 0,_=>rfl
 | n+1,i=>by rw [topN,topN,h,topN_congr h n]
theorem top_snoc (u:List Nat) (i:Nat):top (u++[u.length]) i=top u i:=topN_congr (upAt_snoc u) _ _
theorem snoc_ok {u:List Nat} (h:UpOk u):UpOk (u++[u.length]):=fun i=>by rw [upAt_snoc];exact h i
theorem nil_ok:UpOk []:=fun i=>Nat.le_of_eq rfl
theorem top_nil (i:Nat):top [] i=i:=top_self nil_ok rfl
/-! ### sets that links join -/
/-- Links do not leave a class. -/
def Inv (L:Nat→Nat→Prop) (f:Nat→Nat):Prop:=∀ i k,L i k→f i=f k
structure Snd (L:Nat→Nat→Prop) (u:List Nat):Prop where
 ok:UpOk u
 sn:∀ f,Inv L f→∀ x,f (top u x)=f x
theorem Snd.nil (L:Nat→Nat→Prop):Snd L []:=⟨nil_ok,fun f _ x=>by rw [top_nil]⟩
theorem Snd.snoc {L:Nat→Nat→Prop} {u:List Nat} (h:Snd L u):Snd L (u++[u.length]):=⟨snoc_ok h.ok,fun f hf x=>by rw [top_snoc];exact h.sn f hf x⟩
theorem Snd.join {L:Nat→Nat→Prop} {u:List Nat} (h:Snd L u) {a b:Nat} (ha:a < u.length) (hb:b < u.length) (hL:∀ f,Inv L f→f a=f b):Snd L (joinU u a b):=by
 refine⟨joinU_ok h.ok ha hb,fun f hf x=>?_⟩
 rw [top_join h.ok ha hb x x (Nat.le_refl _)]
 have e1:=h.sn f hf a
 have e2:=h.sn f hf b
 have e3:=h.sn f hf x
 have e4:=hL f hf
 by_cases e:top u x=max (top u a) (top u b)
 ·rw [if_pos e,← e3,e]
  rcases Nat.le_total (top u a) (top u b)with g|g
  ·rw [Nat.min_eq_left g,Nat.max_eq_right g,e1,e2,e4]
  rw [Nat.min_eq_right g,Nat.max_eq_left g,e1,e2,e4]
 rw [if_neg e];exact e3
theorem join_same {u:List Nat} (h:UpOk u) {a b:Nat} (ha:a < u.length) (hb:b < u.length):top (joinU u a b) a=top (joinU u a b) b:=by
 rw [top_join h ha hb a a (Nat.le_refl _),top_join h ha hb b b (Nat.le_refl _)]
 rcases Nat.le_total (top u a) (top u b)with g|g
 ·rw [Nat.min_eq_left g,Nat.max_eq_right g,if_pos rfl]
  split
  ·rfl
  rfl
 rw [Nat.min_eq_right g,Nat.max_eq_left g,if_pos rfl]
 split<;>rfl
theorem join_keep {u:List Nat} (h:UpOk u) {a b x y:Nat} (ha:a < u.length) (hb:b < u.length) (e:top u x=top u y):top (joinU u a b) x=top (joinU u a b) y:=by
 rw [top_join h ha hb x x (Nat.le_refl _),top_join h ha hb y y (Nat.le_refl _),e]
/-! ### the sets of edits -/
section
variable {S:Type} [DecidableEq S]
def fget:List (S×Nat)→S→Option Nat
 | [],_=>none
 | (k,v)::r,s=>if k=s then some v else fget r s
def wr1 (i:Nat) (st:List Nat×List (S×Nat)) (s:S):List Nat×List (S×Nat):=match fget st.2 s with
 | some k=>(joinU st.1 i k,st.2)
 | none=>(st.1,st.2++[(s,i)])
def us1K (W:Nat→List S):Nat→List Nat×List (S×Nat)
 | 0=>([],[])
 | k+1=>(W k).foldl (wr1 k) ((us1K W k).1++[k],(us1K W k).2)
def wr2 (F:List (S×Nat)) (i:Nat) (u:List Nat) (s:S):List Nat:=match fget F s with
 | some k=>joinU u i k
 | none=>u
def us2K (F:List (S×Nat)) (u:List Nat) (N:Nat→List S):Nat→List Nat
 | 0=>u
 | k+1=>(N k).foldl (wr2 F k) (us2K F u N k)
theorem fget_app:∀ (l:List (S×Nat)) (s t:S) (i:Nat),fget (l++[(t,i)]) s=match fget l s with
  | some k=>some k
  | none=>if t=s then some i else none
 | [],s,t,i=>rfl
 | (k,v)::r,s,t,i=>by
  rw [List.cons_append,fget,fget,fget_app r s t i]
  by_cases e:k=s
  ·rw [if_pos e,if_pos e]
  rw [if_neg e,if_neg e]
structure I1 (L:Nat→Nat→Prop) (W:Nat→List S) (k m:Nat) (st:List Nat×List (S×Nat)):Prop where
 len:st.1.length=m
 snd:Snd L st.1
 at_:∀ s j,fget st.2 s=some j→j < m∧s∈W j
 has:∀ j,j < k→∀ s,s∈W j→(fget st.2 s).isSome=true
theorem wr1_has {i:Nat} {st:List Nat×List (S×Nat)} {s t:S} (h:t=s∨(fget st.2 t).isSome=true):(fget (wr1 i st s).2 t).isSome=true:=by
 unfold wr1
 split
 ·next k hk =>
  rcases h with rfl|h
  ·show (fget st.2 t).isSome=true;rw [hk];rfl
  exact h
 next hk =>
 show (fget (st.2++[(s,i)]) t).isSome=true
 rw [fget_app]
 split
 ·rfl
 next hn =>
 rcases h with rfl|h
 ·rw [if_pos rfl];rfl
 rw [hn] at h;cases h
theorem fold1 {L:Nat→Nat→Prop} {W:Nat→List S} {k:Nat} (hL:∀ j s,j < k+1→s∈W k→s∈W j→∀ f,Inv L f→f k=f j):∀ (ws:List S) (st:List Nat×List (S×Nat)),(∀ s∈ws,s∈W k)→I1 L W k (k+1) st→(∀ s,s∈W k→s∈ws∨(fget st.2 s).isSome=true)→I1 L W (k+1) (k+1) (ws.foldl (wr1 k) st)
 | [],st,_,h,hall=>by
  refine⟨h.len,h.snd,h.at_,fun j hj s hs=>?_⟩
  by_cases e:j=k
  ·subst e
   rcases hall s hs with h1|h1
   ·cases h1
   exact h1
  exact h.has j (by omega) s hs
 | s :: r, st, hw, h, hall => by
  rw [List.foldl_cons]
  refine fold1 hL r _ (fun x hx=>hw x (List.mem_cons_of_mem _ hx)) ?_ ?_
  ·have hsW:=hw s List.mem_cons_self
   refine⟨?_,?_,?_,fun j hj t ht=>wr1_has (.inr (h.has j hj t ht))⟩
   ·unfold wr1
    split
    ·rw [joinU_len];exact h.len
    exact h.len
   ·unfold wr1
    split
    ·next j hj =>
     obtain ⟨a1,a2⟩:=h.at_ s j hj
     exact h.snd.join (by rw [h.len];omega) (by rw [h.len];exact a1) (hL j s a1 hsW a2)
    exact h.snd
   intro t j
   unfold wr1
   split
   ·exact h.at_ t j
   next hn =>
   intro ht
   have ht:fget (st.2++[(s,k)]) t=some j:=ht
   rw [fget_app] at ht
   split at ht
   ·next k2 hk2=>exact h.at_ t j (by rw [hk2];exact ht)
   by_cases e:s=t
   ·rw [if_pos e] at ht
    cases ht
    exact⟨Nat.lt_succ_self _,e▸hsW⟩
   rw [if_neg e] at ht;cases ht
  intro t ht
  rcases hall t ht with h1|h1
  ·rcases List.mem_cons.1 h1 with rfl|h2
   ·exact .inr (wr1_has (.inl rfl))
   exact .inl h2
  exact .inr (wr1_has (.inr h1))
theorem us1_ok {L:Nat→Nat→Prop} {W:Nat→List S} {n:Nat} (hL:∀ i j s,i < n→j < n→s∈W i→s∈W j→∀ f,Inv L f→f i=f j):∀ k,k≤n→I1 L W k k (us1K W k)
 | 0,_=>⟨rfl,Snd.nil L,(fun s j h=>by cases h),fun j hj=>absurd hj (Nat.not_lt_zero _)⟩
 | k+1,hk=>by
  have h:=us1_ok hL k (Nat.le_of_succ_le hk)
  rw [us1K]
  refine fold1 (fun j s hj hs hs2=>hL k j s hk (by omega) hs hs2) (W k) _ (fun s hs=>hs) ⟨?_,?_,fun s j hj=>?_,h.has⟩ (fun s hs=>.inl hs)
  ·show ((us1K W k).1++[k]).length=k+1
   rw [List.length_append,h.len];rfl
  ·have:=h.snd.snoc
   rw [h.len] at this
   exact this
  obtain ⟨a,b⟩:=h.at_ s j hj
  exact⟨by omega,b⟩
structure I2 (L:Nat→Nat→Prop) (F:List (S×Nat)) (N:Nat→List S) (n k:Nat) (u:List Nat):Prop where
 len:u.length=n
 snd:Snd L u
 same:∀ i,i < k→∀ s,s∈N i→∀ j,fget F s=some j→top u i=top u j
theorem fold2 {L:Nat→Nat→Prop} {F:List (S×Nat)} {N:Nat→List S} {n k:Nat} (hk:k < n) (hF:∀ s j,fget F s=some j→j < n) (hL:∀ s j,s∈N k→fget F s=some j→∀ f,Inv L f→f k=f j):∀ (ns:List S) (u:List Nat),(∀ s∈ns,s∈N k)→I2 L F N n k u→(∀ s,s∈N k→s∈ns∨∀ j,fget F s=some j→top u k=top u j)→I2 L F N n (k+1) (ns.foldl (wr2 F k) u)
 | [],u,_,h,hall=>by
  refine⟨h.len,h.snd,fun i hi s hs=>?_⟩
  by_cases e:i=k
  ·subst e
   rcases hall s hs with h1|h1
   ·cases h1
   exact h1
  exact h.same i (by omega) s hs
 | s :: r, u, hw, h, hall => by
  rw [List.foldl_cons]
  cases hg:fget F s with
  | none =>
   have e:wr2 F k u s=u:=by unfold wr2;rw [hg]
   rw [e]
   refine fold2 hk hF hL r u (fun x hx=>hw x (List.mem_cons_of_mem _ hx)) h (fun t ht=>?_)
   rcases hall t ht with h1|h1
   ·rcases List.mem_cons.1 h1 with rfl|h2
    ·exact .inr fun j hj=>by rw [hg] at hj;cases hj
    exact .inl h2
   exact .inr h1
  | some j =>
   have e:wr2 F k u s=joinU u k j:=by unfold wr2;rw [hg]
   have hj:=hF s j hg
   have hkl:k < u.length:=by rw [h.len];exact hk
   have hjl:j < u.length:=by rw [h.len];exact hj
   rw [e]
   refine fold2 hk hF hL r _ (fun x hx=>hw x (List.mem_cons_of_mem _ hx)) ⟨by rw [joinU_len];exact h.len,h.snd.join hkl hjl (hL s j (hw s List.mem_cons_self) hg),fun i hi t ht j2 hj2=>join_keep h.snd.ok hkl hjl (h.same i hi t ht j2 hj2)⟩ (fun t ht=>?_)
   rcases hall t ht with h1|h1
   ·rcases List.mem_cons.1 h1 with rfl|h2
    ·refine .inr fun j2 hj2=>?_
     rw [hg] at hj2
     cases hj2
     exact join_same h.snd.ok hkl hjl
    exact .inl h2
   exact .inr fun j2 hj2=>join_keep h.snd.ok hkl hjl (h1 j2 hj2)
theorem us2_ok {L:Nat→Nat→Prop} {F:List (S×Nat)} {N:Nat→List S} {n:Nat} {u:List Nat} (hu:u.length=n) (hs:Snd L u) (hF:∀ s j,fget F s=some j→j < n) (hL:∀ i s j,i < n→s∈N i→fget F s=some j→∀ f,Inv L f→f i=f j):∀ k,k≤n→I2 L F N n k (us2K F u N k)
 | 0,_=>⟨hu,hs,fun i hi=>absurd hi (Nat.not_lt_zero _)⟩
 | k+1,hk=>by
  have h:=us2_ok hu hs hF hL k (Nat.le_of_succ_le hk)
  rw [us2K]
  exact fold2 hk hF (fun s j=>hL k s j hk) (N k) _ (fun s hs=>hs) h (fun s hs=>.inl hs)
def topsU (W N:Nat→List S) (n:Nat):List Nat:=us2K (us1K W n).2 (us1K W n).1 N n
/-- Two edits are linked: one of them writes what the other one names. -/
def LinkN (W N:Nat→List S) (n i k:Nat):Prop:=i < n∧k < n∧∃ s,s∈N i∧s∈W k
def Lnk (W N:Nat→List S) (n:Nat) (i k:Nat):Prop:=LinkN W N n i k∨LinkN W N n k i
structure Cls (L:Nat→Nat→Prop) (f:Nat→Nat):Prop where
 le:∀ x,f x≤x
 inv:Inv L f
 sn:∀ g,Inv L g→∀ x,g (f x)=g x
theorem tops_ok (W N:Nat→List S) (n:Nat) (hWN:∀ i s,s∈W i→s∈N i):Cls (Lnk W N n) (top (topsU W N n))∧(topsU W N n).length=n∧UpOk (topsU W N n):=by
 have h1:=us1_ok (L:=Lnk W N n) (W:=W) (n:=n) (fun i j s hi hj hs1 hs2 f hf=>hf i j (.inl ⟨hi,hj,s,hWN i s hs1,hs2⟩)) n (Nat.le_refl _)
 have h2:=us2_ok (L:=Lnk W N n) (N:=N) h1.len h1.snd (fun s j h=>(h1.at_ s j h).1) (fun i s j hi hs hj f hf=>hf i j (.inl ⟨hi,(h1.at_ s j hj).1,s,hs,(h1.at_ s j hj).2⟩)) n (Nat.le_refl _)
 refine⟨⟨fun x=>top_le h2.snd.ok x,?_,h2.snd.sn⟩,h2.len,h2.snd.ok⟩
 have key:∀ i k,LinkN W N n i k→top (topsU W N n) i=top (topsU W N n) k:=by
  rintro i k ⟨hi,hk,s,hs1,hs2⟩
  have h3:=h1.has k hk s hs2
  obtain ⟨j,hj⟩:=Option.isSome_iff_exists.1 h3
  exact(h2.same i hi s hs1 j hj).trans (h2.same k hk s (hWN k s hs2) j hj).symm
 intro i k h
 rcases h with h|h
 ·exact key i k h
 exact(key k i h).symm
theorem Cls.idem {L:Nat→Nat→Prop} {f:Nat→Nat} (h:Cls L f) (x:Nat):f (f x)=f x:=h.sn f h.inv x
end
end
section
/-! ### the groups of a labelling -/
def roots (f:Nat→Nat) (n:Nat):List Nat:=(List.range n).filter fun i=>f i=i
def grp (f:Nat→Nat) (n r:Nat):List Nat:=(List.range n).filter fun j=>f j=r
def groups (f:Nat→Nat) (n:Nat):List (List Nat):=(roots f n).map (grp f n)
theorem mem_roots {f:Nat→Nat} {n r:Nat}:r∈roots f n↔r < n∧f r=r:=by
 rw [roots,List.mem_filter,List.mem_range,decide_eq_true_eq]
theorem mem_grp {f:Nat→Nat} {n r j:Nat}:j∈grp f n r↔j < n∧f j=r:=by
 rw [grp,List.mem_filter,List.mem_range,decide_eq_true_eq]
theorem range_sorted (n:Nat):(List.range n).Pairwise (· < ·):=List.pairwise_lt_range
theorem roots_sorted (f:Nat→Nat) (n:Nat):(roots f n).Pairwise (· < ·):=List.Pairwise.filter _ (range_sorted n)
theorem sorted_lt {l:List Nat} (h:l.Pairwise (· < ·)) {i j a b:Nat} (hij:i < j) (ha:l[i]?=some a) (hb:l[j]?=some b):a < b:=by
 obtain ⟨h1,rfl⟩:=List.getElem?_eq_some_iff.1 ha
 obtain ⟨h2,rfl⟩:=List.getElem?_eq_some_iff.1 hb
 exact List.pairwise_iff_getElem.1 h i j h1 h2 hij
theorem sorted_inj {l:List Nat} (h:l.Pairwise (· < ·)) {i j a:Nat} (ha:l[i]?=some a) (hb:l[j]?=some a):i=j:=by
 rcases Nat.lt_trichotomy i j with h1|h1|h1
 ·exact absurd (sorted_lt h h1 ha hb) (Nat.lt_irrefl _)
 ·exact h1
 exact absurd (sorted_lt h h1 hb ha) (Nat.lt_irrefl _)
theorem nodup_sorted {l:List Nat} (h:l.Pairwise (· < ·)):l.Nodup:=List.Pairwise.imp (fun h=>Nat.ne_of_lt h) h
end
end Go.Proofs.YtlnfjkdacimblaaGreatDoor
namespace Go.Proofs.YtlnfjkdacimblaaGreatDoor
open Go.Abs
section
/-- The Ids that an edit writes. -/
def gWrites (e:GEdit):List ByteArray:=if e.op=1 then[e.obj.id] else if e.op=6∨e.op=7 then[e.id,e.other] else[e.id]
def wrOf (l:List GEdit) (i:Nat):List ByteArray:=((l[i]?).map gWrites).getD []
def nmOf (l:List GEdit) (i:Nat):List ByteArray:=((l[i]?).map gNames).getD []
def topsE (l:List GEdit):List Nat:=topsU (wrOf l) (nmOf l) l.length
/-- The units of a change set. -/
def gUnits (l:List GEdit):List (List Nat):=if gChange l then groups (top (topsE l)) l.length else[]
theorem writes_names {e:GEdit} (hv:gEditV e=true) {s:ByteArray} (h:s∈gWrites e):s∈gNames e:=by
 obtain ⟨⟨h1,h2⟩,h3,h4⟩:=gEditV_iff.1 hv
 rw [names_mem hv]
 rw [gWrites] at h
 by_cases e1:e.op=1
 ·rw [if_pos e1,List.mem_singleton] at h
  exact⟨by rw [h];simp [raw],h▸okOf_obj h3 e1⟩
 rw [if_neg e1] at h
 by_cases e6:e.op=6∨e.op=7
 ·rw [if_pos e6] at h
  rcases List.mem_cons.1 h with h|h
  ·exact⟨by rw [h];simp [raw],h▸okOf_id h3 e1⟩
  rw [List.mem_singleton] at h
  exact⟨by rw [h];simp [raw],h▸okOf_other h3 e6⟩
 rw [if_neg e6,List.mem_singleton] at h
 exact⟨by rw [h];simp [raw],h▸okOf_id h3 e1⟩
theorem gChange_all {l:List GEdit} (h:gChange l=true):0 < l.length∧l.length≤200∧∀ e∈l,gEditV e=true:=by
 rw [gChange,Bool.and_eq_true,Bool.and_eq_true,decide_eq_true_eq,decide_eq_true_eq,Bool.not_eq_true',List.any_eq_false] at h
 obtain ⟨⟨h1,h2⟩,h3⟩:=h
 exact⟨by omega,by omega,fun e he=>by have:=h3 e he;simpa using this⟩
theorem wr_nm {l:List GEdit} (h:gChange l=true) (i:Nat) (s:ByteArray) (hs:s∈wrOf l i):s∈nmOf l i:=by
 rw [wrOf] at hs
 rw [nmOf]
 cases e:l[i]? with
 | none=>rw [e] at hs;cases hs
 | some x =>
  rw [e] at hs
  exact writes_names ((gChange_all h).2.2 x (List.mem_of_getElem? e)) hs
/-- Two edits are linked. -/
def LnkE (l:List GEdit):Nat→Nat→Prop:=Lnk (wrOf l) (nmOf l) l.length
theorem topsE_ok {l:List GEdit} (h:gChange l=true):Cls (LnkE l) (top (topsE l))∧(topsE l).length=l.length∧UpOk (topsE l):=tops_ok _ _ _ (wr_nm h)
end
end Go.Proofs.YtlnfjkdacimblaaGreatDoor
namespace Go.Abs
section
section
variable {P:Program} {N:Nat} {o:Oper} {E:Env} {H:Heap} {T:TypeId} {x y:Operand}
theorem x_build_nils {e:TypeId} (ho:o.op=.buildSlice T 1 #[(0,.const (.slice none 0 0))]) (hS:SliceOf P T e 1):OpD P N o E H (.pv (.sl [[.nils]])) H:=by
 obtain ⟨hT,hs,hsz,z,hz⟩:=hS
 intro a w I ι _ _ hrel he K Q hk
 obtain ⟨a',ha'⟩:∃ a':Act,a'={a with tmps:=#[.slice none 0 0]}:=⟨_,rfl⟩
 have he':ERel w I ι H [(0,.pv .nils)] a':=fun t v ht=>by
  have:=mem_of_get ht
  rw [List.mem_singleton] at this
  cases this
  exact⟨.slice none 0 0,by rw [ha'];rfl,.pv .nils⟩
 obtain ⟨c2,k1,k2,_,k4⟩:=fill_rows (c:=(Array.range (1*1)).map (z.cells[· % z.cells.size]!)) (ps:=[(0,.tmp 0)]) (aps:=[(0,.pv .nils)]) (rows:=[[.pv .nils]]) (k:=0) he' 1 rfl rfl (fun r hr=>by
  rw [List.mem_singleton] at hr;subst hr;rfl) (by rw [made_size];simp)
 have hev:([((0:Nat),(Operand.tmp 0))].map fun p=>(p.1,a'.eval p.2))=[((0:Nat),Value.slice none 0 0)]:=by rw [ha'];rfl
 rw [hev] at k1
 have hsz':c2.size=1:=by rw [k2,made_size]
 have hrun:(Instr.buildSlice T 1 (#[((0:Nat),(Operand.const (.slice none 0 0)))].map fun p=>(p.1,a.eval p.2))).run P w=.ok (.slice (some ⟨w.heap.size,0,none⟩) 1 1) (w.alloc (.cells c2 e)):=by
  have h2:(#[((0:Nat),(Operand.const (.slice none 0 0)))].map fun p=>(p.1,a.eval p.2)).toList=[((0:Nat),Value.slice none 0 0)]:=by rw [Array.toList_map];rfl
  simp only [Instr.buildSlice,Sem.run_bind,run_underlying hT,Result.andThen_ok,hs,Sem.run_ite,show ¬ (1*1 > 2 ^ 24)by decide,if_false,show ¬ (1*1=0)by decide,hz,Sem.run_pure,h2,k1,newRow,run_newObj]
  rfl
 obtain ⟨m1,m2⟩:=Rel.newImm (c:=c2) (t:=e) (w':=w.alloc (.cells c2 e)) hrel rfl rfl rfl rfl
 unfold Oper.wpW execOp
 simp only [ho,Sem.run_bind,hrun,Result.andThen_ok,Sem.run_pure]
 refine hk _ _ _ ι _ _ ⟨rfl,rfl⟩ (.pv ?_) m1 m2
 have hcell:∀ j,(w.alloc (.cells c2 e)).cell? ⟨w.heap.size,j,none⟩=c2[j]?:=fun j=>World.cell?_alloc_new w c2 e j
 have hrow:∀ (i:Nat) (r:List PV),([[PV.nils]]:List (List PV))[i]?=some r→(([[PV.nils]]:List (List PV)).map (·.map AV.pv))[i]?=some (r.map .pv):=fun i r h=>by rw [List.getElem?_map,h];rfl
 exact PRep.sl (w:=w.alloc (.cells c2 e)) (I:=fun b=>I b∨b=w.heap.size) w.heap.size 0 1 1 [[.nils]] (fun i k=>(c2[i*1+k]?).getD undef) (.inr rfl) Nat.zero_lt_one (fun r hr=>by rw [List.mem_singleton] at hr;subst hr;rfl) (by simp)
  (fun i r hi k p hk=>by
   obtain ⟨u,q1,q2,q3⟩:=k4 i (r.map .pv) (hrow i r hi) k (.pv p) (by simp [hk])
   rw [Nat.zero_add] at q1
   rw [hcell,Nat.zero_add,q1];rfl)
  (fun i r hi k p hk=>by
   obtain ⟨u,q1,q2,q3⟩:=k4 i (r.map .pv) (hrow i r hi) k (.pv p) (by simp [hk])
   rw [Nat.zero_add] at q1
   rw [q1]
   exact(q3.mono hrel m2).pv_inv)
/-- An operation whose operand is a nil slice: the slice is owned from here on. -/
theorem OpD.nilown {t id sz:Nat} {ty:TypeId} {v:AV} {H2:Heap} (hx:E.get t=some (.pv .nils)) (hid:H.get id=none) (hsz:Nat.blt 0 sz=true)
  (h:OpD P N o ((t,.osl id 0 0 0)::E) ((id,⟨0,sz,ty,[]⟩)::H) v H2):OpD P N o E H v H2:=by
 intro a w I ι _ hN hr he K Q hk
 have hz:0 < sz:=by simpa [Nat.blt_eq] using hsz
 obtain ⟨c,hc,hv⟩:=he t _ hx
 obtain ⟨k1,k2⟩:=Rel.adopt (sz:=sz) (ty:=ty) hr hid hz
 have hvn:c=.slice none 0 0:=by
  have:=hv.pv_inv
  cases this;rfl
 subst hvn
 refine h a w I _ trivial hN k1 (fun u x hu=>?_) K Q (fun c' w' I' ι' r H' hR hv' hr' hs'=>hk c' w' I' ι' r H' hR hv' hr' (k2.trans hs'))
 by_cases e:t=u
 ·subst e
  rw [Env.get_cons_same] at hu;cases hu
  exact⟨_,hc,.osl ⟨0,sz,ty,[]⟩ (get_cons_same _ _ _) (Nat.le_refl _) rfl fun _=>⟨hz,Nat.le_refl _,.inr ⟨by simp,rfl,rfl,rfl⟩⟩⟩
 rw [Env.get_cons_other _ _ e] at hu
 obtain ⟨c,h1,h2⟩:=he u x hu
 exact⟨c,h1,h2.mono hr k2⟩
/-- Append to a nil slice: an object of its own. -/
theorem x_append_nils {e:TypeId} {t m sz bytes id:Nat} {ps:List (List PV)} {rows':List (List AV)} (ho:o.op=.call {callee:=.builtin .append,args:=#[.tmp t,y],argTypes:=#[T,T]}) (hS:SliceOf P T e sz) (hinf:EI P e sz bytes)
  (hx:E.get t=some (.pv .nils)) (hy:aeval ((t,.osl id 0 0 0)::E) y=some (.pv (.sl ps))) (hrl:∀ r∈ps,r.length=sz) (hm:ps.length=m) (hbytes:m*bytes≤140737488355328) (hrows:ps.map (·.map AV.pv)=rows') (hid:H.get id=none) :
  OpD P N o E H (.osl id 1 0 m) ((id,⟨1,sz,e,rows'⟩)::(id,⟨0,sz,e,[]⟩)::H):=by
 have hz:0 < sz:=hS.2.2.1
 refine OpD.nilown (id:=id) (sz:=sz) (ty:=e) hx hid (by simpa [Nat.blt_eq] using hz) ?_
 exact x_append (ps:=ps) ho hS hinf (n:=0) (m:=m) (ob:=⟨0,sz,e,[]⟩) (by simp [aeval,Env.get,beq_self]) (get_cons_same _ _ _) rfl rfl rfl rfl hy hrl hm (by rw [Nat.zero_add];exact hbytes) (Nat.zero_add _) (by simpa using hrows)
end
/-- A call's result in another writing. -/
theorem ACalls.fin {P:Program} {f:FuncId} {args:List AV} {H:Heap} {Q Q':AV→Heap→Prop} (h:ACalls P f args H Q) (hq:∀ r H1,Q r H1→∃ r' H2,Fin H H1 r H2 r'∧Q' r' H2):ACalls P f args H Q' :=
 fun I ι w vs hr hl hv=>(h I ι w vs hr hl hv).mono fun _ w' ⟨r,H',I',ι',v,e,q,k1,k2,k3⟩=>by
  obtain ⟨r',H2,hf,hq'⟩:=hq r H' q
  obtain ⟨I2,ι2,a1,a2,a3⟩:=hf ⟨I,ι,H,w⟩ rfl I' ι' w' v k2 k3 k1
  exact⟨r',H2,I2,ι2,v,e,hq',a3,a1,a2⟩
end
end Go.Abs
namespace Go.Proofs.YtlnfjkdacimblaaGreatDoor
open Go.Abs
section
def iRows (l:List Nat):List (List AV):=l.map fun(x:Nat)=>[iv (x:Int)]
theorem iRows_len (l:List Nat):(iRows l).length=l.length:=List.length_map _
theorem iRows_app (l:List Nat) (x:Nat):iRows l++[[iv (x:Int)]]=iRows (l++[x]):=by rw [iRows,iRows,List.map_append];rfl
theorem iRows_get {l:List Nat} {i x:Nat} (h:l[i]?=some x):(iRows l)[i]?=some [iv (x:Int)]:=by rw [iRows,List.getElem?_map,h];rfl
theorem iRows_clo (H:Heap) (l:List Nat):∀ r∈iRows l,∀ a∈r,Clo H a:=by
 intro r hr a ha
 obtain ⟨d,_,rfl⟩:=List.mem_map.1 hr
 rw [List.mem_singleton] at ha
 subst ha
 simp
def gObU (g:List Nat):Ob:=⟨g.length,1,3,iRows g⟩
def famU:Nat→List (List Nat)→Heap
 | _,[]=>[]
 | n,g::r=>(n+960,gObU g)::famU (n+1) r
theorem famU_get:∀ (G:List (List Nat)) (n id:Nat),Heap.get (famU n G) id=if n+960≤id then(G[id - (n+960)]?).map gObU else none
 | [],n,id=>by simp [famU,Heap.get]
 | p::r,n,id=>by
  rw [famU]
  by_cases e:n+960=id
  ·subst e
   rw [get_cons_same]
   simp
  rw [get_cons_other _ _ (Ne.symm e),famU_get r (n+1) id]
  by_cases h:n+960≤id
  ·rw [if_pos h,if_pos (by omega)]
   have e2:id - (n+960)=(id - (n+1+960))+1:=by omega
   rw [e2,List.getElem?_cons_succ]
  rw [if_neg h,if_neg (by omega)]
theorem famU_mem:∀ (G:List (List Nat)) (n:Nat) (q:Nat×Ob),q∈famU n G→∃ j g,G[j]?=some g∧q=(n+j+960,gObU g)
 | [],_,_,h=>by cases h
 | p::r,n,q,h=>by
  rw [famU] at h
  rcases List.mem_cons.1 h with rfl|h
  ·exact⟨0,p,rfl,rfl⟩
  obtain ⟨j,g,h1,h2⟩:=famU_mem r (n+1) q h
  exact⟨j+1,g,by simpa using h1,by rw [h2];congr 1;omega⟩
def oRows:Nat→List (List Nat)→List (List AV)
 | _,[]=>[]
 | n,g::r=>[.osl (n+960) g.length 0 g.length]::oRows (n+1) r
theorem oRows_get:∀ (G:List (List Nat)) (n k:Nat),(oRows n G)[k]?=(G[k]?).map fun g=>[.osl (n+k+960) g.length 0 g.length]
 | [],_,_=>by simp [oRows]
 | g::r,n,0=>by simp [oRows]
 | g::r,n,k+1=>by
  rw [oRows,List.getElem?_cons_succ,List.getElem?_cons_succ,oRows_get r (n+1) k]
  have e:n+1+k=n+(k+1):=by omega
  rw [e]
theorem oRows_len:∀ (G:List (List Nat)) (n:Nat),(oRows n G).length=G.length
 | [],_=>rfl
 | g::r,n=>by rw [oRows,List.length_cons,List.length_cons,oRows_len r]
theorem oRows_app (G:List (List Nat)) (g:List Nat):oRows 0 (G++[g])=(oRows 0 G++[[AV.pv .nils]]).set G.length [.osl (0+G.length+960) g.length 0 g.length]:=by
 refine List.ext_getElem? fun k=>?_
 rw [oRows_get,List.getElem?_set,List.length_append,oRows_len]
 by_cases e:G.length=k
 ·subst e
  rw [if_pos rfl,if_pos (by simp),List.getElem?_append_right (Nat.le_refl _),Nat.sub_self]
  rfl
 rw [if_neg e]
 by_cases h:k < G.length
 ·rw [List.getElem?_append_left h,List.getElem?_append_left (by rw [oRows_len];exact h),oRows_get]
 rw [List.getElem?_eq_none (by simp;omega),List.getElem?_eq_none (by simp [oRows_len];omega)]
 rfl
theorem oRows_set (G:List (List Nat)) (k:Nat) (g:List Nat):oRows 0 (G.set k g)=(oRows 0 G).set k [.osl (0+k+960) g.length 0 g.length]:=by
 refine List.ext_getElem? fun j=>?_
 rw [oRows_get,List.getElem?_set,List.getElem?_set,oRows_len]
 by_cases e:k=j
 ·subst e
  rw [if_pos rfl,if_pos rfl]
  by_cases h:k < G.length
  ·rw [if_pos h,if_pos h];rfl
  rw [if_neg h,if_neg h];rfl
 rw [if_neg e,if_neg e,oRows_get]
theorem oRows_clo {H:Heap} {G:List (List Nat)} (h:∀ j,j < G.length→(H.get (0+j+960)).isSome=true):∀ r∈oRows 0 G,∀ a∈r,Clo H a:=by
 intro r hr a ha
 obtain ⟨k,hk⟩:=List.mem_iff_getElem?.1 hr
 rw [oRows_get] at hk
 cases e:G[k]? with
 | none=>rw [e] at hk;cases hk
 | some g =>
  rw [e] at hk
  obtain rfl:=Option.some.inj hk
  rw [List.mem_singleton] at ha
  subst ha
  exact .osl (h k (List.getElem?_eq_some_iff.1 e).1)
/-- Numbers from numbers to indices. -/
def mI (l:List (Int×AV)):Ob:=⟨0,0,l.length,mrows (intK .i64) l⟩
def atL:Nat→List Nat→List (Int×AV)
 | _,[]=>[]
 | n,r::R=>((r:Int),iv (n:Int))::atL (n+1) R
theorem atL_put:∀ (R:List Nat) (n i:Nat),i∉R→mput (atL n R) (i:Int) (iv ((n+R.length:Nat):Int))=atL n (R++[i])
 | [],_,_,_=>rfl
 | r::R,n,i,h=>by
  rw [List.mem_cons,not_or] at h
  have e:n+(r::R).length=n+1+R.length:=by rw [List.length_cons];omega
  rw [atL,mput,if_neg (fun e=>h.1 (by omega)),e,atL_put R (n+1) i h.2]
  rfl
theorem atL_get:∀ (R:List Nat) (n k r:Nat),R.Nodup→R[k]?=some r→mget (atL n R) (r:Int)=some (iv ((n+k:Nat):Int))
 | [],_,_,_,_,h=>by cases h
 | q::R,n,0,r,_,h=>by
  obtain rfl:q=r:=by simpa using h
  rw [atL,mget,if_pos rfl]
  rfl
 | q::R,n,k+1,r,hd,h=>by
  rw [List.nodup_cons] at hd
  have hr:R[k]?=some r:=by simpa using h
  have hne:(q:Int)≠(r:Int):=fun e=>hd.1 (by rw [Int.ofNat_inj.1 e];exact List.mem_of_getElem? hr)
  have e:n+1+k=n+(k+1):=by omega
  rw [atL,mget,if_neg hne,atL_get R (n+1) k r hd.2 hr,e]
/-! ### all frozen -/
def encG (g:List Nat):List PV:=[slInts (g.map fun(x:Nat)=>(x:Int))]
def slGroups (G:List (List Nat)):PV:=.sl (G.map encG)
def zRows (G:List (List Nat)):List (List AV):=G.map fun g=>(encG g).map .pv
theorem zRows_len (G:List (List Nat)):(zRows G).length=G.length:=List.length_map _
def oObU (g:Nat) (rows:List (List AV)):Ob:=⟨g,1,42,rows⟩
def mixR (k:Nat) (G:List (List Nat)):List (List AV):=zRows (G.take k)++oRows k (G.drop k)
theorem mixR_get (k:Nat) (G:List (List Nat)) (hk:k≤G.length) (i:Nat):(mixR k G)[i]?=(G[i]?).map fun g=>if i < k then(encG g).map .pv else[.osl (i+960) g.length 0 g.length]:=by
 rw [mixR]
 have hl:(zRows (G.take k)).length=k:=by rw [zRows_len,List.length_take];omega
 by_cases h:i < k
 ·rw [List.getElem?_append_left (by omega),zRows,List.getElem?_map,List.getElem?_take_of_lt h]
  simp only [h,if_true]
 rw [List.getElem?_append_right (by omega),hl,oRows_get,List.getElem?_drop]
 have e:k+(i - k)=i:=by omega
 rw [e]
 simp only [h,if_false]
theorem mixR_len (k:Nat) (G:List (List Nat)) (hk:k≤G.length):(mixR k G).length=G.length:=by
 rw [mixR,List.length_append,zRows_len,oRows_len,List.length_take,List.length_drop];omega
def mixH (m k:Nat) (G:List (List Nat)):Heap:=(905,oObU m (mixR k G))::famU k (G.drop k)
theorem fOk_same {H H':Heap} {id g:Nat} {ps:List (List PV)}:∀ {L:Heap},(∀ p∈L,H.get p.1=some p.2∧∀ r∈p.2.rows,∀ a∈r,Clo H' a)→FOk H H' id g ps L
 | [],_=>trivial
 | (j,o)::L,h=>⟨⟨o,(h _ (List.mem_cons_self ..)).1,rfl,rfl,rfl,fzr_same (h _ (List.mem_cons_self ..)).2⟩,fOk_same fun p hp=>h p (List.mem_cons_of_mem _ hp)⟩
theorem iRows_pv (g:List Nat):iRows g=(g.map fun(x:Nat)=>encInt (x:Int)).map (·.map .pv):=by rw [List.map_map];rfl
theorem fam_fz1 {t m:Nat} {G:List (List Nat)} {k:Nat} (hk:k < G.length):Ent [] [(t,.osl 905 m 0 G.length)] (mixH m k G) [(t,.osl 905 m 0 G.length)] (mixH m (k+1) G):=by
 obtain ⟨g,hg⟩:∃ g,G[k]?=some g:=⟨_,List.getElem?_eq_getElem hk⟩
 have hd:G.drop k=g::G.drop (k+1):=by
  rw [List.drop_eq_getElem_cons hk]
  congr 1
  rw [List.getElem?_eq_getElem hk] at hg
  exact Option.some.inj hg
 have hid:Heap.get (mixH m k G) (k+960)=some (gObU g):=by
  rw [mixH,get_cons_other _ _ (by omega),famU_get,if_pos (Nat.le_refl _),Nat.sub_self,hd]
  rfl
 have hin:∀ j,k < j→j < G.length→(Heap.get (mixH m (k+1) G) (j+960)).isSome=true:=fun j h1 h2=>by
  rw [mixH,get_cons_other _ _ (by omega),famU_get,if_pos (by omega),List.getElem?_drop]
  have e:k+1+(j+960 - (k+1+960))=j:=by omega
  rw [e,List.getElem?_eq_getElem h2]
  rfl
 refine Ent.fzG (id:=k+960) (g.map fun(x:Nat)=>encInt (x:Int)) hid (iRows_pv g) ?_ ?_ ?_ trivial
 ·intro p hp
  rw [List.mem_singleton] at hp
  subst hp
  exact⟨_,by simp [Env.get,beq_self],.same (.osl (by rw [mixH,get_cons_same];rfl))⟩
 ·rw [mixH,get_cons_other _ _ (by omega),famU_get,if_neg (by omega)]
 refine⟨⟨_,get_cons_same _ _ _,rfl,rfl,rfl,?_,fun i r' hi=>?_⟩,fOk_same fun p hp=>?_⟩
 ·show (mixR (k+1) G).length=(mixR k G).length
  rw [mixR_len _ _ hk,mixR_len _ _ (Nat.le_of_lt hk)]
 ·have hi:(mixR (k+1) G)[i]?=some r':=hi
  rw [mixR_get _ _ hk] at hi
  obtain ⟨x,hx,rfl⟩:=Option.map_eq_some_iff.1 hi
  have hil:=(List.getElem?_eq_some_iff.1 hx).1
  refine⟨_,(mixR_get k G (Nat.le_of_lt hk) i).trans (by rw [hx];rfl),?_,?_⟩
  ·dsimp only
   by_cases h1:i < k
   ·rw [if_pos h1,if_pos (by omega)]
   by_cases h2:i < k+1
   ·rw [if_neg h1,if_pos h2];rfl
   rw [if_neg h1,if_neg h2]
  intro q a a' ha ha'
  dsimp only at ha ha'
  by_cases h1:i < k
  ·rw [if_pos h1] at ha
   rw [if_pos (by omega),ha] at ha'
   cases ha'
   obtain ⟨p,_,rfl⟩:=List.mem_map.1 (List.mem_of_getElem? ha)
   exact .same (.pv _)
  by_cases h2:i < k+1
  ·obtain rfl:i=k:=by omega
   rw [hg] at hx
   cases hx
   rw [if_neg h1] at ha
   rw [if_pos h2] at ha'
   match q,ha,ha' with
   | 0,ha,ha' =>
    cases ha;cases ha'
    refine .osl ?_
    rw [Nat.zero_add,List.drop_zero,List.take_of_length_le (by rw [List.length_map];exact Nat.le_refl _),List.map_map]
    rfl
  rw [if_neg h1] at ha
  rw [if_neg h2,ha] at ha'
  cases ha'
  have:=List.mem_of_getElem? ha
  rw [List.mem_singleton] at this
  subst this
  exact .same (.osl (hin i (by omega) hil))
 obtain ⟨j,x,h1,rfl⟩:=famU_mem _ _ _ hp
 rw [List.getElem?_drop] at h1
 refine⟨?_,iRows_clo _ _⟩
 rw [mixH,get_cons_other _ _ (by omega),famU_get,if_pos (by omega),List.getElem?_drop]
 have e:k+(k+1+j+960 - (k+960))=k+1+j:=by omega
 rw [e,h1]
 rfl
theorem fam_fz {t m:Nat} {G:List (List Nat)}:∀ k,k≤G.length→Ent [] [(t,.osl 905 m 0 G.length)] (mixH m 0 G) [(t,.osl 905 m 0 G.length)] (mixH m k G)
 | 0,_=>Ent.refl
 | k+1,h=>(fam_fz k (Nat.le_of_succ_le h)).trans (fam_fz1 h)
theorem fam_all {t m:Nat} (G:List (List Nat)):Ent [] [(t,.osl 905 m 0 G.length)] ((905,oObU m (oRows 0 G))::famU 0 G) [(t,.osl 905 m 0 G.length)] [(905,oObU m (zRows G))]:=by
 have h:=fam_fz (t:=t) (m:=m) (G:=G) G.length (Nat.le_refl _)
 have e1:mixH m 0 G=(905,oObU m (oRows 0 G))::famU 0 G:=rfl
 have e2:mixH m G.length G=[(905,oObU m (zRows G))]:=by
  rw [mixH,mixR,List.take_length,List.drop_length]
  simp [oRows,famU]
 rw [e1,e2] at h
 exact h
end
section
theorem writes_c (e:GEdit) (H:Heap):ACalls Tryz.prog 45 [av (encEdit e)] H (fun r H'=>r=.pv (slStrs (gWrites e))∧H'=H):=by
 refine ACalls.pure ?_ (by simp) H
 refine Bd Tryz.func45 rfl Tryz.ntmps45<|Sq<|Rg<|Dd (by exact opd_box (id:=1) rfl rfl rfl rfl rfl)<|Dd as'<|Zz<|Sq<|Sq<|Rg<|Dd (fr' fo51_0)<|Dd (l1' Tryz.isAgg3)<|Zz<|awp_block<|Sq<|Rg<|Dd eql'<|Dd as'<|Zz ?_
 refine Cn (fun hc1=>?_) fun hc1=>?_
 ·skip
  have h1:e.op=1:=of_decide_eq_true hc1
  have hW:gWrites e=[e.obj.id]:=by rw [gWrites,if_pos h1]
  rw [hW]
  refine Sq<|Rg<|Dd (fr' fo51_8)<|Dd (fr' fo49_0)<|Dd (l1' Tryz.isAgg9)<|Dd (by exact x_buildSlice [encStr e.obj.id] rfl so46 rfl rfl rfl rfl rfl (by intro r hr;rw [List.mem_singleton] at hr;subst hr;rfl))<|Dd as'<|Zz<|awp_ret ?_
  refine Rt ?_
  exact⟨rfl,rfl⟩
 skip
 have h1:¬ e.op=1:=of_decide_eq_false hc1
 refine Sq<|Sq<|Rg<|Dd eql'<|Dd as'<|Zz ?_
 refine Cn (fun hc2=>?_) fun hc2=>?_
 ·skip
  have h6:e.op=6:=of_decide_eq_true hc2
  have hW:gWrites e=[e.id,e.other]:=by rw [gWrites,if_neg h1,if_pos (.inl h6)]
  rw [hW]
  refine awp_skip ?_
  refine Cn (fun hc3=>?_) fun hc3=>?_
  ·skip
   refine Sq<|Rg<|Dd (fr' fo51_1)<|Dd (l1' Tryz.isAgg9)<|Dd (fr' fo51_2)<|Dd (l1' Tryz.isAgg9)<|Dd (by exact x_buildSlice [encStr e.id,encStr e.other] rfl so46 rfl rfl rfl rfl rfl (by intro r hr;simp only [List.mem_cons,List.not_mem_nil,or_false] at hr;rcases hr with rfl|rfl<;>rfl))<|Dd as'<|Zz<|awp_ret ?_
   refine Rt ?_
   exact⟨rfl,rfl⟩
  skip
  ((revert hc3;simp_all;done))
 skip
 have h6:¬ e.op=6:=of_decide_eq_false hc2
 refine Rg<|Dd eql'<|Dd as'<|Zz ?_
 refine Cn (fun hc4=>?_) fun hc4=>?_
 ·skip
  have h7:e.op=7:=of_decide_eq_true hc4
  have hW:gWrites e=[e.id,e.other]:=by rw [gWrites,if_neg h1,if_pos (.inr h7)]
  rw [hW]
  refine Sq<|Rg<|Dd (fr' fo51_1)<|Dd (l1' Tryz.isAgg9)<|Dd (fr' fo51_2)<|Dd (l1' Tryz.isAgg9)<|Dd (by exact x_buildSlice [encStr e.id,encStr e.other] rfl so46 rfl rfl rfl rfl rfl (by intro r hr;simp only [List.mem_cons,List.not_mem_nil,or_false] at hr;rcases hr with rfl|rfl<;>rfl))<|Dd as'<|Zz<|awp_ret ?_
  refine Rt ?_
  exact⟨rfl,rfl⟩
 skip
 have h7:¬ e.op=7:=of_decide_eq_false hc4
 have hW:gWrites e=[e.id]:=by rw [gWrites,if_neg h1,if_neg (by rintro(h|h);exact h6 h;exact h7 h)]
 rw [hW]
 refine awp_skip<|Sq<|Rg<|Dd (fr' fo51_1)<|Dd (l1' Tryz.isAgg9)<|Dd (by exact x_buildSlice [encStr e.id] rfl so46 rfl rfl rfl rfl rfl (by intro r hr;rw [List.mem_singleton] at hr;subst hr;rfl))<|Dd as'<|Zz<|awp_ret ?_
 refine Rt ?_
 exact⟨rfl,rfl⟩
/-! ### sets -/
def uO (u:List Nat):Ob:=⟨u.length,1,3,iRows u⟩
def sO (u:List Nat):Ob:=bx 2 82 [.osl 910 u.length 0 u.length,.mp 911 0]
def fAV (F:List (ByteArray×Nat)):List (ByteArray×AV):=F.map fun p=>(p.1,iv (p.2:Int))
def fO (F:List (ByteArray×Nat)):Ob:=⟨0,0,(fAV F).length,mrows strK (fAV F)⟩
def sH (u:List Nat) (F:List (ByteArray×Nat)):Heap:=[(910,uO u),(911,fO F),(1,sO u)]
theorem upAt_get {u:List Nat} {i:Nat} (h:i < u.length):u[i]?=some (upAt u i):=by
 rw [upAt,List.getD_eq_getElem?_getD,List.getElem?_eq_getElem h]
 rfl
theorem top_c (u:List Nat) (i:Nat) (H:Heap) (h1:H.get 1=some (sO u)) (h2:H.get 910=some (uO u)) (hok:UpOk u) (hi:i < u.length) (hl:u.length < 1099511627776) :
  ACalls Tryz.prog 48 [.ref 1 0 0 0,iv (i:Int)] H (fun r H'=>r=iv (top u i:Int)∧H'=H):=by
 refine Bd Tryz.func48 rfl Tryz.ntmps48<|Sq<|Rg<|Dd as'<|Zz<|Sq<|awp_block ?_
 refine awp_loop (σ:=Nat) (fun j=>([(0,.ref 1 0 0 0),(1,iv (j:Int))],H)) (fun j=>j < u.length∧top u j=top u i) (fun j=>j) i ⟨hi,rfl⟩ ?_ ?_
 ·exact E0
 rintro j ⟨hj,ht⟩
 have hg:=iRows_get (upAt_get hj)
 have hil:(iRows u).length=u.length:=iRows_len u
 have hup:=hok j
 refine Sq<|Sq<|Rg<|Dd mv'<|Dd (by exact opd_nilCheck_ref rfl rfl h1 rfl)<|Dd (by exact opd_field_ref rfl fo82_0 rfl h1 rfl rfl)<|Dd (by exact opd_load1_ref rfl Tryz.isAgg42 rfl h1 rfl rfl rfl)<|Dd mv'<|Dd (by exact x_index_osl rfl so42 rfl h2 rfl rfl rfl (by omega) (by exact Int.toNat_natCast _) hj (Nat.zero_add _))<|Dd (by exact opd_load1_ref rfl Tryz.isAgg3 rfl h2 rfl hg rfl)<|Dd mv'<|Dd ne'<|Zz ?_
 refine Cn (fun hc1=>?_) fun hc1=>?_
 ·skip
  have hne:upAt u j≠j:=by have:=hc1;simp only [Bool.not_eq_true',decide_eq_false_iff_not] at this;omega
  refine awp_skip<|awp_block<|Rg<|Dd mv'<|Dd (by exact opd_nilCheck_ref rfl rfl h1 rfl)<|Dd (by exact opd_field_ref rfl fo82_0 rfl h1 rfl rfl)<|Dd (by exact opd_load1_ref rfl Tryz.isAgg42 rfl h1 rfl rfl rfl)<|Dd mv'<|Dd (by exact x_index_osl rfl so42 rfl h2 rfl rfl rfl (by omega) (by exact Int.toNat_natCast _) hj (Nat.zero_add _))<|Dd (by exact opd_load1_ref rfl Tryz.isAgg3 rfl h2 rfl hg rfl)<|Dd as'<|Zz ?_
  exact⟨upAt u j,⟨by omega,by rw [← ht,top_up hok hne]⟩,by omega,E0⟩
 skip
 have heq:upAt u j=j:=by have:=hc1;simp only [Bool.not_eq_false',decide_eq_true_eq] at this;omega
 refine awp_exit<|Sq<|Rg<|Dd mv'<|Dd as'<|Zz<|awp_ret ?_
 refine aret1 (H':=H) (.inr rfl) rfl (rval_tmp rfl) Fin.refl ?_
 exact⟨by rw [← ht,top_self hok heq],rfl⟩
theorem iRows_set (u:List Nat) (M m:Nat):(iRows u).set M [iv (m:Int)]=iRows (u.set M m):=by rw [iRows,iRows,List.map_set]
theorem joinS_c (u:List Nat) (F:List (ByteArray×Nat)) (a b:Nat) (hok:UpOk u) (ha:a < u.length) (hb:b < u.length) (hl:u.length < 1099511627776) :
  ACalls Tryz.prog 46 [.ref 1 0 0 0,iv (a:Int),iv (b:Int)] (sH u F) (fun r H'=>r=.tup []∧H'=sH (joinU u a b) F):=by
 have hta:=top_le hok a
 have htb:=top_le hok b
 have hil:(iRows u).length=u.length:=iRows_len u
 have hM:max (top u a) (top u b) < u.length:=by omega
 have e:sH (joinU u a b) F=(910,⟨u.length,1,3,iRows (joinU u a b)⟩)::[(911,fO F),(1,sO u)]:=by rw [sH,uO,sO,joinU_len];rfl
 rw [e]
 refine Bd Tryz.func46 rfl Tryz.ntmps46<|Sq<|Rg<|Dd mv'<|Dd mv'<|Dd (by exact opr_call rfl rfl Tryz.call48 rfl (top_c u a _ rfl rfl hok ha hl))<|Dd mv'<|Dd mv'<|Dd (by exact opr_call rfl rfl Tryz.call48 rfl (top_c u b _ rfl rfl hok hb hl))<|Dd as'<|Dd as'<|Zz<|Rg<|Dd mv'<|Dd nc'<|Dd (fr' fo82_0)<|Dd (l1' Tryz.isAgg42)<|Dd mv'<|Dd mv'<|Dd (by exact opd_max rfl rfl rfl (show max ((top u a:Nat):Int) ((top u b:Nat):Int)=((max (top u a) (top u b):Nat):Int)by omega))<|Dd mv'<|Dd mv'<|Dd (by exact opd_min rfl rfl rfl (show min ((top u a:Nat):Int) ((top u b:Nat):Int)=((min (top u a) (top u b):Nat):Int)by omega))<|Dd (by exact x_index_osl rfl so42 rfl rfl rfl rfl rfl (by omega) (by exact Int.toNat_natCast _) hM (Nat.zero_add _))<|Uu (by exact x_store1 rfl Tryz.sizeOf3 rfl rfl rfl rfl rfl (iRows_get (upAt_get hM)) (by simp) rfl (iRows_set u _ _))<|Zz ?_
 exact aret0 (H':=(910,⟨u.length,1,3,iRows (joinU u a b)⟩)::[(911,fO F),(1,sO u)]) (.inl rfl) rfl (Fin.get' (get_dup _ _ _ _)) ⟨rfl,rfl⟩
end
section
theorem fO_clo (H:Heap) (F:List (ByteArray×Nat)):∀ r∈(fO F).rows,∀ a∈r,Clo H a:=by
 intro r hr a ha
 obtain ⟨i,hi⟩:=List.mem_iff_getElem?.1 hr
 obtain ⟨p,hp,rfl⟩:=mrows_get.1 hi
 simp only [fAV,List.getElem?_map] at hp
 obtain ⟨q,_,rfl⟩:=Option.map_eq_some_iff.1 hp
 simp only [List.mem_cons,List.not_mem_nil,or_false] at ha
 rcases ha with rfl|rfl|rfl<;>simp
theorem sO_clo {H:Heap} {u:List Nat} (h1:(H.get 910).isSome=true) (h2:(H.get 911).isSome=true):∀ r∈(sO u).rows,∀ a∈r,Clo H a:=by
 intro r hr a ha
 simp only [sO,bx,List.mem_singleton] at hr
 subst hr
 simp only [List.mem_cons,List.not_mem_nil,or_false] at ha
 rcases ha with rfl|rfl
 ·exact .osl h1
 exact .mp h2
theorem OpD.cv {P:Program} {N:Nat} {o:Oper} {E:Env} {H H':Heap} {v v':AV} (h:OpD P N o E H v H') (e:v=v'):OpD P N o E H v' H':=e▸h
theorem fAV_get:∀ {F:List (ByteArray×Nat)} {s:ByteArray},mget (fAV F) s=(fget F s).map fun k=>iv (k:Int)
 | [],_=>rfl
 | (k,v)::r,s=>by
  rw [fAV,List.map_cons,mget,fget]
  by_cases e:k=s
  ·rw [if_pos e,if_pos e];rfl
  rw [if_neg e,if_neg e];exact fAV_get
theorem fAV_put:∀ {F:List (ByteArray×Nat)} {s:ByteArray} {i:Nat},fget F s=none→mput (fAV F) s (iv (i:Int))=fAV (F++[(s,i)])
 | [],_,_,_=>rfl
 | (k,v)::r,s,i,h=>by
  rw [fget] at h
  by_cases e:k=s
  ·rw [if_pos e] at h;cases h
  rw [if_neg e] at h
  have:=fAV_put (i:=i) h
  rw [fAV,List.map_cons,mput,if_neg e]
  show _::mput (fAV r) s _=_
  rw [this]
  rfl
def OkU (st:List Nat×List (ByteArray×Nat)) (m:Nat):Prop:=st.1.length=m∧UpOk st.1∧∀ s j,fget st.2 s=some j→j < m
theorem okU_snoc {st:List Nat×List (ByteArray×Nat)} {m:Nat} (h:OkU st m):OkU (st.1++[m],st.2) (m+1):=by
 obtain ⟨h1,h2,h3⟩:=h
 refine⟨by rw [List.length_append,h1];rfl,?_,fun s j e=>by have:=h3 s j e;omega⟩
 rw [← h1]
 exact snoc_ok h2
theorem okU_wr1 {st:List Nat×List (ByteArray×Nat)} {m i:Nat} (h:OkU st m) (hi:i < m) (s:ByteArray):OkU (wr1 i st s) m:=by
 obtain ⟨h1,h2,h3⟩:=h
 unfold wr1
 cases e:fget st.2 s with
 | some k =>
  have:=h3 s k e
  exact⟨by rw [joinU_len];exact h1,joinU_ok h2 (by omega) (by omega),h3⟩
 | none =>
  refine⟨h1,h2,fun t j ht=>?_⟩
  have ht:fget (st.2++[(s,i)]) t=some j:=ht
  rw [fget_app] at ht
  cases e2:fget st.2 t with
  | some k=>rw [e2] at ht;cases ht;exact h3 t _ e2
  | none =>
   rw [e2] at ht
   dsimp only at ht
   split at ht
   ·cases ht;exact hi
   cases ht
theorem okU_fold {i m:Nat} (hi:i < m):∀ (ws:List ByteArray) {st:List Nat×List (ByteArray×Nat)},OkU st m→OkU (ws.foldl (wr1 i) st) m
 | [],_,h=>h
 | s::ws,_,h=>okU_fold hi ws (okU_wr1 h hi s)
theorem okU_us1 (W:Nat→List ByteArray):∀ k,OkU (us1K W k) k
 | 0=>⟨rfl,nil_ok,fun s j h=>by cases h⟩
 | k+1=>okU_fold (Nat.lt_succ_self k) _ (okU_snoc (okU_us1 W k))
def Ok2 (F:List (ByteArray×Nat)) (n:Nat) (u:List Nat):Prop:=OkU (u,F) n
theorem ok2_wr2 {F:List (ByteArray×Nat)} {n i:Nat} {u:List Nat} (h:Ok2 F n u) (hi:i < n) (s:ByteArray):Ok2 F n (wr2 F i u s):=by
 obtain ⟨h1,h2,h3⟩:=h
 unfold wr2
 cases e:fget F s with
 | some k =>
  have:=h3 s k e
  have h1:u.length=n:=h1
  exact⟨(joinU_len u i k).trans h1,joinU_ok h2 (by omega) (by omega),h3⟩
 | none=>exact⟨h1,h2,h3⟩
theorem ok2_fold {F:List (ByteArray×Nat)} {n i:Nat} (hi:i < n):∀ (ws:List ByteArray) {u:List Nat},Ok2 F n u→Ok2 F n (ws.foldl (wr2 F i) u)
 | [],_,h=>h
 | s::ws,_,h=>ok2_fold hi ws (ok2_wr2 h hi s)
theorem ok2_us2 {F:List (ByteArray×Nat)} {n:Nat} {u:List Nat} (N:Nat→List ByteArray) (h:Ok2 F n u):∀ k,k≤n→Ok2 F n (us2K F u N k)
 | 0,_=>h
 | k+1,hk=>ok2_fold hk _ (ok2_us2 N h k (Nat.le_of_succ_le hk))
/-! ### groups grow -/
theorem roots_succ (f:Nat→Nat) (n:Nat):roots f (n+1)=roots f n++(if f n=n then[n] else[]):=by
 rw [roots,List.range_succ,List.filter_append,roots]
 congr 1
 by_cases h:f n=n
 ·rw [if_pos h,List.filter_cons_of_pos (by simpa using h)];rfl
 rw [if_neg h,List.filter_cons_of_neg (by simpa using h)];rfl
theorem grp_succ (f:Nat→Nat) (n r:Nat):grp f (n+1) r=grp f n r++(if f n=r then[n] else[]):=by
 rw [grp,List.range_succ,List.filter_append,grp]
 congr 1
 by_cases h:f n=r
 ·rw [if_pos h,List.filter_cons_of_pos (by simpa using h)];rfl
 rw [if_neg h,List.filter_cons_of_neg (by simpa using h)];rfl
theorem groups_root {f:Nat→Nat} (hle:∀ x,f x≤x) {n:Nat} (h:f n=n):groups f (n+1)=groups f n++[[n]]∧roots f (n+1)=roots f n++[n]:=by
 have hr:=roots_succ f n
 rw [if_pos h] at hr
 refine⟨?_,hr⟩
 rw [groups,hr,List.map_append,groups]
 congr 1
 ·refine List.map_congr_left fun r hr=>?_
  have:=(mem_roots.1 hr).1
  rw [grp_succ,if_neg (by omega),List.append_nil]
 have h0:grp f n n=[]:=by
  refine List.eq_nil_iff_forall_not_mem.2 fun j hj=>?_
  obtain ⟨h1,h2⟩:=mem_grp.1 hj
  have:=hle j
  omega
 rw [List.map_cons,List.map_nil,grp_succ,if_pos h,h0]
 rfl
theorem groups_in {f:Nat→Nat} (hle:∀ x,f x≤x) (hid:∀ x,f (f x)=f x) {n:Nat} (h:f n≠n) :
  ∃ k g,(groups f n)[k]?=some g∧(roots f n)[k]?=some (f n)∧groups f (n+1)=(groups f n).set k (g++[n])∧roots f (n+1)=roots f n:=by
 have hr:=roots_succ f n
 rw [if_neg h,List.append_nil] at hr
 have hm:f n∈roots f n:=mem_roots.2 ⟨by have:=hle n;omega,hid n⟩
 obtain ⟨k,hk⟩:=List.mem_iff_getElem?.1 hm
 refine⟨k,grp f n (f n),by rw [groups,List.getElem?_map,hk];rfl,hk,?_,hr⟩
 refine List.ext_getElem? fun j=>?_
 rw [groups,hr,List.getElem?_map,List.getElem?_set,groups,List.length_map,List.getElem?_map]
 have hkl:=(List.getElem?_eq_some_iff.1 hk).1
 by_cases e:k=j
 ·subst e
  rw [if_pos rfl,if_pos hkl,hk,Option.map_some,grp_succ,if_pos rfl]
 rw [if_neg e]
 cases hj:(roots f n)[j]? with
 | none=>rfl
 | some r =>
  rw [Option.map_some,Option.map_some,grp_succ,if_neg,List.append_nil]
  rintro rfl
  exact e (sorted_inj (roots_sorted f n) hk hj)
/-! ### the loops' states -/
def uoH (m:Nat) (R:List Nat) (G:List (List Nat)) (u:List Nat) (F:List (ByteArray×Nat)):Heap:=(905,oObU m (oRows 0 G))::(912,mI (atL 0 R))::(910,uO u)::(911,fO F)::(1,sO u)::famU 0 G
theorem uoH_get (m:Nat) (R:List Nat) (G:List (List Nat)) (u:List Nat) (F:List (ByteArray×Nat)) (j:Nat) (hj:960≤j):Heap.get (uoH m R G u F) j=(G[j - 960]?).map gObU:=by
 rw [uoH,get_cons_other _ _ (by omega),get_cons_other _ _ (by omega),get_cons_other _ _ (by omega),get_cons_other _ _ (by omega),get_cons_other _ _ (by omega),famU_get,if_pos (by omega),Nat.zero_add]
theorem uoH_low (m:Nat) (R:List Nat) (G:List (List Nat)) (u:List Nat) (F:List (ByteArray×Nat)) (j:Nat) (hj:j < 960):Heap.get (uoH m R G u F) j=Heap.get ((905,oObU m (oRows 0 G))::(912,mI (atL 0 R))::(910,uO u)::(911,fO F)::[(1,sO u)]) j:=by
 rw [uoH]
 have h0:Heap.get (famU 0 G) j=none:=by rw [famU_get,if_neg (by omega)]
 by_cases e1:j=905
 ·subst e1;rfl
 by_cases e2:j=912
 ·subst e2;rfl
 by_cases e3:j=910
 ·subst e3;rfl
 by_cases e4:j=911
 ·subst e4;rfl
 by_cases e5:j=1
 ·subst e5;rfl
 rw [get_cons_other _ _ e1,get_cons_other _ _ e2,get_cons_other _ _ e3,get_cons_other _ _ e4,get_cons_other _ _ e5,h0,get_cons_other _ _ e1,get_cons_other _ _ e2,get_cons_other _ _ e3,get_cons_other _ _ e4,get_cons_other _ _ e5]
 rfl
/-- A new group. -/
theorem uoH_new {m m1:Nat} {R R':List Nat} {G:List (List Nat)} {u:List Nat} {F:List (ByteArray×Nat)} {i:Nat} {o1:Ob} (j:Nat) :
  Heap.get (uoH (m+1) R' (G++[[i]]) u F) j=Heap.get ((905,oObU (m+1) ((oRows 0 G++[[AV.pv .nils]]).set G.length [.osl (0+G.length+960) 1 0 1]))::(0+G.length+960,⟨1,1,3,[[iv (i:Int)]]⟩)::(0+G.length+960,⟨0,1,3,[]⟩)::(905,o1)::(912,mI (atL 0 R'))::uoH m1 R G u F) j:=by
 by_cases h:j < 960
 ·rw [uoH_low _ _ _ _ _ _ h]
  by_cases e:j=905
  ·subst e
   rw [get_cons_same,get_cons_same,oRows_app]
   rfl
  refine Eq.trans ?_ (Eq.symm ((get_cons_other _ _ e).trans ((get_cons_other _ _ (by omega)).trans ((get_cons_other _ _ (by omega)).trans (get_cons_other _ _ e)))))
  rw [get_cons_other _ _ e]
  by_cases e2:j=912
  ·subst e2;rw [get_cons_same,get_cons_same]
  rw [get_cons_other _ _ e2,get_cons_other _ _ e2,uoH_low _ _ _ _ _ _ h,get_cons_other _ _ e,get_cons_other _ _ e2]
 rw [uoH_get _ _ _ _ _ _ (by omega),get_cons_other _ _ (by omega)]
 by_cases e:j=0+G.length+960
 ·subst e
  rw [get_cons_same]
  have e3:0+G.length+960 - 960=G.length:=by omega
  rw [e3,List.getElem?_append_right (Nat.le_refl _),Nat.sub_self]
  rfl
 rw [get_cons_other _ _ e,get_cons_other _ _ e,get_cons_other _ _ (by omega),get_cons_other _ _ (by omega),uoH_get _ _ _ _ _ _ (by omega)]
 by_cases h4:j - 960 < G.length
 ·rw [List.getElem?_append_left h4]
 rw [List.getElem?_eq_none (by rw [List.length_append,List.length_singleton];omega),List.getElem?_eq_none (by omega)]
/-- A group grows. -/
theorem uoH_grow {m:Nat} {R:List Nat} {G:List (List Nat)} {u:List Nat} {F:List (ByteArray×Nat)} {i k:Nat} {g:List Nat} (hk:G[k]?=some g) (j:Nat) :
  Heap.get (uoH m R (G.set k (g++[i])) u F) j=Heap.get ((905,oObU m ((oRows 0 G).set k [.osl (0+k+960) (g.length+1) 0 (g.length+1)]))::(0+k+960,⟨g.length+1,1,3,iRows (g++[i])⟩)::uoH m R G u F) j:=by
 have hkl:=(List.getElem?_eq_some_iff.1 hk).1
 have hgl:(g++[i]).length=g.length+1:=by rw [List.length_append];rfl
 by_cases h:j < 960
 ·rw [uoH_low _ _ _ _ _ _ h]
  by_cases e:j=905
  ·subst e
   rw [get_cons_same,get_cons_same,oRows_set,hgl]
  refine Eq.trans ?_ (Eq.symm ((get_cons_other _ _ e).trans (get_cons_other _ _ (by omega))))
  rw [get_cons_other _ _ e,uoH_low _ _ _ _ _ _ h,get_cons_other _ _ e]
 rw [uoH_get _ _ _ _ _ _ (by omega),get_cons_other _ _ (by omega),List.getElem?_set]
 by_cases e:j=0+k+960
 ·subst e
  have e3:0+k+960 - 960=k:=by omega
  rw [get_cons_same,e3,if_pos rfl,if_pos hkl,Option.map_some,gObU,hgl]
 rw [get_cons_other _ _ e,if_neg (by omega),uoH_get _ _ _ _ _ _ (by omega)]
theorem famU_closed (G:List (List Nat)):Closed (famU 0 G):=Closed.of fun p hp r hr a ha=>by
 obtain ⟨j,g,_,rfl⟩:=famU_mem G 0 p hp
 exact iRows_clo _ g r hr a ha
theorem uoH_drop {t:Nat} {E:Env} (m:Nat) (R:List Nat) (G:List (List Nat)) (u:List Nat) (F:List (ByteArray×Nat)) (hE:E.get t=some (.osl 905 m 0 G.length)):Ent [] E (uoH m R G u F) [(t,.osl 905 m 0 G.length)] ((905,oObU m (oRows 0 G))::famU 0 G):=by
 refine Ent.front' [(905,oObU m (oRows 0 G)),(912,mI (atL 0 R)),(910,uO u),(911,fO F),(1,sO u)] [(905,oObU m (oRows 0 G))] ⟨⟨_,hE,rfl⟩,.osl rfl,trivial⟩ ?_ ?_ ?_ (famU_closed G) ?_
 ·intro q hq
  have hn:∀ id,id < 960→Heap.get (famU 0 G) id=none:=fun id h=>by rw [famU_get,if_neg (by omega)]
  simp only [List.mem_cons,List.not_mem_nil,or_false] at hq
  rcases hq with rfl|rfl|rfl|rfl|rfl
  ·exact .inl rfl
  ·exact .inr (hn 912 (by decide))
  ·exact .inr (hn 910 (by decide))
  ·exact .inr (hn 911 (by decide))
  exact .inr (hn 1 (by decide))
 ·intro q hq
  rw [List.mem_singleton] at hq
  subst hq
  rfl
 ·intro q hq
  rw [List.mem_singleton] at hq
  subst hq
  refine oRows_clo fun j hj=>?_
  show (Heap.get ((905,_)::famU 0 G) (0+j+960)).isSome=true
  rw [get_cons_other _ _ (by omega),famU_get,if_pos (by omega)]
  have e:0+j+960 - (0+960)=j:=by omega
  rw [e,List.getElem?_eq_getElem hj]
  rfl
 intro q _
 exact .inr rfl
theorem us1_step (W:Nat→List ByteArray) (i:Nat):us1K W (i+1)=(W i).foldl (wr1 i) ((us1K W i).1++[i],(us1K W i).2):=rfl
theorem us2_step (F:List (ByteArray×Nat)) (u:List Nat) (N:Nat→List ByteArray) (i:Nat):us2K F u N (i+1)=(N i).foldl (wr2 F i) (us2K F u N i):=rfl
theorem look_ok {F:List (ByteArray×Nat)} {s:ByteArray} {j:Nat} (h:fget F s=some j):AV.tup [(mget (fAV F) s).getD (iv 0),bv (mget (fAV F) s).isSome]=.tup [iv (j:Int),bv true]:=by rw [fAV_get,h];rfl
theorem look_no {F:List (ByteArray×Nat)} {s:ByteArray} (h:fget F s=none):AV.tup [(mget (fAV F) s).getD (iv 0),bv (mget (fAV F) s).isSome]=.tup [iv 0,bv false]:=by rw [fAV_get,h];rfl
theorem units0_c (l:List GEdit) (he:∀ e∈l,okE e∧e.refs.length+e.obj.refs.length < 1099511627776) (hv:gChange l=true) :
  ACalls Tryz.prog 19 [.pv (slEdits l)] [] (fun r H'=>r=.osl 905 (gUnits l).length 0 (gUnits l).length∧H'=[(905,oObU (gUnits l).length (zRows (gUnits l)))]):=by
 obtain ⟨h0,h200,hval⟩:=gChange_all hv
 have hml:(l.map encEdit).length=l.length:=List.length_map _
 refine Bd Tryz.func19 rfl Tryz.ntmps19<|Sq<|Rg<|Dd as'<|Zz<|Sq<|Sq<|Rg<|Dd mv'<|Dd (by exact opr_call rfl rfl Tryz.call15 rfl (changeValid_c l _ (by omega) (fun e h=>(he e h).1)))<|Dd no'<|Zz ?_
 refine Cn (fun hc1=>?_) fun hc1=>?_
 ·skip
  rw [hv] at hc1;cases hc1
 skip
 refine awp_skip<|Sq<|Rg<|Dd (by exact opd_makeMap (id:=911) strK rfl rfl)<|Dd (bu' boN82)<|Dd (by exact opd_box (id:=1) rfl rfl rfl rfl rfl)<|Dd as'<|Zz<|Sq<|Sq ?_
 refine AWp.ent (E':=[(0,.pv (slEdits l)),(3,.ref 1 0 0 0)]) (H':=[(910,⟨0,1,3,[]⟩),(911,fO []),(1,sO [])]) (Ent.nz 910 1 3 rfl rfl ⟨⟨_,rfl,(by exact Nz.same (by(simp;done)))⟩,⟨_,rfl,(by exact Nz.same (by(simp;rfl)))⟩,trivial⟩ ⟨⟨_,rfl,rfl,rfl,rfl,(by exact .inl ⟨rfl,(by(intro r hr;cases hr;done))⟩)⟩,⟨_,rfl,rfl,rfl,rfl,(by exact .inr ⟨_,_,rfl,rfl,(by repeat(first|exact trivial|refine⟨(by first|exact Nz.own|exact Nz.same (by(simp;rfl))),?_⟩))⟩)⟩,trivial⟩ trivial) ?_
 refine Rg<|Dd mv'<|Dd (ll' Tryz.underlying22)<|Dd mv'<|Zz<|awp_block ?_
 refine awp_loop (σ:=Nat) (fun i=>([(0,.pv (slEdits l)),(3,.ref 1 0 0 0),(26,.pv (slEdits l)),(27,iv ((l.map encEdit).length:Int)),(28,iv (i:Int))],sH (us1K (wrOf l) i).1 (us1K (wrOf l) i).2)) (fun i=>i≤l.length) (fun i=>l.length - i) 0 (Nat.zero_le _) ?_ ?_
 ·exact(Ent.wk (Eb<|Ea<|Eb<|Eb<|Eb<|trivial) (Hc (by(intro r hr;cases hr;done))<|Hc (by(intro r hr;cases hr;done))<|Hc (sO_clo rfl rfl)<|trivial) trivial)
 rintro i hi
 have hok:=okU_us1 (wrOf l) i
 have hst:=us1_step (wrOf l) i
 obtain ⟨u,hu⟩:∃ u,u=(us1K (wrOf l) i).1:=⟨_,rfl⟩
 obtain ⟨F,hF⟩:∃ F,F=(us1K (wrOf l) i).2:=⟨_,rfl⟩
 rw [← hu,← hF] at hst ⊢
 have hok':OkU (u,F) i:=by rw [hu,hF];exact hok
 have hul:u.length=i:=hok'.1
 refine Sq<|Rg<|Dd lss'<|Zz<|Sq ?_
 refine Cn (fun hc2=>?_) fun hc2=>?_
 ·skip
  have hlt:i < l.length:=by have:=of_decide_eq_true hc2;omega
  obtain ⟨e,hee⟩:=get_of_lt hlt
  have hie:=map_get (f:=encEdit) hee
  have hW:wrOf l i=gWrites e:=by rw [wrOf,hee];rfl
  rw [hW] at hst
  have hWl:(gWrites e).length≤2:=by
   rw [gWrites]
   split
   ·simp
   split<;>simp
  have hok2:=okU_snoc hok'
  refine awp_skip<|Sq<|awp_block<|Sq<|Rg<|Dd mv'<|Dd (xp' so22)<|Dd (by exact opd_loadn_pad rfl Tryz.isAgg51 Tryz.sizeOf51 rfl (by omega) (by simp only [Zl,encTag,encObj,encStr,encEdit,encInt];rfl) rfl)<|Dd (by exact x_alloc (id:=5) rfl zo51 rfl rfl)<|Dd as'<|Uu (sa' Tryz.sizeOf51)<|Zz<|Sq<|Rg<|Dd mv'<|Dd mv'<|Dd nc'<|Dd (fr' fo82_0)<|Dd (l1' Tryz.isAgg42)<|Dd mv'<|Dd (by exact x_buildSlice [encInt (i:Int)] rfl so42 rfl rfl rfl rfl rfl (by intro r hr;rw [List.mem_singleton] at hr;subst hr;rfl))<|Dd (by exact x_append (ps:=[encInt (i:Int)]) rfl so42 ei3 rfl rfl rfl rfl rfl (iRows_len u) rfl (by intro r hr;rw [List.mem_singleton] at hr;subst hr;rfl) (m:=1) rfl (by omega) rfl (iRows_app u i))<|Dd nc'<|Dd (fr' fo82_0)<|Uu (by exact x_store1 rfl Tryz.sizeOf42 rfl rfl rfl rfl rfl rfl (Nat.le_of_ble_eq_true rfl) rfl rfl)<|Zz<|Sq<|Rg<|Dd (by exact opd_loadn_ref rfl Tryz.isAgg51 Tryz.sizeOf51 rfl rfl rfl rfl (by simp only [Zl,encTag,encObj,encStr,encEdit,encInt];rfl) rfl) ?_
  refine Dd (by exact opr_call rfl rfl Tryz.call45 rfl (writes_c e _))<|Dd (ll' Tryz.underlying46)<|Dd mv'<|Zz<|awp_block ?_
  have esH:sH (u++[i]) F=[(910,⟨u.length+1,1,3,iRows (u++[i])⟩),(911,fO F),(1,bx 2 82 [.osl 910 (u.length+1) 0 (u.length+1),.mp 911 0])]:=by simp [sH,uO,sO]
  refine awp_loop (σ:=Nat) (fun k=>([(0,.pv (slEdits l)),(3,.ref 1 0 0 0),(26,.pv (slEdits l)),(27,iv ((l.map encEdit).length:Int)),(28,iv (i:Int)),(4,iv (i:Int)),(44,.pv (slStrs (gWrites e))),(45,iv (((gWrites e).map encStr).length:Int)),(46,iv (k:Int))],sH (((gWrites e).take k).foldl (wr1 i) (u++[i],F)).1 (((gWrites e).take k).foldl (wr1 i) (u++[i],F)).2)) (fun k=>k≤(gWrites e).length) (fun k=>(gWrites e).length - k) 0 (Nat.zero_le _) ?_ ?_
  ·show Ent _ _ _ _ (sH (u++[i]) F)
   rw [esH]
   exact(Ent.wk (Eb<|Ea<|Eb<|Eb<|Eb<|Eb<|Eb<|Eb<|Eb<|trivial) (Hc (iRows_clo _ _)<|Hc (fO_clo _ _)<|Hc (by(simp;exact⟨rfl,rfl⟩))<|trivial) trivial)
  rintro k hk
  have hmw:((gWrites e).map encStr).length=(gWrites e).length:=List.length_map _
  have hokk:=okU_fold (Nat.lt_succ_self i) ((gWrites e).take k) hok2
  obtain ⟨U,hU⟩:∃ U,U=(((gWrites e).take k).foldl (wr1 i) (u++[i],F)).1:=⟨_,rfl⟩
  obtain ⟨Fk,hFk⟩:∃ Fk,Fk=(((gWrites e).take k).foldl (wr1 i) (u++[i],F)).2:=⟨_,rfl⟩
  have hp:((gWrites e).take k).foldl (wr1 i) (u++[i],F)=(U,Fk):=by rw [hU,hFk]
  rw [hp] at hokk ⊢
  dsimp only
  obtain ⟨hUl,hUo,hFo⟩:=hokk
  dsimp only at hUl hUo hFo
  refine Sq<|Rg<|Dd lss'<|Zz<|Sq ?_
  refine Cn (fun hc3=>?_) fun hc3=>?_
  ·skip
   have hkl:k < (gWrites e).length:=by have:=of_decide_eq_true hc3;omega
   obtain ⟨s,hs⟩:=get_of_lt hkl
   have his:=map_get (f:=encStr) hs
   have hnx:((gWrites e).take (k+1)).foldl (wr1 i) (u++[i],F)=wr1 i (U,Fk) s:=by rw [List.take_add_one,hs,List.foldl_append,hp];rfl
   cases hfs:fget Fk s with
   | some j =>
    have hj:=hFo s j hfs
    have hw:wr1 i (U,Fk) s=(joinU U i j,Fk):=by rw [wr1];simp only [hfs]
    refine awp_skip<|Sq<|awp_block<|Sq<|Rg<|Dd (xp' so46)<|Dd (lp' Tryz.isAgg9)<|Dd as'<|Zz<|Sq<|Rg<|Dd mv'<|Dd nc'<|Dd (fr' fo82_1)<|Dd (l1' Tryz.isAgg80)<|Dd mv'<|Dd (by exact OpD.cv (opd_lookup_ok (κ:=strK) (k:=s) (l:=fAV Fk) rfl Tryz.underlying80 Tryz.underlying9 rfl rfl rfl rfl rfl Tryz.zeroValue3 (.inl rfl)) (look_ok hfs))<|Dd mv'<|Dd ex'<|Dd ex'<|Dd as'<|Dd as'<|Zz<|Sq<|Rg<|Dd mv'<|Zz ?_
    refine Cn (fun hc4=>?_) fun hc4=>?_
    ·skip
     refine Rg<|Dd mv'<|Dd mv'<|Dd mv'<|Dd (by exact opr_call rfl rfl Tryz.call46 rfl (joinS_c U Fk i j hUo (by omega) (by omega) (by omega)))<|Zz<|Rg<|Dd ad'<|Dd mv'<|Zz ?_
     refine⟨k+1,by omega,by omega,?_⟩
     rw [hnx,hw]
     exact E0
    skip
    cases hc4
   | none =>
    have hw:wr1 i (U,Fk) s=(U,Fk++[(s,i)]):=by rw [wr1];simp only [hfs]
    refine awp_skip<|Sq<|awp_block<|Sq<|Rg<|Dd (xp' so46)<|Dd (lp' Tryz.isAgg9)<|Dd as'<|Zz<|Sq<|Rg<|Dd mv'<|Dd nc'<|Dd (fr' fo82_1)<|Dd (l1' Tryz.isAgg80)<|Dd mv'<|Dd (by exact OpD.cv (opd_lookup_ok (κ:=strK) (k:=s) (l:=fAV Fk) rfl Tryz.underlying80 Tryz.underlying9 rfl rfl rfl rfl rfl Tryz.zeroValue3 (.inl rfl)) (look_no hfs))<|Dd mv'<|Dd ex'<|Dd ex'<|Dd as'<|Dd as'<|Zz<|Sq<|Rg<|Dd mv'<|Zz ?_
    refine Cn (fun hc5=>?_) fun hc5=>?_
    ·skip
     cases hc5
    skip
    refine Rg<|Dd mv'<|Dd nc'<|Dd (fr' fo82_1)<|Dd (l1' Tryz.isAgg80)<|Dd mv'<|Dd mv'<|Uu (by exact x_mapUpdate (κ:=strK) (k:=s) (l:=fAV Fk) (.inl rfl) Tryz.underlying80 Tryz.underlying9 rfl rfl rfl rfl rfl rfl rfl (fAV_put hfs))<|Zz<|Rg<|Dd ad'<|Dd mv'<|Zz ?_
    refine⟨k+1,by omega,by omega,?_⟩
    rw [hnx,hw]
    exact(Ent.wk (Eb<|Ea<|Eb<|Eb<|Eb<|Eb<|Eb<|Eb<|Eb<|trivial) (Hc (iRows_clo _ _)<|Hc (fO_clo _ _)<|Hc (sO_clo rfl rfl)<|trivial) trivial)
  skip
  have hkl:k=(gWrites e).length:=by have:=of_decide_eq_false hc3;omega
  subst hkl
  rw [List.take_length,← hst] at hp
  refine awp_exit<|Rg<|Dd ad'<|Dd mv'<|Zz ?_
  refine⟨i+1,by omega,by omega,?_⟩
  rw [hp]
  exact(Ent.wk (Eb<|Ea<|Eb<|Eb<|Eb<|trivial) (Hc (iRows_clo _ _)<|Hc (fO_clo _ _)<|Hc (sO_clo rfl rfl)<|trivial) trivial)
 skip
 have hge:i=l.length:=by have:=of_decide_eq_false hc2;omega
 subst hge
 refine awp_exit<|Sq<|Sq<|Rg<|Dd mv'<|Dd (ll' Tryz.underlying22)<|Dd mv'<|Zz<|awp_block ?_
 refine awp_loop (σ:=Nat) (fun i=>([(0,.pv (slEdits l)),(3,.ref 1 0 0 0),(72,.pv (slEdits l)),(73,iv ((l.map encEdit).length:Int)),(74,iv (i:Int))],sH (us2K F u (nmOf l) i) F)) (fun i=>i≤l.length) (fun i=>l.length - i) 0 (Nat.zero_le _) ?_ ?_
 ·exact(Ent.wk (Eb<|Ea<|Eb<|Eb<|Eb<|trivial) (Hc (iRows_clo _ _)<|Hc (fO_clo _ _)<|Hc (sO_clo rfl rfl)<|trivial) trivial)
 rintro i hi
 have hok2:=ok2_us2 (nmOf l) hok' i hi
 have hst2:=us2_step F u (nmOf l) i
 obtain ⟨v,hv2⟩:∃ v,v=us2K F u (nmOf l) i:=⟨_,rfl⟩
 rw [← hv2] at hok2 hst2 ⊢
 refine Sq<|Rg<|Dd lss'<|Zz<|Sq ?_
 refine Cn (fun hc6=>?_) fun hc6=>?_
 ·skip
  have hlt:i < l.length:=by have:=of_decide_eq_true hc6;omega
  obtain ⟨e,hee⟩:=get_of_lt hlt
  have hie:=map_get (f:=encEdit) hee
  have hW:nmOf l i=gNames e:=by rw [nmOf,hee];rfl
  rw [hW] at hst2
  obtain ⟨hoe,hre⟩:=he e (List.mem_of_getElem? hee)
  obtain ⟨Nm,hNm⟩:∃ Nm,Nm=gNames e:=⟨_,rfl⟩
  have hNl:Nm.length < 1099511627999:=by
   rw [hNm,gNames]
   split
   ·rw [sortS_length]
    have h1:=List.length_filter_le nonE (idsOf e)
    have h2:=addAll_len e.obj.refs (addAll (addAll [] [e.id,e.other,e.node,e.obj.id]) e.refs)
    have h3:=addAll_len e.refs (addAll [] [e.id,e.other,e.node,e.obj.id])
    have h4:=addAll_len [e.id,e.other,e.node,e.obj.id] []
    simp only [List.length_cons,List.length_nil] at h4
    have h5:(idsOf e).length≤4+e.refs.length+e.obj.refs.length:=by
     show (addAll (addAll (addAll [] [e.id,e.other,e.node,e.obj.id]) e.refs) e.obj.refs).length≤_
     omega
    omega
   exact(by decide)
  have hcN:=fun H=>names_cE e H hoe hre
  rw [← hNm] at hst2 hcN
  refine awp_skip<|Sq<|awp_block<|Sq<|Rg<|Dd mv'<|Dd (xp' so22)<|Dd (by exact opd_loadn_pad rfl Tryz.isAgg51 Tryz.sizeOf51 rfl (by omega) (by simp only [Zl,encTag,encObj,encStr,encEdit,encInt];rfl) rfl)<|Dd (by exact x_alloc (id:=11) rfl zo51 rfl rfl)<|Dd as'<|Uu (sa' Tryz.sizeOf51)<|Zz<|Sq<|Rg<|Dd (by exact opd_loadn_ref rfl Tryz.isAgg51 Tryz.sizeOf51 rfl rfl rfl rfl (by simp only [Zl,encTag,encObj,encStr,encEdit,encInt];rfl) rfl)<|Dd (by exact opr_call rfl rfl Tryz.call47 rfl (hcN _))<|Dd (ll' Tryz.underlying46)<|Dd mv'<|Zz<|awp_block ?_
  refine awp_loop (σ:=Nat) (fun k=>([(0,.pv (slEdits l)),(3,.ref 1 0 0 0),(72,.pv (slEdits l)),(73,iv ((l.map encEdit).length:Int)),(74,iv (i:Int)),(10,iv (i:Int)),(80,.pv (slStrs Nm)),(81,iv ((Nm.map encStr).length:Int)),(82,iv (k:Int))],sH ((Nm.take k).foldl (wr2 F i) v) F)) (fun k=>k≤Nm.length) (fun k=>Nm.length - k) 0 (Nat.zero_le _) ?_ ?_
  ·exact(Ent.wk (Eb<|Ea<|Eb<|Eb<|Eb<|Eb<|Eb<|Eb<|Eb<|trivial) (Hc (iRows_clo _ _)<|Hc (fO_clo _ _)<|Hc (sO_clo rfl rfl)<|trivial) trivial)
  rintro k hk
  have hmw:(Nm.map encStr).length=Nm.length:=List.length_map _
  have hokk:=ok2_fold hlt (Nm.take k) hok2
  obtain ⟨U,hp⟩:∃ U,U=(Nm.take k).foldl (wr2 F i) v:=⟨_,rfl⟩
  rw [← hp] at hokk ⊢
  obtain ⟨hUl,hUo,hFo⟩:=hokk
  dsimp only at hUl hUo hFo
  refine Sq<|Rg<|Dd lss'<|Zz<|Sq ?_
  refine Cn (fun hc7=>?_) fun hc7=>?_
  ·skip
   have hkl:k < Nm.length:=by have:=of_decide_eq_true hc7;omega
   obtain ⟨s,hs⟩:=get_of_lt hkl
   have his:=map_get (f:=encStr) hs
   have hnx:(Nm.take (k+1)).foldl (wr2 F i) v=wr2 F i U s:=by rw [List.take_add_one,hs,List.foldl_append,← hp];rfl
   cases hfs:fget F s with
   | some j =>
    have hj:=hFo s j hfs
    have hw:wr2 F i U s=joinU U i j:=by rw [wr2];simp only [hfs]
    refine awp_skip<|Sq<|awp_block<|Sq<|Rg<|Dd (xp' so46)<|Dd (lp' Tryz.isAgg9)<|Dd as'<|Zz<|Sq<|Rg<|Dd mv'<|Dd nc'<|Dd (fr' fo82_1)<|Dd (l1' Tryz.isAgg80)<|Dd mv'<|Dd (by exact OpD.cv (opd_lookup_ok (κ:=strK) (k:=s) (l:=fAV F) rfl Tryz.underlying80 Tryz.underlying9 rfl rfl rfl rfl rfl Tryz.zeroValue3 (.inl rfl)) (look_ok hfs))<|Dd mv'<|Dd ex'<|Dd ex'<|Dd as'<|Dd as'<|Zz<|Sq<|Rg<|Dd mv'<|Zz ?_
    refine Cn (fun hc8=>?_) fun hc8=>?_
    ·skip
     refine Rg<|Dd mv'<|Dd mv'<|Dd mv'<|Dd (by exact opr_call rfl rfl Tryz.call46 rfl (joinS_c U F i j hUo (by omega) (by omega) (by omega)))<|Zz<|Rg<|Dd ad'<|Dd mv'<|Zz ?_
     refine⟨k+1,by omega,by omega,?_⟩
     rw [hnx,hw]
     exact E0
    skip
    cases hc8
   | none =>
    have hw:wr2 F i U s=U:=by rw [wr2];simp only [hfs]
    refine awp_skip<|Sq<|awp_block<|Sq<|Rg<|Dd (xp' so46)<|Dd (lp' Tryz.isAgg9)<|Dd as'<|Zz<|Sq<|Rg<|Dd mv'<|Dd nc'<|Dd (fr' fo82_1)<|Dd (l1' Tryz.isAgg80)<|Dd mv'<|Dd (by exact OpD.cv (opd_lookup_ok (κ:=strK) (k:=s) (l:=fAV F) rfl Tryz.underlying80 Tryz.underlying9 rfl rfl rfl rfl rfl Tryz.zeroValue3 (.inl rfl)) (look_no hfs))<|Dd mv'<|Dd ex'<|Dd ex'<|Dd as'<|Dd as'<|Zz<|Sq<|Rg<|Dd mv'<|Zz ?_
    refine Cn (fun hc9=>?_) fun hc9=>?_
    ·skip
     cases hc9
    skip
    refine awp_skip<|Rg<|Dd ad'<|Dd mv'<|Zz ?_
    refine⟨k+1,by omega,by omega,?_⟩
    rw [hnx,hw]
    exact E0
  skip
  have hkl:k=Nm.length:=by have:=of_decide_eq_false hc7;omega
  subst hkl
  rw [List.take_length,← hst2] at hp
  refine awp_exit<|Rg<|Dd ad'<|Dd mv'<|Zz ?_
  refine⟨i+1,by omega,by omega,?_⟩
  rw [← hp]
  exact(Ent.wk (Eb<|Ea<|Eb<|Eb<|Eb<|trivial) (Hc (iRows_clo _ _)<|Hc (fO_clo _ _)<|Hc (sO_clo rfl rfl)<|trivial) trivial)
 skip
 have hge:i=l.length:=by have:=of_decide_eq_false hc6;omega
 subst hge
 have htop:topsE l=v:=by rw [hv2,hu,hF];rfl
 obtain ⟨hcl,htl,hup⟩:=topsE_ok hv
 have hgU:gUnits l=groups (top (topsE l)) l.length:=by rw [gUnits,if_pos hv]
 rw [hgU]
 rw [htop] at hcl htl hup ⊢
 have hle:∀ x,top v x≤x:=hcl.le
 have hid:∀ x,top v (top v x)=top v x:=hcl.idem
 refine awp_exit<|Sq<|Rg<|Dd (by exact opd_assign_own (id:=905) (sz:=1) (ty:=42) rfl rfl rfl)<|Zz<|Sq<|Rg<|Dd (by exact opd_makeMap (id:=912) (intK .i64) rfl rfl)<|Dd as'<|Zz<|Sq<|Sq<|Rg<|Dd mv'<|Dd (ll' Tryz.underlying22)<|Dd mv'<|Zz<|awp_block ?_
 refine awp_loop (σ:=Nat) (fun i=>([(3,.ref 1 0 0 0),(16,.osl 905 (groups (top v) i).length 0 (groups (top v) i).length),(17,.mp 912 0),(103,.pv (slEdits l)),(104,iv ((l.map encEdit).length:Int)),(105,iv (i:Int))],uoH (groups (top v) i).length (roots (top v) i) (groups (top v) i) v F)) (fun i=>i≤l.length) (fun i=>l.length - i) 0 (Nat.zero_le _) ?_ ?_
 ·show Ent _ _ _ _ [(905,oObU 0 []),(912,mI []),(910,uO v),(911,fO F),(1,sO v)]
  exact(Ent.wk (Ea<|Ea<|Ea<|Eb<|Eb<|Eb<|trivial) (Hc (by(intro r hr;cases hr;done))<|Hc (by(intro r hr;cases hr;done))<|Hc (iRows_clo _ _)<|Hc (fO_clo _ _)<|Hc (sO_clo rfl rfl)<|trivial) trivial)
 rintro i hi
 obtain ⟨G,hG⟩:∃ G,G=groups (top v) i:=⟨_,rfl⟩
 obtain ⟨R,hR⟩:∃ R,R=roots (top v) i:=⟨_,rfl⟩
 have hGR:G.length=R.length:=by rw [hG,hR,groups,List.length_map]
 have hRl:R.length≤i:=by rw [hR,roots];exact Nat.le_trans (List.length_filter_le _ _) (by rw [List.length_range];exact Nat.le_refl _)
 have hRn:R.Nodup:=by rw [hR];exact nodup_sorted (roots_sorted _ _)
 have hRm:i∉R:=fun h=>by rw [hR] at h;have:=(mem_roots.1 h).1;omega
 rw [← hG,← hR]
 have hh1:Heap.get (uoH G.length R G v F) 1=some (sO v):=rfl
 have hh2:Heap.get (uoH G.length R G v F) 910=some (uO v):=rfl
 refine Sq<|Rg<|Dd lss'<|Zz<|Sq ?_
 refine Cn (fun hc10=>?_) fun hc10=>?_
 ·skip
  have hlt:i < l.length:=by have:=of_decide_eq_true hc10;omega
  refine awp_skip<|Sq<|awp_block<|Sq<|Rg<|Dd mv'<|Dd as'<|Zz<|Sq<|Rg<|Dd mv'<|Dd mv'<|Dd (by exact opr_call rfl rfl Tryz.call48 rfl (top_c v i _ hh1 hh2 hup (by omega) (by omega)))<|Dd as'<|Zz<|Sq<|Sq<|Rg<|Dd mv'<|Dd mv'<|Dd eql'<|Zz ?_
  refine Cn (fun hc11=>?_) fun hc11=>?_
  ·skip
   have hroot:top v i=i:=by have:=of_decide_eq_true hc11;omega
   obtain ⟨q1,q2⟩:=groups_root hle hroot
   rw [← hG] at q1
   rw [← hR] at q2
   have hput:mput (atL 0 R) (i:Int) (iv (G.length:Int))=atL 0 (R++[i]):=by
    have:=atL_put R 0 i hRm
    rw [Nat.zero_add,← hGR] at this
    exact this
   have hRn2:(R++[i]).Nodup:=List.nodup_append.2 ⟨hRn,by simp,fun a ha b hb e=>by
    rw [List.mem_singleton] at hb
    subst hb;subst e
    exact hRm ha⟩
   have hlk:(mget (atL 0 (R++[i])) (i:Int)).getD (iv 0)=iv (G.length:Int):=by
    rw [atL_get (R++[i]) 0 G.length i hRn2 (by rw [hGR,List.getElem?_append_right (Nat.le_refl _),Nat.sub_self];rfl),Nat.zero_add]
    rfl
   have hlen:(oRows 0 G++[[AV.pv .nils]]).length=G.length+1:=by rw [List.length_append,oRows_len];rfl
   have hnl:(oRows 0 G++[[AV.pv .nils]])[G.length]?=some [.pv .nils]:=by rw [List.getElem?_append_right (by rw [oRows_len];exact Nat.le_refl _),oRows_len,Nat.sub_self];rfl
   have hno:∀ (o1 o2:Ob),Heap.get ((905,o1)::(912,o2)::uoH G.length R G v F) (0+G.length+960)=none:=fun o1 o2=>by
    rw [get_cons_other _ _ (by omega),get_cons_other _ _ (by omega),uoH_get _ _ _ _ _ _ (by omega),List.getElem?_eq_none (by omega)]
    rfl
   rw [hroot]
   refine Sq<|Rg<|Dd mv'<|Dd mv'<|Dd mv'<|Dd (by exact opd_len_osl rfl Tryz.underlying33 rfl rfl rfl)<|Uu (by exact x_mapUpdate (κ:=intK .i64) (k:=(i:Int)) (l:=atL 0 R) (.inl rfl) Tryz.underlying85 Tryz.underlying3 rfl rfl rfl rfl rfl rfl rfl hput)<|Zz<|Rg<|Dd mv'<|Dd (by exact x_build_nils rfl so33)<|Dd (by exact x_append (ps:=[[.nils]]) rfl so33 ei42 rfl rfl rfl rfl rfl (oRows_len G 0) rfl (by intro r hr;rw [List.mem_singleton] at hr;subst hr;rfl) (m:=1) rfl (by omega) rfl rfl)<|Dd as'<|Zz ?_
   refine awp_drawc follows ?_
   refine Cr [905] (fun _ _=>mv')<|Cr [912] (fun _ _=>mv')<|Cr [] (fun _ _=>mv')<|Cr [912] (fun H1 hH=>by exact OpD.cv (opd_lookup (κ:=intK .i64) (k:=(i:Int)) (l:=atL 0 (R++[i])) rfl Tryz.underlying85 Tryz.underlying3 rfl ((hH _ rfl).trans rfl) rfl rfl rfl Tryz.zeroValue3 (.inl rfl)) hlk)<|Cr [905] (fun _ _=>mv')<|Cr [912] (fun _ _=>mv')<|Cr [] (fun _ _=>mv')<|Cr [912] (fun H1 hH=>by exact OpD.cv (opd_lookup (κ:=intK .i64) (k:=(i:Int)) (l:=atL 0 (R++[i])) rfl Tryz.underlying85 Tryz.underlying3 rfl ((hH _ rfl).trans rfl) rfl rfl rfl Tryz.zeroValue3 (.inl rfl)) hlk)<|Cr [905] (fun H1 hH=>by exact x_index_osl rfl so33 rfl ((hH _ rfl).trans rfl) rfl rfl rfl (by omega) (by exact Int.toNat_natCast _) (Nat.lt_succ_self _) (Nat.zero_add _))<|Cr [905] (fun H1 hH=>by exact opd_load1_ref rfl Tryz.isAgg42 rfl ((hH _ rfl).trans rfl) rfl hnl rfl)<|Cr [] (fun _ _=>mv')<|Cr [] (fun H1 hH=>by exact x_buildSlice [encInt (i:Int)] rfl so42 rfl rfl rfl rfl rfl (by intro r hr;rw [List.mem_singleton] at hr;subst hr;rfl)) ?_
   refine dc_cons (r:=⟨_,some [0+G.length+960],[_,_]⟩) (DStep.plain rfl (fun H1 hH=>by exact x_append_nils (t:=130) (id:=0+G.length+960) (ps:=[encInt (i:Int)]) rfl so42 ei3 rfl rfl (by intro r hr;rw [List.mem_singleton] at hr;subst hr;rfl) (m:=1) rfl (by decide) rfl ((hH _ (memB_iff.2 (List.mem_singleton.2 rfl))).trans (hno _ _)))) rfl ?_
   refine Cr [905] (fun H1 hH=>by exact x_index_osl rfl so33 rfl ((hH _ rfl).trans rfl) rfl rfl rfl (by omega) (by exact Int.toNat_natCast _) (Nat.lt_succ_self _) (Nat.zero_add _))<|Cp [905] (fun H1 hH=>by exact x_store1 rfl Tryz.sizeOf42 rfl rfl rfl ((hH _ rfl).trans (get_cons_other _ _ (by omega))) rfl hnl (by simp) rfl rfl) ?_
   refine dc_nil ⟨by kernel_rfl,?_⟩
   refine Rg<|Dd ad'<|Dd mv'<|Zz ?_
   refine⟨i+1,by omega,by omega,?_⟩
   dsimp only
   rw [q1,q2,List.length_append]
   exact Ent.get' ⟨⟨_,rfl,rfl⟩,⟨_,rfl,rfl⟩,⟨_,rfl,rfl⟩,⟨_,rfl,rfl⟩,⟨_,rfl,rfl⟩,⟨_,rfl,rfl⟩,trivial⟩ (fun j=>uoH_new j)
  skip
  have hroot:top v i≠i:=by have:=of_decide_eq_false hc11;omega
  obtain ⟨k,g,hk1,hk2,q1,q2⟩:=groups_in hle hid hroot
  rw [← hG] at hk1 q1
  rw [← hR] at hk2 q2
  have hkl:=(List.getElem?_eq_some_iff.1 hk1).1
  have hgl:g.length≤i:=by
   have h1:g∈groups (top v) i:=by rw [← hG];exact List.mem_of_getElem? hk1
   obtain ⟨r,_,rfl⟩:=List.mem_map.1 h1
   exact Nat.le_trans (List.length_filter_le _ _) (by rw [List.length_range];exact Nat.le_refl _)
  have hlk:(mget (atL 0 R) ((top v i:Nat):Int)).getD (iv 0)=iv (k:Int):=by
   rw [atL_get R 0 k _ hRn hk2,Nat.zero_add]
   rfl
  have hol:(oRows 0 G).length=G.length:=oRows_len G 0
  have hor:(oRows 0 G)[k]?=some [.osl (0+k+960) g.length 0 g.length]:=by rw [oRows_get,hk1];rfl
  have hfam:Heap.get (uoH G.length R G v F) (0+k+960)=some (gObU g):=by
   rw [uoH_get _ _ _ _ _ _ (by omega)]
   have e3:0+k+960 - 960=k:=by omega
   rw [e3,hk1]
   rfl
  refine awp_skip ?_
  refine awp_drawc follows ?_
  refine Cr [905] (fun _ _=>mv')<|Cr [912] (fun _ _=>mv')<|Cr [] (fun _ _=>mv')<|Cr [912] (fun H1 hH=>by exact OpD.cv (opd_lookup (κ:=intK .i64) (k:=((top v i:Nat):Int)) (l:=atL 0 R) rfl Tryz.underlying85 Tryz.underlying3 rfl ((hH _ rfl).trans rfl) rfl rfl rfl Tryz.zeroValue3 (.inl rfl)) hlk)<|Cr [905] (fun _ _=>mv')<|Cr [912] (fun _ _=>mv')<|Cr [] (fun _ _=>mv')<|Cr [912] (fun H1 hH=>by exact OpD.cv (opd_lookup (κ:=intK .i64) (k:=((top v i:Nat):Int)) (l:=atL 0 R) rfl Tryz.underlying85 Tryz.underlying3 rfl ((hH _ rfl).trans rfl) rfl rfl rfl Tryz.zeroValue3 (.inl rfl)) hlk)<|Cr [905] (fun H1 hH=>by exact x_index_osl rfl so33 rfl ((hH _ rfl).trans rfl) rfl rfl rfl (by omega) (by exact Int.toNat_natCast _) hkl (Nat.zero_add _))<|Cr [905] (fun H1 hH=>by exact opd_load1_ref rfl Tryz.isAgg42 rfl ((hH _ rfl).trans rfl) rfl hor rfl)<|Cr [] (fun _ _=>mv')<|Cr [] (fun H1 hH=>by exact x_buildSlice [encInt (i:Int)] rfl so42 rfl rfl rfl rfl rfl (by intro r hr;rw [List.mem_singleton] at hr;subst hr;rfl)) ?_
  refine Cp [0+k+960] (fun H1 hH=>by exact x_append (id:=0+k+960) (ps:=[encInt (i:Int)]) rfl so42 ei3 rfl ((hH _ (memB_iff.2 (List.mem_singleton.2 rfl))).trans hfam) rfl rfl rfl (iRows_len g) rfl (by intro r hr;rw [List.mem_singleton] at hr;subst hr;rfl) (m:=1) rfl (by omega) rfl (iRows_app g i))<|Cr [905] (fun H1 hH=>by exact x_index_osl rfl so33 rfl ((hH _ rfl).trans rfl) rfl rfl rfl (by omega) (by exact Int.toNat_natCast _) hkl (Nat.zero_add _))<|Cp [905] (fun H1 hH=>by exact x_store1 rfl Tryz.sizeOf42 rfl rfl rfl ((hH _ rfl).trans (get_cons_other _ _ (by omega))) rfl hor (by simp) rfl rfl) ?_
  refine dc_nil ⟨by kernel_rfl,?_⟩
  refine Rg<|Dd ad'<|Dd mv'<|Zz ?_
  refine⟨i+1,by omega,by omega,?_⟩
  dsimp only
  rw [q1,q2,List.length_set]
  exact Ent.get' ⟨⟨_,rfl,rfl⟩,⟨_,rfl,rfl⟩,⟨_,rfl,rfl⟩,⟨_,rfl,rfl⟩,⟨_,rfl,rfl⟩,⟨_,rfl,rfl⟩,trivial⟩ (fun j=>uoH_grow hk1 j)
 skip
 have hge:i=l.length:=by have:=of_decide_eq_false hc10;omega
 subst hge
 rw [← hG]
 refine awp_exit<|Sq ?_
 refine AWp.ent (uoH_drop (t:=16) _ _ _ _ _ rfl) ?_
 refine AWp.ent (fam_all G) ?_
 refine Rg<|Dd mv'<|Dd as'<|Zz<|awp_ret ?_
 refine aret1 (H':=[(905,oObU G.length (zRows G))]) (.inr rfl) rfl (rval_tmp rfl) Fin.refl ?_
 exact⟨rfl,rfl⟩
end
section
def okU (l:List GEdit):Prop:=∀ e∈l,okE e∧e.refs.length+e.obj.refs.length < 1099511627776
theorem zRows_pv (G:List (List Nat)):zRows G=(G.map encG).map (·.map .pv):=by rw [zRows,List.map_map];rfl
theorem unitsF_c (l:List GEdit) (he:okU l) (hl:l.length < 4611686018427387904) (hv:gChange l=false) (H:Heap):ACalls Tryz.prog 19 [.pv (slEdits l)] H (fun r H'=>r=.pv (slGroups (gUnits l))∧H'=H):=by
 refine ACalls.pure ?_ (by simp) H
 have hg:gUnits l=[]:=by rw [gUnits,if_neg (by rw [hv];decide)]
 rw [hg]
 refine Bd Tryz.func19 rfl Tryz.ntmps19<|Sq<|Rg<|Dd as'<|Zz<|Sq<|Sq<|Rg<|Dd mv'<|Dd (by exact opr_call rfl rfl Tryz.call15 rfl (changeValid_c l _ hl (fun e h=>(he e h).1)))<|Dd no'<|Zz ?_
 refine Cn (fun hc1=>?_) fun hc1=>?_
 ·skip
  refine Sq<|Rg<|Dd as'<|Zz<|awp_ret ?_
  refine Rt ?_
  exact⟨rfl,rfl⟩
 skip
 rw [hv] at hc1;cases hc1
theorem unitsT_c (l:List GEdit) (he:okU l) (hv:gChange l=true) (H:Heap):ACalls Tryz.prog 19 [.pv (slEdits l)] H (fun r H'=>r=.pv (slGroups (gUnits l))∧H'=H):=by
 refine ACalls.pure ?_ (by simp) H
 refine(units0_c l he hv).fin ?_
 rintro r H1 ⟨rfl,rfl⟩
 exact⟨_,_,Fin.slice0 ((gUnits l).map encG) rfl rfl (zRows_pv _) (List.length_map _),rfl,rfl⟩
theorem units_c (l:List GEdit) (he:okU l) (hl:l.length < 4611686018427387904) (H:Heap):ACalls Tryz.prog 19 [.pv (slEdits l)] H (fun r H'=>r=.pv (slGroups (gUnits l))∧H'=H):=by
 cases hv:gChange l with
 | true=>exact unitsT_c l he hv H
 | false=>exact unitsF_c l he hl hv H
end
section
def gBefore:List ByteArray→List ByteArray→Bool
 | [],b=>decide ((0:Int) < (b.length:Int))
 | _::_,[]=>false
 | x::a,y::b=>if x=y then gBefore a b else slt x y
theorem before_drop {a b:List ByteArray} {k:Nat} {x y:ByteArray} (hx:a[k]?=some x) (hy:b[k]?=some y):gBefore (a.drop k) (b.drop k)=if x=y then gBefore (a.drop (k+1)) (b.drop (k+1))else slt x y:=by
 obtain ⟨h1,e1⟩:=List.getElem?_eq_some_iff.1 hx
 obtain ⟨h2,e2⟩:=List.getElem?_eq_some_iff.1 hy
 rw [List.drop_eq_getElem_cons h1,List.drop_eq_getElem_cons h2,e1,e2,gBefore]
theorem before_end {a b:List ByteArray} {k:Nat} (ha:k≤a.length) (hb:k≤b.length) (h:¬ (k < a.length∧k < b.length)):gBefore (a.drop k) (b.drop k)=decide ((a.length:Int) < (b.length:Int)):=by
 by_cases e:k=a.length
 ·rw [List.drop_eq_nil_of_le (by omega),gBefore,List.length_drop]
  congr 1
  exact propext ⟨fun h=>by omega,fun h=>by omega⟩
 have hb':k=b.length:=by omega
 have h1:k < a.length:=by omega
 rw [List.drop_eq_getElem_cons h1,show b.drop k=[] from List.drop_eq_nil_of_le (by omega),gBefore]
 exact(decide_eq_false (by omega)).symm
theorem before_c (a b:List ByteArray) (H:Heap) (ha:a.length < 4611686018427387904) (hb:b.length < 4611686018427387904):ACalls Tryz.prog 114 [.pv (slStrs a),.pv (slStrs b)] H (fun r H'=>r=bv (gBefore a b)∧H'=H):=by
 refine ACalls.pure ?_ (by simp) H
 have hma:(a.map encStr).length=a.length:=List.length_map _
 have hmb:(b.map encStr).length=b.length:=List.length_map _
 refine Bd Tryz.func114 rfl Tryz.ntmps114<|Sq<|Rg<|Dd as'<|Zz<|Sq<|Sq<|Rg<|Dd as'<|Zz<|awp_block ?_
 refine awp_loop (σ:=Nat) (fun k=>([(0,.pv (slStrs a)),(1,.pv (slStrs b)),(5,iv (k:Int))],[])) (fun k=>k≤a.length∧k≤b.length∧gBefore (a.drop k) (b.drop k)=gBefore a b) (fun k=>a.length - k) 0 ⟨by omega,by omega,rfl⟩ ?_ ?_
 ·exact Wk
 rintro k ⟨hka,hkb,hno⟩
 refine Sq<|Sq ?_
 refine awp_bool (t:=15) (n:=11) (X:=decide ((k:Int) < ((a.map encStr).length:Int))&&decide ((k:Int) < ((b.map encStr).length:Int))) ?_ ?_
 ·all_goals refine Dd mv' ?_
  all_goals refine Dd mv' ?_
  all_goals refine Dd (ll' Tryz.underlying46) ?_
  all_goals refine Dd lss' ?_
  all_goals refine Dd mv' ?_
  all_goals refine Sp 10 (fun h10=>?_) fun h10=>?_
  all_goals try contradiction
  all_goals first|refine Fo ?_|refine On mv' ?_
  all_goals first|refine Fo ?_|refine On mv' ?_
  all_goals first|refine Fo ?_|refine On (ll' Tryz.underlying46) ?_
  all_goals first|refine Fo ?_|refine On lss' ?_
  all_goals refine Dd pk' ?_
  all_goals refine al_nil ?_
  all_goals(exact⟨⟨_,rfl,by first|(simp_all;done)|(simp_all;omega)⟩,rfl,rfl,rfl⟩)
 refine Cn (fun hc1=>?_) fun hc1=>?_
 ·have hlt:k < a.length∧k < b.length:=by
   simp only [Bool.and_eq_true,decide_eq_true_eq] at hc1
   omega
  obtain ⟨x,hx⟩:=get_of_lt hlt.1
  obtain ⟨y,hy⟩:=get_of_lt hlt.2
  have hi:=map_get (f:=encStr) hx
  have hj:=map_get (f:=encStr) hy
  rw [before_drop hx hy] at hno
  refine awp_skip<|Sq<|awp_block<|Sq ?_
  refine awp_drawc follows ?_
  refine Cq mv'<|Cq mv'<|Cq (xp' so46)<|Cq (lp' Tryz.isAgg9)<|Cq mv'<|Cq mv'<|Cq (xp' so46)<|Cq (lp' Tryz.isAgg9)<|Cq sn' ?_
  refine dc_nil ⟨by kernel_rfl,?_⟩
  refine Cn (fun hc2=>?_) fun hc2=>?_
  ·have hne:¬ (x=y):=by simpa using hc2
   rw [if_neg hne] at hno
   refine Sq ?_
   refine awp_drawc follows ?_
   refine Cq mv'<|Cq mv'<|Cq (xp' so46)<|Cq (lp' Tryz.isAgg9)<|Cq mv'<|Cq mv'<|Cq (xp' so46)<|Cq (lp' Tryz.isAgg9)<|Cq (by exact opd_slss rfl rfl rfl)<|Cq as' ?_
   refine dc_nil ⟨by kernel_rfl,?_⟩
   refine awp_ret ?_
   refine Rt ?_
   exact⟨by rw [← hno],rfl⟩
  have he:x=y:=by simpa using hc2
  rw [if_pos he] at hno
  refine awp_skip<|Rg<|Dd mv'<|Dd ad'<|Dd as'<|Zz ?_
  exact⟨k+1,⟨by omega,by omega,hno⟩,by omega,Wk⟩
 have hge:¬ (k < a.length∧k < b.length):=by
  intro h
  simp only [Bool.and_eq_false_iff,decide_eq_false_iff_not] at hc1
  omega
 rw [before_end hka hkb hge] at hno
 refine awp_exit<|Sq<|Rg<|Dd mv'<|Dd (ll' Tryz.underlying46)<|Dd mv'<|Dd (ll' Tryz.underlying46)<|Dd lss'<|Dd as'<|Zz<|awp_ret ?_
 refine Rt ?_
 exact⟨by rw [← hno,hma,hmb],rfl⟩
def gIds (a b:List ByteArray):Bool:=!gBefore a b&&!gBefore b a
theorem ids_c (a b:List ByteArray) (H:Heap) (ha:a.length < 4611686018427387904) (hb:b.length < 4611686018427387904):ACalls Tryz.prog 57 [.pv (slStrs a),.pv (slStrs b)] H (fun r H'=>r=bv (gIds a b)∧H'=H):=by
 refine ACalls.pure ?_ (by simp) H
 refine Bd Tryz.func57 rfl Tryz.ntmps57<|Sq<|Rg<|Dd as'<|Zz<|Sq ?_
 refine awp_bool (t:=4) (n:=12) (X:=gIds a b) ?_ ?_
 ·all_goals refine Dd mv' ?_
  all_goals refine Dd mv' ?_
  all_goals refine Dd (by exact opr_call rfl rfl Tryz.call114 rfl (before_c a b _ ha hb)) ?_
  all_goals refine Dd no' ?_
  all_goals refine Dd mv' ?_
  all_goals refine Sp 9 (fun h9=>?_) fun h9=>?_
  all_goals try contradiction
  all_goals first|refine Fo ?_|refine On mv' ?_
  all_goals first|refine Fo ?_|refine On mv' ?_
  all_goals first|refine Fo ?_|refine On (by exact opr_call rfl rfl Tryz.call114 rfl (before_c b a _ hb ha)) ?_
  all_goals first|refine Fo ?_|refine On no' ?_
  all_goals refine Dd pk' ?_
  all_goals refine Dd as' ?_
  all_goals refine al_nil ?_
  all_goals(exact⟨⟨_,rfl,by(simp only [gIds, *];rfl)⟩,rfl,rfl,rfl⟩)
 refine awp_ret ?_
 refine Rt ?_
 exact⟨rfl,rfl⟩
end
section
theorem gBefore_self (a:List ByteArray):gBefore a a=false:=by
 induction a with
 | nil=>rfl
 | cons x a ih=>rw [gBefore,if_pos rfl];exact ih
theorem gBefore_tri:∀ {a b:List ByteArray},gBefore a b=false→gBefore b a=false→a=b
 | [],[],_,_=>rfl
 | [],y::b,h,_=>by simp [gBefore] at h
 | x::a,[],_,h=>by simp [gBefore] at h
 | x::a,y::b,h1,h2=>by
  rw [gBefore] at h1 h2
  by_cases e:x=y
  ·subst e
   rw [if_pos rfl] at h1 h2
   rw [gBefore_tri h1 h2]
  rw [if_neg e] at h1
  rw [if_neg (fun h=>e h.symm)] at h2
  exact absurd (slt_tri h1 h2) e
theorem gIds_eq (a b:List ByteArray):gIds a b=true↔a=b:=by
 constructor
 ·intro h
  simp only [gIds,Bool.and_eq_true,Bool.not_eq_true'] at h
  exact gBefore_tri h.1 h.2
 rintro rfl
 simp [gIds,gBefore_self]
end
section
theorem rWrites_c (e:GEdit) (H:Heap):ACalls Tryz.prog 28 [av (encEdit e)] H (fun r H'=>r=.pv (slStrs (gWrites e))∧H'=H):=by
 refine ACalls.pure ?_ (by simp) H
 refine Bd Tryz.func28 rfl Tryz.ntmps28<|Sq<|Rg<|Dd (by exact opd_box (id:=1) rfl rfl rfl rfl rfl)<|Dd as'<|Zz<|Sq<|Sq<|Rg<|Dd (fr' fo51_0)<|Dd (l1' Tryz.isAgg3)<|Zz<|awp_block<|Sq<|Rg<|Dd eql'<|Dd as'<|Zz ?_
 refine Cn (fun hc1=>?_) fun hc1=>?_
 ·skip
  have h1:e.op=1:=of_decide_eq_true hc1
  have hW:gWrites e=[e.obj.id]:=by rw [gWrites,if_pos h1]
  rw [hW]
  refine Sq<|Rg<|Dd (fr' fo51_8)<|Dd (fr' fo49_0)<|Dd (l1' Tryz.isAgg9)<|Dd (by exact x_buildSlice [encStr e.obj.id] rfl so46 rfl rfl rfl rfl rfl (by intro r hr;rw [List.mem_singleton] at hr;subst hr;rfl))<|Dd as'<|Zz<|awp_ret ?_
  refine Rt ?_
  exact⟨rfl,rfl⟩
 skip
 have h1:¬ e.op=1:=of_decide_eq_false hc1
 refine Sq<|Sq<|Rg<|Dd eql'<|Dd as'<|Zz ?_
 refine Cn (fun hc2=>?_) fun hc2=>?_
 ·skip
  have h6:e.op=6:=of_decide_eq_true hc2
  have hW:gWrites e=[e.id,e.other]:=by rw [gWrites,if_neg h1,if_pos (.inl h6)]
  rw [hW]
  refine awp_skip ?_
  refine Cn (fun hc3=>?_) fun hc3=>?_
  ·skip
   refine Sq<|Rg<|Dd (fr' fo51_1)<|Dd (l1' Tryz.isAgg9)<|Dd (fr' fo51_2)<|Dd (l1' Tryz.isAgg9)<|Dd (by exact x_buildSlice [encStr e.id,encStr e.other] rfl so46 rfl rfl rfl rfl rfl (by intro r hr;simp only [List.mem_cons,List.not_mem_nil,or_false] at hr;rcases hr with rfl|rfl<;>rfl))<|Dd as'<|Zz<|awp_ret ?_
   refine Rt ?_
   exact⟨rfl,rfl⟩
  skip
  ((revert hc3;simp_all;done))
 skip
 have h6:¬ e.op=6:=of_decide_eq_false hc2
 refine Rg<|Dd eql'<|Dd as'<|Zz ?_
 refine Cn (fun hc4=>?_) fun hc4=>?_
 ·skip
  have h7:e.op=7:=of_decide_eq_true hc4
  have hW:gWrites e=[e.id,e.other]:=by rw [gWrites,if_neg h1,if_pos (.inr h7)]
  rw [hW]
  refine Sq<|Rg<|Dd (fr' fo51_1)<|Dd (l1' Tryz.isAgg9)<|Dd (fr' fo51_2)<|Dd (l1' Tryz.isAgg9)<|Dd (by exact x_buildSlice [encStr e.id,encStr e.other] rfl so46 rfl rfl rfl rfl rfl (by intro r hr;simp only [List.mem_cons,List.not_mem_nil,or_false] at hr;rcases hr with rfl|rfl<;>rfl))<|Dd as'<|Zz<|awp_ret ?_
  refine Rt ?_
  exact⟨rfl,rfl⟩
 skip
 have h7:¬ e.op=7:=of_decide_eq_false hc4
 have hW:gWrites e=[e.id]:=by rw [gWrites,if_neg h1,if_neg (by rintro(h|h);exact h6 h;exact h7 h)]
 rw [hW]
 refine awp_skip<|Sq<|Rg<|Dd (fr' fo51_1)<|Dd (l1' Tryz.isAgg9)<|Dd (by exact x_buildSlice [encStr e.id] rfl so46 rfl rfl rfl rfl rfl (by intro r hr;rw [List.mem_singleton] at hr;subst hr;rfl))<|Dd as'<|Zz<|awp_ret ?_
 refine Rt ?_
 exact⟨rfl,rfl⟩
def sameE22 (a b:GEdit):Bool:=((((((((decide (a.op=b.op)&&decide (a.id=b.id))&&decide (a.other=b.other))&&decide (a.node=b.node))&&(decide (a.x=b.x)&&decide (a.y=b.y)))&&decide (a.key=b.key))&&decide (a.val=b.val))&&gIds a.refs b.refs)&&gSameO a.obj b.obj)
theorem sameE22_iff {a b:GEdit}:sameE22 a b=true↔a=b:=by
 obtain ⟨a1,a2,a3,a4,a5,a6,a7,a8,a9,a10⟩:=a
 obtain ⟨b1,b2,b3,b4,b5,b6,b7,b8,b9,b10⟩:=b
 simp only [sameE22,Bool.and_eq_true,decide_eq_true_eq,gIds_eq,gSameO_iff,GEdit.mk.injEq,and_assoc]
instance decE22:DecidableEq GEdit:=fun a b=>decidable_of_iff (sameE22 a b=true) sameE22_iff
theorem sameE22_eq (a b:GEdit):sameE22 a b=decide (a=b):=by rw [Bool.eq_iff_iff,sameE22_iff,decide_eq_true_eq]
theorem same22_c (a b:GEdit) (H:Heap) (ha:okE a) (hb:okE b):ACalls Tryz.prog 29 [av (encEdit a),av (encEdit b)] H (fun r H'=>r=bv (decide (a=b))∧H'=H):=by
 refine ACalls.pure ?_ (by simp) H
 rw [← sameE22_eq]
 refine Bd Tryz.func29 rfl Tryz.ntmps29<|Sq<|Rg<|Dd (by exact opd_box (id:=2) rfl rfl rfl rfl rfl)<|Dd (by exact opd_box (id:=3) rfl rfl rfl rfl rfl)<|Dd as'<|Zz<|Sq ?_
 refine awp_bool (t:=4) (n:=70) (X:=sameE22 a b) ?_ ?_
 ·all_goals refine Dd (fr' fo51_0) ?_
  all_goals refine Dd (l1' Tryz.isAgg3) ?_
  all_goals refine Dd (fr' fo51_0) ?_
  all_goals refine Dd (l1' Tryz.isAgg3) ?_
  all_goals refine Dd eql' ?_
  all_goals refine Dd mv' ?_
  all_goals refine Sp 10 (fun h10=>?_) fun h10=>?_
  all_goals try contradiction
  all_goals first|refine Fo ?_|refine On (fr' fo51_1) ?_
  all_goals first|refine Fo ?_|refine On (l1' Tryz.isAgg9) ?_
  all_goals first|refine Fo ?_|refine On (fr' fo51_1) ?_
  all_goals first|refine Fo ?_|refine On (l1' Tryz.isAgg9) ?_
  all_goals first|refine Fo ?_|refine On se' ?_
  all_goals refine Dd pk' ?_
  all_goals refine Dd mv' ?_
  all_goals refine Sp 17 (fun h17=>?_) fun h17=>?_
  all_goals try contradiction
  all_goals first|refine Fo ?_|refine On (fr' fo51_2) ?_
  all_goals first|refine Fo ?_|refine On (l1' Tryz.isAgg9) ?_
  all_goals first|refine Fo ?_|refine On (fr' fo51_2) ?_
  all_goals first|refine Fo ?_|refine On (l1' Tryz.isAgg9) ?_
  all_goals first|refine Fo ?_|refine On se' ?_
  all_goals refine Dd pk' ?_
  all_goals refine Dd mv' ?_
  all_goals refine Sp 24 (fun h24=>?_) fun h24=>?_
  all_goals try contradiction
  all_goals first|refine Fo ?_|refine On (fr' fo51_3) ?_
  all_goals first|refine Fo ?_|refine On (l1' Tryz.isAgg9) ?_
  all_goals first|refine Fo ?_|refine On (fr' fo51_3) ?_
  all_goals first|refine Fo ?_|refine On (l1' Tryz.isAgg9) ?_
  all_goals first|refine Fo ?_|refine On se' ?_
  all_goals refine Dd pk' ?_
  all_goals refine Dd mv' ?_
  all_goals refine Sp 31 (fun h31=>?_) fun h31=>?_
  all_goals try contradiction
  all_goals first|refine Fo ?_|refine On (fr' fo51_4) ?_
  all_goals first|refine Fo ?_|refine On (by exact opd_loadn_ref rfl Tryz.isAgg45 Tryz.sizeOf45 rfl rfl rfl rfl (by simp only [Zl,encTag,encObj,encStr,encEdit,encInt];rfl) rfl) ?_
  all_goals first|refine Fo ?_|refine On (fr' fo51_4) ?_
  all_goals first|refine Fo ?_|refine On (by exact opd_loadn_ref rfl Tryz.isAgg45 Tryz.sizeOf45 rfl rfl rfl rfl (by simp only [Zl,encTag,encObj,encStr,encEdit,encInt];rfl) rfl) ?_
  all_goals first|refine Fo ?_|refine On (by exact opd_aeql rfl rfl rfl rfl rfl Tryz.eqGuardType45 (se45 _ _ _ _)) ?_
  all_goals refine Dd pk' ?_
  all_goals refine Dd mv' ?_
  all_goals refine Sp 38 (fun h38=>?_) fun h38=>?_
  all_goals try contradiction
  all_goals first|refine Fo ?_|refine On (fr' fo51_5) ?_
  all_goals first|refine Fo ?_|refine On (l1' Tryz.isAgg9) ?_
  all_goals first|refine Fo ?_|refine On (fr' fo51_5) ?_
  all_goals first|refine Fo ?_|refine On (l1' Tryz.isAgg9) ?_
  all_goals first|refine Fo ?_|refine On se' ?_
  all_goals refine Dd pk' ?_
  all_goals refine Dd mv' ?_
  all_goals refine Sp 45 (fun h45=>?_) fun h45=>?_
  all_goals try contradiction
  all_goals first|refine Fo ?_|refine On (fr' fo51_6) ?_
  all_goals first|refine Fo ?_|refine On (l1' Tryz.isAgg9) ?_
  all_goals first|refine Fo ?_|refine On (fr' fo51_6) ?_
  all_goals first|refine Fo ?_|refine On (l1' Tryz.isAgg9) ?_
  all_goals first|refine Fo ?_|refine On se' ?_
  all_goals refine Dd pk' ?_
  all_goals refine Dd mv' ?_
  all_goals refine Sp 52 (fun h52=>?_) fun h52=>?_
  all_goals try contradiction
  all_goals first|refine Fo ?_|refine On (fr' fo51_7) ?_
  all_goals first|refine Fo ?_|refine On (l1' Tryz.isAgg46) ?_
  all_goals first|refine Fo ?_|refine On (fr' fo51_7) ?_
  all_goals first|refine Fo ?_|refine On (l1' Tryz.isAgg46) ?_
  all_goals first|refine Fo ?_|refine On (by exact opr_call rfl rfl Tryz.call57 rfl (ids_c a.refs b.refs _ ha.2.1.1 hb.2.1.1)) ?_
  all_goals refine Dd pk' ?_
  all_goals refine Dd mv' ?_
  all_goals refine Sp 59 (fun h59=>?_) fun h59=>?_
  all_goals try contradiction
  all_goals first|refine Fo ?_|refine On (fr' fo51_8) ?_
  all_goals first|refine Fo ?_|refine On (by exact opd_loadn_ref rfl Tryz.isAgg49 Tryz.sizeOf49 rfl rfl rfl rfl (by simp only [Zl,encTag,encObj,encStr,encEdit,encInt];rfl) rfl) ?_
  all_goals first|refine Fo ?_|refine On (fr' fo51_8) ?_
  all_goals first|refine Fo ?_|refine On (by exact opd_loadn_ref rfl Tryz.isAgg49 Tryz.sizeOf49 rfl rfl rfl rfl (by simp only [Zl,encTag,encObj,encStr,encEdit,encInt];rfl) rfl) ?_
  all_goals first|refine Fo ?_|refine On (by exact opr_call rfl rfl Tryz.call66 rfl (rSame_c a.obj b.obj _ ha.2.2.2.2.1 ha.2.2.2.1.1)) ?_
  all_goals refine Dd pk' ?_
  all_goals refine Dd as' ?_
  all_goals refine al_nil ?_
  all_goals(exact⟨⟨_,rfl,by(simp only [sameE22, *];rfl)⟩,rfl,rfl,rfl⟩)
 refine awp_ret ?_
 refine Rt ?_
 exact⟨rfl,rfl⟩
theorem okE_put {op:Int} {a:GObj} (ha:okO a):okE ⟨op,sNil,sNil,sNil,0,0,sNil,sNil,[],a⟩:=⟨⟨(by decide:sNil.size < 4611686018427387904),(by decide:sNil.size < 4611686018427387904),(by decide:sNil.size < 4611686018427387904),(by decide:sNil.size < 4611686018427387904)⟩,⟨Nat.zero_lt_succ _,fun s h=>by cases h⟩,ha⟩
theorem same22P_c (a b:GObj) (H:Heap) (ha:okO a) (hb:okO b):ACalls Tryz.prog 29 [av (encEdit ⟨0,sNil,sNil,sNil,0,0,sNil,sNil,[],a⟩),av (encEdit ⟨0,sNil,sNil,sNil,0,0,sNil,sNil,[],b⟩)] H (fun r H'=>r=bv (decide (a=b))∧H'=H):=by
 have h:=same22_c ⟨0,sNil,sNil,sNil,0,0,sNil,sNil,[],a⟩ ⟨0,sNil,sNil,sNil,0,0,sNil,sNil,[],b⟩ H (okE_put ha) (okE_put hb)
 simpa only [GEdit.mk.injEq,true_and] using h
theorem all22_c (l m:List GEdit) (H:Heap) (hl:l.length < 4611686018427387904) (ho:∀ e∈l,okE e) (hm:∀ e∈m,okE e):ACalls Tryz.prog 17 [.pv (slEdits l),.pv (slEdits m)] H (fun r H'=>r=bv (decide (l=m))∧H'=H):=by
 refine ACalls.pure ?_ (by simp) H
 have hml:(l.map encEdit).length=l.length:=List.length_map _
 have hmm:(m.map encEdit).length=m.length:=List.length_map _
 refine Bd Tryz.func17 rfl Tryz.ntmps17<|Sq<|Rg<|Dd as'<|Zz<|Sq<|Sq<|Rg<|Dd mv'<|Dd (ll' Tryz.underlying22)<|Dd mv'<|Dd (ll' Tryz.underlying22)<|Dd ne'<|Zz ?_
 refine Cn (fun hc1=>?_) fun hc1=>?_
 ·skip
  have hne:¬ l=m:=fun e=>by have h:=hc1;rw [hml,hmm,e] at h;simp at h
  rw [decide_eq_false hne]
  refine Sq<|Rg<|Dd as'<|Zz<|awp_ret ?_
  refine Rt ?_
  exact⟨rfl,rfl⟩
 skip
 have hle:l.length=m.length:=by have h:=hc1;rw [hml,hmm] at h;simp at h;omega
 refine awp_skip<|Sq<|Sq<|Rg<|Dd as'<|Zz<|awp_block ?_
 refine awp_loop (σ:=Nat) (fun k=>([(0,.pv (slEdits l)),(1,.pv (slEdits m)),(5,iv (k:Int))],[])) (fun k=>k≤l.length∧∀ j,j < k→l[j]?=m[j]?) (fun k=>l.length - k) 0 ⟨Nat.zero_le _,fun j h=>by omega⟩ ?_ ?_
 ·exact E0
 rintro k ⟨hk,hall⟩
 refine Sq<|Sq<|Rg<|Dd mv'<|Dd mv'<|Dd (ll' Tryz.underlying22)<|Dd lss'<|Zz ?_
 refine Cn (fun hc2=>?_) fun hc2=>?_
 ·skip
  have hlt:k < l.length:=by have:=of_decide_eq_true hc2;omega
  obtain ⟨x,hx⟩:=get_of_lt hlt
  obtain ⟨y,hy⟩:=get_of_lt (show k < m.length by omega)
  have hix:=map_get (f:=encEdit) hx
  have hiy:=map_get (f:=encEdit) hy
  refine awp_skip<|Sq<|awp_block<|Sq ?_
  refine awp_drawc follows ?_
  refine Cq mv'<|Cq mv'<|Cq (xp' so22)<|Cq (by exact opd_loadn_pad rfl Tryz.isAgg51 Tryz.sizeOf51 rfl (by omega) (by simp only [Zl,encTag,encObj,encStr,encEdit,encInt];rfl) rfl)<|Cq mv'<|Cq mv'<|Cq (xp' so22)<|Cq (by exact opd_loadn_pad rfl Tryz.isAgg51 Tryz.sizeOf51 rfl (by omega) (by simp only [Zl,encTag,encObj,encStr,encEdit,encInt];rfl) rfl)<|Cq (by exact opr_call rfl rfl Tryz.call29 rfl (same22_c x y _ (ho x (List.mem_of_getElem? hx)) (hm y (List.mem_of_getElem? hy))))<|Cq no' ?_
  refine dc_nil ⟨by kernel_rfl,?_⟩
  refine Cn (fun hc3=>?_) fun hc3=>?_
  ·skip
   have hxy:¬ x=y:=by have h:=hc3;simpa using h
   have hne:¬ l=m:=fun e=>by rw [e,hy] at hx;exact hxy (Option.some.inj hx).symm
   rw [decide_eq_false hne]
   refine Sq<|Rg<|Dd as'<|Zz<|awp_ret ?_
   refine Rt ?_
   exact⟨rfl,rfl⟩
  skip
  have hxy:x=y:=by have h:=hc3;simpa using h
  refine awp_skip<|Rg<|Dd mv'<|Dd ad'<|Dd as'<|Zz ?_
  refine⟨k+1,⟨by omega,fun j hj=>?_⟩,by omega,E0⟩
  by_cases e:j=k
  ·subst e;rw [hx,hy,hxy]
  exact hall j (by omega)
 skip
 have hge:k=l.length:=by have:=of_decide_eq_false hc2;omega
 subst hge
 have heq:l=m:=List.ext_getElem? fun j=>by
  by_cases h:j < l.length
  ·exact hall j h
  rw [List.getElem?_eq_none (by omega),List.getElem?_eq_none (by omega)]
 rw [decide_eq_true heq]
 refine awp_exit<|Sq<|Rg<|Dd as'<|Zz<|awp_ret ?_
 refine Rt ?_
 exact⟨rfl,rfl⟩
theorem okObj_O {o:GObj} (h:okO o):okObj o:=⟨h.2.2.1,h.2.1.1⟩
def gFewC (a b:List GObj):Bool:=few13 a 24&&few13 b 24
theorem fewC_c (a b:List GObj) (H:Heap) (ha:okM a) (hb:okM b):ACalls Tryz.prog 21 [.agg [.pv (slObjs a)],.agg [.pv (slObjs b)]] H (fun r H'=>r=bv (gFewC a b)∧H'=H):=by
 refine ACalls.pure ?_ (by simp) H
 refine Bd Tryz.func21 rfl Tryz.ntmps21<|Sq<|Rg<|Dd (by exact opd_box (id:=2) rfl rfl rfl rfl rfl)<|Dd (by exact opd_box (id:=3) rfl rfl rfl rfl rfl)<|Dd as'<|Zz<|Sq ?_
 refine awp_bool (t:=4) (n:=8) (X:=gFewC a b) ?_ ?_
 ·all_goals refine Dd (by exact opd_loadn_ref rfl Tryz.isAgg38 Tryz.sizeOf38 rfl rfl rfl rfl (by simp only [Zl,encTag,encObj,encStr,encEdit,encInt];rfl) rfl) ?_
  all_goals refine Dd (by exact opr_call rfl rfl Tryz.call50 rfl (few13_c a 24 _ ha.1 (fun o h=>okObj_O (ha.2 o h)))) ?_
  all_goals refine Dd mv' ?_
  all_goals refine Sp 7 (fun h7=>?_) fun h7=>?_
  all_goals try contradiction
  all_goals first|refine Fo ?_|refine On (by exact opd_loadn_ref rfl Tryz.isAgg38 Tryz.sizeOf38 rfl rfl rfl rfl (by simp only [Zl,encTag,encObj,encStr,encEdit,encInt];rfl) rfl) ?_
  all_goals first|refine Fo ?_|refine On (by exact opr_call rfl rfl Tryz.call50 rfl (few13_c b 24 _ hb.1 (fun o h=>okObj_O (hb.2 o h)))) ?_
  all_goals refine Dd pk' ?_
  all_goals refine Dd as' ?_
  all_goals refine al_nil ?_
  all_goals(exact⟨⟨_,rfl,by(simp only [gFewC, *];rfl)⟩,rfl,rfl,rfl⟩)
 refine awp_ret ?_
 refine Rt ?_
 exact⟨rfl,rfl⟩
def ndO (s:ByteArray) (x:Int):GObj:=⟨s,1,x,0,[],[]⟩
theorem node_c (s:ByteArray) (x:Int) (H:Heap):ACalls Tryz.prog 30 [sv s,iv x] H (fun r H'=>r=av (encObj (ndO s x))∧H'=H):=by
 refine ACalls.pure ?_ (by simp) H
 refine Bd Tryz.func30 rfl Tryz.ntmps30<|Sq<|Rg<|Dd (by exact x_alloc (id:=4) rfl zo49 rfl rfl)<|Zz<|Sq<|Rg<|Dd mv'<|Dd mv'<|Dd (bu' bo45)<|Dd (bu' bo49)<|Uu (sa' Tryz.sizeOf49)<|Zz<|awp_ret ?_
 refine aret1 (H':=[]) (.inr rfl) rfl (rl' Tryz.isAgg49 Tryz.sizeOf49) (Fin.wk (r:=av (encObj (ndO s x))) (by simp) trivial trivial) ?_
 exact⟨rfl,rfl⟩
end
section
theorem allOK_c (st:Nat→List GObj) (l:List GEdit) (H:Heap) (hl:l.length < 549755813888) (hcl:∀ k,k≤l.length→closedB (st k)=true) (hok:∀ k,k≤l.length→okM (st k))
  (ha:∀ k e,l[k]?=some e→ACalls Tryz.prog 65 [.ref 14 0 0 0,av (encEdit e)] (cH (st k)) (fun r H'=>r=.tup [.agg [.pv (slObjs (st (k+1)))],iv 0]∧H'=cH (st k))) :
  ACalls Tryz.prog 25 [.agg [.pv (slObjs (st 0))],.pv (slEdits l)] H (fun r H'=>r=.tup [.agg [.pv (slObjs (st l.length))],iv (-1),iv 0]∧H'=H):=by
 refine ACalls.pure ?_ (by simp) H
 have hml:(l.map encEdit).length=l.length:=List.length_map _
 refine Bd Tryz.func25 rfl Tryz.ntmps25<|Sq<|Rg<|Dd (by exact opd_box (id:=2) rfl rfl rfl rfl rfl)<|Dd (by exact x_alloc (id:=4) rfl zo38 rfl rfl)<|Dd as'<|Dd as'<|Zz<|Sq<|Rg<|Dd (ln' Tryz.isAgg38 Tryz.sizeOf38)<|Dd (by exact opr_call rfl rfl Tryz.call64 rfl (ofF_c (st 0) _ (hok 0 (Nat.zero_le _)) (hcl 0 (Nat.zero_le _)) rfl rfl))<|Dd as'<|Zz<|Sq<|Sq<|Rg<|Dd mv'<|Dd (by exact opd_peq_ref rfl Tryz.underlying109 rfl rfl rfl rfl)<|Zz ?_
 refine Cn (fun hc1=>?_) fun hc1=>?_
 ·cases hc1
 skip
 refine awp_skip<|Sq<|Sq<|Rg<|Dd mv'<|Dd (ll' Tryz.underlying22)<|Dd mv'<|Zz<|awp_block ?_
 refine awp_loop (σ:=Nat) (fun k=>([(4,.ref 4 0 0 0),(7,.ref 14 0 0 0),(17,.pv (slEdits l)),(18,iv ((l.map encEdit).length:Int)),(19,iv (k:Int))],[(14,cRow (st k)),(12,kob (st k)),(4,bx 1 38 [lv []])])) (fun k=>k≤l.length) (fun k=>l.length - k) 0 (Nat.zero_le _) ?_ ?_
 ·exact(Ent.wk (Ea<|Ea<|Eb<|Eb<|Eb<|trivial) (Ha<|Hc (kob_clo _ _)<|Hb<|trivial) trivial)
 rintro k hk
 refine Sq<|Rg<|Dd lss'<|Zz<|Sq ?_
 refine Cn (fun hc2=>?_) fun hc2=>?_
 ·have hlt:k < l.length:=by have:=of_decide_eq_true hc2;omega
  obtain ⟨e,hel⟩:=get_of_lt hlt
  have hi:=map_get (f:=encEdit) hel
  refine awp_skip<|Sq<|awp_block<|Sq<|Rg<|Dd mv'<|Dd (xp' so22)<|Dd (by exact opd_loadn_pad rfl Tryz.isAgg51 Tryz.sizeOf51 rfl (by omega) (by simp only [Zl,encTag,encObj,encStr,encEdit,encInt];rfl) rfl)<|Dd (by exact x_alloc (id:=9) rfl zo51 rfl rfl)<|Dd as'<|Uu (sa' Tryz.sizeOf51)<|Zz<|Sq<|Rg<|Dd mv'<|Dd (ln' Tryz.isAgg51 Tryz.sizeOf51)<|Dd (by exact opr_call rfl rfl Tryz.call65 rfl (cl_c (ha k e hel) rfl rfl (by simp;rfl)))<|Dd mv'<|Dd ex'<|Dd ex'<|Dd (by exact x_alloc (id:=10) rfl zo38 rfl rfl)<|Uu (sa' Tryz.sizeOf38)<|Dd as'<|Zz<|Sq<|Sq<|Rg<|Dd mv'<|Dd ne'<|Zz ?_
  refine Cn (fun hc3=>?_) fun hc3=>?_
  ·cases hc3
  skip
  refine awp_skip ?_
  refine AWp.ent (E':=[(4,.ref 4 0 0 0),(10,.ref 10 0 0 0),(17,.pv (slEdits l)),(18,iv ((l.map encEdit).length:Int)),(19,iv (k:Int))]) (H':=[(10,bx 1 38 [.pv (slObjs (st (k+1)))]),(4,bx 1 38 [lv []])]) Wk ?_
  refine Rg<|Dd (ln' Tryz.isAgg38 Tryz.sizeOf38)<|Dd (by exact opr_call rfl rfl Tryz.call64 rfl (ofF_c (st (k+1)) _ (hok _ hlt) (hcl _ hlt) rfl rfl))<|Dd as'<|Zz<|Rg<|Dd ad'<|Dd mv'<|Zz ?_
  exact⟨k+1,by omega,by omega,(Ent.wk (Ea<|Ea<|Eb<|Eb<|Eb<|trivial) (Ha<|Hc (kob_clo _ _)<|Hb<|trivial) trivial)⟩
 have hge:k=l.length:=by have:=of_decide_eq_false hc2;omega
 subst hge
 refine awp_exit<|Sq<|Rg<|Dd mv'<|Dd nc'<|Dd (fr' fo114_0)<|Dd (ln' Tryz.isAgg38 Tryz.sizeOf38)<|Uu (sa' Tryz.sizeOf38)<|Dd as'<|Dd as'<|Zz<|awp_ret ?_
 refine aret3 (H':=[]) (.inr rfl) rfl (rl' Tryz.isAgg38 Tryz.sizeOf38) (rval_tmp rfl) (rval_tmp rfl) (Fin.wk (r:=.tup [.agg [.pv (slObjs (st l.length))],iv (-1),iv 0]) (by simp) trivial trivial) ?_
 exact⟨rfl,rfl⟩
end
section
def bsY (l:List UInt8):ByteArray:=⟨l.toArray⟩
def eMv:GEdit:=⟨2,bsY [110,49],sNil,sNil,3,4,sNil,sNil,[],zObj⟩
def eTg:GEdit:=⟨3,bsY [119,49],sNil,sNil,0,0,bsY [110,97,109,101],bsY [97,32,34,98,34],[],zObj⟩
def eRf:GEdit:=⟨4,bsY [119,49],sNil,sNil,0,0,sNil,sNil,[bsY [110,49],bsY [110,50]],zObj⟩
def t1Y:ByteArray:=bsY [109,111,118,101,32,110,49,32,51,32,52,10]
def t2Y:ByteArray:=bsY [116,97,103,32,119,49,32,110,97,109,101,32,34,97,32,92,34,98,92,34,34,10]
theorem ht1Y:gTextC [eMv]=(t1Y,0):=by kernel_rfl
theorem ht2Y:gTextC [eTg]=(t2Y,0):=by kernel_rfl
theorem hp1Y:gParseC (t1Y++t2Y)=([eMv,eTg],0):=by kernel_rfl
def ndY (id:UInt8) (x:Int):GObj:=⟨bsY [id],1,x,0,[],[]⟩
def mAY:List GObj:=[ndY 97 1,ndY 98 2,⟨bsY [99],2,0,0,[bsY [97],bsY [98]],[]⟩]
def mBY:List GObj:=[⟨bsY [97],2,0,0,[bsY [98],bsY [99]],[]⟩,ndY 98 5,ndY 99 3]
def xsY:List GEdit:=[dropE (bsY [99]),dropE (bsY [97]),putE (ndY 99 3),putE ⟨bsY [97],2,0,0,[bsY [98],bsY [99]],[]⟩,moveE (bsY [98]) 5 0]
theorem hb1Y:gBetween mAY mBY=(xsY,0):=by kernel_rfl
theorem okE_mv:okE eMv:=⟨⟨by decide,by decide,by decide,by decide⟩,⟨by decide,fun s hs=>by cases hs⟩,zObj_ok⟩
theorem okE_tg:okE eTg:=⟨⟨by decide,by decide,by decide,by decide⟩,⟨by decide,fun s hs=>by cases hs⟩,zObj_ok⟩
theorem okE_rf:okE eRf:=⟨⟨by decide,by decide,by decide,by decide⟩,⟨by decide,fun s hs=>by
 have hs:s∈[bsY [110,49],bsY [110,50]]:=hs
 simp only [List.mem_cons,List.not_mem_nil,or_false] at hs
 rcases hs with rfl|rfl<;>decide⟩,zObj_ok⟩
theorem okE_l2:∀ e∈[eMv,eTg],okE e:=fun e he=>by
 simp only [List.mem_cons,List.not_mem_nil,or_false] at he
 rcases he with rfl|rfl
 ·exact okE_mv
 exact okE_tg
theorem okU_l3:okU [eMv,eTg,eRf]:=fun e he=>by
 simp only [List.mem_cons,List.not_mem_nil,or_false] at he
 rcases he with rfl|rfl|rfl
 ·exact⟨okE_mv,by decide⟩
 ·exact⟨okE_tg,by decide⟩
 exact⟨okE_rf,by decide⟩
theorem okU_l2:okU [eMv,eTg]:=fun e he=>okU_l3 e (by
 simp only [List.mem_cons,List.not_mem_nil,or_false] at he ⊢
 rcases he with rfl|rfl
 ·exact .inl rfl
 exact .inr (.inl rfl))
theorem okM_AY:okM mAY:=⟨by decide,fun o ho=>by
 have ho:o∈[ndY 97 1,ndY 98 2,⟨bsY [99],2,0,0,[bsY [97],bsY [98]],[]⟩]:=ho
 simp only [List.mem_cons,List.not_mem_nil,or_false] at ho
 rcases ho with rfl|rfl|rfl
 ·exact⟨by decide,⟨by decide,fun t ht=>by cases ht⟩,by decide,fun s hs=>by cases hs⟩
 ·exact⟨by decide,⟨by decide,fun t ht=>by cases ht⟩,by decide,fun s hs=>by cases hs⟩
 exact⟨by decide,⟨by decide,fun t ht=>by cases ht⟩,by decide,fun s hs=>by
  have hs:s∈[bsY [97],bsY [98]]:=hs
  simp only [List.mem_cons,List.not_mem_nil,or_false] at hs
  rcases hs with rfl|rfl<;>decide⟩⟩
theorem okM_BY:okM mBY:=⟨by decide,fun o ho=>by
 have ho:o∈[⟨bsY [97],2,0,0,[bsY [98],bsY [99]],[]⟩,ndY 98 5,ndY 99 3]:=ho
 simp only [List.mem_cons,List.not_mem_nil,or_false] at ho
 rcases ho with rfl|rfl|rfl
 ·exact⟨by decide,⟨by decide,fun t ht=>by cases ht⟩,by decide,fun s hs=>by
   have hs:s∈[bsY [98],bsY [99]]:=hs
   simp only [List.mem_cons,List.not_mem_nil,or_false] at hs
   rcases hs with rfl|rfl<;>decide⟩
 ·exact⟨by decide,⟨by decide,fun t ht=>by cases ht⟩,by decide,fun s hs=>by cases hs⟩
 exact⟨by decide,⟨by decide,fun t ht=>by cases ht⟩,by decide,fun s hs=>by cases hs⟩⟩
theorem sort1Y (l:List ByteArray) (h:(l.map toU).Pairwise (fun x y=>decide (x≤y)=true)):sortS l=l:=by
 rw [sortS,List.mergeSort_of_pairwise h,map_toU]
theorem nm_mv:gNames eMv=[bsY [110,49]]:=by
 rw [gNames,if_pos (show gEditV eMv=true by kernel_rfl),show (idsOf eMv).filter nonE=[bsY [110,49]] by kernel_rfl]
 exact sort1Y _ (by decide)
theorem nm_tg:gNames eTg=[bsY [119,49]]:=by
 rw [gNames,if_pos (show gEditV eTg=true by kernel_rfl),show (idsOf eTg).filter nonE=[bsY [119,49]] by kernel_rfl]
 exact sort1Y _ (by decide)
theorem nm_rf:gNames eRf=[bsY [110,49],bsY [110,50],bsY [119,49]]:=by
 rw [gNames,if_pos (show gEditV eRf=true by kernel_rfl),show (idsOf eRf).filter nonE=[bsY [119,49],bsY [110,49],bsY [110,50]] by kernel_rfl]
 have hp:[bsY [119,49],bsY [110,49],bsY [110,50]].Perm [bsY [110,49],bsY [110,50],bsY [119,49]]:=List.perm_append_comm (l₁:=[bsY [119,49]]) (l₂:=[bsY [110,49],bsY [110,50]])
 rw [sortS_eq hp]
 exact sort1Y _ (by decide)
theorem gu3:gUnits [eMv,eTg,eRf]=[[0,1,2]]:=by
 have h0:nmOf [eMv,eTg,eRf] 0=[bsY [110,49]]:=nm_mv
 have h1:nmOf [eMv,eTg,eRf] 1=[bsY [119,49]]:=nm_tg
 have h2:nmOf [eMv,eTg,eRf] 2=[bsY [110,49],bsY [110,50],bsY [119,49]]:=nm_rf
 have h3:us1K (wrOf [eMv,eTg,eRf]) 3=([0,1,1],[(bsY [110,49],0),(bsY [119,49],1)]):=by kernel_rfl
 have h4:topsE [eMv,eTg,eRf]=[0,0,1]:=by
  show us2K (us1K (wrOf [eMv,eTg,eRf]) 3).2 (us1K (wrOf [eMv,eTg,eRf]) 3).1 (nmOf [eMv,eTg,eRf]) 3=[0,0,1]
  rw [h3,us2K,us2K,us2K,us2K,h0,h1,h2]
  kernel_rfl
 rw [gUnits,if_pos (show gChange [eMv,eTg,eRf]=true by kernel_rfl),h4]
 exact(show groups (top [0,0,1]) 3=[[0,1,2]] by kernel_rfl)
theorem gu2:gUnits [eMv,eTg]=[[0],[1]]:=by
 have h0:nmOf [eMv,eTg] 0=[bsY [110,49]]:=nm_mv
 have h1:nmOf [eMv,eTg] 1=[bsY [119,49]]:=nm_tg
 have h3:us1K (wrOf [eMv,eTg]) 2=([0,1],[(bsY [110,49],0),(bsY [119,49],1)]):=by kernel_rfl
 have h4:topsE [eMv,eTg]=[0,1]:=by
  show us2K (us1K (wrOf [eMv,eTg]) 2).2 (us1K (wrOf [eMv,eTg]) 2).1 (nmOf [eMv,eTg]) 2=[0,1]
  rw [h3,us2K,us2K,us2K,h0,h1]
  kernel_rfl
 rw [gUnits,if_pos (show gChange [eMv,eTg]=true by kernel_rfl),h4]
 exact(show groups (top [0,1]) 2=[[0],[1]] by kernel_rfl)
theorem okE_of1 {op x y:Int} {s k v:ByteArray} (h1:s.size < 4611686018427387904) (h2:k.size < 4611686018427387904):okE ⟨op,s,sNil,sNil,x,y,k,v,[],zObj⟩:=⟨⟨h1,(by decide:sNil.size < 4611686018427387904),(by decide:sNil.size < 4611686018427387904),h2⟩,⟨Nat.zero_lt_succ _,fun s h=>by cases h⟩,zObj_ok⟩
theorem okE_xs:∀ e∈xsY,okE e:=fun e he=>by
 have he:e∈[dropE (bsY [99]),dropE (bsY [97]),putE (ndY 99 3),putE ⟨bsY [97],2,0,0,[bsY [98],bsY [99]],[]⟩,moveE (bsY [98]) 5 0]:=he
 simp only [List.mem_cons,List.not_mem_nil,or_false] at he
 rcases he with rfl|rfl|rfl|rfl|rfl
 ·exact okE_of1 (by decide) (by decide)
 ·exact okE_of1 (by decide) (by decide)
 ·exact okE_put (okM_BY.2 _ (by show _∈[_,_,_];simp))
 ·exact okE_put (okM_BY.2 _ (by show _∈[_,_,_];simp))
 exact okE_of1 (by decide) (by decide)
theorem okL_ofY {m:List GObj} (h:okM m):okL m:=⟨h.1,fun o ho=>⟨(h.2 o ho).2.2.1,(h.2 o ho).2.1.1⟩⟩
theorem same12Y_c (a b:List GObj) (H:Heap) (ha:okM a):ACalls Tryz.prog 26 [.agg [.pv (slObjs a)],.agg [.pv (slObjs b)]] H (fun r H'=>r=bv (decide (a=b))∧H'=H):=by
 have:=same12_c a b H (okL_ofY ha)
 rwa [show gSameM a b=decide (a=b)by rw [Bool.eq_iff_iff,gSameM_iff,decide_eq_true_eq]] at this
theorem encObj_rlY (l:List GObj):∀ r∈l.map encObj,r.length=6:=fun r hr=>by
 obtain ⟨t,_,rfl⟩:=List.mem_map.1 hr
 rfl
theorem okM_subY {m l:List GObj} (h:okM m) (hl:l.length < 4611686018427387904) (hs:∀ o∈l,o∈m):okM l:=⟨hl,fun o ho=>h.2 o (hs o ho)⟩
def wAY:GObj:=⟨bsY [97],2,0,0,[bsY [98],bsY [99]],[]⟩
def stY:Nat→List GObj
 | 0=>mAY
 | 1=>[ndY 97 1,ndY 98 2]
 | 2=>[ndY 98 2]
 | 3=>[ndY 98 2,ndY 99 3]
 | 4=>[wAY,ndY 98 2,ndY 99 3]
 | _=>mBY
theorem okM_stY:∀ k,okM (stY k)
 | 0=>okM_AY
 | 1=>okM_subY okM_AY (by show 2 < _;omega) (fun o ho=>by have ho:o∈[_,_]:=ho;show o∈[_,_,_];simp only [List.mem_cons,List.not_mem_nil,or_false] at ho ⊢;rcases ho with h|h<;>simp [h])
 | 2=>okM_subY okM_AY (by show 1 < _;omega) (fun o ho=>by have ho:o∈[_]:=ho;show o∈[_,_,_];simp only [List.mem_cons,List.not_mem_nil,or_false] at ho ⊢;simp [ho])
 | 3=>⟨by show 2 < _;omega,fun o ho=>by
   have ho:o∈[_,_]:=ho
   simp only [List.mem_cons,List.not_mem_nil,or_false] at ho
   rcases ho with rfl|rfl
   ·exact okM_AY.2 _ (by show _∈[_,_,_];simp)
   exact okM_BY.2 _ (by show _∈[_,_,_];simp)⟩
 | 4=>⟨by show 3 < _;omega,fun o ho=>by
   have ho:o∈[_,_,_]:=ho
   simp only [List.mem_cons,List.not_mem_nil,or_false] at ho
   rcases ho with rfl|rfl|rfl
   ·exact okM_BY.2 _ (by show _∈[_,_,_];exact List.mem_cons_self ..)
   ·exact okM_AY.2 _ (by show _∈[_,_,_];simp)
   exact okM_BY.2 _ (by show _∈[_,_,_];simp)⟩
 | 5=>okM_BY
 | _+6=>okM_BY
theorem cl_stY:∀ k,closedB (stY k)=true
 | 0=>by kernel_rfl
 | 1=>by kernel_rfl
 | 2=>by kernel_rfl
 | 3=>by kernel_rfl
 | 4=>by kernel_rfl
 | 5=>by kernel_rfl
 | _+6=>(show closedB mBY=true by kernel_rfl)
theorem lens_Y {m:List GObj} (h:closedB m=true):∀ o,o∈m→o.refs.length < 549755813888∧o.tags.length < 1099511627776:=fun o ho=>by
 have:=gObj_len ((gMap_iff.1 (closed_gMap h)).1 o ho)
 omega
theorem aftY {m m':List GObj} {e:GEdit} (hm:okM m) (hc:closedB m=true) (he:okE e) (hg:gAfter m e=(m',0)) (hpf:ACalls Tryz.prog 118 [.ref 14 0 0 0,av (encEdit e)] (cH m) (fun r H'=>r=av (encRes (gPerform m e))∧H'=cH m)) :
  ACalls Tryz.prog 65 [.ref 14 0 0 0,av (encEdit e)] (cH m) (fun r H'=>r=.tup [.agg [.pv (slObjs m')],iv 0]∧H'=cH m):=by
 have hl:=(gMap_iff.1 (closed_gMap hc)).2.2
 have:=after0g_c m e hm he (by omega) (fun hv=>perf_ok hm (closed_gMap hc) he hv) put_small (fun _=>hpf)
 rw [hg] at this
 exact this
theorem allY_c (H:Heap):ACalls Tryz.prog 25 [.agg [.pv (slObjs mAY)],.pv (slEdits xsY)] H (fun r H'=>r=.tup [.agg [.pv (slObjs mBY)],iv (-1),iv 0]∧H'=H):=by
 refine allOK_c stY xsY H (by decide) (fun k _=>cl_stY k) (fun k _=>okM_stY k) (fun k e he=>?_)
 have hk:k < 5:=(List.getElem?_eq_some_iff.1 he).1
 have h:k=0∨k=1∨k=2∨k=3∨k=4:=by omega
 have hee:=okE_xs e (List.mem_of_getElem? he)
 rcases h with rfl|rfl|rfl|rfl|rfl
 ·cases he
  exact aftY (okM_stY 0) (cl_stY 0) hee (by kernel_rfl) (perf5_c (stY 0) (bsY [99]) sNil sNil 0 0 sNil sNil [] zObj (okM_stY 0) (lens_Y (cl_stY 0)))
 ·cases he
  exact aftY (okM_stY 1) (cl_stY 1) hee (by kernel_rfl) (perf5_c (stY 1) (bsY [97]) sNil sNil 0 0 sNil sNil [] zObj (okM_stY 1) (lens_Y (cl_stY 1)))
 ·cases he
  exact aftY (okM_stY 2) (cl_stY 2) hee (by kernel_rfl) (perf1_c (stY 2) (putE (ndY 99 3)) (okM_stY 2) rfl (by decide))
 ·cases he
  exact aftY (okM_stY 3) (cl_stY 3) hee (by kernel_rfl) (perf1_c (stY 3) (putE wAY) (okM_stY 3) rfl (by decide))
 cases he
 exact aftY (okM_stY 4) (cl_stY 4) hee (by kernel_rfl) (perf2_c (stY 4) (bsY [98]) sNil sNil 5 0 sNil sNil [] zObj (okM_stY 4) (lens_Y (cl_stY 4)))
theorem head22_of (hT1:∀ H,ACalls Tryz.prog 11 [.pv (slEdits [eMv])] H (fun r H'=>r=.tup [sv t1Y,iv 0]∧H'=H)) (hT2:∀ H,ACalls Tryz.prog 11 [.pv (slEdits [eTg])] H (fun r H'=>r=.tup [sv t2Y,iv 0]∧H'=H))
  (hP:∀ H,ACalls Tryz.prog 13 [sv (t1Y++t2Y)] H (fun r H'=>r=.tup [.pv (slEdits [eMv,eTg]),iv 0]∧H'=H)) (hA:∀ H,ACalls Tryz.prog 25 [.agg [.pv (slObjs mAY)],.pv (slEdits xsY)] H (fun r H'=>r=.tup [.agg [.pv (slObjs mBY)],iv (-1),iv 0]∧H'=H)) (H:Heap) :
  ACalls Tryz.prog 9 [] H (fun r H'=>r=bv true∧H'=H):=by
 refine ACalls.pure ?_ (by simp) H
 have hU3:∀ H,ACalls Tryz.prog 19 [.pv (slEdits [eMv,eTg,eRf])] H (fun r H'=>r=.pv (slGroups [[0,1,2]])∧H'=H):=fun H=>by
  have:=units_c [eMv,eTg,eRf] okU_l3 (by decide) H
  rw [gu3] at this
  exact this
 have hU2:∀ H,ACalls Tryz.prog 19 [.pv (slEdits [eMv,eTg])] H (fun r H'=>r=.pv (slGroups [[0],[1]])∧H'=H):=fun H=>by
  have:=units_c [eMv,eTg] okU_l2 (by decide) H
  rw [gu2] at this
  exact this
 have hB:∀ H,ACalls Tryz.prog 22 [.agg [.pv (slObjs mAY)],.agg [.pv (slObjs mBY)]] H (fun r H'=>r=.tup [.pv (slEdits xsY),iv 0]∧H'=H):=fun H=>by
  have:=between_c mAY mBY okM_AY okM_BY H
  rw [hb1Y] at this
  exact this
 have hE:∀ H,ACalls Tryz.prog 17 [.pv (slEdits [eMv,eTg]),.pv (slEdits [eMv,eTg])] H (fun r H'=>r=bv true∧H'=H):=fun H=>by
  have:=all22_c [eMv,eTg] [eMv,eTg] H (by decide) okE_l2 okE_l2
  rw [decide_eq_true rfl] at this
  exact this
 have hS:∀ H,ACalls Tryz.prog 26 [.agg [.pv (slObjs mBY)],.agg [.pv (slObjs mBY)]] H (fun r H'=>r=bv true∧H'=H):=fun H=>by
  have:=same12Y_c mBY mBY H okM_BY
  rw [decide_eq_true rfl] at this
  exact this
 refine Bd Tryz.func9 rfl Tryz.ntmps9<|Sq<|Rg<|Dd as'<|Zz<|Sq<|Rg<|Dd (bu' bo45)<|Dd (bu' bo51)<|Dd (by exact x_alloc (id:=1) rfl zo51 rfl rfl)<|Uu (sa' Tryz.sizeOf51)<|Zz<|Sq<|Rg<|Dd (bu' bo51)<|Dd (by exact x_alloc (id:=2) rfl zo51 rfl rfl)<|Uu (sa' Tryz.sizeOf51)<|Zz<|Sq<|Rg<|Dd (by exact x_buildSlice [encStr (bsY [110,49]),encStr (bsY [110,50])] rfl so46 rfl rfl rfl rfl rfl (by intro r hr;simp only [List.mem_cons,List.not_mem_nil,or_false] at hr;rcases hr with rfl|rfl<;>rfl))<|Dd (bu' bo51)<|Dd (by exact x_alloc (id:=3) rfl zo51 rfl rfl)<|Uu (sa' Tryz.sizeOf51)<|Zz<|Sq<|Rg<|Dd (ln' Tryz.isAgg51 Tryz.sizeOf51)<|Dd (by exact x_buildSlice ([eMv].map encEdit) rfl so22 rfl rfl rfl rfl rfl (rlE [eMv]))<|Dd (by exact opr_call rfl rfl Tryz.call11 rfl (hT1 _))<|Dd mv'<|Dd ex'<|Dd ex'<|Dd as'<|Dd as'<|Zz<|Sq<|Rg<|Dd (ln' Tryz.isAgg51 Tryz.sizeOf51)<|Dd (by exact x_buildSlice ([eTg].map encEdit) rfl so22 rfl rfl rfl rfl rfl (rlE [eTg])) ?_
 refine Dd (by exact opr_call rfl rfl Tryz.call11 rfl (hT2 _))<|Dd mv'<|Dd ex'<|Dd ex'<|Dd as'<|Dd as'<|Zz<|Sq<|Rg<|Dd mv'<|Dd mv'<|Dd (by exact opd_sadd rfl rfl rfl (by decide) rfl)<|Dd (by exact opr_call rfl rfl Tryz.call13 rfl (hP _))<|Dd mv'<|Dd ex'<|Dd ex'<|Dd as'<|Dd as'<|Zz<|Sq<|Rg<|Dd (ln' Tryz.isAgg51 Tryz.sizeOf51)<|Dd (ln' Tryz.isAgg51 Tryz.sizeOf51)<|Dd (ln' Tryz.isAgg51 Tryz.sizeOf51)<|Dd (by exact x_buildSlice ([eMv,eTg,eRf].map encEdit) rfl so22 rfl rfl rfl rfl rfl (rlE [eMv,eTg,eRf]))<|Dd (by exact opr_call rfl rfl Tryz.call19 rfl (hU3 _))<|Dd as'<|Zz<|Sq<|Rg<|Dd (ln' Tryz.isAgg51 Tryz.sizeOf51)<|Dd (ln' Tryz.isAgg51 Tryz.sizeOf51)<|Dd (by exact x_buildSlice ([eMv,eTg].map encEdit) rfl so22 rfl rfl rfl rfl rfl (rlE [eMv,eTg]))<|Dd (by exact opr_call rfl rfl Tryz.call19 rfl (hU2 _))<|Dd as'<|Zz<|Sq<|Rg<|Dd (by exact opr_call rfl rfl Tryz.call30 rfl (node_c (bsY [97]) 1 _))<|Dd (by exact opr_call rfl rfl Tryz.call30 rfl (node_c (bsY [98]) 2 _)) ?_
 refine Dd (by exact x_buildSlice [encStr (bsY [97]),encStr (bsY [98])] rfl so46 rfl rfl rfl rfl rfl (by intro r hr;simp only [List.mem_cons,List.not_mem_nil,or_false] at hr;rcases hr with rfl|rfl<;>rfl))<|Dd (bu' bo49)<|Dd (by exact x_buildSlice (mAY.map encObj) rfl so36 rfl rfl rfl rfl rfl (encObj_rlY mAY))<|Dd (bu' bo38)<|Dd (by exact x_alloc (id:=12) rfl zo38 rfl rfl)<|Uu (sa' Tryz.sizeOf38)<|Zz<|Sq<|Rg<|Dd (by exact x_buildSlice [encStr (bsY [98]),encStr (bsY [99])] rfl so46 rfl rfl rfl rfl rfl (by intro r hr;simp only [List.mem_cons,List.not_mem_nil,or_false] at hr;rcases hr with rfl|rfl<;>rfl))<|Dd (bu' bo49)<|Dd (by exact opr_call rfl rfl Tryz.call30 rfl (node_c (bsY [98]) 5 _))<|Dd (by exact opr_call rfl rfl Tryz.call30 rfl (node_c (bsY [99]) 3 _))<|Dd (by exact x_buildSlice (mBY.map encObj) rfl so36 rfl rfl rfl rfl rfl (encObj_rlY mBY))<|Dd (bu' bo38)<|Dd (by exact x_alloc (id:=13) rfl zo38 rfl rfl) ?_
 refine Uu (sa' Tryz.sizeOf38)<|Zz<|Sq<|Rg<|Dd (ln' Tryz.isAgg38 Tryz.sizeOf38)<|Dd (ln' Tryz.isAgg38 Tryz.sizeOf38)<|Dd (by exact opr_call rfl rfl Tryz.call22 rfl (hB _))<|Dd mv'<|Dd ex'<|Dd ex'<|Dd as'<|Dd as'<|Zz<|Sq<|Rg<|Dd (ln' Tryz.isAgg38 Tryz.sizeOf38)<|Dd mv'<|Dd (by exact opr_call rfl rfl Tryz.call25 rfl (hA _))<|Dd mv'<|Dd ex'<|Dd ex'<|Dd ex'<|Dd (by exact x_alloc (id:=16) rfl zo38 rfl rfl)<|Uu (sa' Tryz.sizeOf38)<|Dd as'<|Dd as'<|Zz<|Sq<|Rg<|Dd mv'<|Dd eql'<|Dd mv' ?_
 refine al_ond rfl rfl rfl (by rfl) rfl rfl (by exact opd_move rfl rfl) ?_
 refine al_ond rfl rfl rfl (by rfl) rfl rfl (by exact OpD.val (by exact opd_seql rfl rfl rfl) ((decide_eq_true rfl))) ?_
 refine Dd pk'<|Dd mv' ?_
 refine al_ond rfl rfl rfl (by rfl) rfl rfl (by exact opd_move rfl rfl) ?_
 refine al_ond rfl rfl rfl (by rfl) rfl rfl (by exact opd_eql rfl rfl rfl) ?_
 refine Dd pk'<|Dd mv' ?_
 refine al_ond rfl rfl rfl (by rfl) rfl rfl (by exact opd_move rfl rfl) ?_
 refine al_ond rfl rfl rfl (by rfl) rfl rfl (by exact OpD.val (by exact opd_seql rfl rfl rfl) ((decide_eq_true rfl))) ?_
 refine Dd pk'<|Dd mv' ?_
 refine al_ond rfl rfl rfl (by rfl) rfl rfl (by exact opd_move rfl rfl) ?_
 refine al_ond rfl rfl rfl (by rfl) rfl rfl (by exact opd_eql rfl rfl rfl) ?_
 refine Dd pk'<|Dd mv' ?_
 refine al_ond rfl rfl rfl (by rfl) rfl rfl (by exact opd_move rfl rfl) ?_
 refine al_ond rfl rfl rfl (by rfl) rfl rfl (by exact opd_loadn_ref rfl Tryz.isAgg51 Tryz.sizeOf51 rfl rfl rfl rfl rfl rfl) ?_
 refine al_ond rfl rfl rfl (by rfl) rfl rfl (by exact opd_loadn_ref rfl Tryz.isAgg51 Tryz.sizeOf51 rfl rfl rfl rfl rfl rfl) ?_
 refine al_ond rfl rfl rfl (by rfl) rfl rfl (by exact x_buildSlice ([eMv,eTg].map encEdit) rfl so22 rfl rfl rfl rfl rfl (rlE [eMv,eTg])) ?_
 refine al_ond rfl rfl rfl (by rfl) rfl rfl (by exact opr_call rfl rfl Tryz.call17 rfl (hE _)) ?_
 refine Dd pk'<|Dd mv' ?_
 refine al_ond rfl rfl rfl (by rfl) rfl rfl (by exact opd_move rfl rfl) ?_
 refine al_ond rfl rfl rfl (by rfl) rfl rfl (by exact opd_len_sl rfl Tryz.underlying33 rfl) ?_
 refine al_ond rfl rfl rfl (by rfl) rfl rfl (by exact opd_eql rfl rfl rfl) ?_
 refine Dd pk'<|Dd mv' ?_
 refine al_ond rfl rfl rfl (by rfl) rfl rfl (by exact opd_move rfl rfl) ?_
 refine al_ond rfl rfl rfl (by rfl) rfl rfl (by exact opd_len_sl rfl Tryz.underlying33 rfl) ?_
 refine al_ond rfl rfl rfl (by rfl) rfl rfl (by exact opd_eql rfl rfl rfl) ?_
 refine Dd pk'<|Dd as'<|Zz<|Sq<|Rg<|Dd mv'<|Dd mv' ?_
 refine al_ond rfl rfl rfl (by rfl) rfl rfl (by exact opd_move rfl rfl) ?_
 refine al_ond rfl rfl rfl (by rfl) rfl rfl (by exact opd_eql rfl rfl rfl) ?_
 refine Dd pk'<|Dd mv' ?_
 refine al_ond rfl rfl rfl (by rfl) rfl rfl (by exact opd_move rfl rfl) ?_
 refine al_ond rfl rfl rfl (by rfl) rfl rfl (by exact opd_eql rfl rfl rfl) ?_
 refine Dd pk'<|Dd mv' ?_
 refine al_ond rfl rfl rfl (by rfl) rfl rfl (by exact opd_loadn_ref rfl Tryz.isAgg38 Tryz.sizeOf38 rfl rfl rfl rfl rfl rfl) ?_
 refine al_ond rfl rfl rfl (by rfl) rfl rfl (by exact opd_loadn_ref rfl Tryz.isAgg38 Tryz.sizeOf38 rfl rfl rfl rfl rfl rfl) ?_
 refine al_ond rfl rfl rfl (by rfl) rfl rfl (by exact opr_call rfl rfl Tryz.call26 rfl (hS _)) ?_
 refine Dd pk'<|Dd mv' ?_
 refine al_ond rfl rfl rfl (by rfl) rfl rfl (by exact opd_move rfl rfl) ?_
 refine al_ond rfl rfl rfl (by rfl) rfl rfl (by exact opd_len_sl rfl Tryz.underlying22 rfl) ?_
 refine al_ond rfl rfl rfl (by rfl) rfl rfl (by exact opd_eql rfl rfl rfl) ?_
 refine Dd pk'<|Dd as'<|Zz<|awp_ret ?_
 refine Rt ?_
 exact⟨rfl,rfl⟩
end
end Go.Proofs.YtlnfjkdacimblaaGreatDoor
