/-
  PLAIN: the edits between two maps lead from the one to the other. Conditions: none.
  CONTRACT: strconv.Itoa. Conditions: numbers of 64 bits.
  PLAIN: the text of a change set is read back. Conditions: none.
  CONTRACT: object.Text. Conditions: the argument's sizes.
  PLAIN: the words of a line as the code cuts them. Conditions: none.
  CONTRACTS: change.line. Conditions: the edit is valid.
  PLAIN: the text of a change set is read back as a whole; different ones have different texts. Conditions: none.
  CONTRACTS: strings.Builder beside other objects, change.Text. Conditions: sizes.
  THE ABSTRACT LOGIC, 41: calls that only make new blocks. Conditions: each rule's own premises.
  THE ABSTRACT LOGIC, 42: strconv.Atoi, the library's contracts carried over; an error held against nil. Conditions: each rule's own premises.
  CONTRACT: strconv.Atoi. Conditions: lengths below 2^40.
  CONTRACTS: slices.IndexFunc at tokens, object.read. Conditions: lengths below 2^39.
  THE ABSTRACT LOGIC, 43: an error held against nil. Conditions: each rule's own premises.
  CONTRACT: change.number. Conditions: lengths below 2^40.
  PLAIN: the sizes of tokens; what they read as is of a moderate size. Conditions: none.
  CONTRACTS: object.Parse, change.read. Conditions: lengths below 2^38.
  CONTRACTS: change.Parse. Conditions: sizes.
  CONTRACTS: slices.Contains at tags, the functions of change.how. Conditions: lengths below 2^40.
  CONTRACT: change.Between. Conditions: the maps' sizes.
-/
import Derived.Test.YtlnfjkdacimblaaGreatDoorKW2M9
import Derived.Shelf.LaysM
import Derived.Ground.NamesProg
import Derived.Below
import Derived.Shelf.Strconv.ErrVarAll
import Derived.Shelf.Strconv.AtoiAll
import Derived.Shelf.LaysC
import Derived.WideLaws
set_option linter.unusedVariables false
set_option linter.unusedSimpArgs false
set_option maxRecDepth 100000
set_option maxHeartbeats 2000000
namespace Go.Proofs.YtlnfjkdacimblaaGreatDoor
open Go.Abs
section
def bFirst (a b:List GObj):List GObj:=(layL a true).filter fun o=>inB (renewed a b) o.id
def bLast (a b:List GObj):List GObj:=(layL a true).filter fun o=>!inB (renewed a b) o.id&&(look b o.id).isNone
def bPuts (a b:List GObj):List GObj:=(layL b false).filter fun o=>inB (renewed a b) o.id||(look a o.id).isNone
def bBoth (a b:List GObj):List (GObj×GObj):=b.filterMap fun o=>match look a o.id with
 | some p=>if inB (renewed a b) o.id then none else some (p,o)
 | none=>none
def stMove (k:GObj×GObj):List GEdit:=if k.1.x=k.2.x∧k.1.y=k.2.y then[] else[moveE k.1.id k.2.x k.2.y]
def stRefs (k:GObj×GObj):List GEdit:=if k.1.refs=k.2.refs then[] else[refsE k.1.id k.2.refs]
def stTags (k:GObj×GObj):List GEdit:=(tagL k.1 k.2).map fun p=>tagE k.1.id p.1 p.2
def betL (a b:List GObj):List GEdit:=(bFirst a b).map (fun o=>dropE o.id)++((bPuts a b).map putE++((bBoth a b).flatMap stMove++((bBoth a b).flatMap stRefs++((bBoth a b).flatMap stTags++(bLast a b).map fun o=>dropE o.id))))
/-- The edits between two maps, or why there are none. -/
def gBetween (a b:List GObj):List GEdit×Int:=if !closedB a||!closedB b then([],1)else if 200 < (betL a b).length then([],2)else(betL a b,0)
theorem mem_both {a b:List GObj} {k:GObj×GObj}:k∈bBoth a b↔k.2∈b∧look a k.2.id=some k.1∧k.2.id∉renewed a b:=by
 rw [bBoth,List.mem_filterMap]
 constructor
 ·rintro⟨o,ho,h⟩
  split at h
  ·next p hp =>
   split at h
   ·cases h
   next hx =>
   cases h
   exact⟨ho,hp,fun h=>hx (inB_iff.2 h)⟩
  cases h
 rintro⟨h1,h2,h3⟩
 refine⟨k.2,h1,?_⟩
 rw [h2]
 simp only
 rw [if_neg fun h=>h3 (inB_iff.1 h)]
theorem both_pair {a b:List GObj} (hu:ups b):(bBoth a b).Pairwise (fun x y=>x.2.id≠y.2.id):=by
 rw [bBoth,List.pairwise_filterMap]
 refine List.Pairwise.imp (fun {x y} h p hp q hq=>?_) hu
 have e1:p.2=x:=by
  split at hp
  ·split at hp
   ·cases hp
   cases hp;rfl
  cases hp
 have e2:q.2=y:=by
  split at hq
  ·split at hq
   ·cases hq
   cases hq;rfl
  cases hq
 rw [e1,e2]
 intro e
 rw [e,slt_irr] at h
 cases h
theorem gObj_withT {o:GObj} (h:gObj o=true) {T:List GTag} (hT:gTags T=true):gObj (withT o T)=true:=by
 rw [gObj,Bool.and_eq_true,Bool.not_eq_true'] at h ⊢
 refine⟨?_,h.2⟩
 have h1:=h.1
 rw [gHead,gHeadN] at h1 ⊢
 simp only [Bool.or_eq_false_iff] at h1 ⊢
 obtain ⟨⟨⟨⟨a1,a2⟩,a3⟩,a4⟩,a5⟩:=h1
 exact⟨⟨⟨⟨a1,a2⟩,by rw [show (withT o T).tags=T from rfl,hT];rfl⟩,a4⟩,a5⟩
theorem gObj_some {o:GObj} (h:gObj o=true) (hk:o.kind=2∨o.kind=3∨o.kind=4):0 < o.refs.length:=by
 rw [gObj,Bool.and_eq_true,Bool.not_eq_true',gHead,gHeadN] at h
 have h1:=h.1
 simp only [Bool.or_eq_false_iff,decide_eq_false_iff_not] at h1
 have h2:=h1.1.2
 rcases hk with e|e|e<;>rw [e] at h2
 ·have:gLeast 2=2:=rfl
  omega
 ·have:gLeast 3=3:=rfl
  omega
 have:gLeast 4=1:=rfl
 omega
section
variable {a b:List GObj}
/-- The lookups behind drops and puts. -/
def mid (a b:List GObj) (s:ByteArray):Option GObj:=if s∈renewed a b∨look a s=none then look b s else look a s
theorem run_first (ha:closedB a=true) (hl:a.length+(bFirst a b).length+2≤1000000):∃ m',Run a ((bFirst a b).map fun o=>dropE o.id) m'∧Stt m' (fun s=>if s∈renewed a b then none else look a s)∧m'.length≤a.length+(bFirst a b).length:=by
 obtain ⟨g1,hu,_⟩:=gMap_iff.1 (closed_gMap ha)
 have hk:∀ o∈a,1≤o.kind∧o.kind≤5:=fun o ho=>gObj_kind (g1 o ho)
 have hm:∀ o,o∈bFirst a b↔o∈a∧o.id∈renewed a b:=fun o=>by rw [bFirst,List.mem_filter,mem_layL hk,inB_iff]
 obtain ⟨m',h1,h2,h3⟩:=run_drops (bFirst a b) (m:=a) (f:=look a) ⟨ha,fun _=>rfl⟩ (fun o ho=>mem_look hu ((hm o).1 ho).1)
  (List.Pairwise.imp_of_mem (fun {x y} hx hy h=>⟨h.1,fun hr=>by have:=ref_low ha ((hm y).1 hy).1 ((hm x).1 hx).1 hr;omega⟩) (List.Pairwise.filter _ (lay_down hu)))
  (fun o ho=>no_self ha ((hm o).1 ho).1)
  (fun x y hy o ho hr=>(hm y).2 ⟨look_mem hy,(renewed_iff ha (look_mem hy)).2 (.inr ⟨o.id,hr,((hm o).1 ho).2⟩)⟩) hl
 refine⟨m',h1,h2.congr fun s=>?_,h3⟩
 have:s∈(bFirst a b).map GObj.id↔s∈renewed a b:=by
  rw [List.mem_map]
  constructor
  ·rintro⟨o,ho,rfl⟩;exact((hm o).1 ho).2
  intro h
  obtain ⟨o,ho,rfl⟩:=renewed_sub hk h
  exact⟨o,(hm o).2 ⟨ho,h⟩,rfl⟩
 by_cases h:s∈renewed a b
 ·rw [if_pos h,if_pos (this.2 h)]
 rw [if_neg h,if_neg (fun h2=>h (this.1 h2))]
theorem direct_no (ha:closedB a=true) {o p:GObj} (ho:o∈a) (hx:o.id∉renewed a b) (hp:look b o.id=some p):p.kind=o.kind∧(o.kind=5→o.refs=p.refs):=by
 have h:direct b o=false:=by
  cases e:direct b o with
  | false=>rfl
  | true=>exact absurd ((renewed_iff ha ho).2 (.inl e)) hx
 rw [direct,hp] at h
 simp only [Bool.or_eq_false_iff,Bool.not_eq_false',decide_eq_true_eq,Bool.and_eq_false_iff,decide_eq_false_iff_not] at h
 exact⟨h.1,fun h5=>h.2.elim (fun h6=>absurd h5 h6) (fun h=>h)⟩
theorem mid_kind (ha:closedB a=true) (hb:closedB b=true) {s:ByteArray} {y:GObj} (hy:look b s=some y):(mid a b s).map GObj.kind=some y.kind:=by
 rw [mid]
 split
 ·rw [hy];rfl
 next h =>
 rw [not_or] at h
 cases e:look a s with
 | none=>exact absurd e h.2
 | some p =>
  have hid:=look_id e
  rw [Option.map_some,(direct_no (p:=y) ha (look_mem e) (by rw [hid];exact h.1) (by rw [hid];exact hy)).1]
theorem run_second (ha:closedB a=true) (hb:closedB b=true) {m:List GObj} (h:Stt m (fun s=>if s∈renewed a b then none else look a s)) (hl:m.length+(bPuts a b).length+2≤1000000):∃ m',Run m ((bPuts a b).map putE) m'∧Stt m' (mid a b)∧m'.length≤m.length+(bPuts a b).length:=by
 obtain ⟨g1,hu,_⟩:=gMap_iff.1 (closed_gMap hb)
 have hk:∀ o∈b,1≤o.kind∧o.kind≤5:=fun o ho=>gObj_kind (g1 o ho)
 have hm:∀ o,o∈bPuts a b↔o∈b∧(o.id∈renewed a b∨look a o.id=none):=fun o=>by rw [bPuts,List.mem_filter,mem_layL hk,Bool.or_eq_true,inB_iff,Option.isNone_iff_eq_none]
 have hpw:=List.Pairwise.filter (fun o=>inB (renewed a b) o.id||(look a o.id).isNone) (lay_up hu)
 obtain ⟨m',h1,h2,h3⟩:=run_puts (bPuts a b) h (fun o ho=>by
   obtain ⟨q1,q2⟩:=(hm o).1 ho
   refine⟨?_,g1 o q1,no_self hb q1⟩
   rcases q2 with q|q
   ·rw [if_pos q]
   rw [q];split<;>rfl)
  (List.Pairwise.imp_of_mem (fun {x y} hx hy h=>⟨h.1,fun hr=>by have:=ref_low hb ((hm x).1 hx).1 ((hm y).1 hy).1 hr;omega⟩) hpw)
  (fun o ho i s hs=>by
   have hr:=(closed_iff.1 hb).2 o ((hm o).1 ho).1 i s hs
   rw [kindOf_look] at hr
   cases hy:look b s with
   | none=>rw [hy] at hr;cases hr
   | some y =>
    rw [hy] at hr
    have hyk:=Option.some.inj hr
    by_cases hx:s∈renewed a b∨look a s=none
    ·exact .inr ⟨y,(hm y).2 ⟨look_mem hy,by rw [look_id hy];exact hx⟩,look_id hy,hyk⟩
    have hmk:=mid_kind ha hb hy
    rw [mid,if_neg hx] at hmk
    rw [not_or] at hx
    cases e:look a s with
    | none=>exact absurd e hx.2
    | some p =>
     rw [e] at hmk
     exact .inl ⟨p,by rw [if_neg hx.1],(Option.some.inj hmk).trans hyk⟩) hl
 refine⟨m',h1,h2.congr fun s=>?_,h3⟩
 have hpid:(bPuts a b).Pairwise (fun x y=>x.id≠y.id):=List.Pairwise.imp (fun h=>h.1) hpw
 rw [mid]
 by_cases hx:s∈renewed a b∨look a s=none
 ·rw [if_pos hx]
  cases hy:look b s with
  | some y =>
   have:=putD_in (f:=fun s=>if s∈renewed a b then none else look a s) hpid ((hm y).2 ⟨look_mem hy,by rw [look_id hy];exact hx⟩)
   rwa [look_id hy] at this
  | none =>
   rw [putD_out fun y hy2 e=>by
    have:=mem_look hu ((hm y).1 hy2).1
    rw [e,hy] at this;cases this]
   show (if s∈renewed a b then none else look a s)=none
   rcases hx with q|q
   ·rw [if_pos q]
   rw [q];split<;>rfl
 rw [if_neg hx,putD_out fun y hy2 (e:y.id=s)=>hx (by rw [← e];exact((hm y).1 hy2).2)]
 show (if s∈renewed a b then none else look a s)=look a s
 rw [if_neg fun q=>hx (.inl q)]
def c1 (k:GObj×GObj):GObj:=⟨k.1.id,k.1.kind,k.2.x,k.2.y,k.1.refs,k.1.tags⟩
def c2 (k:GObj×GObj):GObj:=⟨k.1.id,k.1.kind,k.2.x,k.2.y,k.2.refs,k.1.tags⟩
def c3 (k:GObj×GObj):GObj:=⟨k.1.id,k.1.kind,k.2.x,k.2.y,k.2.refs,k.2.tags⟩
theorem both_facts (ha:closedB a=true) (hb:closedB b=true) {k:GObj×GObj} (hk:k∈bBoth a b):k.1∈a∧k.2∈b∧k.1.id=k.2.id∧k.2.kind=k.1.kind∧(k.1.kind=5→k.1.refs=k.2.refs)∧gObj k.1=true∧gObj k.2=true∧c3 k=k.2∧mid a b k.1.id=some k.1:=by
 obtain ⟨h1,h2,h3⟩:=mem_both.1 hk
 have hm:=look_mem h2
 have hid:=look_id h2
 obtain ⟨q1,q2⟩:=direct_no ha hm (by rw [hid];exact h3) (by rw [hid];exact mem_look (gMap_iff.1 (closed_gMap hb)).2.1 h1)
 refine⟨hm,h1,hid,q1,q2,(gMap_iff.1 (closed_gMap ha)).1 _ hm,(gMap_iff.1 (closed_gMap hb)).1 _ h1,?_,?_⟩
 ·rw [c3,hid,← q1]
 rw [mid,hid,if_neg (fun h=>h.elim h3 fun h=>by rw [h2] at h;cases h)]
 exact h2
theorem run_third (ha:closedB a=true) (hb:closedB b=true) {m:List GObj} (h:Stt m (mid a b)) (hl:m.length+((bBoth a b).flatMap stMove).length+((bBoth a b).flatMap stRefs).length+((bBoth a b).flatMap stTags).length+2≤1000000) :
  ∃ m',Run m ((bBoth a b).flatMap stMove++((bBoth a b).flatMap stRefs++(bBoth a b).flatMap stTags)) m'∧Stt m' (fun s=>match look b s with|some o=>some o|none=>mid a b s)∧m'.length≤m.length+((bBoth a b).flatMap stMove).length+((bBoth a b).flatMap stRefs).length+((bBoth a b).flatMap stTags).length:=by
 have hf:=fun k hk=>both_facts (k:=k) ha hb hk
 have hub:=(gMap_iff.1 (closed_gMap hb)).2.1
 have hp:∀ (C:GObj×GObj→GObj),(∀ k,(C k).id=k.1.id)→(bBoth a b).Pairwise (fun x y=>(C x).id≠(C y).id):=fun C hC =>
  List.Pairwise.imp_of_mem (fun {x y} hx hy h=>by rw [hC,hC,(hf x hx).2.2.1,(hf y hy).2.2.1];exact h) (both_pair hub)
 have hpd:∀ (C:GObj×GObj→GObj),(∀ k,(C k).id=k.1.id)→((bBoth a b).map C).Pairwise (fun x y=>x.id≠y.id):=fun C hC=>by rw [List.pairwise_map];exact hp C hC
 have hin:∀ (C:GObj×GObj→GObj) (f:ByteArray→Option GObj),(∀ k,(C k).id=k.1.id)→∀ k∈bBoth a b,putD ((bBoth a b).map C) f k.1.id=some (C k):=fun C f hC k hk=>by
  have:=putD_in (f:=f) (hpd C hC) (List.mem_map.2 ⟨k,hk,rfl⟩)
  rwa [hC] at this
 obtain ⟨m1,r1,s1,l1,k1⟩:=run_each stMove (fun k=>k.1) c1 (fun s=>(mid a b s).map GObj.kind) (fun k=>⟨rfl,rfl⟩) (bBoth a b) (fun k hk m f hs _ hc hl=>by
   obtain ⟨q1,q2,q3,q4,q5,q6,q7,q8,q9⟩:=hf k hk
   by_cases e:k.1.x=k.2.x∧k.1.y=k.2.y
   ·refine⟨m,by rw [stMove,if_pos e];exact .nil m,hs.congr fun s=>?_,Nat.le_add_right _ _⟩
    by_cases es:s=k.1.id
    ·rw [es,upd_same,hc,c1,← e.1,← e.2]
    rw [upd_other _ _ es]
   rw [stMove,if_neg e] at hl ⊢
   have ek:k.1.kind=1:=by
    by_cases h1:k.1.kind=1
    ·exact h1
    have a1:=(at_xy q6).2.2.2 h1
    have a2:=(at_xy q7).2.2.2 (by rw [q4];exact h1)
    exact absurd ⟨by rw [a1.1,a2.1],by rw [a1.2,a2.2]⟩ e
   have hg:gObj (c1 k)=true:=by
    have e1:k.1.refs=[]:=(at_xy q6).2.2.1 ek
    have e2:k.2.refs=[]:=(at_xy q7).2.2.1 (by rw [q4];exact ek)
    have:c1 k=withT k.2 k.1.tags:=by rw [c1,withT,q3,← q4,e1,e2]
    rw [this]
    exact gObj_withT q7 (gObj_len q6).2.2.1
   have hlk:look m k.1.id=some k.1:=(hs.l _).trans hc
   obtain ⟨b1,b2,_⟩:=at_xy q7
   have hon:onP k.2.x k.2.y=true:=by rw [onP];simp only [Bool.and_eq_true,decide_eq_true_eq];omega
   obtain ⟨m',h1,h2,h3⟩:=step_one (e:=moveE k.1.id k.2.x k.2.y) (o:=c1 k) hs rfl (valid_move (hs.name hc) hon) (.move k.1 rfl hlk (by rw [ek];rfl)) hg (by rw [List.length_singleton] at hl;omega)
   exact⟨m',.cons h1 (.nil _),h2,h3⟩) (hp _ fun _=>rfl) h (fun _=>rfl) (fun k hk=>(hf k hk).2.2.2.2.2.2.2.2) (by omega)
 obtain ⟨m2,r2,s2,l2,k2⟩:=run_each stRefs c1 c2 (fun s=>(mid a b s).map GObj.kind) (fun k=>⟨rfl,rfl⟩) (bBoth a b) (fun k hk m f hs hkd hc hl=>by
   obtain ⟨q1,q2,q3,q4,q5,q6,q7,q8,q9⟩:=hf k hk
   have hc:f k.1.id=some (c1 k):=hc
   show ∃ m',Run m (stRefs k) m'∧Stt m' (upd f k.1.id (some (c2 k)))∧_
   by_cases e:k.1.refs=k.2.refs
   ·refine⟨m,by rw [stRefs,if_pos e];exact .nil m,hs.congr fun s=>?_,Nat.le_add_right _ _⟩
    by_cases es:s=k.1.id
    ·rw [es,upd_same,hc,c1,c2,e]
    rw [upd_other _ _ es]
   rw [stRefs,if_neg e] at hl ⊢
   have ek:k.1.kind=2∨k.1.kind=3∨k.1.kind=4:=by
    have:=gObj_kind q6
    have h1:k.1.kind≠1:=fun h1=>e (by rw [(at_xy q6).2.2.1 h1,(at_xy q7).2.2.1 (by rw [q4];exact h1)])
    have h5:k.1.kind≠5:=fun h5=>e (q5 h5)
    omega
   have hg:gObj (c2 k)=true:=by
    have:c2 k=withT k.2 k.1.tags:=by rw [c2,withT,q3,← q4]
    rw [this]
    exact gObj_withT q7 (gObj_len q6).2.2.1
   have hlk:look m k.1.id=some (c1 k):=(hs.l _).trans hc
   obtain ⟨m',h1,h2,h3⟩:=step_one (e:=refsE k.1.id k.2.refs) (o:=c2 k) hs rfl (valid_refs (hs.name hc) (gObj_some q7 (by rw [q4];exact ek)) (gObj_len q7).1 (refs_names q7)) (.refs (c1 k) rfl hlk (by rw [show (c1 k).kind=k.1.kind from rfl];rcases ek with e|e|e<;>rw [e]<;>rfl) hg (refErr_ok.2 fun i s hi=>by
    have hr:=(closed_iff.1 hb).2 k.2 q2 i s hi
    rw [kindOf_look] at hr
    cases hy:look b s with
    | none=>rw [hy] at hr;cases hr
    | some y =>
     rw [hy] at hr
     rw [kindOf_look,show look m s=f s from hs.l s,hkd s,mid_kind ha hb hy,show (c1 k).kind=k.1.kind from rfl,← q4]
     exact hr)) hg (by rw [List.length_singleton] at hl;omega)
   exact⟨m',.cons h1 (.nil _),h2,h3⟩) (hp _ fun _=>rfl) s1 k1 (fun k hk=>hin c1 _ (fun _=>rfl) k hk) (by omega)
 obtain ⟨m3,r3,s3,l3,k3⟩:=run_each stTags c2 c3 (fun s=>(mid a b s).map GObj.kind) (fun k=>⟨rfl,rfl⟩) (bBoth a b) (fun k hk m f hs hkd hc hl=>by
   obtain ⟨q1,q2,q3,q4,q5,q6,q7,q8,q9⟩:=hf k hk
   obtain ⟨t1,t2⟩:=tagL_ok (gObj_len q6).2.2.1 (gObj_len q7).2.2.1
   have hcc:c2 k=withT (c3 k) k.1.tags:=rfl
   obtain ⟨m',h1,h2,h3⟩:=run_tags (c:=c3 k) (fun T hT=>by rw [q8];exact gObj_withT q7 hT) (tagL k.1 k.2) (T:=k.1.tags) hs (by rw [← hcc];exact hc) t1 (by rw [stTags,List.length_map] at hl;omega)
   rw [t2] at h2
   exact⟨m',h1,h2,by rw [stTags,List.length_map];exact h3⟩) (hp _ fun _=>rfl) s2 k2 (fun k hk=>hin c2 _ (fun _=>rfl) k hk) (by omega)
 refine⟨m3,r1.app (r2.app r3),s3.congr fun s=>?_,by omega⟩
 by_cases e:∃ k∈bBoth a b,k.1.id=s
 ·obtain ⟨k,hk,rfl⟩:=e
  obtain ⟨q1,q2,q3,q4,q5,q6,q7,q8,q9⟩:=hf k hk
  rw [hin c3 _ (fun _=>rfl) k hk,q8,q3,mem_look hub q2]
 have hout:∀ (C:GObj×GObj→GObj) (f:ByteArray→Option GObj),(∀ k,(C k).id=k.1.id)→putD ((bBoth a b).map C) f s=f s:=fun C f hC=>putD_out fun y hy hs=>by
  obtain ⟨k,hk,rfl⟩:=List.mem_map.1 hy
  exact e ⟨k,hk,by rw [← hs,hC]⟩
 rw [hout c3 _ fun _=>rfl,hout c2 _ fun _=>rfl,hout c1 _ fun _=>rfl]
 cases hy:look b s with
 | none=>rfl
 | some o =>
  have hid:=look_id hy
  rw [mid]
  split
  ·exact hy
  next hx =>
  rw [not_or] at hx
  cases hl:look a s with
  | none=>exact absurd hl hx.2
  | some p=>exact absurd ⟨(p,o),mem_both.2 ⟨look_mem hy,by rw [hid];exact hl,by rw [hid];exact hx.1⟩,look_id hl⟩ e
theorem run_last (ha:closedB a=true) (hb:closedB b=true) {m:List GObj} (h:Stt m (fun s=>match look b s with|some o=>some o|none=>mid a b s)) (hl:m.length+(bLast a b).length+2≤1000000):Run m ((bLast a b).map fun o=>dropE o.id) b:=by
 obtain ⟨g1,hu,_⟩:=gMap_iff.1 (closed_gMap ha)
 have hub:=(gMap_iff.1 (closed_gMap hb)).2.1
 have hk:∀ o∈a,1≤o.kind∧o.kind≤5:=fun o ho=>gObj_kind (g1 o ho)
 have hm:∀ o,o∈bLast a b↔o∈a∧o.id∉renewed a b∧look b o.id=none:=fun o=>by
  rw [bLast,List.mem_filter,mem_layL hk,Bool.and_eq_true,Bool.not_eq_true',Option.isNone_iff_eq_none]
  refine and_congr_right fun _=>and_congr_left fun _=>?_
  rw [← inB_iff]
  simp
 have hmid:∀ {s},s∉renewed a b→look a s≠none→mid a b s=look a s:=fun {s} h1 h2=>by rw [mid,if_neg (fun h=>h.elim h1 h2)]
 obtain ⟨m',h1,h2,h3⟩:=run_drops (bLast a b) h (fun o ho=>by
   obtain ⟨q1,q2,q3⟩:=(hm o).1 ho
   have:=mem_look hu q1
   simp only [q3]
   rw [hmid q2 (by rw [this];exact Option.some_ne_none _)]
   exact this)
  (List.Pairwise.imp_of_mem (fun {x y} hx hy h=>⟨h.1,fun hr=>by have:=ref_low ha ((hm y).1 hy).1 ((hm x).1 hx).1 hr;omega⟩) (List.Pairwise.filter _ (lay_down hu)))
  (fun o ho=>no_self ha ((hm o).1 ho).1)
  (fun x y hy o ho hr=>by
   obtain ⟨q1,q2,q3⟩:=(hm o).1 ho
   have hinb:∀ y,y∈b→o.id∉y.refs:=fun y hy hr=>by
    obtain ⟨i,hi⟩:=List.mem_iff_getElem?.1 hr
    have:=(closed_iff.1 hb).2 y hy i _ hi
    rw [kindOf_look,q3] at this
    cases this
   cases hbx:look b x with
   | some z =>
    simp only [hbx] at hy
    cases hy
    exact absurd hr (hinb _ (look_mem hbx))
   | none =>
    simp only [hbx] at hy
    rw [mid] at hy
    split at hy
    ·rw [hbx] at hy;cases hy
    next hx =>
    rw [not_or] at hx
    have hid:=look_id hy
    exact(hm y).2 ⟨look_mem hy,by rw [hid];exact hx.1,by rw [hid];exact hbx⟩) hl
 have hm':m'=b:=by
  refine map_ext (gMap_iff.1 (closed_gMap h2.c)).2.1 hub fun s=>?_
  rw [h2.l]
  by_cases e:s∈(bLast a b).map GObj.id
  ·obtain ⟨o,ho,rfl⟩:=List.mem_map.1 e
   rw [if_pos e,((hm o).1 ho).2.2]
  rw [if_neg e]
  cases hbs:look b s with
  | some z=>rfl
  | none =>
   simp only
   rw [mid]
   split
   ·exact hbs
   next hx =>
   rw [not_or] at hx
   cases hl:look a s with
   | none=>exact absurd hl hx.2
   | some p =>
    have hid:=look_id hl
    exact absurd (List.mem_map.2 ⟨p,(hm p).2 ⟨look_mem hl,by rw [hid];exact hx.1,by rw [hid];exact hbs⟩,hid⟩) e
 exact hm'▸h1
/-- The edits between two maps lead from the one to the other. -/
theorem between_run (ha:closedB a=true) (hb:closedB b=true) (hl:a.length+(betL a b).length+2≤1000000):Run a (betL a b) b:=by
 rw [betL] at hl ⊢
 simp only [List.length_append,List.length_map] at hl
 obtain ⟨m1,r1,s1,l1⟩:=run_first (b:=b) ha (by omega)
 obtain ⟨m2,r2,s2,l2⟩:=run_second ha hb s1 (by omega)
 obtain ⟨m3,r3,s3,l3⟩:=run_third ha hb s2 (by omega)
 have r4:=run_last ha hb s3 (by omega)
 have:=r1.app (r2.app (r3.app r4))
 simpa only [List.append_assoc] using this
end
theorem between_all {a b:List GObj} (h:(gBetween a b).2=0) (hl:a.length≤999000):gAll a (gBetween a b).1=(b,-1,0)∧closedB a=true∧closedB b=true∧(gBetween a b).1=betL a b:=by
 rw [gBetween] at h ⊢
 split at h
 ·cases h
 next hc =>
 rw [if_neg hc]
 simp only [Bool.or_eq_true,Bool.not_eq_true',not_or,Bool.not_eq_false] at hc
 split at h
 ·cases h
 next h2 =>
 rw [if_neg h2]
 refine⟨?_,hc.1,hc.2,rfl⟩
 show gAll a (betL a b)=_
 rw [gAll,if_pos hc.1]
 exact(between_run hc.1 hc.2 (by omega)).all 0
end
end Go.Proofs.YtlnfjkdacimblaaGreatDoor
section
namespace Go.Proofs
open Go.RowKit Go.Sort Go.Shelf
def Tryz.itoaL_ren:Go.Shelf.Ren:=⟨fun|171=>68|243=>124|246=>172|283=>220|284=>221|285=>222|286=>223|129=>201|317=>248|318=>249|319=>250|320=>251|337=>261|338=>262|n=>n,fun|3=>3|9=>9|2=>2|4=>4|171=>250|0=>0|53=>235|37=>52|5=>5|173=>252|212=>272|51=>233|20=>20|213=>273|46=>186|232=>294|233=>295|n=>n,fun|17=>1|18=>6|19=>7|n=>n⟩
theorem Tryz.itoaL:Go.Proofs.LaysM.n171 Tryz.prog Tryz.itoaL_ren:={
  mixed:=by kernel_rfl
  f129:=Tryz.func201.trans (congrArg some (by kernel_rfl))
  f171:=Tryz.func68.trans (congrArg some (by kernel_rfl))
  f243:=Tryz.func124.trans (congrArg some (by kernel_rfl))
  f246:=Tryz.func172.trans (congrArg some (by kernel_rfl))
  f283:=Tryz.func220.trans (congrArg some (by kernel_rfl))
  f284:=Tryz.func221.trans (congrArg some (by kernel_rfl))
  f285:=Tryz.func222.trans (congrArg some (by kernel_rfl))
  f286:=Tryz.func223.trans (congrArg some (by kernel_rfl))
  f317:=Tryz.func248.trans (congrArg some (by kernel_rfl))
  f318:=Tryz.func249.trans (congrArg some (by kernel_rfl))
  f319:=Tryz.func250.trans (congrArg some (by kernel_rfl))
  f320:=Tryz.func251.trans (congrArg some (by kernel_rfl))
  f337:=Tryz.func261.trans (congrArg some (by kernel_rfl))
  f338:=Tryz.func262.trans (congrArg some (by kernel_rfl))
  t0:=Tryz.underlying0
  a0:=Tryz.isAgg0
  z0:=Tryz.sizeOf0
  v0:=Tryz.zeroValue0
  t2:=Tryz.underlying2
  a2:=Tryz.isAgg2
  z2:=Tryz.sizeOf2
  v2:=Tryz.zeroValue2
  t3:=Tryz.underlying3
  a3:=Tryz.isAgg3
  z3:=Tryz.sizeOf3
  v3:=Tryz.zeroValue3
  t4:=Tryz.underlying4
  a4:=Tryz.isAgg4
  z4:=Tryz.sizeOf4
  v4:=Tryz.zeroValue4
  t5:=Tryz.underlying5
  a5:=Tryz.isAgg5
  z5:=Tryz.sizeOf5
  v5:=Tryz.zeroValue5
  t9:=Tryz.underlying9
  a9:=Tryz.isAgg9
  z9:=Tryz.sizeOf9
  v9:=Tryz.zeroValue9
  t20:=Tryz.underlying20
  a20:=Tryz.isAgg20
  z20:=Tryz.sizeOf20
  v20:=Tryz.zeroValue20
  t37:=Tryz.underlying52
  a37:=Tryz.isAgg52
  z37:=Tryz.sizeOf52
  v37:=Tryz.zeroValue52
  t46:=Tryz.underlying186
  a46:=Tryz.isAgg186
  z46:=Tryz.sizeOf186
  v46:=Tryz.zeroValue186
  t51:=Tryz.underlying233
  a51:=Tryz.isAgg233
  z51:=Tryz.sizeOf233
  v51:=Tryz.zeroValue233
  t53:=Tryz.underlying235
  a53:=Tryz.isAgg235
  z53:=Tryz.sizeOf235
  v53:=Tryz.zeroValue235
  t171:=Tryz.underlying250
  a171:=Tryz.isAgg250
  z171:=Tryz.sizeOf250
  v171:=Tryz.zeroValue250
  t173:=Tryz.underlying252
  a173:=Tryz.isAgg252
  z173:=Tryz.sizeOf252
  v173:=Tryz.zeroValue252
  t212:=Tryz.underlying272
  a212:=Tryz.isAgg272
  z212:=Tryz.sizeOf272
  v212:=Tryz.zeroValue272
  t213:=Tryz.underlying273
  a213:=Tryz.isAgg273
  z213:=Tryz.sizeOf273
  t232:=Tryz.underlying294
  a232:=Tryz.isAgg294
  z232:=Tryz.sizeOf294
  v232:=Tryz.zeroValue294
  t233:=Tryz.underlying295
  a233:=Tryz.isAgg295
  z233:=Tryz.sizeOf295
  v233:=Tryz.zeroValue295
  g17:=by kernel_rfl
  g18:=by kernel_rfl
  g19:=by kernel_rfl
  i0:=by kernel_rfl
  i2:=by kernel_rfl
  i3:=by kernel_rfl
  i4:=by kernel_rfl
  i5:=by kernel_rfl
  i9:=by kernel_rfl
  i20:=by kernel_rfl
  i37:=by kernel_rfl
  i46:=by kernel_rfl
  i51:=by kernel_rfl
  i53:=by kernel_rfl
  i171:=by kernel_rfl
  i173:=by kernel_rfl
  i212:=by kernel_rfl
  i232:=by kernel_rfl
  i233:=by kernel_rfl
  m17:=by kernel_rfl
  m18:=by kernel_rfl
  m19:=by kernel_rfl}
end Go.Proofs
namespace Go.Proofs.YtlnfjkdacimblaaGreatDoor
open Go.Abs
theorem itoa_cT (n:Int) (h0 : -9223372036854775808≤n) (h1:n≤9223372036854775807) (H:Heap):ACalls Tryz.prog 68 [iv n] H (fun r H'=>r=sv (itoaB n)∧H'=H) :=
 Go.Abs.itoa_c Tryz.itoaL (G:=1) (by unfold gtab;exact .head _) (by kernel_rfl) n h0 h1 H
end Go.Proofs.YtlnfjkdacimblaaGreatDoor
end
namespace Go.Proofs.YtlnfjkdacimblaaGreatDoor
open Go.Abs
section
def ofL (l:List UInt8):ByteArray:=⟨l.toArray⟩
theorem ofL_list (l:List UInt8):(ofL l).data.toList=l:=by simp [ofL]
theorem ofL_of (s:ByteArray):ofL s.data.toList=s:=ba_ext (ofL_list _)
theorem ofL_size (l:List UInt8):(ofL l).size=l.length:=by rw [← size_list,ofL_list]
/-- What object.Parse makes of a text. -/
def gParseO (s:ByteArray):GObj×Int:=if 20000 < s.size then(zObj,2)else if(gLex s).2.1=0∧gObjT (gReadO (gLex s).1)=(s,0)then(gReadO (gLex s).1,0)else(zObj,5)
/-! ### lines -/
def wPut:List UInt8:=[112,117,116]
def wMove:List UInt8:=[109,111,118,101]
def wTag:List UInt8:=[116,97,103]
def wRefs:List UInt8:=[114,101,102,115]
def wDrop:List UInt8:=[100,114,111,112]
def wSplit:List UInt8:=[115,112,108,105,116]
def wJoin:List UInt8:=[106,111,105,110]
/-- The words of the line of an edit that puts no object. -/
def lineW (e:GEdit):List (List UInt8) :=
 if e.op=2 then[wMove,e.id.data.toList,Lib.itoa e.x,Lib.itoa e.y] else if e.op=3 then[wTag,e.id.data.toList,e.key.data.toList,gQuote e.val.data.toList]
 else if e.op=4 then wRefs::e.id.data.toList::bs e.refs else if e.op=5 then[wDrop,e.id.data.toList]
 else if e.op=6 then[wSplit,e.id.data.toList,e.node.data.toList,e.other.data.toList] else[wJoin,e.id.data.toList,e.other.data.toList]
def lineY (e:GEdit):List UInt8:=if e.op=1 then wPut++32::(gObjT e.obj).1.data.toList else gJoinS [32] (lineW e)
def lineErr (e:GEdit):Int:=if e.op=1 then(gObjT e.obj).2 else 0
def textF:List UInt8→List GEdit→List UInt8×Int
 | acc,[]=>(acc,0)
 | acc,e::r=>if lineErr e≠0∨20000 < (acc++(lineY e++[10])).length then([],2)else textF (acc++(lineY e++[10])) r
/-- The text of a change set, or why it has none. -/
def gTextC (l:List GEdit):ByteArray×Int:=if gChange l then(ofL (textF [] l).1,(textF [] l).2)else(sNil,1)
def numV (s:List UInt8):Int:=match Lib.atoiAll s with
 | .ok v=>v
 | _ => -1
def eNone:GEdit:=⟨0,sNil,sNil,sNil,0,0,sNil,sNil,[],zObj⟩
/-- The edit that the words of a line seem to be. -/
def readW (w:List (List UInt8)) (word rest:List UInt8):GEdit :=
 if word=wPut then⟨1,sNil,sNil,sNil,0,0,sNil,sNil,[],(gParseO (ofL rest)).1⟩
 else if word=wMove∧w.length=4 then⟨2,ofL (w.getD 1 []),sNil,sNil,numV (w.getD 2 []),numV (w.getD 3 []),sNil,sNil,[],zObj⟩
 else if word=wTag∧3 < w.length then(match (gLex (ofL (gJoinS [32] (w.drop 3)))).1 with
  | [f]=>⟨3,ofL (w.getD 1 []),sNil,sNil,0,0,ofL (w.getD 2 []),f.text,[],zObj⟩
  | _=>eNone)
 else if word=wRefs∧1 < w.length then⟨4,ofL (w.getD 1 []),sNil,sNil,0,0,sNil,sNil,(w.drop 2).map ofL,zObj⟩
 else if word=wDrop∧w.length=2 then⟨5,ofL (w.getD 1 []),sNil,sNil,0,0,sNil,sNil,[],zObj⟩
 else if word=wSplit∧w.length=4 then⟨6,ofL (w.getD 1 []),ofL (w.getD 3 []),ofL (w.getD 2 []),0,0,sNil,sNil,[],zObj⟩
 else if word=wJoin∧w.length=3 then⟨7,ofL (w.getD 1 []),ofL (w.getD 2 []),sNil,0,0,sNil,sNil,[],zObj⟩
 else eNone
def gReadE (s:List UInt8):GEdit:=readW (splitC 32 s) ((splitC 32 s).headD []) (s.drop (((splitC 32 s).headD []).length+1))
/-- The change set of a text. -/
def gParseC (t:ByteArray):List GEdit×Int :=
 if 20000 < t.size then([],2)else if gTextC ((linesC t.data.toList).map fun s=>gReadE (Lib.trimSuffix s [10]))=(t,0)then((linesC t.data.toList).map fun s=>gReadE (Lib.trimSuffix s [10]),0)else([],5)
/-! ### no blank, no end of a line -/
end
section
theorem flat_size:∀ l:List ByteArray,(l.flatMap fun k=>32::k.data.toList).length=l.length+sizes l
 | []=>rfl
 | k::l=>by
  have ih:=flat_size l
  rw [List.flatMap_cons,List.length_append,List.length_cons,List.length_cons,ih,size_list,sizes,sizes,List.map_cons,List.sum_cons]
  omega
theorem join_size (l:List ByteArray):(gJoinS [32] (bs l)).length≤l.length+sizes l:=by
 cases l with
 | nil=>exact Nat.zero_le _
 | cons k l =>
  rw [joinS_cons,List.length_append,flat_size,size_list,List.length_cons,sizes,sizes,List.map_cons,List.sum_cons]
  omega
end
section
theorem trim_nlB (w:List UInt8):Lib.trimSuffix (w++[10]) [10]=w:=by
 rw [Lib.trimSuffix,Lib.hasSuffix,if_pos (List.isSuffixOf_iff_suffix.2 ⟨w,rfl⟩)]
 simp
theorem trimB_eq (s:ByteArray):trimB s=ofL (Lib.trimSuffix s.data.toList [10]):=by
 have hz:=szY s
 rw [trimB]
 cases h:endsNl s with
 | true =>
  rw [endsNl,Bool.and_eq_true,decide_eq_true_eq,decide_eq_true_eq] at h
  obtain ⟨h1,h2⟩:=h
  have h3:s.data.toList.drop (s.size - 1)=[10]:=by
   have:=congrArg (fun x=>x.data.toList) h2
   rw [exL] at this
   refine Eq.trans ?_ (show sNl.data.toList=[10] from rfl)
   rw [← this]
   exact(List.take_of_length_le (by rw [List.length_drop];omega)).symm
  have h4:s.data.toList=s.data.toList.take (s.size - 1)++[10]:=by rw [← h3,List.take_append_drop]
  refine eqL ?_
  rw [if_pos rfl,exL,ofL_list,h4,trim_nlB,List.drop_zero,Nat.sub_zero,← h4]
 | false =>
  rw [if_neg (by decide),Lib.trimSuffix,if_neg,ofL_of]
  intro hp
  obtain ⟨w,hw⟩:=List.isSuffixOf_iff_suffix.1 (show ([10]:List UInt8).isSuffixOf s.data.toList=true from hp)
  have hl:s.size=w.length+1:=by rw [← hz,← hw,List.length_append,List.length_singleton]
  have:endsNl s=true:=by
   rw [endsNl,Bool.and_eq_true,decide_eq_true_eq,decide_eq_true_eq]
   refine⟨by omega,eqL ?_⟩
   rw [exL,← hw,show s.size - 1=w.length by omega,List.drop_left]
   exact List.take_of_length_le (by rw [List.length_singleton];omega)
  rw [h] at this
  cases this
theorem cutV_eq (s:ByteArray):∃ b,cutV s=.tup [sv (ofL ((splitC 32 s.data.toList).headD [])),sv (ofL (s.data.toList.drop (((splitC 32 s.data.toList).headD []).length+1))),bv b]:=by
 rw [cutV]
 by_cases h:Lib.indexByte s.data.toList 32 = -1
 ·refine⟨false,?_⟩
  rw [if_pos h,splitC_free (index_free.1 h),List.headD_cons,List.drop_eq_nil_of_le (Nat.le_succ _),ofL_of]
  rfl
 obtain ⟨w,r,e1,e2,e3⟩:=index_at h
 refine⟨true,?_⟩
 obtain ⟨a1,a2⟩:=ofY_at e1
 have hd:s.data.toList.drop (w.length+1)=r:=by
  rw [e1,show w++32::r=(w++[32])++r by simp,show w.length+1=(w++[(32:UInt8)]).length by simp,List.drop_left]
 have hsp:(splitC 32 s.data.toList).headD []=w:=by rw [e1,splitC_app e2];rfl
 rw [if_neg h,hsp,hd,e3,Int.toNat_natCast,a1,show s.extract (w.length+1) s.size=ofL r from eqL (by rw [a2,ofL_list])]
 rfl
theorem split_get (s:ByteArray) (i:Nat) (h:i < (splitS s).length):(splitS s)[i]?=some (ofL ((splitC 32 s.data.toList).getD i [])):=by
 rw [splitS,List.length_map] at h
 rw [splitS,List.getElem?_map,List.getElem?_eq_getElem h,List.getD_eq_getElem?_getD,List.getElem?_eq_getElem h]
 rfl
theorem split_len (s:ByteArray):(splitS s).length=(splitC 32 s.data.toList).length:=List.length_map _
theorem ofL_eq {a b:List UInt8}:ofL a=ofL b↔a=b:=⟨fun h=>by rw [← ofL_list a,h,ofL_list],fun h=>by rw [h]⟩
end
section
theorem encStr_rl (l:List ByteArray):∀ r∈l.map encStr,r.length=1:=fun r hr=>by
 obtain ⟨s,_,rfl⟩:=List.mem_map.1 hr
 rfl
theorem sizes_cons (s:ByteArray) (l:List ByteArray):sizes (s::l)=s.size+sizes l:=by rw [sizes,sizes,List.map_cons,List.sum_cons]
theorem join_out {e:GEdit} {ws:List ByteArray} (h1:e.op≠1) (h:bs ws=lineW e):(⟨(gJoinS [32] (bs ws)).toArray⟩:ByteArray)++⟨#[10]⟩=ofL (lineY e++[10]):=eqL (by
 rw [ofL_list,lineY,if_neg h1,← h]
 simp)
theorem put_out {e:GEdit} (h1:e.op=1):(⟨#[112,117,116,32]⟩:ByteArray)++(gObjT e.obj).1++⟨#[10]⟩=ofL (lineY e++[10]):=eqL (by
 rw [ofL_list,lineY,if_pos h1]
 simp [wPut])
theorem objT_size {o:GObj}:(gObjT o).1.size≤20000:=by
 rw [gObjT]
 split
 ·split
  ·exact Nat.zero_le _
  split
  ·exact Nat.zero_le _
  show (objB o).size≤_;omega
 exact Nat.zero_le _
end
section
theorem gChange_of {l:List GEdit} (h:gChange l=true):l≠[]∧∀ e∈l,gEditV e=true:=by
 rw [gChange,Bool.and_eq_true,Bool.and_eq_true,decide_eq_true_eq,Bool.not_eq_true',List.any_eq_false] at h
 refine⟨fun e=>by rw [e] at h;exact absurd h.1.1 (by decide),fun e he=>?_⟩
 have:=h.2 e he
 simpa using this
end
section
theorem lenB_c (g:Nat) (l:List UInt8) (u:Bool):ACalls Tryz.prog 34 [.ref 2001 0 0 0] (bld g l u) (fun r H'=>r=iv (l.length:Int)∧H'=bld g l u):=by
 refine Bd Tryz.func34 rfl Tryz.ntmps34<|Sq<|Rg<|Dd as'<|Zz<|Sq<|Rg<|Dd mv'<|Dd nc'<|Dd (fr' fo62_1)<|Dd (l1' Tryz.isAgg52)<|Dd (by exact opd_len_osl rfl Tryz.underlying52 rfl rfl rfl)<|Dd as'<|Zz<|awp_ret ?_
 refine aret1 (H':=(bld g l u)) (.inr rfl) rfl (rval_tmp rfl) Fin.refl ?_
 exact⟨rfl,rfl⟩
abbrev bldA (l:List UInt8) (g:Nat) (u:Bool):Ob:=bObT (.osl 2002 g 0 l.length) u
abbrev bldD (l:List UInt8) (g:Nat):Ob:=⟨g,1,5,brows l⟩
theorem keysB {g g':Nat} {l l':List UInt8} {u u':Bool} {id:Nat} (h:(Heap.get (bld g l u) id).isSome=true):(Heap.get (bld g' l' u') id).isSome=true:=keys2 h
theorem keysE {g:Nat} {l:List UInt8} {u u':Bool} {id:Nat} (h:(Heap.get (bEnd g l u) id).isSome=true):(Heap.get (bld g l u) id).isSome=true:=by
 simp only [bEnd,bld,Heap.get] at h ⊢
 cases e1:Nat.beq 2001 id with
 | true=>rfl
 | false =>
  cases e2:Nat.beq 2002 id with
  | true=>rfl
  | false=>rw [e1,e2] at h;cases h
theorem wrB_f {H:Heap} {g:Nat} {l:List UInt8} {u:Bool} (s:ByteArray) (h1:H.get 2001=some (bldA l g u)) (h2:H.get 2002=some (bldD l g)) (hl:l.length+s.size < 70368744177664):ACalls Tryz.prog 33 [.ref 2001 0 0 0,sv s] H (fun r H'=>r=.tup [iv (s.size:Int),.pv nilI]∧H'=bld (g+1) (l++s.data.toList) true++H) :=
 ACalls.frame (writeString_c g l u s hl) (Sub.of2 h1 h2) (Closed.ofL ⟨(by exact bOb_cloT rfl rfl),(by exact brows_clo _ _),trivial⟩) (by simp;rfl) (fun id h=>.inl (keysB h))
theorem lenB_f {H:Heap} {g:Nat} {l:List UInt8} {u:Bool} (h1:H.get 2001=some (bldA l g u)) (h2:H.get 2002=some (bldD l g)):ACalls Tryz.prog 34 [.ref 2001 0 0 0] H (fun r H'=>r=iv (l.length:Int)∧H'=H) :=
 ACalls.frameS (lenB_c g l u) (Sub.of2 h1 h2) (Closed.ofL ⟨(by exact bOb_cloT rfl rfl),(by exact brows_clo _ _),trivial⟩) (by simp;rfl)
theorem strB_f {H:Heap} {g:Nat} {l:List UInt8} {u:Bool} (h1:H.get 2001=some (bldA l g u)) (h2:H.get 2002=some (bldD l g)) (hl:l.length < 70368744177664):ACalls Tryz.prog 35 [.ref 2001 0 0 0] H (fun r H'=>r=sv ⟨l.toArray⟩∧H'=bEnd g l u++H) :=
 ACalls.frame (str_c g l u hl) (Sub.of2 h1 h2) (Closed.ofL ⟨(by exact bOb_cloT rfl rfl),(by exact brows_clo _ _),trivial⟩) (by simp;rfl) (fun id h=>.inl (keysE (u':=u) h))
def uK:Nat→Bool
 | 0=>false
 | _+1=>true
def accC (l:List GEdit) (k:Nat):List UInt8:=(l.take k).flatMap fun e=>lineY e++[10]
theorem accC_next {l:List GEdit} {k:Nat} {e:GEdit} (h:l[k]?=some e):accC l (k+1)=accC l k++(lineY e++[10]):=by
 rw [accC,List.take_add_one,h,List.flatMap_append]
 simp [accC]
theorem lineY_len {e:GEdit} (he:gEditV e=true):(lineY e).length≤100000:=by
 obtain ⟨⟨o1,o2⟩,o3,o4⟩:=gEditV_iff.1 he
 rw [okOf] at o3
 have hval:=gEditV_val he
 by_cases h1:e.op=1
 ·rw [lineY,if_pos h1,List.length_append,List.length_cons,size_list]
  have:=objT_size (o:=e.obj)
  show 3+_≤_
  omega
 rw [if_neg h1,Bool.and_eq_true] at o3
 obtain ⟨o5,o6⟩:=o3
 have hid:=gName_size o5
 have key:∀ ws:List ByteArray,bs ws=lineW e→ws.length+sizes ws≤100000→(lineY e).length≤100000:=fun ws h h2=>by
  rw [lineY,if_neg h1,← h]
  exact Nat.le_trans (join_size ws) h2
 by_cases h2:e.op=2
 ·rw [if_pos h2,onP,Bool.and_eq_true,decide_eq_true_eq,decide_eq_true_eq] at o6
  have six:(itoaB e.x).size≤7:=by rw [← size_list];show (Lib.itoa e.x).length≤7;rw [itoa_nat _ (by omega)];exact digits_small (by omega) (by decide)
  have siy:(itoaB e.y).size≤7:=by rw [← size_list];show (Lib.itoa e.y).length≤7;rw [itoa_nat _ (by omega)];exact digits_small (by omega) (by decide)
  have hw0:(⟨#[109,111,118,101]⟩:ByteArray).size=4:=rfl
  exact key [⟨#[109,111,118,101]⟩,e.id,itoaB e.x,itoaB e.y] (by rw [lineW,if_pos h2];rfl) (by simp only [sizes_cons,List.length_cons,List.length_nil,show sizes []=0 from rfl];omega)
 rw [if_neg h2] at o6
 by_cases h3:e.op=3
 ·rw [if_pos h3,Bool.and_eq_true] at o6
  have hks:=gName_size o6.1
  have hq:=quote_size e.val
  have hw0:(⟨#[116,97,103]⟩:ByteArray).size=3:=rfl
  exact key [⟨#[116,97,103]⟩,e.id,e.key,⟨(gQuote e.val.data.toList).toArray⟩] (by rw [lineW,if_neg h2,if_pos h3];rfl) (by simp only [sizes_cons,List.length_cons,List.length_nil,show sizes []=0 from rfl];omega)
 rw [if_neg h3] at o6
 by_cases h4:e.op=4
 ·rw [if_pos h4,Bool.and_eq_true,Bool.and_eq_true,decide_eq_true_eq,decide_eq_true_eq,List.all_eq_true] at o6
  obtain ⟨⟨r1,r2⟩,r3⟩:=o6
  have hrs:sizes e.refs≤24*e.refs.length:=sizes_bound (fun s hs=>gName_size (r3 s hs))
  have hw0:(⟨#[114,101,102,115]⟩:ByteArray).size=4:=rfl
  exact key (⟨#[114,101,102,115]⟩::e.id::e.refs) (by rw [lineW,if_neg h2,if_neg h3,if_pos h4];rfl) (by simp only [sizes_cons,List.length_cons];omega)
 rw [if_neg h4] at o6
 by_cases h5:e.op=5
 ·have hw0:(⟨#[100,114,111,112]⟩:ByteArray).size=4:=rfl
  exact key [⟨#[100,114,111,112]⟩,e.id] (by rw [lineW,if_neg h2,if_neg h3,if_neg h4,if_pos h5];rfl) (by simp only [sizes_cons,List.length_cons,List.length_nil,show sizes []=0 from rfl];omega)
 rw [if_neg h5] at o6
 by_cases h6:e.op=6
 ·rw [if_pos h6,Bool.and_eq_true] at o6
  have hns:=gName_size o6.1
  have hos:=gName_size o6.2
  have hw0:(⟨#[115,112,108,105,116]⟩:ByteArray).size=5:=rfl
  exact key [⟨#[115,112,108,105,116]⟩,e.id,e.node,e.other] (by rw [lineW,if_neg h2,if_neg h3,if_neg h4,if_neg h5,if_pos h6];rfl) (by simp only [sizes_cons,List.length_cons,List.length_nil,show sizes []=0 from rfl];omega)
 rw [if_neg h6] at o6
 have hos:=gName_size o6
 have hw0:(⟨#[106,111,105,110]⟩:ByteArray).size=4:=rfl
 exact key [⟨#[106,111,105,110]⟩,e.id,e.other] (by rw [lineW,if_neg h2,if_neg h3,if_neg h4,if_neg h5,if_neg h6];rfl) (by simp only [sizes_cons,List.length_cons,List.length_nil,show sizes []=0 from rfl];omega)
end
end Go.Proofs.YtlnfjkdacimblaaGreatDoor
namespace Go.Abs
open Go.RowKit
section
/-- A call of the library that keeps all blocks that were there. -/
theorem Rel.below {I:Nat→Prop} {ι:Plc} {H:Heap} {w w':World} (hb:Below w.heap.size w w') (hr:Rel I ι H w):Rel I ι H w'∧Step I ι H w I ι H w':=by
 have hk:∀ b,b < w.heap.size→w'.heap[b]?=w.heap[b]?:=hb.block
 have hst:Step I ι H w I ι H w':=by
  refine⟨hb.os,hb.tape,hb.output,hb.size,fun a ha _=>?_,fun _ h=>h,fun _ h=>.inl h,fun _ h=>.inl h,fun b hb _=>hk b hb,fun _ o h=>⟨o,h,Nat.le_refl _,fun _=>⟨rfl,rfl,fun _=>Nat.le_refl _⟩⟩⟩
  unfold World.frozen?
  rw [hk _ ha]
 refine⟨⟨fun b h=>?_,fun j o hj=>?_,hr.inj,hst.glob hr⟩,hst⟩
 ·have:=hr.imm b h
  have:=hb.size
  omega
 exact(hr.obj j o hj).keep rfl (fun b c _ hb=>⟨hk b hb,fun h=>h⟩) (fun r _ a _ v hv=>hv.mono hr hst)
end
end Go.Abs
namespace Go.Abs
open Go.Proofs
section
def isErr (v:Value):Prop:=∃ t p,v=.iface t p
abbrev errI:PV:=.sat isErr
/-- What Atoi answers. -/
def atoiE (s:ByteArray):Int×PV:=match Lib.atoiAll s.data.toList with
 | .ok v=>(v,nilI)
 | .range=>(Lib.atoiSat s.data.toList,errI)
 | _=>(0,errI)
theorem atoi_c {P:Program} {ρ:Shelf.Ren} (L:LaysC.n172 P ρ) {G1 G2:Nat} (hg1:(G1,GV.face)∈gtab) (hn1:P.globalNamed "strconv.ErrSyntax" = some G1) (hg2:(G2,GV.face)∈gtab) (hn2:P.globalNamed "strconv.ErrRange" = some G2) (s:ByteArray) (hs:s.size < 1099511627776) (H:Heap) :
  ACalls P (ρ.f 172) [.pv (.str s)] H (fun r H'=>r=.tup [.pv (.int .i64 (atoiE s).1),.pv (atoiE s).2]∧H'=H):=by
 intro I ι w vs hr hvl hv
 obtain ⟨v,rfl⟩:∃ v,vs=#[v]:=by
  match vs,hvl with
  | ⟨[v]⟩,_=>exact⟨v,rfl⟩
 have e1:=(hv 0 v _ rfl rfl).str_inv
 subst e1
 have hvar:∀ (name:String) (G:Nat),(G,GV.face)∈gtab→P.globalNamed name=some G→∃ t p,w.var? P name=some #[.iface t p]:=fun name G hg hn=>by
  obtain ⟨_,cs,t,f,h2,q,p,h3⟩:=hr.glob _ hg
  subst h3
  exact⟨q,p,by simp only [World.var?,hn,Option.bind_some,h2]⟩
 have fin:∀ (n:Int) (x:Value) (a:PV) (w':World),RowKit.Below w.heap.size w w'→(∀ I H,VRel w' I ι H x (.pv a))→∃ r H' I' ι' v',(Ending.returned (.tuple #[.int .i64 n,x]))=.returned v'∧(r=.tup [.pv (.int .i64 n),.pv a]∧H'=H)∧VRel w' I' ι' H' v' r∧Rel I' ι' H' w'∧Step I ι H w I' ι' H' w':=fun n x a w' hb hx=>by
  obtain ⟨k1,k2⟩:=Rel.below hb hr
  refine⟨_,_,I,ι,_,rfl,⟨rfl,rfl⟩,.tup rfl fun i v b h1 h2=>?_,k1,k2⟩
  match i,h1,h2 with
  | 0,h1,h2=>cases h1;cases h2;exact .pv (.int _ _)
  | 1,h1,h2=>cases h1;cases h2;exact hx _ _
  | i+2,h1,h2=>simp at h1
 rw [atoiE]
 cases h:Lib.atoiAll s.data.toList with
 | ok n =>
  refine(Any.strconv_Atoi_ok L s (by omega) n h w).mono ?_
  rintro e w' ⟨rfl,hw⟩
  have hb:RowKit.Below w.heap.size w w':=by
   rcases hw with rfl|⟨t,rfl⟩
   ·exact RowKit.Below.refl _ _
   exact Lib.bytesWorld_below w _ t
  exact fin n .nilIface nilI w' hb (fun _ _=>.pv (.sat rfl rfl))
 | range =>
  obtain ⟨t,p,hq⟩:=hvar _ G2 hg2 hn2
  refine(Any.strconv_Atoi_range_var L s (by omega) h t p w hq).mono ?_
  rintro e w' ⟨N,rfl,_,_,hb⟩
  exact fin _ _ errI w' hb (fun _ _=>.pv (.sat rfl ⟨_,_,rfl⟩))
 | _ =>
  obtain ⟨t,p,hq⟩:=hvar _ G1 hg1 hn1
  refine(Any.strconv_Atoi_syntax_var L s (by omega) h t p w hq).mono ?_
  rintro e w' ⟨N,rfl,_,_,hb⟩
  exact fin 0 _ errI w' hb (fun _ _=>.pv (.sat rfl ⟨_,_,rfl⟩))
end
end Go.Abs
section
namespace Go.Proofs
open Go.RowKit Go.Sort Go.Shelf
def Tryz.atoiL_ren:Go.Shelf.Ren:=⟨fun|172=>134|244=>181|245=>182|247=>231|279=>232|280=>233|281=>234|282=>235|287=>254|316=>255|171=>68|205=>256|321=>263|322=>264|243=>124|246=>172|283=>220|284=>221|285=>222|286=>223|129=>201|317=>248|318=>249|319=>250|320=>251|337=>261|338=>262|n=>n,fun|9=>9|3=>3|75=>65|76=>66|4=>4|5=>5|167=>257|37=>52|0=>0|85=>258|2=>2|168=>260|53=>235|175=>277|46=>186|210=>280|127=>123|145=>292|143=>290|21=>21|171=>250|173=>252|212=>272|51=>233|20=>20|213=>273|232=>294|233=>295|80=>69|n=>n,fun|15=>2|16=>3|17=>1|18=>6|19=>7|n=>n⟩
theorem Tryz.atoiL:Go.Proofs.LaysC.n172 Tryz.prog Tryz.atoiL_ren:={
  mixed:=by kernel_rfl
  f129:=Tryz.func201.trans (congrArg some (by kernel_rfl))
  f171:=Tryz.func68.trans (congrArg some (by kernel_rfl))
  f172:=Tryz.func134.trans (congrArg some (by kernel_rfl))
  f205:=Tryz.func256.trans (congrArg some (by kernel_rfl))
  f243:=Tryz.func124.trans (congrArg some (by kernel_rfl))
  f244:=Tryz.func181.trans (congrArg some (by kernel_rfl))
  f245:=Tryz.func182.trans (congrArg some (by kernel_rfl))
  f246:=Tryz.func172.trans (congrArg some (by kernel_rfl))
  f247:=Tryz.func231.trans (congrArg some (by kernel_rfl))
  f279:=Tryz.func232.trans (congrArg some (by kernel_rfl))
  f280:=Tryz.func233.trans (congrArg some (by kernel_rfl))
  f281:=Tryz.func234.trans (congrArg some (by kernel_rfl))
  f282:=Tryz.func235.trans (congrArg some (by kernel_rfl))
  f283:=Tryz.func220.trans (congrArg some (by kernel_rfl))
  f284:=Tryz.func221.trans (congrArg some (by kernel_rfl))
  f285:=Tryz.func222.trans (congrArg some (by kernel_rfl))
  f286:=Tryz.func223.trans (congrArg some (by kernel_rfl))
  f287:=Tryz.func254.trans (congrArg some (by kernel_rfl))
  f316:=Tryz.func255.trans (congrArg some (by kernel_rfl))
  f317:=Tryz.func248.trans (congrArg some (by kernel_rfl))
  f318:=Tryz.func249.trans (congrArg some (by kernel_rfl))
  f319:=Tryz.func250.trans (congrArg some (by kernel_rfl))
  f320:=Tryz.func251.trans (congrArg some (by kernel_rfl))
  f321:=Tryz.func263.trans (congrArg some (by kernel_rfl))
  f322:=Tryz.func264.trans (congrArg some (by kernel_rfl))
  f337:=Tryz.func261.trans (congrArg some (by kernel_rfl))
  f338:=Tryz.func262.trans (congrArg some (by kernel_rfl))
  t0:=Tryz.underlying0
  a0:=Tryz.isAgg0
  z0:=Tryz.sizeOf0
  v0:=Tryz.zeroValue0
  t2:=Tryz.underlying2
  a2:=Tryz.isAgg2
  z2:=Tryz.sizeOf2
  v2:=Tryz.zeroValue2
  t3:=Tryz.underlying3
  a3:=Tryz.isAgg3
  z3:=Tryz.sizeOf3
  v3:=Tryz.zeroValue3
  t4:=Tryz.underlying4
  a4:=Tryz.isAgg4
  z4:=Tryz.sizeOf4
  v4:=Tryz.zeroValue4
  t5:=Tryz.underlying5
  a5:=Tryz.isAgg5
  z5:=Tryz.sizeOf5
  v5:=Tryz.zeroValue5
  t9:=Tryz.underlying9
  a9:=Tryz.isAgg9
  z9:=Tryz.sizeOf9
  v9:=Tryz.zeroValue9
  t20:=Tryz.underlying20
  a20:=Tryz.isAgg20
  z20:=Tryz.sizeOf20
  v20:=Tryz.zeroValue20
  t21:=Tryz.underlying21
  a21:=Tryz.isAgg21
  z21:=Tryz.sizeOf21
  v21:=Tryz.zeroValue21
  t37:=Tryz.underlying52
  a37:=Tryz.isAgg52
  z37:=Tryz.sizeOf52
  v37:=Tryz.zeroValue52
  t46:=Tryz.underlying186
  a46:=Tryz.isAgg186
  z46:=Tryz.sizeOf186
  v46:=Tryz.zeroValue186
  t51:=Tryz.underlying233
  a51:=Tryz.isAgg233
  z51:=Tryz.sizeOf233
  v51:=Tryz.zeroValue233
  t53:=Tryz.underlying235
  a53:=Tryz.isAgg235
  z53:=Tryz.sizeOf235
  v53:=Tryz.zeroValue235
  t75:=Tryz.underlying65
  a75:=Tryz.isAgg65
  z75:=Tryz.sizeOf65
  v75:=Tryz.zeroValue65
  t76:=Tryz.underlying66
  a76:=Tryz.isAgg66
  z76:=Tryz.sizeOf66
  v76:=Tryz.zeroValue66
  t85:=Tryz.underlying258
  a85:=Tryz.isAgg258
  z85:=Tryz.sizeOf258
  v85:=Tryz.zeroValue258
  t127:=Tryz.underlying123
  a127:=Tryz.isAgg123
  z127:=Tryz.sizeOf123
  v127:=Tryz.zeroValue123
  t143:=Tryz.underlying290
  a143:=Tryz.isAgg290
  z143:=Tryz.sizeOf290
  v143:=Tryz.zeroValue290
  t145:=Tryz.underlying292
  a145:=Tryz.isAgg292
  z145:=Tryz.sizeOf292
  v145:=Tryz.zeroValue292
  t167:=Tryz.underlying257
  a167:=Tryz.isAgg257
  z167:=Tryz.sizeOf257
  v167:=Tryz.zeroValue257
  t168:=Tryz.underlying260
  a168:=Tryz.isAgg260
  z168:=Tryz.sizeOf260
  v168:=Tryz.zeroValue260
  t171:=Tryz.underlying250
  a171:=Tryz.isAgg250
  z171:=Tryz.sizeOf250
  v171:=Tryz.zeroValue250
  t173:=Tryz.underlying252
  a173:=Tryz.isAgg252
  z173:=Tryz.sizeOf252
  v173:=Tryz.zeroValue252
  t175:=Tryz.underlying277
  a175:=Tryz.isAgg277
  z175:=Tryz.sizeOf277
  v175:=Tryz.zeroValue277
  t210:=Tryz.underlying280
  a210:=Tryz.isAgg280
  z210:=Tryz.sizeOf280
  v210:=Tryz.zeroValue280
  t212:=Tryz.underlying272
  a212:=Tryz.isAgg272
  z212:=Tryz.sizeOf272
  v212:=Tryz.zeroValue272
  t213:=Tryz.underlying273
  a213:=Tryz.isAgg273
  z213:=Tryz.sizeOf273
  t232:=Tryz.underlying294
  a232:=Tryz.isAgg294
  z232:=Tryz.sizeOf294
  v232:=Tryz.zeroValue294
  t233:=Tryz.underlying295
  a233:=Tryz.isAgg295
  z233:=Tryz.sizeOf295
  v233:=Tryz.zeroValue295
  g15:=by kernel_rfl
  g16:=by kernel_rfl
  g17:=by kernel_rfl
  g18:=by kernel_rfl
  g19:=by kernel_rfl
  t80:=Tryz.underlying69
  a80:=Tryz.isAgg69
  z80:=Tryz.sizeOf69
  v80:=Tryz.zeroValue69
  i0:=by kernel_rfl
  i2:=by kernel_rfl
  i3:=by kernel_rfl
  i4:=by kernel_rfl
  i5:=by kernel_rfl
  i9:=by kernel_rfl
  i20:=by kernel_rfl
  i21:=by kernel_rfl
  i37:=by kernel_rfl
  i46:=by kernel_rfl
  i51:=by kernel_rfl
  i53:=by kernel_rfl
  i75:=by kernel_rfl
  i76:=by kernel_rfl
  i80:=by kernel_rfl
  i85:=by kernel_rfl
  i127:=by kernel_rfl
  i143:=by kernel_rfl
  i145:=by kernel_rfl
  i167:=by kernel_rfl
  i168:=by kernel_rfl
  i171:=by kernel_rfl
  i173:=by kernel_rfl
  i175:=by kernel_rfl
  i210:=by kernel_rfl
  i212:=by kernel_rfl
  i232:=by kernel_rfl
  i233:=by kernel_rfl
  m15:=by kernel_rfl
  m16:=by kernel_rfl
  m17:=by kernel_rfl
  m18:=by kernel_rfl
  m19:=by kernel_rfl
  c0:=by kernel_rfl
  c2:=by kernel_rfl
  c3:=by kernel_rfl
  c4:=by kernel_rfl
  c5:=by kernel_rfl
  c9:=by kernel_rfl
  c20:=by kernel_rfl
  c21:=by kernel_rfl
  c37:=by kernel_rfl
  c46:=by kernel_rfl
  c51:=by kernel_rfl
  c53:=by kernel_rfl
  c75:=by kernel_rfl
  c76:=by kernel_rfl
  c80:=by kernel_rfl
  c85:=by kernel_rfl
  c127:=by kernel_rfl
  c143:=by kernel_rfl
  c145:=by kernel_rfl
  c167:=by kernel_rfl
  c168:=by kernel_rfl
  c171:=by kernel_rfl
  c173:=by kernel_rfl
  c175:=by kernel_rfl
  c210:=by kernel_rfl
  c212:=by kernel_rfl
  c213:=by kernel_rfl
  c232:=by kernel_rfl
  c233:=by kernel_rfl}
end Go.Proofs
namespace Go.Proofs.YtlnfjkdacimblaaGreatDoor
open Go.Abs
theorem atoi_cT (s:ByteArray) (hs:s.size < 1099511627776) (H:Heap):ACalls Tryz.prog 134 [sv s] H (fun r H'=>r=.tup [iv (atoiE s).1,.pv (atoiE s).2]∧H'=H) :=
 Go.Abs.atoi_c Tryz.atoiL (G1:=2) (G2:=3) (by unfold gtab;exact .tail _ (.tail _ (.head _))) (by kernel_rfl) (by unfold gtab;exact .tail _ (.head _)) (by kernel_rfl) s hs H
end Go.Proofs.YtlnfjkdacimblaaGreatDoor
end
namespace Go.Proofs.YtlnfjkdacimblaaGreatDoor
open Go.Abs
section
theorem rows_ofY {α:Type} (f:α→List PV) (l:List α):l.map (fun e=>(f e).map AV.pv)=(l.map f).map (·.map .pv):=by rw [List.map_map];rfl
theorem take_rows {α:Type} (f:α→List PV) (l:List α):((l.map f).take (0+l.length)).drop 0=l.map f:=by rw [Nat.zero_add,List.drop_zero];exact List.take_of_length_le (by rw [List.length_map];exact Nat.le_refl _)
end
end Go.Proofs.YtlnfjkdacimblaaGreatDoor
namespace Go.Abs
open Go.Proofs
section
section
variable {P:Program} {N:Nat} {o:Oper} {E:Env} {H:Heap} {t t':TypeId} {x:Operand}
theorem opd_ne_nil (ho:o.op=.binOp .neq t x (.const .nilIface) t') (ht:P.underlying t=some (.interface (P.methodsAt t))) (hx:aeval E x=some (.pv nilI)):OpD P N o E H (.pv (.bool false)) H :=
 .of_run fun a w I ι _ he=>⟨.bool false,by
  have e1:a.eval x=.nilIface:=(aeval_rel he hx).sat_inv
  have e2:a.eval (.const .nilIface)=.nilIface:=rfl
  simp only [execOp,ho,e1,e2,eqGuard,Sem.run_bind,Sem.run_pure,Result.andThen_ok,run_neq_nil_nil _ _ ht,Bool.or_true,if_true,Bool.not_true,Bool.false_eq_true,if_false],.pv (.bool _)⟩
theorem opd_ne_err (ho:o.op=.binOp .neq t x (.const .nilIface) t') (ht:P.underlying t=some (.interface (P.methodsAt t))) (hx:aeval E x=some (.pv errI)):OpD P N o E H (.pv (.bool true)) H :=
 .of_run fun a w I ι _ he=>⟨.bool true,by
  obtain ⟨q,p,e1⟩:isErr (a.eval x):=(aeval_rel he hx).sat_inv
  have e2:a.eval (.const .nilIface)=.nilIface:=rfl
  simp only [execOp,ho,e1,e2,eqGuard,Sem.run_bind,Sem.run_pure,Result.andThen_ok,run_neq_held_nil _ _ _ _ ht]
  rfl,.pv (.bool _)⟩
end
end
end Go.Abs
namespace Go.Proofs.YtlnfjkdacimblaaGreatDoor
open Go.Abs
section
theorem number_c (s:ByteArray) (H:Heap) (hs:s.size < 1099511627776):ACalls Tryz.prog 82 [sv s] H (fun r H'=>r=iv (numV s.data.toList)∧H'=H):=by
 refine ACalls.pure ?_ (by simp) H
 have hA:=atoi_cT s hs
 unfold atoiE at hA
 unfold numV
 cases h:Lib.atoiAll s.data.toList with
 | ok v =>
  simp only [h] at hA
  refine Bd Tryz.func82 rfl Tryz.ntmps82<|Sq<|Rg<|Dd as'<|Zz<|Sq<|Rg<|Dd mv'<|Dd (by exact opr_call rfl rfl Tryz.call134 rfl (hA _))<|Dd mv'<|Dd ex'<|Dd ex'<|Dd as'<|Dd as'<|Zz<|Sq<|Sq<|Rg<|Dd mv'<|Dd (by exact opd_ne_nil rfl Tryz.underlying65 rfl)<|Zz ?_
  refine Cn (fun hc1=>?_) fun hc1=>?_
  ·cases hc1
  skip
  refine awp_skip<|Sq<|Rg<|Dd mv'<|Dd as'<|Zz<|awp_ret ?_
  refine Rt ?_
  exact⟨rfl,rfl⟩
 | range =>
  simp only [h] at hA
  refine Bd Tryz.func82 rfl Tryz.ntmps82<|Sq<|Rg<|Dd as'<|Zz<|Sq<|Rg<|Dd mv'<|Dd (by exact opr_call rfl rfl Tryz.call134 rfl (hA _))<|Dd mv'<|Dd ex'<|Dd ex'<|Dd as'<|Dd as'<|Zz<|Sq<|Sq<|Rg<|Dd mv'<|Dd (by exact opd_ne_err rfl Tryz.underlying65 rfl)<|Zz ?_
  refine Cn (fun hc1=>?_) fun hc1=>?_
  ·skip
   refine Sq<|Rg<|Dd as'<|Zz<|awp_ret ?_
   refine Rt ?_
   exact⟨rfl,rfl⟩
  cases hc1
 | _ =>
  simp only [h] at hA
  refine Bd Tryz.func82 rfl Tryz.ntmps82<|Sq<|Rg<|Dd as'<|Zz<|Sq<|Rg<|Dd mv'<|Dd (by exact opr_call rfl rfl Tryz.call134 rfl (hA _))<|Dd mv'<|Dd ex'<|Dd ex'<|Dd as'<|Dd as'<|Zz<|Sq<|Sq<|Rg<|Dd mv'<|Dd (by exact opd_ne_err rfl Tryz.underlying65 rfl)<|Zz ?_
  refine Cn (fun hc1=>?_) fun hc1=>?_
  ·skip
   refine Sq<|Rg<|Dd as'<|Zz<|awp_ret ?_
   refine Rt ?_
   exact⟨rfl,rfl⟩
  cases hc1
end
section
theorem unqL_datY:∀ (l:List UInt8) (p:List UInt8×Nat),unqL l=some p→p.1.length≤l.length
 | [],p,h=>by cases h
 | [c],p,h=>by
  rw [unqL] at h
  split at h
  ·cases h;exact Nat.zero_le _
  cases h
 | c :: e :: r, p, h => by
  rw [unqL] at h
  split at h
  ·cases h;exact Nat.zero_le _
  split at h
  ·cases h
  split at h
  ·cases hg:gUnesc e with
   | none=>rw [hg] at h;cases h
   | some b =>
    rw [hg] at h
    cases hu:unqL r with
    | none=>rw [hu] at h;cases h
    | some q =>
     rw [hu] at h;cases h
     have:=unqL_datY r q hu
     show q.1.length+1≤r.length+1+1
     omega
  cases hu:unqL (e::r)with
  | none=>rw [hu] at h;cases h
  | some q =>
   rw [hu] at h;cases h
   have:=unqL_datY (e::r) q hu
   show q.1.length+1≤r.length+1+1
   rw [List.length_cons] at this
   omega
theorem extract_sizeY (s:ByteArray) (i j:Nat):(s.extract i j).size≤s.size:=by
 rw [← size_list,extract_list,List.length_take,List.length_drop,size_list]
 omega
theorem unq_sizeY (s:ByteArray):(gUnq s).1.size≤s.size:=by
 rw [gUnq]
 cases h:unqL (s.data.toList.drop 1)with
 | none=>exact Nat.zero_le _
 | some p =>
  have:=unqL_datY _ _ h
  rw [List.length_drop,size_list] at this
  show (⟨p.1.toArray⟩:ByteArray).size≤_
  rw [← size_list]
  show p.1.length≤_
  omega
theorem step_sizeY {s:ByteArray} {i:Nat} {f:GFound} {j:Nat} (h:gStep s i=(some f,j)):f.text.size≤s.size:=by
 rw [gStep] at h
 split at h
 ·cases h
 split at h
 ·cases h
 split at h
 ·cases h;exact extract_sizeY _ _ _
 split at h
 ·cases h;exact extract_sizeY _ _ _
 split at h
 ·cases h
  rw [gStr]
  split
  ·have h1:=unq_sizeY (s.extract i s.size)
   have h2:=extract_sizeY s i s.size
   show (gUnq (s.extract i s.size)).1.size≤_
   omega
  exact Nat.zero_le _
 split at h
 ·cases h;exact extract_sizeY _ _ _
 cases h;exact Nat.zero_le _
theorem toks_sizeY (s:ByteArray):∀ (n i:Nat) (f:GFound),f∈gToks s n i→f.text.size≤s.size
 | 0,_,_,h=>by cases h
 | n+1,i,f,h=>by
  rw [gToks] at h
  split at h
  ·split at h
   ·exact toks_sizeY s n _ f h
   rename_i g j hg
   rcases List.mem_cons.1 h with rfl|h
   ·exact step_sizeY hg
   split at h
   ·exact toks_sizeY s n _ f h
   cases h
  cases h
theorem run_memY:∀ (ds acc:List GFound) (f:GFound),f∈(lexRun acc ds).1→f∈acc∨f∈ds
 | [],acc,f,h=>.inl h
 | d::ds,acc,f,h=>by
  rw [lexRun] at h
  split at h
  ·cases h
  split at h
  ·cases h
  rcases run_memY ds _ f h with h|h
  ·rcases List.mem_append.1 h with h|h
   ·exact .inl h
   rw [List.mem_singleton] at h
   subst h
   exact .inr List.mem_cons_self
  exact .inr (List.mem_cons_of_mem _ h)
theorem lex_sizeY (s:ByteArray) (f:GFound) (h:f∈(gLex s).1):f.text.size≤s.size:=by
 rw [gLex] at h
 split at h
 ·cases h
 rcases run_memY _ _ f h with h|h
 ·cases h
 exact toks_sizeY s _ _ f h
theorem pad4_mem {T:List GFound} {n:Nat} (h:∀ f∈T,f.text.size≤n):∀ f∈pad4 T,f.text.size≤n:=fun f hf=>by
 rw [pad4] at hf
 rcases List.mem_append.1 hf with h1|h1
 ·exact h f h1
 rw [(List.mem_replicate.1 h1).2]
 exact Nat.zero_le _
theorem tagsR_mem:∀ (T:List GFound) (n:Nat),(∀ f∈T,f.text.size≤n)→(tagsR T).length≤T.length∧∀ t∈tagsR T,t.key.size≤n∧t.val.size≤n
 | [],n,_=>by simp [tagsR]
 | [a],n,_=>by simp [tagsR]
 | [a,b],n,_=>by simp [tagsR]
 | a::b::c::r,n,h=>by
  obtain ⟨i1,i2⟩:=tagsR_mem r n fun f hf=>h f (by simp [hf])
  rw [tagsR]
  refine⟨by simp only [List.length_cons];omega,fun t ht=>?_⟩
  rcases List.mem_cons.1 ht with rfl|ht
  ·exact⟨h a (by simp),h c (by simp)⟩
  exact i2 t ht
theorem pad4_len (T:List GFound):(pad4 T).length≤T.length+4:=by rw [pad4,List.length_append,List.length_replicate];omega
theorem readO_ok {T:List GFound} {n:Nat} (h:∀ f∈T,f.text.size≤n) (hn:n < 4611686018427387904) (hl:T.length < 549755813888):okO (gReadO T):=by
 have hp:=pad4_mem h
 have hpl:=pad4_len T
 have hg:∀ i,((pad4 T).getD i noF).text.size≤n:=fun i=>by
  rw [List.getD_eq_getElem?_getD]
  cases e:(pad4 T)[i]? with
  | none=>exact Nat.zero_le _
  | some f=>exact hp f (List.mem_of_getElem? e)
 have ht:∀ k,okTags (tagsR ((pad4 T).drop k)):=fun k=>by
  obtain ⟨a,b⟩:=tagsR_mem ((pad4 T).drop k) n fun f hf=>hp f (List.mem_of_mem_drop hf)
  rw [List.length_drop] at a
  exact⟨by omega,fun t htt=>by have:=b t htt;omega⟩
 rw [gReadO]
 split
 ·exact⟨Nat.lt_of_le_of_lt (hg 1) hn,ht _,by show 0 < _;omega,fun s hs=>by cases hs⟩
 split
 ·exact⟨by decide,⟨by decide,fun t h=>by cases h⟩,by decide,fun s hs=>by cases hs⟩
 refine⟨Nat.lt_of_le_of_lt (hg 1) hn,ht _,?_,fun s hs=>?_⟩
 ·show (List.map _ _).length < _
  rw [List.length_map,List.length_drop,List.length_take]
  omega
 obtain ⟨f,hf,rfl⟩:=List.mem_map.1 hs
 have:=hp f (List.mem_of_mem_take (List.mem_of_mem_drop hf))
 omega
theorem split_word (c:UInt8):∀ {l w:List UInt8},w∈splitC c l→w.length≤l.length
 | [],w,h=>by
  rw [splitC,List.mem_singleton] at h
  rw [h]
  exact Nat.le_refl _
 | b::l,w,h=>by
  have hp:=splitC_pos c l
  rw [splitC] at h
  cases e:splitC c l with
  | nil=>rw [e] at hp;exact absurd hp (Nat.lt_irrefl 0)
  | cons x r =>
   have ih:∀ y∈x::r,y.length≤l.length:=fun y hy=>split_word c (by rw [e];exact hy)
   rw [e] at h
   rw [List.length_cons]
   split at h
   ·rcases List.mem_cons.1 h with rfl|h
    ·exact Nat.zero_le _
    exact Nat.le_succ_of_le (ih w h)
   rcases List.mem_cons.1 h with rfl|h
   ·exact Nat.succ_le_succ (ih _ List.mem_cons_self)
   exact Nat.le_succ_of_le (ih w (List.mem_cons_of_mem _ h))
theorem parseO_ok {s:ByteArray} (hs:s.size < 1099511627776):okO (gReadO (gLex s).1):=readO_ok (fun f hf=>lex_sizeY s f hf) (by omega) (lex_toks_len s hs)
end
section
theorem encStr_rlY (l:List ByteArray):∀ r∈l.map encStr,r.length=1:=fun r hr=>by
 obtain ⟨s,_,rfl⟩:=List.mem_map.1 hr
 rfl
theorem and_t {p q:Prop} [Decidable p] [Decidable q] (h:(decide p&&decide q)=true):p∧q:=by simpa using h
theorem and_f {p q:Prop} [Decidable p] [Decidable q] (h:(decide p&&decide q)=false):¬ (p∧q):=by
 intro h2
 simp [h2] at h
/-! ### change.read -/
end
section
def eRows (l:List GEdit):List (List AV):=l.map fun e=>(encEdit e).map AV.pv
theorem eRows_len (l:List GEdit):(eRows l).length=l.length:=List.length_map _
theorem eRows_app (l:List GEdit) (e:GEdit):eRows l++[(encEdit e).map AV.pv]=eRows (l++[e]):=by rw [eRows,eRows,List.map_append];rfl
theorem eRows_clo (H:Heap) (l:List GEdit):∀ r∈eRows l,∀ a∈r,Clo H a:=by
 intro r hr a ha
 obtain ⟨d,_,rfl⟩:=List.mem_map.1 hr
 obtain ⟨p,_,rfl⟩:=List.mem_map.1 ha
 simp
theorem lB_clo (H:Heap) (s:ByteArray):∀ r∈(lB s).rows,∀ a∈r,Clo H a:=by
 intro r hr a ha
 simp only [lB,bx,List.mem_singleton] at hr
 subst hr
 rw [List.mem_singleton] at ha
 subst ha
 simp
/-- What change.Parse keeps of its frame. -/
def pcE (t:ByteArray):Env:=[(0,sv t),(4,.ref 4 0 0 0)]
def lnE (t:ByteArray) (k:Nat):GEdit:=gReadE (trimB (lineA (restA t k))).data.toList
def lnsE (t:ByteArray) (k:Nat):List GEdit:=(List.range k).map (lnE t)
theorem lnsE_next (t:ByteArray) (k:Nat):lnsE t (k+1)=lnsE t k++[lnE t k]:=by rw [lnsE,List.range_succ,List.map_append];rfl
theorem lnsE_len (t:ByteArray) (k:Nat):(lnsE t k).length=k:=by rw [lnsE,List.length_map,List.length_range]
theorem lnsE_all (t:ByteArray):lnsE t (linesS t).length=(linesC t.data.toList).map fun s=>gReadE (Lib.trimSuffix s [10]):=by
 refine List.ext_getElem? fun k=>?_
 rw [lnsE,List.getElem?_map,List.getElem?_map]
 by_cases h:k < (linesS t).length
 ·have h1:=(line_at h).1
  rw [linesS,List.getElem?_map] at h1
  cases e:(linesC t.data.toList)[k]? with
  | none=>rw [e] at h1;cases h1
  | some w =>
   rw [e] at h1
   have h1:ofY w=lineA (restA t k):=Option.some.inj h1
   rw [List.getElem?_range h,Option.map_some,Option.map_some,lnE,← h1,trimB_eq,ofL_list]
   congr 3
 have h2:(linesC t.data.toList)[k]?=none:=by
  rw [linesS,List.length_map] at h
  exact List.getElem?_eq_none (by omega)
 rw [h2,List.getElem?_eq_none (by simpa using h)]
 rfl
def pcK (t s:ByteArray) (k:Nat):Heap:=[(933,lB s),(905,⟨k,15,51,eRows (lnsE t k)⟩),(4,bx 1 22 [.osl 905 k 0 k])]
theorem get_shY {a b c:Ob} {K:Heap} (j:Nat):Heap.get ((904,b)::(933,a)::K) j=Heap.get ((933,a)::(904,b)::(933,c)::K) j:=by
 by_cases h1:j=904
 ·subst h1;rfl
 by_cases h2:j=933
 ·subst h2;rfl
 rw [get_cons_other _ _ h1,get_cons_other _ _ h2,get_cons_other _ _ h2,get_cons_other _ _ h1,get_cons_other _ _ h2]
theorem trimB_size (s:ByteArray):(trimB s).size≤s.size:=by
 rw [trimB]
 split
 ·rw [← size_list,exL,List.length_take,List.length_drop,size_list];omega
 exact Nat.le_refl _
theorem lineA_size (s:ByteArray):(lineA s).size≤s.size:=by
 rw [lineA]
 split
 ·exact Nat.le_refl _
 rw [← size_list,exL,List.length_take,List.length_drop,size_list];omega
theorem lineA_small {t:ByteArray} {k:Nat} (h:k≤(linesS t).length):(trimB (lineA (restA t k))).size≤t.size:=Nat.le_trans (trimB_size _) (Nat.le_trans (lineA_size _) (rest_drop t k h).2)
theorem ofL_small {w:List UInt8} {n:Nat} (h:w.length≤n) (hn:n < 4611686018427387904):(ofL w).size < 4611686018427387904:=by rw [ofL_size];omega
theorem gParseO_ok {s:ByteArray} (hs:s.size < 1099511627776):okO (gParseO s).1:=by
 rw [gParseO]
 split
 ·exact⟨by decide,⟨by decide,fun t h=>by cases h⟩,by decide,fun s hs=>by cases hs⟩
 split
 ·exact parseO_ok hs
 exact⟨by decide,⟨by decide,fun t h=>by cases h⟩,by decide,fun s hs=>by cases hs⟩
theorem zObj_ok:okO zObj:=⟨by decide,⟨by decide,fun t h=>by cases h⟩,by decide,fun s hs=>by cases hs⟩
theorem nilr_ok:([]:List ByteArray).length < 4611686018427387904∧∀ s∈([]:List ByteArray),s.size < 4611686018427387904:=⟨by decide,fun s hs=>by cases hs⟩
theorem sNil_small:sNil.size < 4611686018427387904:=by decide
theorem gReadE_ok {s:List UInt8} (hs:s.length≤20000):okE (gReadE s):=by
 have hw:∀ i,(ofL ((splitC 32 s).getD i [])).size < 4611686018427387904:=fun i=>by
  refine ofL_small (n:=20000) ?_ (by decide)
  rw [List.getD_eq_getElem?_getD]
  cases e:(splitC 32 s)[i]? with
  | none=>exact Nat.zero_le _
  | some w=>exact Nat.le_trans (split_word 32 (List.mem_of_getElem? e)) hs
 have hz:∀ (op x y:Int),okE ⟨op,sNil,sNil,sNil,x,y,sNil,sNil,[],zObj⟩:=fun op x y=>⟨⟨sNil_small,sNil_small,sNil_small,sNil_small⟩,nilr_ok,zObj_ok⟩
 rw [gReadE,readW]
 split
 ·exact⟨⟨sNil_small,sNil_small,sNil_small,sNil_small⟩,nilr_ok,gParseO_ok (by rw [ofL_size,List.length_drop];omega)⟩
 split
 ·exact⟨⟨hw 1,sNil_small,sNil_small,sNil_small⟩,nilr_ok,zObj_ok⟩
 split
 ·split
  ·exact⟨⟨hw 1,sNil_small,sNil_small,hw 2⟩,nilr_ok,zObj_ok⟩
  exact hz _ _ _
 split
 ·refine⟨⟨hw 1,sNil_small,sNil_small,sNil_small⟩,⟨?_,fun x hx=>?_⟩,zObj_ok⟩
  ·show (List.map _ _).length < _
   have:=List.count_le_length (l:=s) (a:=32)
   rw [List.length_map,List.length_drop,splitC_len]
   omega
  obtain ⟨w,hw2,rfl⟩:=List.mem_map.1 hx
  exact ofL_small (n:=20000) (Nat.le_trans (split_word 32 (List.mem_of_mem_drop hw2)) hs) (by decide)
 split
 ·exact⟨⟨hw 1,sNil_small,sNil_small,sNil_small⟩,nilr_ok,zObj_ok⟩
 split
 ·exact⟨⟨hw 1,hw 3,hw 2,sNil_small⟩,nilr_ok,zObj_ok⟩
 split
 ·exact⟨⟨hw 1,hw 2,sNil_small,sNil_small⟩,nilr_ok,zObj_ok⟩
 exact hz _ _ _
theorem lines_len:∀ {t:ByteArray} {n:Nat},t.size≤n→(linesS t).length≤n
 | t,0,h=>by rw [lines_nil (by omega)];exact Nat.le_refl _
 | t,n+1,h=>by
  by_cases hp:0 < t.size
  ·rw [(lines_cons hp).1,List.length_cons]
   refine Nat.succ_le_succ (lines_len (n:=n) ?_)
   rw [nextA]
   split
   ·exact Nat.zero_le _
   next h1 =>
   obtain ⟨w,r,e1,e2,e3,e4,e5,e6⟩:=ix_at h1
   rw [e3,Int.toNat_natCast,← szY,e5]
   omega
  rw [lines_nil hp];exact Nat.zero_le _
end
section
def encK (k:GObj×GObj):List PV:=encObj k.1++encObj k.2
def tEq (t x:GTag):Bool:=decide (t.key=x.key)&&decide (t.val=x.val)
theorem indexT_c (l:List GTag) (t:GTag) (H:Heap) (hl:l.length < 4611686018427387904):ACalls Tryz.prog 156 [.pv (slTags l),av (encTag t)] H (fun r H'=>r=iv (gidx (tEq t) l)∧H'=H):=by
 refine ACalls.pure ?_ (by simp) H
 have hml:(l.map encTag).length=l.length:=List.length_map _
 refine Bd Tryz.func156 rfl Tryz.ntmps156<|Sq<|Rg<|Dd (by exact opd_box (id:=3) rfl rfl rfl rfl rfl)<|Dd as'<|Zz<|Sq<|Sq<|Rg<|Dd mv'<|Dd (ll' Tryz.underlying47)<|Dd mv'<|Zz<|awp_block ?_
 refine awp_loop (σ:=Nat) (fun k=>([(0,.pv (slTags l)),(3,.ref 3 0 0 0),(7,iv ((l.map encTag).length:Int)),(8,iv (k:Int))],[(3,bx 2 117 ((encTag t).map .pv))])) (fun k=>k≤l.length∧∀ j,j < k→∀ b,l[j]?=some b→tEq t b=false) (fun k=>l.length - k) 0 ⟨by omega,by omega⟩ ?_ ?_
 ·exact E0
 rintro k ⟨hk,hno⟩
 refine Sq<|Rg<|Dd lss'<|Zz<|Sq ?_
 refine Cn (fun hc1=>?_) fun hc1=>?_
 ·have hlt:k < l.length:=by have:=of_decide_eq_true hc1;omega
  obtain ⟨o,ho⟩:=get_of_lt hlt
  have hi:=map_get (f:=encTag) ho
  refine awp_skip<|Sq<|awp_block<|Sq<|Rg<|Dd mv'<|Dd as'<|Zz<|Sq ?_
  refine awp_drawc follows ?_
  refine Cq (by exact opd_loadn_ref rfl Tryz.isAgg117 Tryz.sizeOf117 rfl rfl rfl rfl (by simp only [Zl,encTag,encObj,encStr,encEdit,encInt,encK];rfl) rfl)<|Cq mv'<|Cq mv'<|Cq (xp' so47)<|Cq (by exact opd_loadn_pad rfl Tryz.isAgg117 Tryz.sizeOf117 rfl (by omega) (by simp only [Zl,encTag,encObj,encStr,encEdit,encInt,encK];rfl) rfl)<|Cq (by exact opd_aeql rfl rfl rfl rfl rfl Tryz.eqGuardType117 (se117 _ _ _ _)) ?_
  refine dc_nil ⟨by kernel_rfl,?_⟩
  refine Cn (fun hc2=>?_) fun hc2=>?_
  ·skip
   refine Sq<|Rg<|Dd mv'<|Dd as'<|Zz<|awp_ret ?_
   refine Rt ?_
   exact⟨by rw [gidx,fidx_some hno ho hc2],rfl⟩
  skip
  refine awp_skip<|Rg<|Dd ad'<|Dd mv'<|Zz ?_
  exact⟨k+1,⟨by omega,pre_succ hno ho hc2⟩,by omega,E0⟩
 have hge:k=l.length:=by have:=of_decide_eq_false hc1;omega
 subst hge
 refine awp_exit<|Sq<|Rg<|Dd as'<|Zz<|awp_ret ?_
 refine Rt ?_
 exact⟨by rw [gidx,fidx_none hno],rfl⟩
theorem containsT_c (l:List GTag) (t:GTag) (H:Heap) (hl:l.length < 4611686018427387904):ACalls Tryz.prog 111 [.pv (slTags l),av (encTag t)] H (fun r H'=>r=bv (inT l t)∧H'=H):=by
 refine ACalls.pure ?_ (by simp) H
 refine Bd Tryz.func111 rfl Tryz.ntmps111<|Sq<|Rg<|Dd (by exact opd_box (id:=3) rfl rfl rfl rfl rfl)<|Dd as'<|Zz<|Sq<|Rg<|Dd mv'<|Dd (by exact opd_loadn_ref rfl Tryz.isAgg117 Tryz.sizeOf117 rfl rfl rfl rfl (by simp only [Zl,encTag,encObj,encStr,encEdit,encInt,encK];rfl) rfl)<|Dd (by exact opr_call rfl rfl Tryz.call156 rfl (indexT_c l t _ hl))<|Dd ge'<|Dd as'<|Zz<|awp_ret ?_
 refine Rt ?_
 exact⟨by rw [gidx_any];rfl,rfl⟩
theorem how1_c (k:GObj×GObj) (H:Heap):ACalls Tryz.prog 106 [av (encK k)] H (fun r H'=>r=.pv (slEdits (stMove k))∧H'=H):=by
 refine ACalls.pure ?_ (by simp) H
 refine Bd Tryz.func106 rfl Tryz.ntmps106<|Sq<|Rg<|Dd (by exact opd_box (id:=1) rfl rfl rfl rfl rfl)<|Dd as'<|Zz<|Sq<|Sq<|Rg<|Dd (fr' fo96_0)<|Dd (fr' fo49_2)<|Dd (by exact opd_loadn_ref rfl Tryz.isAgg45 Tryz.sizeOf45 rfl rfl rfl rfl (by simp only [Zl,encTag,encObj,encStr,encEdit,encInt,encK];rfl) rfl)<|Dd (fr' fo96_1)<|Dd (fr' fo49_2)<|Dd (by exact opd_loadn_ref rfl Tryz.isAgg45 Tryz.sizeOf45 rfl rfl rfl rfl (by simp only [Zl,encTag,encObj,encStr,encEdit,encInt,encK];rfl) rfl)<|Dd (by exact opd_aeql rfl rfl rfl rfl rfl Tryz.eqGuardType45 (se45 _ _ _ _))<|Zz ?_
 refine Cn (fun hc1=>?_) fun hc1=>?_
 ·skip
  have h:k.1.x=k.2.x∧k.1.y=k.2.y:=by have:=hc1;simpa using this
  rw [stMove,if_pos h]
  refine Sq<|Rg<|Dd as'<|Zz<|awp_ret ?_
  refine Rt ?_
  exact⟨rfl,rfl⟩
 skip
 have h:¬ (k.1.x=k.2.x∧k.1.y=k.2.y):=by have:=hc1;simpa using this
 rw [stMove,if_neg h]
 refine awp_skip<|Sq<|Rg<|Dd (fr' fo96_0)<|Dd (fr' fo49_0)<|Dd (l1' Tryz.isAgg9)<|Dd (fr' fo96_1)<|Dd (fr' fo49_2)<|Dd (by exact opd_loadn_ref rfl Tryz.isAgg45 Tryz.sizeOf45 rfl rfl rfl rfl (by simp only [Zl,encTag,encObj,encStr,encEdit,encInt,encK];rfl) rfl)<|Dd (bu' bo51)<|Dd (by exact x_buildSlice [encEdit (moveE k.1.id k.2.x k.2.y)] rfl so22 rfl rfl rfl rfl rfl (by intro r hr;rw [List.mem_singleton] at hr;subst hr;rfl))<|Dd as'<|Zz<|awp_ret ?_
 refine Rt ?_
 exact⟨rfl,rfl⟩
theorem how2_c (k:GObj×GObj) (H:Heap) (h1:k.1.refs.length < 1099511627776) (h2:k.2.refs.length < 1099511627776):ACalls Tryz.prog 107 [av (encK k)] H (fun r H'=>r=.pv (slEdits (stRefs k))∧H'=H):=by
 refine ACalls.pure ?_ (by simp) H
 refine Bd Tryz.func107 rfl Tryz.ntmps107<|Sq<|Rg<|Dd (by exact opd_box (id:=1) rfl rfl rfl rfl rfl)<|Dd as'<|Zz<|Sq<|Sq<|Rg<|Dd (fr' fo96_0)<|Dd (fr' fo49_3)<|Dd (l1' Tryz.isAgg46)<|Dd (fr' fo96_1)<|Dd (fr' fo49_3)<|Dd (l1' Tryz.isAgg46)<|Dd (by exact opr_call rfl rfl Tryz.call100 rfl (eqStrs_c k.1.refs k.2.refs _ (by omega)))<|Zz ?_
 refine Cn (fun hc1=>?_) fun hc1=>?_
 ·skip
  have h:k.1.refs=k.2.refs:=of_decide_eq_true hc1
  rw [stRefs,if_pos h]
  refine Sq<|Rg<|Dd as'<|Zz<|awp_ret ?_
  refine Rt ?_
  exact⟨rfl,rfl⟩
 skip
 have h:¬ k.1.refs=k.2.refs:=of_decide_eq_false hc1
 rw [stRefs,if_neg h]
 refine awp_skip<|Sq ?_
 refine awp_drawc follows ?_
 refine Cq (fr' fo96_0)<|Cq (fr' fo49_0)<|Cq (l1' Tryz.isAgg9)<|Cq (fr' fo96_1)<|Cq (fr' fo49_3)<|Cq (l1' Tryz.isAgg46)<|Cq (by exact opr_call rfl rfl Tryz.call108 rfl (cloneF_ByteArray k.2.refs _ h2))<|Cq (bu' bo51)<|Cq (by exact x_buildSlice [encEdit (refsE k.1.id k.2.refs)] rfl so22 rfl rfl rfl rfl rfl (by intro r hr;rw [List.mem_singleton] at hr;subst hr;rfl))<|Cq as' ?_
 refine dc_nil ⟨by kernel_rfl,?_⟩
 refine awp_ret ?_
 refine Rt ?_
 exact⟨rfl,rfl⟩
def tgDel (k:GObj×GObj) (i:Nat):List GEdit:=((k.1.tags.take i).filter fun t=>decide (gGet k.2.tags t.key=none)).map fun t=>tagE k.1.id t.key sNil
def tgNew (k:GObj×GObj) (i:Nat):List GEdit:=((k.2.tags.take i).filter fun t=>!inT k.1.tags t).map fun t=>tagE k.1.id t.key t.val
theorem tgDel_yes {k:GObj×GObj} {i:Nat} {t:GTag} (h:k.1.tags[i]?=some t) (hp:gGet k.2.tags t.key=none):tgDel k (i+1)=tgDel k i++[tagE k.1.id t.key sNil]:=by
 rw [tgDel,List.take_add_one,h,Option.toList_some,List.filter_append,List.filter_cons_of_pos (by simpa using hp),List.map_append];rfl
theorem tgDel_no {k:GObj×GObj} {i:Nat} {t:GTag} (h:k.1.tags[i]?=some t) (hp:¬ gGet k.2.tags t.key=none):tgDel k (i+1)=tgDel k i:=by
 rw [tgDel,List.take_add_one,h,Option.toList_some,List.filter_append,List.filter_cons_of_neg (by simpa using hp),List.map_append];simp [tgDel]
theorem tgNew_yes {k:GObj×GObj} {i:Nat} {t:GTag} (h:k.2.tags[i]?=some t) (hp:inT k.1.tags t=false):tgNew k (i+1)=tgNew k i++[tagE k.1.id t.key t.val]:=by
 rw [tgNew,List.take_add_one,h,Option.toList_some,List.filter_append,List.filter_cons_of_pos (by rw [hp];rfl),List.map_append];rfl
theorem tgNew_no {k:GObj×GObj} {i:Nat} {t:GTag} (h:k.2.tags[i]?=some t) (hp:inT k.1.tags t=true):tgNew k (i+1)=tgNew k i:=by
 rw [tgNew,List.take_add_one,h,Option.toList_some,List.filter_append,List.filter_cons_of_neg (by rw [hp];decide),List.map_append];simp [tgNew]
theorem tgDel_len (k:GObj×GObj) (i:Nat):(tgDel k i).length≤i:=by
 rw [tgDel,List.length_map]
 exact Nat.le_trans (List.length_filter_le _ _) (by rw [List.length_take];omega)
theorem tgNew_len (k:GObj×GObj) (i:Nat):(tgNew k i).length≤i:=by
 rw [tgNew,List.length_map]
 exact Nat.le_trans (List.length_filter_le _ _) (by rw [List.length_take];omega)
theorem tg_all (k:GObj×GObj):tgDel k k.1.tags.length++tgNew k k.2.tags.length=stTags k:=by
 rw [tgDel,tgNew,List.take_length,List.take_length,stTags,tagL,List.map_append,List.map_map,List.map_map]
 rfl
def eOb (L:List GEdit):Ob:=⟨L.length,15,51,eRows L⟩
theorem snocE_len (L:List GEdit) (e:GEdit):(L++[e]).length=L.length+1:=by simp
theorem eOb_snoc (L:List GEdit) (e:GEdit):eOb (L++[e])=⟨L.length+1,15,51,eRows (L++[e])⟩:=by rw [eOb,List.length_append];rfl
theorem how3_c (k:GObj×GObj) (H:Heap) (h1:k.1.tags.length < 68719476736) (h2:k.2.tags.length < 68719476736):ACalls Tryz.prog 109 [av (encK k)] H (fun r H'=>r=.pv (slEdits (stTags k))∧H'=H):=by
 refine ACalls.pure ?_ (by simp) H
 have hm1:(k.1.tags.map encTag).length=k.1.tags.length:=List.length_map _
 have hm2:(k.2.tags.map encTag).length=k.2.tags.length:=List.length_map _
 obtain ⟨kc,hkc⟩:∃ kc,kc=(1,bx 12 96 ((encK k).map .pv)):=⟨_,rfl⟩
 refine Bd Tryz.func109 rfl Tryz.ntmps109<|Sq<|Rg<|Dd (by exact opd_box (id:=1) rfl rfl rfl rfl rfl)<|Dd as'<|Zz<|Sq<|Rg<|Dd (by exact opd_assign_own (id:=905) (sz:=15) (ty:=51) rfl rfl rfl)<|Zz<|Sq<|Sq<|Rg<|Dd (fr' fo96_0)<|Dd (fr' fo49_4)<|Dd (l1' Tryz.isAgg47)<|Dd (ll' Tryz.underlying47)<|Dd mv'<|Zz<|awp_block ?_
 refine awp_loop (σ:=Nat) (fun i=>([(1,.ref 1 0 0 0),(3,.osl 905 (tgDel k i).length 0 (tgDel k i).length),(12,.pv (slTags k.1.tags)),(13,iv ((k.1.tags.map encTag).length:Int)),(14,iv (i:Int))],[(905,eOb (tgDel k i)),(1,bx 12 96 ((encK k).map .pv))])) (fun i=>i≤k.1.tags.length) (fun i=>k.1.tags.length - i) 0 (Nat.zero_le _) ?_ ?_
 ·exact(Ent.wk (Ea<|Ea<|Eb<|Eb<|Eb<|trivial) (Hc (eRows_clo _ _)<|Hb<|trivial) trivial)
 rintro i hi
 have hdl:=tgDel_len k i
 refine Sq<|Rg<|Dd lss'<|Zz<|Sq ?_
 refine Cn (fun hc1=>?_) fun hc1=>?_
 ·skip
  have hlt:i < k.1.tags.length:=by have:=of_decide_eq_true hc1;omega
  obtain ⟨t,ht⟩:=get_of_lt hlt
  have hit:=map_get (f:=encTag) ht
  refine awp_skip<|Sq<|awp_block<|Sq<|Rg<|Dd (xp' so47)<|Dd (by exact opd_loadn_pad rfl Tryz.isAgg117 Tryz.sizeOf117 rfl (by omega) (by simp only [Zl,encTag,encObj,encStr,encEdit,encInt,encK];rfl) rfl)<|Dd (by exact x_alloc (id:=5) rfl zo117 rfl rfl)<|Uu (sa' Tryz.sizeOf117)<|Zz<|Sq<|Rg<|Dd (fr' fo96_1)<|Dd (fr' fo49_4)<|Dd (l1' Tryz.isAgg47)<|Dd (fr' fo117_0)<|Dd (l1' Tryz.isAgg9)<|Dd (by exact opr_call rfl rfl Tryz.call110 rfl (tagGet_c k.2.tags t.key _ (by omega)))<|Dd mv'<|Dd ex'<|Dd ex'<|Dd as'<|Dd as'<|Zz<|Sq<|Rg<|Dd mv'<|Dd no'<|Zz ?_
  refine Cn (fun hc2=>?_) fun hc2=>?_
  ·skip
   have hn:gGet k.2.tags t.key=none:=by have:=hc2;simpa using this
   refine Rg<|Dd mv'<|Dd (fr' fo96_0)<|Dd (fr' fo49_0)<|Dd (l1' Tryz.isAgg9)<|Dd (fr' fo117_0)<|Dd (l1' Tryz.isAgg9)<|Dd (bu' bo51)<|Dd (by exact x_buildSlice [encEdit (tagE k.1.id t.key sNil)] rfl so22 rfl rfl rfl rfl rfl (by intro r hr;rw [List.mem_singleton] at hr;subst hr;rfl))<|Dd (by exact x_append (ps:=[encEdit (tagE k.1.id t.key sNil)]) rfl so22 ei51 rfl rfl rfl rfl rfl (eRows_len _) rfl (by intro r hr;rw [List.mem_singleton] at hr;subst hr;rfl) (m:=1) rfl (by omega) rfl (eRows_app (tgDel k i) (tagE k.1.id t.key sNil)))<|Dd as'<|Zz<|Rg<|Dd ad'<|Dd mv'<|Zz ?_
   refine⟨i+1,by omega,by omega,?_⟩
   rw [tgDel_yes ht hn,List.length_append,eOb_snoc]
   exact(Ent.wk (Ea<|Ea<|Eb<|Eb<|Eb<|trivial) (Hc (eRows_clo _ _)<|Hb<|trivial) trivial)
  skip
  have hn:¬ gGet k.2.tags t.key=none:=by have:=hc2;cases hg:gGet k.2.tags t.key<;>simp_all
  refine awp_skip<|Rg<|Dd ad'<|Dd mv'<|Zz ?_
  refine⟨i+1,by omega,by omega,?_⟩
  rw [tgDel_no ht hn]
  exact(Ent.wk (Ea<|Ea<|Eb<|Eb<|Eb<|trivial) (Hc (eRows_clo _ _)<|Hb<|trivial) trivial)
 skip
 have hge:i=k.1.tags.length:=by have:=of_decide_eq_false hc1;omega
 subst hge
 obtain ⟨A,hA⟩:∃ A,A=tgDel k k.1.tags.length:=⟨_,rfl⟩
 have hall:=tg_all k
 rw [← hA] at hdl hall ⊢
 refine awp_exit<|Sq<|Sq<|Rg<|Dd (fr' fo96_1)<|Dd (fr' fo49_4)<|Dd (l1' Tryz.isAgg47)<|Dd (ll' Tryz.underlying47)<|Dd mv'<|Zz<|awp_block ?_
 refine awp_loop (σ:=Nat) (fun i=>([(1,.ref 1 0 0 0),(3,.osl 905 (A++tgNew k i).length 0 (A++tgNew k i).length),(41,.pv (slTags k.2.tags)),(42,iv ((k.2.tags.map encTag).length:Int)),(43,iv (i:Int))],[(905,eOb (A++tgNew k i)),(1,bx 12 96 ((encK k).map .pv))])) (fun i=>i≤k.2.tags.length) (fun i=>k.2.tags.length - i) 0 (Nat.zero_le _) ?_ ?_
 ·show Ent _ _ _ [(1,_),(3,.osl 905 (A++[]).length 0 (A++[]).length),(41,_),(42,_),(43,_)] [(905,eOb (A++[])),(1,_)]
  rw [List.append_nil]
  exact(Ent.wk (Ea<|Ea<|Eb<|Eb<|Eb<|trivial) (Hc (eRows_clo _ _)<|Hb<|trivial) trivial)
 rintro i hi
 have hnl:=tgNew_len k i
 have hal:(A++tgNew k i).length≤137438953472:=by rw [List.length_append];omega
 refine Sq<|Rg<|Dd lss'<|Zz<|Sq ?_
 refine Cn (fun hc3=>?_) fun hc3=>?_
 ·skip
  have hlt:i < k.2.tags.length:=by have:=of_decide_eq_true hc3;omega
  obtain ⟨t,ht⟩:=get_of_lt hlt
  have hit:=map_get (f:=encTag) ht
  refine awp_skip<|Sq<|awp_block<|Sq<|Rg<|Dd (xp' so47)<|Dd (by exact opd_loadn_pad rfl Tryz.isAgg117 Tryz.sizeOf117 rfl (by omega) (by simp only [Zl,encTag,encObj,encStr,encEdit,encInt,encK];rfl) rfl)<|Dd (by exact x_alloc (id:=9) rfl zo117 rfl rfl)<|Uu (sa' Tryz.sizeOf117)<|Zz<|Sq<|Rg<|Dd (fr' fo96_0)<|Dd (fr' fo49_4)<|Dd (l1' Tryz.isAgg47)<|Dd (by exact opd_loadn_ref rfl Tryz.isAgg117 Tryz.sizeOf117 rfl rfl rfl rfl (by simp only [Zl,encTag,encObj,encStr,encEdit,encInt,encK];rfl) rfl)<|Dd (by exact opr_call rfl rfl Tryz.call111 rfl (containsT_c k.1.tags t _ (by omega)))<|Dd no'<|Zz ?_
  refine Cn (fun hc4=>?_) fun hc4=>?_
  ·skip
   have hn:inT k.1.tags t=false:=by have:=hc4;simpa using this
   refine Rg<|Dd mv'<|Dd (fr' fo96_0)<|Dd (fr' fo49_0)<|Dd (l1' Tryz.isAgg9)<|Dd (fr' fo117_0)<|Dd (l1' Tryz.isAgg9)<|Dd (fr' fo117_1)<|Dd (l1' Tryz.isAgg9)<|Dd (bu' bo51)<|Dd (by exact x_buildSlice [encEdit (tagE k.1.id t.key t.val)] rfl so22 rfl rfl rfl rfl rfl (by intro r hr;rw [List.mem_singleton] at hr;subst hr;rfl))<|Dd (by exact x_append (ps:=[encEdit (tagE k.1.id t.key t.val)]) rfl so22 ei51 rfl rfl rfl rfl rfl (eRows_len _) rfl (by intro r hr;rw [List.mem_singleton] at hr;subst hr;rfl) (m:=1) rfl (by omega) rfl (eRows_app (A++tgNew k i) (tagE k.1.id t.key t.val)))<|Dd as'<|Zz<|Rg<|Dd ad'<|Dd mv'<|Zz ?_
   refine⟨i+1,by omega,by omega,?_⟩
   rw [tgNew_yes ht hn,← List.append_assoc,snocE_len,eOb_snoc]
   exact(Ent.wk (Ea<|Ea<|Eb<|Eb<|Eb<|trivial) (Hc (eRows_clo _ _)<|Hb<|trivial) trivial)
  skip
  have hn:inT k.1.tags t=true:=by have:=hc4;simpa using this
  refine awp_skip<|Rg<|Dd ad'<|Dd mv'<|Zz ?_
  refine⟨i+1,by omega,by omega,?_⟩
  rw [tgNew_no ht hn]
  exact(Ent.wk (Ea<|Ea<|Eb<|Eb<|Eb<|trivial) (Hc (eRows_clo _ _)<|Hb<|trivial) trivial)
 skip
 have hge:i=k.2.tags.length:=by have:=of_decide_eq_false hc3;omega
 subst hge
 rw [hall]
 refine awp_exit<|Sq ?_
 refine AWp.ent (Ent.fz (id:=905) (E':=[(3,.pv (slEdits (stTags k)))]) (H':=[]) ((stTags k).map encEdit) rfl (rows_ofY encEdit _)
  (by intro q hq;rw [List.mem_singleton] at hq;subst hq;exact⟨_,rfl,.osl (by rw [Nat.zero_add,List.drop_zero,List.take_of_length_le (by rw [List.length_map];exact Nat.le_refl _)])⟩) rfl trivial trivial) ?_
 refine Rg<|Dd mv'<|Dd as'<|Zz<|awp_ret ?_
 refine aret1 (H':=[]) (.inr rfl) rfl (rval_tmp rfl) Fin.refl ?_
 exact⟨rfl,rfl⟩
end
section
def btE:Env:=[(2,.ref 2 0 0 0),(3,.ref 3 0 0 0),(6,.ref 6 0 0 0),(7,.ref 7 0 0 0),(8,.ref 8 0 0 0),(9,.ref 9 0 0 0)]
theorem OpD.val {P:Program} {N:Nat} {o:Oper} {E:Env} {H H':Heap} {b b':Bool} (h:OpD P N o E H (.pv (.bool b)) H') (e:b=b'):OpD P N o E H (.pv (.bool b')) H':=e▸h
def kRows (l:List (GObj×GObj)):List (List AV):=l.map fun k=>(encK k).map AV.pv
theorem kRows_clo (H:Heap) (l:List (GObj×GObj)):∀ r∈kRows l,∀ a∈r,Clo H a:=by
 intro r hr a ha
 obtain ⟨d,_,rfl⟩:=List.mem_map.1 hr
 obtain ⟨p,_,rfl⟩:=List.mem_map.1 ha
 simp
theorem kRows_len (l:List (GObj×GObj)):(kRows l).length=l.length:=List.length_map _
theorem kRows_app (l:List (GObj×GObj)) (k:GObj×GObj):kRows l++[(encK k).map AV.pv]=kRows (l++[k]):=by rw [kRows,kRows,List.map_append];rfl
theorem closedC_c (m:List GObj) (H:Heap) (hm:okM m):ACalls Tryz.prog 51 [.agg [.pv (slObjs m)]] H (fun r H'=>r=bv (closedB m)∧H'=H):=by
 refine ACalls.pure ?_ (by simp) H
 refine Bd Tryz.func51 rfl Tryz.ntmps51<|Sq<|Rg<|Dd (by exact opd_box (id:=1) rfl rfl rfl rfl rfl)<|Dd as'<|Zz<|Sq<|Rg<|Dd (by exact opd_loadn_ref rfl Tryz.isAgg38 Tryz.sizeOf38 rfl rfl rfl rfl (by simp only [Zl,encTag,encObj,encStr,encEdit,encInt,encK];rfl) rfl)<|Dd (by exact opr_call rfl rfl Tryz.call25 rfl (allNil_c m _ hm))<|Dd mv'<|Dd ex'<|Dd ex'<|Dd ex'<|Dd (by exact x_alloc (id:=3) rfl zo38 rfl rfl)<|Uu (sa' Tryz.sizeOf38)<|Dd as'<|Dd as'<|Zz<|Sq<|Rg<|Dd mv'<|Dd eql'<|Dd as'<|Zz<|awp_ret ?_
 refine Rt ?_
 refine⟨?_,rfl⟩
 cases closedB m<;>rfl
theorem gidx_neg (m:List GObj) (s:ByteArray):decide (gidx (idIs s) m < 0)=(look m s).isNone:=by
 rcases gidx_cases (idIs s) m with⟨e1,e2⟩|⟨q,p,e1,e2,e3⟩
 ·rw [e1,show look m s=none from e2];rfl
 rw [e1,show look m s=some p from e3]
 exact decide_eq_false (by omega)
def btH (a b:List GObj) (X:List ByteArray) (d:Bool) (m:List GObj) (F P L:List GEdit):Heap:=[(951,eOb F),(952,eOb P),(953,eOb L),(7,bx 1 22 [.osl 951 F.length 0 F.length]),(8,bx 1 22 [.osl 952 P.length 0 P.length]),(9,bx 1 22 [.osl 953 L.length 0 L.length]),(10,sob X),(6,bx 1 89 [.mp 10 0]),(932,dB d),(931,mB m),(3,mB b),(2,mB a)]
theorem btH_F (a b:List GObj) (X:List ByteArray) (d:Bool) (m:List GObj) (F P L:List GEdit) (e:GEdit):btH a b X d m (F++[e]) P L=[(951,⟨F.length+1,15,51,eRows (F++[e])⟩),(952,eOb P),(953,eOb L),(7,bx 1 22 [.osl 951 (F.length+1) 0 (F.length+1)]),(8,bx 1 22 [.osl 952 P.length 0 P.length]),(9,bx 1 22 [.osl 953 L.length 0 L.length]),(10,sob X),(6,bx 1 89 [.mp 10 0]),(932,dB d),(931,mB m),(3,mB b),(2,mB a)]:=by rw [btH,eOb_snoc,snocE_len]
theorem btH_P (a b:List GObj) (X:List ByteArray) (d:Bool) (m:List GObj) (F P L:List GEdit) (e:GEdit):btH a b X d m F (P++[e]) L=[(951,eOb F),(952,⟨P.length+1,15,51,eRows (P++[e])⟩),(953,eOb L),(7,bx 1 22 [.osl 951 F.length 0 F.length]),(8,bx 1 22 [.osl 952 (P.length+1) 0 (P.length+1)]),(9,bx 1 22 [.osl 953 L.length 0 L.length]),(10,sob X),(6,bx 1 89 [.mp 10 0]),(932,dB d),(931,mB m),(3,mB b),(2,mB a)]:=by rw [btH,eOb_snoc,snocE_len]
theorem btH_L (a b:List GObj) (X:List ByteArray) (d:Bool) (m:List GObj) (F P L:List GEdit) (e:GEdit):btH a b X d m F P (L++[e])=[(951,eOb F),(952,eOb P),(953,⟨L.length+1,15,51,eRows (L++[e])⟩),(7,bx 1 22 [.osl 951 F.length 0 F.length]),(8,bx 1 22 [.osl 952 P.length 0 P.length]),(9,bx 1 22 [.osl 953 (L.length+1) 0 (L.length+1)]),(10,sob X),(6,bx 1 89 [.mp 10 0]),(932,dB d),(931,mB m),(3,mB b),(2,mB a)]:=by rw [btH,eOb_snoc,snocE_len]
def btF (X:List ByteArray) (L:List GObj):List GEdit:=(L.filter fun o=>inB X o.id).map fun o=>dropE o.id
def btN (X:List ByteArray) (b L:List GObj):List GEdit:=(L.filter fun o=>!inB X o.id&&(look b o.id).isNone).map fun o=>dropE o.id
def btP (X:List ByteArray) (a L:List GObj):List GEdit:=(L.filter fun o=>inB X o.id||(look a o.id).isNone).map putE
theorem fm_snoc {α:Type} {L:List GObj} {p:GObj→Bool} {f:GObj→α} {k:Nat} {o:GObj} (h:L[k]?=some o):((L.take (k+1)).filter p).map f=((L.take k).filter p).map f++(if p o then[f o] else[]):=by
 rw [List.take_add_one,h,Option.toList_some,List.filter_append,List.map_append]
 congr 1
 cases hp:p o with
 | true=>rw [List.filter_cons_of_pos hp];rfl
 | false=>rw [List.filter_cons_of_neg (by rw [hp];decide)];rfl
theorem fm_len {α:Type} (L:List GObj) (p:GObj→Bool) (f:GObj→α):((L.filter p).map f).length≤L.length:=by
 rw [List.length_map];exact List.length_filter_le _ _
theorem layL_len (m:List GObj) (d:Bool):(layL m d).length≤3*m.length:=by
 have h:∀ p:GObj→Bool,(m.filter p).length≤m.length:=fun p=>List.length_filter_le _ _
 cases d
 ·have:=h (fun o=>decide (o.kind.tdiv 2=0));have:=h (fun o=>decide (o.kind.tdiv 2=1));have:=h (fun o=>decide (o.kind.tdiv 2=2))
  simp only [layL,zs,Bool.false_eq_true,if_false,List.flatMap_cons,List.flatMap_nil,List.length_append,List.length_nil]
  omega
 have:=h (fun o=>decide (o.kind.tdiv 2=0));have:=h (fun o=>decide (o.kind.tdiv 2=1));have:=h (fun o=>decide (o.kind.tdiv 2=2))
 simp only [layL,zs,if_true,List.flatMap_cons,List.flatMap_nil,List.length_append,List.length_nil]
 omega
def fS (s:Nat):Nat:=if s=0 then 106 else if s=1 then 107 else 109
def stS (s:Nat) (k:GObj×GObj):List GEdit:=if s=0 then stMove k else if s=1 then stRefs k else stTags k
def okK (k:GObj×GObj):Prop:=(k.1.refs.length≤2000∧k.2.refs.length≤2000)∧k.1.tags.length≤60∧k.2.tags.length≤60
theorem step_c (s:Nat) (hs:s < 3) (k:GObj×GObj) (hk:okK k) (H:Heap):CallsV Tryz.prog (.pv (.fn (fS s))) [av (encK k)] H (fun r H'=>r=.pv (slEdits (stS s k))∧H'=H):=by
 obtain ⟨⟨h1,h2⟩,h3,h4⟩:=hk
 have h:s=0∨s=1∨s=2:=by omega
 rcases h with rfl|rfl|rfl
 ·exact CallsV.fn Tryz.call106 (how1_c k H)
 ·exact CallsV.fn Tryz.call107 (how2_c k H (by omega) (by omega))
 exact CallsV.fn Tryz.call109 (how3_c k H (by omega) (by omega))
theorem stS_len (s:Nat) {k:GObj×GObj} (hk:okK k):(stS s k).length≤120:=by
 rw [stS]
 split
 ·rw [stMove];split<;>simp
 split
 ·rw [stRefs];split<;>simp
 have h1:=tgDel_len k k.1.tags.length
 have h2:=tgNew_len k k.2.tags.length
 rw [← tg_all,List.length_append]
 have:=hk.2
 omega
theorem flat_len {B:List (GObj×GObj)} {f:GObj×GObj→List GEdit} {c:Nat} (h:∀ k∈B,(f k).length≤c):(B.flatMap f).length≤c*B.length:=by
 induction B with
 | nil=>simp
 | cons k B ih =>
  have h1:=h k (List.mem_cons_self ..)
  have h2:=ih fun x hx=>h x (List.mem_cons_of_mem _ hx)
  rw [List.flatMap_cons,List.length_append,List.length_cons,Nat.mul_add,Nat.mul_one]
  omega
theorem how_c (H:Heap):ACalls Tryz.prog 55 [] H (fun r H'=>r=.agg [.pv (.fn 106),.pv (.fn 107),.pv (.fn 109)]∧H'=H):=by
 refine ACalls.pure ?_ (by simp) H
 refine Bd Tryz.func55 rfl Tryz.ntmps55<|Sq<|Rg<|Dd (by exact x_alloc (id:=0) rfl zo99 rfl rfl)<|Zz<|Sq<|Rg<|Dd (bu' bo99)<|Uu (sa' Tryz.sizeOf99)<|Zz<|awp_ret ?_
 refine aret1 (H':=[]) (.inr rfl) rfl (rval_cell rfl Tryz.isAgg99 Tryz.sizeOf99 rfl rfl rfl (by simp only [Zl,encTag,encObj,encStr,encEdit,encInt,encK];rfl) rfl) (Fin.wk (r:=.agg [.pv (.fn 106),.pv (.fn 107),.pv (.fn 109)]) (.agg (fun a h=>by simp only [List.mem_cons,List.not_mem_nil,or_false] at h;rcases h with rfl|rfl|rfl<;>exact .pv _)) trivial trivial) ?_
 exact⟨rfl,rfl⟩
def bothF (X:List ByteArray) (a:List GObj) (o:GObj):Option (GObj×GObj):=match look a o.id with
 | some p=>if inB X o.id then none else some (p,o)
 | none=>none
theorem both_snoc {X:List ByteArray} {a L:List GObj} {k:Nat} {o:GObj} (h:L[k]?=some o):(L.take (k+1)).filterMap (bothF X a)=(L.take k).filterMap (bothF X a)++(bothF X a o).toList:=by
 rw [List.take_add_one,h,Option.toList_some,List.filterMap_append]
 cases hp:bothF X a o with
 | none=>simp [List.filterMap_cons,hp]
 | some x=>simp [List.filterMap_cons,hp]
theorem both_len {X:List ByteArray} {a L:List GObj}:(L.filterMap (bothF X a)).length≤L.length:=List.length_filterMap_le _ _
def b4H (a b:List GObj) (X:List ByteArray) (F P L:List GEdit) (B:List (GObj×GObj)):Heap:=[(954,⟨B.length,12,96,kRows B⟩),(951,eOb F),(952,eOb P),(953,eOb L),(7,bx 1 22 [.osl 951 F.length 0 F.length]),(8,bx 1 22 [.osl 952 P.length 0 P.length]),(9,bx 1 22 [.osl 953 L.length 0 L.length]),(10,sob X),(6,bx 1 89 [.mp 10 0]),(3,mB b),(2,mB a)]
theorem snocK_len (L:List (GObj×GObj)) (e:GObj×GObj):(L++[e]).length=L.length+1:=by simp
theorem b4H_snoc (a b:List GObj) (X:List ByteArray) (F P L:List GEdit) (B:List (GObj×GObj)) (k:GObj×GObj):b4H a b X F P L (B++[k])=[(954,⟨B.length+1,12,96,kRows (B++[k])⟩),(951,eOb F),(952,eOb P),(953,eOb L),(7,bx 1 22 [.osl 951 F.length 0 F.length]),(8,bx 1 22 [.osl 952 P.length 0 P.length]),(9,bx 1 22 [.osl 953 L.length 0 L.length]),(10,sob X),(6,bx 1 89 [.mp 10 0]),(3,mB b),(2,mB a)]:=by rw [b4H,snocK_len]
theorem rlE (l:List GEdit):∀ r∈l.map encEdit,r.length=15:=fun r hr=>by
 obtain ⟨t,_,rfl⟩:=List.mem_map.1 hr
 rfl
theorem eRows_rl (l:List GEdit):∀ r∈eRows l,r.length=15:=fun r hr=>by
 obtain ⟨t,_,rfl⟩:=List.mem_map.1 hr
 rfl
theorem eRows_two (F G:List GEdit):eRows F++((eRows G).drop 0).take G.length=eRows (F++G):=by
 rw [List.drop_zero,List.take_of_length_le (by rw [eRows_len];exact Nat.le_refl _),eRows,eRows,eRows,List.map_append]
theorem eRows_more (F G:List GEdit):eRows F++(G.map encEdit).map (·.map AV.pv)=eRows (F++G):=by
 rw [← rows_ofY,eRows,eRows,List.map_append]
def oHB (g:Nat) (L Q:List GEdit):Heap:=[(951,⟨g,15,51,eRows L⟩),(953,eOb Q),(9,bx 1 22 [.osl 953 Q.length 0 Q.length])]
def aS (B:List (GObj×GObj)) (L:List GEdit):Nat→List GEdit
 | 0=>L
 | s+1=>aS B L s++B.flatMap (stS s)
theorem aS_len {B:List (GObj×GObj)} (h:∀ k∈B,okK k) (L:List GEdit):∀ s,(aS B L s).length≤L.length+s*(120*B.length)
 | 0=>by simp [aS]
 | s+1=>by
  have h1:=aS_len h L s
  have h2:=flat_len (B:=B) (f:=stS s) (c:=120) (fun k hk=>stS_len s (h k hk))
  rw [aS,List.length_append,Nat.add_mul,Nat.one_mul]
  omega
theorem betweenF_c (a b:List GObj) (ha:okM a) (hb:okM b) (hc:(!closedB a||!closedB b)=true) (H:Heap) :
  ACalls Tryz.prog 22 [.agg [.pv (slObjs a)],.agg [.pv (slObjs b)]] H (fun r H'=>r=.tup [.pv (slEdits (gBetween a b).1),iv (gBetween a b).2]∧H'=H):=by
 refine ACalls.pure ?_ (by simp) H
 rw [gBetween,if_pos hc]
 refine Bd Tryz.func22 rfl Tryz.ntmps22<|Sq<|Rg<|Dd (by exact opd_box (id:=2) rfl rfl rfl rfl rfl)<|Dd (by exact opd_box (id:=3) rfl rfl rfl rfl rfl)<|Dd as'<|Dd as'<|Zz<|Sq<|Sq ?_
 refine awp_bool (t:=30) (n:=9) (X:=!closedB a||!closedB b) ?_ ?_
 ·all_goals refine Dd (by exact opd_loadn_ref rfl Tryz.isAgg38 Tryz.sizeOf38 rfl rfl rfl rfl (by simp only [Zl,encTag,encObj,encStr,encEdit,encInt,encK];rfl) rfl) ?_
  all_goals refine Dd (by exact opr_call rfl rfl Tryz.call51 rfl (closedC_c a _ ha)) ?_
  all_goals refine Dd no' ?_
  all_goals refine Dd mv' ?_
  all_goals refine Sp 26 (fun h26=>?_) fun h26=>?_
  all_goals try contradiction
  all_goals first|refine Fo ?_|refine On (by exact opd_loadn_ref rfl Tryz.isAgg38 Tryz.sizeOf38 rfl rfl rfl rfl (by simp only [Zl,encTag,encObj,encStr,encEdit,encInt,encK];rfl) rfl) ?_
  all_goals first|refine Fo ?_|refine On (by exact opr_call rfl rfl Tryz.call51 rfl (closedC_c b _ hb)) ?_
  all_goals first|refine Fo ?_|refine On no' ?_
  all_goals refine Dd pk' ?_
  all_goals refine al_nil ?_
  all_goals(exact⟨⟨_,rfl,by(simp only [*,Zo];done)⟩,rfl,rfl,rfl⟩)
 refine Cn (fun hc1=>?_) fun hc1=>?_
 ·skip
  refine Sq<|Rg<|Dd as'<|Dd as'<|Zz<|awp_ret ?_
  refine Ru ?_
  exact⟨rfl,rfl⟩
 skip
 rw [hc] at hc1;cases hc1
theorem betweenT_c (a b:List GObj) (ha:okM a) (hb:okM b) (hca:closedB a=true) (hcb:closedB b=true) :
  ACalls Tryz.prog 22 [.agg [.pv (slObjs a)],.agg [.pv (slObjs b)]] [] (fun r H'=>r=.tup [.pv (slEdits (gBetween a b).1),iv (gBetween a b).2]∧H'=[]):=by
 have hga:=gMap_iff.1 (closed_gMap hca)
 have hgb:=gMap_iff.1 (closed_gMap hcb)
 have hkda:∀ o∈a,1≤o.kind∧o.kind≤5:=fun o ho=>gObj_kind (hga.1 o ho)
 have hkdb:∀ o∈b,1≤o.kind∧o.kind≤5:=fun o ho=>gObj_kind (hgb.1 o ho)
 have hal:=hga.2.2
 have hbl:=hgb.2.2
 obtain ⟨X,hX⟩:∃ X,X=renewed a b:=⟨_,rfl⟩
 have hren:=renewed_c a b hca (by omega) (by omega)
 rw [← hX] at hren
 have hrenF:∀ H,H.get 10=none→ACalls Tryz.prog 52 [.agg [.pv (slObjs a)],.agg [.pv (slObjs b)]] H (fun r H'=>r=.mp 10 0∧H'=[(10,sob X)]++H):=fun H h=>ACalls.frame hren (fun id o h=>by cases h) (fun id o h=>by cases h) (by simp) (fun id h'=>.inr (by
  by_cases e:id=10
  ·subst e;exact h
  rw [get_cons_other _ _ e] at h';cases h'))
 have hGB:gBetween a b=if 200 < (betL a b).length then([],2)else(betL a b,0):=by rw [gBetween,if_neg (by rw [hca,hcb];decide)]
 rw [hGB]
 refine Bd Tryz.func22 rfl Tryz.ntmps22<|Sq<|Rg<|Dd (by exact opd_box (id:=2) rfl rfl rfl rfl rfl)<|Dd (by exact opd_box (id:=3) rfl rfl rfl rfl rfl)<|Dd as'<|Dd as'<|Zz<|Sq<|Sq ?_
 refine awp_bool (t:=30) (n:=9) (X:=!closedB a||!closedB b) ?_ ?_
 ·all_goals refine Dd (by exact opd_loadn_ref rfl Tryz.isAgg38 Tryz.sizeOf38 rfl rfl rfl rfl (by simp only [Zl,encTag,encObj,encStr,encEdit,encInt,encK];rfl) rfl) ?_
  all_goals refine Dd (by exact opr_call rfl rfl Tryz.call51 rfl (closedC_c a _ ha)) ?_
  all_goals refine Dd no' ?_
  all_goals refine Dd mv' ?_
  all_goals refine Sp 26 (fun h26=>?_) fun h26=>?_
  all_goals try contradiction
  all_goals first|refine Fo ?_|refine On (by exact opd_loadn_ref rfl Tryz.isAgg38 Tryz.sizeOf38 rfl rfl rfl rfl (by simp only [Zl,encTag,encObj,encStr,encEdit,encInt,encK];rfl) rfl) ?_
  all_goals first|refine Fo ?_|refine On (by exact opr_call rfl rfl Tryz.call51 rfl (closedC_c b _ hb)) ?_
  all_goals first|refine Fo ?_|refine On no' ?_
  all_goals refine Dd pk' ?_
  all_goals refine al_nil ?_
  all_goals(exact⟨⟨_,rfl,by first|(simp only [*,Zo];done)|(simp_all;done)⟩,rfl,rfl,rfl⟩)
 refine Cn (fun hc1=>?_) fun hc1=>?_
 ·skip
  rw [hca,hcb] at hc1;cases hc1
 skip
 refine awp_skip<|Sq<|Rg<|Dd (by exact opd_loadn_ref rfl Tryz.isAgg38 Tryz.sizeOf38 rfl rfl rfl rfl (by simp only [Zl,encTag,encObj,encStr,encEdit,encInt,encK];rfl) rfl)<|Dd (by exact opd_loadn_ref rfl Tryz.isAgg38 Tryz.sizeOf38 rfl rfl rfl rfl (by simp only [Zl,encTag,encObj,encStr,encEdit,encInt,encK];rfl) rfl)<|Dd (by exact opr_call rfl rfl Tryz.call52 rfl (hrenF _ rfl))<|Dd (by exact x_alloc (id:=6) rfl zo89 rfl rfl)<|Uu (sa' Tryz.sizeOf89)<|Zz<|Sq<|Rg<|Dd (by exact x_alloc (id:=7) rfl zoN22 rfl rfl)<|Dd (by exact x_alloc (id:=8) rfl zoN22 rfl rfl)<|Dd (by exact x_alloc (id:=9) rfl zoN22 rfl rfl)<|Zz<|Sq<|Sq ?_
 refine AWp.ent (E':=btE) (H':=[(951,⟨0,15,51,[]⟩),(7,bx 1 22 [.osl 951 0 0 0]),(8,bx 1 22 [.pv .nils]),(9,bx 1 22 [.pv .nils]),(10,sob X),(6,bx 1 89 [.mp 10 0]),(3,mB b),(2,mB a)]) (Ent.nz 951 15 51 rfl rfl ⟨⟨_,rfl,(by exact Nz.same (by(simp;rfl)))⟩,⟨_,rfl,(by exact Nz.same (by(simp;rfl)))⟩,⟨_,rfl,(by exact Nz.same (by(simp;rfl)))⟩,⟨_,rfl,(by exact Nz.same (by(simp;rfl)))⟩,⟨_,rfl,(by exact Nz.same (by(simp;rfl)))⟩,⟨_,rfl,(by exact Nz.same (by(simp;rfl)))⟩,trivial⟩ ⟨⟨_,rfl,rfl,rfl,rfl,(by exact .inr ⟨_,_,rfl,rfl,(by repeat(first|exact trivial|refine⟨(by exact Nz.own),?_⟩))⟩)⟩,⟨_,rfl,rfl,rfl,rfl,(by exact .inl ⟨rfl,(by(simp;done))⟩)⟩,⟨_,rfl,rfl,rfl,rfl,(by exact .inl ⟨rfl,(by(simp;done))⟩)⟩,⟨_,rfl,rfl,rfl,rfl,(by exact .inl ⟨rfl,(by exact sobN_clo _ _)⟩)⟩,⟨_,rfl,rfl,rfl,rfl,(by exact .inl ⟨rfl,(by(simp;rfl))⟩)⟩,⟨_,rfl,rfl,rfl,rfl,(by exact .inl ⟨rfl,(by exact mB_clo _ _)⟩)⟩,⟨_,rfl,rfl,rfl,rfl,(by exact .inl ⟨rfl,(by exact mB_clo _ _)⟩)⟩,trivial⟩ trivial) ?_
 refine AWp.ent (E':=btE) (H':=[(952,⟨0,15,51,[]⟩),(951,⟨0,15,51,[]⟩),(7,bx 1 22 [.osl 951 0 0 0]),(8,bx 1 22 [.osl 952 0 0 0]),(9,bx 1 22 [.pv .nils]),(10,sob X),(6,bx 1 89 [.mp 10 0]),(3,mB b),(2,mB a)]) (Ent.nz 952 15 51 rfl rfl ⟨⟨_,rfl,(by exact Nz.same (by(simp;rfl)))⟩,⟨_,rfl,(by exact Nz.same (by(simp;rfl)))⟩,⟨_,rfl,(by exact Nz.same (by(simp;rfl)))⟩,⟨_,rfl,(by exact Nz.same (by(simp;rfl)))⟩,⟨_,rfl,(by exact Nz.same (by(simp;rfl)))⟩,⟨_,rfl,(by exact Nz.same (by(simp;rfl)))⟩,trivial⟩ ⟨⟨_,rfl,rfl,rfl,rfl,(by exact .inl ⟨rfl,(by(simp;done))⟩)⟩,⟨_,rfl,rfl,rfl,rfl,(by exact .inl ⟨rfl,(by(simp;rfl))⟩)⟩,⟨_,rfl,rfl,rfl,rfl,(by exact .inr ⟨_,_,rfl,rfl,(by repeat(first|exact trivial|refine⟨(by exact Nz.own),?_⟩))⟩)⟩,⟨_,rfl,rfl,rfl,rfl,(by exact .inl ⟨rfl,(by(simp;done))⟩)⟩,⟨_,rfl,rfl,rfl,rfl,(by exact .inl ⟨rfl,(by exact sobN_clo _ _)⟩)⟩,⟨_,rfl,rfl,rfl,rfl,(by exact .inl ⟨rfl,(by(simp;rfl))⟩)⟩,⟨_,rfl,rfl,rfl,rfl,(by exact .inl ⟨rfl,(by exact mB_clo _ _)⟩)⟩,⟨_,rfl,rfl,rfl,rfl,(by exact .inl ⟨rfl,(by exact mB_clo _ _)⟩)⟩,trivial⟩ trivial) ?_
 refine AWp.ent (E':=btE) (H':=[(953,⟨0,15,51,[]⟩),(952,⟨0,15,51,[]⟩),(951,⟨0,15,51,[]⟩),(7,bx 1 22 [.osl 951 0 0 0]),(8,bx 1 22 [.osl 952 0 0 0]),(9,bx 1 22 [.osl 953 0 0 0]),(10,sob X),(6,bx 1 89 [.mp 10 0]),(3,mB b),(2,mB a)]) (Ent.nz 953 15 51 rfl rfl ⟨⟨_,rfl,(by exact Nz.same (by(simp;rfl)))⟩,⟨_,rfl,(by exact Nz.same (by(simp;rfl)))⟩,⟨_,rfl,(by exact Nz.same (by(simp;rfl)))⟩,⟨_,rfl,(by exact Nz.same (by(simp;rfl)))⟩,⟨_,rfl,(by exact Nz.same (by(simp;rfl)))⟩,⟨_,rfl,(by exact Nz.same (by(simp;rfl)))⟩,trivial⟩ ⟨⟨_,rfl,rfl,rfl,rfl,(by exact .inl ⟨rfl,(by(simp;done))⟩)⟩,⟨_,rfl,rfl,rfl,rfl,(by exact .inl ⟨rfl,(by(simp;done))⟩)⟩,⟨_,rfl,rfl,rfl,rfl,(by exact .inl ⟨rfl,(by(simp;rfl))⟩)⟩,⟨_,rfl,rfl,rfl,rfl,(by exact .inl ⟨rfl,(by(simp;rfl))⟩)⟩,⟨_,rfl,rfl,rfl,rfl,(by exact .inr ⟨_,_,rfl,rfl,(by repeat(first|exact trivial|refine⟨(by exact Nz.own),?_⟩))⟩)⟩,⟨_,rfl,rfl,rfl,rfl,(by exact .inl ⟨rfl,(by exact sobN_clo _ _)⟩)⟩,⟨_,rfl,rfl,rfl,rfl,(by exact .inl ⟨rfl,(by(simp;rfl))⟩)⟩,⟨_,rfl,rfl,rfl,rfl,(by exact .inl ⟨rfl,(by exact mB_clo _ _)⟩)⟩,⟨_,rfl,rfl,rfl,rfl,(by exact .inl ⟨rfl,(by exact mB_clo _ _)⟩)⟩,trivial⟩ trivial) ?_
 refine Rg<|Dd (by exact opd_loadn_ref rfl Tryz.isAgg38 Tryz.sizeOf38 rfl rfl rfl rfl (by simp only [Zl,encTag,encObj,encStr,encEdit,encInt,encK];rfl) rfl)<|Dd (by exact opr_call rfl rfl Tryz.call53 rfl (layers_c a true _ rfl rfl))<|Zz<|awp_block ?_
 refine AWp.ent (E':=[(2,.ref 2 0 0 0),(3,.ref 3 0 0 0),(6,.ref 6 0 0 0),(7,.ref 7 0 0 0),(8,.ref 8 0 0 0),(9,.ref 9 0 0 0),(35,.clo 103 [.ref 932 0 0 0,.ref 931 0 0 0])]) (H':=btH a b X true a [] [] []) (Ent.wk (Ea<|Ea<|Ea<|Ea<|Ea<|Ea<|Ec (by(simp;exact⟨rfl,rfl⟩))<|trivial) (Hc (eRows_clo _ _)<|Hc (eRows_clo _ _)<|Hc (eRows_clo _ _)<|Ha<|Ha<|Ha<|Hc (sobN_clo _ _)<|Ha<|Hc (dB_clo _ _)<|Hc (mB_clo _ _)<|Hc (mB_clo _ _)<|Hc (mB_clo _ _)<|trivial) trivial) ?_
 refine awp_range (id:=904) (p:=36) btE rfl Tryz.call103 rfl rfl (by simp [btE];exact⟨rfl,rfl,rfl,rfl,rfl,rfl⟩) ?_
 intro x hx1 hx2 hx3 hx4 hx5 hx6
 obtain ⟨L,hL⟩:∃ L,L=layL a true:=⟨_,rfl⟩
 have hLl:L.length≤3000000:=by have:=layL_len a true;rw [← hL] at this;omega
 have hround:∀ k o,L[k]?=some o→CallsV Tryz.prog (.yld 904 0) [av (encObj o)] ((904,LR x btE)::btH a b X true a (btF X (L.take k)) [] (btN X b (L.take k))) (fun r H'=>r=bv true∧H'=(904,LR x btE)::btH a b X true a (btF X (L.take (k+1))) [] (btN X b (L.take (k+1)))):=by
  intro k o ho
  have hs1:btF X (L.take (k+1))=btF X (L.take k)++(if inB X o.id then[dropE o.id] else[]):=fm_snoc ho
  have hs2:btN X b (L.take (k+1))=btN X b (L.take k)++(if !inB X o.id&&(look b o.id).isNone then[dropE o.id] else[]):=fm_snoc (p:=fun o=>!inB X o.id&&(look b o.id).isNone) ho
  obtain ⟨F,hF⟩:∃ F,F=btF X (L.take k):=⟨_,rfl⟩
  obtain ⟨Q,hQ⟩:∃ Q,Q=btN X b (L.take k):=⟨_,rfl⟩
  have hFl:F.length≤3000000:=by rw [hF];exact Nat.le_trans (fm_len _ _ _) (by rw [List.length_take];omega)
  have hQl:Q.length≤3000000:=by rw [hQ];exact Nat.le_trans (fm_len _ _ _) (by rw [List.length_take];omega)
  rw [hs1,hs2,← hF,← hQ]
  refine .inl ⟨904,0,rfl,?_⟩
  refine ycalls [(2,.ref 2 0 0 0),(3,.ref 3 0 0 0),(6,.ref 6 0 0 0),(7,.ref 7 0 0 0),(8,.ref 8 0 0 0),(9,.ref 9 0 0 0),(10,.ref 110 0 0 0)] ((110,bx 6 49 ((encObj o).map .pv))::btH a b X true a F [] Q) hx1 hx2 hx3 hx4 hx5 hx6 rfl rfl rfl ?_ ?_
  ·skip
   refine Rg<|Dd (by exact x_alloc (id:=110) rfl zo49 rfl rfl)<|Uu (sa' Tryz.sizeOf49)<|Zz ?_
   exact(Ent.wk (Ea<|Ea<|Ea<|Ea<|Ea<|Ea<|Ea<|trivial) (Hc (LR_clo (by simp [btE];exact⟨rfl,rfl,rfl,rfl,rfl,rfl⟩))<|Hb<|Hc (eRows_clo _ _)<|Hc (eRows_clo _ _)<|Hc (eRows_clo _ _)<|Ha<|Ha<|Ha<|Hc (sobN_clo _ _)<|Ha<|Hc (dB_clo _ _)<|Hc (mB_clo _ _)<|Hc (mB_clo _ _)<|Hc (mB_clo _ _)<|trivial) ⟨rfl,rfl,rfl,rfl,rfl,rfl,rfl,rfl,rfl,rfl,rfl,rfl,rfl,trivial⟩)
  skip
  refine awp_block<|Sq<|Rg<|Dd (fr' fo49_0)<|Dd (l1' Tryz.isAgg9)<|Dd (bu' bo51)<|Dd (by exact x_alloc (id:=111) rfl zo51 rfl rfl)<|Uu (sa' Tryz.sizeOf51)<|Zz<|Sq<|Rg<|Dd (l1' Tryz.isAgg89)<|Dd (fr' fo49_0)<|Dd (l1' Tryz.isAgg9)<|Dd (by exact x_lookup_set rfl Tryz.underlying89 Tryz.underlying9 rfl rfl rfl rfl rfl Tryz.zeroValue4 (.inl rfl))<|Zz ?_
  refine Cn (fun hc2=>?_) fun hc2=>?_
  ·skip
   have hi:inB X o.id=true:=hc2
   rw [if_pos hi,if_neg (by rw [hi];simp),List.append_nil]
   refine Rg<|Dd (l1' Tryz.isAgg22)<|Dd (by exact opd_loadn_ref rfl Tryz.isAgg51 Tryz.sizeOf51 rfl rfl rfl rfl (by simp only [Zl,encTag,encObj,encStr,encEdit,encInt,encK];rfl) rfl)<|Dd (by exact x_buildSlice [encEdit (dropE o.id)] rfl so22 rfl rfl rfl rfl rfl (by intro r hr;rw [List.mem_singleton] at hr;subst hr;rfl))<|Dd (by exact x_append (ps:=[encEdit (dropE o.id)]) rfl so22 ei51 rfl rfl rfl rfl rfl (eRows_len _) rfl (by intro r hr;rw [List.mem_singleton] at hr;subst hr;rfl) (m:=1) rfl (by omega) rfl (eRows_app F (dropE o.id)))<|Uu (sa' Tryz.sizeOf22)<|Zz ?_
   refine⟨btH a b X true a (F++[dropE o.id]) [] Q,?_,rfl,rfl⟩
   rw [btH_F]
   exact(Ent.wk trivial (Hc (LR_clo (by simp [btE];exact⟨rfl,rfl,rfl,rfl,rfl,rfl⟩))<|Hc (eRows_clo _ _)<|Hc (eRows_clo _ _)<|Hc (eRows_clo _ _)<|Ha<|Ha<|Ha<|Hc (sobN_clo _ _)<|Ha<|Hc (dB_clo _ _)<|Hc (mB_clo _ _)<|Hc (mB_clo _ _)<|Hc (mB_clo _ _)<|trivial) ⟨rfl,rfl,rfl,rfl,rfl,rfl,rfl,rfl,rfl,rfl,rfl,rfl,rfl,trivial⟩)
  skip
  have hi:inB X o.id=false:=hc2
  rw [if_neg (by rw [hi];decide),List.append_nil]
  refine Sq<|Rg<|Dd (by exact opd_loadn_ref rfl Tryz.isAgg38 Tryz.sizeOf38 rfl rfl rfl rfl (by simp only [Zl,encTag,encObj,encStr,encEdit,encInt,encK];rfl) rfl)<|Dd (fr' fo49_0)<|Dd (l1' Tryz.isAgg9)<|Dd (by exact opr_call rfl rfl Tryz.call54 rfl (find_c b o.id _ (by omega)))<|Dd (by exact OpD.val (by exact opd_lss rfl rfl rfl) (gidx_neg b o.id))<|Zz ?_
  refine Cn (fun hc3=>?_) fun hc3=>?_
  ·skip
   have hn:(look b o.id).isNone=true:=hc3
   rw [if_pos (by rw [hi,hn];rfl)]
   refine Rg<|Dd (l1' Tryz.isAgg22)<|Dd (by exact opd_loadn_ref rfl Tryz.isAgg51 Tryz.sizeOf51 rfl rfl rfl rfl (by simp only [Zl,encTag,encObj,encStr,encEdit,encInt,encK];rfl) rfl)<|Dd (by exact x_buildSlice [encEdit (dropE o.id)] rfl so22 rfl rfl rfl rfl rfl (by intro r hr;rw [List.mem_singleton] at hr;subst hr;rfl))<|Dd (by exact x_append (ps:=[encEdit (dropE o.id)]) rfl so22 ei51 rfl rfl rfl rfl rfl (eRows_len _) rfl (by intro r hr;rw [List.mem_singleton] at hr;subst hr;rfl) (m:=1) rfl (by omega) rfl (eRows_app Q (dropE o.id)))<|Uu (sa' Tryz.sizeOf22)<|Zz ?_
   refine⟨btH a b X true a F [] (Q++[dropE o.id]),?_,rfl,rfl⟩
   rw [btH_L]
   exact(Ent.wk trivial (Hc (LR_clo (by simp [btE];exact⟨rfl,rfl,rfl,rfl,rfl,rfl⟩))<|Hc (eRows_clo _ _)<|Hc (eRows_clo _ _)<|Hc (eRows_clo _ _)<|Ha<|Ha<|Ha<|Hc (sobN_clo _ _)<|Ha<|Hc (dB_clo _ _)<|Hc (mB_clo _ _)<|Hc (mB_clo _ _)<|Hc (mB_clo _ _)<|trivial) ⟨rfl,rfl,rfl,rfl,rfl,rfl,rfl,rfl,rfl,rfl,rfl,rfl,rfl,trivial⟩)
  skip
  have hn:(look b o.id).isNone=false:=hc3
  rw [if_neg (by rw [hn,Bool.and_false];decide),List.append_nil]
  refine awp_skip ?_
  exact⟨btH a b X true a F [] Q,(Ent.wk trivial (Hc (LR_clo (by simp [btE];exact⟨rfl,rfl,rfl,rfl,rfl,rfl⟩))<|Hc (eRows_clo _ _)<|Hc (eRows_clo _ _)<|Hc (eRows_clo _ _)<|Ha<|Ha<|Ha<|Hc (sobN_clo _ _)<|Ha<|Hc (dB_clo _ _)<|Hc (mB_clo _ _)<|Hc (mB_clo _ _)<|Hc (mB_clo _ _)<|trivial) ⟨rfl,rfl,rfl,rfl,rfl,rfl,rfl,rfl,rfl,rfl,rfl,rfl,rfl,trivial⟩),rfl,rfl⟩
 refine(layers1_c a true (.yld 904 0) (fun k=>(904,LR x btE)::btH a b X true a (btF X (L.take k)) [] (btN X b (L.take k))) (by omega) hkda (fun k=>rfl) (fun k=>rfl) (fun k=>rfl) (fun k=>(Closed.ofL ⟨(by exact LR_clo (by simp [btE];exact⟨rfl,rfl,rfl,rfl,rfl,rfl⟩)),(by exact eRows_clo _ _),(by exact eRows_clo _ _),(by exact eRows_clo _ _),(by(simp;rfl)),(by(simp;rfl)),(by(simp;rfl)),(by exact sobN_clo _ _),(by(simp;rfl)),(by exact dB_clo _ _),(by exact mB_clo _ _),(by exact mB_clo _ _),(by exact mB_clo _ _),trivial⟩)) (fun k=>by simp;rfl) (fun k o h=>hround k o (by rw [hL];exact h))).mono ?_
 rintro r H' ⟨rfl,rfl⟩
 refine⟨x,_,rfl,by rw [hx1];decide,rfl,fun z=>?_⟩
 rw [hx2]
 have hF1:btF X (L.take (layL a true).length)=(bFirst a b).map fun o=>dropE o.id:=by rw [hL,List.take_length,btF,bFirst,hX]
 have hN1:btN X b (L.take (layL a true).length)=(bLast a b).map fun o=>dropE o.id:=by rw [hL,List.take_length,btN,bLast,hX]
 rw [hF1,hN1]
 obtain ⟨F,hF⟩:∃ F,F=(bFirst a b).map fun o=>dropE o.id:=⟨_,rfl⟩
 obtain ⟨Q,hQ⟩:∃ Q,Q=(bLast a b).map fun o=>dropE o.id:=⟨_,rfl⟩
 have hFl:F.length≤3000000:=by rw [hF];exact Nat.le_trans (fm_len _ _ _) (by rw [← hL];omega)
 have hQl:Q.length≤3000000:=by rw [hQ];exact Nat.le_trans (fm_len _ _ _) (by rw [← hL];omega)
 have hbet:betL a b=F++((bPuts a b).map putE++((bBoth a b).flatMap stMove++((bBoth a b).flatMap stRefs++((bBoth a b).flatMap stTags++Q)))):=by rw [betL,hF,hQ]
 rw [← hF,← hQ]
 clear hround hx1 hx2 hx3 hx4 hx5 hx6
 refine Sq<|Sq ?_
 refine AWp.ent (E':=btE) (H':=[(951,eOb F),(952,eOb []),(953,eOb Q),(7,bx 1 22 [.osl 951 F.length 0 F.length]),(8,bx 1 22 [.osl 952 0 0 0]),(9,bx 1 22 [.osl 953 Q.length 0 Q.length]),(10,sob X),(6,bx 1 89 [.mp 10 0]),(3,mB b),(2,mB a)]) (Ent.wk (Ea<|Ea<|Ea<|Ea<|Ea<|Ea<|trivial) (Hc (eRows_clo _ _)<|Hc (eRows_clo _ _)<|Hc (eRows_clo _ _)<|Ha<|Ha<|Ha<|Hc (sobN_clo _ _)<|Ha<|Hc (mB_clo _ _)<|Hc (mB_clo _ _)<|trivial) trivial) ?_
 refine Rg<|Dd (by exact opd_loadn_ref rfl Tryz.isAgg38 Tryz.sizeOf38 rfl rfl rfl rfl (by simp only [Zl,encTag,encObj,encStr,encEdit,encInt,encK];rfl) rfl)<|Dd (by exact opr_call rfl rfl Tryz.call53 rfl (layers_c b false _ rfl rfl))<|Zz<|awp_block ?_
 refine AWp.ent (E':=[(2,.ref 2 0 0 0),(3,.ref 3 0 0 0),(6,.ref 6 0 0 0),(7,.ref 7 0 0 0),(8,.ref 8 0 0 0),(9,.ref 9 0 0 0),(58,.clo 103 [.ref 932 0 0 0,.ref 931 0 0 0])]) (H':=btH a b X false b F [] Q) (Ent.wk (Ea<|Ea<|Ea<|Ea<|Ea<|Ea<|Ec (by(simp;exact⟨rfl,rfl⟩))<|trivial) (Hc (eRows_clo _ _)<|Hc (eRows_clo _ _)<|Hc (eRows_clo _ _)<|Ha<|Ha<|Ha<|Hc (sobN_clo _ _)<|Ha<|Hc (dB_clo _ _)<|Hc (mB_clo _ _)<|Hc (mB_clo _ _)<|Hc (mB_clo _ _)<|trivial) trivial) ?_
 refine awp_range (id:=904) (p:=59) btE rfl Tryz.call103 rfl rfl (by simp [btE];exact⟨rfl,rfl,rfl,rfl,rfl,rfl⟩) ?_
 intro x hx1 hx2 hx3 hx4 hx5 hx6
 obtain ⟨M,hM⟩:∃ M,M=layL b false:=⟨_,rfl⟩
 have hMl:M.length≤3000000:=by have:=layL_len b false;rw [← hM] at this;omega
 have hround:∀ k o,M[k]?=some o→CallsV Tryz.prog (.yld 904 0) [av (encObj o)] ((904,LR x btE)::btH a b X false b F (btP X a (M.take k)) Q) (fun r H'=>r=bv true∧H'=(904,LR x btE)::btH a b X false b F (btP X a (M.take (k+1))) Q):=by
  intro k o ho
  have hs1:btP X a (M.take (k+1))=btP X a (M.take k)++(if inB X o.id||(look a o.id).isNone then[putE o] else[]):=fm_snoc (p:=fun o=>inB X o.id||(look a o.id).isNone) ho
  obtain ⟨G,hG⟩:∃ G,G=btP X a (M.take k):=⟨_,rfl⟩
  have hGl:G.length≤3000000:=by rw [hG];exact Nat.le_trans (fm_len _ _ _) (by rw [List.length_take];omega)
  rw [hs1,← hG]
  refine .inl ⟨904,0,rfl,?_⟩
  refine ycalls [(2,.ref 2 0 0 0),(3,.ref 3 0 0 0),(6,.ref 6 0 0 0),(7,.ref 7 0 0 0),(8,.ref 8 0 0 0),(9,.ref 9 0 0 0),(12,.ref 112 0 0 0)] ((112,bx 6 49 ((encObj o).map .pv))::btH a b X false b F G Q) hx1 hx2 hx3 hx4 hx5 hx6 rfl rfl rfl ?_ ?_
  ·skip
   refine Rg<|Dd (by exact x_alloc (id:=112) rfl zo49 rfl rfl)<|Uu (sa' Tryz.sizeOf49)<|Zz ?_
   exact(Ent.wk (Ea<|Ea<|Ea<|Ea<|Ea<|Ea<|Ea<|trivial) (Hc (LR_clo (by simp [btE];exact⟨rfl,rfl,rfl,rfl,rfl,rfl⟩))<|Hb<|Hc (eRows_clo _ _)<|Hc (eRows_clo _ _)<|Hc (eRows_clo _ _)<|Ha<|Ha<|Ha<|Hc (sobN_clo _ _)<|Ha<|Hc (dB_clo _ _)<|Hc (mB_clo _ _)<|Hc (mB_clo _ _)<|Hc (mB_clo _ _)<|trivial) ⟨rfl,rfl,rfl,rfl,rfl,rfl,rfl,rfl,rfl,rfl,rfl,rfl,rfl,trivial⟩)
  skip
  refine awp_block<|Sq ?_
  refine awp_bool (t:=70) (n:=12) (X:=inB X o.id||(look a o.id).isNone) ?_ ?_
  ·all_goals refine Dd (l1' Tryz.isAgg89) ?_
   all_goals refine Dd (fr' fo49_0) ?_
   all_goals refine Dd (l1' Tryz.isAgg9) ?_
   all_goals refine Dd (by exact x_lookup_set rfl Tryz.underlying89 Tryz.underlying9 rfl rfl rfl rfl rfl Tryz.zeroValue4 (.inl rfl)) ?_
   all_goals refine Dd mv' ?_
   all_goals refine Sp 64 (fun h64=>?_) fun h64=>?_
   all_goals try contradiction
   all_goals first|refine Fo ?_|refine On (by exact opd_loadn_ref rfl Tryz.isAgg38 Tryz.sizeOf38 rfl rfl rfl rfl (by simp only [Zl,encTag,encObj,encStr,encEdit,encInt,encK];rfl) rfl) ?_
   all_goals first|refine Fo ?_|refine On (fr' fo49_0) ?_
   all_goals first|refine Fo ?_|refine On (l1' Tryz.isAgg9) ?_
   all_goals first|refine Fo ?_|refine On (by exact opr_call rfl rfl Tryz.call54 rfl (find_c a o.id _ (by omega))) ?_
   all_goals first|refine Fo ?_|refine On (by exact OpD.val (by exact opd_lss rfl rfl rfl) (gidx_neg a o.id)) ?_
   all_goals refine Dd pk' ?_
   all_goals refine al_nil ?_
   all_goals(exact⟨⟨_,rfl,by(simp_all;done)⟩,rfl,rfl,rfl⟩)
  refine Cn (fun hc4=>?_) fun hc4=>?_
  ·skip
   have hi:(inB X o.id||(look a o.id).isNone)=true:=hc4
   rw [if_pos hi]
   refine Rg<|Dd (l1' Tryz.isAgg22)<|Dd (by exact opd_loadn_ref rfl Tryz.isAgg49 Tryz.sizeOf49 rfl rfl rfl rfl (by simp only [Zl,encTag,encObj,encStr,encEdit,encInt,encK];rfl) rfl)<|Dd (bu' bo51)<|Dd (by exact x_buildSlice [encEdit (putE o)] rfl so22 rfl rfl rfl rfl rfl (by intro r hr;rw [List.mem_singleton] at hr;subst hr;rfl))<|Dd (by exact x_append (ps:=[encEdit (putE o)]) rfl so22 ei51 rfl rfl rfl rfl rfl (eRows_len _) rfl (by intro r hr;rw [List.mem_singleton] at hr;subst hr;rfl) (m:=1) rfl (by omega) rfl (eRows_app G (putE o)))<|Uu (sa' Tryz.sizeOf22)<|Zz ?_
   refine⟨btH a b X false b F (G++[putE o]) Q,?_,rfl,rfl⟩
   rw [btH_P]
   exact(Ent.wk trivial (Hc (LR_clo (by simp [btE];exact⟨rfl,rfl,rfl,rfl,rfl,rfl⟩))<|Hc (eRows_clo _ _)<|Hc (eRows_clo _ _)<|Hc (eRows_clo _ _)<|Ha<|Ha<|Ha<|Hc (sobN_clo _ _)<|Ha<|Hc (dB_clo _ _)<|Hc (mB_clo _ _)<|Hc (mB_clo _ _)<|Hc (mB_clo _ _)<|trivial) ⟨rfl,rfl,rfl,rfl,rfl,rfl,rfl,rfl,rfl,rfl,rfl,rfl,rfl,trivial⟩)
  skip
  have hi:(inB X o.id||(look a o.id).isNone)=false:=hc4
  rw [if_neg (by rw [hi];decide),List.append_nil]
  refine awp_skip ?_
  exact⟨btH a b X false b F G Q,(Ent.wk trivial (Hc (LR_clo (by simp [btE];exact⟨rfl,rfl,rfl,rfl,rfl,rfl⟩))<|Hc (eRows_clo _ _)<|Hc (eRows_clo _ _)<|Hc (eRows_clo _ _)<|Ha<|Ha<|Ha<|Hc (sobN_clo _ _)<|Ha<|Hc (dB_clo _ _)<|Hc (mB_clo _ _)<|Hc (mB_clo _ _)<|Hc (mB_clo _ _)<|trivial) ⟨rfl,rfl,rfl,rfl,rfl,rfl,rfl,rfl,rfl,rfl,rfl,rfl,rfl,trivial⟩),rfl,rfl⟩
 refine(layers1_c b false (.yld 904 0) (fun k=>(904,LR x btE)::btH a b X false b F (btP X a (M.take k)) Q) (by omega) hkdb (fun k=>rfl) (fun k=>rfl) (fun k=>rfl) (fun k=>(Closed.ofL ⟨(by exact LR_clo (by simp [btE];exact⟨rfl,rfl,rfl,rfl,rfl,rfl⟩)),(by exact eRows_clo _ _),(by exact eRows_clo _ _),(by exact eRows_clo _ _),(by(simp;rfl)),(by(simp;rfl)),(by(simp;rfl)),(by exact sobN_clo _ _),(by(simp;rfl)),(by exact dB_clo _ _),(by exact mB_clo _ _),(by exact mB_clo _ _),(by exact mB_clo _ _),trivial⟩)) (fun k=>by simp;rfl) (fun k o h=>hround k o (by rw [hM];exact h))).mono ?_
 rintro r H' ⟨rfl,rfl⟩
 refine⟨x,_,rfl,by rw [hx1];decide,rfl,fun z=>?_⟩
 rw [hx2]
 have hP1:btP X a (M.take (layL b false).length)=(bPuts a b).map putE:=by rw [hM,List.take_length,btP,bPuts,hX]
 rw [hP1]
 obtain ⟨G,hG⟩:∃ G,G=(bPuts a b).map putE:=⟨_,rfl⟩
 have hGl:G.length≤3000000:=by rw [hG];exact Nat.le_trans (fm_len _ _ _) (by rw [← hM];omega)
 rw [← hG] at hbet ⊢
 clear hround hx1 hx2 hx3 hx4 hx5 hx6
 have hmb:(b.map encObj).length=b.length:=List.length_map _
 refine Sq<|Rg<|Dd (by exact opd_assign_own (id:=954) (sz:=12) (ty:=96) rfl rfl rfl)<|Zz<|Sq<|Sq<|Rg<|Dd (fr' fo38_0)<|Dd (l1' Tryz.isAgg36)<|Dd (ll' Tryz.underlying36)<|Dd mv'<|Zz<|awp_block ?_
 have hboth:bBoth a b=b.filterMap (bothF X a):=by rw [bBoth,hX];rfl
 refine awp_loop (σ:=Nat) (fun i=>([(2,.ref 2 0 0 0),(3,.ref 3 0 0 0),(6,.ref 6 0 0 0),(7,.ref 7 0 0 0),(8,.ref 8 0 0 0),(9,.ref 9 0 0 0),(13,.osl 954 ((b.take i).filterMap (bothF X a)).length 0 ((b.take i).filterMap (bothF X a)).length),(77,.pv (slObjs b)),(78,iv ((b.map encObj).length:Int)),(79,iv (i:Int))],b4H a b X F G Q ((b.take i).filterMap (bothF X a)))) (fun i=>i≤b.length) (fun i=>b.length - i) 0 (Nat.zero_le _) ?_ ?_
 ·exact(Ent.wk (Ea<|Ea<|Ea<|Ea<|Ea<|Ea<|Ea<|Eb<|Eb<|Eb<|trivial) (Hc (kRows_clo _ _)<|Hc (eRows_clo _ _)<|Hc (eRows_clo _ _)<|Hc (eRows_clo _ _)<|Ha<|Ha<|Ha<|Hc (sobN_clo _ _)<|Ha<|Hc (mB_clo _ _)<|Hc (mB_clo _ _)<|trivial) trivial)
 rintro i hi
 obtain ⟨B,hB⟩:∃ B,B=(b.take i).filterMap (bothF X a):=⟨_,rfl⟩
 have hBl:B.length≤1000000:=by rw [hB];exact Nat.le_trans both_len (by rw [List.length_take];omega)
 rw [← hB]
 refine Sq<|Rg<|Dd lss'<|Zz<|Sq ?_
 refine Cn (fun hc5=>?_) fun hc5=>?_
 ·skip
  have hlt:i < b.length:=by have:=of_decide_eq_true hc5;omega
  obtain ⟨o,ho⟩:=get_of_lt hlt
  have hio:=map_get (f:=encObj) ho
  have hsn:=both_snoc (X:=X) (a:=a) ho
  rw [← hB] at hsn
  rcases gidx_cases (idIs o.id) a with⟨e1,e2⟩|⟨q,p,e1,e2,e3⟩
  ·have hb0:bothF X a o=none:=by rw [bothF,show look a o.id=none from e2]
   rw [hb0,Option.toList_none,List.append_nil] at hsn
   have hF:∀ H,ACalls Tryz.prog 54 [.agg [.pv (slObjs a)],sv o.id] H (fun r H'=>r=iv (-1)∧H'=H):=fun H=>by have:=find_c a o.id H (by omega);rw [e1] at this;exact this
   refine awp_skip<|Sq<|awp_block<|Sq<|Rg<|Dd (xp' so36)<|Dd (by exact opd_loadn_pad rfl Tryz.isAgg49 Tryz.sizeOf49 rfl (by omega) (by simp only [Zl,encTag,encObj,encStr,encEdit,encInt,encK];rfl) rfl)<|Dd (by exact x_alloc (id:=115) rfl zo49 rfl rfl)<|Uu (sa' Tryz.sizeOf49)<|Zz<|Sq<|Rg<|Dd (by exact opd_loadn_ref rfl Tryz.isAgg38 Tryz.sizeOf38 rfl rfl rfl rfl (by simp only [Zl,encTag,encObj,encStr,encEdit,encInt,encK];rfl) rfl)<|Dd (fr' fo49_0)<|Dd (l1' Tryz.isAgg9)<|Dd (by exact opr_call rfl rfl Tryz.call54 rfl (hF _))<|Dd as'<|Zz<|Sq<|Rg<|Dd mv'<|Dd ge'<|Dd mv' ?_
   refine al_off rfl rfl rfl (by rfl) rfl ?_
   refine al_off rfl rfl rfl (by rfl) rfl ?_
   refine al_off rfl rfl rfl (by rfl) rfl ?_
   refine al_off rfl rfl rfl (by rfl) rfl ?_
   refine al_off rfl rfl rfl (by rfl) rfl ?_
   refine Dd pk'<|Zz ?_
   refine Cn (fun hc6=>?_) fun hc6=>?_
   ·skip
    cases hc6
   skip
   refine awp_skip<|Rg<|Dd ad'<|Dd mv'<|Zz ?_
   refine⟨i+1,by omega,by omega,?_⟩
   rw [hsn]
   exact(Ent.wk (Ea<|Ea<|Ea<|Ea<|Ea<|Ea<|Ea<|Eb<|Eb<|Eb<|trivial) (Hc (kRows_clo _ _)<|Hc (eRows_clo _ _)<|Hc (eRows_clo _ _)<|Hc (eRows_clo _ _)<|Ha<|Ha<|Ha<|Hc (sobN_clo _ _)<|Ha<|Hc (mB_clo _ _)<|Hc (mB_clo _ _)<|trivial) trivial)
  have hlk:look a o.id=some p:=e3
  have hia:=map_get (f:=encObj) e2
  have hqa:=(List.getElem?_eq_some_iff.1 e2).1
  have hma:(a.map encObj).length=a.length:=List.length_map _
  have hF:∀ H,ACalls Tryz.prog 54 [.agg [.pv (slObjs a)],sv o.id] H (fun r H'=>r=iv (q:Int)∧H'=H):=fun H=>by have:=find_c a o.id H (by omega);rw [e1] at this;exact this
  have h0:decide ((0:Int)≤(q:Int))=true:=decide_eq_true (by omega)
  refine awp_skip<|Sq<|awp_block<|Sq<|Rg<|Dd (xp' so36)<|Dd (by exact opd_loadn_pad rfl Tryz.isAgg49 Tryz.sizeOf49 rfl (by omega) (by simp only [Zl,encTag,encObj,encStr,encEdit,encInt,encK];rfl) rfl)<|Dd (by exact x_alloc (id:=115) rfl zo49 rfl rfl)<|Uu (sa' Tryz.sizeOf49)<|Zz<|Sq<|Rg<|Dd (by exact opd_loadn_ref rfl Tryz.isAgg38 Tryz.sizeOf38 rfl rfl rfl rfl (by simp only [Zl,encTag,encObj,encStr,encEdit,encInt,encK];rfl) rfl)<|Dd (fr' fo49_0)<|Dd (l1' Tryz.isAgg9)<|Dd (by exact opr_call rfl rfl Tryz.call54 rfl (hF _))<|Dd as'<|Zz<|Sq<|Rg<|Dd mv'<|Dd ge'<|Dd mv' ?_
  refine al_ond rfl rfl rfl (by rfl) rfl rfl (by exact opd_load1_ref rfl Tryz.isAgg89 rfl rfl rfl rfl rfl) ?_
  refine al_ond rfl rfl rfl (by rfl) rfl rfl (by exact opd_field_ref rfl fo49_0 rfl rfl rfl rfl) ?_
  refine al_ond rfl rfl rfl (by rfl) rfl rfl (by exact opd_load1_ref rfl Tryz.isAgg9 rfl rfl rfl rfl rfl) ?_
  refine al_ond rfl rfl rfl (by rfl) rfl rfl (by exact x_lookup_set rfl Tryz.underlying89 Tryz.underlying9 rfl rfl rfl rfl rfl Tryz.zeroValue4 (.inl rfl)) ?_
  refine al_ond rfl rfl rfl (by rfl) rfl rfl (by exact opd_not rfl rfl) ?_
  refine Dd pk'<|Zz ?_
  refine Cn (fun hc7=>?_) fun hc7=>?_
  ·skip
   have hin:inB X o.id=false:=by have:=hc7;simpa using this
   have hb1:bothF X a o=some (p,o):=by rw [bothF,hlk];simp only [hin];rfl
   rw [hb1,Option.toList_some] at hsn
   refine awp_drawc follows ?_
   refine dc_cons (r:=⟨_,none,[]⟩) (DStep.plain rfl (fun H1 hH=>by exact opd_move rfl rfl)) rfl ?_
   refine dc_cons (r:=⟨_,none,[]⟩) (DStep.plain rfl (fun H1 hH=>by exact(by exact opd_field_ref rfl fo38_0 rfl ((hH _ rfl).trans rfl) rfl rfl))) rfl ?_
   refine dc_cons (r:=⟨_,none,[]⟩) (DStep.plain rfl (fun H1 hH=>by exact(by exact opd_load1_ref rfl Tryz.isAgg36 rfl ((hH _ rfl).trans rfl) rfl rfl rfl))) rfl ?_
   refine dc_cons (r:=⟨_,none,[]⟩) (DStep.plain rfl (fun H1 hH=>by exact opd_move rfl rfl)) rfl ?_
   refine dc_cons (r:=⟨_,none,[]⟩) (DStep.plain rfl (fun H1 hH=>by exact(by exact x_index_pad rfl so36 rfl rfl (by omega) (by exact Int.toNat_natCast _) (by assumption) rfl))) rfl ?_
   refine dc_cons (r:=⟨_,none,[]⟩) (DStep.plain rfl (fun H1 hH=>by exact(by exact opd_loadn_pad rfl Tryz.isAgg49 Tryz.sizeOf49 rfl (by omega) (by simp only [Zl,encTag,encObj,encStr,encEdit,encInt,encK];rfl) rfl))) rfl ?_
   refine dc_cons (r:=⟨_,none,[]⟩) (DStep.plain rfl (fun H1 hH=>by exact(by exact opd_loadn_ref rfl Tryz.isAgg49 Tryz.sizeOf49 rfl ((hH _ rfl).trans rfl) rfl rfl (by simp only [Zl,encTag,encObj,encStr,encEdit,encInt,encK];rfl) rfl))) rfl ?_
   refine dc_cons (r:=⟨_,none,[]⟩) (DStep.plain rfl (fun H1 hH=>by exact x_build rfl bo96 rfl rfl)) rfl ?_
   refine dc_cons (r:=⟨_,none,[]⟩) (DStep.plain rfl (fun H1 hH=>by exact(by exact x_buildSlice [encK (p,o)] rfl so94 rfl rfl rfl rfl rfl (by intro r hr;rw [List.mem_singleton] at hr;subst hr;rfl)))) rfl ?_
   refine dc_cons (r:=⟨_,none,[_]⟩) (DStep.plain rfl (fun H1 hH=>by exact x_append (ps:=[encK (p,o)]) rfl so94 ei96 rfl ((hH _ rfl).trans rfl) rfl rfl rfl (kRows_len _) rfl (by intro r hr;rw [List.mem_singleton] at hr;subst hr;rfl) (m:=1) rfl (by omega) rfl (kRows_app B (p,o)))) rfl ?_
   refine dc_cons (r:=⟨_,none,[]⟩) (DStep.plain rfl (fun H1 hH=>by exact opd_assign rfl rfl)) rfl ?_
   refine dc_nil ⟨by kernel_rfl,?_⟩
   refine Rg<|Dd ad'<|Dd mv'<|Zz ?_
   refine⟨i+1,by omega,by omega,?_⟩
   rw [hsn,b4H_snoc,snocK_len]
   exact(Ent.wk (Ea<|Ea<|Ea<|Ea<|Ea<|Ea<|Ea<|Eb<|Eb<|Eb<|trivial) (Hc (kRows_clo _ _)<|Hc (eRows_clo _ _)<|Hc (eRows_clo _ _)<|Hc (eRows_clo _ _)<|Ha<|Ha<|Ha<|Hc (sobN_clo _ _)<|Ha<|Hc (mB_clo _ _)<|Hc (mB_clo _ _)<|trivial) trivial)
  skip
  have hin:inB X o.id=true:=by have:=hc7;simpa using this
  have hb1:bothF X a o=none:=by rw [bothF,hlk];simp only [hin];rfl
  rw [hb1,Option.toList_none,List.append_nil] at hsn
  refine awp_skip<|Rg<|Dd ad'<|Dd mv'<|Zz ?_
  refine⟨i+1,by omega,by omega,?_⟩
  rw [hsn]
  exact(Ent.wk (Ea<|Ea<|Ea<|Ea<|Ea<|Ea<|Ea<|Eb<|Eb<|Eb<|trivial) (Hc (kRows_clo _ _)<|Hc (eRows_clo _ _)<|Hc (eRows_clo _ _)<|Hc (eRows_clo _ _)<|Ha<|Ha<|Ha<|Hc (sobN_clo _ _)<|Ha<|Hc (mB_clo _ _)<|Hc (mB_clo _ _)<|trivial) trivial)
 skip
 have hge:i=b.length:=by have:=of_decide_eq_false hc5;omega
 subst hge
 rw [List.take_length,← hboth] at hB
 have hokB:∀ k∈B,okK k:=fun k hk=>by
  rw [hB] at hk
  obtain ⟨q1,q2,_⟩:=mem_both.1 hk
  have g1:=gObj_len (hga.1 k.1 (look_mem q2))
  have g2:=gObj_len (hgb.1 k.2 q1)
  exact⟨⟨g1.1,g2.1⟩,g1.2.1,g2.2.1⟩
 rw [← hB] at hbet
 refine awp_exit<|Sq ?_
 refine AWp.ent (Ent.fz (id:=954) (E':=[(7,.ref 7 0 0 0),(8,.ref 8 0 0 0),(9,.ref 9 0 0 0),(13,.pv (.sl (B.map encK)))]) (H':=[(951,eOb F),(952,eOb G),(953,eOb Q),(7,bx 1 22 [.osl 951 F.length 0 F.length]),(8,bx 1 22 [.osl 952 G.length 0 G.length]),(9,bx 1 22 [.osl 953 Q.length 0 Q.length])]) (B.map encK) rfl (rows_ofY encK B) ?_ rfl ⟨⟨_,rfl,rfl⟩,(by exact eRows_clo _ _),⟨_,rfl,rfl⟩,(by exact eRows_clo _ _),⟨_,rfl,rfl⟩,(by exact eRows_clo _ _),⟨_,rfl,rfl⟩,(by(simp;rfl)),⟨_,rfl,rfl⟩,(by(simp;rfl)),⟨_,rfl,rfl⟩,(by(simp;rfl)),trivial⟩ trivial) ?_
 ·intro q hq
  simp only [List.mem_cons,List.not_mem_nil,or_false] at hq
  rcases hq with rfl|rfl|rfl|rfl
  ·exact⟨_,rfl,.same (by simp;rfl)⟩
  ·exact⟨_,rfl,.same (by simp;rfl)⟩
  ·exact⟨_,rfl,.same (by simp;rfl)⟩
  exact⟨_,rfl,.osl (take_rows encK B)⟩
 skip
 refine Rg<|Dd (l1' Tryz.isAgg22)<|Dd (l1' Tryz.isAgg22)<|Dd (by exact x_append_osl rfl so22 ei51 rfl rfl rfl rfl rfl (eRows_len F) rfl rfl rfl rfl (eRows_rl G) (by simp [eOb,eRows_len]) (by omega) rfl (eRows_two F G))<|Dd as'<|Zz<|Sq<|Rg<|Dd (by exact opr_call rfl rfl Tryz.call55 rfl (how_c _))<|Dd (by exact x_alloc (id:=118) rfl zo99 rfl rfl)<|Uu (sa' Tryz.sizeOf99)<|Zz<|Sq<|Sq<|Rg<|Dd (fr' fo99_0)<|Dd (l1' Tryz.isAgg97)<|Dd (fr' fo99_1)<|Dd (l1' Tryz.isAgg97)<|Dd (fr' fo99_2)<|Dd (l1' Tryz.isAgg97)<|Dd (by exact x_buildSlice [[.fn 106],[.fn 107],[.fn 109]] rfl so101 rfl rfl rfl rfl rfl (by intro r hr;simp only [List.mem_cons,List.not_mem_nil,or_false] at hr;rcases hr with rfl|rfl|rfl<;>rfl))<|Dd (ll' Tryz.underlying101)<|Dd mv'<|Zz<|awp_block ?_
 have hmB:(B.map encK).length=B.length:=List.length_map _
 have hBl:B.length≤1000000:=by rw [hB,hboth];exact Nat.le_trans both_len (by omega)
 refine awp_loop (σ:=Nat) (fun s=>([(9,.ref 9 0 0 0),(13,.pv (.sl (B.map encK))),(17,.osl 951 (F.length+1+s*B.length) 0 (aS B (F++G) s).length),(117,.pv (.sl [[.fn 106],[.fn 107],[.fn 109]])),(118,iv 3),(119,iv (s:Int))],oHB (F.length+1+s*B.length) (aS B (F++G) s) Q)) (fun s=>s≤3) (fun s=>3 - s) 0 (by omega) ?_ ?_
 ·show Ent _ _ _ [(9,_),(13,_),(17,.osl 951 (F.length+1+0*B.length) 0 (F++G).length),(117,_),(118,_),(119,_)] (oHB (F.length+1+0*B.length) (F++G) Q)
  rw [Nat.zero_mul,Nat.add_zero,List.length_append]
  exact(Ent.wk (Ea<|Eb<|Ea<|Eb<|Eb<|Eb<|trivial) (Hc (eRows_clo _ _)<|Hc (eRows_clo _ _)<|Ha<|trivial) trivial)
 rintro s hs
 obtain ⟨A,hA⟩:∃ A,A=aS B (F++G) s:=⟨_,rfl⟩
 have hAl:A.length≤6000000+s*(120*B.length):=by
  rw [hA]
  refine Nat.le_trans (aS_len hokB (F++G) s) ?_
  rw [List.length_append];omega
 have hnxA:aS B (F++G) (s+1)=A++B.flatMap (stS s):=by rw [hA];rfl
 obtain ⟨g,hg⟩:∃ g,g=F.length+1+s*B.length:=⟨_,rfl⟩
 have hg1:F.length+1+(s+1)*B.length=g+B.length:=by rw [hg,Nat.add_mul,Nat.one_mul];omega
 rw [← hA,← hg]
 refine Sq<|Rg<|Dd lss'<|Zz<|Sq ?_
 refine Cn (fun hc8=>?_) fun hc8=>?_
 ·skip
  have hs3:s < 3:=by have:=of_decide_eq_true hc8;omega
  have hAl2:A.length≤246000000:=by
   have:s*(120*B.length)≤2*(120*B.length):=Nat.mul_le_mul_right _ (by omega)
   omega
  have hfn:([[.fn 106],[.fn 107],[.fn 109]]:List (List PV))[s]?=some [.fn (fS s)]:=by
   have h:s=0∨s=1∨s=2:=by omega
   rcases h with rfl|rfl|rfl<;>rfl
  refine awp_skip<|Sq<|awp_block<|Sq<|Rg<|Dd (by exact x_index_pad rfl so101 rfl rfl (by omega) (by exact Int.toNat_natCast _) hfn rfl)<|Dd (lp' Tryz.isAgg97)<|Dd as'<|Zz<|Sq<|Rg<|Dd mv'<|Dd (ll' Tryz.underlying94)<|Dd mv'<|Zz<|awp_block ?_
  refine awp_loop (σ:=Nat) (fun i=>([(9,.ref 9 0 0 0),(13,.pv (.sl (B.map encK))),(17,.osl 951 (g+i) 0 (A++(B.take i).flatMap (stS s)).length),(117,.pv (.sl [[.fn 106],[.fn 107],[.fn 109]])),(118,iv 3),(119,iv (s:Int)),(20,.pv (.fn (fS s))),(123,.pv (.sl (B.map encK))),(124,iv ((B.map encK).length:Int)),(125,iv (i:Int))],oHB (g+i) (A++(B.take i).flatMap (stS s)) Q)) (fun i=>i≤B.length) (fun i=>B.length - i) 0 (Nat.zero_le _) ?_ ?_
  ·show Ent _ _ _ [(9,_),(13,_),(17,.osl 951 g 0 (A++[]).length),(117,_),(118,_),(119,_),(20,_),(123,_),(124,_),(125,_)] (oHB g (A++[]) Q)
   rw [List.append_nil]
   exact(Ent.wk (Ea<|Eb<|Ea<|Eb<|Eb<|Eb<|Eb<|Eb<|Eb<|Eb<|trivial) (Hc (eRows_clo _ _)<|Hc (eRows_clo _ _)<|Ha<|trivial) trivial)
  rintro i hi
  obtain ⟨C,hC⟩:∃ C,C=A++(B.take i).flatMap (stS s):=⟨_,rfl⟩
  have hCl:C.length≤366000000:=by
   have:=flat_len (B:=B.take i) (f:=stS s) (c:=120) (fun k hk=>stS_len s (hokB k (List.mem_of_mem_take hk)))
   rw [hC,List.length_append]
   have h2:(B.take i).length≤1000000:=by rw [List.length_take];omega
   omega
  rw [← hC]
  refine Sq<|Rg<|Dd lss'<|Zz<|Sq ?_
  refine Cn (fun hc9=>?_) fun hc9=>?_
  ·skip
   have hil:i < B.length:=by have:=of_decide_eq_true hc9;omega
   obtain ⟨k,hk⟩:=get_of_lt hil
   have hik:=map_get (f:=encK) hk
   have hok:=hokB k (List.mem_of_getElem? hk)
   have hsl:=stS_len s hok
   have hnx:A++(B.take (i+1)).flatMap (stS s)=C++stS s k:=by rw [hC,List.take_add_one,hk,Option.toList_some,List.flatMap_append,List.flatMap_cons,List.flatMap_nil,List.append_nil,List.append_assoc]
   refine awp_skip<|Sq<|awp_block<|Sq<|Rg<|Dd (xp' so94)<|Dd (by exact opd_loadn_pad rfl Tryz.isAgg96 Tryz.sizeOf96 rfl (by omega) (by simp only [Zl,encTag,encObj,encStr,encEdit,encInt,encK];rfl) rfl)<|Dd (by exact x_alloc (id:=122) rfl zo96 rfl rfl)<|Uu (sa' Tryz.sizeOf96)<|Zz<|Rg<|Dd mv'<|Dd mv'<|Dd (by exact opd_loadn_ref rfl Tryz.isAgg96 Tryz.sizeOf96 rfl rfl rfl rfl (by simp only [Zl,encTag,encObj,encStr,encEdit,encInt,encK];rfl) rfl)<|Dd (by exact opr_callV rfl rfl rfl (step_c s hs3 k hok _))<|Dd (by exact x_append (ps:=(stS s k).map encEdit) rfl so22 ei51 rfl rfl rfl rfl rfl (eRows_len C) rfl (rlE _) (m:=(stS s k).length) (List.length_map _) (by omega) rfl (eRows_more C (stS s k)))<|Dd as'<|Zz<|Rg<|Dd ad'<|Dd mv'<|Zz ?_
   refine⟨i+1,by omega,by omega,?_⟩
   rw [hnx,oHB,List.length_append]
   exact(Ent.wk (Ea<|Eb<|Ea<|Eb<|Eb<|Eb<|Eb<|Eb<|Eb<|Eb<|trivial) (Hc (eRows_clo _ _)<|Hc (eRows_clo _ _)<|Ha<|trivial) trivial)
  skip
  have hil:i=B.length:=by have:=of_decide_eq_false hc9;omega
  subst hil
  rw [List.take_length,← hnxA] at hC
  refine awp_exit<|Rg<|Dd ad'<|Dd mv'<|Zz ?_
  refine⟨s+1,by omega,by omega,?_⟩
  rw [hg1,← hC]
  exact(Ent.wk (Ea<|Eb<|Ea<|Eb<|Eb<|Eb<|trivial) (Hc (eRows_clo _ _)<|Hc (eRows_clo _ _)<|Ha<|trivial) trivial)
 skip
 have hs3:s=3:=by have:=of_decide_eq_false hc8;omega
 subst hs3
 have hAl3:A.length≤366000000:=by omega
 have hfinal:A++Q=betL a b:=by
  rw [hbet,hA,← List.append_assoc,← List.append_assoc,← List.append_assoc,← List.append_assoc]
  rfl
 refine awp_exit<|Sq<|Rg<|Dd mv'<|Dd (l1' Tryz.isAgg22)<|Dd (by exact x_append_osl rfl so22 ei51 rfl rfl rfl rfl rfl (eRows_len A) rfl rfl rfl rfl (eRows_rl Q) (by simp [eOb,eRows_len]) (by omega) rfl (eRows_two A Q))<|Dd as'<|Zz<|Sq<|Sq<|Rg<|Dd mv'<|Dd (by exact opd_len_osl rfl Tryz.underlying22 rfl rfl rfl)<|Dd gt'<|Zz ?_
 refine Cn (fun hc10=>?_) fun hc10=>?_
 ·skip
  have h2:200 < (betL a b).length:=by have:=of_decide_eq_true hc10;rw [← hfinal,List.length_append];omega
  rw [if_pos h2]
  refine Sq<|Rg<|Dd as'<|Dd as'<|Zz<|awp_ret ?_
  refine Ru ?_
  exact⟨rfl,rfl⟩
 skip
 have h2:¬ 200 < (betL a b).length:=by have:=of_decide_eq_false hc10;rw [← hfinal,List.length_append];omega
 rw [if_neg h2,← hfinal]
 refine awp_skip<|Sq ?_
 refine AWp.ent (Ent.fz (id:=951) (E':=[(17,.pv (slEdits (A++Q)))]) (H':=[]) ((A++Q).map encEdit) rfl (rows_ofY encEdit _)
  (by intro q hq;rw [List.mem_singleton] at hq;subst hq;exact⟨_,rfl,.osl (by rw [Nat.zero_add,List.drop_zero,List.take_of_length_le (by rw [List.length_map,List.length_append];exact Nat.le_refl _)])⟩) rfl trivial trivial) ?_
 refine Rg<|Dd mv'<|Dd as'<|Dd as'<|Zz<|awp_ret ?_
 refine Ru ?_
 exact⟨rfl,rfl⟩
theorem between_c (a b:List GObj) (ha:okM a) (hb:okM b) (H:Heap) :
  ACalls Tryz.prog 22 [.agg [.pv (slObjs a)],.agg [.pv (slObjs b)]] H (fun r H'=>r=.tup [.pv (slEdits (gBetween a b).1),iv (gBetween a b).2]∧H'=H):=by
 cases h1:closedB a with
 | false=>exact betweenF_c a b ha hb (by rw [h1];rfl) H
 | true=>cases h2:closedB b with
  | false=>exact betweenF_c a b ha hb (by rw [h2];simp) H
  | true=>exact ACalls.pure (betweenT_c a b ha hb h1 h2) (by simp) H
end
end Go.Proofs.YtlnfjkdacimblaaGreatDoor
