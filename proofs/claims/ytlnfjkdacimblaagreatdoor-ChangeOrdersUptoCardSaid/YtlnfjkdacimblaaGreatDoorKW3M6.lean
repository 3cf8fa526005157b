/-
  CONTRACTS: slices.Clone, Insert, Delete at the lists of the map: the clone is the caller's own object 901; what is put in is object 902; behind Insert and Delete object 901 is dead and the result never changes. Conditions: lengths below 2^40.
  CONTRACTS: tag.Set. Conditions: lengths below 2^40.
  CONTRACTS: atlas.valid, at, Put, Drop. Conditions: lengths below 2^40.
  PLAIN: a map with an object put in: valid, in order, and the same views. Conditions: none.
  A nil SLICE THAT IS HANDED ON AS nil; slices that are made shorter; a call's contract at a small heap, used in a greater one.
 Conditions: each rule's own premises.
  CONTRACTS: slices.Index, Contains at strings and ints, Clone and Concat at strings; package edit: inner, referred, get. Conditions: lengths below 2^40.
  CONTRACTS: package edit: referred, get. Conditions: lengths below 2^40.
  CONTRACTS: slices.Clone, Grow, Concat at strings: what is returned never changes. Conditions: lengths below 2^40.
  CONTRACTS: atlas.Drop; package edit: split, join. Conditions: lengths below 2^40.
  CONTRACTS: package edit: join. Conditions: lengths below 2^40.
  CONTRACTS: package edit: perform. Conditions: lengths below 2^39.
-/
import Derived.Test.YtlnfjkdacimblaaGreatDoorKW3M5
set_option linter.unusedVariables false
set_option linter.unusedSimpArgs false
set_option maxRecDepth 100000
set_option maxHeartbeats 2000000
namespace Go.Proofs.YtlnfjkdacimblaaGreatDoor
open Go.Abs
section
theorem lbI_le {α:Type} (f:α→ByteArray) (l:List α) (s:ByteArray):lbI f l s≤l.length:=List.findIdx_le_length
theorem hasK_get {α:Type} {f:α→ByteArray} {l:List α} {s:ByteArray} (ha:asc f l) (h:hasK f l s=true):∃ o,l[lbI f l s]?=some o∧f o=s:=by
 rw [hasK,List.any_eq_true] at h
 obtain ⟨x,hx,he⟩:=h
 have he:=of_decide_eq_true he
 obtain ⟨k,hk⟩:=List.mem_iff_getElem?.1 hx
 have:lbI f l s=k:=lbI_of (by have:=(List.getElem?_eq_some_iff.1 hk).1;omega) (fun j hj o ho=>by rw [← he];exact asc_get ha hj ho hk) (fun o ho=>by rw [hk] at ho;cases ho;rw [he,slt_irr])
 exact⟨x,by rw [this];exact hk,he⟩
abbrev pvR (ps:List (List PV)):List (List AV):=ps.map (·.map .pv)
theorem pvR_take (ps:List (List PV)) (i:Nat):(pvR ps).take i=pvR (ps.take i):=List.map_take.symm
theorem pvR_drop (ps:List (List PV)) (i:Nat):(pvR ps).drop i=pvR (ps.drop i):=List.map_drop.symm
theorem pvR_len (ps:List (List PV)):(pvR ps).length=ps.length:=List.length_map _
theorem pvR_rl {ps:List (List PV)} {n:Nat} (h:∀ r∈ps,r.length=n):∀ r∈pvR ps,r.length=n:=fun r hr=>by
 obtain ⟨q,hq,rfl⟩:=List.mem_map.1 hr
 rw [List.length_map];exact h q hq
theorem clo_osl1 {id g off n:Nat} {H:Heap} (h:(H.get id).isSome=true):∀ r∈[[AV.osl id g off n]],∀ x∈r,Clo H x:=by simp [h]
theorem clo_two (a b:PV) (H:Heap):∀ r∈[[AV.pv a,AV.pv b]],∀ x∈r,Clo H x:=by simp
/-- The rows while an element is put in. -/
theorem ins_a {α:Type} {R:List α} {z:α} {i n:Nat} (q:α) (hn:R.length=n) (hi:i < n):(R.take i++List.replicate (n+1 - i) z).take i++([q]++(R.take i++List.replicate (n+1 - i) z).drop (i+1))=R.take i++q::List.replicate (n - i) z:=by
 apply List.ext_getElem?
 intro k
 simp only [List.getElem?_append,List.getElem?_take,List.getElem?_drop,List.getElem?_replicate,List.length_append,List.length_take,List.length_replicate,List.length_drop,List.length_cons,List.length_nil,List.getElem?_cons]
 repeat' split
 all_goals first|rfl|omega
theorem ins_b {α:Type} {R:List α} {z q:α} {i n:Nat} (hn:R.length=n) (hi:i < n):(R.take i++q::List.replicate (n - i) z).take (i+1)++((R.drop i).take (n - i)++(R.take i++q::List.replicate (n - i) z).drop (i+1+(n - i)))=R.take i++q::R.drop i:=by
 apply List.ext_getElem?
 intro k
 simp only [List.getElem?_append,List.getElem?_take,List.getElem?_drop,List.getElem?_replicate,List.length_append,List.length_take,List.length_replicate,List.length_drop,List.length_cons,List.length_nil,List.getElem?_cons]
 repeat' split
 all_goals first|rfl|omega|(congr 1;omega)|(symm;apply List.getElem?_eq_none;omega)
theorem ins_c {α:Type} {R:List α} {i n:Nat} (hn:R.length=n) (hi:i < n):∃ x,R.take (i+1)++((R.drop i).take (n - i)++R.drop (i+1+(n - i)))=R.take i++x::R.drop i:=by
 have hlt:i < R.length:=by omega
 refine⟨R[i],?_⟩
 rw [List.take_succ_eq_append_getElem hlt,List.take_of_length_le (l:=R.drop i) (by rw [List.length_drop];omega),show R.drop (i+1+(n - i))=[] from List.drop_eq_nil_of_le (by omega),List.append_nil,List.append_assoc]
 rfl
theorem ins_d {α:Type} {R:List α} {i n:Nat} (q x:α) (hn:R.length=n) (hi:i < n):(R.take i++x::R.drop i).take i++([q]++(R.take i++x::R.drop i).drop (i+1))=R.take i++q::R.drop i:=by
 have h1:(R.take i).length=i:=by rw [List.length_take];omega
 rw [List.take_left' h1,show R.take i++x::R.drop i=(R.take i++[x])++R.drop i by simp,List.drop_left' (by simp [h1])]
 simp
/-- The rows while elements are taken out. -/
theorem del_a {α:Type} {R:List α} {i j n:Nat} (hn:R.length=n) (hij:i≤j) (hj:j≤n):(R.take i++((R.drop j).take (n - j)++R.drop (i+(n - j)))).take (i+(n - j))=R.take i++R.drop j:=by
 have h1:(R.take i).length=i:=by rw [List.length_take];omega
 have h2:(R.drop j).length=n - j:=by rw [List.length_drop];omega
 rw [List.take_of_length_le (l:=R.drop j) (by omega),← List.append_assoc,List.take_left' (by simp [h1,h2])]
/-- The one object in front is what is returned, for good. -/
theorem Fin.sliceG {G0 H H1:Heap} {id g n:Nat} (ob:Ob) (ps:List (List PV)) (hH1:∀ j,Heap.get ((id,ob)::H) j=H1.get j) (hg:ob.g=g) (hps:ob.rows=ps.map (·.map .pv)) (hn:ps.length=n) (hc:Closed H) (hid:H.get id=none) (hG:G0.get id=none) :
  Fin G0 H1 (.osl id g 0 n) H (.pv (.sl ps)) :=
 (Fin.get' (H':=(id,ob)::H) hH1).trans (Fin.slice [(id,ob)] ps (get_cons_same _ _ _) hg hps hn hc (by simp [hid]) (by simp [hG]) hid)
/-- An object of the caller's ends with what is returned. -/
theorem Fin.deadG {G0 H H1:Heap} {id k g off n sz ty:Nat} {rows:List (List AV)} {qs:List (List PV)} (ps:List (List PV)) (hH1:∀ j,Heap.get ((id,(⟨g,sz,ty,rows⟩:Ob))::H) j=H1.get j) (hk:g < k) (hsz:Nat.blt 0 sz=true) (hps:rows=ps.map (·.map .pv)) (hq:(ps.take (off+n)).drop off=qs) :
  Fin G0 H1 (.osl id g off n) ((id,⟨k,sz,ty,[]⟩)::H) (.pv (.sl qs)) :=
 ((Fin.get' (H':=(id,⟨g,sz,ty,rows⟩)::H) hH1).trans (Fin.deadS ps (get_cons_same _ _ _) rfl hk (by simpa [Nat.blt_eq] using hsz) rfl rfl hps hq)).trans (Fin.get' (fun j=>get_dup _ _ _ _ j))
/-- slices.Clone at planisphere/api.Object. -/
theorem clone_Obj (ps:List (List PV)) (H:Heap) (hc:Closed H) (h1:H.get 901=none) (h2:H.get 902=none) (hl:ps.length < 1099511627776) (hrl:∀ r∈ps,r.length=6) :
  ACalls Tryz.prog 168 [.pv (.sl ps)] H (fun r H'=>r=.osl 901 1 0 ps.length∧H'=(901,⟨1,6,49,pvR ps⟩)::H):=by
 refine Bd Tryz.func168 rfl Tryz.ntmps168<|Sq<|Rg<|Dd as'<|Zz<|Sq<|Sq<|Rg<|Dd mv' ?_
 refine al_r rfl rfl (opr_sl_nil rfl Tryz.underlying36 rfl) ?_
 rintro _ H2 ⟨e2,b,rfl,hb⟩
 rw [e2]
 clear e2 H2
 refine Zz ?_
 refine Cn (fun hc1=>?_) fun hc1=>?_
 ·have h0:=hb hc1
  subst h0
  refine Sq<|Rg<|Dd (by exact opd_assign_own (id:=901) (sz:=6) (ty:=49) rfl h1 rfl)<|Zz<|awp_ret ?_
  refine aret1 (H':=((901,⟨1,6,49,[]⟩)::H)) (.inr rfl) rfl (rval_tmp rfl) ((Fin.bump (g:=0) (k:=1) rfl rfl (by decide) rfl rfl rfl).trans (Fin.get' (fun j=>get_dup _ _ _ _ j))) ?_
  exact⟨rfl,rfl⟩
 skip
 refine awp_skip<|Sq<|Rg<|Dd (by exact x_buildSlice_own (id:=901) rfl so36 rfl rfl rfl rfl (by simp) h1)<|Dd mv'<|Dd (by exact x_append rfl so36 ei49 rfl rfl rfl rfl rfl rfl rfl hrl rfl (by omega) (Nat.zero_add _) (List.nil_append _))<|Dd as'<|Zz<|awp_ret ?_
 refine aret1 (H':=((901,⟨1,6,49,pvR ps⟩)::H)) (.inr rfl) rfl (rval_tmp rfl) (Fin.get' (fun j=>get_dup _ _ _ _ j)) ?_
 exact⟨rfl,rfl⟩
/-- The model's entry for slices.overlaps. -/
theorem ov_Obj:(Tryz.f218.name == "runtime.NumGoroutine")=false∧Tryz.f218.body.isNone=true∧Extern.findNext Tryz.f218=none∧Extern.find Tryz.f218=some (Extern.SlicesOverlaps.overlaps #[36,36] #[4]):=⟨by kernel_rfl,by kernel_rfl,by kernel_rfl,by kernel_rfl⟩
theorem ovop_Obj {N:Nat} {o:Oper} {E:Env} {H:Heap} {x y:Operand} {at_:Array TypeId} {id1 g1 off1 n1 id2 g2 off2 n2 c2:Nat} {o1 o2:Ob} (ho:o.op=.call {callee:=.value (.func 218),args:=#[x,y],argTypes:=at_}) (hx:aeval E x=some (.osl id1 g1 off1 n1)) (hy:aeval E y=some (.osc id2 g2 off2 n2 c2))
  (h1:H.get id1=some o1) (hg1:o1.g=g1) (h2:H.get id2=some o2) (hg2:o2.g=g2) (hne:Nat.beq id1 id2=false) (hp1:0 < n1) (hpos:0 < n2+c2):OpD Tryz.prog N o E H (.pv (.bool false)) H:=by
 have hv:aargs E (#[x,y]:Array Operand).toList=some [.osl id1 g1 off1 n1,.osc id2 g2 off2 n2 c2]:=by simp only [aargs,hx,hy]
 have hF:Tryz.prog.funcs[(218:Nat)]?=some Tryz.f218:=Tryz.func218
 exact opd_extr ho (f:=.func 218) (F:=218) rfl hF ov_Obj.1 ov_Obj.2.1 ov_Obj.2.2.1 ov_Obj.2.2.2 hv (ext_overlaps so36 h1 hg1 h2 hg2 hne hp1 hpos)
/-- slices.Insert of one element at planisphere/api.Object. -/
theorem insert_Obj (ps:List (List PV)) (p:List PV) (i g:Nat) (H:Heap) (hc:Closed H) (h1:H.get 901=some ⟨g,6,49,pvR ps⟩) (h2:H.get 902=some ⟨0,6,49,[p.map .pv]⟩) (h3:H.get 903=none) (hl:ps.length < 1099511627776) (hi:i≤ps.length) (hrl:∀ r∈ps,r.length=6) (hp:p.length=6) :
  ACalls Tryz.prog 169 [.osl 901 g 0 ps.length,iv (i:Int),.osl 902 0 0 1] H (fun r H'=>r=.pv (.sl (ps.take i++p::ps.drop i))∧H'=(901,⟨g+3,6,49,[]⟩)::H):=by
 have hpl:(pvR ps).length=ps.length:=pvR_len ps
 have hR:=pvR_rl hrl
 have hp1:∀ r∈[p.map AV.pv],r.length=6:=by intro r hr;rw [List.mem_singleton] at hr;subst hr;rw [List.length_map];exact hp
 have hfin:pvR (ps.take i++p::ps.drop i)=(pvR ps).take i++p.map AV.pv::(pvR ps).drop i:=by rw [pvR_take,pvR_drop,pvR,List.map_append,List.map_cons]
 refine Bd Tryz.func169 rfl Tryz.ntmps169 ?_
 refine awp_cap (t:=0) rfl h1 rfl ?_
 intro c hcn hcm
 refine Sq<|Rg<|Dd as'<|Zz<|Sq<|Rg<|Dd mv'<|Dd mv'<|Dd (by exact x_slice_osc (l:=i) (h:=ps.length) rfl so36 rfl h1 rfl rfl rfl rfl hi hcn rfl rfl rfl)<|Zz<|Sq<|Rg<|Dd mv'<|Dd (by exact opd_len_osl rfl Tryz.underlying36 rfl h2 rfl)<|Dd as'<|Zz<|Sq<|Sq<|Rg<|Dd mv'<|Dd eql'<|Zz ?_
 refine Cn (fun hc1=>?_) fun hc1=>?_
 ·cases hc1
 skip
 refine awp_skip<|Sq<|Rg<|Dd mv'<|Dd (by exact opd_len_osc rfl Tryz.underlying36 rfl h1 rfl)<|Dd as'<|Zz<|Sq<|Sq<|Rg<|Dd mv'<|Dd mv'<|Dd eql'<|Zz ?_
 refine Cn (fun hc2=>?_) fun hc2=>?_
 ·have hin:i=ps.length:=by have:=of_decide_eq_true hc2;omega
  subst hin
  refine awp_uncap (t:=0) rfl h1 rfl (by rw [hpl];omega) ?_
  refine Sq<|Rg<|Dd mv'<|Dd mv'<|Dd (by exact x_append_osl rfl so36 ei49 rfl h1 rfl rfl rfl hpl rfl h2 rfl rfl hp1 (by simp) (by omega) rfl rfl)<|Dd as'<|Zz<|awp_ret ?_
  refine aret1 (H':=((901,⟨g+3,6,49,[]⟩)::H)) (.inr rfl) rfl (rval_tmp rfl) ((Fin.deadS (g:=g+1) (k:=g+3) (sz:=6) (ty:=49) (ps++[p]) rfl rfl (by omega) (Nat.le_of_ble_eq_true rfl) rfl rfl (by rw [List.map_append];rfl) (qs:=ps.take ps.length++p::ps.drop ps.length) (by rw [List.take_of_length_le (by simp),List.drop_zero,List.take_length,List.drop_length])).trans (Fin.get' (fun j=>get_dup _ _ _ _ j))) ?_
  exact⟨rfl,rfl⟩
 have hin:i < ps.length:=by have:=of_decide_eq_false hc2;omega
 refine awp_skip<|Sq<|Sq<|Rg<|Dd mv'<|Dd mv'<|Dd ad'<|Dd mv'<|Dd (by exact opd_cap_osc rfl Tryz.underlying36 rfl h1 rfl)<|Dd gt'<|Zz ?_
 refine Cn (fun hc3=>?_) fun hc3=>?_
 ·have hgt:c < ps.length+1:=by have:=of_decide_eq_true hc3;omega
  refine Sq<|Rg<|Dd mv'<|Dd mv'<|Dd (by exact x_slice_osc (l:=0) (h:=i) rfl so36 rfl h1 rfl rfl rfl rfl (by omega) (by omega) rfl rfl rfl)<|Dd mv'<|Dd mv'<|Dd ad'<|Dd mv'<|Dd (by exact opd_sub rfl rfl rfl (by exact w64 (by omega) (by omega)))<|Dd (by exact x_append_zeros (id2:=903) (m:=ps.length+1 - i) rfl so36 Tryz.underlying3 ei49 zo49 rfl rfl h1 rfl rfl (by rw [hpl];omega) rfl (by omega) (by omega) (by omega) rfl (by omega) h3 rfl)<|Dd as'<|Zz<|Sq<|Rg<|Dd mv'<|Dd mv'<|Dd (by exact x_slice_osl (l:=i) (h:=i+(ps.length+1 - i)) rfl so36 rfl rfl rfl rfl rfl rfl (by omega) (by omega) (Nat.zero_add _) (by omega:i+(ps.length+1 - i) - i=ps.length+1 - i))<|Dd mv'<|Dd (by exact x_copy (n:=1) rfl so36 (dst_of_osl rfl rfl rfl) rfl rfl rfl (by simp only [List.length_append,List.length_take,List.length_replicate,hpl];omega) (src_of_osl (k:=1) rfl h2 rfl rfl (by omega) rfl) hp1 rfl (by omega) (ins_a (p.map AV.pv) hpl hin)) ?_
  refine Zz<|Sq ?_
  refine awp_drawc follows ?_
  refine Cr [] (fun _ _=>mv')<|Cr [] (fun _ _=>mv')<|Cr [] (fun _ _=>mv')<|Cr [] (fun _ _=>ad')<|Cr [903] (fun H1 hH=>by exact x_slice_osl (l:=i+1) (h:=i+(ps.length+1 - i)) rfl so36 rfl ((hH 903 rfl).trans rfl) rfl rfl rfl rfl (by omega) (by omega) (Nat.zero_add _) (by omega:i+(ps.length+1 - i) - (i+1)=ps.length - i))<|Cr [] (fun _ _=>mv')<|Cr [] (fun _ _=>mv')<|Cr [901] (fun H1 hH=>by exact x_slice_osc (l:=i) (h:=ps.length) rfl so36 rfl ((hH 901 rfl).trans h1) rfl rfl rfl rfl (by omega) (by omega) (Nat.zero_add _) rfl rfl)<|Cp [901,903] (fun H1 hH=>by exact x_copy (n:=ps.length - i) rfl so36 (dst_of_osl rfl ((hH 903 rfl).trans rfl) rfl) ((hH 903 rfl).trans rfl) rfl rfl (by simp only [List.length_append,List.length_take,List.length_replicate,List.length_cons,hpl];omega) (src_of_osc (k:=ps.length - i) rfl ((hH 901 rfl).trans h1) rfl rfl (by omega) (by rw [hpl];omega) rfl) (fun r hr=>hR r (List.mem_of_mem_drop (List.mem_of_mem_take hr))) (by rw [List.length_take,List.length_drop,hpl];omega) (by omega) (ins_b hpl hin)) ?_
  refine dc_nil ⟨by kernel_rfl,?_⟩
  refine Sq<|Rg<|Dd mv'<|Dd as'<|Zz<|awp_ret ?_
  refine aret1 (H':=((901,⟨g+3,6,49,[]⟩)::H)) (.inr rfl) rfl (rval_tmp rfl) ((Fin.sliceG (id:=903) (g:=0) ⟨0,6,49,(pvR ps).take i++p.map AV.pv::(pvR ps).drop i⟩ (ps.take i++p::ps.drop i) (fun j=>by cases e:Nat.beq 903 j<;>simp [Heap.get,e]) rfl hfin.symm (by simp only [List.length_append,List.length_take,List.length_cons,List.length_drop];omega) hc h3 h3).trans (Fin.deadO (k:=g+3) (sz:=6) (ty:=49) h1 (by show g < g+3;omega) (Nat.le_of_ble_eq_true rfl) rfl rfl)) ?_
  exact⟨rfl,rfl⟩
 have hle:ps.length+1≤c:=by have:=of_decide_eq_false hc3;omega
 obtain ⟨x,hx⟩:=ins_c hpl hin
 refine awp_skip<|Sq<|Rg<|Dd mv'<|Dd mv'<|Dd mv'<|Dd ad'<|Dd (by exact x_slice_osc (l:=0) (h:=ps.length+1) rfl so36 rfl h1 rfl rfl rfl rfl (by omega) hle rfl rfl rfl)<|Dd as'<|Zz<|Sq<|Sq<|Rg<|Dd mv'<|Dd mv'<|Dd mv'<|Dd mv'<|Dd ad'<|Dd (by exact x_slice_osc (l:=i+1) (h:=ps.length+1) rfl so36 rfl h1 rfl rfl rfl rfl (by omega) hle (Nat.zero_add _) (by omega:ps.length+1 - (i+1)=ps.length - i) rfl)<|Dd (by exact ovop_Obj rfl rfl rfl h2 rfl h1 rfl rfl (by omega) (by omega))<|Dd no'<|Zz ?_
 refine Cn (fun hc4=>?_) fun hc4=>?_
 ·skip
  refine Sq ?_
  refine awp_drawc follows ?_
  refine Cr [] (fun _ _=>mv')<|Cr [] (fun _ _=>mv')<|Cr [] (fun _ _=>mv')<|Cr [] (fun _ _=>ad')<|Cr [901] (fun H1 hH=>by exact x_slice_osc (l:=i+1) (h:=ps.length+1) rfl so36 rfl ((hH 901 rfl).trans h1) rfl rfl rfl rfl (by omega) hle (Nat.zero_add _) (by omega:ps.length+1 - (i+1)=ps.length - i) rfl)<|Cr [] (fun _ _=>mv')<|Cr [] (fun _ _=>mv')<|Cr [901] (fun H1 hH=>by exact x_slice_osc (l:=i) (h:=ps.length+1) rfl so36 rfl ((hH 901 rfl).trans h1) rfl rfl rfl rfl (by omega) hle (Nat.zero_add _) rfl rfl)<|Cp [901] (fun H1 hH=>by exact x_copy (n:=ps.length - i) rfl so36 (dst_of_osc rfl) ((hH 901 rfl).trans h1) rfl rfl (by rw [hpl];omega) (src_of_osc (k:=ps.length - i) rfl ((hH 901 rfl).trans h1) rfl rfl (by omega) (by rw [hpl];omega) rfl) (fun r hr=>hR r (List.mem_of_mem_drop (List.mem_of_mem_take hr))) (by rw [List.length_take,List.length_drop,hpl];omega) (by omega) hx) ?_
  refine dc_nil ⟨by kernel_rfl,?_⟩
  refine Sq<|Rg<|Dd mv'<|Dd mv'<|Dd (by exact x_slice_osc (l:=i) (h:=ps.length+1) rfl so36 rfl rfl rfl rfl rfl rfl (by omega) hle (Nat.zero_add _) rfl rfl)<|Dd mv'<|Dd (by exact x_copy (n:=1) rfl so36 (dst_of_osc rfl) rfl rfl rfl (by simp only [List.length_append,List.length_take,List.length_cons,hpl];omega) (src_of_osl (k:=1) rfl h2 rfl rfl (by omega) rfl) hp1 rfl (by omega) (ins_d (p.map AV.pv) x hpl hin))<|Zz<|Sq ?_
  refine awp_uncap (t:=0) rfl rfl rfl (by simp only [List.length_append,List.length_take,List.length_cons,List.length_drop,hpl];omega) ?_
  refine Rg<|Dd mv'<|Dd as'<|Zz<|awp_ret ?_
  refine aret1 (H':=((901,⟨g+3,6,49,[]⟩)::H)) (.inr rfl) rfl (rval_tmp rfl) (Fin.deadG (id:=901) (k:=g+3) (sz:=6) (ty:=49) (rows:=(pvR ps).take i++p.map AV.pv::(pvR ps).drop i) (qs:=ps.take i++p::ps.drop i) (ps.take i++p::ps.drop i) (fun j=>by cases e:Nat.beq 901 j<;>simp [Heap.get,e]) (by omega) rfl hfin.symm (by rw [List.drop_zero];exact List.take_of_length_le (by simp only [List.length_append,List.length_take,List.length_cons,List.length_drop];omega))) ?_
  exact⟨rfl,rfl⟩
 cases hc4
/-- slices.Delete at planisphere/api.Object. -/
theorem delete_Obj (ps:List (List PV)) (i j g:Nat) (H:Heap) (hc:Closed H) (h1:H.get 901=some ⟨g,6,49,pvR ps⟩) (hl:ps.length < 1099511627776) (hij:i≤j) (hj:j≤ps.length) (hrl:∀ r∈ps,r.length=6) :
  ACalls Tryz.prog 170 [.osl 901 g 0 ps.length,iv (i:Int),iv (j:Int)] H (fun r H'=>r=.pv (.sl (ps.take i++ps.drop j))∧H'=(901,⟨g+3,6,49,[]⟩)::H):=by
 have hpl:(pvR ps).length=ps.length:=pvR_len ps
 have hR:=pvR_rl hrl
 refine Bd Tryz.func170 rfl Tryz.ntmps170 ?_
 refine awp_cap (t:=0) rfl h1 rfl ?_
 intro c hcn hcm
 refine Sq<|Rg<|Dd as'<|Zz<|Sq<|Rg<|Dd mv'<|Dd mv'<|Dd mv'<|Dd mv'<|Dd (by exact opd_len_osc rfl Tryz.underlying36 rfl h1 rfl)<|Dd (by exact x_slice_chk (l:=i) (h:=j) (m:=ps.length) rfl so36 rfl h1 rfl rfl rfl rfl hij hj hcn)<|Zz<|Sq<|Sq<|Rg<|Dd mv'<|Dd mv'<|Dd eql'<|Zz ?_
 refine Cn (fun hc1=>?_) fun hc1=>?_
 ·have e:i=j:=by have:=of_decide_eq_true hc1;omega
  subst e
  refine awp_uncap (t:=0) rfl h1 rfl (by rw [hpl];omega) ?_
  refine Sq<|Rg<|Dd mv'<|Dd as'<|Zz<|awp_ret ?_
  refine aret1 (H':=((901,⟨g+3,6,49,[]⟩)::H)) (.inr rfl) rfl (rval_tmp rfl) ((Fin.deadS (g:=g) (k:=g+3) (sz:=6) (ty:=49) ps h1 rfl (by omega) (Nat.le_of_ble_eq_true rfl) rfl rfl rfl (qs:=ps.take i++ps.drop i) (by rw [Nat.zero_add,List.drop_zero,List.take_length,List.take_append_drop]))) ?_
  exact⟨rfl,rfl⟩
 have hne:i < j:=by have:=of_decide_eq_false hc1;omega
 have hd:=del_a hpl hij hj
 have hlen:((pvR ps).take i++(((pvR ps).drop j).take (ps.length - j)++(pvR ps).drop (i+(ps.length - j)))).length=ps.length:=by
  simp only [List.length_append,List.length_take,List.length_drop,hpl];omega
 refine awp_skip<|Sq<|Rg<|Dd mv'<|Dd (by exact opd_len_osc rfl Tryz.underlying36 rfl h1 rfl)<|Dd as'<|Zz<|Sq ?_
 refine awp_drawc follows ?_
 refine Cr [] (fun _ _=>mv')<|Cr [] (fun _ _=>mv')<|Cr [901] (fun H1 hH=>by exact x_slice_osc (l:=0) (h:=i) rfl so36 rfl ((hH 901 rfl).trans h1) rfl rfl rfl rfl (by omega) (by omega) rfl (Nat.sub_zero _) (Nat.sub_zero _))<|Cr [] (fun _ _=>mv')<|Cr [] (fun _ _=>mv')<|Cr [901] (fun H1 hH=>by exact x_slice_osc (l:=j) (h:=ps.length) rfl so36 rfl ((hH 901 rfl).trans h1) rfl rfl rfl rfl (by omega) hcn (Nat.zero_add _) rfl rfl)<|Cp [901] (fun H1 hH=>by exact x_append_room (m:=ps.length - j) (rows':=(pvR ps).take i++(((pvR ps).drop j).take (ps.length - j)++(pvR ps).drop (i+(ps.length - j)))) rfl so36 ei49 rfl ((hH 901 rfl).trans h1) rfl rfl rfl (by rw [hpl];omega) (src_of_osc (k:=ps.length - j) rfl ((hH 901 rfl).trans h1) rfl rfl (by omega) (by rw [hpl];omega) rfl) (fun r hr=>hR r (List.mem_of_mem_drop (List.mem_of_mem_take hr))) (by rw [List.length_take,List.length_drop,hpl];omega) (by omega) rfl (by rw [Nat.zero_add])) ?_
 refine Cr [] (fun _ _=>as') ?_
 refine dc_nil ⟨by kernel_rfl,?_⟩
 refine Sq<|Rg<|Dd mv'<|Dd mv'<|Dd (by exact opd_len_osc rfl Tryz.underlying36 rfl rfl rfl)<|Dd mv'<|Dd (by exact x_slice_osc (l:=i+(ps.length - j)) (h:=ps.length) rfl so36 rfl rfl rfl rfl rfl rfl (by omega) hcn (Nat.zero_add _) rfl rfl)<|Uu (by exact opd_clear rfl so36 zo49 rfl rfl rfl rfl rfl (by rw [hlen];omega) (by rw [hd,show i+(ps.length - j)+(ps.length - (i+(ps.length - j)))=ps.length by omega,List.drop_eq_nil_of_le (Nat.le_of_eq hlen),List.append_nil]))<|Zz<|Sq ?_
 refine awp_uncap (t:=0) rfl rfl rfl (by simp only [List.length_append,List.length_take,List.length_drop,hpl];omega) ?_
 refine Rg<|Dd mv'<|Dd as'<|Zz<|awp_ret ?_
 refine aret1 (H':=((901,⟨g+3,6,49,[]⟩)::H)) (.inr rfl) rfl (rval_tmp rfl) (Fin.deadG (id:=901) (k:=g+3) (sz:=6) (ty:=49) (rows:=(pvR ps).take i++(pvR ps).drop j++List.replicate (ps.length - (i+(ps.length - j))) (List.map AV.pv [.str ⟨#[]⟩,.int .i64 0,.int .i64 0,.int .i64 0,.sl [],.sl []])) (qs:=ps.take i++ps.drop j) ((ps.take i++ps.drop j)++List.replicate (ps.length - (i+(ps.length - j))) [.str ⟨#[]⟩,.int .i64 0,.int .i64 0,.int .i64 0,.sl [],.sl []]) (fun j=>by cases e:Nat.beq 901 j<;>simp [Heap.get,e]) (by omega) rfl (by rw [List.map_append,List.map_replicate,List.map_append,pvR_take,pvR_drop]) (by rw [List.drop_zero];exact List.take_left' (by simp only [List.length_append,List.length_take,List.length_drop];omega))) ?_
 exact⟨rfl,rfl⟩
/-- slices.Clone at planisphere/api.Tag. -/
theorem clone_Tag (ps:List (List PV)) (H:Heap) (hc:Closed H) (h1:H.get 901=none) (h2:H.get 902=none) (hl:ps.length < 1099511627776) (hrl:∀ r∈ps,r.length=2) :
  ACalls Tryz.prog 206 [.pv (.sl ps)] H (fun r H'=>r=.osl 901 1 0 ps.length∧H'=(901,⟨1,2,117,pvR ps⟩)::H):=by
 refine Bd Tryz.func206 rfl Tryz.ntmps206<|Sq<|Rg<|Dd as'<|Zz<|Sq<|Sq<|Rg<|Dd mv' ?_
 refine al_r rfl rfl (opr_sl_nil rfl Tryz.underlying47 rfl) ?_
 rintro _ H2 ⟨e2,b,rfl,hb⟩
 rw [e2]
 clear e2 H2
 refine Zz ?_
 refine Cn (fun hc1=>?_) fun hc1=>?_
 ·have h0:=hb hc1
  subst h0
  refine Sq<|Rg<|Dd (by exact opd_assign_own (id:=901) (sz:=2) (ty:=117) rfl h1 rfl)<|Zz<|awp_ret ?_
  refine aret1 (H':=((901,⟨1,2,117,[]⟩)::H)) (.inr rfl) rfl (rval_tmp rfl) ((Fin.bump (g:=0) (k:=1) rfl rfl (by decide) rfl rfl rfl).trans (Fin.get' (fun j=>get_dup _ _ _ _ j))) ?_
  exact⟨rfl,rfl⟩
 skip
 refine awp_skip<|Sq<|Rg<|Dd (by exact x_buildSlice_own (id:=901) rfl so47 rfl rfl rfl rfl (by simp) h1)<|Dd mv'<|Dd (by exact x_append rfl so47 ei117 rfl rfl rfl rfl rfl rfl rfl hrl rfl (by omega) (Nat.zero_add _) (List.nil_append _))<|Dd as'<|Zz<|awp_ret ?_
 refine aret1 (H':=((901,⟨1,2,117,pvR ps⟩)::H)) (.inr rfl) rfl (rval_tmp rfl) (Fin.get' (fun j=>get_dup _ _ _ _ j)) ?_
 exact⟨rfl,rfl⟩
/-- The model's entry for slices.overlaps. -/
theorem ov_Tag:(Tryz.f243.name == "runtime.NumGoroutine")=false∧Tryz.f243.body.isNone=true∧Extern.findNext Tryz.f243=none∧Extern.find Tryz.f243=some (Extern.SlicesOverlaps.overlaps #[47,47] #[4]):=⟨by kernel_rfl,by kernel_rfl,by kernel_rfl,by kernel_rfl⟩
theorem ovop_Tag {N:Nat} {o:Oper} {E:Env} {H:Heap} {x y:Operand} {at_:Array TypeId} {id1 g1 off1 n1 id2 g2 off2 n2 c2:Nat} {o1 o2:Ob} (ho:o.op=.call {callee:=.value (.func 243),args:=#[x,y],argTypes:=at_}) (hx:aeval E x=some (.osl id1 g1 off1 n1)) (hy:aeval E y=some (.osc id2 g2 off2 n2 c2))
  (h1:H.get id1=some o1) (hg1:o1.g=g1) (h2:H.get id2=some o2) (hg2:o2.g=g2) (hne:Nat.beq id1 id2=false) (hp1:0 < n1) (hpos:0 < n2+c2):OpD Tryz.prog N o E H (.pv (.bool false)) H:=by
 have hv:aargs E (#[x,y]:Array Operand).toList=some [.osl id1 g1 off1 n1,.osc id2 g2 off2 n2 c2]:=by simp only [aargs,hx,hy]
 have hF:Tryz.prog.funcs[(243:Nat)]?=some Tryz.f243:=Tryz.func243
 exact opd_extr ho (f:=.func 243) (F:=243) rfl hF ov_Tag.1 ov_Tag.2.1 ov_Tag.2.2.1 ov_Tag.2.2.2 hv (ext_overlaps so47 h1 hg1 h2 hg2 hne hp1 hpos)
/-- slices.Insert of one element at planisphere/api.Tag. -/
theorem insert_Tag (ps:List (List PV)) (p:List PV) (i g:Nat) (H:Heap) (hc:Closed H) (h1:H.get 901=some ⟨g,2,117,pvR ps⟩) (h2:H.get 902=some ⟨0,2,117,[p.map .pv]⟩) (h3:H.get 903=none) (hl:ps.length < 1099511627776) (hi:i≤ps.length) (hrl:∀ r∈ps,r.length=2) (hp:p.length=2) :
  ACalls Tryz.prog 208 [.osl 901 g 0 ps.length,iv (i:Int),.osl 902 0 0 1] H (fun r H'=>r=.pv (.sl (ps.take i++p::ps.drop i))∧H'=(901,⟨g+3,2,117,[]⟩)::H):=by
 have hpl:(pvR ps).length=ps.length:=pvR_len ps
 have hR:=pvR_rl hrl
 have hp1:∀ r∈[p.map AV.pv],r.length=2:=by intro r hr;rw [List.mem_singleton] at hr;subst hr;rw [List.length_map];exact hp
 have hfin:pvR (ps.take i++p::ps.drop i)=(pvR ps).take i++p.map AV.pv::(pvR ps).drop i:=by rw [pvR_take,pvR_drop,pvR,List.map_append,List.map_cons]
 refine Bd Tryz.func208 rfl Tryz.ntmps208 ?_
 refine awp_cap (t:=0) rfl h1 rfl ?_
 intro c hcn hcm
 refine Sq<|Rg<|Dd as'<|Zz<|Sq<|Rg<|Dd mv'<|Dd mv'<|Dd (by exact x_slice_osc (l:=i) (h:=ps.length) rfl so47 rfl h1 rfl rfl rfl rfl hi hcn rfl rfl rfl)<|Zz<|Sq<|Rg<|Dd mv'<|Dd (by exact opd_len_osl rfl Tryz.underlying47 rfl h2 rfl)<|Dd as'<|Zz<|Sq<|Sq<|Rg<|Dd mv'<|Dd eql'<|Zz ?_
 refine Cn (fun hc1=>?_) fun hc1=>?_
 ·cases hc1
 skip
 refine awp_skip<|Sq<|Rg<|Dd mv'<|Dd (by exact opd_len_osc rfl Tryz.underlying47 rfl h1 rfl)<|Dd as'<|Zz<|Sq<|Sq<|Rg<|Dd mv'<|Dd mv'<|Dd eql'<|Zz ?_
 refine Cn (fun hc2=>?_) fun hc2=>?_
 ·have hin:i=ps.length:=by have:=of_decide_eq_true hc2;omega
  subst hin
  refine awp_uncap (t:=0) rfl h1 rfl (by rw [hpl];omega) ?_
  refine Sq<|Rg<|Dd mv'<|Dd mv'<|Dd (by exact x_append_osl rfl so47 ei117 rfl h1 rfl rfl rfl hpl rfl h2 rfl rfl hp1 (by simp) (by omega) rfl rfl)<|Dd as'<|Zz<|awp_ret ?_
  refine aret1 (H':=((901,⟨g+3,2,117,[]⟩)::H)) (.inr rfl) rfl (rval_tmp rfl) ((Fin.deadS (g:=g+1) (k:=g+3) (sz:=2) (ty:=117) (ps++[p]) rfl rfl (by omega) (Nat.le_of_ble_eq_true rfl) rfl rfl (by rw [List.map_append];rfl) (qs:=ps.take ps.length++p::ps.drop ps.length) (by rw [List.take_of_length_le (by simp),List.drop_zero,List.take_length,List.drop_length])).trans (Fin.get' (fun j=>get_dup _ _ _ _ j))) ?_
  exact⟨rfl,rfl⟩
 have hin:i < ps.length:=by have:=of_decide_eq_false hc2;omega
 refine awp_skip<|Sq<|Sq<|Rg<|Dd mv'<|Dd mv'<|Dd ad'<|Dd mv'<|Dd (by exact opd_cap_osc rfl Tryz.underlying47 rfl h1 rfl)<|Dd gt'<|Zz ?_
 refine Cn (fun hc3=>?_) fun hc3=>?_
 ·have hgt:c < ps.length+1:=by have:=of_decide_eq_true hc3;omega
  refine Sq<|Rg<|Dd mv'<|Dd mv'<|Dd (by exact x_slice_osc (l:=0) (h:=i) rfl so47 rfl h1 rfl rfl rfl rfl (by omega) (by omega) rfl rfl rfl)<|Dd mv'<|Dd mv'<|Dd ad'<|Dd mv'<|Dd (by exact opd_sub rfl rfl rfl (by exact w64 (by omega) (by omega)))<|Dd (by exact x_append_zeros (id2:=903) (m:=ps.length+1 - i) rfl so47 Tryz.underlying3 ei117 zo117 rfl rfl h1 rfl rfl (by rw [hpl];omega) rfl (by omega) (by omega) (by omega) rfl (by omega) h3 rfl)<|Dd as'<|Zz<|Sq<|Rg<|Dd mv'<|Dd mv'<|Dd (by exact x_slice_osl (l:=i) (h:=i+(ps.length+1 - i)) rfl so47 rfl rfl rfl rfl rfl rfl (by omega) (by omega) (Nat.zero_add _) (by omega:i+(ps.length+1 - i) - i=ps.length+1 - i))<|Dd mv'<|Dd (by exact x_copy (n:=1) rfl so47 (dst_of_osl rfl rfl rfl) rfl rfl rfl (by simp only [List.length_append,List.length_take,List.length_replicate,hpl];omega) (src_of_osl (k:=1) rfl h2 rfl rfl (by omega) rfl) hp1 rfl (by omega) (ins_a (p.map AV.pv) hpl hin)) ?_
  refine Zz<|Sq ?_
  refine awp_drawc follows ?_
  refine Cr [] (fun _ _=>mv')<|Cr [] (fun _ _=>mv')<|Cr [] (fun _ _=>mv')<|Cr [] (fun _ _=>ad')<|Cr [903] (fun H1 hH=>by exact x_slice_osl (l:=i+1) (h:=i+(ps.length+1 - i)) rfl so47 rfl ((hH 903 rfl).trans rfl) rfl rfl rfl rfl (by omega) (by omega) (Nat.zero_add _) (by omega:i+(ps.length+1 - i) - (i+1)=ps.length - i))<|Cr [] (fun _ _=>mv')<|Cr [] (fun _ _=>mv')<|Cr [901] (fun H1 hH=>by exact x_slice_osc (l:=i) (h:=ps.length) rfl so47 rfl ((hH 901 rfl).trans h1) rfl rfl rfl rfl (by omega) (by omega) (Nat.zero_add _) rfl rfl)<|Cp [901,903] (fun H1 hH=>by exact x_copy (n:=ps.length - i) rfl so47 (dst_of_osl rfl ((hH 903 rfl).trans rfl) rfl) ((hH 903 rfl).trans rfl) rfl rfl (by simp only [List.length_append,List.length_take,List.length_replicate,List.length_cons,hpl];omega) (src_of_osc (k:=ps.length - i) rfl ((hH 901 rfl).trans h1) rfl rfl (by omega) (by rw [hpl];omega) rfl) (fun r hr=>hR r (List.mem_of_mem_drop (List.mem_of_mem_take hr))) (by rw [List.length_take,List.length_drop,hpl];omega) (by omega) (ins_b hpl hin)) ?_
  refine dc_nil ⟨by kernel_rfl,?_⟩
  refine Sq<|Rg<|Dd mv'<|Dd as'<|Zz<|awp_ret ?_
  refine aret1 (H':=((901,⟨g+3,2,117,[]⟩)::H)) (.inr rfl) rfl (rval_tmp rfl) ((Fin.sliceG (id:=903) (g:=0) ⟨0,2,117,(pvR ps).take i++p.map AV.pv::(pvR ps).drop i⟩ (ps.take i++p::ps.drop i) (fun j=>by cases e:Nat.beq 903 j<;>simp [Heap.get,e]) rfl hfin.symm (by simp only [List.length_append,List.length_take,List.length_cons,List.length_drop];omega) hc h3 h3).trans (Fin.deadO (k:=g+3) (sz:=2) (ty:=117) h1 (by show g < g+3;omega) (Nat.le_of_ble_eq_true rfl) rfl rfl)) ?_
  exact⟨rfl,rfl⟩
 have hle:ps.length+1≤c:=by have:=of_decide_eq_false hc3;omega
 obtain ⟨x,hx⟩:=ins_c hpl hin
 refine awp_skip<|Sq<|Rg<|Dd mv'<|Dd mv'<|Dd mv'<|Dd ad'<|Dd (by exact x_slice_osc (l:=0) (h:=ps.length+1) rfl so47 rfl h1 rfl rfl rfl rfl (by omega) hle rfl rfl rfl)<|Dd as'<|Zz<|Sq<|Sq<|Rg<|Dd mv'<|Dd mv'<|Dd mv'<|Dd mv'<|Dd ad'<|Dd (by exact x_slice_osc (l:=i+1) (h:=ps.length+1) rfl so47 rfl h1 rfl rfl rfl rfl (by omega) hle (Nat.zero_add _) (by omega:ps.length+1 - (i+1)=ps.length - i) rfl)<|Dd (by exact ovop_Tag rfl rfl rfl h2 rfl h1 rfl rfl (by omega) (by omega))<|Dd no'<|Zz ?_
 refine Cn (fun hc4=>?_) fun hc4=>?_
 ·skip
  refine Sq ?_
  refine awp_drawc follows ?_
  refine Cr [] (fun _ _=>mv')<|Cr [] (fun _ _=>mv')<|Cr [] (fun _ _=>mv')<|Cr [] (fun _ _=>ad')<|Cr [901] (fun H1 hH=>by exact x_slice_osc (l:=i+1) (h:=ps.length+1) rfl so47 rfl ((hH 901 rfl).trans h1) rfl rfl rfl rfl (by omega) hle (Nat.zero_add _) (by omega:ps.length+1 - (i+1)=ps.length - i) rfl)<|Cr [] (fun _ _=>mv')<|Cr [] (fun _ _=>mv')<|Cr [901] (fun H1 hH=>by exact x_slice_osc (l:=i) (h:=ps.length+1) rfl so47 rfl ((hH 901 rfl).trans h1) rfl rfl rfl rfl (by omega) hle (Nat.zero_add _) rfl rfl)<|Cp [901] (fun H1 hH=>by exact x_copy (n:=ps.length - i) rfl so47 (dst_of_osc rfl) ((hH 901 rfl).trans h1) rfl rfl (by rw [hpl];omega) (src_of_osc (k:=ps.length - i) rfl ((hH 901 rfl).trans h1) rfl rfl (by omega) (by rw [hpl];omega) rfl) (fun r hr=>hR r (List.mem_of_mem_drop (List.mem_of_mem_take hr))) (by rw [List.length_take,List.length_drop,hpl];omega) (by omega) hx) ?_
  refine dc_nil ⟨by kernel_rfl,?_⟩
  refine Sq<|Rg<|Dd mv'<|Dd mv'<|Dd (by exact x_slice_osc (l:=i) (h:=ps.length+1) rfl so47 rfl rfl rfl rfl rfl rfl (by omega) hle (Nat.zero_add _) rfl rfl)<|Dd mv'<|Dd (by exact x_copy (n:=1) rfl so47 (dst_of_osc rfl) rfl rfl rfl (by simp only [List.length_append,List.length_take,List.length_cons,hpl];omega) (src_of_osl (k:=1) rfl h2 rfl rfl (by omega) rfl) hp1 rfl (by omega) (ins_d (p.map AV.pv) x hpl hin))<|Zz<|Sq ?_
  refine awp_uncap (t:=0) rfl rfl rfl (by simp only [List.length_append,List.length_take,List.length_cons,List.length_drop,hpl];omega) ?_
  refine Rg<|Dd mv'<|Dd as'<|Zz<|awp_ret ?_
  refine aret1 (H':=((901,⟨g+3,2,117,[]⟩)::H)) (.inr rfl) rfl (rval_tmp rfl) (Fin.deadG (id:=901) (k:=g+3) (sz:=2) (ty:=117) (rows:=(pvR ps).take i++p.map AV.pv::(pvR ps).drop i) (qs:=ps.take i++p::ps.drop i) (ps.take i++p::ps.drop i) (fun j=>by cases e:Nat.beq 901 j<;>simp [Heap.get,e]) (by omega) rfl hfin.symm (by rw [List.drop_zero];exact List.take_of_length_le (by simp only [List.length_append,List.length_take,List.length_cons,List.length_drop];omega))) ?_
  exact⟨rfl,rfl⟩
 cases hc4
/-- slices.Delete at planisphere/api.Tag. -/
theorem delete_Tag (ps:List (List PV)) (i j g:Nat) (H:Heap) (hc:Closed H) (h1:H.get 901=some ⟨g,2,117,pvR ps⟩) (hl:ps.length < 1099511627776) (hij:i≤j) (hj:j≤ps.length) (hrl:∀ r∈ps,r.length=2) :
  ACalls Tryz.prog 207 [.osl 901 g 0 ps.length,iv (i:Int),iv (j:Int)] H (fun r H'=>r=.pv (.sl (ps.take i++ps.drop j))∧H'=(901,⟨g+3,2,117,[]⟩)::H):=by
 have hpl:(pvR ps).length=ps.length:=pvR_len ps
 have hR:=pvR_rl hrl
 refine Bd Tryz.func207 rfl Tryz.ntmps207 ?_
 refine awp_cap (t:=0) rfl h1 rfl ?_
 intro c hcn hcm
 refine Sq<|Rg<|Dd as'<|Zz<|Sq<|Rg<|Dd mv'<|Dd mv'<|Dd mv'<|Dd mv'<|Dd (by exact opd_len_osc rfl Tryz.underlying47 rfl h1 rfl)<|Dd (by exact x_slice_chk (l:=i) (h:=j) (m:=ps.length) rfl so47 rfl h1 rfl rfl rfl rfl hij hj hcn)<|Zz<|Sq<|Sq<|Rg<|Dd mv'<|Dd mv'<|Dd eql'<|Zz ?_
 refine Cn (fun hc1=>?_) fun hc1=>?_
 ·have e:i=j:=by have:=of_decide_eq_true hc1;omega
  subst e
  refine awp_uncap (t:=0) rfl h1 rfl (by rw [hpl];omega) ?_
  refine Sq<|Rg<|Dd mv'<|Dd as'<|Zz<|awp_ret ?_
  refine aret1 (H':=((901,⟨g+3,2,117,[]⟩)::H)) (.inr rfl) rfl (rval_tmp rfl) ((Fin.deadS (g:=g) (k:=g+3) (sz:=2) (ty:=117) ps h1 rfl (by omega) (Nat.le_of_ble_eq_true rfl) rfl rfl rfl (qs:=ps.take i++ps.drop i) (by rw [Nat.zero_add,List.drop_zero,List.take_length,List.take_append_drop]))) ?_
  exact⟨rfl,rfl⟩
 have hne:i < j:=by have:=of_decide_eq_false hc1;omega
 have hd:=del_a hpl hij hj
 have hlen:((pvR ps).take i++(((pvR ps).drop j).take (ps.length - j)++(pvR ps).drop (i+(ps.length - j)))).length=ps.length:=by
  simp only [List.length_append,List.length_take,List.length_drop,hpl];omega
 refine awp_skip<|Sq<|Rg<|Dd mv'<|Dd (by exact opd_len_osc rfl Tryz.underlying47 rfl h1 rfl)<|Dd as'<|Zz<|Sq ?_
 refine awp_drawc follows ?_
 refine Cr [] (fun _ _=>mv')<|Cr [] (fun _ _=>mv')<|Cr [901] (fun H1 hH=>by exact x_slice_osc (l:=0) (h:=i) rfl so47 rfl ((hH 901 rfl).trans h1) rfl rfl rfl rfl (by omega) (by omega) rfl (Nat.sub_zero _) (Nat.sub_zero _))<|Cr [] (fun _ _=>mv')<|Cr [] (fun _ _=>mv')<|Cr [901] (fun H1 hH=>by exact x_slice_osc (l:=j) (h:=ps.length) rfl so47 rfl ((hH 901 rfl).trans h1) rfl rfl rfl rfl (by omega) hcn (Nat.zero_add _) rfl rfl)<|Cp [901] (fun H1 hH=>by exact x_append_room (m:=ps.length - j) (rows':=(pvR ps).take i++(((pvR ps).drop j).take (ps.length - j)++(pvR ps).drop (i+(ps.length - j)))) rfl so47 ei117 rfl ((hH 901 rfl).trans h1) rfl rfl rfl (by rw [hpl];omega) (src_of_osc (k:=ps.length - j) rfl ((hH 901 rfl).trans h1) rfl rfl (by omega) (by rw [hpl];omega) rfl) (fun r hr=>hR r (List.mem_of_mem_drop (List.mem_of_mem_take hr))) (by rw [List.length_take,List.length_drop,hpl];omega) (by omega) rfl (by rw [Nat.zero_add])) ?_
 refine Cr [] (fun _ _=>as') ?_
 refine dc_nil ⟨by kernel_rfl,?_⟩
 refine Sq<|Rg<|Dd mv'<|Dd mv'<|Dd (by exact opd_len_osc rfl Tryz.underlying47 rfl rfl rfl)<|Dd mv'<|Dd (by exact x_slice_osc (l:=i+(ps.length - j)) (h:=ps.length) rfl so47 rfl rfl rfl rfl rfl rfl (by omega) hcn (Nat.zero_add _) rfl rfl)<|Uu (by exact opd_clear rfl so47 zo117 rfl rfl rfl rfl rfl (by rw [hlen];omega) (by rw [hd,show i+(ps.length - j)+(ps.length - (i+(ps.length - j)))=ps.length by omega,List.drop_eq_nil_of_le (Nat.le_of_eq hlen),List.append_nil]))<|Zz<|Sq ?_
 refine awp_uncap (t:=0) rfl rfl rfl (by simp only [List.length_append,List.length_take,List.length_drop,hpl];omega) ?_
 refine Rg<|Dd mv'<|Dd as'<|Zz<|awp_ret ?_
 refine aret1 (H':=((901,⟨g+3,2,117,[]⟩)::H)) (.inr rfl) rfl (rval_tmp rfl) (Fin.deadG (id:=901) (k:=g+3) (sz:=2) (ty:=117) (rows:=(pvR ps).take i++(pvR ps).drop j++List.replicate (ps.length - (i+(ps.length - j))) (List.map AV.pv [.str ⟨#[]⟩,.str ⟨#[]⟩])) (qs:=ps.take i++ps.drop j) ((ps.take i++ps.drop j)++List.replicate (ps.length - (i+(ps.length - j))) [.str ⟨#[]⟩,.str ⟨#[]⟩]) (fun j=>by cases e:Nat.beq 901 j<;>simp [Heap.get,e]) (by omega) rfl (by rw [List.map_append,List.map_replicate,List.map_append,pvR_take,pvR_drop]) (by rw [List.drop_zero];exact List.take_left' (by simp only [List.length_append,List.length_take,List.length_drop];omega))) ?_
 exact⟨rfl,rfl⟩
end
section
theorem badTag_iff {last:ByteArray} {t:GTag}:badTag last t=false↔gName t.key=true∧slt last t.key=true∧t.val≠sNil∧t.val.size≤200:=by
 simp only [badTag,Bool.or_eq_false_iff,Bool.not_eq_false',sle_iff,decide_eq_false_iff_not]
 constructor
 ·rintro⟨⟨⟨h1,h2⟩,h3⟩,h4⟩
  exact⟨h1,h2,h3,by omega⟩
 rintro⟨h1,h2,h3,h4⟩
 exact⟨⟨⟨h1,h2⟩,h3⟩,by omega⟩
theorem slt_pos {s:ByteArray} (h:s≠sNil):slt sNil s=true:=by
 cases e:slt sNil s with
 | true=>rfl
 | false=>exact absurd (slt_tri (slt_nil s) e) h
theorem gTags_iff {l:List GTag}:gTags l=true↔(∀ t,t∈l→gName t.key=true∧t.val≠sNil∧t.val.size≤200)∧asc GTag.key l∧l.length≤60:=by
 have hlen:decide ((l.length:Int)≤60)=decide (l.length≤60):=by
  rw [Bool.eq_iff_iff,decide_eq_true_eq,decide_eq_true_eq];omega
 rw [gTags,hlen,Bool.and_eq_true,Bool.not_eq_true',List.any_eq_false,decide_eq_true_eq]
 constructor
 ·rintro⟨h,hn⟩
  have hb:∀ k t,l[k]?=some t→gName t.key=true∧slt (before GTag.key l k) t.key=true∧t.val≠sNil∧t.val.size≤200:=fun k t hk=>by
   have h1:=h k (List.mem_range.2 (List.getElem?_eq_some_iff.1 hk).1)
   rw [badAt,hk] at h1
   simp only [Bool.not_eq_true] at h1
   exact badTag_iff.1 h1
  refine⟨fun t ht=>?_,?_,hn⟩
  ·obtain ⟨k,hk⟩:=List.mem_iff_getElem?.1 ht
   obtain ⟨a,_,b,c⟩:=hb k t hk
   exact⟨a,b,c⟩
  have key:∀ (d i:Nat) (a b:GTag),l[i]?=some a→l[i+d+1]?=some b→slt a.key b.key=true:=by
   intro d
   induction d with
   | zero =>
    intro i a b ha hb'
    have:=(hb (i+1) b hb').2.1
    rw [before,ha] at this
    exact this
   | succ d ih =>
    intro i a b ha hb'
    have hlt:i+d+1 < l.length:=by have:=(List.getElem?_eq_some_iff.1 hb').1;omega
    obtain ⟨x,hx⟩:=get_of_lt hlt
    have h2:=(hb (i+(d+1)+1) b hb').2.1
    rw [before,show i+(d+1)=i+d+1 by omega,hx] at h2
    exact slt_trans (ih i a x ha hx) h2
  rw [asc,List.pairwise_iff_getElem]
  intro i j hi hj hij
  exact key (j - i - 1) i _ _ (List.getElem?_eq_getElem hi) (by rw [show i+(j - i - 1)+1=j by omega];exact List.getElem?_eq_getElem hj)
 rintro⟨h1,h2,h3⟩
 refine⟨fun k hk=>?_,h3⟩
 have hlt:=List.mem_range.1 hk
 rw [badAt,List.getElem?_eq_getElem hlt]
 simp only [Bool.not_eq_true]
 obtain ⟨a,b,c⟩:=h1 _ (List.getElem_mem hlt)
 refine badTag_iff.2 ⟨a,?_,b,c⟩
 cases k with
 | zero =>
  have:l[0].key≠sNil:=gName_ne a
  exact slt_pos this
 | succ k =>
  rw [before,List.getElem?_eq_getElem (show k < l.length by omega)]
  exact asc_get h2 (Nat.lt_succ_self k) (List.getElem?_eq_getElem (by omega)) (List.getElem?_eq_getElem hlt)
/-- Tags with another value of a key. -/
def gSet (l:List GTag) (key val:ByteArray):List GTag×Int :=
 if !gTags l||!gName key||decide (200 < (val.size:Int))then([],1)
 else if hasK GTag.key l key then(if val=sNil then(l.take (lbI GTag.key l key)++l.drop (lbI GTag.key l key+1),0)else(l.set (lbI GTag.key l key) ⟨key,val⟩,0))
 else if val=sNil then(l,0)
 else if l.length=60 then([],2)
 else(l.take (lbI GTag.key l key)++⟨key,val⟩::l.drop (lbI GTag.key l key),0)
theorem tagSet1_c (t:GTag) (s:ByteArray) (H:Heap):ACalls Tryz.prog 204 [av (encTag t),sv s] H (fun r H'=>r=iv (gCmp t.key s)∧H'=H):=by
 refine ACalls.pure ?_ (by simp) H
 refine Bd Tryz.func204 rfl Tryz.ntmps204<|Sq<|Rg<|Dd (by exact opd_box (id:=2) rfl rfl rfl rfl rfl)<|Dd as'<|Zz<|Sq<|Rg<|Dd (fr' fo117_0)<|Dd (l1' Tryz.isAgg9)<|Dd mv'<|Dd (by exact opr_call rfl rfl Tryz.call205 rfl (compare_c t.key s _))<|Dd as'<|Zz<|awp_ret ?_
 refine Rt ?_
 exact⟨rfl,rfl⟩
theorem encTag_rl (l:List GTag):∀ r∈l.map encTag,r.length=2:=fun r hr=>by
 obtain ⟨t,_,rfl⟩:=List.mem_map.1 hr
 rfl
/-- A slice and another value are returned. -/
theorem Fin.tup1 {H1:Heap} {id g n:Nat} {x:AV} (ob:Ob) (ps:List (List PV)) (hH1:∀ j,Heap.get [(id,ob)] j=H1.get j) (hg:ob.g=g) (hps:ob.rows=ps.map (·.map .pv)) (hn:ps.length=n) (hx:Clo [] x) :
  Fin [] H1 (.tup [.osl id g 0 n,x]) [] (.tup [.pv (.sl ps),x]):=by
 subst hg hn
 exact(Fin.get' (H':=[(id,ob)]) hH1).trans (Fin.fz (id:=id) (ob:=ob) ps (get_cons_same _ _ _) hps (.tup rfl (fz_cons (.osl (by rw [Nat.zero_add,List.drop_zero,List.take_length])) (fz_cons (.same hx) fz_nil))) rfl trivial trivial)
theorem tagSet_c (l:List GTag) (key val:ByteArray) (H:Heap) (hl:okTags l) (hk:key.size < 4611686018427387904) (hv:val.size < 4611686018427387904) (hl2:l.length < 1099511627776) :
  ACalls Tryz.prog 162 [.pv (slTags l),sv key,sv val] H (fun r H'=>r=.tup [.pv (slTags (gSet l key val).1),iv (gSet l key val).2]∧H'=H):=by
 refine ACalls.pure ?_ (by simp) H
 have hml:(l.map encTag).length=l.length:=List.length_map _
 have hrl:=encTag_rl l
 refine Bd Tryz.func162 rfl Tryz.ntmps162<|Sq<|Rg<|Dd as'<|Dd as'<|Zz<|Sq<|Sq ?_
 refine awp_bool (t:=23) (n:=15) (X:=!gTags l||!gName key||decide (200 < (val.size:Int))) ?_ ?_
 ·all_goals refine Dd mv' ?_
  all_goals refine Dd (by exact opr_call rfl rfl Tryz.call143 rfl (tagValid_c l _ hl)) ?_
  all_goals refine Dd no' ?_
  all_goals refine Dd mv' ?_
  all_goals refine Sp 14 (fun h14=>?_) fun h14=>?_
  all_goals try contradiction
  all_goals first|refine Fo ?_|refine On mv' ?_
  all_goals first|refine Fo ?_|refine On (by exact opr_call rfl rfl Tryz.call142 rfl (name_c key _ hk)) ?_
  all_goals first|refine Fo ?_|refine On no' ?_
  all_goals refine Dd pk' ?_
  all_goals refine Dd mv' ?_
  all_goals refine Sp 19 (fun h19=>?_) fun h19=>?_
  all_goals try contradiction
  all_goals first|refine Fo ?_|refine On mv' ?_
  all_goals first|refine Fo ?_|refine On (ls' Tryz.underlying9) ?_
  all_goals first|refine Fo ?_|refine On gt' ?_
  all_goals refine Dd pk' ?_
  all_goals refine al_nil ?_
  all_goals(exact⟨⟨_,rfl,by(simp only [*,Zo];done)⟩,rfl,rfl,rfl⟩)
 refine Cn (fun hc1=>?_) fun hc1=>?_
 ·have e:gSet l key val=([],1):=by rw [gSet,if_pos hc1]
  rw [e]
  refine Sq<|Rg<|Dd as'<|Dd as'<|Zz<|awp_ret ?_
  refine Ru ?_
  exact⟨rfl,rfl⟩
 have hg:gTags l=true:=by
  have h:=hc1
  revert h
  cases gTags l<;>simp
 obtain ⟨g1,g2,g3⟩:=gTags_iff.1 hg
 have hle:=lbI_le GTag.key l key
 have hb:=bsf_GTag (.pv (.fn 204)) l key [] hl2 g2 (fun o ho=>CallsV.fn Tryz.call204 (tagSet1_c o key _))
 obtain ⟨i,hi0⟩:∃ i,i=lbI GTag.key l key:=⟨_,rfl⟩
 have hw:IntKind.i64.wrap ((i:Int)+1)=((i+1:Nat):Int):=by rw [IntKind.wrap_i64];omega
 have hgs:gSet l key val=if hasK GTag.key l key then(if val=sNil then(l.take i++l.drop (i+1),0)else(l.set i ⟨key,val⟩,0))else if val=sNil then(l,0)else if l.length=60 then([],2)else(l.take i++⟨key,val⟩::l.drop i,0):=by
  rw [gSet,if_neg (by rw [hc1];simp),hi0]
 rw [← hi0] at hle hb
 refine awp_skip<|Sq<|Rg<|Dd mv'<|Dd mv'<|Dd (by exact opr_call rfl rfl Tryz.call203 rfl (hb))<|Dd mv'<|Dd ex'<|Dd ex'<|Dd as'<|Dd as'<|Zz<|Sq<|Rg<|Dd mv'<|Dd (by exact opr_call rfl rfl Tryz.call206 rfl (clone_Tag (l.map encTag) [] (Closed.of (by simp)) rfl rfl (by omega) hrl))<|Dd as'<|Zz<|Sq<|awp_block<|Sq ?_
 refine awp_bool (t:=32) (n:=7) (X:=hasK GTag.key l key&&decide (val=sNil)) ?_ ?_
 ·all_goals refine Dd mv' ?_
  all_goals refine Dd mv' ?_
  all_goals refine Sp 34 (fun h34=>?_) fun h34=>?_
  all_goals try contradiction
  all_goals first|refine Fo ?_|refine On mv' ?_
  all_goals first|refine Fo ?_|refine On se' ?_
  all_goals refine Dd pk' ?_
  all_goals refine Dd as' ?_
  all_goals refine al_nil ?_
  all_goals(exact⟨⟨_,rfl,by(simp_all [hasK];done)⟩,rfl,rfl,rfl⟩)
 refine Cn (fun hc2=>?_) fun hc2=>?_
 ·have h:=hc2
  rw [Bool.and_eq_true,decide_eq_true_eq] at h
  obtain ⟨hf,hvn⟩:=h
  obtain ⟨o,ho,hok⟩:=hasK_get g2 hf
  rw [← hi0] at ho
  have hlt:=(List.getElem?_eq_some_iff.1 ho).1
  rw [hgs,if_pos hf,if_pos hvn]
  refine Rg<|Dd mv'<|Dd mv'<|Dd mv'<|Dd (by exact opd_add rfl rfl rfl hw)<|Dd (by exact opr_call rfl rfl Tryz.call207 rfl (delete_Tag (l.map encTag) i (i+1) 1 _ (Closed.of (by simp)) rfl (by omega) (by omega) (by omega) hrl))<|Dd as'<|Zz<|Sq<|Rg<|Dd mv'<|Dd as'<|Dd as'<|Zz<|awp_ret ?_
  refine Ru ?_
  exact⟨by rw [slTags,List.map_append,List.map_take,List.map_drop],rfl⟩
 skip
 refine Sq<|Rg<|Dd mv'<|Dd as'<|Zz ?_
 refine Cn (fun hc3=>?_) fun hc3=>?_
 ·have hf:hasK GTag.key l key=true:=hc3
  have hvn:¬ val=sNil:=by
   have h:=hc2
   rw [hf,Bool.true_and] at h
   exact of_decide_eq_false h
  obtain ⟨o,ho,hok⟩:=hasK_get g2 hf
  rw [← hi0] at ho
  have hlt:=(List.getElem?_eq_some_iff.1 ho).1
  rw [hgs,if_pos hf,if_neg hvn]
  have hir:(pvR (l.map encTag))[i]?=some [sv o.key,sv o.val]:=by rw [pvR,List.map_map,List.getElem?_map,ho];rfl
  refine Rg<|Dd mv'<|Dd mv'<|Dd mv'<|Dd (by exact x_index_osl rfl so47 rfl rfl rfl rfl rfl (by omega) (by exact Int.toNat_natCast _) (by rw [hml];exact hlt) (Nat.zero_add _))<|Dd (fr' fo117_1)<|Uu (by exact x_store1 rfl Tryz.sizeOf9 rfl rfl rfl rfl rfl hir (Nat.le_of_ble_eq_true rfl) rfl rfl)<|Zz<|Sq<|Rg<|Dd mv'<|Dd as'<|Dd as'<|Zz<|awp_ret ?_
  refine aret2 (H':=[]) (.inr rfl) rfl (rval_tmp rfl) (rval_tmp rfl) (Fin.tup1 (id:=901) ⟨1,2,117,(pvR (l.map encTag)).set i [sv o.key,sv val]⟩ ((l.set i ⟨key,val⟩).map encTag) (fun j=>by cases e:Nat.beq 901 j<;>simp [Heap.get,e]) rfl (by rw [List.map_set,List.map_set,← hok];rfl) (by rw [List.length_map,List.length_set,List.length_map]) (by simp)) ?_
  exact⟨rfl,rfl⟩
 have hf:hasK GTag.key l key=false:=hc3
 rw [hgs,if_neg (by rw [hf];simp)]
 refine Sq ?_
 refine awp_bool (t:=50) (n:=9) (X:=(!decide (val=sNil))&&decide ((l.length:Int)=60)) ?_ ?_
 ·all_goals refine Dd mv' ?_
  all_goals refine Dd sn' ?_
  all_goals refine Dd mv' ?_
  all_goals refine Sp 53 (fun h53=>?_) fun h53=>?_
  all_goals try contradiction
  all_goals first|refine Fo ?_|refine On mv' ?_
  all_goals first|refine Fo ?_|refine On (ll' Tryz.underlying47) ?_
  all_goals first|refine Fo ?_|refine On eql' ?_
  all_goals refine Dd pk' ?_
  all_goals refine Dd as' ?_
  all_goals refine al_nil ?_
  all_goals(exact⟨⟨_,rfl,by(simp only [hasK, *];rfl)⟩,rfl,rfl,rfl⟩)
 refine Cn (fun hc4=>?_) fun hc4=>?_
 ·have h:=hc4
  rw [Bool.and_eq_true,Bool.not_eq_true',decide_eq_false_iff_not,decide_eq_true_eq] at h
  rw [if_neg h.1,if_pos (by omega)]
  refine Sq<|Rg<|Dd as'<|Dd as'<|Zz<|awp_ret ?_
  refine Ru ?_
  exact⟨rfl,rfl⟩
 skip
 refine Sq<|Rg<|Dd mv'<|Dd sn'<|Dd as'<|Zz ?_
 refine Cn (fun hc5=>?_) fun hc5=>?_
 ·have hvn:¬ val=sNil:=by
   have h:=hc5
   simpa using h
  have h60:¬ l.length=60:=by
   have h:=hc4
   simp only [Bool.and_eq_false_iff,Bool.not_eq_false',decide_eq_true_eq,decide_eq_false_iff_not] at h
   rcases h with h|h
   ·exact absurd h hvn
   omega
  rw [if_neg hvn,if_neg h60]
  refine Rg<|Dd mv'<|Dd mv'<|Dd mv'<|Dd mv'<|Dd (bu' bo117)<|Dd (by exact x_buildSlice_own (id:=902) rfl so47 rfl rfl rfl rfl (by intro r hr;rw [List.mem_singleton] at hr;subst hr;rfl) rfl)<|Dd (by exact opr_call rfl rfl Tryz.call208 rfl (insert_Tag (l.map encTag) (encTag ⟨key,val⟩) i 1 _ (Closed.ofL ⟨(by exact clo_two _ _ _),(by(simp;done)),trivial⟩) rfl rfl rfl (by omega) (by omega) hrl rfl))<|Dd as'<|Zz<|Sq<|Rg<|Dd mv'<|Dd as'<|Dd as'<|Zz<|awp_ret ?_
  refine Ru ?_
  exact⟨by rw [slTags,List.map_append,List.map_take,List.map_cons,List.map_drop],rfl⟩
 have hvn:val=sNil:=by
  have h:=hc5
  simpa using h
 rw [if_pos hvn]
 refine awp_skip<|Sq<|Rg<|Dd mv'<|Dd as'<|Dd as'<|Zz<|awp_ret ?_
 refine aret2 (H':=[]) (.inr rfl) rfl (rval_tmp rfl) (rval_tmp rfl) (Fin.tup1 (id:=901) ⟨1,2,117,pvR (l.map encTag)⟩ (l.map encTag) (fun j=>rfl) rfl rfl rfl (by simp)) ?_
 exact⟨rfl,rfl⟩
end
section
def encMap (m:List GObj):List PV:=[slObjs m]
/-- slices.IndexFunc at planisphere/api.Map. -/
theorem indexFunc_Map (fv:AV) (l:List (List GObj)) (p:(List GObj)→Bool) (H:Heap) (hl:l.length < 4611686018427387904) (hf:∀ o,o∈l→CallsV Tryz.prog fv [.agg ((encMap o).map .pv)] H (fun r H'=>r=.pv (.bool (p o))∧H'=H)) :
    ACalls Tryz.prog 246 [.pv (.sl (l.map encMap)),fv] H (fun r H'=>r=.pv (.int .i64 (gidx p l))∧H'=H):=by
  refine Bd Tryz.func246 rfl Tryz.ntmps246<|Sq<|Rg<|Dd as'<|Zz<|Sq<|Sq<|Rg<|Dd mv'<|Dd (ll' Tryz.underlying244)<|Dd mv'<|Zz<|awp_block ?_
  refine awp_loop (σ:=Nat) (fun k=>([(0,.pv (.sl (l.map encMap))),(1,fv),(7,.pv (.int .i64 (l.map encMap).length)),(8,.pv (.int .i64 (k:Int)))],H)) (fun k=>k≤l.length∧∀ j,j < k→∀ b,l[j]?=some b→p b=false) (fun k=>l.length - k) 0 ⟨by omega,by omega⟩ ?_ ?_
  · exact E0
  · rintro k ⟨hk,hno⟩
    refine Sq<|Rg<|Dd lss'<|Zz<|Sq ?_
    refine Cn (fun hc1=>?_) fun hc1=>?_
    · have hlt:k < l.length:=by simpa using hc1
      obtain ⟨o,ho⟩:=get_of_lt hlt
      have hi:=map_get (f:=encMap) ho
      have hfo:=hf o (List.mem_of_getElem? ho)
      refine awp_skip<|Sq<|awp_block<|Sq<|Rg<|Dd mv'<|Dd as'<|Zz<|Sq<|Rg<|Dd mv'<|Dd mv'<|Dd mv'<|Dd (xp' so244)<|Dd (by exact opd_loadn_pad rfl Tryz.isAgg38 Tryz.sizeOf38 rfl (by omega) (by simp only [Zl,encMap];rfl) rfl)<|Dd (by exact opr_callV rfl rfl rfl (hfo))<|Zz ?_
      refine Cn (fun hc2=>?_) fun hc2=>?_
      · skip
        refine Sq<|Rg<|Dd mv'<|Dd as'<|Zz<|awp_ret ?_
        exact aret1 (H':=H) (.inr rfl) rfl (rval_tmp rfl) Fin.refl ⟨by rw [gidx,fidx_some hno ho hc2],rfl⟩
      · skip
        refine awp_skip<|Rg<|Dd ad'<|Dd mv'<|Zz ?_
        refine⟨k+1,⟨by omega,fun j hj b hb=>?_⟩,by omega,E0⟩
        by_cases e:j=k
        · subst e;rw [ho] at hb;cases hb;exact hc2
        · exact hno j (by omega) b hb
    · have hge : k = l.length := by have : l.length ≤ k := by simpa using hc1
                                    omega
      subst hge
      refine awp_exit<|Sq<|Rg<|Dd as'<|Zz<|awp_ret ?_
      exact aret1 (H':=H) (.inr rfl) rfl (rval_tmp rfl) Fin.refl ⟨by rw [gidx,fidx_none hno],rfl⟩
/-- slices.ContainsFunc at planisphere/api.Map. -/
theorem containsFunc_Map (fv:AV) (l:List (List GObj)) (p:(List GObj)→Bool) (H:Heap) (hl:l.length < 4611686018427387904) (hf:∀ H,∀ o,o∈l→CallsV Tryz.prog fv [.agg ((encMap o).map .pv)] H (fun r H'=>r=.pv (.bool (p o))∧H'=H)) :
  ACalls Tryz.prog 214 [.pv (.sl (l.map encMap)),fv] H (fun r H'=>r=bv (l.any p)∧H'=H):=by
 refine Bd Tryz.func214 rfl Tryz.ntmps214<|Sq<|Rg<|Dd as'<|Zz<|Sq<|Rg<|Dd mv'<|Dd mv'<|Dd (by exact opr_call rfl rfl Tryz.call246 rfl (indexFunc_Map fv l p _ hl (hf _)))<|Dd ge'<|Dd as'<|Zz<|awp_ret ?_
 refine aret1 (H':=H) (.inr rfl) rfl (rval_tmp rfl) Fin.refl ?_
 exact⟨by rw [← gidx_any],rfl⟩
theorem valids1_c (m:List GObj) (H:Heap) (hm:okM m):ACalls Tryz.prog 215 [.agg ((encMap m).map .pv)] H (fun r H'=>r=bv (!gMap m)∧H'=H):=by
 refine ACalls.pure ?_ (by simp [encMap]) H
 refine Bd Tryz.func215 rfl Tryz.ntmps215<|Sq<|Rg<|Dd (by exact opd_box (id:=1) rfl rfl rfl rfl rfl)<|Dd as'<|Zz<|Sq<|Rg<|Dd (by exact opd_loadn_ref rfl Tryz.isAgg38 Tryz.sizeOf38 rfl rfl rfl rfl (by simp only [Zl,encObj];rfl) rfl)<|Dd (by exact opr_call rfl rfl Tryz.call116 rfl (atlasValid_c m _ hm))<|Dd no'<|Dd as'<|Zz<|awp_ret ?_
 refine Rt ?_
 exact⟨rfl,rfl⟩
theorem valids_c (l:List (List GObj)) (H:Heap) (hl:l.length < 4611686018427387904) (hm:∀ m,m∈l→okM m):ACalls Tryz.prog 166 [.pv (.sl (l.map encMap))] H (fun r H'=>r=bv (l.all gMap)∧H'=H):=by
 refine ACalls.pure ?_ (by simp) H
 refine Bd Tryz.func166 rfl Tryz.ntmps166<|Sq<|Rg<|Dd as'<|Zz<|Sq<|Rg<|Dd mv'<|Dd (by exact opr_call rfl rfl Tryz.call214 rfl (containsFunc_Map (.pv (.fn 215)) l (fun m=>!gMap m) _ hl (fun H o ho=>CallsV.fn Tryz.call215 (valids1_c o H (hm o ho)))))<|Dd no'<|Dd as'<|Zz<|awp_ret ?_
 refine Rt ?_
 exact⟨by rw [List.any_eq_not_all_not];simp,rfl⟩
theorem at1_c (o:GObj) (s:ByteArray) (H:Heap):ACalls Tryz.prog 217 [av (encObj o),sv s] H (fun r H'=>r=iv (gCmp o.id s)∧H'=H):=by
 refine ACalls.pure ?_ (by simp) H
 refine Bd Tryz.func217 rfl Tryz.ntmps217<|Sq<|Rg<|Dd (by exact opd_box (id:=2) rfl rfl rfl rfl rfl)<|Dd as'<|Zz<|Sq<|Rg<|Dd (fr' fo49_0)<|Dd (l1' Tryz.isAgg9)<|Dd mv'<|Dd (by exact opr_call rfl rfl Tryz.call205 rfl (compare_c o.id s _))<|Dd as'<|Zz<|awp_ret ?_
 refine Rt ?_
 exact⟨rfl,rfl⟩
theorem at_c (m:List GObj) (s:ByteArray) (H:Heap) (hl:m.length < 1099511627776) (hu:ups m):ACalls Tryz.prog 167 [.agg [.pv (slObjs m)],sv s] H (fun r H'=>r=.tup [iv (lbI GObj.id m s:Nat),bv (hasK GObj.id m s)]∧H'=H):=by
 refine ACalls.pure ?_ (by simp) H
 refine Bd Tryz.func167 rfl Tryz.ntmps167<|Sq<|Rg<|Dd (by exact opd_box (id:=2) rfl rfl rfl rfl rfl)<|Dd as'<|Dd as'<|Zz<|Sq<|Rg<|Dd (fr' fo38_0)<|Dd (l1' Tryz.isAgg36)<|Dd mv'<|Dd (by exact opr_call rfl rfl Tryz.call216 rfl (bsf_GObj (.pv (.fn 217)) m s _ hl hu (fun o ho=>CallsV.fn Tryz.call217 (at1_c o s _))))<|Dd ex'<|Dd ex'<|Dd as'<|Dd as'<|Zz<|awp_ret ?_
 refine Ru ?_
 exact⟨rfl,rfl⟩
theorem encObj_rl (l:List GObj):∀ r∈l.map encObj,r.length=6:=fun r hr=>by
 obtain ⟨t,_,rfl⟩:=List.mem_map.1 hr
 rfl
/-- A map with an object in it. -/
def gWith (m:List GObj) (o:GObj):List GObj:=if hasK GObj.id m o.id then m.set (lbI GObj.id m o.id) o else m.take (lbI GObj.id m o.id)++o::m.drop (lbI GObj.id m o.id)
def gPutM (m:List GObj) (o:GObj):List GObj×Int :=
 if !gMap m||!gObj o then([],1)else if !hasK GObj.id m o.id&&decide (m.length=1000000)then([],2)else(gWith m o,0)
/-- A map out of an owned slice and another value are returned. -/
theorem Fin.map1 {H1:Heap} {id g n:Nat} {x:AV} {ob:Ob} (ps:List (List PV)) (hH:H1.get id=some ob) (hg:ob.g=g) (hps:ob.rows=ps.map (·.map .pv)) (hn:ps.length=n) (hx:Clo [] x) :
  Fin [] H1 (.tup [.agg [.osl id g 0 n],x]) [] (.tup [.agg [.pv (.sl ps)],x]):=by
 subst hg hn
 exact Fin.fz (id:=id) (ob:=ob) ps hH hps (.tup rfl (fz_cons (.agg rfl (fz_cons (.osl (by rw [Nat.zero_add,List.drop_zero,List.take_length])) fz_nil)) (fz_cons (.same hx) fz_nil))) rfl trivial trivial
theorem putM_c (m:List GObj) (o:GObj) (H:Heap) (hm:okM m) (ho:okO o) (hl:m.length < 1099511627776):ACalls Tryz.prog 119 [.agg [.pv (slObjs m)],av (encObj o)] H (fun r H'=>r=.tup [.agg [.pv (slObjs (gPutM m o).1)],iv (gPutM m o).2]∧H'=H):=by
 refine ACalls.pure ?_ (by simp) H
 have hml:(m.map encObj).length=m.length:=List.length_map _
 have hrl:=encObj_rl m
 have hv:=fun H=>valids_c [m] H (by show 1 < _;omega) (by intro x hx;rw [List.mem_singleton] at hx;subst hx;exact hm)
 rw [show ([m].all gMap)=gMap m by simp] at hv
 refine Bd Tryz.func119 rfl Tryz.ntmps119<|Sq<|Rg<|Dd (by exact opd_box (id:=2) rfl rfl rfl rfl rfl)<|Dd (by exact opd_box (id:=3) rfl rfl rfl rfl rfl)<|Dd (by exact x_alloc (id:=4) rfl zoN38 rfl rfl)<|Dd as'<|Zz<|Sq<|Sq ?_
 refine awp_bool (t:=17) (n:=10) (X:=!gMap m||!gObj o) ?_ ?_
 ·all_goals refine Dd (by exact opd_loadn_ref rfl Tryz.isAgg38 Tryz.sizeOf38 rfl rfl rfl rfl (by simp only [Zl,encObj];rfl) rfl) ?_
  all_goals refine Dd (by exact x_buildSlice ([m].map encMap) rfl so244 rfl rfl rfl rfl rfl (by simp [encMap])) ?_
  all_goals refine Dd (by exact opr_call rfl rfl Tryz.call166 rfl (hv _)) ?_
  all_goals refine Dd no' ?_
  all_goals refine Dd mv' ?_
  all_goals refine Sp 13 (fun h13=>?_) fun h13=>?_
  all_goals try contradiction
  all_goals first|refine Fo ?_|refine On (by exact opd_loadn_ref rfl Tryz.isAgg49 Tryz.sizeOf49 rfl rfl rfl rfl (by simp only [Zl,encObj];rfl) rfl) ?_
  all_goals first|refine Fo ?_|refine On (by exact opr_call rfl rfl Tryz.call91 rfl (objValid_c o _ ho)) ?_
  all_goals first|refine Fo ?_|refine On no' ?_
  all_goals refine Dd pk' ?_
  all_goals refine al_nil ?_
  all_goals(exact⟨⟨_,rfl,by(simp only [*,Zo];done)⟩,rfl,rfl,rfl⟩)
 refine Cn (fun hc1=>?_) fun hc1=>?_
 ·have e:gPutM m o=([],1):=by rw [gPutM,if_pos hc1]
  rw [e]
  refine Sq<|Rg<|Dd (bu' bo38)<|Uu (sa' Tryz.sizeOf38)<|Dd as'<|Zz<|awp_ret ?_
  refine aret2 (H':=[]) (.inr rfl) rfl (rval_cell rfl Tryz.isAgg38 Tryz.sizeOf38 rfl rfl rfl (by simp only [Zl,encObj];rfl) rfl) (rval_tmp rfl) (Fin.wk (by simp) trivial trivial) ?_
  exact⟨rfl,rfl⟩
 have hg:gMap m=true:=by
  have h:=hc1
  revert h
  cases gMap m<;>simp
 have hu:=(gMap_iff.1 hg).2.1
 have hle:=lbI_le GObj.id m o.id
 have hgp:gPutM m o=if !hasK GObj.id m o.id&&decide (m.length=1000000)then([],2)else(gWith m o,0):=by rw [gPutM,if_neg (by rw [hc1];simp)]
 obtain ⟨i,hi0⟩:∃ i,i=lbI GObj.id m o.id:=⟨_,rfl⟩
 rw [gWith,← hi0] at hgp
 rw [← hi0] at hle
 have hat:=fun H=>at_c m o.id H hl hu
 rw [← hi0] at hat
 refine awp_skip<|Sq<|Rg<|Dd (by exact opd_loadn_ref rfl Tryz.isAgg38 Tryz.sizeOf38 rfl rfl rfl rfl (by simp only [Zl,encObj];rfl) rfl)<|Dd (fr' fo49_0)<|Dd (l1' Tryz.isAgg9)<|Dd (by exact opr_call rfl rfl Tryz.call167 rfl (hat _))<|Dd mv'<|Dd ex'<|Dd ex'<|Dd as'<|Dd as'<|Zz<|Sq<|Rg<|Dd (fr' fo38_0)<|Dd (l1' Tryz.isAgg36)<|Dd (by exact opr_call rfl rfl Tryz.call168 rfl (clone_Obj (m.map encObj) _ (Closed.ofL ⟨(by(simp;done)),(by(simp;done)),(by(simp;done)),trivial⟩) rfl rfl (by omega) hrl))<|Dd (bu' bo38)<|Dd (by exact x_alloc (id:=8) rfl zoN38 rfl rfl)<|Uu (sa' Tryz.sizeOf38)<|Zz<|Sq<|awp_block<|Sq<|Rg<|Dd mv'<|Dd as'<|Zz ?_
 refine Cn (fun hc2=>?_) fun hc2=>?_
 ·have hf:hasK GObj.id m o.id=true:=hc2
  obtain ⟨x,hx,hxk⟩:=hasK_get hu hf
  rw [← hi0] at hx
  have hlt:=(List.getElem?_eq_some_iff.1 hx).1
  rw [hf] at hgp
  simp only [Bool.not_true,Bool.false_and,Bool.false_eq_true,if_false,if_true] at hgp
  rw [hgp]
  have hir:(pvR (m.map encObj))[i]?=some ((encObj x).map .pv):=by rw [pvR,List.map_map,List.getElem?_map,hx];rfl
  refine Rg<|Dd (fr' fo38_0)<|Dd (l1' Tryz.isAgg36)<|Dd mv'<|Dd (by exact opd_loadn_ref rfl Tryz.isAgg49 Tryz.sizeOf49 rfl rfl rfl rfl (by simp only [Zl,encObj];rfl) rfl)<|Dd (by exact x_index_osl rfl so36 rfl rfl rfl rfl rfl (by omega) (by exact Int.toNat_natCast _) (by rw [hml];exact hlt) (Nat.zero_add _))<|Uu (by exact x_store rfl Tryz.sizeOf49 rfl rfl rfl rfl rfl rfl hir (Nat.le_of_ble_eq_true rfl) rfl rfl)<|Zz<|Sq<|Rg<|Dd (ln' Tryz.isAgg38 Tryz.sizeOf38)<|Uu (sa' Tryz.sizeOf38)<|Dd as'<|Zz<|awp_ret ?_
  refine aret2 (H':=[]) (.inr rfl) rfl (rl' Tryz.isAgg38 Tryz.sizeOf38) (rval_tmp rfl) (Fin.map1 (id:=901) ((m.set i o).map encObj) rfl rfl (by rw [List.map_set,List.map_set];rfl) (by rw [List.length_map,List.length_set,List.length_map]) (by simp)) ?_
  exact⟨rfl,rfl⟩
 have hf:hasK GObj.id m o.id=false:=hc2
 rw [hf] at hgp
 simp only [Bool.not_false,Bool.true_and,Bool.false_eq_true,if_false] at hgp
 refine Sq<|Rg<|Dd (fr' fo38_0)<|Dd (l1' Tryz.isAgg36)<|Dd (ll' Tryz.underlying36)<|Dd eql'<|Dd as'<|Zz ?_
 refine Cn (fun hc3=>?_) fun hc3=>?_
 ·have h:m.length=1000000:=by
   have h:=of_decide_eq_true hc3
   omega
  rw [hgp,if_pos (by simp [h])]
  refine Sq<|Rg<|Dd (bu' bo38)<|Uu (sa' Tryz.sizeOf38)<|Dd as'<|Zz<|awp_ret ?_
  refine aret2 (H':=[]) (.inr rfl) rfl (rl' Tryz.isAgg38 Tryz.sizeOf38) (rval_tmp rfl) (Fin.wk (by simp) trivial trivial) ?_
  exact⟨rfl,rfl⟩
 have h:¬ m.length=1000000:=by
  have h:=of_decide_eq_false hc3
  omega
 rw [hgp,if_neg (by simp [h])]
 refine Rg<|Dd (fr' fo38_0)<|Dd (l1' Tryz.isAgg36)<|Dd mv'<|Dd (by exact opd_loadn_ref rfl Tryz.isAgg49 Tryz.sizeOf49 rfl rfl rfl rfl (by simp only [Zl,encObj];rfl) rfl)<|Dd (by exact x_buildSlice_own (id:=902) rfl so36 rfl rfl rfl rfl (by intro r hr;rw [List.mem_singleton] at hr;subst hr;rfl) rfl)<|Dd (by exact opr_call rfl rfl Tryz.call169 rfl (insert_Obj (m.map encObj) (encObj o) i 1 _ (Closed.ofL ⟨(by(simp;done)),(by exact clo_osl1 rfl),(by(simp;done)),(by(simp;done)),(by(simp;done)),(by(simp;done)),(by(simp;done)),trivial⟩) rfl rfl rfl (by omega) (by omega) hrl rfl))<|Dd (fr' fo38_0)<|Uu (sa' Tryz.sizeOf36)<|Zz<|Sq<|Rg<|Dd (ln' Tryz.isAgg38 Tryz.sizeOf38)<|Uu (sa' Tryz.sizeOf38)<|Dd as'<|Zz<|awp_ret ?_
 refine aret2 (H':=[]) (.inr rfl) rfl (rl' Tryz.isAgg38 Tryz.sizeOf38) (rval_tmp rfl) (Fin.wk (by simp) trivial trivial) ?_
 have hs:slObjs (m.take i++o::m.drop i)=.sl ((m.map encObj).take i++encObj o::(m.map encObj).drop i):=by rw [slObjs,List.map_append,List.map_take,List.map_cons,List.map_drop]
 exact⟨by rw [hs];rfl,rfl⟩
end
section
theorem lbI_lt {α:Type} {f:α→ByteArray} {l:List α} {s:ByteArray} {k:Nat} {o:α} (hk:k < lbI f l s) (ho:l[k]?=some o):slt (f o) s=true:=by
 unfold lbI at hk
 have:=List.not_of_lt_findIdx hk
 obtain ⟨h1,h2⟩:=List.getElem?_eq_some_iff.1 ho
 rw [h2] at this
 simpa using this
theorem lbI_ge {α:Type} {f:α→ByteArray} {l:List α} {s:ByteArray} {k:Nat} {o:α} (ha:asc f l) (hk:lbI f l s≤k) (ho:l[k]?=some o):slt (f o) s=false:=by
 obtain ⟨h1,h2⟩:=List.getElem?_eq_some_iff.1 ho
 have hlt:lbI f l s < l.length:=by omega
 obtain ⟨x,hx⟩:=get_of_lt hlt
 have h0:slt (f x) s=false:=by
  have hp:(fun o=>!slt (f o) s) l[lbI f l s]=true:=List.findIdx_getElem (p:=fun o=>!slt (f o) s) (xs:=l) (w:=hlt)
  rw [(List.getElem?_eq_some_iff.1 hx).2] at hp
  simpa using hp
 by_cases e:lbI f l s=k
 ·subst e
  rw [hx] at ho;cases ho
  exact h0
 cases h:slt (f o) s with
 | false=>rfl
 | true =>
  have:=slt_trans (asc_get ha (by omega) hx ho) h
  rw [h0] at this;cases this
theorem asc_map {α:Type} {f:α→ByteArray} {l:List α}:asc f l↔(l.map f).Pairwise (fun a b=>slt a b=true):=by rw [asc,List.pairwise_map]
theorem cut_at {α:Type} {l:List α} {i:Nat} {x:α} (h:l[i]?=some x):l=l.take i++x::l.drop (i+1):=by
 obtain ⟨h1,h2⟩:=List.getElem?_eq_some_iff.1 h
 conv=>lhs;rw [← List.take_append_drop i l]
 rw [List.drop_eq_getElem_cons h1,h2]
theorem set_cut {α:Type} {l:List α} {i:Nat} {x y:α} (h:l[i]?=some x):l.set i y=l.take i++y::l.drop (i+1):=by
 have h1:=(List.getElem?_eq_some_iff.1 h).1
 rw [List.set_eq_take_append_cons_drop,if_pos h1]
theorem asc_ins {α:Type} {f:α→ByteArray} {l:List α} {o:α} (ha:asc f l) (hn:hasK f l (f o)=false):asc f (l.take (lbI f l (f o))++o::l.drop (lbI f l (f o))):=by
 have hle:=lbI_le f l (f o)
 have hno:∀ x,x∈l→f x≠f o:=fun x hx e=>by
  have:hasK f l (f o)=true:=List.any_eq_true.2 ⟨x,hx,decide_eq_true e⟩
  rw [hn] at this;cases this
 have h1:∀ x,x∈l.take (lbI f l (f o))→slt (f x) (f o)=true:=fun x hx=>by
  obtain ⟨k,hk⟩:=List.mem_iff_getElem?.1 hx
  rw [List.getElem?_take] at hk
  split at hk
  ·next hlt=>exact lbI_lt hlt hk
  cases hk
 have h2:∀ x,x∈l.drop (lbI f l (f o))→slt (f o) (f x)=true:=fun x hx=>by
  obtain ⟨k,hk⟩:=List.mem_iff_getElem?.1 hx
  rw [List.getElem?_drop] at hk
  have h3:=lbI_ge ha (Nat.le_add_right _ k) hk
  cases h4:slt (f o) (f x)with
  | true=>rfl
  | false=>exact absurd (slt_tri h3 h4) (hno x (List.mem_of_getElem? hk))
 rw [asc,List.pairwise_append]
 refine⟨(List.Pairwise.sublist (List.take_sublist _ _) ha),List.pairwise_cons.2 ⟨h2,List.Pairwise.sublist (List.drop_sublist _ _) ha⟩,fun a hA b hB=>?_⟩
 rcases List.mem_cons.1 hB with rfl|hB
 ·exact h1 a hA
 exact slt_trans (h1 a hA) (h2 b hB)
theorem asc_set {α:Type} {f:α→ByteArray} {l:List α} {i:Nat} {x y:α} (ha:asc f l) (hx:l[i]?=some x) (he:f x=f y):asc f (l.set i y):=by
 rw [asc_map] at ha ⊢
 have:(l.set i y).map f=l.map f:=by
  rw [set_cut (y:=y) hx]
  conv=>rhs;rw [cut_at hx]
  simp [he]
 rwa [this]
theorem gWith_len (m:List GObj) (o:GObj):(gWith m o).length=if hasK GObj.id m o.id then m.length else m.length+1:=by
 have:=lbI_le GObj.id m o.id
 unfold gWith
 split
 ·rw [List.length_set]
 rw [List.length_append,List.length_cons,List.length_take,List.length_drop];omega
theorem gWith_mem {m:List GObj} {o x:GObj} (h:x∈gWith m o):x=o∨x∈m:=by
 unfold gWith at h
 split at h
 ·rcases List.mem_or_eq_of_mem_set h with h|h
  ·exact .inr h
  exact .inl h
 rcases List.mem_append.1 h with h|h
 ·exact .inr (List.mem_of_mem_take h)
 rcases List.mem_cons.1 h with h|h
 ·exact .inl h
 exact .inr (List.mem_of_mem_drop h)
theorem gWith_ups {m:List GObj} {o:GObj} (h:ups m):ups (gWith m o):=by
 unfold gWith
 split
 ·next hf =>
  obtain ⟨x,hx,he⟩:=hasK_get (f:=GObj.id) h hf
  exact asc_set (f:=GObj.id) h hx he
 next hf=>exact asc_ins (f:=GObj.id) h (by simpa using hf)
theorem gMap_with {m:List GObj} {o:GObj} (hm:gMap m=true) (ho:gObj o=true) (hl:(gWith m o).length≤1000000):gMap (gWith m o)=true:=by
 obtain ⟨h1,h2,h3⟩:=gMap_iff.1 hm
 refine gMap_iff.2 ⟨fun x hx=>?_,gWith_ups h2,by omega⟩
 rcases gWith_mem hx with rfl|hx
 ·exact ho
 exact h1 x hx
theorem okM_with {m:List GObj} {o:GObj} (hm:okM m) (ho:okO o) (hl:m.length < 1099511627776):okM (gWith m o):=by
 refine⟨by rw [gWith_len];split<;>omega,fun x hx=>?_⟩
 rcases gWith_mem hx with rfl|hx
 ·exact ho
 exact hm.2 x hx
theorem gPutM_len {m:List GObj} {o:GObj} (h:(gPutM m o).2=0):gMap m=true∧gObj o=true∧(gPutM m o).1=gWith m o∧(gWith m o).length≤1000000:=by
 unfold gPutM at h ⊢
 by_cases h1:(!gMap m||!gObj o)=true
 ·rw [if_pos h1] at h;cases h
 rw [if_neg h1] at h ⊢
 by_cases h2:(!hasK GObj.id m o.id&&decide (m.length=1000000))=true
 ·rw [if_pos h2] at h;cases h
 rw [if_neg h2]
 rw [Bool.not_eq_true] at h1 h2
 rw [Bool.or_eq_false_iff] at h1
 have hg:gMap m=true:=by simpa using h1.1
 have hl:m.length≤1000000:=by have:=(gMap_iff.1 hg).2.2;omega
 refine⟨hg,by simpa using h1.2,rfl,?_⟩
 rw [gWith_len]
 split
 ·exact hl
 next hf =>
 rw [Bool.and_eq_false_iff] at h2
 rcases h2 with h2|h2
 ·simp at h2;rw [h2] at hf;simp at hf
 have:=of_decide_eq_false h2;omega
end
end Go.Proofs.YtlnfjkdacimblaaGreatDoor
namespace Go.Abs
section
section
variable {P:Program} {G0:Heap} {N:Nat} {Q:Exit→Env→Heap→Prop} {E:Env} {H:Heap} {code:Code}
/-- A nil slice as an object of its own, whose capacity is 0. -/
theorem awp_nilc {t id sz:Nat} {ty:TypeId} (hx:E.get t=some (.pv .nils)) (hid:H.get id=none) (hsz:Nat.blt 0 sz=true) (h:AWp P G0 N code Q ((t,.osc id 0 0 0 0)::E) ((id,⟨0,sz,ty,[]⟩)::H)):AWp P G0 N code Q E H:=by
 intro G hG a w hs
 obtain ⟨I,ι,hr,hst,he⟩:=hs.rel
 obtain ⟨v,hv,hvr⟩:=he t _ hx
 have hz:0 < sz:=by simpa [Nat.blt_eq] using hsz
 obtain ⟨k1,k2⟩:=Rel.adopt (sz:=sz) (ty:=ty) hr hid hz
 have hvn:v=.slice none 0 0:=by
  have:=hvr.pv_inv
  cases this;rfl
 subst hvn
 refine h G hG a w ⟨hs.defers,hs.size,I,_,k1,hst.trans k2,fun u x hu=>?_⟩
 by_cases e:t=u
 ·subst e
  rw [Env.get_cons_same] at hu;cases hu
  exact⟨_,hv,.osc ⟨0,sz,ty,[]⟩ (get_cons_same _ _ _) (Nat.le_refl _) rfl fun _=>⟨hz,Nat.le_refl _,.inr ⟨by simp,rfl,rfl,rfl,rfl⟩⟩⟩
 rw [Env.get_cons_other _ _ e] at hu
 obtain ⟨c,h1,h2⟩:=he u x hu
 exact⟨c,h1,h2.mono hr k2⟩
end
section
variable {P:Program} {N:Nat} {o:Oper} {E:Env} {H:Heap} {T:TypeId} {x y:Operand} {Q:AV→Heap→Prop}
/-- A call whose first argument is nil. -/
theorem opr_call_nil {F:FuncId} {f y:Operand} {at_:Array TypeId} {v:AV} (ho:o.op=.call {callee:=.value f,args:=#[.const (.slice none 0 0),y],argTypes:=at_}) (hf:aeval E f=some (.pv (.fn F)))
  (hc:∀ (args:Array Value) (w:World),(callFunc F args).run P w=.ok (.enter F args) w) (hv:aeval E y=some v) (h:ACalls P F [.pv .nils,v] H Q):OpR P N o E H Q:=by
 intro a w I ι _ _ hr he K QQ hk
 have hfv:=(aeval_rel he hf).fn_inv
 unfold Oper.wpW execOp
 simp only [ho,resolve,hfv,Deferred.ofValue,Sem.run_bind,Sem.run_pure,Result.andThen_ok,invoke,hc,Oper.uponW_enter]
 refine(h I ι w _ hr (by simp) (fun i u b hu hb=>?_)).mono ?_
 ·match i with
  | 0=>simp [Act.eval] at hu hb;subst hu hb;exact .pv .nils
  | 1=>simp at hu hb;subst hu hb;exact aeval_rel he hv
  | i+2=>simp at hb
 rintro e w' ⟨r,H',I',ι',v,rfl,hq,k1,k2,k3⟩
 exact hk v w' I' ι' r H' hq k1 k2 k3
end
/-- An object loses its last rows; what led to it leads nowhere. -/
theorem Rel.cut {I:Nat→Prop} {ι:Plc} {H H':Heap} {w:World} {id k n:Nat} {ob:Ob} (hr:Rel I ι H w) (hH:H.get id=some ob) (hg:ob.g < k) (hz:0 < ob.sz)
  (h1:H'.get id=some ⟨k,ob.sz,ob.ty,ob.rows.take n⟩) (h2:∀ j,j≠id→H'.get j=H.get j):Rel I ι H' w∧Step I ι H w I ι H' w:=by
 have hst:Step I ι H w I ι H' w:=by
  refine⟨rfl,rfl,rfl,Nat.le_refl _,fun a _ _=>rfl,fun _ h=>h,fun _ h=>.inl h,?_,fun _ _ _=>rfl,?_⟩
  ·rintro x ⟨j,o,c,hj,hc⟩
   by_cases e:j=id
   ·subst e;exact .inl ⟨j,ob,c,hH,hc⟩
   exact .inl ⟨j,o,c,(h2 j e).symm.trans hj,hc⟩
  intro j o hj
  by_cases e:j=id
  ·subst e
   rw [hH] at hj;cases hj
   exact⟨_,h1,Nat.le_of_lt hg,fun e=>absurd e (by simp only;omega)⟩
  exact⟨o,(h2 j e).trans hj,Nat.le_refl _,fun _=>⟨rfl,rfl,fun _=>Nat.le_refl _⟩⟩
 refine⟨⟨hr.imm,?_,?_,hst.glob hr⟩,hst⟩
 ·intro j o hj
  by_cases e:j=id
  ·subst e
   rw [h1] at hj;cases hj
   obtain ⟨p1,p2,⟨b,cap,cs,e1,e2,e3,e4,e5,e5',e6⟩|⟨e1,e2⟩⟩:=(hr.obj j ob hH).cells hz
   ·refine .inl ⟨p1,fun r hr'=>p2 r (List.mem_of_mem_take hr'),.inl ⟨b,cap,cs,e1,e2,e3,e4,?_,e5',fun i r hi q a hq=>?_⟩⟩
    ·simp only [List.length_take];omega
    simp only [List.getElem?_take] at hi
    split at hi
    ·obtain ⟨v,q1,q2,q3⟩:=e6 i r hi q a hq
     exact⟨v,q1,q2,q3.mono hr hst⟩
    cases hi
   exact .inl ⟨p1,fun r hr'=>p2 r (List.mem_of_mem_take hr'),.inr ⟨e1,by simp only [e2,List.take_nil]⟩⟩
  rw [h2 j e] at hj
  exact(hr.obj j o hj).keep rfl (fun x c _ _=>⟨rfl,fun h=>h⟩) (fun r _ a _ v hv=>hv.mono hr hst)
 intro j j' o o' x c c' hj hj' hc hc'
 have key:∀ j o,H'.get j=some o→∃ o,H.get j=some o:=by
  intro j o hj
  by_cases e:j=id
  ·exact⟨ob,e▸hH⟩
  exact⟨o,(h2 j e).symm.trans hj⟩
 obtain ⟨q,hq⟩:=key j o hj
 obtain ⟨q',hq'⟩:=key j' o' hj'
 exact hr.inj j j' q q' x c c' hq hq' hc hc'
/-- The result's slice is made as short as it is. -/
theorem Fin.trunc {G0 H:Heap} {id k g n sz ty:Nat} {ob:Ob} {rows:List (List AV)} (hH:H.get id=some ob) (hg:ob.g=g) (hk:g < k) (hs:ob.sz=sz) (ht:ob.ty=ty) (hr:ob.rows.take n=rows):Fin G0 H (.osl id g 0 n) ((id,⟨k,sz,ty,rows⟩)::H) (.osl id k 0 n):=by
 intro G hG I ι w v h1 h2 h3
 subst hg hs ht hr
 have hz:=osl_sz h3 hH rfl
 obtain ⟨q1,q2⟩:=osl_slice h3 hH rfl
 obtain ⟨k2,k3⟩:=Rel.cut (H':=(id,⟨k,ob.sz,ob.ty,ob.rows.take n⟩)::H) h1 hH hk hz (get_cons_same _ _ _) (fun j hj=>get_cons_other _ _ hj)
 refine⟨I,ι,k2,h2.trans k3,?_⟩
 have hone:v.oneCell'=true:=by
  rcases q2 with⟨b,cap,oo,_,e,_⟩|⟨_,e,_⟩<;>subst e<;>rfl
 exact .osl _ (get_cons_same _ _ _) (Nat.le_refl _) hone fun _=>⟨hz,by simp only [List.length_take];omega,q2⟩
/-- A contract at a heap that stays as it is, in a greater heap. -/
theorem ACalls.congrH {P:Program} {f:FuncId} {args:List AV} {H H1 H2:Heap} {r0:AV} (h:ACalls P f args H (fun r H'=>r=r0∧H'=H1)) (he:∀ j,H2.get j=H1.get j):ACalls P f args H (fun r H'=>r=r0∧H'=H2):=by
 intro I ι w vs hr hl hv
 refine(h I ι w vs hr hl hv).mono ?_
 rintro e w' ⟨r,H',I',ι',v,rfl,⟨rfl,rfl⟩,k1,k2,k3⟩
 obtain ⟨q1,q2⟩:=k2.congr he
 exact⟨r,H2,I',ι',v,rfl,⟨rfl,rfl⟩,k1.mono k2 q2,q1,k3.trans q2⟩
theorem ACalls.frameS {P:Program} {f:FuncId} {args:List AV} {H0 H:Heap} {r0:AV} (h:ACalls P f args H0 (fun r H'=>r=r0∧H'=H0)) (hs:Sub H0 H) (hc:Closed H0) (ha:∀ a∈args,Clo H0 a):ACalls P f args H (fun r H'=>r=r0∧H'=H):=by
 refine(ACalls.frame h hs hc ha (fun id hi=>.inl hi)).congrH fun j=>?_
 rw [hget_app]
 cases e:H0.get j with
 | some o=>exact hs j o e
 | none=>rfl
theorem Sub.of2 {i j:Nat} {a b:Ob} {H:Heap} (h1:H.get i=some a) (h2:H.get j=some b):Sub [(i,a),(j,b)] H:=by
 intro id o ho
 simp only [Heap.get] at ho
 cases e1:Nat.beq i id with
 | true =>
  rw [e1] at ho
  have:=Nat.eq_of_beq_eq_true e1
  subst this
  cases ho;exact h1
 | false =>
  rw [e1] at ho
  cases e2:Nat.beq j id with
  | true =>
   rw [e2] at ho
   have:=Nat.eq_of_beq_eq_true e2
   subst this
   cases ho;exact h2
  | false=>rw [e2] at ho;cases ho
end
end Go.Abs
namespace Go.Proofs.YtlnfjkdacimblaaGreatDoor
open Go.Abs
section
theorem indexS_c (l:List ByteArray) (s:ByteArray) (H:Heap) (hl:l.length < 4611686018427387904):ACalls Tryz.prog 245 [.pv (slStrs l),sv s] H (fun r H'=>r=iv (gidx (fun x=>decide (s=x)) l)∧H'=H):=by
 refine ACalls.pure ?_ (by simp) H
 have hml:(l.map encStr).length=l.length:=List.length_map _
 refine Bd Tryz.func245 rfl Tryz.ntmps245<|Sq<|Rg<|Dd as'<|Zz<|Sq<|Sq<|Rg<|Dd mv'<|Dd (ll' Tryz.underlying46)<|Dd mv'<|Zz<|awp_block ?_
 refine awp_loop (σ:=Nat) (fun k=>([(0,.pv (slStrs l)),(1,sv s),(7,iv ((l.map encStr).length:Int)),(8,iv (k:Int))],[])) (fun k=>k≤l.length∧∀ j,j < k→∀ b,l[j]?=some b→decide (s=b)=false) (fun k=>l.length - k) 0 ⟨by omega,by omega⟩ ?_ ?_
 ·exact E0
 rintro k ⟨hk,hno⟩
 refine Sq<|Rg<|Dd lss'<|Zz<|Sq ?_
 refine Cn (fun hc1=>?_) fun hc1=>?_
 ·have hlt:k < l.length:=by have:=of_decide_eq_true hc1;omega
  obtain ⟨o,ho⟩:=get_of_lt hlt
  have hi:=map_get (f:=encStr) ho
  refine awp_skip<|Sq<|awp_block<|Sq<|Rg<|Dd mv'<|Dd as'<|Zz<|Sq<|Rg<|Dd mv'<|Dd mv'<|Dd mv'<|Dd (xp' so46)<|Dd (lp' Tryz.isAgg9)<|Dd se'<|Zz ?_
  refine Cn (fun hc2=>?_) fun hc2=>?_
  ·skip
   refine Sq<|Rg<|Dd mv'<|Dd as'<|Zz<|awp_ret ?_
   refine Rt ?_
   exact⟨by rw [gidx,fidx_some hno ho hc2],rfl⟩
  skip
  refine awp_skip<|Rg<|Dd ad'<|Dd mv'<|Zz ?_
  exact⟨k+1,⟨by omega,pre_succ hno ho hc2⟩,by omega,E0⟩
 have hge:k=l.length:=by have:=of_decide_eq_false hc1;omega
 subst hge
 refine awp_exit<|Sq<|Rg<|Dd as'<|Zz<|awp_ret ?_
 refine Rt ?_
 exact⟨by rw [gidx,fidx_none hno],rfl⟩
theorem inB_eq (l:List ByteArray) (s:ByteArray):l.any (fun x=>decide (s=x))=inB l s:=by
 rw [inB]
 congr 1
 funext x
 rw [Bool.eq_iff_iff,decide_eq_true_eq,decide_eq_true_eq]
 exact eq_comm
theorem containsS_c (l:List ByteArray) (s:ByteArray) (H:Heap) (hl:l.length < 4611686018427387904):ACalls Tryz.prog 212 [.pv (slStrs l),sv s] H (fun r H'=>r=bv (inB l s)∧H'=H):=by
 refine ACalls.pure ?_ (by simp) H
 refine Bd Tryz.func212 rfl Tryz.ntmps212<|Sq<|Rg<|Dd as'<|Zz<|Sq<|Rg<|Dd mv'<|Dd mv'<|Dd (by exact opr_call rfl rfl Tryz.call245 rfl (indexS_c l s _ hl))<|Dd ge'<|Dd as'<|Zz<|awp_ret ?_
 refine Rt ?_
 exact⟨by rw [gidx_any,inB_eq],rfl⟩
theorem indexI_c (l:List Int) (s:Int) (H:Heap) (hl:l.length < 4611686018427387904):ACalls Tryz.prog 202 [.pv (slInts l),iv s] H (fun r H'=>r=iv (gidx (fun x=>decide (s=x)) l)∧H'=H):=by
 refine ACalls.pure ?_ (by simp) H
 have hml:(l.map encInt).length=l.length:=List.length_map _
 refine Bd Tryz.func202 rfl Tryz.ntmps202<|Sq<|Rg<|Dd as'<|Zz<|Sq<|Sq<|Rg<|Dd mv'<|Dd (ll' Tryz.underlying42)<|Dd mv'<|Zz<|awp_block ?_
 refine awp_loop (σ:=Nat) (fun k=>([(0,.pv (slInts l)),(1,iv s),(7,iv ((l.map encInt).length:Int)),(8,iv (k:Int))],[])) (fun k=>k≤l.length∧∀ j,j < k→∀ b,l[j]?=some b→decide (s=b)=false) (fun k=>l.length - k) 0 ⟨by omega,by omega⟩ ?_ ?_
 ·exact E0
 rintro k ⟨hk,hno⟩
 refine Sq<|Rg<|Dd lss'<|Zz<|Sq ?_
 refine Cn (fun hc1=>?_) fun hc1=>?_
 ·have hlt:k < l.length:=by have:=of_decide_eq_true hc1;omega
  obtain ⟨o,ho⟩:=get_of_lt hlt
  have hi:=map_get (f:=encInt) ho
  refine awp_skip<|Sq<|awp_block<|Sq<|Rg<|Dd mv'<|Dd as'<|Zz<|Sq<|Rg<|Dd mv'<|Dd mv'<|Dd mv'<|Dd (xp' so42)<|Dd (lp' Tryz.isAgg3)<|Dd eql'<|Zz ?_
  refine Cn (fun hc2=>?_) fun hc2=>?_
  ·skip
   refine Sq<|Rg<|Dd mv'<|Dd as'<|Zz<|awp_ret ?_
   refine Rt ?_
   exact⟨by rw [gidx,fidx_some hno ho hc2],rfl⟩
  skip
  refine awp_skip<|Rg<|Dd ad'<|Dd mv'<|Zz ?_
  exact⟨k+1,⟨by omega,pre_succ hno ho hc2⟩,by omega,E0⟩
 have hge:k=l.length:=by have:=of_decide_eq_false hc1;omega
 subst hge
 refine awp_exit<|Sq<|Rg<|Dd as'<|Zz<|awp_ret ?_
 refine Rt ?_
 exact⟨by rw [gidx,fidx_none hno],rfl⟩
theorem containsI_c (l:List Int) (s:Int) (H:Heap) (hl:l.length < 4611686018427387904):ACalls Tryz.prog 161 [.pv (slInts l),iv s] H (fun r H'=>r=bv (l.any (fun x=>decide (s=x)))∧H'=H):=by
 refine ACalls.pure ?_ (by simp) H
 refine Bd Tryz.func161 rfl Tryz.ntmps161<|Sq<|Rg<|Dd as'<|Zz<|Sq<|Rg<|Dd mv'<|Dd mv'<|Dd (by exact opr_call rfl rfl Tryz.call202 rfl (indexI_c l s _ hl))<|Dd ge'<|Dd as'<|Zz<|awp_ret ?_
 refine Rt ?_
 exact⟨by rw [gidx_any],rfl⟩
/-- The index of a node inside of a list, once. -/
def gInner (l:List ByteArray) (node:ByteArray):Int:=if decide (gidx (fun x=>decide (node=x)) l≤0)||decide (gidx (fun x=>decide (node=x)) l=(l.length:Int) - 1)||inB (l.drop ((gidx (fun x=>decide (node=x)) l).toNat+1)) node then -1 else gidx (fun x=>decide (node=x)) l
theorem inner_c (l:List ByteArray) (node:ByteArray) (H:Heap) (hl:l.length < 1099511627776):ACalls Tryz.prog 213 [.pv (slStrs l),sv node] H (fun r H'=>r=iv (gInner l node)∧H'=H):=by
 refine ACalls.pure ?_ (by simp) H
 have hml:(l.map encStr).length=l.length:=List.length_map _
 have hrl:∀ r∈l.map encStr,r.length=1:=fun r hr=>by
  obtain ⟨t,_,rfl⟩:=List.mem_map.1 hr
  rfl
 obtain ⟨g,hg⟩:∃ g,g=gidx (fun x=>decide (node=x)) l:=⟨_,rfl⟩
 rw [gInner,← hg]
 have hix:=fun H=>indexS_c l node H (by omega)
 rw [← hg] at hix
 refine Bd Tryz.func213 rfl Tryz.ntmps213 ?_
 rcases gidx_cases (fun x=>decide (node=x)) l with⟨e1,_⟩|⟨k,o,e1,e2,_⟩
 ·have hg0:decide (g≤0)=true:=decide_eq_true (by omega)
  refine Sq<|Rg<|Dd as'<|Zz<|Sq<|Rg<|Dd mv'<|Dd mv'<|Dd (by exact opr_call rfl rfl Tryz.call245 rfl (hix _))<|Dd as'<|Zz<|Sq<|Sq<|Rg<|Dd mv'<|Dd le'<|Dd mv' ?_
  refine al_off rfl rfl rfl (by assumption) rfl ?_
  refine al_off rfl rfl rfl (by assumption) rfl ?_
  refine al_off rfl rfl rfl (by assumption) rfl ?_
  refine al_off rfl rfl rfl (by assumption) rfl ?_
  refine al_off rfl rfl rfl (by assumption) rfl ?_
  refine Dd pt'<|Dd mv' ?_
  refine al_off rfl rfl rfl (by rfl) rfl ?_
  refine al_off rfl rfl rfl (by rfl) rfl ?_
  refine al_off rfl rfl rfl (by rfl) rfl ?_
  refine al_off rfl rfl rfl (by rfl) rfl ?_
  refine al_off rfl rfl rfl (by rfl) rfl ?_
  refine al_off rfl rfl rfl (by rfl) rfl ?_
  refine Dd pk'<|Zz ?_
  refine Cn (fun hc1=>?_) fun hc1=>?_
  ·rw [hg0,Bool.true_or,Bool.true_or,if_pos rfl]
   refine Sq<|Rg<|Dd as'<|Zz<|awp_ret ?_
   refine Rt ?_
   exact⟨rfl,rfl⟩
  cases hc1
 have hk:=(List.getElem?_eq_some_iff.1 e2).1
 have hgk:g=(k:Int):=by omega
 have hsl:=List.length_drop (i:=k+1) (l:=l)
 subst hgk
 have hcn:=fun H=>containsS_c (l.drop (k+1)) node H (by omega)
 have hdr:(l.map encStr).drop (k+1)=(l.drop (k+1)).map encStr:=List.map_drop.symm
 have e5:((k:Int).toNat+1)=k+1:=by omega
 rw [e5]
 rw [show (l.length:Int)=((l.map encStr).length:Int)by rw [hml]]
 refine Sq<|Rg<|Dd as'<|Zz<|Sq<|Rg<|Dd mv'<|Dd mv'<|Dd (by exact opr_call rfl rfl Tryz.call245 rfl (hix _))<|Dd as'<|Zz<|Sq<|Sq ?_
 refine awp_bool (t:=25) (n:=19) (X:=decide ((k:Int)≤0)||decide ((k:Int)=((l.map encStr).length:Int) - 1)||inB (l.drop (k+1)) node) ?_ ?_
 ·all_goals refine Dd mv' ?_
  all_goals refine Dd le' ?_
  all_goals refine Dd mv' ?_
  all_goals refine Sp 11 (fun h11=>?_) fun h11=>?_
  all_goals try contradiction
  all_goals first|refine Fo ?_|refine On mv' ?_
  all_goals first|refine Fo ?_|refine On mv' ?_
  all_goals first|refine Fo ?_|refine On (ll' Tryz.underlying46) ?_
  all_goals first|refine Fo ?_|refine On (by exact opd_sub rfl rfl rfl (by exact w64 (by omega) (by omega))) ?_
  all_goals first|refine Fo ?_|refine On eql' ?_
  all_goals refine Dd pk' ?_
  all_goals refine Dd mv' ?_
  all_goals refine Sp 18 (fun h18=>?_) fun h18=>?_
  all_goals try contradiction
  all_goals first|refine Fo ?_|refine On mv' ?_
  all_goals first|refine Fo ?_|refine On mv' ?_
  all_goals first|refine Fo ?_|refine On ad' ?_
  all_goals first|refine Fo ?_|refine On (by exact x_slice_sl (l:=k+1) (h:=(l.map encStr).length) (rows':=(l.drop (k+1)).map encStr) rfl so46 rfl hrl rfl rfl (by omega) (Nat.le_refl _) (by rw [List.take_length];exact hdr)) ?_
  all_goals first|refine Fo ?_|refine On mv' ?_
  all_goals first|refine Fo ?_|refine On (by exact opr_call rfl rfl Tryz.call212 rfl (hcn _)) ?_
  all_goals refine Dd pk' ?_
  all_goals refine al_nil ?_
  all_goals(exact⟨⟨_,rfl,by first|(rw [h11];rfl)|(rw [h11,h18];rfl)⟩,rfl,rfl,rfl⟩)
 refine Cn (fun hc2=>?_) fun hc2=>?_
 ·rw [if_pos hc2]
  refine Sq<|Rg<|Dd as'<|Zz<|awp_ret ?_
  refine Rt ?_
  exact⟨rfl,rfl⟩
 rw [if_neg (by rw [hc2];simp)]
 refine awp_skip<|Sq<|Rg<|Dd mv'<|Dd as'<|Zz<|awp_ret ?_
 refine Rt ?_
 exact⟨rfl,rfl⟩
end
section
theorem containsFunc_GObj (fv:AV) (l:List GObj) (p:GObj→Bool) (H:Heap) (hl:l.length < 4611686018427387904) (hf:∀ o,o∈l→CallsV Tryz.prog fv [.agg ((encObj o).map .pv)] H (fun r H'=>r=.pv (.bool (p o))∧H'=H)) :
  ACalls Tryz.prog 209 [.pv (.sl (l.map encObj)),fv] H (fun r H'=>r=bv (l.any p)∧H'=H):=by
 refine Bd Tryz.func209 rfl Tryz.ntmps209<|Sq<|Rg<|Dd as'<|Zz<|Sq<|Rg<|Dd mv'<|Dd mv'<|Dd (by exact opr_call rfl rfl Tryz.call104 rfl (indexFunc_GObj fv l p _ hl hf))<|Dd ge'<|Dd as'<|Zz<|awp_ret ?_
 refine aret1 (H':=H) (.inr rfl) rfl (rval_tmp rfl) Fin.refl ?_
 exact⟨by rw [← gidx_any],rfl⟩
/-- Whether an object refers to one of some. -/
def refsTo (routes:Bool) (ids:List ByteArray) (o:GObj):Bool:=(!routes||decide (4≤o.kind))&&o.refs.any (fun r=>inB ids r)
def gRefd (m:List GObj) (routes:Bool) (ids:List ByteArray):Bool:=m.any (refsTo routes ids)
theorem refd11_c (s:ByteArray) (ids:List ByteArray) (T:Nat) (H:Heap) (h5:H.get 5=some (bx 1 T [.pv (slStrs ids)])) (hl:ids.length < 4611686018427387904):ACalls Tryz.prog 211 [sv s,.ref 5 0 0 0] H (fun r H'=>r=bv (inB ids s)∧H'=H):=by
 refine Bd Tryz.func211 rfl Tryz.ntmps211<|Sq<|Rg<|Dd as'<|Zz<|Sq<|Rg<|Dd (by exact opd_load1_ref rfl Tryz.isAgg46 rfl h5 rfl rfl rfl)<|Dd mv'<|Dd (by exact opr_call rfl rfl Tryz.call212 rfl (containsS_c ids s _ hl))<|Dd as'<|Zz<|awp_ret ?_
 refine aret1 (H':=H) (.inr rfl) rfl (rval_tmp rfl) Fin.refl ?_
 exact⟨rfl,rfl⟩
theorem refd1_c (o:GObj) (routes:Bool) (ids:List ByteArray) (T T2:Nat) (H:Heap) (h4:H.get 4=some (bx 1 T [bv routes])) (h5:H.get 5=some (bx 1 T2 [.pv (slStrs ids)])) (h9:H.get 983=none) (hc:Closed H) (hl:ids.length < 4611686018427387904) (ho:o.refs.length < 4611686018427387904) :
  ACalls Tryz.prog 210 [av (encObj o),.ref 4 0 0 0,.ref 5 0 0 0] H (fun r H'=>r=bv (refsTo routes ids o)∧H'=H):=by
 have h4':Heap.get ((983,bx 6 49 ((encObj o).map .pv))::H) 4=some (bx 1 T [bv routes]):=h4
 have h5':Heap.get ((983,bx 6 49 ((encObj o).map .pv))::H) 5=some (bx 1 T2 [.pv (slStrs ids)]):=h5
 have hcf:=containsFuncS (.clo 211 [.ref 5 0 0 0]) o.refs (atP o.refs (fun r=>inB ids r)) (fun _=>(983,bx 6 49 ((encObj o).map .pv))::H) ho (fun k s hk=>CallsV.clo Tryz.call211 (by rw [atP_some hk];exact refd11_c s ids T2 _ h5' hl))
 rw [range_any_get] at hcf
 refine Bd Tryz.func210 rfl Tryz.ntmps210<|Sq<|Rg<|Dd (by exact opd_box (id:=983) rfl rfl rfl rfl h9)<|Dd as'<|Zz<|Sq ?_
 refine awp_bool (t:=4) (n:=16) (X:=refsTo routes ids o) ?_ ?_
 ·all_goals refine Dd (by exact opd_load1_ref rfl Tryz.isAgg4 rfl h4' rfl rfl rfl) ?_
  all_goals refine Dd no' ?_
  all_goals refine Dd mv' ?_
  all_goals refine Sp 7 (fun h7=>?_) fun h7=>?_
  all_goals try contradiction
  all_goals first|refine Fo ?_|refine On (fr' fo49_1) ?_
  all_goals first|refine Fo ?_|refine On (l1' Tryz.isAgg3) ?_
  all_goals first|refine Fo ?_|refine On ge' ?_
  all_goals refine Dd pk' ?_
  all_goals refine Dd mv' ?_
  all_goals refine Sp 12 (fun h12=>?_) fun h12=>?_
  all_goals try contradiction
  all_goals first|refine Fo ?_|refine On (fr' fo49_3) ?_
  all_goals first|refine Fo ?_|refine On (l1' Tryz.isAgg46) ?_
  all_goals first|refine Fo ?_|refine On (by exact opd_makeFunc rfl rfl) ?_
  all_goals first|refine Fo ?_|refine On (by exact opr_call rfl rfl Tryz.call101 rfl (hcf)) ?_
  all_goals refine Dd pk' ?_
  all_goals refine Dd as' ?_
  all_goals refine al_nil ?_
  all_goals(exact⟨⟨_,rfl,by(cases routes<;>first|rfl|(exact absurd h7 (by decide))|(simp only [refsTo,h12,Bool.not_true,Bool.not_false,Bool.true_or,Bool.false_or,Bool.true_and,Bool.false_and];done))⟩,rfl,rfl,rfl⟩)
 refine awp_ret ?_
 refine aret1 (H':=H) (.inr rfl) rfl (rval_tmp rfl) (Fin.pops [(983,bx 6 49 ((encObj o).map .pv))] (by simp) hc (by simp [h9])) ⟨rfl,rfl⟩
theorem cl_c {f:FuncId} {args:List AV} {m:List GObj} {H:Heap} {r0:AV} (h:ACalls Tryz.prog f args (cH m) (fun r H'=>r=r0∧H'=cH m)) (h14:H.get 14=some (cRow m)) (h12:H.get 12=some (kob m)) (ha:∀ a∈args,Clo (cH m) a):ACalls Tryz.prog f args H (fun r H'=>r=r0∧H'=H) :=
 h.frameS (Sub.of2 h14 h12) (Closed.ofL ⟨(by(simp;rfl)),(by exact kob_clo _ _),trivial⟩) ha
theorem okM_refs {m:List GObj} (hm:okM m):∀ o,o∈m→o.refs.length < 4611686018427387904:=fun o ho=>(hm.2 o ho).2.2.1
theorem refd0_c (m:List GObj) (routes:Bool) (ids:List ByteArray) (hm:okM m) (hl:ids.length < 4611686018427387904) :
  ACalls Tryz.prog 163 [.ref 14 0 0 0,bv routes,.pv (slStrs ids)] (cH m) (fun r H'=>r=bv (gRefd m routes ids)∧H'=cH m):=by
 have hf:∀ o,o∈m→CallsV Tryz.prog (.clo 210 [.ref 4 0 0 0,.ref 5 0 0 0]) [.agg ((encObj o).map .pv)] ((5,bx 1 46 [.pv (slStrs ids)])::(4,bx 1 4 [bv routes])::cH m) (fun r H'=>r=bv (refsTo routes ids o)∧H'=(5,bx 1 46 [.pv (slStrs ids)])::(4,bx 1 4 [bv routes])::cH m) :=
  fun o ho=>CallsV.clo Tryz.call210 (refd1_c o routes ids 4 46 _ rfl rfl rfl (Closed.ofL ⟨(by(simp;done)),(by(simp;done)),(by(simp;rfl)),(by exact kob_clo _ _),trivial⟩) hl (okM_refs hm o ho))
 refine Bd Tryz.func163 rfl Tryz.ntmps163<|Sq<|Rg<|Dd (by exact opd_box (id:=4) rfl rfl rfl rfl rfl)<|Dd (by exact opd_box (id:=5) rfl rfl rfl rfl rfl)<|Dd as'<|Zz<|Sq<|Rg<|Dd mv'<|Dd nc'<|Dd (fr' fo114_0)<|Dd (fr' fo38_0)<|Dd (l1' Tryz.isAgg36)<|Dd (by exact opd_makeFunc rfl rfl)<|Dd (by exact opr_call rfl rfl Tryz.call209 rfl (containsFunc_GObj _ m (refsTo routes ids) _ hm.1 hf))<|Dd as'<|Zz<|awp_ret ?_
 refine aret1 (H':=(cH m)) (.inr rfl) rfl (rval_tmp rfl) (Fin.wk (by(simp;done)) (Ha<|Hc (kob_clo _ _)<|trivial) ⟨rfl,rfl,trivial⟩) ?_
 exact⟨rfl,rfl⟩
theorem refd_c (m:List GObj) (routes:Bool) (ids:List ByteArray) (H:Heap) (h14:H.get 14=some (cRow m)) (h12:H.get 12=some (kob m)) (hm:okM m) (hl:ids.length < 4611686018427387904) :
  ACalls Tryz.prog 163 [.ref 14 0 0 0,bv routes,.pv (slStrs ids)] H (fun r H'=>r=bv (gRefd m routes ids)∧H'=H) :=
 cl_c (refd0_c m routes ids hm hl) h14 h12 (by simp;rfl)
theorem get0_c (m:List GObj) (id:ByteArray) (o:GObj) (hm:okM m) (ho:m.find? (idIs id)=some o) :
  ACalls Tryz.prog 160 [.ref 14 0 0 0,sv id] (cH m) (fun r H'=>r=av (encObj o)∧H'=cH m):=by
 rcases gidx_cases (idIs id) m with⟨e1,e2⟩|⟨k,x,e1,e2,e3⟩
 ·rw [ho] at e2;cases e2
 rw [ho] at e3;cases e3
 have hi:=map_get (f:=encObj) e2
 have hF:=fun H=>find_c m id H hm.1
 rw [e1] at hF
 refine Bd Tryz.func160 rfl Tryz.ntmps160<|Sq<|Rg<|Dd (by exact x_alloc (id:=4) rfl zo49 rfl rfl)<|Zz<|Sq ?_
 refine awp_drawc follows ?_
 refine Cr [14] (fun _ _=>mv')<|Cr [14] (fun H1 hH=>by exact opd_nilCheck_ref rfl rfl ((hH _ rfl).trans rfl) rfl)<|Cr [14] (fun _ h=>fh fo114_0 h)<|Cr [14] (fun _ h=>fh fo38_0 h)<|Cr [14] (fun _ h=>lh Tryz.isAgg36 h)<|Cr [14] (fun _ _=>mv')<|Cr [14] (fun H1 hH=>by exact opd_nilCheck_ref rfl rfl ((hH _ rfl).trans rfl) rfl)<|Cr [14] (fun _ h=>fh fo114_0 h)<|Cr [14] (fun H1 hH=>by exact opd_loadn_ref rfl Tryz.isAgg38 Tryz.sizeOf38 rfl ((hH _ rfl).trans rfl) rfl rfl rfl rfl)<|Cr [] (fun _ _=>mv')<|Cr [] (fun H1 hH=>by exact opr_call rfl rfl Tryz.call54 rfl (hF _))<|Cr [] (fun _ _=>(xp' so36))<|Cr [] (fun H1 hH=>by exact opd_loadn_pad rfl Tryz.isAgg49 Tryz.sizeOf49 rfl (by omega) (by simp only [Zl,encTag,encObj,encStr,encEdit,encInt];rfl) rfl)<|Cp [4] (fun H1 hH=>by exact x_store_all rfl Tryz.sizeOf49 rfl rfl rfl rfl ((hH _ rfl).trans rfl) rfl rfl rfl) ?_
 refine dc_nil ⟨by kernel_rfl,?_⟩
 refine awp_ret ?_
 refine aret1 (H':=(cH m)) (.inr rfl) rfl (rval_cell rfl Tryz.isAgg49 Tryz.sizeOf49 rfl rfl rfl (by simp only [Zl,encTag,encObj,encStr,encEdit,encInt];rfl) rfl) (Fin.wk (by(simp;done)) (Ha<|Hc (kob_clo _ _)<|trivial) ⟨rfl,rfl,trivial⟩) ?_
 exact⟨rfl,rfl⟩
theorem get_c (m:List GObj) (id:ByteArray) (o:GObj) (H:Heap) (h14:H.get 14=some (cRow m)) (h12:H.get 12=some (kob m)) (hm:okM m) (ho:m.find? (idIs id)=some o) :
  ACalls Tryz.prog 160 [.ref 14 0 0 0,sv id] H (fun r H'=>r=av (encObj o)∧H'=H) :=
 cl_c (get0_c m id o hm ho) h14 h12 (by simp;rfl)
end
section
/-- The one object in front is what is returned, for good; nothing else is left. -/
theorem Fin.slice0 {H1:Heap} {id g n:Nat} {ob:Ob} (ps:List (List PV)) (hH:H1.get id=some ob) (hg:ob.g=g) (hps:ob.rows=ps.map (·.map .pv)) (hn:ps.length=n) :
  Fin [] H1 (.osl id g 0 n) [] (.pv (.sl ps)):=by
 subst hg hn
 exact Fin.fz (id:=id) (ob:=ob) ps hH hps (.osl (by rw [Nat.zero_add,List.drop_zero,List.take_length])) rfl trivial trivial
theorem rl_ByteArray (l:List ByteArray):∀ r∈l.map encStr,r.length=1:=fun r hr=>by
 obtain ⟨t,_,rfl⟩:=List.mem_map.1 hr
 rfl
theorem cloneF_ByteArray (l:List ByteArray) (H:Heap) (hl:l.length < 1099511627776):ACalls Tryz.prog 108 [.pv (.sl (l.map encStr))] H (fun r H'=>r=.pv (.sl (l.map encStr))∧H'=H):=by
 refine ACalls.pure ?_ (by simp) H
 have hml:(l.map encStr).length=l.length:=List.length_map _
 refine Bd Tryz.func108 rfl Tryz.ntmps108<|Sq<|Rg<|Dd as'<|Zz<|Sq<|Sq<|Rg<|Dd mv' ?_
 refine al_r rfl rfl (opr_sl_nil rfl Tryz.underlying46 rfl) ?_
 rintro _ H2 ⟨e2,b,rfl,hb⟩
 rw [e2]
 clear e2 H2
 refine Zz ?_
 refine Cn (fun hc1=>?_) fun hc1=>?_
 ·have h0:=hb hc1
  rw [h0]
  refine Sq<|Rg<|Dd as'<|Zz<|awp_ret ?_
  refine Rt ?_
  exact⟨rfl,rfl⟩
 skip
 refine awp_skip<|Sq<|Rg<|Dd (by exact x_buildSlice_own (id:=901) rfl so46 rfl rfl rfl rfl (by simp) rfl)<|Dd mv'<|Dd (by exact x_append rfl so46 ei9 rfl rfl rfl rfl rfl rfl rfl (rl_ByteArray l) rfl (by omega) (Nat.zero_add _) (List.nil_append _))<|Dd as'<|Zz<|awp_ret ?_
 refine aret1 (H':=[]) (.inr rfl) rfl (rval_tmp rfl) (Fin.slice0 (id:=901) (l.map encStr) rfl rfl rfl rfl) ?_
 exact⟨rfl,rfl⟩
theorem grow_ByteArray (n:Nat) (H:Heap) (h4:H.get 904=none) (h5:H.get 905=none) (hc:Closed H) (hn:n < 1099511627776) :
  ACalls Tryz.prog 126 [.pv .nils,iv (n:Int)] H (fun r H'=>r=.osl 905 1 0 0∧H'=(905,⟨1,1,9,[]⟩)::H):=by
 refine Bd Tryz.func126 rfl Tryz.ntmps126 ?_
 by_cases h0:n=0
 ·subst h0
  refine awp_nilc (t:=0) (id:=905) (sz:=1) (ty:=9) rfl h5 rfl ?_
  refine Sq<|Rg<|Dd as'<|Zz<|Sq<|Sq<|Rg<|Dd mv'<|Dd lss'<|Zz ?_
  refine Cn (fun hc1=>?_) fun hc1=>?_
  ·have h:=of_decide_eq_true hc1;omega
  skip
  refine awp_skip<|Sq<|Sq<|Rg<|Dd mv'<|Dd mv'<|Dd (by exact opd_cap_osc rfl Tryz.underlying46 rfl rfl rfl)<|Dd mv'<|Dd (by exact opd_len_osc rfl Tryz.underlying46 rfl rfl rfl)<|Dd (by exact opd_sub rfl rfl rfl (by exact w64 (by omega) (by omega)))<|Dd (by exact opd_sub rfl rfl rfl (by exact w64 (by omega) (by omega)))<|Dd as'<|Zz<|Sq<|Rg<|Dd mv'<|Dd gt'<|Zz ?_
  refine Cn (fun hc2=>?_) fun hc2=>?_
  ·have h:=of_decide_eq_true hc2;omega
  skip
  refine awp_skip<|Sq ?_
  refine awp_uncap (t:=0) rfl rfl rfl (by decide) ?_
  refine Rg<|Dd mv'<|Dd as'<|Zz<|awp_ret ?_
  refine aret1 (H':=((905,⟨1,1,9,[]⟩)::H)) (.inr rfl) rfl (rval_tmp rfl) ((Fin.bump (g:=0) (k:=1) rfl rfl (by decide) rfl rfl rfl).trans (Fin.get' (fun j=>get_dup _ _ _ _ j))) ?_
  exact⟨rfl,rfl⟩
 refine awp_nilc (t:=0) (id:=904) (sz:=1) (ty:=9) rfl h4 rfl ?_
 have h5':Heap.get ((904,(⟨0,1,9,[]⟩:Ob))::H) 905=none:=h5
 refine Sq<|Rg<|Dd as'<|Zz<|Sq<|Sq<|Rg<|Dd mv'<|Dd lss'<|Zz ?_
 refine Cn (fun hc3=>?_) fun hc3=>?_
 ·have h:=of_decide_eq_true hc3;omega
 skip
 refine awp_skip<|Sq<|Sq<|Rg<|Dd mv'<|Dd mv'<|Dd (by exact opd_cap_osc rfl Tryz.underlying46 rfl rfl rfl)<|Dd mv'<|Dd (by exact opd_len_osc rfl Tryz.underlying46 rfl rfl rfl)<|Dd (by exact opd_sub rfl rfl rfl (by exact w64 (by omega) (by omega)))<|Dd (by exact opd_sub rfl rfl rfl (by exact w64 (by omega) (by omega)))<|Dd as'<|Zz<|Sq<|Rg<|Dd mv'<|Dd gt'<|Zz ?_
 refine Cn (fun hc4=>?_) fun hc4=>?_
 ·skip
  refine Rg<|Dd mv'<|Dd mv'<|Dd (by exact opd_cap_osc rfl Tryz.underlying46 rfl rfl rfl)<|Dd (by exact x_slice_osc (l:=0) (h:=0) rfl so46 rfl rfl rfl rfl rfl rfl (Nat.le_refl _) (Nat.le_refl _) rfl rfl rfl)<|Dd mv'<|Dd (by exact x_append_zeros (id2:=905) (m:=n) rfl so46 Tryz.underlying3 ei9 zo9 rfl rfl rfl rfl rfl (Nat.le_refl _) rfl (by omega) (by omega) (by omega) (Nat.zero_add _) (by omega) h5' rfl)<|Dd mv'<|Dd (by exact opd_len_osc rfl Tryz.underlying46 rfl rfl rfl)<|Dd (by exact x_slice_osl (l:=0) (h:=0) rfl so46 rfl rfl rfl rfl rfl rfl (Nat.le_refl _) (by omega) rfl rfl)<|Dd as'<|Zz<|Sq<|Rg<|Dd mv'<|Dd as'<|Zz<|awp_ret ?_
  refine aret1 (H':=((905,⟨1,1,9,[]⟩)::H)) (.inr rfl) rfl (rval_tmp rfl) ((Fin.trunc (g:=0) (k:=1) (sz:=1) (ty:=9) (rows:=[]) rfl rfl (by decide) rfl rfl (List.take_zero)).trans (Fin.front' [_,_,_] [(905,⟨1,1,9,[]⟩)] (by simp;rfl) (by simp [h4,h5]) (by simp [Heap.get]) (by simp) hc (by simp [h4,h5]))) ?_
  exact⟨rfl,rfl⟩
 have h:=of_decide_eq_false hc4;omega
theorem concat_ByteArray (ls:List (List ByteArray)) (H:Heap) (hls:ls.length < 1099511627776) (hb:ls.flatten.length < 1099511627776) :
  ACalls Tryz.prog 70 [.pv (.sl (ls.map (fun l=>[.sl (l.map encStr)])))] H (fun r H'=>r=.pv (.sl (ls.flatten.map encStr))∧H'=H):=by
 refine ACalls.pure ?_ (by simp) H
 have hml:(ls.map (fun l=>[PV.sl (l.map encStr)])).length=ls.length:=List.length_map _
 have hpre:∀ k,((ls.take k).flatten).length≤ls.flatten.length:=fun k=>by
  conv=>rhs;rw [← List.take_append_drop k ls,List.flatten_append,List.length_append]
  omega
 have hst:∀ k l,ls[k]?=some l→(ls.take (k+1)).flatten=(ls.take k).flatten++l:=fun k l h=>by
  rw [List.take_add_one,h,List.flatten_append];simp
 refine Bd Tryz.func70 rfl Tryz.ntmps70<|Sq<|Rg<|Dd as'<|Zz<|Sq<|Rg<|Dd as'<|Zz<|Sq<|Sq<|Rg<|Dd mv'<|Dd (ll' Tryz.underlying163)<|Dd mv'<|Zz<|awp_block ?_
 refine awp_loop (σ:=Nat) (fun k=>([(0,.pv (.sl (ls.map (fun l=>[.sl (l.map encStr)])))),(3,iv (((ls.take k).flatten).length:Int)),(9,.pv (.sl (ls.map (fun l=>[.sl (l.map encStr)])))),(10,iv ((ls.map (fun l=>[PV.sl (l.map encStr)])).length:Int)),(11,iv (k:Int))],[])) (fun k=>k≤ls.length) (fun k=>ls.length - k) 0 (by omega) ?_ ?_
 ·exact E0
 intro k hk
 refine Sq<|Rg<|Dd lss'<|Zz<|Sq ?_
 refine Cn (fun hc1=>?_) fun hc1=>?_
 ·have hlt:k < ls.length:=by have:=of_decide_eq_true hc1;omega
  obtain ⟨l,hl⟩:=get_of_lt hlt
  have hi:=map_get (f:=fun l=>[PV.sl (l.map encStr)]) hl
  have hml2:(l.map encStr).length=l.length:=List.length_map _
  have h1:=hst k l hl
  have h2:=hpre (k+1)
  have h3:((ls.take (k+1)).flatten).length=((ls.take k).flatten).length+l.length:=by rw [h1,List.length_append]
  have hw:IntKind.i64.wrap ((((ls.take k).flatten).length:Int)+((l.map encStr).length:Int))=(((ls.take (k+1)).flatten).length:Int):=by rw [IntKind.wrap_i64,hml2,h3];omega
  refine awp_skip<|Sq<|awp_block<|Sq<|Rg<|Dd (xp' so163)<|Dd (lp' Tryz.isAgg46)<|Dd as'<|Zz<|Sq<|Rg<|Dd mv'<|Dd mv'<|Dd (ll' Tryz.underlying46)<|Dd (by exact opd_add rfl rfl rfl hw)<|Dd as'<|Zz<|Sq<|Rg<|Dd mv'<|Dd lss'<|Zz ?_
  refine Cn (fun hc2=>?_) fun hc2=>?_
  ·have h:=of_decide_eq_true hc2;omega
  skip
  refine awp_skip<|Rg<|Dd ad'<|Dd mv'<|Zz ?_
  exact⟨k+1,by omega,by omega,E0⟩
 have hge:k=ls.length:=by have:=of_decide_eq_false hc1;omega
 subst hge
 rw [List.take_length]
 refine awp_exit<|Sq<|Rg<|Dd mv'<|Dd (by exact opr_call_nil rfl rfl Tryz.call126 rfl (grow_ByteArray ls.flatten.length [] rfl rfl (Closed.of (by simp)) hb))<|Dd as'<|Zz<|Sq<|Sq<|Rg<|Dd mv'<|Dd (ll' Tryz.underlying163)<|Dd mv'<|Zz<|awp_block ?_
 refine awp_loop2 (fun(k:Nat) (g:Nat)=>([(6,.osl 905 g 0 ((ls.take k).flatten.map encStr).length),(25,.pv (.sl (ls.map (fun l=>[.sl (l.map encStr)])))),(26,iv ((ls.map (fun l=>[PV.sl (l.map encStr)])).length:Int)),(27,iv (k:Int))],[(905,⟨g,1,9,pvR ((ls.take k).flatten.map encStr)⟩)])) (fun k g=>k≤ls.length) (fun k g=>ls.length - k) 0 1 (by omega) ?_ ?_
 ·exact E0
 intro k g hk
 refine Sq<|Rg<|Dd lss'<|Zz<|Sq ?_
 refine Cn (fun hc3=>?_) fun hc3=>?_
 ·have hlt:k < ls.length:=by have:=of_decide_eq_true hc3;omega
  obtain ⟨l,hl⟩:=get_of_lt hlt
  have hi:=map_get (f:=fun l=>[PV.sl (l.map encStr)]) hl
  have hml2:(l.map encStr).length=l.length:=List.length_map _
  have hml3:((ls.take k).flatten.map encStr).length=((ls.take k).flatten).length:=List.length_map _
  have h1:=hst k l hl
  have h2:=hpre (k+1)
  have h3:((ls.take (k+1)).flatten).length=((ls.take k).flatten).length+l.length:=by rw [h1,List.length_append]
  refine awp_skip<|Sq<|awp_block<|Sq<|Rg<|Dd (xp' so163)<|Dd (lp' Tryz.isAgg46)<|Dd as'<|Zz<|Rg<|Dd mv'<|Dd mv'<|Dd (by exact x_append rfl so46 ei9 rfl rfl rfl rfl rfl (pvR_len _) rfl (rl_ByteArray l) rfl (by omega) (by rw [h1,List.map_append,List.length_append]:((ls.take k).flatten.map encStr).length+(l.map encStr).length=((ls.take (k+1)).flatten.map encStr).length) (by rw [h1,List.map_append,pvR,pvR,List.map_append]:pvR ((ls.take k).flatten.map encStr)++(l.map encStr).map (·.map .pv)=pvR ((ls.take (k+1)).flatten.map encStr)))<|Dd as'<|Zz<|Rg<|Dd ad'<|Dd mv'<|Zz ?_
  exact⟨k+1,g+1,by omega,by omega,Ent.dup ⟨⟨_,rfl,rfl⟩,⟨_,rfl,rfl⟩,⟨_,rfl,rfl⟩,⟨_,rfl,rfl⟩,trivial⟩⟩
 have hge:k=ls.length:=by have:=of_decide_eq_false hc3;omega
 subst hge
 rw [List.take_length]
 refine awp_exit<|Sq<|Rg<|Dd mv'<|Dd as'<|Zz<|awp_ret ?_
 refine aret1 (H':=[]) (.inr rfl) rfl (rval_tmp rfl) (Fin.slice0 (id:=905) (ls.flatten.map encStr) rfl rfl rfl rfl) ?_
 exact⟨rfl,rfl⟩
end
section
def gDropM (m:List GObj) (id:ByteArray):List GObj×Int :=
 if !gMap m then([],1)else if !hasK GObj.id m id then([],11)else(m.take (lbI GObj.id m id)++m.drop (lbI GObj.id m id+1),0)
theorem drop_c (m:List GObj) (id:ByteArray) (H:Heap) (hm:okM m) (hl:m.length < 1099511627776):ACalls Tryz.prog 120 [.agg [.pv (slObjs m)],sv id] H (fun r H'=>r=.tup [.agg [.pv (slObjs (gDropM m id).1)],iv (gDropM m id).2]∧H'=H):=by
 refine ACalls.pure ?_ (by simp) H
 have hml:(m.map encObj).length=m.length:=List.length_map _
 have hrl:=encObj_rl m
 have hv:=fun H=>valids_c [m] H (by show 1 < _;omega) (by intro x hx;rw [List.mem_singleton] at hx;subst hx;exact hm)
 rw [show ([m].all gMap)=gMap m by simp] at hv
 refine Bd Tryz.func120 rfl Tryz.ntmps120<|Sq<|Rg<|Dd (by exact opd_box (id:=2) rfl rfl rfl rfl rfl)<|Dd (by exact x_alloc (id:=4) rfl zoN38 rfl rfl)<|Dd as'<|Zz<|Sq<|Sq<|Rg<|Dd (by exact opd_loadn_ref rfl Tryz.isAgg38 Tryz.sizeOf38 rfl rfl rfl rfl (by simp only [Zl,encTag,encObj,encStr,encEdit,encInt];rfl) rfl)<|Dd (by exact x_buildSlice ([m].map encMap) rfl so244 rfl rfl rfl rfl rfl (by simp [encMap]))<|Dd (by exact opr_call rfl rfl Tryz.call166 rfl (hv _))<|Dd no'<|Zz ?_
 refine Cn (fun hc1=>?_) fun hc1=>?_
 ·have e:gDropM m id=([],1):=by rw [gDropM,if_pos hc1]
  rw [e]
  refine Sq<|Rg<|Dd (bu' bo38)<|Uu (sa' Tryz.sizeOf38)<|Dd as'<|Zz<|awp_ret ?_
  refine aret2 (H':=[]) (.inr rfl) rfl (rval_cell rfl Tryz.isAgg38 Tryz.sizeOf38 rfl rfl rfl (by simp only [Zl,encTag,encObj,encStr,encEdit,encInt];rfl) rfl) (rval_tmp rfl) (Fin.wk (by simp) trivial trivial) ?_
  exact⟨rfl,rfl⟩
 have hg:gMap m=true:=by
  have h:=hc1
  revert h
  cases gMap m<;>simp
 have hu:=(gMap_iff.1 hg).2.1
 have hle:=lbI_le GObj.id m id
 have hgp:gDropM m id=if !hasK GObj.id m id then([],11)else(m.take (lbI GObj.id m id)++m.drop (lbI GObj.id m id+1),0):=by rw [gDropM,if_neg (by rw [hc1];simp)]
 obtain ⟨i,hi0⟩:∃ i,i=lbI GObj.id m id:=⟨_,rfl⟩
 rw [← hi0] at hgp hle
 have hat:=fun H=>at_c m id H hl hu
 rw [← hi0] at hat
 refine awp_skip<|Sq<|Rg<|Dd (by exact opd_loadn_ref rfl Tryz.isAgg38 Tryz.sizeOf38 rfl rfl rfl rfl (by simp only [Zl,encTag,encObj,encStr,encEdit,encInt];rfl) rfl)<|Dd mv'<|Dd (by exact opr_call rfl rfl Tryz.call167 rfl (hat _))<|Dd mv'<|Dd ex'<|Dd ex'<|Dd as'<|Dd as'<|Zz<|Sq<|Sq<|Rg<|Dd mv'<|Dd no'<|Zz ?_
 refine Cn (fun hc2=>?_) fun hc2=>?_
 ·rw [hgp,if_pos hc2]
  refine Sq<|Rg<|Dd (bu' bo38)<|Uu (sa' Tryz.sizeOf38)<|Dd as'<|Zz<|awp_ret ?_
  refine aret2 (H':=[]) (.inr rfl) rfl (rval_cell rfl Tryz.isAgg38 Tryz.sizeOf38 rfl rfl rfl (by simp only [Zl,encTag,encObj,encStr,encEdit,encInt];rfl) rfl) (rval_tmp rfl) (Fin.wk (by simp) trivial trivial) ?_
  exact⟨rfl,rfl⟩
 have hf:hasK GObj.id m id=true:=by
  have h:=hc2
  revert h
  cases hasK GObj.id m id<;>simp
 obtain ⟨x,hx,hxk⟩:=hasK_get hu hf
 rw [← hi0] at hx
 have hlt:=(List.getElem?_eq_some_iff.1 hx).1
 rw [hgp,if_neg (by rw [hc2];simp)]
 have hw:IntKind.i64.wrap ((i:Int)+1)=((i+1:Nat):Int):=by rw [IntKind.wrap_i64];omega
 have hs:slObjs (m.take i++m.drop (i+1))=.sl ((m.map encObj).take i++(m.map encObj).drop (i+1)):=by rw [slObjs,List.map_append,List.map_take,List.map_drop]
 rw [hs]
 refine awp_skip<|Sq<|Rg<|Dd (fr' fo38_0)<|Dd (l1' Tryz.isAgg36)<|Dd (by exact opr_call rfl rfl Tryz.call168 rfl (clone_Obj (m.map encObj) _ (Closed.ofL ⟨(by(simp;done)),(by(simp;done)),trivial⟩) rfl rfl (by omega) hrl))<|Dd mv'<|Dd mv'<|Dd (by exact opd_add rfl rfl rfl hw)<|Dd (by exact opr_call rfl rfl Tryz.call170 rfl (delete_Obj (m.map encObj) i (i+1) 1 _ (Closed.ofL ⟨(by(simp;done)),(by(simp;done)),(by(simp;done)),trivial⟩) rfl (by omega) (by omega) (by omega) hrl))<|Dd (bu' bo38)<|Uu (sa' Tryz.sizeOf38)<|Dd as'<|Zz<|awp_ret ?_
 refine aret2 (H':=[]) (.inr rfl) rfl (rl' Tryz.isAgg38 Tryz.sizeOf38) (rval_tmp rfl) (Fin.wk (r:=.tup [.agg [.pv (.sl ((m.map encObj).take i++(m.map encObj).drop (i+1)))],iv 0]) (by simp) trivial trivial) ?_
 exact⟨rfl,rfl⟩
/-- What an edit leads to: objects to put, an Id to drop, an error. -/
structure GRes where
 put:List GObj
 drop:ByteArray
 err:Int
def encRes (r:GRes):List PV:=[slObjs r.put,.str r.drop,.int .i64 r.err]
def errR (n:Int):GRes:=⟨[],sNil,n⟩
def gSplit (m:List GObj) (e:GEdit) (o:GObj):GRes :=
 if(kindOf m e.other).isSome then errR 9
 else if decide (gInner o.refs e.node < 0)then errR 12
 else if gRefd m true [e.id] then errR 14
 else⟨[⟨o.id,o.kind,o.x,o.y,o.refs.take ((gInner o.refs e.node).toNat+1),o.tags⟩,⟨e.other,2,0,0,o.refs.drop (gInner o.refs e.node).toNat,o.tags⟩],sNil,0⟩
theorem gInner_lt {l:List ByteArray} {node:ByteArray}:gInner l node = -1∨∃ k:Nat,gInner l node=(k:Int)∧0 < k∧k+1 < l.length∧l[k]?=some node:=by
 unfold gInner
 split
 ·exact .inl rfl
 next h =>
 rw [Bool.not_eq_true] at h
 rw [Bool.or_eq_false_iff,Bool.or_eq_false_iff,decide_eq_false_iff_not,decide_eq_false_iff_not] at h
 rcases gidx_cases (fun x=>decide (node=x)) l with⟨e1,_⟩|⟨k,o,e1,e2,e3⟩
 ·omega
 right
 have hlt:=(List.getElem?_eq_some_iff.1 e2).1
 have hon:node=o:=of_decide_eq_true (show decide (node=o)=true from List.find?_some (p:=fun x=>decide (node=x)) e3)
 exact⟨k,e1,by omega,by omega,by rw [hon];exact e2⟩
/-- A plain result, of a function on a closed map. -/
theorem Fin.cl {m:List GObj} {H1:Heap} (ps:List PV) (h14:H1.get 14=some (cRow m)) (h12:H1.get 12=some (kob m)):Fin (cH m) H1 (av ps) (cH m) (av ps) :=
 Fin.wk (by simp [av]) ⟨⟨_,h14,rfl⟩,by simp;rfl,⟨_,h12,rfl⟩,kob_clo _ _,trivial⟩ ⟨h14.symm,h12.symm,trivial⟩
theorem split0_c (m:List GObj) (e:GEdit) (o:GObj) (hm:okM m) (hr:o.refs.length < 1099511627776) :
  ACalls Tryz.prog 164 [.ref 14 0 0 0,av (encEdit e),av (encObj o)] (cH m) (fun r H'=>r=av (encRes (gSplit m e o))∧H'=cH m):=by
 have hml:(o.refs.map encStr).length=o.refs.length:=List.length_map _
 refine Bd Tryz.func164 rfl Tryz.ntmps164<|Sq<|Rg<|Dd (by exact opd_box (id:=4) rfl rfl rfl rfl rfl)<|Dd (by exact opd_box (id:=5) rfl rfl rfl rfl rfl)<|Dd (by exact x_alloc (id:=6) rfl zo154 rfl rfl)<|Zz<|Sq<|Sq ?_
 refine awp_drawc follows ?_
 refine Cq mv'<|Cq nc'<|Cq (fr' fo114_1)<|Cq (l1' Tryz.isAgg80)<|Cq (fr' fo51_2)<|Cq (l1' Tryz.isAgg9)<|Cq (by exact opd_lookup_ok (κ:=strK) rfl Tryz.underlying80 Tryz.underlying9 rfl rfl rfl rfl rfl Tryz.zeroValue3 (.inl rfl))<|Cq mv'<|Cq ex'<|Cq ex'<|Cq as'<|Cq as' ?_
 refine dc_nil ⟨by kernel_rfl,?_⟩
 refine Sq<|Rg<|Dd mv'<|Zz ?_
 refine Cn (fun hc1=>?_) fun hc1=>?_
 ·have hk:(kindOf m e.other).isSome=true:=by
   rw [kM_kind] at hc1
   cases h:kindOf m e.other with
   | none=>rw [h] at hc1;cases hc1
   | some x=>rfl
  have hg:gSplit m e o=errR 9:=by rw [gSplit,if_pos hk]
  rw [hg]
  refine Sq<|Rg<|Dd (bu' bo154)<|Uu (sa' Tryz.sizeOf154)<|Zz<|awp_ret ?_
  refine aret1 (H':=(cH m)) (.inr rfl) rfl (rl' Tryz.isAgg154 Tryz.sizeOf154) (Fin.cl (m:=m) (encRes (errR 9)) rfl rfl) ?_
  exact⟨rfl,rfl⟩
 have hk:kindOf m e.other=none:=by
  rw [kM_kind] at hc1
  cases h:kindOf m e.other with
  | none=>rfl
  | some x=>rw [h] at hc1;cases hc1
 have hg:gSplit m e o=(if decide (gInner o.refs e.node < 0)then errR 12 else if gRefd m true [e.id] then errR 14 else⟨[⟨o.id,o.kind,o.x,o.y,o.refs.take ((gInner o.refs e.node).toNat+1),o.tags⟩,⟨e.other,2,0,0,o.refs.drop (gInner o.refs e.node).toNat,o.tags⟩],sNil,0⟩):=by
  rw [gSplit,if_neg (by rw [hk];simp)]
 have hin:=fun H=>inner_c o.refs e.node H hr
 refine awp_skip<|Sq<|Rg<|Dd (fr' fo49_3)<|Dd (l1' Tryz.isAgg46)<|Dd (fr' fo51_3)<|Dd (l1' Tryz.isAgg9)<|Dd (by exact opr_call rfl rfl Tryz.call213 rfl (hin _))<|Dd as'<|Zz<|Sq<|awp_block<|Sq<|Rg<|Dd mv'<|Dd lss'<|Dd as'<|Zz ?_
 refine Cn (fun hc2=>?_) fun hc2=>?_
 ·rw [hg,if_pos hc2]
  refine Sq<|Rg<|Dd (bu' bo154)<|Uu (sa' Tryz.sizeOf154)<|Zz<|awp_ret ?_
  refine aret1 (H':=(cH m)) (.inr rfl) rfl (rl' Tryz.isAgg154 Tryz.sizeOf154) (Fin.cl (m:=m) (encRes (errR 12)) rfl rfl) ?_
  exact⟨rfl,rfl⟩
 rw [hg,if_neg (by rw [hc2];simp)]
 refine Sq<|Rg<|Dd mv'<|Dd (fr' fo51_1)<|Dd (l1' Tryz.isAgg9)<|Dd (by exact x_buildSlice ([e.id].map encStr) rfl so46 rfl rfl rfl rfl rfl (by simp [encStr]))<|Dd (by exact opr_call rfl rfl Tryz.call163 rfl (refd_c m true [e.id] _ rfl rfl hm (by show 1 < _;omega)))<|Dd as'<|Zz ?_
 refine Cn (fun hc3=>?_) fun hc3=>?_
 ·rw [if_pos hc3]
  refine Sq<|Rg<|Dd (bu' bo154)<|Uu (sa' Tryz.sizeOf154)<|Zz<|awp_ret ?_
  refine aret1 (H':=(cH m)) (.inr rfl) rfl (rl' Tryz.isAgg154 Tryz.sizeOf154) (Fin.cl (m:=m) (encRes (errR 14)) rfl rfl) ?_
  exact⟨rfl,rfl⟩
 rw [if_neg (by rw [hc3];simp)]
 rcases gInner_lt (l:=o.refs) (node:=e.node)with h|⟨k,h,k0,k1,k2⟩
 ·rw [h] at hc2;cases hc2
 rw [h]
 have hw:IntKind.i64.wrap ((k:Int)+1)=((k+1:Nat):Int):=by rw [IntKind.wrap_i64];omega
 have e5:((k:Int)).toNat=k:=by omega
 rw [e5]
 refine awp_skip<|Sq ?_
 refine awp_drawc follows ?_
 refine Cr [4] (fun _ h=>fh fo51_2 h)<|Cr [4] (fun _ h=>lh Tryz.isAgg9 h)<|Cr [5] (fun _ h=>fh fo49_3 h)<|Cr [5] (fun _ h=>lh Tryz.isAgg46 h)<|Cr [] (fun _ _=>mv')<|Cr [] (fun H1 hH=>by exact x_slice_sl (l:=k) (h:=(o.refs.map encStr).length) (rows':=(o.refs.drop k).map encStr) rfl so46 rfl (rl_ByteArray o.refs) rfl rfl (by omega) (Nat.le_refl _) (by rw [List.take_length];exact List.map_drop.symm))<|Cr [] (fun H1 hH=>by exact opr_call rfl rfl Tryz.call108 rfl (cloneF_ByteArray (o.refs.drop k) _ (by rw [List.length_drop];omega)))<|Cr [5] (fun _ h=>fh fo49_4 h)<|Cr [5] (fun _ h=>lh Tryz.isAgg47 h)<|Cr [] (fun _ _=>(bu' bo49))<|Cp [10] (fun H1 hH=>by exact x_alloc (id:=10) rfl zo49 rfl ((hH _ rfl).trans rfl))<|Cp [10] (fun H1 hH=>by exact x_store_all rfl Tryz.sizeOf49 rfl rfl rfl rfl ((hH _ rfl).trans rfl) rfl rfl rfl) ?_
 refine dc_nil ⟨by kernel_rfl,?_⟩
 refine Sq<|Rg<|Dd (fr' fo49_3)<|Dd (l1' Tryz.isAgg46)<|Dd mv'<|Dd (by exact opd_add rfl rfl rfl hw)<|Dd (by exact x_slice_sl (l:=0) (h:=k+1) (rows':=(o.refs.take (k+1)).map encStr) rfl so46 rfl (rl_ByteArray o.refs) rfl rfl (by omega) (by omega) (by rw [List.drop_zero];exact List.map_take.symm))<|Dd (by exact opr_call rfl rfl Tryz.call108 rfl (cloneF_ByteArray (o.refs.take (k+1)) _ (by rw [List.length_take];omega)))<|Dd (fr' fo49_3)<|Uu (by exact x_store1 rfl Tryz.sizeOf46 rfl rfl rfl rfl rfl rfl (Nat.le_of_ble_eq_true rfl) rfl rfl)<|Zz<|Sq<|Rg<|Dd (ln' Tryz.isAgg49 Tryz.sizeOf49)<|Dd (ln' Tryz.isAgg49 Tryz.sizeOf49)<|Dd (by exact x_buildSlice ([(⟨o.id,o.kind,o.x,o.y,o.refs.take (k+1),o.tags⟩:GObj),⟨e.other,2,0,0,o.refs.drop k,o.tags⟩].map encObj) rfl so36 rfl rfl rfl rfl rfl (by simp [encObj]))<|Dd (bu' bo154)<|Uu (sa' Tryz.sizeOf154)<|Zz<|awp_ret ?_
 refine aret1 (H':=(cH m)) (.inr rfl) rfl (rl' Tryz.isAgg154 Tryz.sizeOf154) (Fin.cl (m:=m) (encRes ⟨[⟨o.id,o.kind,o.x,o.y,o.refs.take (k+1),o.tags⟩,⟨e.other,2,0,0,o.refs.drop k,o.tags⟩],sNil,0⟩) rfl rfl) ?_
 exact⟨rfl,rfl⟩
end
section
def atS (l:List ByteArray) (k:Nat):ByteArray:=(l[k]?).getD sNil
theorem atS_some {l:List ByteArray} {k:Nat} {s:ByteArray} (h:l[k]?=some s):atS l k=s:=by rw [atS,h];rfl
def gJoin (m:List GObj) (e:GEdit) (o x:GObj):GRes :=
 if !decide (x.kind=2)then errR 13
 else if decide (e.id=e.other)||!decide (atS o.refs (o.refs.length - 1)=atS x.refs 0)then errR 12
 else if gRefd m true [e.id,e.other] then errR 14
 else if decide (2000 < o.refs.length+x.refs.length - 1)then errR 2
 else⟨[⟨o.id,o.kind,o.x,o.y,[o.refs,x.refs.drop 1].flatten,o.tags⟩],e.other,0⟩
theorem join0_c (m:List GObj) (e:GEdit) (o x:GObj) (hm:okM m) (hr:o.refs.length < 549755813888) (hr2:x.refs.length < 549755813888) (hx:m.find? (idIs e.other)=some x) (ho:0 < o.refs.length) (hx2:x.kind=2→0 < x.refs.length) :
  ACalls Tryz.prog 165 [.ref 14 0 0 0,av (encEdit e),av (encObj o)] (cH m) (fun r H'=>r=av (encRes (gJoin m e o x))∧H'=cH m):=by
 have hml:(o.refs.map encStr).length=o.refs.length:=List.length_map _
 have hml2:(x.refs.map encStr).length=x.refs.length:=List.length_map _
 refine Bd Tryz.func165 rfl Tryz.ntmps165<|Sq<|Rg<|Dd (by exact opd_box (id:=4) rfl rfl rfl rfl rfl)<|Dd (by exact opd_box (id:=5) rfl rfl rfl rfl rfl)<|Dd (by exact x_alloc (id:=6) rfl zo154 rfl rfl)<|Zz<|Sq<|Rg<|Dd mv'<|Dd (fr' fo51_2)<|Dd (l1' Tryz.isAgg9)<|Dd (by exact opr_call rfl rfl Tryz.call160 rfl (get_c m e.other x _ rfl rfl hm hx))<|Dd (by exact x_alloc (id:=7) rfl zo49 rfl rfl)<|Uu (sa' Tryz.sizeOf49)<|Zz<|Sq<|awp_block<|Sq<|Rg<|Dd (fr' fo49_1)<|Dd (l1' Tryz.isAgg3)<|Dd ne'<|Dd as'<|Zz ?_
 refine Cn (fun hc1=>?_) fun hc1=>?_
 ·rw [gJoin,if_pos hc1]
  refine Sq<|Rg<|Dd (bu' bo154)<|Uu (sa' Tryz.sizeOf154)<|Zz<|awp_ret ?_
  refine aret1 (H':=(cH m)) (.inr rfl) rfl (rl' Tryz.isAgg154 Tryz.sizeOf154) (Fin.cl (m:=m) (encRes (errR 13)) rfl rfl) ?_
  exact⟨rfl,rfl⟩
 have hk2:x.kind=2:=by
  have h:=hc1
  simpa using h
 rw [gJoin,if_neg (by rw [hc1];simp)]
 obtain ⟨la,hla⟩:=get_of_lt (l:=o.refs) (k:=o.refs.length - 1) (by omega)
 obtain ⟨fi,hfi⟩:=get_of_lt (l:=x.refs) (k:=0) (hx2 hk2)
 have hi:=map_get (f:=encStr) hla
 have hi0:=map_get (f:=encStr) hfi
 have hw:IntKind.i64.wrap (((o.refs.map encStr).length:Int) - 1)=((o.refs.length - 1:Nat):Int):=by rw [IntKind.wrap_i64,hml];omega
 rw [atS_some hla,atS_some hfi]
 refine Sq ?_
 refine awp_mergeR (t:=17) (n:=21) (X:=decide (e.id=e.other)||!decide (la=fi)) ?_ ?_
 ·cases hg23:(decide (e.id=e.other):Bool)
  ·refine awp_drawc follows ?_
   refine Cq (fr' fo51_1)<|Cq (l1' Tryz.isAgg9)<|Cq (fr' fo51_2)<|Cq (l1' Tryz.isAgg9)<|Cq se'<|Cq mv'<|Nf (fr' fo49_3)<|Nf (l1' Tryz.isAgg46)<|Nf (fr' fo49_3)<|Nf (l1' Tryz.isAgg46)<|Nf (ll' Tryz.underlying46)<|Nf (by exact opd_sub rfl rfl rfl hw)<|Nf (by exact x_index_pad rfl so46 rfl rfl (by omega) (by exact Int.toNat_natCast _) hi rfl)<|Nf (lp' Tryz.isAgg9)<|Nf (fr' fo49_3)<|Nf (l1' Tryz.isAgg46)<|Nf (by exact x_index_pad rfl so46 rfl rfl (by omega) (by exact Int.toNat_natCast _) hi0 rfl)<|Nf (lp' Tryz.isAgg9)<|Nf sn'<|Cq pf'<|Cq as' ?_
   refine dc_nil ⟨by kernel_rfl,?_⟩
   exact⟨rfl,⟨_,rfl,by rfl⟩,rfl,rfl,rfl⟩
  refine awp_drawc follows ?_
  refine Cq (fr' fo51_1)<|Cq (l1' Tryz.isAgg9)<|Cq (fr' fo51_2)<|Cq (l1' Tryz.isAgg9)<|Cq se'<|Cq mv'<|Of<|Of<|Of<|Of<|Of<|Of<|Of<|Of<|Of<|Of<|Of<|Of<|Of<|Cq pt'<|Cq as' ?_
  refine dc_nil ⟨by kernel_rfl,?_⟩
  exact⟨rfl,⟨_,rfl,by rfl⟩,rfl,rfl,rfl⟩
 refine Cn (fun hc2=>?_) fun hc2=>?_
 ·rw [if_pos hc2]
  refine Sq<|Rg<|Dd (bu' bo154)<|Uu (sa' Tryz.sizeOf154)<|Zz<|awp_ret ?_
  refine aret1 (H':=(cH m)) (.inr rfl) rfl (rl' Tryz.isAgg154 Tryz.sizeOf154) (Fin.cl (m:=m) (encRes (errR 12)) rfl rfl) ?_
  exact⟨rfl,rfl⟩
 rw [if_neg (by rw [hc2];simp)]
 refine Sq<|Rg<|Dd mv'<|Dd (fr' fo51_1)<|Dd (l1' Tryz.isAgg9)<|Dd (fr' fo51_2)<|Dd (l1' Tryz.isAgg9)<|Dd (by exact x_buildSlice ([e.id,e.other].map encStr) rfl so46 rfl rfl rfl rfl rfl (by simp [encStr]))<|Dd (by exact opr_call rfl rfl Tryz.call163 rfl (refd_c m true [e.id,e.other] _ rfl rfl hm (by show 2 < _;omega)))<|Dd as'<|Zz ?_
 refine Cn (fun hc3=>?_) fun hc3=>?_
 ·rw [if_pos hc3]
  refine Sq<|Rg<|Dd (bu' bo154)<|Uu (sa' Tryz.sizeOf154)<|Zz<|awp_ret ?_
  refine aret1 (H':=(cH m)) (.inr rfl) rfl (rl' Tryz.isAgg154 Tryz.sizeOf154) (Fin.cl (m:=m) (encRes (errR 14)) rfl rfl) ?_
  exact⟨rfl,rfl⟩
 rw [if_neg (by rw [hc3];simp)]
 have hx0:=hx2 hk2
 have hw2:IntKind.i64.wrap (((o.refs.map encStr).length:Int)+((x.refs.map encStr).length:Int))=((o.refs.length+x.refs.length:Nat):Int):=by rw [IntKind.wrap_i64,hml,hml2];omega
 have hw3:IntKind.i64.wrap (((o.refs.length+x.refs.length:Nat):Int) - 1)=((o.refs.length+x.refs.length - 1:Nat):Int):=by rw [IntKind.wrap_i64];omega
 refine Sq<|Rg<|Dd (fr' fo49_3)<|Dd (l1' Tryz.isAgg46)<|Dd (ll' Tryz.underlying46)<|Dd (fr' fo49_3)<|Dd (l1' Tryz.isAgg46)<|Dd (ll' Tryz.underlying46)<|Dd (by exact opd_add rfl rfl rfl hw2)<|Dd (by exact opd_sub rfl rfl rfl hw3)<|Dd gt'<|Dd as'<|Zz ?_
 refine Cn (fun hc4=>?_) fun hc4=>?_
 ·have h:2000 < o.refs.length+x.refs.length - 1:=by have h:=of_decide_eq_true hc4;omega
  rw [if_pos (decide_eq_true h)]
  refine Sq<|Rg<|Dd (bu' bo154)<|Uu (sa' Tryz.sizeOf154)<|Zz<|awp_ret ?_
  refine aret1 (H':=(cH m)) (.inr rfl) rfl (rl' Tryz.isAgg154 Tryz.sizeOf154) (Fin.cl (m:=m) (encRes (errR 2)) rfl rfl) ?_
  exact⟨rfl,rfl⟩
 have h:¬ 2000 < o.refs.length+x.refs.length - 1:=by have h:=of_decide_eq_false hc4;omega
 rw [if_neg (by rw [decide_eq_false h];simp)]
 have hfl:[o.refs,x.refs.drop 1].flatten.length < 1099511627776:=by simp;omega
 refine awp_skip<|Sq ?_
 refine awp_drawc follows ?_
 refine Cr [5] (fun _ h=>fh fo49_3 h)<|Cr [5] (fun _ h=>lh Tryz.isAgg46 h)<|Cr [7] (fun _ h=>fh fo49_3 h)<|Cr [7] (fun _ h=>lh Tryz.isAgg46 h)<|Cr [] (fun H1 hH=>by exact x_slice_sl (l:=1) (h:=(x.refs.map encStr).length) (rows':=(x.refs.drop 1).map encStr) rfl so46 rfl (rl_ByteArray x.refs) rfl rfl (by omega) (Nat.le_refl _) (by rw [List.take_length];exact List.map_drop.symm))<|Cr [] (fun H1 hH=>by exact by apply x_buildSlice (ps:=[o.refs,x.refs.drop 1].map (fun l=>[PV.sl (l.map encStr)])) (hS:=so163)<;>first|rfl|simp)<|Cr [] (fun H1 hH=>by exact opr_call rfl rfl Tryz.call70 rfl (concat_ByteArray [o.refs,x.refs.drop 1] _ (by show 2 < _;omega) hfl))<|Cr [5] (fun _ h=>fh fo49_3 h)<|Cp [5] (fun H1 hH=>by exact x_store1 rfl Tryz.sizeOf46 rfl rfl rfl ((hH _ rfl).trans rfl) rfl rfl (Nat.le_of_ble_eq_true rfl) rfl rfl) ?_
 refine dc_nil ⟨by kernel_rfl,?_⟩
 refine Sq<|Rg<|Dd (ln' Tryz.isAgg49 Tryz.sizeOf49)<|Dd (by exact x_buildSlice ([(⟨o.id,o.kind,o.x,o.y,[o.refs,x.refs.drop 1].flatten,o.tags⟩:GObj)].map encObj) rfl so36 rfl rfl rfl rfl rfl (by simp [encObj]))<|Dd (fr' fo51_2)<|Dd (l1' Tryz.isAgg9)<|Dd (bu' bo154)<|Uu (sa' Tryz.sizeOf154)<|Zz<|awp_ret ?_
 refine aret1 (H':=(cH m)) (.inr rfl) rfl (rl' Tryz.isAgg154 Tryz.sizeOf154) (Fin.cl (m:=m) (encRes ⟨[⟨o.id,o.kind,o.x,o.y,[o.refs,x.refs.drop 1].flatten,o.tags⟩],e.other,0⟩) rfl rfl) ?_
 exact⟨rfl,rfl⟩
end
section
section
variable {N:Nat} {o:Oper} {E:Env} {H:Heap} {x y:Operand}
theorem lk_some {m:List GObj} {s:ByteArray} {k:Int} (ho:o.op=.lookup 80 x y true) (hx:aeval E x=some (.mp 12 0)) (hH:H.get 12=some (kob m)) (hy:aeval E y=some (sv s)) (hk:kindOf m s=some k):OpD Tryz.prog N o E H (.tup [iv k,bv true]) H:=by
 have h:=opd_lookup_ok (N:=N) (κ:=strK) ho Tryz.underlying80 Tryz.underlying9 hx hH rfl rfl hy Tryz.zeroValue3 (.inl rfl)
 rw [kM_kind,hk] at h
 exact h
theorem lk_none {m:List GObj} {s:ByteArray} (ho:o.op=.lookup 80 x y true) (hx:aeval E x=some (.mp 12 0)) (hH:H.get 12=some (kob m)) (hy:aeval E y=some (sv s)) (hk:kindOf m s=none):OpD Tryz.prog N o E H (.tup [iv 0,bv false]) H:=by
 have h:=opd_lookup_ok (N:=N) (κ:=strK) ho Tryz.underlying80 Tryz.underlying9 hx hH rfl rfl hy Tryz.zeroValue3 (.inl rfl)
 rw [kM_kind,hk] at h
 exact h
theorem lk_c {m:List GObj} {s:ByteArray} (ho:o.op=.lookup 80 x y true) (hx:aeval E x=some (.mp 12 0)) (hH:H.get 12=some (kob m)) (hy:aeval E y=some (sv s)):OpD Tryz.prog N o E H (.tup [iv ((kindOf m s).getD 0),bv (kindOf m s).isSome]) H:=by
 cases hk:kindOf m s with
 | none=>exact lk_none ho hx hH hy hk
 | some k=>exact lk_some ho hx hH hy hk
end
def fitsB (op kind:Int):Bool:=if op=2 then decide (kind=1)else if op=4 then(decide (kind=2)||(decide (kind=3)||decide (kind=4)))else if op=6||op=7 then decide (kind=2)else true
def gPerform (m:List GObj) (e:GEdit):GRes :=
 if e.op=1 then(if(kindOf m e.obj.id).isSome then errR 9 else⟨[e.obj],sNil,refErr m e.obj.kind 0 e.obj.refs⟩)
 else match m.find? (idIs e.id)with
 | none=>errR 11
 | some o =>
  if decide (e.op=7)&&(m.find? (idIs e.other)).isNone then errR 11
  else if !fitsB e.op o.kind then errR 13
  else if e.op=2 then⟨[⟨o.id,o.kind,e.x,e.y,o.refs,o.tags⟩],sNil,0⟩
  else if e.op=3 then(if !decide ((gSet o.tags e.key e.val).2=0)then errR (gSet o.tags e.key e.val).2 else⟨[⟨o.id,o.kind,o.x,o.y,o.refs,(gSet o.tags e.key e.val).1⟩],sNil,0⟩)
  else if e.op=4 then(if !gObj ⟨o.id,o.kind,o.x,o.y,e.refs,o.tags⟩then errR 1 else⟨[⟨o.id,o.kind,o.x,o.y,e.refs,o.tags⟩],sNil,refErr m o.kind 0 e.refs⟩)
  else if e.op=5 then(if gRefd m false [e.id] then errR 14 else⟨[],e.id,0⟩)
  else if e.op=6 then gSplit m e o
  else gJoin m e o ((m.find? (idIs e.other)).getD zObj)
theorem kindOf_some {m:List GObj} {s:ByteArray} {o:GObj} (h:m.find? (idIs s)=some o):kindOf m s=some o.kind:=by rw [kindOf,h];rfl
theorem kindOf_none {m:List GObj} {s:ByteArray} (h:m.find? (idIs s)=none):kindOf m s=none:=by rw [kindOf,h];rfl
theorem refsC_c (m:List GObj) (o:GObj) (H:Heap) (h14:H.get 14=some (cRow m)) (h12:H.get 12=some (kob m)) (hl:o.refs.length < 4611686018427387904):ACalls Tryz.prog 117 [.ref 14 0 0 0,av (encObj o)] H (fun r H'=>r=iv (refErr m o.kind 0 o.refs)∧H'=H) :=
 cl_c (refs_c m o (cH m) rfl rfl rfl (Closed.ofL ⟨(by(simp;rfl)),(by exact kob_clo _ _),trivial⟩) hl) h14 h12 (by simp;rfl)
theorem perf1_c (m:List GObj) (e:GEdit) (hm:okM m) (he:e.op=1) (hr:e.obj.refs.length < 4611686018427387904) :
  ACalls Tryz.prog 118 [.ref 14 0 0 0,av (encEdit e)] (cH m) (fun r H'=>r=av (encRes (gPerform m e))∧H'=cH m):=by
 rw [gPerform,if_pos he]
 refine Bd Tryz.func118 rfl Tryz.ntmps118<|Sq<|Rg<|Dd (by exact opd_box (id:=3) rfl rfl rfl rfl rfl)<|Dd (by exact x_alloc (id:=4) rfl zo154 rfl rfl)<|Zz<|Sq<|Sq<|Rg<|Dd (fr' fo51_0)<|Dd (l1' Tryz.isAgg3)<|Dd eql'<|Zz ?_
 refine Cn (fun hc1=>?_) fun hc1=>?_
 ·cases hf:kindOf m e.obj.id with
  | some k =>
   rw [if_pos (show (some k).isSome=true from rfl)]
   refine Sq<|Sq ?_
   refine awp_drawc follows ?_
   refine Cq mv'<|Cq nc'<|Cq (fr' fo114_1)<|Cq (l1' Tryz.isAgg80)<|Cq (fr' fo51_8)<|Cq (fr' fo49_0)<|Cq (l1' Tryz.isAgg9)<|Cq (by exact lk_some rfl rfl rfl rfl hf)<|Cq mv'<|Cq ex'<|Cq ex'<|Cq as'<|Cq as' ?_
   refine dc_nil ⟨by kernel_rfl,?_⟩
   refine Sq<|Rg<|Dd mv'<|Zz ?_
   refine Cn (fun hc2=>?_) fun hc2=>?_
   ·skip
    refine Sq<|Rg<|Dd (bu' bo154)<|Uu (sa' Tryz.sizeOf154)<|Zz<|awp_ret ?_
    refine aret1 (H':=(cH m)) (.inr rfl) rfl (rl' Tryz.isAgg154 Tryz.sizeOf154) (Fin.cl (m:=m) (encRes (errR 9)) rfl rfl) ?_
    exact⟨rfl,rfl⟩
   cases hc2
  | none =>
   rw [if_neg (show ¬ (none:Option Int).isSome=true by simp)]
   refine Sq<|Sq ?_
   refine awp_drawc follows ?_
   refine Cq mv'<|Cq nc'<|Cq (fr' fo114_1)<|Cq (l1' Tryz.isAgg80)<|Cq (fr' fo51_8)<|Cq (fr' fo49_0)<|Cq (l1' Tryz.isAgg9)<|Cq (by exact lk_none rfl rfl rfl rfl hf)<|Cq mv'<|Cq ex'<|Cq ex'<|Cq as'<|Cq as' ?_
   refine dc_nil ⟨by kernel_rfl,?_⟩
   refine Sq<|Rg<|Dd mv'<|Zz ?_
   refine Cn (fun hc3=>?_) fun hc3=>?_
   ·cases hc3
   skip
   refine awp_skip<|Sq ?_
   refine awp_drawc follows ?_
   refine Cr [3] (fun _ h=>fh fo51_8 h)<|Cr [3] (fun H1 hH=>by exact opd_loadn_ref rfl Tryz.isAgg49 Tryz.sizeOf49 rfl ((hH _ rfl).trans rfl) rfl rfl (by simp only [Zl,encTag,encObj,encStr,encEdit,encInt];rfl) rfl)<|Cr [] (fun H1 hH=>by exact x_buildSlice ([e.obj].map encObj) rfl so36 rfl rfl rfl rfl rfl (by simp [encObj]))<|Cr [14] (fun _ _=>mv')<|Cr [3] (fun _ h=>fh fo51_8 h)<|Cr [3] (fun H1 hH=>by exact opd_loadn_ref rfl Tryz.isAgg49 Tryz.sizeOf49 rfl ((hH _ rfl).trans rfl) rfl rfl (by simp only [Zl,encTag,encObj,encStr,encEdit,encInt];rfl) rfl)<|Cr [14,12] (fun H1 hH=>by exact opr_call rfl rfl Tryz.call117 rfl (refsC_c m e.obj _ ((hH 14 rfl).trans rfl) ((hH 12 rfl).trans rfl) hr))<|Cr [] (fun _ _=>(bu' bo154))<|Cp [4] (fun H1 hH=>by exact x_store_all rfl Tryz.sizeOf154 rfl rfl rfl rfl ((hH _ rfl).trans rfl) rfl rfl rfl) ?_
   refine dc_nil ⟨by kernel_rfl,?_⟩
   refine awp_ret ?_
   refine aret1 (H':=(cH m)) (.inr rfl) rfl (rl' Tryz.isAgg154 Tryz.sizeOf154) (Fin.cl (m:=m) (encRes ⟨[e.obj],sNil,refErr m e.obj.kind 0 e.obj.refs⟩) rfl rfl) ?_
   exact⟨rfl,rfl⟩
 have:=of_decide_eq_false hc1
 exact absurd he this
theorem perf2_c (m:List GObj) (id other node:ByteArray) (x y:Int) (key val:ByteArray) (refs:List ByteArray) (obj:GObj) (hm:okM m) (ho9:∀ o,o∈m→o.refs.length < 549755813888∧o.tags.length < 1099511627776) :
  ACalls Tryz.prog 118 [.ref 14 0 0 0,av (encEdit ⟨2,id,other,node,x,y,key,val,refs,obj⟩)] (cH m) (fun r H'=>r=av (encRes (gPerform m ⟨2,id,other,node,x,y,key,val,refs,obj⟩))∧H'=cH m):=by
 rw [gPerform,if_neg (show ¬ ((2:Int)=1)by decide)]
 simp only
 refine Bd Tryz.func118 rfl Tryz.ntmps118<|Sq<|Rg<|Dd (by exact opd_box (id:=3) rfl rfl rfl rfl rfl)<|Dd (by exact x_alloc (id:=4) rfl zo154 rfl rfl)<|Zz<|Sq<|Sq<|Rg<|Dd (fr' fo51_0)<|Dd (l1' Tryz.isAgg3)<|Dd eql'<|Zz ?_
 refine Cn (fun hc1=>?_) fun hc1=>?_
 ·cases hc1
 skip
 cases hf:m.find? (idIs id)with
 | none =>
  refine awp_skip<|Sq ?_
  refine awp_drawc follows ?_
  refine Cq mv'<|Cq nc'<|Cq (fr' fo114_1)<|Cq (l1' Tryz.isAgg80)<|Cq (fr' fo51_1)<|Cq (l1' Tryz.isAgg9)<|Cq (by exact lk_none rfl rfl rfl rfl (kindOf_none hf))<|Cq mv'<|Cq ex'<|Cq ex'<|Cq as'<|Cq as' ?_
  refine dc_nil ⟨by kernel_rfl,?_⟩
  refine Sq<|Sq ?_
  refine awp_drawc follows ?_
  refine Cq mv'<|Cq nc'<|Cq (fr' fo114_1)<|Cq (l1' Tryz.isAgg80)<|Cq (fr' fo51_2)<|Cq (l1' Tryz.isAgg9)<|Cq (by exact lk_c rfl rfl rfl rfl)<|Cq mv'<|Cq ex'<|Cq ex'<|Cq as'<|Cq as' ?_
  refine dc_nil ⟨by kernel_rfl,?_⟩
  refine Sq<|Rg<|Dd mv'<|Dd no'<|Dd mv' ?_
  refine al_off rfl rfl rfl (by rfl) rfl ?_
  refine al_off rfl rfl rfl (by rfl) rfl ?_
  refine al_off rfl rfl rfl (by rfl) rfl ?_
  refine al_off rfl rfl rfl (by rfl) rfl ?_
  refine al_offu rfl rfl rfl rfl ?_
  refine al_offu rfl rfl rfl rfl ?_
  refine al_off rfl rfl rfl (by rfl) rfl ?_
  refine Dd pk'<|Zz ?_
  refine Cn (fun hc2=>?_) fun hc2=>?_
  ·skip
   refine Sq<|Rg<|Dd (bu' bo154)<|Uu (sa' Tryz.sizeOf154)<|Zz<|awp_ret ?_
   refine aret1 (H':=(cH m)) (.inr rfl) rfl (rl' Tryz.isAgg154 Tryz.sizeOf154) (Fin.cl (m:=m) (encRes (errR 11)) rfl rfl) ?_
   exact⟨rfl,rfl⟩
  cases hc2
 | some o =>
  simp only [show decide ((2:Int)=7)=false from rfl,Bool.false_and,Bool.false_eq_true,if_false,if_true]
  have hom:=List.mem_of_find?_eq_some hf
  obtain ⟨ho1,ho2⟩:=ho9 o hom
  have hoo:=hm.2 o hom
  refine awp_skip<|Sq ?_
  refine awp_drawc follows ?_
  refine Cq mv'<|Cq nc'<|Cq (fr' fo114_1)<|Cq (l1' Tryz.isAgg80)<|Cq (fr' fo51_1)<|Cq (l1' Tryz.isAgg9)<|Cq (by exact lk_some rfl rfl rfl rfl (kindOf_some hf))<|Cq mv'<|Cq ex'<|Cq ex'<|Cq as'<|Cq as' ?_
  refine dc_nil ⟨by kernel_rfl,?_⟩
  refine Sq<|Sq ?_
  refine awp_drawc follows ?_
  refine Cq mv'<|Cq nc'<|Cq (fr' fo114_1)<|Cq (l1' Tryz.isAgg80)<|Cq (fr' fo51_2)<|Cq (l1' Tryz.isAgg9)<|Cq (by exact lk_c rfl rfl rfl rfl)<|Cq mv'<|Cq ex'<|Cq ex'<|Cq as'<|Cq as' ?_
  refine dc_nil ⟨by kernel_rfl,?_⟩
  refine Sq<|Rg<|Dd mv'<|Dd no'<|Dd mv' ?_
  refine al_ond rfl rfl rfl (by rfl) rfl rfl (by exact opd_field_ref rfl fo51_0 rfl rfl rfl rfl) ?_
  refine al_ond rfl rfl rfl (by rfl) rfl rfl (by exact opd_load1_ref rfl Tryz.isAgg3 rfl rfl rfl rfl rfl) ?_
  refine al_ond rfl rfl rfl (by rfl) rfl rfl (by exact opd_eql rfl rfl rfl) ?_
  refine al_ond rfl rfl rfl (by rfl) rfl rfl (by exact opd_move rfl rfl) ?_
  refine al_off rfl rfl rfl (by rfl) rfl ?_
  refine al_off rfl rfl rfl (by rfl) rfl ?_
  refine al_ond rfl rfl rfl (by rfl) rfl rfl (by exact opd_pick_f rfl rfl rfl) ?_
  refine Dd pk'<|Zz ?_
  refine Cn (fun hc3=>?_) fun hc3=>?_
  ·cases hc3
  skip
  refine awp_skip<|Sq<|Rg<|Dd mv'<|Dd (fr' fo51_1)<|Dd (l1' Tryz.isAgg9)<|Dd (by exact opr_call rfl rfl Tryz.call160 rfl (get_c m id o _ rfl rfl hm hf))<|Dd (by exact x_alloc (id:=11) rfl zo49 rfl rfl)<|Uu (sa' Tryz.sizeOf49)<|Zz<|Sq<|Rg<|Dd (by exact opd_makeMap (id:=77) (intK .i64) rfl rfl)<|Dd (by exact x_buildSlice ([(1:Int)].map encInt) rfl so42 rfl rfl rfl rfl rfl (by simp [encInt]))<|Uu (by exact x_mapUpdate (κ:=(intK .i64)) (.inr rfl) Tryz.underlying193 Tryz.underlying3 rfl rfl rfl rfl rfl rfl rfl rfl)<|Dd (by exact x_buildSlice ([(2:Int),3,4].map encInt) rfl so42 rfl rfl rfl rfl rfl (by simp [encInt]))<|Uu (by exact x_mapUpdate (κ:=(intK .i64)) (.inr rfl) Tryz.underlying193 Tryz.underlying3 rfl rfl rfl rfl rfl rfl rfl rfl)<|Dd (by exact x_buildSlice ([(2:Int)].map encInt) rfl so42 rfl rfl rfl rfl rfl (by simp [encInt]))<|Uu (by exact x_mapUpdate (κ:=(intK .i64)) (.inr rfl) Tryz.underlying193 Tryz.underlying3 rfl rfl rfl rfl rfl rfl rfl rfl) ?_
  refine Dd (by exact x_buildSlice ([(2:Int)].map encInt) rfl so42 rfl rfl rfl rfl rfl (by simp [encInt]))<|Uu (by exact x_mapUpdate (κ:=(intK .i64)) (.inr rfl) Tryz.underlying193 Tryz.underlying3 rfl rfl rfl rfl rfl rfl rfl rfl)<|Dd mv'<|Dd as'<|Zz<|Sq<|Sq<|Rg<|Dd mv'<|Dd (fr' fo51_0)<|Dd (l1' Tryz.isAgg3)<|Dd (by exact opd_lookup_ok (κ:=(intK .i64)) rfl Tryz.underlying193 Tryz.underlying3 rfl rfl rfl rfl rfl Tryz.zeroValue42 (.inl rfl))<|Dd mv'<|Dd ex'<|Dd ex'<|Dd as'<|Dd as'<|Zz<|Sq<|Rg<|Dd mv'<|Dd mv' ?_
  refine al_ond rfl rfl rfl (by rfl) rfl rfl (by exact opd_move rfl rfl) ?_
  refine al_ond rfl rfl rfl (by rfl) rfl rfl (by exact opd_field_ref rfl fo49_1 rfl rfl rfl rfl) ?_
  refine al_ond rfl rfl rfl (by rfl) rfl rfl (by exact opd_load1_ref rfl Tryz.isAgg3 rfl rfl rfl rfl rfl) ?_
  refine al_ond rfl rfl rfl (by rfl) rfl rfl (by exact opr_call rfl rfl Tryz.call161 rfl (containsI_c [(1:Int)] o.kind _ (by decide))) ?_
  refine al_ond rfl rfl rfl (by rfl) rfl rfl (by exact opd_not rfl rfl) ?_
  refine Dd pk'<|Zz ?_
  refine Cn (fun hc4=>?_) fun hc4=>?_
  ·have hb:(!fitsB 2 o.kind)=true:=by
    have h:=hc4
    rw [← h]
    simp [fitsB]
   rw [hb,if_pos rfl]
   refine Sq<|Rg<|Dd (bu' bo154)<|Uu (sa' Tryz.sizeOf154)<|Zz<|awp_ret ?_
   refine aret1 (H':=(cH m)) (.inr rfl) rfl (rl' Tryz.isAgg154 Tryz.sizeOf154) (Fin.cl (m:=m) (encRes (errR 13)) rfl rfl) ?_
   exact⟨rfl,rfl⟩
  have hb:(!fitsB 2 o.kind)=false:=by
   have h:=hc4
   rw [← h]
   simp [fitsB]
  rw [hb,if_neg (by simp)]
  refine awp_skip<|Sq<|Sq<|Rg<|Dd (fr' fo51_0)<|Dd (l1' Tryz.isAgg3)<|Zz<|awp_block<|Sq<|Rg<|Dd eql'<|Dd as'<|Zz ?_
  refine Cn (fun hc5=>?_) fun hc5=>?_
  ·skip
   refine Rg<|Dd (fr' fo51_4)<|Dd (by exact opd_loadn_ref rfl Tryz.isAgg45 Tryz.sizeOf45 rfl rfl rfl rfl (by simp only [Zl,encTag,encObj,encStr,encEdit,encInt];rfl) rfl)<|Dd (fr' fo49_2)<|Uu (by exact x_store rfl Tryz.sizeOf45 rfl rfl rfl rfl rfl rfl rfl (Nat.le_of_ble_eq_true rfl) rfl rfl)<|Zz<|Sq<|Rg<|Dd (ln' Tryz.isAgg49 Tryz.sizeOf49)<|Dd (by exact x_buildSlice ([(⟨o.id,o.kind,x,y,o.refs,o.tags⟩:GObj)].map encObj) rfl so36 rfl rfl rfl rfl rfl (by simp [encObj]))<|Dd (bu' bo154)<|Uu (sa' Tryz.sizeOf154)<|Zz<|awp_ret ?_
   refine aret1 (H':=(cH m)) (.inr rfl) rfl (rl' Tryz.isAgg154 Tryz.sizeOf154) (Fin.cl (m:=m) (encRes ⟨[⟨o.id,o.kind,x,y,o.refs,o.tags⟩],sNil,0⟩) rfl rfl) ?_
   exact⟨rfl,rfl⟩
  cases hc5
end
end Go.Proofs.YtlnfjkdacimblaaGreatDoor
